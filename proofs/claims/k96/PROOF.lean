import PyProof.Rows.All
import Wide.All
import OpenK.AllK
import Wide.FinOn
import HandS.ForMost
import HandS.SetFor
import HandS.Strs
import HandS.WordsExc
import HandS.TryOnly
import HandS.TryMany
import HandS.Defaults
import HandS.ExcInit
import HandS.HeadHook2
import PySem.Challenge.RW_heapgame_k96_whole_slides_are_compaction
import KE.KExcSuper
import HandS.ExcField
import HandS.Nested
import HandS.FStr
import HandS.IsInst
import HandS.More
import HandS.SortInts
import HandS.Conv
import HandS.Zip
import HandS.Sort
import HandS.SortRule
import HandS.SuiteRaise
import HandS.Deep
import KE.KStateDown
import Lean
import HandS.Head0
import HandS.Head1
import HandS.Head2
import HandS.HeadEnd
import HandS.HeadHook1
/-! The plain laws: blocks, layouts, packing, sliding; no program in sight. -/
set_option linter.all false
namespace K96

structure Blk (α : Type) where
  num : Int
  start : Int
  fs : List α

namespace Blk
variable {α : Type}
def len (b : Blk α) : Int := (b.fs.length : Int)
def key (b : Blk α) : Int × List α := (b.num, b.fs)
def se (b : Blk α) : Int × Int := (b.start, b.len)
theorem len_nonneg (b : Blk α) : 0 ≤ b.len := Int.natCast_nonneg _
end Blk

section
variable {α : Type}

/-- blocks that lie one behind the other, from e on, within size -/
def Chain (size : Int) : Int → List (Blk α) → Prop
  | e, [] => e ≤ size
  | e, b :: r => e ≤ b.start ∧ 0 < b.len ∧ Chain size (b.start + b.len) r

def setS (k e : Int) (l : List (Blk α)) : List (Blk α) := l.map fun b => if b.num = k then { b with start := e } else b
def setF (k : Int) (i : Nat) (v : α) (l : List (Blk α)) : List (Blk α) := l.map fun b => if b.num = k then { b with fs := b.fs.set i v } else b

/-- all blocks behind one another from e on -/
def pack : Int → List (Blk α) → List (Blk α)
  | _, [] => []
  | e, b :: r => { b with start := e } :: pack (e + b.len) r

/-- how many blocks are not at their packed place -/
def loose : Int → List (Blk α) → Nat
  | _, [] => 0
  | e, b :: r => (if b.start = e then 0 else 1) + loose (e + b.len) r

/-- the first pair (start, length) before which a cell is free: its start, and the end before it -/
def gap : Int → List (Int × Int) → Option (Int × Int)
  | _, [] => none
  | e, x :: r => if x.1 > e then some (x.1, e) else gap (x.1 + x.2) r

def lay (l : List (Blk α)) : List (Int × Int) := l.map Blk.se

/-! ### keys -/
theorem keys_nums {l m : List (Blk α)} (h : l.map Blk.key = m.map Blk.key) : l.map (·.num) = m.map (·.num) := by
  have e : ∀ l : List (Blk α), l.map (·.num) = (l.map Blk.key).map (·.1) := fun l => by
    rw [List.map_map]; rfl
  rw [e l, e m, h]
theorem setS_keys (k e : Int) (l : List (Blk α)) : (setS k e l).map Blk.key = l.map Blk.key := by
  unfold setS
  rw [List.map_map]
  apply List.map_congr_left
  intro b _
  show Blk.key (if b.num = k then _ else _) = _
  split <;> rfl
theorem setS_nums (k e : Int) (l : List (Blk α)) : (setS k e l).map (·.num) = l.map (·.num) := keys_nums (setS_keys k e l)
theorem setF_nums (k : Int) (i : Nat) (v : α) (l : List (Blk α)) : (setF k i v l).map (·.num) = l.map (·.num) := by
  unfold setF
  rw [List.map_map]
  apply List.map_congr_left
  intro b _
  show Blk.num (if b.num = k then _ else _) = _
  split <;> rfl
theorem setF_len (k : Int) (i : Nat) (v : α) (b : Blk α) : Blk.len (if b.num = k then { b with fs := b.fs.set i v } else b) = b.len := by
  split
  · show ((b.fs.set i v).length : Int) = _
    rw [List.length_set]; rfl
  · rfl
theorem setF_se (k : Int) (i : Nat) (v : α) (l : List (Blk α)) : (setF k i v l).map Blk.se = l.map Blk.se := by
  unfold setF
  rw [List.map_map]
  apply List.map_congr_left
  intro b _
  show Blk.se (if b.num = k then _ else _) = _
  have e := setF_len k i v b
  unfold Blk.se
  rw [e]
  split <;> rfl
theorem setF_keys {k : Int} {i : Nat} {v : α} {l m : List (Blk α)} (h : l.map Blk.key = m.map Blk.key) : (setF k i v l).map Blk.key = (setF k i v m).map Blk.key := by
  have e : ∀ l : List (Blk α), (setF k i v l).map Blk.key = (l.map Blk.key).map fun q => if q.1 = k then (q.1, q.2.set i v) else q := fun l => by
    unfold setF
    rw [List.map_map, List.map_map]
    apply List.map_congr_left
    intro b _
    show Blk.key (if b.num = k then _ else _) = if b.num = k then _ else _
    split <;> rfl
  rw [e l, e m, h]
theorem pack_keys : ∀ (e : Int) (l : List (Blk α)), (pack e l).map Blk.key = l.map Blk.key
  | _, [] => rfl
  | e, b :: r => by
    show _ :: _ = _ :: _
    rw [pack_keys (e + b.len) r]; rfl
theorem pack_of_keys : ∀ (e : Int) {l m : List (Blk α)}, l.map Blk.key = m.map Blk.key → pack e l = pack e m
  | _, [], [], _ => rfl
  | _, [], _ :: _, h => by cases h
  | _, _ :: _, [], h => by cases h
  | e, b :: r, c :: s, h => by
    have h1 : b.key = c.key := (List.cons.inj h).1
    have h2 := (List.cons.inj h).2
    have e1 : b.num = c.num := congrArg Prod.fst h1
    have e2 : b.fs = c.fs := congrArg Prod.snd h1
    show ({ b with start := e } : Blk α) :: pack (e + b.len) r = { c with start := e } :: pack (e + c.len) s
    have e3 : b.len = c.len := by unfold Blk.len; rw [e2]
    rw [e3, pack_of_keys (e + c.len) h2]
    congr 1
    cases b; cases c
    subst e1; subst e2
    rfl
/-- the same numbers in the same order, the same blocks -/
theorem eq_of_perm_nums {l m : List (Blk α)} (hp : l.Perm m) (hn : l.map (·.num) = m.map (·.num)) (nd : (m.map (·.num)).Nodup) : l = m := by
  have hlen : l.length = m.length := hp.length_eq
  refine List.ext_getElem hlen fun i h1 h2 => ?_
  have ml : l[i] ∈ m := hp.mem_iff.mp (List.getElem_mem h1)
  obtain ⟨j, hj, ej⟩ := List.getElem_of_mem ml
  have e1 : (l.map (·.num))[i]'(by simpa using h1) = (m.map (·.num))[i]'(by simpa using h2) := by
    simp only [hn]
  have e2 : l[i].num = m[i].num := by simpa using e1
  have e3 : m[j].num = m[i].num := by rw [ej]; exact e2
  have e4 : (m.map (·.num))[j]'(by simpa using hj) = (m.map (·.num))[i]'(by simpa using h2) := by simpa using e3
  have ij : j = i := (List.getElem_inj nd).mp e4
  subst ij
  exact ej.symm
theorem num_inj {l : List (Blk α)} (nd : (l.map (·.num)).Nodup) {b c : Blk α} (hb : b ∈ l) (hc : c ∈ l) (e : b.num = c.num) : b = c := by
  obtain ⟨i, hi, ei⟩ := List.getElem_of_mem hb
  obtain ⟨j, hj, ej⟩ := List.getElem_of_mem hc
  have e4 : (l.map (·.num))[i]'(by simpa using hi) = (l.map (·.num))[j]'(by simpa using hj) := by simpa [ei, ej] using e
  have ij : i = j := (List.getElem_inj nd).mp e4
  subst ij
  exact ei.symm.trans ej

/-! ### chains -/
theorem Chain.le {size : Int} : ∀ {e : Int} {l : List (Blk α)}, Chain size e l → e ≤ size
  | _, [], h => h
  | e, b :: r, ⟨h1, h2, h3⟩ => by
    have := Chain.le h3
    have h1' : e ≤ b.start := h1
    omega
theorem Chain.mem {size : Int} : ∀ {e : Int} {l : List (Blk α)}, Chain size e l → ∀ {b}, b ∈ l → e ≤ b.start ∧ 0 < b.len ∧ b.start + b.len ≤ size
  | e, c :: r, ⟨h1, h2, h3⟩, b, hb => by
    rcases List.mem_cons.mp hb with rfl | hb
    · exact ⟨h1, h2, h3.le⟩
    · have := Chain.mem h3 hb
      refine ⟨?_, this.2⟩
      have h1' : e ≤ c.start := h1
      omega
/-- two different blocks of a chain lie apart -/
def Apart (b c : Blk α) : Prop := b.start + b.len ≤ c.start ∨ c.start + c.len ≤ b.start
theorem Chain.pw {size : Int} : ∀ {e : Int} {l : List (Blk α)}, Chain size e l → l.Pairwise fun b c => b.start + b.len ≤ c.start
  | _, [], _ => List.Pairwise.nil
  | e, b :: r, ⟨h1, h2, h3⟩ => List.Pairwise.cons (fun c hc => (h3.mem hc).1) (Chain.pw h3)
theorem Chain.apart {size e : Int} {l : List (Blk α)} (h : Chain size e l) {b c : Blk α} (hb : b ∈ l) (hc : c ∈ l) (hne : b.num ≠ c.num) : Apart b c := by
  obtain ⟨i, hi, ei⟩ := List.getElem_of_mem hb
  obtain ⟨j, hj, ej⟩ := List.getElem_of_mem hc
  have pw := List.pairwise_iff_getElem.mp h.pw
  rcases Nat.lt_trichotomy i j with x | x | x
  · have := pw i j hi hj x
    rw [ei, ej] at this
    exact .inl this
  · subst x
    exact absurd (by rw [← ei, ← ej]) hne
  · have := pw j i hj hi x
    rw [ei, ej] at this
    exact .inr this
theorem Chain.starts {size e : Int} {l : List (Blk α)} (h : Chain size e l) {b c : Blk α} (hb : b ∈ l) (hc : c ∈ l) (he : b.start = c.start) : b = c := by
  obtain ⟨i, hi, ei⟩ := List.getElem_of_mem hb
  obtain ⟨j, hj, ej⟩ := List.getElem_of_mem hc
  have pw := List.pairwise_iff_getElem.mp h.pw
  have l1 := (h.mem hb).2.1
  have l2 := (h.mem hc).2.1
  rcases Nat.lt_trichotomy i j with x | x | x
  · have := pw i j hi hj x
    rw [ei, ej] at this
    omega
  · subst x
    exact ei.symm.trans ej
  · have := pw j i hj hi x
    rw [ei, ej] at this
    omega
theorem Chain.of_se {size : Int} : ∀ {e : Int} {l m : List (Blk α)}, Chain size e l → m.map Blk.se = l.map Blk.se → Chain size e m
  | _, [], [], h, _ => h
  | _, [], _ :: _, _, q => by cases q
  | _, _ :: _, [], _, q => by cases q
  | e, b :: r, c :: s, ⟨h1, h2, h3⟩, q => by
    have q1 : c.se = b.se := (List.cons.inj q).1
    have e1 : c.start = b.start := congrArg Prod.fst q1
    have e2 : c.len = b.len := congrArg Prod.snd q1
    refine ⟨by rw [e1]; exact h1, by rw [e2]; exact h2, ?_⟩
    rw [e1, e2]
    exact Chain.of_se h3 (List.cons.inj q).2
/-- the sum of the lengths -/
def total : List (Blk α) → Int
  | [] => 0
  | b :: r => b.len + total r
theorem Chain.total {size : Int} : ∀ {e : Int} {l : List (Blk α)}, Chain size e l → e + total l ≤ size
  | e, [], h => by
    show e + 0 ≤ size
    have h' : e ≤ size := h
    omega
  | e, b :: r, ⟨h1, h2, h3⟩ => by
    have := Chain.total h3
    show e + (b.len + K96.total r) ≤ size
    have h1' : e ≤ b.start := h1
    omega
theorem Chain.count {size : Int} : ∀ {e : Int} {l : List (Blk α)}, Chain size e l → e + (l.length : Int) ≤ size
  | e, [], h => by
    have h' : e ≤ size := h
    simpa using h'
  | e, b :: r, ⟨h1, h2, h3⟩ => by
    have := Chain.count h3
    have h1' : e ≤ b.start := h1
    have h2' : 0 < b.len := h2
    simp only [List.length_cons]
    omega
theorem Chain.sorted {size e : Int} {l : List (Blk α)} (h : Chain size e l) : (lay l).Pairwise fun x y => x.1 < y.1 := by
  unfold lay
  refine List.pairwise_map.mpr ?_
  refine List.Pairwise.imp_of_mem (fun {b c} hb hc q => ?_) h.pw
  have := (h.mem hb).2.1
  show b.start < c.start
  omega
theorem pack_chain {size : Int} : ∀ {e : Int} {l : List (Blk α)}, Chain size e l → ∀ {d : Int}, d ≤ e → Chain size d (pack d l)
  | _, [], h, d, hd => by
    show d ≤ size
    have h' : _ ≤ size := h
    omega
  | e, b :: r, ⟨h1, h2, h3⟩, d, hd => by
    have h1' : e ≤ b.start := h1
    refine ⟨Int.le_refl _, h2, ?_⟩
    show Chain size (d + b.len) (pack (d + b.len) r)
    exact pack_chain h3 (by omega)
/-- nothing to slide: packed -/
theorem pack_of_tight {size : Int} : ∀ {e : Int} {l : List (Blk α)}, Chain size e l → gap e (lay l) = none → pack e l = l
  | _, [], _, _ => rfl
  | e, b :: r, ⟨h1, h2, h3⟩, hg => by
    have hg' : (if b.start > e then some (b.start, e) else gap (b.start + b.len) (lay r)) = none := hg
    have h1' : e ≤ b.start := h1
    by_cases c : b.start > e
    · rw [if_pos c] at hg'; cases hg'
    · rw [if_neg c] at hg'
      have eb : b.start = e := by omega
      have ih := pack_of_tight h3 hg'
      show ({ b with start := e } : Blk α) :: pack (e + b.len) r = b :: r
      rw [← eb, ih]
theorem loose_le : ∀ (e : Int) (l : List (Blk α)), loose e l ≤ l.length
  | _, [] => Nat.le_refl _
  | e, b :: r => by
    have := loose_le (e + b.len) r
    show (if b.start = e then 0 else 1) + loose (e + b.len) r ≤ r.length + 1
    split <;> omega
theorem setS_cons_ne {k e : Int} {b : Blk α} {r : List (Blk α)} (h : b.num ≠ k) : setS k e (b :: r) = b :: setS k e r := by
  unfold setS
  rw [List.map_cons, if_neg h]
theorem setS_none {k e : Int} {l : List (Blk α)} (h : ∀ b ∈ l, b.num ≠ k) : setS k e l = l := by
  unfold setS
  conv => rhs; rw [← List.map_id l]
  apply List.map_congr_left
  intro b hb
  rw [if_neg (h b hb)]; rfl
/-- what a slide does: the block found goes to the end before it -/
theorem slide_step {size : Int} : ∀ {e : Int} {l : List (Blk α)} {s t : Int}, Chain size e l → (l.map (·.num)).Nodup → gap e (lay l) = some (s, t) →
    ∃ b ∈ l, b.start = s ∧ e ≤ t ∧ t < s ∧ Chain size e (setS b.num t l) ∧ loose e (setS b.num t l) + 1 = loose e l ∧ ∀ c ∈ l, c.num ≠ b.num → c.start + c.len ≤ t ∨ b.start + b.len ≤ c.start
  | e, [], s, t, _, _, hg => by cases hg
  | e, b :: r, s, t, ⟨h1, h2, h3⟩, nd, hg => by
    have h1' : e ≤ b.start := h1
    have nd' : ¬ b.num ∈ r.map (·.num) ∧ (r.map (·.num)).Nodup := List.nodup_cons.mp nd
    have hg' : (if b.start > e then some (b.start, e) else gap (b.start + b.len) (lay r)) = some (s, t) := hg
    have hr : ∀ c ∈ r, c.num ≠ b.num := fun c hc q => nd'.1 (by rw [← q]; exact List.mem_map_of_mem hc)
    by_cases c : b.start > e
    · rw [if_pos c] at hg'
      have q := Option.some.inj hg'
      have es : b.start = s := congrArg Prod.fst q
      have et : e = t := congrArg Prod.snd q
      subst et
      have e1 : setS b.num e (b :: r) = { b with start := e } :: r := by
        have := setS_none (k := b.num) (e := e) hr
        unfold setS at this ⊢
        rw [List.map_cons, if_pos rfl, this]
      refine ⟨b, List.mem_cons_self .., es, Int.le_refl _, by omega, ?_, ?_, ?_⟩
      · rw [e1]
        refine ⟨Int.le_refl _, h2, ?_⟩
        show Chain size (e + b.len) r
        cases r with
        | nil =>
          have := Chain.le h3
          show e + b.len ≤ size
          omega
        | cons d r' =>
          obtain ⟨g1, g2, g3⟩ := h3
          have g1' : b.start + b.len ≤ d.start := g1
          exact ⟨by omega, g2, g3⟩
      · rw [e1]
        show (if e = e then 0 else 1) + loose (e + b.len) r + 1 = (if b.start = e then 0 else 1) + loose (e + b.len) r
        rw [if_pos rfl, if_neg (by omega : ¬ b.start = e)]
        omega
      · intro c hc hne
        rcases List.mem_cons.mp hc with rfl | hc
        · exact absurd rfl hne
        · exact .inr (h3.mem hc).1
    · rw [if_neg c] at hg'
      have eb : b.start = e := by omega
      obtain ⟨x, hx, xs, xe, xt, xc, xl, xa⟩ := slide_step h3 nd'.2 hg'
      have hxb : b.num ≠ x.num := fun q => hr x hx q.symm
      have e1 : setS x.num t (b :: r) = b :: setS x.num t r := setS_cons_ne hxb
      refine ⟨x, List.mem_cons_of_mem _ hx, xs, by omega, xt, ?_, ?_, ?_⟩
      · rw [e1]
        exact ⟨h1, h2, xc⟩
      · rw [e1]
        rw [eb] at xl
        show (if b.start = e then 0 else 1) + loose (e + b.len) (setS x.num t r) + 1 = (if b.start = e then 0 else 1) + loose (e + b.len) r
        omega
      · intro c hc hne
        rcases List.mem_cons.mp hc with rfl | hc
        · left
          omega
        · exact xa c hc hne

/-! ### a state's blocks in some order, and the same in the order of their starts -/
structure Ord (size : Int) (pk : List (Blk α)) (l : List (Blk α)) (bs : List (Blk α)) : Prop where
  perm : bs.Perm l
  chain : Chain size 0 bs
  pk : pack 0 bs = pk
theorem setS_perm {k e : Int} {l m : List (Blk α)} (h : l.Perm m) : (setS k e l).Perm (setS k e m) := h.map _
theorem setF_perm {k : Int} {i : Nat} {v : α} {l m : List (Blk α)} (h : l.Perm m) : (setF k i v l).Perm (setF k i v m) := h.map _
theorem Ord.nums {size : Int} {pk l bs : List (Blk α)} (o : Ord size pk l bs) (nd : (l.map (·.num)).Nodup) : (bs.map (·.num)).Nodup := (o.perm.map _).nodup_iff.mpr nd
theorem pack_setF {k : Int} {i : Nat} {v : α} : ∀ (e : Int) (l : List (Blk α)), pack e (setF k i v l) = setF k i v (pack e l)
  | _, [] => rfl
  | e, b :: r => by
    have e1 := setF_len k i v b
    have ih := pack_setF (k := k) (i := i) (v := v) (e + b.len) r
    have e2 : setF k i v (b :: r) = (if b.num = k then { b with fs := b.fs.set i v } else b) :: setF k i v r := rfl
    have e3 : pack e (b :: r) = { b with start := e } :: pack (e + b.len) r := rfl
    have e4 : setF k i v ({ b with start := e } :: pack (e + b.len) r) = (if b.num = k then { b with start := e, fs := b.fs.set i v } else { b with start := e }) :: setF k i v (pack (e + b.len) r) := rfl
    rw [e2, e3, e4]
    show ({ (if b.num = k then { b with fs := b.fs.set i v } else b) with start := e } : Blk α) :: pack (e + _) _ = _
    rw [e1, ih]
    congr 1
    split <;> rfl
theorem Ord.write {size : Int} {pk l bs : List (Blk α)} (o : Ord size pk l bs) (k : Int) (i : Nat) (v : α) : Ord size (setF k i v pk) (setF k i v l) (setF k i v bs) :=
  ⟨setF_perm o.perm, o.chain.of_se (setF_se k i v bs), by rw [pack_setF, o.pk]⟩
theorem Ord.slide {size : Int} {pk l bs : List (Blk α)} (o : Ord size pk l bs) (nd : (l.map (·.num)).Nodup) {s t : Int} (hg : gap 0 (lay bs) = some (s, t)) :
    ∃ b ∈ l, b.start = s ∧ 0 ≤ t ∧ t < s ∧ Ord size pk (setS b.num t l) (setS b.num t bs) ∧ loose 0 (setS b.num t bs) + 1 = loose 0 bs ∧ ∀ c ∈ l, c.num ≠ b.num → c.start + c.len ≤ t ∨ b.start + b.len ≤ c.start := by
  obtain ⟨b, hb, h1, h2, h3, h4, h5, h6⟩ := slide_step o.chain (o.nums nd) hg
  exact ⟨b, o.perm.mem_iff.mp hb, h1, h2, h3, ⟨setS_perm o.perm, h4, (pack_of_keys 0 (setS_keys _ _ _)).trans o.pk⟩, h5, fun c hc => h6 c (o.perm.mem_iff.mpr hc)⟩
theorem Ord.tight {size : Int} {pk l bs : List (Blk α)} (o : Ord size pk l bs) (hg : gap 0 (lay bs) = none) : l.Perm pk := by
  have := pack_of_tight o.chain hg
  rw [← o.pk, this]
  exact o.perm.symm
theorem Ord.mem {size : Int} {pk l bs : List (Blk α)} (o : Ord size pk l bs) {b : Blk α} (hb : b ∈ l) : 0 ≤ b.start ∧ 0 < b.len ∧ b.start + b.len ≤ size := o.chain.mem (o.perm.mem_iff.mpr hb)
theorem Ord.apart {size : Int} {pk l bs : List (Blk α)} (o : Ord size pk l bs) {b c : Blk α} (hb : b ∈ l) (hc : c ∈ l) (hne : b.num ≠ c.num) : Apart b c :=
  o.chain.apart (o.perm.mem_iff.mpr hb) (o.perm.mem_iff.mpr hc) hne
theorem Ord.starts {size : Int} {pk l bs : List (Blk α)} (o : Ord size pk l bs) {b c : Blk α} (hb : b ∈ l) (hc : c ∈ l) (he : b.start = c.start) : b = c :=
  o.chain.starts (o.perm.mem_iff.mpr hb) (o.perm.mem_iff.mpr hc) he
theorem Ord.len {size : Int} {pk l bs : List (Blk α)} (o : Ord size pk l bs) : (l.length : Int) ≤ size := by
  have := o.chain.count
  rw [o.perm.length_eq] at this
  omega

/-! ### setting the starts of several blocks -/
def setAll (xs l : List (Blk α)) : List (Blk α) := xs.foldl (fun l b => setS b.num b.start l) l
theorem setAll_nums : ∀ (xs l : List (Blk α)), (setAll xs l).map (·.num) = l.map (·.num)
  | [], _ => rfl
  | b :: r, l => (setAll_nums r _).trans (setS_nums _ _ l)
theorem setAll_keys : ∀ (xs l : List (Blk α)), (setAll xs l).map Blk.key = l.map Blk.key
  | [], _ => rfl
  | b :: r, l => (setAll_keys r _).trans (setS_keys _ _ l)
theorem setAll_perm : ∀ (xs : List (Blk α)) {l m : List (Blk α)}, l.Perm m → (setAll xs l).Perm (setAll xs m)
  | [], _, _, h => h
  | b :: r, _, _, h => setAll_perm r (setS_perm h)
theorem setAll_cons {xs : List (Blk α)} {b : Blk α} {l : List (Blk α)} (h : ∀ x ∈ xs, x.num ≠ b.num) : setAll xs (b :: l) = b :: setAll xs l := by
  induction xs generalizing b l with
  | nil => rfl
  | cons x r ih =>
    show setAll r (setS x.num x.start (b :: l)) = b :: setAll r (setS x.num x.start l)
    rw [setS_cons_ne (fun q => h x (List.mem_cons_self ..) q.symm)]
    exact ih fun y hy => h y (List.mem_cons_of_mem _ hy)
theorem setAll_self : ∀ {xs l : List (Blk α)}, xs.map Blk.key = l.map Blk.key → (l.map (·.num)).Nodup → setAll xs l = xs
  | [], [], _, _ => rfl
  | [], _ :: _, h, _ => by cases h
  | _ :: _, [], h, _ => by cases h
  | x :: xs, b :: l, h, nd => by
    have h1 : x.key = b.key := (List.cons.inj h).1
    have h2 := (List.cons.inj h).2
    have e1 : x.num = b.num := congrArg Prod.fst h1
    have e2 : x.fs = b.fs := congrArg Prod.snd h1
    have nd' : ¬ b.num ∈ l.map (·.num) ∧ (l.map (·.num)).Nodup := List.nodup_cons.mp nd
    have hr : ∀ c ∈ l, c.num ≠ x.num := fun c hc q => nd'.1 (by rw [← e1, ← q]; exact List.mem_map_of_mem hc)
    have hx : ∀ c ∈ xs, c.num ≠ b.num := fun c hc q => nd'.1 (by rw [← keys_nums h2, ← q]; exact List.mem_map_of_mem hc)
    show setAll xs (setS x.num x.start (b :: l)) = x :: xs
    have e3 : setS x.num x.start (b :: l) = { b with start := x.start } :: l := by
      have := setS_none (k := x.num) (e := x.start) hr
      unfold setS at this ⊢
      rw [List.map_cons, if_pos e1.symm, this]
    rw [e3, setAll_cons (b := { b with start := x.start }) hx, setAll_self h2 nd'.2]
    congr 1
    cases x; cases b
    subst e1; subst e2
    rfl
theorem setAll_to {xs bs l : List (Blk α)} (hk : xs.map Blk.key = bs.map Blk.key) (hp : bs.Perm l) (nd : (l.map (·.num)).Nodup) : (setAll xs l).Perm xs := by
  have nb : (bs.map (·.num)).Nodup := (hp.map _).nodup_iff.mpr nd
  have := setAll_perm xs hp
  rw [setAll_self hk nb] at this
  exact this.symm
theorem setAll_same {bs l : List (Blk α)} (hp : bs.Perm l) (nd : (l.map (·.num)).Nodup) : setAll bs l = l :=
  eq_of_perm_nums ((setAll_to rfl hp nd).trans hp) (setAll_nums _ _) nd
end
end K96
set_option Elab.async false
set_option linter.all false
set_option maxRecDepth 100000
set_option maxHeartbeats 2000000
/-! Rules that this program wants and the layer lacks: xs[a:b] = ys; set(list of ints). -/
namespace K96
open PySem PySem.Spec PyProof.Rows L2
section
variable {X : Cx}
/-- o[a:c] = another list -/
def gCut (to tl th : TE) : TG := fun v σ H Q => to σ H fun x H1 => tl σ H1 fun y H2 => th σ H2 fun z H3 => ∃ (l b : Addr) (xs ys : List V) (a c : Int),
  x = .ref l ∧ v = .ref b ∧ y = .int a ∧ z = .int c ∧ H3 l = some (.lst xs) ∧ H3 b = some (.lst ys) ∧ l ≠ b ∧ 0 ≤ a ∧ a ≤ c ∧ c ≤ xs.length ∧ xs.length + ys.length ≤ sizeLine ∧
  Q σ (upd H3 l (.lst (xs.take a.toNat ++ ys ++ xs.drop c.toNat)))
theorem pg_cut {o lo hi : Expr} {to tl th : TE} {p2 pos : Pos} (ho : PE X o to) (hl : PE X lo tl) (hh : PE X hi th)
    (ha : ∀ v, assign (.Subscript o (.Slice (some lo) (some hi) none p2) pos) X.env v = (do
      let ov ← holding [v] (eval o X.env)
      let iv ← holding [v, ov] (eval (.Slice (some lo) (some hi) none p2) X.env)
      standAt pos
      holding [v, ov, iv] (setItem ov iv v)
      release [iv, v, ov] []) := by intro _; rfl) : PG X (.Subscript o (.Slice (some lo) (some hi) none p2) pos) (gCut to tl th) := by
  refine ⟨fun pins s σ H v u Q I r h => ?_⟩
  rw [ha]
  refine wpAny_bind (wpAny_holding (thn (ho.run pins s σ H _ I h) fun ov s1 ⟨x, H1, I1, r1, q1⟩ => ?_))
  refine wpAny_bind (wpAny_holding ?_)
  refine wpAny_Slice (wpAny_evalPart_some (thn (hl.run pins s1 σ H1 _ I1 q1) fun vl s2 ⟨y, H2, I2, r2, q2⟩ => wpAny_evalPart_some (thn (hh.run pins s2 σ H2 _ I2 q2) fun vu s3 ⟨z, H3, I3, r3, q3⟩ => ?_)))
  rw [evalPart_none]
  refine wpAny_pure ?_
  obtain ⟨l, b, xs, ys, a, c, rfl, rfl, rfl, rfl, hL, hB, hne, h0, hac, hc, hz, q⟩ := q3
  cases r1
  cases r
  have I4 : Inv X pins σ H3 { s3 with heap := s3.heap.push { cls := .type "slice", data := .fields #[vl, vu, .none] } } := I3.kept (t' := s3.toks) fun b ob q => Heap.get?_push_of_some _ q
  refine wpAny_bind (wpAny_standAt (wpAny_bind (wpAny_holding ?_)))
  exact set_slice I4 hL hB hne (Heap.IsSliceOf.new ..) r2 r3 h0 hac hc hz fun s' J => wpAny_release ⟨σ, _, J, q⟩
end
end K96
set_option Elab.async false
set_option linter.all false
set_option maxRecDepth 100000
set_option maxHeartbeats 2000000
/-! A try whose suite raises the exception anew (raise alone). -/
namespace K96
open PySem PySem.Spec PyProof.Rows L2
theorem objOk_get {P : Program} {w : World} {H : Hp} {h : Heap} {a : Addr} {o : HO} (x : ObjOk P w H h a o) : ∃ u, h.get? a = some u := by
  cases o with
  | lst xs => obtain ⟨_, _, _, _, e⟩ := x; exact ⟨_, e⟩
  | tup xs => obtain ⟨_, _, _, ob, e, _⟩ := x; exact ⟨_, e⟩
  | dK kvs => obtain ⟨_, _, _, _, o, _, _, e, _⟩ := x; exact ⟨_, e⟩
  | dT kvs => obtain ⟨_, _, _, _, o, _, _, e, _⟩ := x; exact ⟨_, e⟩
  | set S n => obtain ⟨o, _, _, _, e, _⟩ := x; exact ⟨_, e⟩
  | ins C dx fs => obtain ⟨_, _, _, e, _⟩ := x; exact ⟨_, e⟩
  | own y => exact x
  | xd fs => obtain ⟨_, ⟨_, _, _, e, _⟩, _⟩ := x; exact ⟨_, e⟩
  | rng lo hi => obtain ⟨_, _, _, e⟩ := x; exact ⟨_, e⟩
  | frz ob u => obtain ⟨e, _⟩ := x; exact ⟨_, e⟩
  | tbl ps => exact ⟨_, x⟩
  | met f y => exact ⟨_, x⟩
  | ext φ => exact x.2.1
section
variable {X : Cx} {pins : List (Addr × Obj)} {σ : L2.St} {H : Hp} {s : Shared}
/-- an object that nothing speaks of is let go -/
theorem inv_hide {a : Addr} {G : Heap} (I : Inv X pins σ H s) (h0 : X.s_0.heap.get? a = none) (hn : H a = none) (hL : a ≠ X.env.locals) (hc : ∀ x c, X.env.cells.lookup x = some c → c ≠ a) (hp : ∀ p ∈ X.pn ++ pins, p.1 ≠ a)
    (g1 : ∀ b, b ≠ a → G.get? b = s.heap.get? b) : Inv X pins σ H { s with heap := G } := by
  have ne : ∀ b o, X.s_0.heap.get? b = some o → b ≠ a := fun b o e z => by rw [z, h0] at e; cases e
  have cell : ∀ x c v, X.env.cells.lookup x = some c → s.heap.IsCell c v → G.IsCell c v := fun x c v e ⟨o, ho, hd⟩ => ⟨o, (g1 c (hc x c e)).trans ho, hd⟩
  refine ⟨I.ok, I.os, I.bare, ⟨fun b o e n hb hx => (g1 b (ne b o e)).trans (I.base.keep b o e n hb hx), fun b o e n hb hx => ?_, I.base.free, fun b o e hx => ?_, I.base.tups, I.base.frzs, I.base.tbls⟩, ?_, fun x c e => ?_, I.free, I.freeC, fun p q => ?_, fun b o e => ?_, I.len⟩
  · obtain ⟨sl, z⟩ := I.base.slot b o e n hb hx
    exact ⟨sl, (g1 b (ne b o e)).trans z⟩
  · obtain ⟨o', z⟩ := I.base.there b o e hx
    exact ⟨o', (g1 b (ne b o e)).trans z⟩
  · obtain ⟨m, ⟨o, es, ep, ho, r⟩, hl⟩ := I.loc
    refine ⟨m, ⟨o, es, ep, (g1 _ hL.symm).trans ho, r⟩, fun i x v e1 e2 e3 => ?_⟩
    obtain ⟨u, ru, l⟩ := hl i x v e1 e2 e3
    refine ⟨u, ru, ?_⟩
    rcases l with l | ⟨k, c, e, z⟩
    · exact .inl l
    · exact .inr ⟨k, c, e, cell x c _ e z⟩
  · obtain ⟨v, z⟩ := I.cell x c e
    exact ⟨v, cell x c v e z⟩
  · obtain ⟨e, n, r⟩ := I.pin p q
    exact ⟨(g1 _ (hp p q)).trans e, n, r⟩
  · refine (I.hok b o e).stay (fun c u hc' z => (g1 c ?_).trans z) (fun _ z => z) fun _ _ z => z
    rintro rfl
    rcases hc' with hc' | hc'
    · rw [← hc', hn] at e; cases e
    · rw [hn] at hc'; cases hc'
end
/-- what the clause 'except x: first; raise' wishes of an exception of the body that it names -/
def wRr (K : PySem.W.Frag) (c : Value) (ts : TS) (Wout : WX) : WX := fun cls d σ H =>
  PySem.W.exmOne K cls c = some true ∧ ts { nx := fun σ' H' => Wout cls d σ' H', rt := fun _ _ => False } σ H
section
variable {X : Cx} {x : Str} {c : Value} {body : List Stmt} {b₀ : Stmt} {np pos pos' rpos : Pos} {tb : WX → TS} {ts : TS} {Wout : WX}
theorem ps_try_rr (hs : X.stack = X.env :: X.outer) (hf : X.env.frame = some X.env.locals) (hex : X.ex = []) (hc : Names X x c) (hpa : ∀ hd : Option Value, PassesOwnAt (model X.prog X.w) (X.A.mark hd) X.A X.env X.xe) (tk : Takes X Wout)
    (hb : ∀ (W : WX) (pn : List (Addr × Obj)) (xe : Value → Shared → Prop), Takes (X.tr pn xe) W → PassesOwn (model X.prog X.w) X.A X.env xe → PSs (X.tr pn xe) body (tb W))
    (hsu : ∀ (a : Addr) (pn : List (Addr × Obj)), PS (X.suite a pn) b₀ ts) :
    PS X (.Try body [.ExceptHandler (some (.Name x np)) none [b₀, .Raise none none rpos] pos'] [] [] pos) (fun D σ H => tb (wRr X.K c ts Wout) D σ H) := by
  refine ⟨fun pins s σ H D I h => ?_⟩
  have ok := I.ok
  have hfr : X.A.frames = some (X.env :: X.outer) := by rw [ok.frames, hs]
  refine wpAny_Try_except ?_
  refine wpAny_mono ((hb (wRr X.K c ts Wout) (X.pn ++ pins) (fun e s₁ => wpAny (model X.prog X.w) X.A (noteFrame e X.env) (fun _ s₂ => wpAny (model X.prog X.w) X.A (setFlight e none) (fun _ s₃ =>
    wpAny (model X.prog X.w) X.A (handleBy e X.env [.ExceptHandler (some (.Name x np)) none [b₀, .Raise none none rpos] pos']) (SP X pins D) X.xe s₃) X.xe s₂) X.xe s₁) (fun u s' xx => ?_) PassesOwn.looking).run [] s σ H D (I.toTry _) h) (fun f s1 hsp => ?_) (fun e s1 he => he)
  · obtain ⟨a, B, sI, pins', σ', H', cls, d, rfl, J', nb, up, sky, na, os, ag, hm, hyes⟩ := xx
    have J : Inv X pins σ' H' sI := J'.ofTry ok
    have sky' : Sky B (X.env :: X.outer) a (Zc cls d) X.env.locals s'.heap := by rw [← hs]; exact sky
    show wpAny (model X.prog X.w) X.A (noteFrame (.ref a) X.env) _ _ _
    refine Sky.land Zc.steady hfr hf sky' fun h3 fl3 up3 => ?_
    have J3 : Inv X pins σ' H' { s' with heap := h3 } := J.landed nb fl3.1 (up.trans up3) os ag
    obtain ⟨oe3, vs3, he3, hz3, hd3⟩ := fl3.there
    have notFr : ∀ {h : Heap} {b : Addr} {o : Obj} {vs : Array Value}, h.FunFrames B (X.env :: X.outer) → h.get? b = some o → o.data = .fields vs → b ∉ frs (X.env :: X.outer) := fun {h b o vs} ff e dd hm => by
      obtain ⟨_, o', e', hnf⟩ := ff.mem hm
      rw [e] at e'; cases e'
      exact hnf _ dd
    have nfr := notFr fl3.2.2.1 he3 hd3
    have nLF : ∀ b, b ∉ frs (X.env :: X.outer) → b ≠ X.env.locals ∧ b ∉ X.fs := fun b nb' => ⟨fun z => nb' (List.mem_filterMap.mpr ⟨X.env, List.mem_cons_self, by rw [hf, z]⟩), fun hm => by
      obtain ⟨e, he, q⟩ := List.mem_filterMap.mp hm
      exact nb' (List.mem_filterMap.mpr ⟨e, List.mem_cons_of_mem _ he, q⟩)⟩
    obtain ⟨nL, nF⟩ := nLF a nfr
    have S3 := J3.suite he3 hd3 na nL nF
    refine wpAny_handleBy_cons (codeAny_handlers_test ?_) (by intro q; cases q)
    have LT : PySem.W.Looks (model X.prog X.w) h3 (typeOf (.ref a)) cls := fun A Q E s k q => wpAny_typeOf_ref (k _ _ he3) (by rw [hz3.1]; exact q)
    have LM := PySem.W.exm_one (M := model X.prog X.w) (J3.kIn) LT hm
    have test : ∀ {Q : Value → Shared → Prop} {E : Value → Shared → Prop}, Q c { s' with heap := h3 } → wpAny (model X.prog X.w) (X.A.mark (some (.ref a))) (eval (.Name x np) X.env) Q E { s' with heap := h3 } := fun {Q E} q => by
      obtain ⟨hg, hdbg, hm | ⟨hm, hv, hnn⟩⟩ := hc
      · exact ld_glob (X := X.suite a ((a, oe3) :: (X.pn ++ pins))) S3 hg hm q hdbg
      · exact ld_blt (X := X.suite a ((a, oe3) :: (X.pn ++ pins))) S3 hg hm hv q hnn hdbg
    refine test (LM.here ?_)
    refine codeAny_handlers_suite ?_
    refine HandSPX.lands_againZ fl3 fun h4 fl4 up4 => ?_
    have J4 : Inv X pins σ' H' { s' with heap := h4 } := J.landed nb fl4.1 ((up.trans up3).trans up4) os ag
    obtain ⟨f1, f2, f3, oe4, vs4, T, oT, ts4, he4, hz4, hd4, h14, hnT, hTe, hT, hdT, h34⟩ := id fl4
    have nfrT := notFr f3 hT hdT
    obtain ⟨nTL, nTF⟩ := nLF T nfrT
    have nTH : H' T = none := by
      cases q : H' T with
      | none => rfl
      | some o =>
        obtain ⟨u, e⟩ := objOk_get (J.inGround nb T o q)
        rw [hnT] at e; cases e
    -- neither the exception nor its record stood at the entry
    have gone : ∀ b, B.get? b = none → b ∉ frs (X.env :: X.outer) → sI.heap.get? b = none ∧ X.s_0.heap.get? b = none := fun b hb hfb => by
      have g : sI.heap.get? b = none := by
        cases q : sI.heap.get? b with
        | none => rfl
        | some o =>
          have z := nb b o q (by rw [hs]; exact hfb)
          rw [hb] at z; cases z
      refine ⟨g, ?_⟩
      cases q : X.s_0.heap.get? b with
      | none => rfl
      | some o =>
        obtain ⟨o', z⟩ := J.base.there b o q (by rw [hex]; simp)
        rw [g] at z; cases z
    obtain ⟨ga, g0a⟩ := gone a f2 nfr
    obtain ⟨gT, g0T⟩ := gone T hnT nfrT
    have S4 : Inv (X.suite a ((a, oe4) :: (X.pn ++ pins))) [(T, oT)] σ' H' { s' with heap := h4 } := (J4.suite he4 hd4 na nL nF).pins_of fun p hp => by
      have e : p = (T, oT) := by simpa using hp
      subst e
      exact ⟨hT, nTH, nTL, nTF, fun v z => by rw [hdT] at z; cases z⟩
    refine wpAny_execs_cons (wpAny_mono ((hsu a ((a, oe4) :: (X.pn ++ pins))).run [(T, oT)] _ σ' H' _ S4 hyes) (fun f s6 hsp => ?_) (fun _ _ z => False.elim z))
    cases f with
    | ret u =>
      obtain ⟨_, _, _, _, _, q6⟩ := hsp
      exact q6.elim
    | brk =>
      obtain ⟨_, _, _, q6⟩ := hsp
      exact False.elim q6
    | cont =>
      obtain ⟨_, _, _, q6⟩ := hsp
      exact False.elim q6
    | next =>
      obtain ⟨σ6, H6, S6, q6⟩ := hsp
      have U6 : Inv X pins σ6 H6 s6 := S6.unsuite ok
      obtain ⟨pa, na6, _, _, _⟩ := S6.pin (a, oe4) (List.mem_append_left _ List.mem_cons_self)
      obtain ⟨pT, nT6, _, _, _⟩ := S6.pin (T, oT) (List.mem_append_right _ List.mem_cons_self)
      have he6 : s6.heap.get? a = some oe4 := pa
      have hT6 : s6.heap.get? T = some oT := pT
      have cne : ∀ {b : Addr} {o : Obj} {vs : Array Value}, s6.heap.get? b = some o → o.data = .fields vs → ∀ y z, X.env.cells.lookup y = some z → z ≠ b := fun {b o vs} e dd y z e2 q => by
        obtain ⟨v, ⟨o2, h2, d2⟩⟩ := U6.cell y z e2
        rw [q, e] at h2; cases h2
        rw [dd] at d2; cases d2
      have pne : ∀ {b : Addr}, sI.heap.get? b = none → ∀ p ∈ X.pn ++ pins, p.1 ≠ b := fun {b} g p hp q => by
        have z := (J.pin p hp).1
        rw [q, g] at z; cases z
      obtain ⟨G1, k1, k2⟩ := restrict s6.heap fun b => decide (b ≠ a)
      obtain ⟨G, k3, k4⟩ := restrict G1 fun b => decide (b ≠ T)
      have I1 : Inv X pins σ6 H6 { s6 with heap := G1 } := inv_hide U6 g0a na6 nL (cne he6 hd4) (pne ga) fun b hb => k1 b (decide_eq_true hb)
      have T1 : G1.get? T = some oT := (k1 T (decide_eq_true hTe)).trans hT6
      have cneT : ∀ y z, X.env.cells.lookup y = some z → z ≠ T := cne hT6 hdT
      have I2 : Inv X pins σ6 H6 { s6 with heap := G } := inv_hide (s := { s6 with heap := G1 }) I1 g0T nT6 nTL cneT (pne gT) fun b hb => k3 b (decide_eq_true hb)
      have GaT : G.get? a = none ∧ G.get? T = none := ⟨by
        rw [k3 a (decide_eq_true hTe.symm)]; exact k2 a (by simp), k4 T (by simp)⟩
      have Gs : ∀ b o, G.get? b = some o → s6.heap.get? b = some o := fun b o e => by
        have hbT : b ≠ T := fun z => by rw [z, GaT.2] at e; cases e
        have hba : b ≠ a := fun z => by rw [z, GaT.1] at e; cases e
        rw [k3 b (decide_eq_true hbT), k1 b (decide_eq_true hba)] at e
        exact e
      have hidN : ∀ b, G.get? b = none → (PySem.W.hideAll G (frs X.stack)).get? b = none := fun b hb => by
        cases q : (PySem.W.hideAll G (frs X.stack)).get? b with
        | none => rfl
        | some o =>
          have z := PySem.W.of_hideAll _ q
          rw [hb] at z; cases z
      have ff : s6.heap.FunFrames (PySem.W.hideAll G (frs X.stack)) X.stack := Heap.FunFrames.of_keeps (fun b o e _ => ⟨o, Gs b o e, rfl⟩) (funFrames_none I2.stack fun b hb => PySem.W.hideAll_none _ hb)
      have fl6 : HandSPX.FlyingZ (PySem.W.hideAll G (frs X.stack)) X.stack a (Zc cls d) s6.heap :=
        ⟨fun b o e => Gs b o (PySem.W.of_hideAll _ e), hidN a GaT.1, ff, oe4, vs4, T, oT, ts4, he6, hz4, hd4, h14, hidN T GaT.2, hTe, hT6, hdT, h34⟩
      refine wpAny_execs_cons ?_
      show wpAny _ _ (do standAt rpos; raiseStmt X.env none none) _ _ _
      refine wpAny_bind (wpAny_standAt ?_)
      unfold raiseStmt
      dsimp only
      refine wpAny_bind (wpAny_handled ?_)
      show wpAny _ _ (rule "raise.bare" >>= _) _ _ _
      refine wpAny_bind (wpAny_rule (wpAny_bind (wpAny_field he6 hd4 h14 ?_)))
      rw [if_neg (show ¬ ((Value.ref T == Value.none) = true) from by simp)]
      have fin : wpAny (model X.prog X.w) (X.A.mark (some (.ref a))) (setFlight (.ref a) X.env.frame) (fun _ s7 => wpAny (model X.prog X.w) (X.A.mark (some (.ref a))) (throw (.ref a) : Sem Flow)
          (fun f s' => match f with
            | .next => wpAny (model X.prog X.w) (X.A.mark (some (.ref a))) (execs [] X.env) (fun f s' => SP X pins D f s') (notedBy (model X.prog X.w) (X.A.mark (some (.ref a))) X.env (cameBackBy (model X.prog X.w) X.A X.env X.xe)) s'
            | f => SP X pins D f s') (notedBy (model X.prog X.w) (X.A.mark (some (.ref a))) X.env (cameBackBy (model X.prog X.w) X.A X.env X.xe)) s7) (notedBy (model X.prog X.w) (X.A.mark (some (.ref a))) X.env (cameBackBy (model X.prog X.w) X.A X.env X.xe)) s6 := by
        rw [hf]
        refine HandSPX.setFlight_upZ fl6 fun h7 hh7 up7 => wpAny_throw (hpa (some (.ref a)) _ _ (tk _ _ ?_))
        exact ⟨a, PySem.W.hideAll G (frs X.stack), { s6 with heap := G }, pins, σ6, H6, cls, d, rfl, I2, fun b o e hb => PySem.W.hideAll_get _ e hb, (Heap.UpToSlots.of_keeps Gs).trans up7, .inr (.inr hh7), na6, rfl, S6.bare, q6⟩
      first
        | exact wpAny_bind fin
        | exact wpAny_bind (wpAny_pure (wpAny_bind fin))
  · cases f with
    | next =>
      obtain ⟨σ', H', J', q⟩ := hsp
      exact wpAny_execs_nil ⟨σ', H', J'.ofTry ok, q⟩
    | brk =>
      obtain ⟨σ', H', J', q⟩ := hsp
      exact ⟨σ', H', J'.ofTry ok, q⟩
    | cont =>
      obtain ⟨σ', H', J', q⟩ := hsp
      exact ⟨σ', H', J'.ofTry ok, q⟩
    | ret u =>
      obtain ⟨v, σ', H', J', r, q⟩ := hsp
      exact ⟨v, σ', H', J'.ofTry ok, r, q⟩
end
end K96
set_option Elab.async false
set_option linter.all false
set_option maxRecDepth 100000
set_option maxHeartbeats 2000000
/-! Several except clauses, with names and without. -/
namespace K96
open PySem PySem.Spec PyProof.Rows L2
abbrev Clause : Type := Value × Option Nat × (Addr → Value → Option Addr → TS)
def endsNamed (i : Nat) (D : Ends) : Ends := { nx := fun σ' H' => D.nx (σ'.set i none) H', rt := D.rt, bk := fun σ' H' => D.bk (σ'.set i none) H', ct := fun σ' H' => D.ct (σ'.set i none) H' }
/-- what a clause's suite is to show -/
def clauseDo : Clause → Addr → Value → Option Addr → TS
  | (_, none, ts) => fun a cls d D σ H => ts a cls d D σ H
  | (_, some i, ts) => fun a cls d D σ H => ts a cls d (endsNamed i D) (σ.set i (some (.ref a))) H
def wMany2 (K : PySem.W.Frag) (Wout : WX) (D : Ends) : List Clause → WX
  | [] => Wout
  | q :: r => fun cls d σ H => ∃ b, PySem.W.exmOne K cls q.1 = some b ∧ (b = true → ∀ a, H a = none → clauseDo q a cls d D σ H) ∧ (b = false → wMany2 K Wout D r cls d σ H)
inductive Hds2 (X : Cx) : List ExceptHandler → List Clause → Prop
  | nil : Hds2 X [] []
  | plain {x : Str} {c : Value} {ts : Addr → Value → Option Addr → TS} {b₀ : Stmt} {suite : List Stmt} {np pos' : Pos} {hds : List ExceptHandler} {l : List Clause} (hc : Names X x c)
      (hsu : ∀ (a : Addr) (oe : Obj) (cls : Value) (d : Option Addr) (pn : List (Addr × Obj)), Zc cls d oe → (∃ vs, oe.data = .fields vs) → PSs (X.suite a ((a, oe) :: pn)) (b₀ :: suite) (ts a cls d)) (r : Hds2 X hds l) :
      Hds2 X (.ExceptHandler (some (.Name x np)) none (b₀ :: suite) pos' :: hds) ((c, none, ts) :: l)
  | named {x n : Str} {i : Nat} {c : Value} {ts : Addr → Value → Option Addr → TS} {b₀ : Stmt} {suite : List Stmt} {np pos' : Pos} {hds : List ExceptHandler} {l : List Clause} (hi : X.N[i]? = some n) (hln : X.env.kindOf n = some .local) (hc : Names X x c)
      (hsu : ∀ (a : Addr) (oe : Obj) (cls : Value) (d : Option Addr) (pn : List (Addr × Obj)), Zc cls d oe → (∃ vs, oe.data = .fields vs) → PSs (X.suite a ((a, oe) :: pn)) (b₀ :: suite) (ts a cls d)) (r : Hds2 X hds l) :
      Hds2 X (.ExceptHandler (some (.Name x np)) (some n) (b₀ :: suite) pos' :: hds) ((c, some i, ts) :: l)
section
variable {X : Cx} {body : List Stmt} {h₀ : ExceptHandler} {hds : List ExceptHandler} {l : List Clause} {pos : Pos} {tb : WX → TS} {Wout : WX}
theorem ps_try_many2 (hs : X.stack = X.env :: X.outer) (hf : X.env.frame = some X.env.locals) (hN : X.N.Nodup) (tk : Takes X Wout)
    (hb : ∀ (W : WX) (pn : List (Addr × Obj)) (xe : Value → Shared → Prop), Takes (X.tr pn xe) W → PassesOwn (model X.prog X.w) X.A X.env xe → PSs (X.tr pn xe) body (tb W))
    (hh : Hds2 X (h₀ :: hds) l) : PS X (.Try body (h₀ :: hds) [] [] pos) (fun D σ H => tb (wMany2 X.K Wout D l) D σ H) := by
  refine ⟨fun pins s σ H D I h => ?_⟩
  have ok := I.ok
  have hfr : X.A.frames = some (X.env :: X.outer) := by rw [ok.frames, hs]
  refine wpAny_Try_except ?_
  refine wpAny_mono ((hb (wMany2 X.K Wout D l) (X.pn ++ pins) (fun e s₁ => wpAny (model X.prog X.w) X.A (noteFrame e X.env) (fun _ s₂ => wpAny (model X.prog X.w) X.A (setFlight e none) (fun _ s₃ =>
    wpAny (model X.prog X.w) X.A (handleBy e X.env (h₀ :: hds)) (SP X pins D) X.xe s₃) X.xe s₂) X.xe s₁) (fun u s' xx => ?_) PassesOwn.looking).run [] s σ H D (I.toTry _) h) (fun f s1 hsp => ?_) (fun e s1 he => he)
  · obtain ⟨a, B, sI, pins', σ', H', cls, d, rfl, J', nb, up, sky, na, os, ag, w⟩ := xx
    have J : Inv X pins σ' H' sI := J'.ofTry ok
    have sky' : Sky B (X.env :: X.outer) a (Zc cls d) X.env.locals s'.heap := by rw [← hs]; exact sky
    show wpAny (model X.prog X.w) X.A (noteFrame (.ref a) X.env) _ _ _
    refine Sky.land Zc.steady hfr hf sky' fun h3 fl3 up3 => ?_
    have J3 : Inv X pins σ' H' { s' with heap := h3 } := J.landed nb fl3.1 (up.trans up3) os ag
    obtain ⟨oe3, vs3, he3, hz3, hd3⟩ := fl3.there
    have nfr : a ∉ frs (X.env :: X.outer) := fun hm => by
      obtain ⟨_, o', e', hnf⟩ := fl3.2.2.1.mem hm
      rw [he3] at e'; cases e'
      exact hnf _ hd3
    have nL : a ≠ X.env.locals := fun z => nfr (List.mem_filterMap.mpr ⟨X.env, List.mem_cons_self, by rw [hf, z]⟩)
    have nF : a ∉ X.fs := fun hm => by
      obtain ⟨e, he, q⟩ := List.mem_filterMap.mp hm
      exact nfr (List.mem_filterMap.mpr ⟨e, List.mem_cons_of_mem _ he, q⟩)
    have S3 := J3.suite he3 hd3 na nL nF
    have LT : PySem.W.Looks (model X.prog X.w) h3 (typeOf (.ref a)) cls := fun A Q E s k q => wpAny_typeOf_ref (k _ _ he3) (by rw [hz3.1]; exact q)
    have test : ∀ {x : Str} {np : Pos} {c : Value} {Q : Value → Shared → Prop} {E : Value → Shared → Prop}, Names X x c → Q c { s' with heap := h3 } → wpAny (model X.prog X.w) (X.A.mark (some (.ref a))) (eval (.Name x np) X.env) Q E { s' with heap := h3 } := fun {x np c Q E} hc q => by
      obtain ⟨hg, hdbg, hm | ⟨hm, hv, hnn⟩⟩ := hc
      · exact ld_glob (X := X.suite a ((a, oe3) :: (X.pn ++ pins))) S3 hg hm q hdbg
      · exact ld_blt (X := X.suite a ((a, oe3) :: (X.pn ++ pins))) S3 hg hm hv q hnn hdbg
    have go : ∀ {hds' : List ExceptHandler} {l' : List Clause}, Hds2 X hds' l' → wMany2 X.K Wout D l' cls d σ' H' →
        wpAny (model X.prog X.w) X.A (handleBy (.ref a) X.env hds') (SP X pins D) X.xe { s' with heap := h3 } := by
      intro hds' l' hk
      induction hk with
      | nil =>
        intro w
        refine wpAny_handleBy_nil ?_
        obtain ⟨k1, k2, k3, oe, vs, T, oT, ts', he, hz, hd, h1, hr⟩ := id fl3
        unfold PySem.passOn
        refine wpAny_bind (wpAny_field he hd h1 ?_)
        rw [if_neg (show ¬ ((Value.ref T == Value.none) = true) from by simp)]
        have fin : wpAny (model X.prog X.w) X.A (setFlight (.ref a) X.env.frame) (fun _ s4 => wpAny (model X.prog X.w) X.A (throw (.ref a) : Sem Flow) (SP X pins D) X.xe s4) X.xe { s' with heap := h3 } := by
          rw [hf]
          refine HandSPX.setFlight_upZ fl3 fun h4 hh4 up4 => wpAny_throw (tk _ _ ?_)
          exact ⟨a, B, sI, pins, σ', H', cls, d, rfl, J, nb, (up.trans up3).trans up4, .inr (.inr (by rw [hs]; exact hh4)), na, os, ag, w⟩
        first
          | exact wpAny_bind (wpAny_pure (wpAny_bind fin))
          | exact wpAny_bind fin
      | @plain x c ts b₀ suite np pos' hds2 l2 hc hsu r ih =>
        intro w
        obtain ⟨b, hb1, hyes, hno⟩ := w
        refine wpAny_handleBy_cons (codeAny_handlers_test ?_) (by intro q; cases q)
        have LM := PySem.W.exm_one (M := model X.prog X.w) (J3.kIn) LT hb1
        refine test hc (LM.here ?_)
        cases b with
        | true =>
          refine codeAny_handlers_suite ?_
          refine HandSPX.lands_againZ fl3 fun h4 fl4 up4 => ?_
          have J4 : Inv X pins σ' H' { s' with heap := h4 } := J.landed nb fl4.1 ((up.trans up3).trans up4) os ag
          obtain ⟨oe4, vs4, he4, hz4, hd4⟩ := fl4.there
          have S4 := J4.suite he4 hd4 na nL nF
          refine wpAny_mono ((hsu a oe4 cls d (X.pn ++ pins) hz4 ⟨_, hd4⟩).run [] _ _ H' _ S4 (hyes rfl a na)) (fun f s6 hsp => ?_) (fun _ _ z => False.elim z)
          cases f with
          | next =>
            obtain ⟨σ6, H6, S6, q6⟩ := hsp
            exact ⟨_, _, S6.unsuite ok, q6⟩
          | brk =>
            obtain ⟨σ6, H6, S6, q6⟩ := hsp
            exact ⟨_, _, S6.unsuite ok, q6⟩
          | cont =>
            obtain ⟨σ6, H6, S6, q6⟩ := hsp
            exact ⟨_, _, S6.unsuite ok, q6⟩
          | ret u =>
            obtain ⟨v6, σ6, H6, S6, r6, q6⟩ := hsp
            exact ⟨_, _, _, S6.unsuite ok, r6, q6⟩
        | false =>
          show wpAny _ X.A (handleBy (.ref a) X.env hds2) _ _ _
          exact ih (hno rfl)
      | @named x n i c ts b₀ suite np pos' hds2 l2 hi hln hc hsu r ih =>
        intro w
        obtain ⟨b, hb1, hyes, hno⟩ := w
        refine wpAny_handleBy_cons (codeAny_handlers_test ?_) (by intro q; cases q)
        have LM := PySem.W.exm_one (M := model X.prog X.w) (J3.kIn) LT hb1
        refine test hc (LM.here ?_)
        cases b with
        | true =>
          refine codeAny_handlers_suite_as ?_
          refine HandSPX.lands_againZ fl3 fun h4 fl4 up4 => ?_
          have J4 : Inv X pins σ' H' { s' with heap := h4 } := J.landed nb fl4.1 ((up.trans up3).trans up4) os ag
          obtain ⟨oe4, vs4, he4, hz4, hd4⟩ := fl4.there
          have S4 := J4.suite he4 hd4 na nL nF
          refine store_ok (X := X.suite a ((a, oe4) :: (X.pn ++ pins))) (v := .ref a) S4 hN hi (.inl hln) rfl (fun s5 S5 => ?_) (.inr hln)
          refine wpAny_mono ((hsu a oe4 cls d (X.pn ++ pins) hz4 ⟨_, hd4⟩).run [] s5 _ H' _ S5 (hyes rfl a na)) (fun f s6 hsp => ?_) (fun _ _ z => False.elim z)
          have end_ : ∀ {σ6 : L2.St} {H6 : Hp} {Q : Shared → Prop}, Inv (X.suite a ((a, oe4) :: (X.pn ++ pins))) [] σ6 H6 s6 → (∀ s7, Inv X pins (σ6.set i none) H6 s7 → Q s7) →
              wpAny (model X.prog X.w) X.A (do bindName X.env n .none; unbindBehindTheSuite X.env n pos') (fun _ s7 => Q s7) X.xe s6 := fun {σ6 H6 Q} S6 hq => gone_ok (S6.unsuite ok) hN hi hln hq
          cases f with
          | next =>
            obtain ⟨σ6, H6, S6, q6⟩ := hsp
            exact end_ S6 fun s7 J7 => ⟨_, _, J7, q6⟩
          | brk =>
            obtain ⟨σ6, H6, S6, q6⟩ := hsp
            exact end_ S6 fun s7 J7 => ⟨_, _, J7, q6⟩
          | cont =>
            obtain ⟨σ6, H6, S6, q6⟩ := hsp
            exact end_ S6 fun s7 J7 => ⟨_, _, J7, q6⟩
          | ret u =>
            obtain ⟨v6, σ6, H6, S6, r6, q6⟩ := hsp
            exact end_ S6 fun s7 J7 => ⟨_, _, _, J7, r6, q6⟩
        | false =>
          show wpAny _ X.A (handleBy (.ref a) X.env hds2) _ _ _
          exact ih (hno rfl)
    exact go hh w
  · cases f with
    | next =>
      obtain ⟨σ', H', J', q⟩ := hsp
      exact wpAny_execs_nil ⟨σ', H', J'.ofTry ok, q⟩
    | brk =>
      obtain ⟨σ', H', J', q⟩ := hsp
      exact ⟨σ', H', J'.ofTry ok, q⟩
    | cont =>
      obtain ⟨σ', H', J', q⟩ := hsp
      exact ⟨σ', H', J'.ofTry ok, q⟩
    | ret u =>
      obtain ⟨v, σ', H', J', r, q⟩ := hsp
      exact ⟨v, σ', H', J'.ofTry ok, r, q⟩
end
end K96
set_option Elab.async false
set_option linter.all false
set_option maxRecDepth 100000
set_option maxHeartbeats 2000000
/-! A method's call in the body of a try. -/
namespace K96
open PySem PySem.Spec PyProof.Rows L2
def tMethT (C : Addr) (m : Str) (sp : Sp) (E : L2.St → XK) (ta : TE) (t : TA) : TE := fun σ H Q => ta σ H fun x H1 => ∃ a dx fs, x = .ref a ∧ H1 a = some (.ins C dx fs) ∧ fs.lookup m = none ∧ t σ H1 fun vs H2 => sp (.ref a :: vs) H2 Q (E σ)
section
variable {X : Cx} {CX : CXT} {k : Nat} {f C : Addr} {fd : FuncData} {ps : List Str} {sp : Sp} {E : L2.St → XK} {m : Str} {pos apos : Pos} {e o : Expr} {es : List Expr} {ta : TE} {t : TA}
theorem pe_methT {pl : Sem Bool} (he : PE X o ta) (c : Cls X.K C) (hm : Meth X.K C m f) (F : FnOk X.prog X.w X.K X.mg X.base CX k f fd ps sp) (hr : Room k X.A) (hb : Binds X.K fd ps []) (hx : ∀ σ, PassesAt CX X σ (E σ)) (ha : PA X (e :: es) t)
    (hst : starEach (e :: es) X.env = (false, eval e X.env) :: starEach es X.env := by rfl) (hpl : (backTo pos (starEach es X.env)).any (·.1) = false := by rfl)
    (ht : eval (.Call (.Attribute o m apos) (e :: es) [] pos) X.env = (do
      let ov ← eval o X.env
      standAt apos.atName
      let (f, first) ← holding [ov] (getMethod ov m pl)
      callWith pos f first (backTo pos (starEach (e :: es) X.env)) (backToKw pos (keywordEach [] X.env))) := by rfl) :
    PE X (.Call (.Attribute o m apos) (e :: es) [] pos) (tMethT C m sp E ta t) := by
  refine ⟨fun pins s σ H Q I h => ?_⟩
  refine PySem.W.methodCall_KW (pl := pl) (thn (he.run pins s σ H _ I h) fun u s1 ⟨x, H1, I1, rx, a, dx, fs, ex, ea, l, q⟩ => ?_) ht
  subst ex
  obtain rfl : u = Value.ref a := rx
  refine getmeth_ok I1 ea c hm l ?_
  refine PySem.W.callWith_K (first := [.ref a]) (h₀ := X.base) I.ok.mod.kin hm.kp (thn (ha.run pos pins s1 σ H1 _ I1 q) fun us s2 ⟨vs, H2, I2, r, q2⟩ => ⟨I2.kIn, ?_⟩) hst hpl
  exact run_fnS (us := .ref a :: us) (vs := .ref a :: vs) F hr hb (hx σ) I2 (.cons rfl r) q2
end
end K96
set_option Elab.async false
set_option linter.all false
set_option maxRecDepth 100000
set_option maxHeartbeats 2000000
/-! The text by places: each def of the program and of the law. -/
namespace K96
open PySem PySem.Spec PyProof.Rows L2
def top (i : Nat) : Stmt := PySem.Challenge.pw_heapgame_k96_whole_slides_are_compaction.main.body.getD i (.Pass ⟨0, 0, 0, 0⟩)
abbrev s_slider_of : Stmt := top 12
abbrev s_gaps : Stmt := top 14
abbrev s_canonical : Stmt := top 16
abbrev s_relocation_map : Stmt := top 17
abbrev s_slide_left : Stmt := top 19
abbrev s_places : Stmt := top 25
abbrev s_first_place : Stmt := top 26
abbrev s_place_block : Stmt := top 27
abbrev s_target_of : Stmt := top 29
abbrev s_policy_heap : Stmt := top 35
abbrev s__law_cell : Stmt := top 37
abbrev s__law_row : Stmt := top 38
abbrev s__law_box : Stmt := top 39
abbrev s__law_draw : Stmt := top 40
abbrev s__law_value : Stmt := top 41
abbrev s__law_deed : Stmt := top 42
abbrev s__law_change : Stmt := top 43
abbrev s_law : Stmt := top 44
abbrev s_Slider___init__ : Stmt := inClass (top 11) 0
abbrev s_Slider_layout : Stmt := inClass (top 11) 1
abbrev s_Slider_cell : Stmt := inClass (top 11) 2
abbrev s_Slider_write : Stmt := inClass (top 11) 4
abbrev s_Slider_begin : Stmt := inClass (top 11) 5
abbrev s_Slider_finish : Stmt := inClass (top 11) 6
abbrev s_Slider_step : Stmt := inClass (top 11) 7
abbrev s_Slider_work : Stmt := inClass (top 11) 8
abbrev s_Store___init__ : Stmt := inClass (top 30) 0
abbrev s_Store_copy : Stmt := inClass (top 30) 1
abbrev s_Store_numbers : Stmt := inClass (top 30) 2
abbrev s_Store_fields : Stmt := inClass (top 30) 3
abbrev s_Store_make : Stmt := inClass (top 30) 4
abbrev s_Store_read : Stmt := inClass (top 30) 5
abbrev s_Store_write : Stmt := inClass (top 30) 6
abbrev s_Store_is_referenced : Stmt := inClass (top 30) 7
abbrev s_Store_release : Stmt := inClass (top 30) 8
abbrev s_Store_add_root : Stmt := inClass (top 30) 9
abbrev s_Store_remove_root : Stmt := inClass (top 30) 10
abbrev s_Store_reachable : Stmt := inClass (top 30) 11
abbrev s_Store_collect : Stmt := inClass (top 30) 12
abbrev s_PolicyManager___init__ : Stmt := inClass (top 32) 0
abbrev s_PolicyManager_place : Stmt := inClass (top 32) 1
abbrev s_State___init__ : Stmt := inClass (top 33) 0
abbrev s_State_copy : Stmt := inClass (top 33) 1
abbrev s_ManagedHeap___init__ : Stmt := inClass (top 34) 0
abbrev s_ManagedHeap_layout : Stmt := inClass (top 34) 1
abbrev s_ManagedHeap_number_at : Stmt := inClass (top 34) 2
abbrev s_ManagedHeap_word : Stmt := inClass (top 34) 6
abbrev s_ManagedHeap_words : Stmt := inClass (top 34) 7
abbrev s_ManagedHeap_relocate : Stmt := inClass (top 34) 8
abbrev s_ManagedHeap_moving : Stmt := inClass (top 34) 9
abbrev s_ManagedHeap_do_allocate : Stmt := inClass (top 34) 10
abbrev s_ManagedHeap_do_release : Stmt := inClass (top 34) 11
abbrev s_ManagedHeap_do_collect : Stmt := inClass (top 34) 12
abbrev s_ManagedHeap_do_compact : Stmt := inClass (top 34) 13
abbrev s_ManagedHeap_do_slide : Stmt := inClass (top 34) 15
abbrev s_ManagedHeap_perform : Stmt := inClass (top 34) 16
abbrev s_ManagedHeap_change : Stmt := inClass (top 34) 17
abbrev s_ManagedHeap_write : Stmt := inClass (top 34) 19
abbrev s_ManagedHeap_compact : Stmt := inClass (top 34) 24
abbrev s_ManagedHeap_slide : Stmt := inClass (top 34) 26
abbrev s_ManagedHeap_branch : Stmt := inClass (top 34) 29
abbrev s_NoSuchObject___init__ : Stmt := inClass (top 6) 0
abbrev s_NoSuchField___init__ : Stmt := inClass (top 7) 0
abbrev s_StillUsed___init__ : Stmt := inClass (top 8) 0
abbrev s_OutOfMemory___init__ : Stmt := inClass (top 3) 0
end K96
set_option Elab.async false
set_option linter.all false
set_option maxRecDepth 100000
set_option maxHeartbeats 4000000
/-! An own exception class below an own one below ValueError, whose __init__ begins with super().__init__(e). -/
namespace K96
open PySem PySem.Spec PyProof.Rows L2 PySem.W.KFB
/-- what the written part says of the class at C, of its __init__ (its code at cda, its cell at cc) -/
structure SxC (P : Program) (K : PySem.W.Frag) (mg : Str → Option Value) (C cda cc : Addr) : Prop where
  cls : OexC K C
  file : ∃ (oc : Value) (od : Option Addr) (vs : Array Value) (sl : Array (Option Value)) (file : Str) (tf : Tok), K.lookup cda = some ⟨oc, od, .fields vs, sl⟩ ∧ vs[2]? = some (.str file tf) ∧ ((P.main.file : Str) == file) = true
  cell : ∃ (oc : Value) (od : Option Addr) (sl : Array (Option Value)), K.lookup cc = some ⟨oc, od, .cell (some (.ref C)), sl⟩
  su : PySem.W.ks_superIn K C C "__init__" = some (some (.builtin "ValueError.__init__"))
  sB : PySem.W.subIn K (.ref C) (.type "ValueError") = some true
  sC : PySem.W.mroIn K C (.ref C) = some true
  op : PySem.W.nsIn K cStatics "thirdparty.any" = some none
  gs : mg "super" = none
  top : (P.main.scope.names.lookup ("super" : Str)).isSome = false

theorem exc_call_mw {prog : Program} {w : World} {A : Around} {E : Value → Shared → Prop} {h : Heap} {g : Array GenState} {d : Drawn} {t : Nat} {os : OsState} {nm q : Str} {C N : Addr} {bs bm : List Value} {hdct : Bool} {sn : List Str} {sub : List Value} {ab : Bool} {col : Option Bool} {dd : Option Addr} {k0 k1 k2 k3 k5 : Option Value}
    {u e t0 : Addr} {rest : List Value} {Q : Value → Shared → Prop}
    (hC : h.get? C = some (excClassObj nm q C N bs bm hdct sn sub ab col dd k0 k1 k2 k3 k5 "ValueError.__new__")) (he : h.get? e = some (HandSPX.excO C t0)) (hu : h.get? u = some (PySem.W.kxs_mw "ValueError.__init__" e)) (hrest : rest.length ≤ sizeLine)
    (hq : ∀ h' t1, (∀ b o, b ≠ e → h.get? b = some o → h'.get? b = some o) → h'.get? e = some (HandSPX.excO C t1) → Q .none ⟨h', g, d, t, os⟩) :
    wpAny (model prog w) A (call (.ref u) rest) Q E ⟨h, g, d, t, os⟩ := by
  refine wpAny_call (codeAny_of_tree ?_)
  show wpAny _ A.in1 (callAny (.ref u) ⟨rest, []⟩) _ _ _
  simp only [callAny]
  refine wpAny_bind (wpAny_load hu ?_)
  simp only [PySem.W.kxs_mw, show (Value.type "method-wrapper" == Value.type "method" || Value.type "method-wrapper" == Value.type "builtin_function_or_method" || Value.type "method-wrapper" == Value.type "method-wrapper") = true by decide, if_true]
  refine PySem.W.KFB.if_so (by decide) ?_
  refine wpAny_bind (PySem.W.check_bound_init F.excBase_ValueError.toExcCallFacts hC he rfl ?_)
  refine wpAny_bind (wpAny_pure (wpAny_pure ?_))
  refine ⟨plainId_quiet F.excBase_ValueError.init.plain _, codeAny_builtin F.excBase_ValueError.initEntry ?_⟩
  exact PySem.W.exc_init_tree (cls := .ref C) (t0 := t0) (dv := none) (c2 := .none) (c3 := .none) (b4 := .bool false) he hrest fun h' k e' _ => hq h' h.objs.size k e'

abbrev clsN : List Str := ["__class__"]
/-- super().__init__(arg) -/
abbrev supE (p0 p1 p2 p3 : Pos) (arg : Expr) : Expr := .Call (.Attribute (.Call (.Name "super" p0) [] [] p1) "__init__" p2) [arg] [] p3
abbrev nfx (qual : Str) (params : Arguments) (body : List Stmt) (sc : Scope) (cda cc : Addr) : NdefX.NF := ⟨"__init__", qual, params, body, sc, [("__class__", cc)], cda⟩
section
variable {P : Program} {w : World} {K : PySem.W.Frag} {mg : Str → Option Value} {base : Heap} {C fI cda cc : Addr} {qual : Str} {params : Arguments} {sc : Scope} {oc kV doc pm ct : Value} {od an : Option Addr} {osl : Array (Option Value)} {body : List Stmt}
/-- THE RULE: an __init__ that begins with super().__init__(arg) -/
theorem fn_super {p0 p1 p2 p3 p4 : Pos} {arg : Expr} {rest : List Stmt} {ps : List Str} {self : Arg} {sp : Sp} {k : Nat} (T : SxC P K mg C cda cc)
    (lk : K.lookup fI = some ⟨oc, od, .func (PySem.W.ksFn "__init__" qual params body sc .none kV doc pm an (.ref cda) ct cc), osl⟩) (hcd : PySem.W.codeIn K (.ref cda) qual = true)
    (hbo : body = .Expr (supE p0 p1 p2 p3 arg) p4 :: rest)
    (S : NdefX.NScope (ps ++ clsN) ps clsN sc) (hsup : sc.names.lookup ("super" : Str) = some .globalImplicit) (hself : (params.posonlyargs ++ params.args).head? = some self) (h0 : ps[0]? = some self.arg)
    (len : ∀ vs H Q E, sp vs H Q E → vs.length = ps.length)
    (he : ∀ env : Env, starEach [arg] env = [(false, eval arg env)])
    (hcall : ∀ env : Env, ∃ pl : Sem Bool, eval (supE p0 p1 p2 p3 arg) env = (do
      let ov ← attributeBase (.Call (.Name "super" p0) [] [] p1) "__init__" env (eval (.Call (.Name "super" p0) [] [] p1) env)
      standAt p2.atName
      let (f, first) ← holding [ov] (getMethod ov "__init__" pl)
      callWith p3 f first (backTo p3 (starEach [arg] env)) []))
    (hsw : ∀ env : Env, swapsWith (supE p0 p1 p2 p3 arg) none p4.line env = pure false)
    (hbody : ∀ (A : Around) (outer : List Env) (s : Shared) (H : Hp) (vs : List V) (Q : VK) (E : XK), Room k (A.deeper (NdefX.envF (nfx qual params body sc cda cc) fI s.heap.objs.size)) → sp vs H Q E →
      ∃ (ta : TA) (t : TS) (a : Addr), vs[0]? = some (.ref a) ∧ H a = some (exo a C none) ∧
        PA (NdefX.ncx CX0 P w K mg base (ps ++ clsN) (nfx qual params body sc cda cc) fI A outer s H E) [arg] ta ∧
        PSs (NdefX.ncx CX0 P w K mg base (ps ++ clsN) (nfx qual params body sc cda cc) fI A outer s H E) rest t ∧
        ta (NdefX.startF (ps ++ clsN) vs [some (.ref C)]) H fun us H1 => us.length ≤ 1000 ∧ H1 a = some (exo a C none) ∧ t { nx := fun _ H' => Q .non H', rt := Q } (NdefX.startF (ps ++ clsN) vs [some (.ref C)]) H1) :
    FnOk P w K mg base CX0 (k + 1) fI (PySem.W.ksFn "__init__" qual params body sc .none kV doc pm an (.ref cda) ct cc) ps sp := by
  refine ⟨len, fun A outer s H args us vs Q E hr e0 hbd r hsp => ?_⟩
  have hl := len _ _ _ _ hsp
  have KX : K.In s.heap := e0.mod.kin.keeps fun b o e => (e0.bs b o e).1
  have lim : s.heap.NoLimit := e0.mod.nolimit.keeps fun b o e => (e0.bs b o e).1
  obtain ⟨occ, odc, slc, hcell⟩ := T.cell
  have Hcc : H cc = none := (e0.bs cc _ (e0.mod.kin _ _ hcell)).2
  have hC : NdefX.CellsAt [("__class__", cc)] clsN [some (.ref C)] s.heap H := by
    have key : ∀ {y : Str} {c : Addr}, List.lookup y [(("__class__" : Str), cc)] = some c → y = "__class__" ∧ c = cc := fun {y c} e => by
      by_cases h : y = ("__class__" : Str)
      · subst h
        simp [List.lookup] at e
        exact ⟨rfl, e.symm⟩
      · have hb : (y == ("__class__" : Str)) = false := by simpa using h
        simp [List.lookup, hb] at e
    refine ⟨rfl, fun y c e => ?_, fun x y c e1 e2 => (key e1).1.trans (key e2).1.symm, fun i y e => ?_⟩
    · obtain ⟨_, rfl⟩ := key e
      exact ⟨Hcc, some (.ref C), _, KX _ _ hcell, rfl⟩
    · match i, e with
      | 0, e =>
        have ey : ("__class__" : Str) = y := Option.some.inj e
        subst ey
        refine ⟨cc, by simp [List.lookup], fun v hv => ?_⟩
        have ev : V.ref C = v := Option.some.inj (Option.some.inj hv)
        subst ev
        exact ⟨.ref C, rfl, _, KX _ _ hcell, rfl⟩
  refine ks_codeAny_call_defAt (fd := PySem.W.ksFn "__init__" qual params body sc .none kV doc pm an (.ref cda) ct cc) (body := body) hr.depth (KX _ _ lk) rfl lim (PySem.W.codeRec_of KX hcd) rfl hbd S.nocell (fun y hy => ?_) (fun h₁ hns kp => ?_) S.co S.gen S.kind
  · obtain ⟨n, v⟩ := y
    exact S.par n (List.of_mem_zip hy).1
  · have I : Inv (NdefX.ncx CX0 P w K mg base (ps ++ clsN) (nfx qual params body sc cda cc) fI A outer s H E) [] (NdefX.startF (ps ++ clsN) vs [some (.ref C)]) H { s with heap := h₁, toks := s.toks + (ps.zip us).length } :=
      NdefX.inv_startN (F := nfx qual params body sc cda cc) S hr.hd e0 hl r hC hns kp
    obtain ⟨ta, t, a, hv0, Ha, hPA, hPS, hq⟩ := hbody A outer s H vs Q E (hr.deeper _) hsp
    subst hbo
    obtain ⟨pl, hc⟩ := hcall (NdefX.envF (nfx qual params (.Expr (supE p0 p1 p2 p3 arg) p4 :: rest) sc cda cc) fI s.heap.objs.size)
    obtain ⟨nm, q, N, bs, bm, sn, sub, ab, col, dd, k0, k1, k2, k3, k5, hCl, hbm⟩ := T.cls.cls
    obtain ⟨oc1, od1, vs1, sl1, file, tf, hcode, hvs, hfile⟩ := T.file
    obtain ⟨u0, hu0, ru0⟩ := r.get hv0
    obtain rfl : u0 = Value.ref a := ru0
    have hin : ∀ b o, s.heap.get? b = some o → h₁.get? b = some o := kp
    have KX1 : K.In h₁ := KX.keeps kp
    obtain ⟨t1, hx⟩ := exo_at I.hok Ha
    have ndP : ps.Nodup := by
      have z := S.nd
      exact (List.nodup_append.mp z).1
    have hclsIn : PySem.W.clsIn K C = some { name := nm, bases := bs, mro := .ref C :: bm, ns := N, qualname := q, hasDict := true, slotNames := sn, subclasses := sub, abstract := ab, collection := col, hasDel := false } := by unfold PySem.W.clsIn; rw [hCl] <;> rfl
    obtain ⟨hp, g, dr, tk, os⟩ := s
    show PySem.wpAt (model P w) (A.deeper (NdefX.envF (nfx qual params (.Expr (supE p0 p1 p2 p3 arg) p4 :: rest) sc cda cc) fI hp.objs.size)) (.func (.Expr (supE p0 p1 p2 p3 arg) p4 :: rest) (NdefX.envF (nfx qual params (.Expr (supE p0 p1 p2 p3 arg) p4 :: rest) sc cda cc) fI hp.objs.size))
      (execs (.Expr (supE p0 p1 p2 p3 arg) p4 :: rest) (NdefX.envF (nfx qual params (.Expr (supE p0 p1 p2 p3 arg) p4 :: rest) sc cda cc) fI hp.objs.size)) _ _ _
    refine ks_wpAt_execs_cons (ks_wpAt_Expr_any ?_ I.quiet (hsw _))
    refine ks_wpAt_MethodCall (pl := pl) ?_ hc
    obtain ⟨mb, hb1, hb2⟩ := I.mod.blt
    refine ks_wpAt_super_base (f := fI) (cc := cda) hsup (S.frk "__class__" (by simp)) (by decide) rfl (kp _ _ (KX _ _ lk)) rfl hself rfl (KX1 _ _ hcode) rfl hvs hfile T.top ?_
    refine PySem.W.ks_loadName_global S.kind hsup (Calls.loadGlobal_builtin (I.mod.glob.keeps I.bk) T.gs (hb1.keeps I.bk) ((hb2 "super" (by decide)).trans (by first | rfl | kernel_rfl)) ⟨rfl, ?_⟩)
    refine wpAny_loadName_free S.kind (S.frk "__class__" (by simp)) rfl ⟨_, KX1 _ _ hcell, rfl⟩ ?_
    refine wpAny_loadName_local S.kind (S.par self.arg (List.mem_of_getElem? h0)) hns (NdefX.zip_look ndP h0 hu0) ?_
    refine ks_wpAny_isType_cls (KX1 _ _ hCl) rfl ⟨rfl, ?_⟩
    refine ks_wpAny_call_super (KX1 _ _ hCl) rfl hx rfl (fun c e => by cases e) (PySem.W.looks_mroIn KX1 T.sC) (fun h2 e2 kp2 => ?_)
    have KX2 : K.In h2 := KX1.keeps kp2
    have hx2 := kp2 _ _ hx
    have J0 : PySem.W.InstAt h2 a { cls := .ref C, data := .fields #[.ref t1, .none, .none, .none, .bool false, .none] } C none := ⟨hx2, rfl, rfl, trivial⟩
    have hsu := T.su
    unfold PySem.W.ks_superIn at hsu
    rw [hclsIn] at hsu
    refine PySem.W.kxs_getMethod PySem.W.kxs_ValueError e2 (PySem.W.looks_opaque KX2 T.op) (l₀ := .ref C :: bm) (fun A Q E s k q => wpAny_bind ((PySem.W.looks_clsIn KX2 hclsIn) A _ E s k (wpAny_pure q))) rfl KX2 hsu (J0.type.andThen (PySem.W.looks_subIn KX2 T.sB)) (PySem.W.ks_ne KX2 J0 hclsIn) (by decide) ?_
    have kp3 : ∀ b o, h₁.get? b = some o → (h2.push (PySem.W.kxs_mw "ValueError.__init__" a)).get? b = some o := fun b o e => Heap.get?_push_of_some _ (kp2 b o e)
    have hu3 : (h2.push (PySem.W.kxs_mw "ValueError.__init__" a)).get? h2.objs.size = some (PySem.W.kxs_mw "ValueError.__init__" a) := Heap.get?_push_size _ rfl
    have sz : h₁.objs.size ≤ h2.objs.size := Nat.le_of_lt (Heap.lt_size e2)
    have J1 := I.kept (t' := tk + (ps.zip us).length + 1) kp3
    have J : Inv (NdefX.ncx CX0 P w K mg base (ps ++ clsN) (nfx qual params (.Expr (supE p0 p1 p2 p3 arg) p4 :: rest) sc cda cc) fI A outer ⟨hp, g, dr, tk, os⟩ H E) [(h2.objs.size, PySem.W.kxs_mw "ValueError.__init__" a)] (NdefX.startF (ps ++ clsN) vs [some (.ref C)]) H
        ⟨h2.push (PySem.W.kxs_mw "ValueError.__init__" a), g, dr, tk + (ps.zip us).length + 1, os⟩ := J1.pins_of fun p hp => by
      have e : p = (h2.objs.size, PySem.W.kxs_mw "ValueError.__init__" a) := by simpa using hp
      subst e
      exact ⟨hu3, I.hok.fresh sz, Nat.ne_of_gt (Nat.lt_of_lt_of_le I.lt sz), I.nofs sz, fun v z => by cases z⟩
    show wpAny _ _ (callWith p3 (.ref h2.objs.size) [] (backTo p3 (starEach [arg] _)) []) _ _ _
    have hA := hPA.run p3 _ _ _ H _ J hq
    rw [he] at hA ⊢
    refine PySem.W.kxs_callWith (i := "ValueError.__init__") (x := a) rfl (Calls.evalArgs_plain (thn hA fun us1 s1 hh => ?_))
    obtain ⟨vs2, H1, I1, r1, hz, Ha1, ht⟩ := hh
    obtain ⟨pu, _⟩ := I1.pin (h2.objs.size, PySem.W.kxs_mw "ValueError.__init__" a) (List.mem_append_right _ List.mem_cons_self)
    refine ⟨pu, ?_⟩
    obtain ⟨t4, hx4⟩ := exo_at I1.hok Ha1
    obtain ⟨hp4, g4, dr4, tk4, os4⟩ := s1
    refine exc_call_mw (I1.kIn _ _ hCl) hx4 pu (by show us1.length ≤ sizeLine; rw [← Paired.length r1, sizeLine_eq]; omega) fun h5 t5 k5 e5 => ?_
    have I5 := I1.write (t' := tk4) (x := a) (e := a) (o := exo a C none) (by rw [Ha1]; exact True.intro) (.inl rfl) k5 ⟨_, e5⟩ (exo_ok e5)
    have eu : upd H1 a (exo a C none) = H1 := by
      funext b
      by_cases hb : b = a
      · rw [hb, upd_same, Ha1]
      · rw [upd_ne hb]
    rw [eu] at I5
    refine wpAt_of_wpAny (wpAny_mono (hPS.run _ _ _ H1 _ I5 ht) (fun fl s' hs => ?_) fun e s' hs => hs)
    have fin : ∀ {σ' : L2.St} {H' : Hp} {v : V} {u : Value} {pins : List (Addr × Obj)}, Inv (NdefX.ncx CX0 P w K mg base (ps ++ clsN) (nfx qual params (.Expr (supE p0 p1 p2 p3 arg) p4 :: rest) sc cda cc) fI A outer ⟨hp, g, dr, tk, os⟩ H E) pins σ' H' s' → L2.RelV v u → Q v H' → CE outer P w H ⟨hp, g, dr, tk, os⟩ Q u s' :=
      fun {σ' H' v u pins} J rv q => ⟨v, H', J.os, J.bare, J.base, J.hok, rv, q⟩
    cases fl with
    | ret u =>
      obtain ⟨v, σ', H', J, rv, q⟩ := hs
      exact fin J rv q
    | next =>
      obtain ⟨σ', H', J, q⟩ := hs
      exact fin (v := V.non) (u := Value.none) J rfl q
    | brk =>
      obtain ⟨_, _, _, q⟩ := hs
      exact False.elim q
    | cont =>
      obtain ⟨_, _, _, q⟩ := hs
      exact False.elim q
end
end K96
set_option Elab.async false
set_option linter.all false
set_option maxRecDepth 100000
set_option maxHeartbeats 400000
/-! The facts of an own exception class, as a Bool that the head looks at. -/
namespace K96
open PySem PySem.Spec PyProof.Rows L2
abbrev Pg : Program := PySem.Challenge.pw_heapgame_k96_whole_slides_are_compaction
/-- all that is asked of such a class: its name, its __init__, its fields -/
def SxAll (K : PySem.W.Frag) (mg : Str → Option Value) (x : Str) (st : Stmt) (fs : List Str) : Prop :=
  ∃ (cda cc : Addr) (oc kV doc pm ct : Value) (od an : Option Addr) (osl : Array (Option Value)), SxC Pg K mg (He.ga K x) cda cc ∧ XfC K (He.ga K x) ∧
    PySem.W.findIn K (.ref (He.ga K x)) "__init__" = some (some (.ref (He.ma K (He.ga K x) "__init__"))) ∧ PySem.W.typeIn K (.ref (He.ma K (He.ga K x) "__init__")) = some (.type "function") ∧
    K.lookup (He.ma K (He.ga K x) "__init__") = some ⟨oc, od, .func (PySem.W.ksFn "__init__" (x ++ ".__init__") (defArgs st) (defBody st) (defScope st) .none kV doc pm an (.ref cda) ct cc), osl⟩ ∧
    PySem.W.codeIn K (.ref cda) (x ++ ".__init__") = true ∧ ∀ f ∈ fs, PySem.W.findIn K (.ref (He.ga K x)) f = some none
abbrev XV : Type := Option (Str × Str × Arguments × FuncBody × Scope × Addr × List Str × Addr)
def xObs (K : PySem.W.Frag) (x : Str) : XV := match K.lookup (He.ma K (He.ga K x) "__init__") with
  | some ⟨_, _, .func fd, _⟩ => some (fd.name, fd.qualname, fd.params, fd.body, fd.scope, fd.globals, fd.closure.map (·.1), fd.builtins)
  | _ => none
def xVal (x : Str) (st : Stmt) : XV := some ("__init__", x ++ ".__init__", defArgs st, .stmts (defBody st), defScope st, mainGlobals, clsN, builtinsNs)
def oexB (K : PySem.W.Frag) (C : Addr) : Bool := match K.lookup C with
  | some ⟨.type c, _, .cls cd, sl⟩ => decide (c = "type") && (match cd.mro, sl.toList with
    | .ref C' :: bm, [_, _, _, _, some (.builtin n), _] => decide (C' = C) && (decide (n = "ValueError.__new__") && (!cd.hasDel && (cd.hasDict && PySem.HandSPX.refsVE bm)))
    | _, _ => false)
  | _ => false
def fileV : Option Value → Bool
  | some (.str f _) => (Pg.main.file : Str) == f
  | _ => false
def fileB (K : PySem.W.Frag) (a : Addr) : Bool := match K.lookup a with
  | some ⟨_, _, .fields vs, _⟩ => fileV vs[2]?
  | _ => false
def cellB (K : PySem.W.Frag) (a C : Addr) : Bool := match K.lookup a with
  | some ⟨_, _, .cell (some (.ref D)), _⟩ => decide (D = C)
  | _ => false
def xB (K : PySem.W.Frag) (x : Str) (fs : List Str) : Bool :=
  oexB K (He.ga K x) && (He.eqO (PySem.W.findIn K (.ref (He.ga K x)) "__setattr__") (some (some (.builtin "object.__setattr__"))) && (decide (PySem.W.subIn K (.ref (He.ga K x)) (.type "BaseException") = some true) &&
  (decide (PySem.W.typeIn K (.ref (He.ga K x)) = some (.type "type")) && (PySem.W.keepIn K (.ref (He.ga K x)) && (He.eqO (PySem.W.findIn K (.ref (He.ga K x)) "__init__") (some (some (.ref (He.ma K (He.ga K x) "__init__")))) &&
  (decide (PySem.W.typeIn K (.ref (He.ma K (He.ga K x) "__init__")) = some (.type "function")) && (xfB K (He.ga K x) && (He.eqO (PySem.W.ks_superIn K (He.ga K x) (He.ga K x) "__init__") (some (some (.builtin "ValueError.__init__"))) &&
  (decide (PySem.W.subIn K (.ref (He.ga K x)) (.type "ValueError") = some true) && (decide (PySem.W.mroIn K (He.ga K x) (.ref (He.ga K x)) = some true) && (He.eqO (PySem.W.nsIn K cStatics "thirdparty.any") (some none) &&
  (He.eqO (PySem.W.nsIn K mainGlobals "super") (some none) && (fs.all (fun f => He.eqO (PySem.W.findIn K (.ref (He.ga K x)) f) (some none)) &&
  (match K.lookup (He.ma K (He.ga K x) "__init__") with
  | some ⟨_, _, .func fd, _⟩ => (match fd.defaults, fd.code, fd.closure with
    | .none, .ref cda, [(_, cc)] => PySem.W.codeIn K (.ref cda) (x ++ ".__init__") && (fileB K cda && cellB K cc (He.ga K x))
    | _, _, _ => false)
  | _ => false))))))))))))))
theorem sx_ok {K : PySem.W.Frag} {h : Heap} {mg : Str → Option Value} {x : Str} {st : Stmt} {fs : List Str} (X : K.In h) (G : h.Ns mainGlobals mg) (e : xObs K x = xVal x st ∧ xB K x fs = true) : SxAll K mg x st fs := by
  obtain ⟨eo, eb⟩ := e
  obtain ⟨b1, eb⟩ := He.ba eb
  obtain ⟨b2, eb⟩ := He.ba eb
  obtain ⟨b3, eb⟩ := He.ba eb
  obtain ⟨b4, eb⟩ := He.ba eb
  obtain ⟨b5, eb⟩ := He.ba eb
  obtain ⟨b6, eb⟩ := He.ba eb
  obtain ⟨b7, eb⟩ := He.ba eb
  obtain ⟨b8, eb⟩ := He.ba eb
  obtain ⟨b9, eb⟩ := He.ba eb
  obtain ⟨b10, eb⟩ := He.ba eb
  obtain ⟨b11, eb⟩ := He.ba eb
  obtain ⟨b12, eb⟩ := He.ba eb
  obtain ⟨b13, eb⟩ := He.ba eb
  obtain ⟨b14, eb⟩ := He.ba eb
  have hcls : ∃ nm q N bs bm sn sub ab col dd k0 k1 k2 k3 k5, K.lookup (He.ga K x) = some (excClassObj nm q (He.ga K x) N bs bm true sn sub ab col dd k0 k1 k2 k3 k5 "ValueError.__new__") ∧ PySem.HandSPX.refsVE bm = true := by
    unfold oexB at b1
    cases q : K.lookup (He.ga K x) with
    | none => rw [q] at b1; cases b1
    | some o =>
      obtain ⟨oc, od, dt, osl⟩ := o
      rw [q] at b1
      cases oc with
      | type c =>
        cases dt with
        | cls cd =>
          obtain ⟨nm, bs, mro, ns, qn, hd, sn, sb, ab, col, del⟩ := cd
          obtain ⟨c1, c2⟩ := He.ba b1
          obtain rfl : c = "type" := of_decide_eq_true c1
          obtain ⟨osl⟩ := osl
          match mro, osl, c2 with
          | .ref C' :: bm, [k0, k1, k2, k3, some (.builtin n), k5], c2 =>
            obtain ⟨d1, c2⟩ := He.ba c2
            obtain ⟨d2, c2⟩ := He.ba c2
            obtain ⟨d3, c2⟩ := He.ba c2
            obtain ⟨d4, d5⟩ := He.ba c2
            obtain rfl : C' = He.ga K x := of_decide_eq_true d1
            obtain rfl : n = "ValueError.__new__" := of_decide_eq_true d2
            have d3' : del = false := by simpa using d3
            have d4' : hd = true := d4
            subst d3'; subst d4'
            exact ⟨nm, qn, ns, bs, bm, sn, sb, ab, col, od, k0, k1, k2, k3, k5, rfl, d5⟩
        | _ => cases b1
      | _ => cases dt <;> cases b1
  unfold xObs at eo
  cases q : K.lookup (He.ma K (He.ga K x) "__init__") with
  | none => rw [q] at eb; cases eb
  | some o =>
    obtain ⟨oc, od, dt, osl⟩ := o
    rw [q] at eb eo
    cases dt with
    | func fd =>
      obtain ⟨n1, n2, n3, n4, n5, n6, n7, n8, n9, n10, n11, n12, n13, n14, n15⟩ := fd
      match n8, n13, n7, eb, eo with
      | .none, .ref cda, [(cn, cc)], eb, eo =>
        have e2 : (some (n1, n2, n3, n4, n5, n6, [cn], n15) : XV) = xVal x st := eo
        unfold xVal at e2
        simp only [Option.some.injEq, Prod.mk.injEq] at e2
        obtain ⟨h1, h2, h3, h4, h5, h6, h7, h8⟩ := e2
        obtain rfl : cn = ("__class__" : Str) := (List.cons.inj h7).1
        subst h1 h2 h3 h4 h5 h6 h8
        obtain ⟨f1, eb⟩ := He.ba eb
        obtain ⟨f2, f3⟩ := He.ba eb
        refine ⟨cda, cc, oc, n9, n10, n11, n14, od, n12, osl, ⟨⟨hcls, He.eqO_ok b2, of_decide_eq_true b3, of_decide_eq_true b4, b5⟩, ?_, ?_, He.eqO_ok b9, of_decide_eq_true b10, of_decide_eq_true b11, He.eqO_ok b12, PySem.W.mg_none_of X G (He.eqO_ok b13), ?_⟩, xfB_ok b8, He.eqO_ok b6, of_decide_eq_true b7, q, f1, fun f hf => He.eqO_ok (List.all_eq_true.mp b14 f hf)⟩
        · unfold fileB at f2
          cases r : K.lookup cda with
          | none => rw [r] at f2; cases f2
          | some o2 =>
            obtain ⟨oc2, od2, dt2, osl2⟩ := o2
            rw [r] at f2
            cases dt2 with
            | fields vs =>
              have z : fileV vs[2]? = true := f2
              cases r3 : vs[2]? with
              | none => rw [r3] at z; cases z
              | some v =>
                rw [r3] at z
                cases v with
                | str f t => exact ⟨oc2, od2, vs, osl2, f, t, rfl, r3, z⟩
                | _ => cases z
            | _ => cases f2
        · unfold cellB at f3
          cases r : K.lookup cc with
          | none => rw [r] at f3; cases f3
          | some o2 =>
            obtain ⟨oc2, od2, dt2, osl2⟩ := o2
            rw [r] at f3
            cases dt2 with
            | cell v =>
              cases v with
              | none => cases f3
              | some u =>
                cases u with
                | ref D =>
                  obtain rfl : D = He.ga K x := of_decide_eq_true f3
                  exact ⟨oc2, od2, osl2, rfl⟩
                | _ => cases f3
            | _ => cases f3
        · exact (by kernel_rfl : (Pg.main.scope.names.lookup ("super" : Str)).isSome = false)
    | _ => cases eb
end K96
set_option Elab.async false
set_option linter.all false
set_option maxRecDepth 100000
set_option maxHeartbeats 2000000
/-! What stands in the heap: stores, states, managed heaps, by records of addresses and plain data. -/
namespace K96
open PySem PySem.Spec PyProof.Rows L2
abbrev cOf (K : PySem.W.Frag) (x : Str) : Addr := He.ga K x
/-! ### attributes -/
def srF (od rl : Addr) (n : Int) : List (Str × V) := [("objects", V.ref od), ("roots", V.ref rl), ("next_number", V.int n)]
def stF (so sd : Addr) (c : Int) : List (Str × V) := [("store", V.ref so), ("starts", V.ref sd), ("cursor", V.int c)]
def pmF (z : Int) (p : Str) : List (Str × V) := [("size", V.int z), ("policy", V.str p), ("strategy", V.bl false)]
def mhF (m st el ev : Addr) : List (Str × V) := [("manager", V.ref m), ("state", V.ref st), ("earlier", V.ref el), ("events", V.ref ev)]
def slF (wl sd ld : Addr) (mv : V) (t c : Int) : List (Str × V) := [("words", V.ref wl), ("starts", V.ref sd), ("lengths", V.ref ld), ("moving", mv), ("target", V.int t), ("copied", V.int c)]
theorem few {n : Nat} (h : n ≤ 900) : n < 1000 := Nat.lt_of_le_of_lt h (by decide)
/-! ### keeping -/
/-- all that is tracked, but what stands in F, stays -/
def Kp (F : List Addr) (H H' : Hp) : Prop := ∀ b o, H b = some o → b ∉ F → H' b = some o
theorem Kp.refl {F : List Addr} {H : Hp} : Kp F H H := fun _ _ e _ => e
theorem Kp.trans {F : List Addr} {H H1 H2 : Hp} (a : Kp F H H1) (b : Kp F H1 H2) : Kp F H H2 := fun c o e n => b c o (a c o e n) n
theorem Kp.mono {F G : List Addr} {H H1 : Hp} (a : Kp F H H1) (h : ∀ b ∈ F, b ∈ G) : Kp G H H1 := fun c o e n => a c o e fun q => n (h c q)
theorem Kp.of_same {F : List Addr} {H H1 : Hp} (a : Same H H1) : Kp F H H1 := fun c o e _ => a c o e
theorem Kp.same {H H1 : Hp} (a : Kp [] H H1) : Same H H1 := fun c o e => a c o e (by simp)
theorem Same.kp {F : List Addr} {H H1 H2 : Hp} (a : Same H H1) (b : Kp F H1 H2) : Kp F H H2 := fun c o e n => b c o (a c o e) n
theorem Kp.then_same {F : List Addr} {H H1 H2 : Hp} (a : Kp F H H1) (b : Same H1 H2) : Kp F H H2 := fun c o e n => b c o (a c o e n)
theorem Same.refl {H : Hp} : Same H H := fun _ _ e => e
theorem same_upd {H : Hp} {p : Addr} {o : HO} (h : H p = none) : Same H (upd H p o) := fun b u e => by
  rw [upd_ne (ne_of_none e h)]; exact e
theorem kp_upd {F : List Addr} {H : Hp} {p : Addr} {o : HO} (h : p ∈ F) : Kp F H (upd H p o) := fun b u e n => by
  rw [upd_ne fun q => n (by rw [q]; exact h)]; exact e
theorem same_none {H H1 : Hp} (s : Same H H1) {p : Addr} (h : H1 p = none) : H p = none := s.free h
/-- what stands in G is of F or new -/
def Fr (F : List Addr) (H : Hp) (G : List Addr) : Prop := ∀ b ∈ G, b ∈ F ∨ H b = none
theorem Fr.refl {F : List Addr} {H : Hp} : Fr F H F := fun _ h => .inl h
theorem Fr.apart {F G J : List Addr} {H : Hp} (f : Fr F H G) (hJ : ∀ b ∈ J, b ∉ F) (hs : ∀ b ∈ J, ∃ o, H b = some o) : ∀ b ∈ J, b ∉ G := fun b hb hg => by
  rcases f b hg with h | h
  · exact hJ b hb h
  · obtain ⟨o, e⟩ := hs b hb
    rw [h] at e; cases e
theorem Fr.trans {F G J : List Addr} {H H1 : Hp} (f : Fr F H G) (g : Fr G H1 J) (h : ∀ b, H1 b = none → H b = none) : Fr F H J := fun b hb => by
  rcases g b hb with q | q
  · exact f b q
  · exact .inr (h b q)
/-! ### the store -/
structure Sc where
  so : Addr
  od : Addr
  rl : Addr
  bks : List (Addr × Blk V)
  roots : List Int
  next : Int
def Sc.blks (r : Sc) : List (Blk V) := r.bks.map (·.2)
def Sc.sfp (r : Sc) : List Addr := r.so :: r.od :: r.rl :: r.bks.map (·.1)
def oD (l : List (Addr × Blk V)) : List (Key × V) := l.map fun p => (Sum.inl p.2.num, V.ref p.1)
def sD (l : List (Blk V)) : List (Key × V) := l.map fun b => (Sum.inl b.num, V.int b.start)
structure StoreAt (K : PySem.W.Frag) (H : Hp) (r : Sc) : Prop where
  ins : ∃ dx, H r.so = some (.ins (cOf K "Store") dx (srF r.od r.rl r.next))
  objs : H r.od = some (.dK (oD r.bks))
  rts : H r.rl = some (.lst (r.roots.map V.int))
  lst : ∀ p ∈ r.bks, H p.1 = some (.lst p.2.fs)
  nd : r.sfp.Nodup
  nums : (r.blks.map (·.num)).Nodup
  small : r.bks.length ≤ 64
/-! ### the state -/
structure Rc extends Sc where
  st : Addr
  sd : Addr
  cur : Int
def Rc.fp (r : Rc) : List Addr := r.st :: r.sd :: r.toSc.sfp
structure StAt (K : PySem.W.Frag) (H : Hp) (r : Rc) : Prop where
  store : StoreAt K H r.toSc
  ins : ∃ dx, H r.st = some (.ins (cOf K "State") dx (stF r.so r.sd r.cur))
  sts : H r.sd = some (.dK (sD r.toSc.blks))
  nd : r.fp.Nodup
/-! ### the managed heap -/
structure Hc where
  h : Addr
  m : Addr
  el : Addr
  evl : Addr
  es : List V
  evs : List V
  rc : Rc
  size : Int
  pol : Str
def Hc.fp (p : Hc) : List Addr := p.h :: p.el :: p.evl :: p.rc.fp
structure HeapAt (K : PySem.W.Frag) (H : Hp) (p : Hc) : Prop where
  ins : ∃ dx, H p.h = some (.ins (cOf K "ManagedHeap") dx (mhF p.m p.rc.st p.el p.evl))
  man : ∃ dx, H p.m = some (.ins (cOf K "PolicyManager") dx (pmF p.size p.pol))
  st : StAt K H p.rc
  ear : H p.el = some (.lst p.es)
  evs : H p.evl = some (.lst p.evs)
  nd : p.fp.Nodup
  mfp : p.m ∉ p.fp
  few1 : p.es.length ≤ 1000
  few2 : p.evs.length ≤ 1000
/-! ### frames -/
section
variable {K : PySem.W.Frag} {H H' : Hp}
theorem StoreAt.some_ {r : Sc} (a : StoreAt K H r) : ∀ b ∈ r.sfp, ∃ o, H b = some o := fun b hb => by
  unfold Sc.sfp at hb
  rcases List.mem_cons.mp hb with rfl | hb
  · obtain ⟨dx, e⟩ := a.ins; exact ⟨_, e⟩
  rcases List.mem_cons.mp hb with rfl | hb
  · exact ⟨_, a.objs⟩
  rcases List.mem_cons.mp hb with rfl | hb
  · exact ⟨_, a.rts⟩
  obtain ⟨p, hp, rfl⟩ := List.mem_map.mp hb
  exact ⟨_, a.lst p hp⟩
theorem StoreAt.keep {r : Sc} (a : StoreAt K H r) (k : ∀ b ∈ r.sfp, ∀ o, H b = some o → H' b = some o) : StoreAt K H' r := by
  obtain ⟨⟨dx, e1⟩, e2, e3, e4, e5, e6, e7⟩ := a
  exact ⟨⟨dx, k _ (by simp [Sc.sfp]) _ e1⟩, k _ (by simp [Sc.sfp]) _ e2, k _ (by simp [Sc.sfp]) _ e3, fun p hp => k _ (by
    unfold Sc.sfp
    exact List.mem_cons_of_mem _ (List.mem_cons_of_mem _ (List.mem_cons_of_mem _ (List.mem_map_of_mem hp)))) _ (e4 p hp), e5, e6, e7⟩
theorem StoreAt.frame {r : Sc} {F : List Addr} (a : StoreAt K H r) (k : Kp F H H') (d : ∀ b ∈ r.sfp, b ∉ F) : StoreAt K H' r := a.keep fun b hb o e => k b o e (d b hb)
theorem StoreAt.same {r : Sc} (a : StoreAt K H r) (k : Same H H') : StoreAt K H' r := a.keep fun b _ o e => k b o e
theorem sfp_fp {r : Rc} {b : Addr} (h : b ∈ r.toSc.sfp) : b ∈ r.fp := List.mem_cons_of_mem _ (List.mem_cons_of_mem _ h)
theorem StAt.some_ {r : Rc} (a : StAt K H r) : ∀ b ∈ r.fp, ∃ o, H b = some o := fun b hb => by
  unfold Rc.fp at hb
  rcases List.mem_cons.mp hb with rfl | hb
  · obtain ⟨dx, e⟩ := a.ins; exact ⟨_, e⟩
  rcases List.mem_cons.mp hb with rfl | hb
  · exact ⟨_, a.sts⟩
  exact a.store.some_ b hb
theorem StAt.keep {r : Rc} (a : StAt K H r) (k : ∀ b ∈ r.fp, ∀ o, H b = some o → H' b = some o) : StAt K H' r := by
  obtain ⟨e1, ⟨dx, e2⟩, e3, e4⟩ := a
  exact ⟨e1.keep fun b hb => k b (sfp_fp hb), ⟨dx, k _ (by simp [Rc.fp]) _ e2⟩, k _ (by simp [Rc.fp]) _ e3, e4⟩
theorem StAt.frame {r : Rc} {F : List Addr} (a : StAt K H r) (k : Kp F H H') (d : ∀ b ∈ r.fp, b ∉ F) : StAt K H' r := a.keep fun b hb o e => k b o e (d b hb)
theorem StAt.same {r : Rc} (a : StAt K H r) (k : Same H H') : StAt K H' r := a.keep fun b _ o e => k b o e
theorem HeapAt.some_ {p : Hc} (a : HeapAt K H p) : ∀ b ∈ p.fp, ∃ o, H b = some o := fun b hb => by
  unfold Hc.fp at hb
  rcases List.mem_cons.mp hb with rfl | hb
  · obtain ⟨dx, e⟩ := a.ins; exact ⟨_, e⟩
  rcases List.mem_cons.mp hb with rfl | hb
  · exact ⟨_, a.ear⟩
  rcases List.mem_cons.mp hb with rfl | hb
  · exact ⟨_, a.evs⟩
  exact a.st.some_ b hb
theorem fp_hfp {p : Hc} {b : Addr} (h : b ∈ p.rc.fp) : b ∈ p.fp := List.mem_cons_of_mem _ (List.mem_cons_of_mem _ (List.mem_cons_of_mem _ h))
theorem HeapAt.frame {p : Hc} {F : List Addr} (a : HeapAt K H p) (k : Kp F H H') (d : ∀ b ∈ p.fp, b ∉ F) (dm : p.m ∉ F) : HeapAt K H' p := by
  obtain ⟨⟨d1, e1⟩, ⟨d2, e2⟩, e3, e4, e5, e6, e7, e8, e9⟩ := a
  exact ⟨⟨d1, k _ _ e1 (d _ (by simp [Hc.fp]))⟩, ⟨d2, k _ _ e2 dm⟩, e3.frame k fun b hb => d b (fp_hfp hb), k _ _ e4 (d _ (by simp [Hc.fp])), k _ _ e5 (d _ (by simp [Hc.fp])), e6, e7, e8, e9⟩
theorem HeapAt.same {p : Hc} (a : HeapAt K H p) (k : Same H H') : HeapAt K H' p := a.frame (F := []) (Kp.of_same k) (fun _ _ => by simp) (by simp)
end
/-! ### the dicts -/
theorem valV_oD {l : List (Addr × Blk V)} (nd : (l.map fun p => p.2.num).Nodup) {p : Addr × Blk V} (hp : p ∈ l) : valV (oD l) (Sum.inl p.2.num : Key) = some (V.ref p.1) := by
  induction l with
  | nil => cases hp
  | cons q r ih =>
    have nd' := List.nodup_cons.mp nd
    show valV ((Sum.inl q.2.num, V.ref q.1) :: oD r) _ = _
    rcases List.mem_cons.mp hp with rfl | hp
    · exact valV_pos rfl
    · have hne : ¬ (Sum.inl q.2.num : Key) = Sum.inl p.2.num := fun e => nd'.1 (by
        show q.2.num ∈ _
        rw [Sum.inl.inj e]; exact List.mem_map_of_mem (f := fun p : Addr × Blk V => p.2.num) hp)
      rw [valV_neg hne]
      exact ih nd'.2 hp
theorem valV_oD_none {l : List (Addr × Blk V)} {k : Int} (h : k ∉ l.map fun p => p.2.num) : valV (oD l) (Sum.inl k : Key) = none := by
  induction l with
  | nil => rfl
  | cons q r ih =>
    show valV ((Sum.inl q.2.num, V.ref q.1) :: oD r) _ = _
    rw [valV_neg fun e => h (by rw [← Sum.inl.inj e]; exact List.mem_map_of_mem (f := fun p : Addr × Blk V => p.2.num) (List.mem_cons_self ..))]
    exact ih fun q' => h (List.mem_cons_of_mem _ q')
theorem valV_sD {l : List (Blk V)} (nd : (l.map (·.num)).Nodup) {b : Blk V} (hb : b ∈ l) : valV (sD l) (Sum.inl b.num : Key) = some (V.int b.start) := by
  induction l with
  | nil => cases hb
  | cons q r ih =>
    have nd' := List.nodup_cons.mp nd
    show valV ((Sum.inl q.num, V.int q.start) :: sD r) _ = _
    rcases List.mem_cons.mp hb with rfl | hb
    · exact valV_pos rfl
    · have hne : ¬ (Sum.inl q.num : Key) = Sum.inl b.num := fun e => nd'.1 (by
        show q.num ∈ _
        rw [Sum.inl.inj e]; exact List.mem_map_of_mem hb)
      rw [valV_neg hne]
      exact ih nd'.2 hb
theorem valV_sD_none {l : List (Blk V)} {k : Int} (h : k ∉ l.map (·.num)) : valV (sD l) (Sum.inl k : Key) = none := by
  induction l with
  | nil => rfl
  | cons q r ih =>
    show valV ((Sum.inl q.num, V.int q.start) :: sD r) _ = _
    rw [valV_neg fun e => h (by rw [← Sum.inl.inj e]; exact List.mem_map_of_mem (f := fun b : Blk V => b.num) (List.mem_cons_self ..))]
    exact ih fun q' => h (List.mem_cons_of_mem _ q')
theorem dropK_oD (l : List (Addr × Blk V)) (k : Int) : dropK (oD l) (Sum.inl k : Key) = oD (l.filter fun p => decide (p.2.num ≠ k)) := by
  unfold dropK oD
  rw [List.filter_map]
  congr 1
  apply List.filter_congr
  intro p _
  show decide ((Sum.inl p.2.num : Key) ≠ Sum.inl k) = decide (p.2.num ≠ k)
  by_cases h : p.2.num = k
  · rw [h]; simp
  · have h2 : (Sum.inl p.2.num : Key) ≠ Sum.inl k := fun e => h (Sum.inl.inj e)
    rw [decide_eq_true h, decide_eq_true h2]
theorem dropK_sD (l : List (Blk V)) (k : Int) : dropK (sD l) (Sum.inl k : Key) = sD (l.filter fun b => decide (b.num ≠ k)) := by
  unfold dropK sD
  rw [List.filter_map]
  congr 1
  apply List.filter_congr
  intro b _
  show decide ((Sum.inl b.num : Key) ≠ Sum.inl k) = decide (b.num ≠ k)
  by_cases h : b.num = k
  · rw [h]; simp
  · have h2 : (Sum.inl b.num : Key) ≠ Sum.inl k := fun e => h (Sum.inl.inj e)
    rw [decide_eq_true h, decide_eq_true h2]
theorem putK_oD_new {l : List (Addr × Blk V)} {k : Int} {a : Addr} {b : Blk V} (hb : b.num = k) (h : k ∉ l.map fun p => p.2.num) : putK (oD l) (Sum.inl k : Key) (V.ref a) = oD (l ++ [(a, b)]) := by
  rw [putK_new _ (valV_oD_none h)]
  unfold oD
  rw [List.map_append]
  subst hb
  rfl
theorem putK_sD_new {l : List (Blk V)} {k s : Int} {b : Blk V} (hb : b.num = k) (hs : b.start = s) (h : k ∉ l.map (·.num)) : putK (sD l) (Sum.inl k : Key) (V.int s) = sD (l ++ [b]) := by
  rw [putK_new _ (valV_sD_none h)]
  unfold sD
  rw [List.map_append]
  subst hb; subst hs
  rfl
theorem putK_old {kvs : List (Key × V)} {k : Key} {v w : V} (h : valV kvs k = some w) : putK kvs k v = kvs.map fun kv => if kv.1 = k then (kv.1, v) else kv := by
  unfold putK
  have e : (kvs.any fun kv => decide (kv.1 = k)) = true := by rw [valV_any, h]; rfl
  rw [if_pos e]
theorem putK_sD_old {l : List (Blk V)} {k s : Int} (h : k ∈ l.map (·.num)) (nd : (l.map (·.num)).Nodup) : putK (sD l) (Sum.inl k : Key) (V.int s) = sD (setS k s l) := by
  obtain ⟨b, hb, rfl⟩ := List.mem_map.mp h
  rw [putK_old (valV_sD nd hb)]
  unfold sD setS
  rw [List.map_map, List.map_map]
  apply List.map_congr_left
  intro c _
  show (if (Sum.inl c.num : Key) = Sum.inl b.num then ((Sum.inl c.num : Key), V.int s) else (Sum.inl c.num, V.int c.start)) = _
  by_cases e : c.num = b.num
  · have e2 : (Sum.inl c.num : Key) = Sum.inl b.num := by rw [e]
    rw [if_pos e2]
    show _ = ((Sum.inl (if c.num = b.num then ({ c with start := s } : Blk V) else c).num : Key), V.int (if c.num = b.num then ({ c with start := s } : Blk V) else c).start)
    rw [if_pos e]
  · have e2 : ¬ (Sum.inl c.num : Key) = Sum.inl b.num := fun q => e (Sum.inl.inj q)
    rw [if_neg e2]
    show _ = ((Sum.inl (if c.num = b.num then ({ c with start := s } : Blk V) else c).num : Key), V.int (if c.num = b.num then ({ c with start := s } : Blk V) else c).start)
    rw [if_neg e]
/-! ### the values -/
/-- the reference's number, if the value is a reference -/
def tgt (H : Hp) (v : V) : Option Int := match v with
  | .ref t => (match H t with
    | some (.tup [_, .int k]) => some k
    | _ => none)
  | _ => none
/-- None, an int, a reference -/
def VOk (H : Hp) (v : V) : Prop := v = .non ∨ (∃ n, v = .int n) ∨ ∃ (t : Addr) (k : Int), v = .ref t ∧ H t = some (.tup [.str "object", .int k])
theorem tgt_non {H : Hp} : tgt H .non = none := rfl
theorem tgt_int {H : Hp} {n : Int} : tgt H (.int n) = none := rfl
theorem tgt_ref {H : Hp} {t : Addr} {x : V} {k : Int} (h : H t = some (.tup [x, .int k])) : tgt H (.ref t) = some k := by
  show (match H t with
    | some (.tup [_, .int k]) => some k
    | _ => none) = some k
  rw [h]
theorem VOk.mono {H H' : Hp} {v : V} (h : VOk H v) (k : ∀ t xs, H t = some (.tup xs) → H' t = some (.tup xs)) : VOk H' v ∧ tgt H' v = tgt H v := by
  rcases h with rfl | ⟨n, rfl⟩ | ⟨t, j, rfl, e⟩
  · exact ⟨.inl rfl, rfl⟩
  · exact ⟨.inr (.inl ⟨n, rfl⟩), rfl⟩
  · exact ⟨.inr (.inr ⟨t, j, rfl, k _ _ e⟩), by rw [tgt_ref (k _ _ e), tgt_ref e]⟩
/-- tuples stay -/
def Tp (H H' : Hp) : Prop := ∀ t xs, H t = some (.tup xs) → H' t = some (.tup xs)
theorem Tp.of_same {H H' : Hp} (k : Same H H') : Tp H H' := fun t xs e => k t _ e
theorem Tp.of_kp {F : List Addr} {H H' : Hp} (k : Kp F H H') (h : ∀ b ∈ F, ∀ xs, H b ≠ some (.tup xs)) : Tp H H' := fun t xs e => k t _ e fun q => h t q xs e
/-! ### what holds of the data -/
structure Wf (size : Int) (H : Hp) (r : Sc) : Prop where
  asc : (r.blks.map (·.num)).Pairwise (· < ·)
  lt : ∀ b ∈ r.blks, 0 ≤ b.num ∧ b.num < r.next
  nx : 0 ≤ r.next
  ord : ∃ pk bs, Ord size pk r.blks bs
  val : ∀ b ∈ r.blks, ∀ v ∈ b.fs, VOk H v
  ref : ∀ b ∈ r.blks, ∀ v ∈ b.fs, ∀ k, tgt H v = some k → k ∈ r.blks.map (·.num)
  rts : ∀ k ∈ r.roots, k ∈ r.blks.map (·.num)
  rnd : r.roots.Nodup
theorem Wf.mono {size : Int} {H H' : Hp} {r : Sc} (a : Wf size H r) (k : Tp H H') : Wf size H' r := by
  obtain ⟨e1, e2, e3, e4, e5, e6, e7, e8⟩ := a
  exact ⟨e1, e2, e3, e4, fun b hb v hv => ((e5 b hb v hv).mono k).1, fun b hb v hv j hj => e6 b hb v hv j (by rw [← ((e5 b hb v hv).mono k).2]; exact hj), e7, e8⟩
theorem nodup_sub_len {α : Type} [DecidableEq α] : ∀ {l m : List α}, l.Nodup → (∀ x ∈ l, x ∈ m) → l.length ≤ m.length
  | [], _, _, _ => Nat.zero_le _
  | a :: r, m, nd, h => by
    have nd' := List.nodup_cons.mp nd
    have ha : a ∈ m := h a (List.mem_cons_self ..)
    have ih := nodup_sub_len (m := m.erase a) nd'.2 fun x hx => by
      have hne : x ≠ a := fun e => nd'.1 (by rw [← e]; exact hx)
      exact (List.mem_erase_of_ne hne).mpr (h x (List.mem_cons_of_mem _ hx))
    rw [List.length_erase_of_mem ha] at ih
    have : 0 < m.length := List.length_pos_of_mem ha
    simp only [List.length_cons]
    omega
theorem Wf.nums {size : Int} {H : Hp} {r : Sc} (a : Wf size H r) : (r.blks.map (·.num)).Nodup := a.asc.imp fun h => by omega
theorem Wf.len {size : Int} {H : Hp} {r : Sc} (a : Wf size H r) : (r.bks.length : Int) ≤ size := by
  obtain ⟨pk, bs, o⟩ := a.ord
  have := o.len
  unfold Sc.blks at this
  rw [List.length_map] at this
  exact this
theorem Wf.rlen {size : Int} {H : Hp} {r : Sc} (a : Wf size H r) : r.roots.length ≤ r.bks.length := by
  have := nodup_sub_len a.rnd a.rts
  unfold Sc.blks at this
  rw [List.length_map, List.length_map] at this
  exact this
/-! ### lists of pairs, of triples -/
/-- at p: a list of tuples of two ints each -/
def PairsAt (H : Hp) (p : Addr) (l : List (Int × Int)) : Prop := ∃ ts : List Addr, H p = some (.lst (ts.map V.ref)) ∧ ts.length = l.length ∧ ∀ (i : Nat) (t : Addr) (x : Int × Int), ts[i]? = some t → l[i]? = some x → H t = some (.tup [.int x.1, .int x.2])
theorem PairsAt.same {H H' : Hp} {p : Addr} {l : List (Int × Int)} (a : PairsAt H p l) (k : Same H H') : PairsAt H' p l := by
  obtain ⟨ts, e1, e2, e3⟩ := a
  exact ⟨ts, k _ _ e1, e2, fun i t x h1 h2 => k _ _ (e3 i t x h1 h2)⟩
theorem PairsAt.frame {H H' : Hp} {F : List Addr} {p : Addr} {l : List (Int × Int)} (a : PairsAt H p l) (k : Kp F H H') (hp : p ∉ F) (ht : Tp H H') : PairsAt H' p l := by
  obtain ⟨ts, e1, e2, e3⟩ := a
  exact ⟨ts, k _ _ e1 hp, e2, fun i t x h1 h2 => ht _ _ (e3 i t x h1 h2)⟩
/-- the i-th item of such a list -/
theorem PairsAt.item {H : Hp} {p : Addr} {l : List (Int × Int)} {ts : List Addr} (e2 : ts.length = l.length) (e3 : ∀ (i : Nat) (t : Addr) (x : Int × Int), ts[i]? = some t → l[i]? = some x → H t = some (.tup [.int x.1, .int x.2]))
    {i : Nat} {y : V} (hi : (ts.map V.ref)[i]? = some y) : ∃ t x, y = V.ref t ∧ ts[i]? = some t ∧ l[i]? = some x ∧ H t = some (.tup [.int x.1, .int x.2]) := by
  rw [List.getElem?_map] at hi
  cases e : ts[i]? with
  | none => rw [e] at hi; cases hi
  | some t =>
    rw [e] at hi
    have hl : i < l.length := by rw [← e2]; exact (List.getElem?_eq_some_iff.mp e).1
    exact ⟨t, l[i], (Option.some.inj hi).symm, rfl, List.getElem?_eq_getElem hl, e3 i t _ e (List.getElem?_eq_getElem hl)⟩
end K96
set_option Elab.async false
set_option linter.all false
set_option maxRecDepth 100000
set_option maxHeartbeats 2000000
namespace K96
open PySem PySem.Spec PyProof.Rows L2
/-- what the walk asks of the program's top -/
structure Top (K : PySem.W.Frag) (mg : Str → Option Value) : Prop where
  mg_slider_of : mg "slider_of" = some (.ref (He.ga K "slider_of"))
  mg_gaps : mg "gaps" = some (.ref (He.ga K "gaps"))
  mg_canonical : mg "canonical" = some (.ref (He.ga K "canonical"))
  mg_relocation_map : mg "relocation_map" = some (.ref (He.ga K "relocation_map"))
  mg_slide_left : mg "slide_left" = some (.ref (He.ga K "slide_left"))
  mg_places : mg "places" = some (.ref (He.ga K "places"))
  mg_first_place : mg "first_place" = some (.ref (He.ga K "first_place"))
  mg_place_block : mg "place_block" = some (.ref (He.ga K "place_block"))
  mg_target_of : mg "target_of" = some (.ref (He.ga K "target_of"))
  mg_policy_heap : mg "policy_heap" = some (.ref (He.ga K "policy_heap"))
  mg__law_cell : mg "_law_cell" = some (.ref (He.ga K "_law_cell"))
  mg__law_row : mg "_law_row" = some (.ref (He.ga K "_law_row"))
  mg__law_box : mg "_law_box" = some (.ref (He.ga K "_law_box"))
  mg__law_draw : mg "_law_draw" = some (.ref (He.ga K "_law_draw"))
  mg__law_value : mg "_law_value" = some (.ref (He.ga K "_law_value"))
  mg__law_deed : mg "_law_deed" = some (.ref (He.ga K "_law_deed"))
  mg__law_change : mg "_law_change" = some (.ref (He.ga K "_law_change"))
  mg_law : mg "law" = some (.ref (He.ga K "law"))
  mg_Slider : mg "Slider" = some (.ref (He.ga K "Slider"))
  mg_Store : mg "Store" = some (.ref (He.ga K "Store"))
  mg_PolicyManager : mg "PolicyManager" = some (.ref (He.ga K "PolicyManager"))
  mg_State : mg "State" = some (.ref (He.ga K "State"))
  mg_ManagedHeap : mg "ManagedHeap" = some (.ref (He.ga K "ManagedHeap"))
  mg_OutOfMemory : mg "OutOfMemory" = some (.ref (He.ga K "OutOfMemory"))
  mg_NotAllowed : mg "NotAllowed" = some (.ref (He.ga K "NotAllowed"))
  mg_NoRoom : mg "NoRoom" = some (.ref (He.ga K "NoRoom"))
  mg_NoSuchObject : mg "NoSuchObject" = some (.ref (He.ga K "NoSuchObject"))
  mg_NoSuchField : mg "NoSuchField" = some (.ref (He.ga K "NoSuchField"))
  mg_StillUsed : mg "StillUsed" = some (.ref (He.ga K "StillUsed"))
  mg_HeapgameError : mg "HeapgameError" = some (.ref (He.ga K "HeapgameError"))
  mg_StrategyDecides : mg "StrategyDecides" = some (.ref (He.ga K "StrategyDecides"))
  fr_len : mg "len" = none
  fr_sorted : mg "sorted" = none
  fr_range : mg "range" = none
  fr_isinstance : mg "isinstance" = none
  fr_tuple : mg "tuple" = none
  fr_list : mg "list" = none
  fr_dict : mg "dict" = none
  fr_set : mg "set" = none
  fr_zip : mg "zip" = none
  fr_enumerate : mg "enumerate" = none
  fr_max : mg "max" = none
  fr_int : mg "int" = none
  fr_super : mg "super" = none
  cl_Slider : Cls K (He.ga K "Slider")
  mk_Slider : Mk K (He.ga K "Slider") (He.ma K (He.ga K "Slider") "__init__")
  na_Slider_words : NoAttr K (He.ga K "Slider") "words"
  na_Slider_starts : NoAttr K (He.ga K "Slider") "starts"
  na_Slider_lengths : NoAttr K (He.ga K "Slider") "lengths"
  na_Slider_moving : NoAttr K (He.ga K "Slider") "moving"
  na_Slider_target : NoAttr K (He.ga K "Slider") "target"
  na_Slider_copied : NoAttr K (He.ga K "Slider") "copied"
  me_Slider_layout : Meth K (He.ga K "Slider") "layout" (He.ma K (He.ga K "Slider") "layout")
  me_Slider_cell : Meth K (He.ga K "Slider") "cell" (He.ma K (He.ga K "Slider") "cell")
  me_Slider_write : Meth K (He.ga K "Slider") "write" (He.ma K (He.ga K "Slider") "write")
  me_Slider_begin : Meth K (He.ga K "Slider") "begin" (He.ma K (He.ga K "Slider") "begin")
  me_Slider_finish : Meth K (He.ga K "Slider") "finish" (He.ma K (He.ga K "Slider") "finish")
  me_Slider_step : Meth K (He.ga K "Slider") "step" (He.ma K (He.ga K "Slider") "step")
  me_Slider_work : Meth K (He.ga K "Slider") "work" (He.ma K (He.ga K "Slider") "work")
  cl_Store : Cls K (He.ga K "Store")
  mk_Store : Mk K (He.ga K "Store") (He.ma K (He.ga K "Store") "__init__")
  na_Store_objects : NoAttr K (He.ga K "Store") "objects"
  na_Store_roots : NoAttr K (He.ga K "Store") "roots"
  na_Store_next_number : NoAttr K (He.ga K "Store") "next_number"
  me_Store_copy : Meth K (He.ga K "Store") "copy" (He.ma K (He.ga K "Store") "copy")
  me_Store_numbers : Meth K (He.ga K "Store") "numbers" (He.ma K (He.ga K "Store") "numbers")
  me_Store_fields : Meth K (He.ga K "Store") "fields" (He.ma K (He.ga K "Store") "fields")
  me_Store_make : Meth K (He.ga K "Store") "make" (He.ma K (He.ga K "Store") "make")
  me_Store_read : Meth K (He.ga K "Store") "read" (He.ma K (He.ga K "Store") "read")
  me_Store_write : Meth K (He.ga K "Store") "write" (He.ma K (He.ga K "Store") "write")
  me_Store_is_referenced : Meth K (He.ga K "Store") "is_referenced" (He.ma K (He.ga K "Store") "is_referenced")
  me_Store_release : Meth K (He.ga K "Store") "release" (He.ma K (He.ga K "Store") "release")
  me_Store_add_root : Meth K (He.ga K "Store") "add_root" (He.ma K (He.ga K "Store") "add_root")
  me_Store_remove_root : Meth K (He.ga K "Store") "remove_root" (He.ma K (He.ga K "Store") "remove_root")
  me_Store_reachable : Meth K (He.ga K "Store") "reachable" (He.ma K (He.ga K "Store") "reachable")
  me_Store_collect : Meth K (He.ga K "Store") "collect" (He.ma K (He.ga K "Store") "collect")
  cl_PolicyManager : Cls K (He.ga K "PolicyManager")
  mk_PolicyManager : Mk K (He.ga K "PolicyManager") (He.ma K (He.ga K "PolicyManager") "__init__")
  na_PolicyManager_size : NoAttr K (He.ga K "PolicyManager") "size"
  na_PolicyManager_policy : NoAttr K (He.ga K "PolicyManager") "policy"
  na_PolicyManager_strategy : NoAttr K (He.ga K "PolicyManager") "strategy"
  me_PolicyManager_place : Meth K (He.ga K "PolicyManager") "place" (He.ma K (He.ga K "PolicyManager") "place")
  cl_State : Cls K (He.ga K "State")
  mk_State : Mk K (He.ga K "State") (He.ma K (He.ga K "State") "__init__")
  na_State_store : NoAttr K (He.ga K "State") "store"
  na_State_starts : NoAttr K (He.ga K "State") "starts"
  na_State_cursor : NoAttr K (He.ga K "State") "cursor"
  me_State_copy : Meth K (He.ga K "State") "copy" (He.ma K (He.ga K "State") "copy")
  cl_ManagedHeap : Cls K (He.ga K "ManagedHeap")
  mk_ManagedHeap : Mk K (He.ga K "ManagedHeap") (He.ma K (He.ga K "ManagedHeap") "__init__")
  na_ManagedHeap_manager : NoAttr K (He.ga K "ManagedHeap") "manager"
  na_ManagedHeap_state : NoAttr K (He.ga K "ManagedHeap") "state"
  na_ManagedHeap_earlier : NoAttr K (He.ga K "ManagedHeap") "earlier"
  na_ManagedHeap_events : NoAttr K (He.ga K "ManagedHeap") "events"
  me_ManagedHeap_layout : Meth K (He.ga K "ManagedHeap") "layout" (He.ma K (He.ga K "ManagedHeap") "layout")
  me_ManagedHeap_number_at : Meth K (He.ga K "ManagedHeap") "number_at" (He.ma K (He.ga K "ManagedHeap") "number_at")
  me_ManagedHeap_word : Meth K (He.ga K "ManagedHeap") "word" (He.ma K (He.ga K "ManagedHeap") "word")
  me_ManagedHeap_words : Meth K (He.ga K "ManagedHeap") "words" (He.ma K (He.ga K "ManagedHeap") "words")
  me_ManagedHeap_relocate : Meth K (He.ga K "ManagedHeap") "relocate" (He.ma K (He.ga K "ManagedHeap") "relocate")
  me_ManagedHeap_moving : Meth K (He.ga K "ManagedHeap") "moving" (He.ma K (He.ga K "ManagedHeap") "moving")
  me_ManagedHeap_do_allocate : Meth K (He.ga K "ManagedHeap") "do_allocate" (He.ma K (He.ga K "ManagedHeap") "do_allocate")
  me_ManagedHeap_do_release : Meth K (He.ga K "ManagedHeap") "do_release" (He.ma K (He.ga K "ManagedHeap") "do_release")
  me_ManagedHeap_do_collect : Meth K (He.ga K "ManagedHeap") "do_collect" (He.ma K (He.ga K "ManagedHeap") "do_collect")
  me_ManagedHeap_do_compact : Meth K (He.ga K "ManagedHeap") "do_compact" (He.ma K (He.ga K "ManagedHeap") "do_compact")
  me_ManagedHeap_do_slide : Meth K (He.ga K "ManagedHeap") "do_slide" (He.ma K (He.ga K "ManagedHeap") "do_slide")
  me_ManagedHeap_perform : Meth K (He.ga K "ManagedHeap") "perform" (He.ma K (He.ga K "ManagedHeap") "perform")
  me_ManagedHeap_change : Meth K (He.ga K "ManagedHeap") "change" (He.ma K (He.ga K "ManagedHeap") "change")
  me_ManagedHeap_write : Meth K (He.ga K "ManagedHeap") "write" (He.ma K (He.ga K "ManagedHeap") "write")
  me_ManagedHeap_compact : Meth K (He.ga K "ManagedHeap") "compact" (He.ma K (He.ga K "ManagedHeap") "compact")
  me_ManagedHeap_slide : Meth K (He.ga K "ManagedHeap") "slide" (He.ma K (He.ga K "ManagedHeap") "slide")
  me_ManagedHeap_branch : Meth K (He.ga K "ManagedHeap") "branch" (He.ma K (He.ga K "ManagedHeap") "branch")
  ex_NoSuchObject_NoSuchObject : PySem.W.exmOne K (.ref (He.ga K "NoSuchObject")) (.ref (He.ga K "NoSuchObject")) = some true
  ex_NoSuchObject_HeapgameError : PySem.W.exmOne K (.ref (He.ga K "NoSuchObject")) (.ref (He.ga K "HeapgameError")) = some true
  ex_NoSuchField_NoSuchObject : PySem.W.exmOne K (.ref (He.ga K "NoSuchField")) (.ref (He.ga K "NoSuchObject")) = some false
  ex_NoSuchField_NoSuchField : PySem.W.exmOne K (.ref (He.ga K "NoSuchField")) (.ref (He.ga K "NoSuchField")) = some true
  ex_NoSuchField_HeapgameError : PySem.W.exmOne K (.ref (He.ga K "NoSuchField")) (.ref (He.ga K "HeapgameError")) = some true
  ex_StillUsed_NoSuchObject : PySem.W.exmOne K (.ref (He.ga K "StillUsed")) (.ref (He.ga K "NoSuchObject")) = some false
  ex_StillUsed_NoSuchField : PySem.W.exmOne K (.ref (He.ga K "StillUsed")) (.ref (He.ga K "NoSuchField")) = some false
  ex_StillUsed_StillUsed : PySem.W.exmOne K (.ref (He.ga K "StillUsed")) (.ref (He.ga K "StillUsed")) = some true
  ex_StillUsed_HeapgameError : PySem.W.exmOne K (.ref (He.ga K "StillUsed")) (.ref (He.ga K "HeapgameError")) = some true
  ex_OutOfMemory_NoSuchObject : PySem.W.exmOne K (.ref (He.ga K "OutOfMemory")) (.ref (He.ga K "NoSuchObject")) = some false
  ex_OutOfMemory_NoSuchField : PySem.W.exmOne K (.ref (He.ga K "OutOfMemory")) (.ref (He.ga K "NoSuchField")) = some false
  ex_OutOfMemory_StillUsed : PySem.W.exmOne K (.ref (He.ga K "OutOfMemory")) (.ref (He.ga K "StillUsed")) = some false
  ex_OutOfMemory_OutOfMemory : PySem.W.exmOne K (.ref (He.ga K "OutOfMemory")) (.ref (He.ga K "OutOfMemory")) = some true
  ex_OutOfMemory_HeapgameError : PySem.W.exmOne K (.ref (He.ga K "OutOfMemory")) (.ref (He.ga K "HeapgameError")) = some true
  d_slider_of : ∃ fd, FunD K "slider_of" "slider_of" (defArgs s_slider_of) (defBody s_slider_of) (defScope s_slider_of) [] [] (He.ga K "slider_of") fd
  d_gaps : ∃ fd, FunD K "gaps" "gaps" (defArgs s_gaps) (defBody s_gaps) (defScope s_gaps) [] [] (He.ga K "gaps") fd
  d_canonical : ∃ fd, FunD K "canonical" "canonical" (defArgs s_canonical) (defBody s_canonical) (defScope s_canonical) [] [] (He.ga K "canonical") fd
  d_relocation_map : ∃ fd, FunD K "relocation_map" "relocation_map" (defArgs s_relocation_map) (defBody s_relocation_map) (defScope s_relocation_map) [] [] (He.ga K "relocation_map") fd
  d_slide_left : ∃ fd, FunD K "slide_left" "slide_left" (defArgs s_slide_left) (defBody s_slide_left) (defScope s_slide_left) [] [] (He.ga K "slide_left") fd
  d_places : ∃ fd, FunD K "places" "places" (defArgs s_places) (defBody s_places) (defScope s_places) [] [] (He.ga K "places") fd
  d_first_place : ∃ fd, FunD K "first_place" "first_place" (defArgs s_first_place) (defBody s_first_place) (defScope s_first_place) [] [] (He.ga K "first_place") fd
  d_place_block : ∃ fd, FunD K "place_block" "place_block" (defArgs s_place_block) (defBody s_place_block) (defScope s_place_block) [.int 0] [] (He.ga K "place_block") fd
  d_target_of : ∃ fd, FunD K "target_of" "target_of" (defArgs s_target_of) (defBody s_target_of) (defScope s_target_of) [] [] (He.ga K "target_of") fd
  d_policy_heap : ∃ fd, FunD K "policy_heap" "policy_heap" (defArgs s_policy_heap) (defBody s_policy_heap) (defScope s_policy_heap) [] [] (He.ga K "policy_heap") fd
  d__law_cell : ∃ fd, FunD K "_law_cell" "_law_cell" (defArgs s__law_cell) (defBody s__law_cell) (defScope s__law_cell) [] [] (He.ga K "_law_cell") fd
  d__law_row : ∃ fd, FunD K "_law_row" "_law_row" (defArgs s__law_row) (defBody s__law_row) (defScope s__law_row) [] [] (He.ga K "_law_row") fd
  d__law_box : ∃ fd, FunD K "_law_box" "_law_box" (defArgs s__law_box) (defBody s__law_box) (defScope s__law_box) [] [] (He.ga K "_law_box") fd
  d__law_draw : ∃ fd, FunD K "_law_draw" "_law_draw" (defArgs s__law_draw) (defBody s__law_draw) (defScope s__law_draw) [] [] (He.ga K "_law_draw") fd
  d__law_value : ∃ fd, FunD K "_law_value" "_law_value" (defArgs s__law_value) (defBody s__law_value) (defScope s__law_value) [] [] (He.ga K "_law_value") fd
  d__law_deed : ∃ fd, FunD K "_law_deed" "_law_deed" (defArgs s__law_deed) (defBody s__law_deed) (defScope s__law_deed) [] [] (He.ga K "_law_deed") fd
  d__law_change : ∃ fd, FunD K "_law_change" "_law_change" (defArgs s__law_change) (defBody s__law_change) (defScope s__law_change) [] [] (He.ga K "_law_change") fd
  d_law : ∃ fd, FunD K "law" "law" (defArgs s_law) (defBody s_law) (defScope s_law) [] [] (He.ga K "law") fd
  d_Slider___init__ : ∃ fd, FunD K "__init__" "Slider.__init__" (defArgs s_Slider___init__) (defBody s_Slider___init__) (defScope s_Slider___init__) [] [] (He.ma K (He.ga K "Slider") "__init__") fd
  d_Slider_layout : ∃ fd, FunD K "layout" "Slider.layout" (defArgs s_Slider_layout) (defBody s_Slider_layout) (defScope s_Slider_layout) [] [] (He.ma K (He.ga K "Slider") "layout") fd
  d_Slider_cell : ∃ fd, FunD K "cell" "Slider.cell" (defArgs s_Slider_cell) (defBody s_Slider_cell) (defScope s_Slider_cell) [] [] (He.ma K (He.ga K "Slider") "cell") fd
  d_Slider_write : ∃ fd, FunD K "write" "Slider.write" (defArgs s_Slider_write) (defBody s_Slider_write) (defScope s_Slider_write) [] [] (He.ma K (He.ga K "Slider") "write") fd
  d_Slider_begin : ∃ fd, FunD K "begin" "Slider.begin" (defArgs s_Slider_begin) (defBody s_Slider_begin) (defScope s_Slider_begin) [] [] (He.ma K (He.ga K "Slider") "begin") fd
  d_Slider_finish : ∃ fd, FunD K "finish" "Slider.finish" (defArgs s_Slider_finish) (defBody s_Slider_finish) (defScope s_Slider_finish) [] [] (He.ma K (He.ga K "Slider") "finish") fd
  d_Slider_step : ∃ fd, FunD K "step" "Slider.step" (defArgs s_Slider_step) (defBody s_Slider_step) (defScope s_Slider_step) [] [] (He.ma K (He.ga K "Slider") "step") fd
  d_Slider_work : ∃ fd, FunD K "work" "Slider.work" (defArgs s_Slider_work) (defBody s_Slider_work) (defScope s_Slider_work) [] [] (He.ma K (He.ga K "Slider") "work") fd
  d_Store___init__ : ∃ fd, FunD K "__init__" "Store.__init__" (defArgs s_Store___init__) (defBody s_Store___init__) (defScope s_Store___init__) [] [] (He.ma K (He.ga K "Store") "__init__") fd
  d_Store_copy : ∃ fd, FunD K "copy" "Store.copy" (defArgs s_Store_copy) (defBody s_Store_copy) (defScope s_Store_copy) [] [] (He.ma K (He.ga K "Store") "copy") fd
  d_Store_numbers : ∃ fd, FunD K "numbers" "Store.numbers" (defArgs s_Store_numbers) (defBody s_Store_numbers) (defScope s_Store_numbers) [] [] (He.ma K (He.ga K "Store") "numbers") fd
  d_Store_fields : ∃ fd, FunD K "fields" "Store.fields" (defArgs s_Store_fields) (defBody s_Store_fields) (defScope s_Store_fields) [] [] (He.ma K (He.ga K "Store") "fields") fd
  d_Store_make : ∃ fd, FunD K "make" "Store.make" (defArgs s_Store_make) (defBody s_Store_make) (defScope s_Store_make) [] [] (He.ma K (He.ga K "Store") "make") fd
  d_Store_read : ∃ fd, FunD K "read" "Store.read" (defArgs s_Store_read) (defBody s_Store_read) (defScope s_Store_read) [] [] (He.ma K (He.ga K "Store") "read") fd
  d_Store_write : ∃ fd, FunD K "write" "Store.write" (defArgs s_Store_write) (defBody s_Store_write) (defScope s_Store_write) [] [] (He.ma K (He.ga K "Store") "write") fd
  d_Store_is_referenced : ∃ fd, FunD K "is_referenced" "Store.is_referenced" (defArgs s_Store_is_referenced) (defBody s_Store_is_referenced) (defScope s_Store_is_referenced) [] [] (He.ma K (He.ga K "Store") "is_referenced") fd
  d_Store_release : ∃ fd, FunD K "release" "Store.release" (defArgs s_Store_release) (defBody s_Store_release) (defScope s_Store_release) [] [] (He.ma K (He.ga K "Store") "release") fd
  d_Store_add_root : ∃ fd, FunD K "add_root" "Store.add_root" (defArgs s_Store_add_root) (defBody s_Store_add_root) (defScope s_Store_add_root) [] [] (He.ma K (He.ga K "Store") "add_root") fd
  d_Store_remove_root : ∃ fd, FunD K "remove_root" "Store.remove_root" (defArgs s_Store_remove_root) (defBody s_Store_remove_root) (defScope s_Store_remove_root) [] [] (He.ma K (He.ga K "Store") "remove_root") fd
  d_Store_reachable : ∃ fd, FunD K "reachable" "Store.reachable" (defArgs s_Store_reachable) (defBody s_Store_reachable) (defScope s_Store_reachable) [] [] (He.ma K (He.ga K "Store") "reachable") fd
  d_Store_collect : ∃ fd, FunD K "collect" "Store.collect" (defArgs s_Store_collect) (defBody s_Store_collect) (defScope s_Store_collect) [] [] (He.ma K (He.ga K "Store") "collect") fd
  d_PolicyManager___init__ : ∃ fd, FunD K "__init__" "PolicyManager.__init__" (defArgs s_PolicyManager___init__) (defBody s_PolicyManager___init__) (defScope s_PolicyManager___init__) [] [] (He.ma K (He.ga K "PolicyManager") "__init__") fd
  d_PolicyManager_place : ∃ fd, FunD K "place" "PolicyManager.place" (defArgs s_PolicyManager_place) (defBody s_PolicyManager_place) (defScope s_PolicyManager_place) [] [] (He.ma K (He.ga K "PolicyManager") "place") fd
  d_State___init__ : ∃ fd, FunD K "__init__" "State.__init__" (defArgs s_State___init__) (defBody s_State___init__) (defScope s_State___init__) [] [] (He.ma K (He.ga K "State") "__init__") fd
  d_State_copy : ∃ fd, FunD K "copy" "State.copy" (defArgs s_State_copy) (defBody s_State_copy) (defScope s_State_copy) [] [] (He.ma K (He.ga K "State") "copy") fd
  d_ManagedHeap___init__ : ∃ fd, FunD K "__init__" "ManagedHeap.__init__" (defArgs s_ManagedHeap___init__) (defBody s_ManagedHeap___init__) (defScope s_ManagedHeap___init__) [] [] (He.ma K (He.ga K "ManagedHeap") "__init__") fd
  d_ManagedHeap_layout : ∃ fd, FunD K "layout" "ManagedHeap.layout" (defArgs s_ManagedHeap_layout) (defBody s_ManagedHeap_layout) (defScope s_ManagedHeap_layout) [] [] (He.ma K (He.ga K "ManagedHeap") "layout") fd
  d_ManagedHeap_number_at : ∃ fd, FunD K "number_at" "ManagedHeap.number_at" (defArgs s_ManagedHeap_number_at) (defBody s_ManagedHeap_number_at) (defScope s_ManagedHeap_number_at) [] [] (He.ma K (He.ga K "ManagedHeap") "number_at") fd
  d_ManagedHeap_word : ∃ fd, FunD K "word" "ManagedHeap.word" (defArgs s_ManagedHeap_word) (defBody s_ManagedHeap_word) (defScope s_ManagedHeap_word) [] [] (He.ma K (He.ga K "ManagedHeap") "word") fd
  d_ManagedHeap_words : ∃ fd, FunD K "words" "ManagedHeap.words" (defArgs s_ManagedHeap_words) (defBody s_ManagedHeap_words) (defScope s_ManagedHeap_words) [] [] (He.ma K (He.ga K "ManagedHeap") "words") fd
  d_ManagedHeap_relocate : ∃ fd, FunD K "relocate" "ManagedHeap.relocate" (defArgs s_ManagedHeap_relocate) (defBody s_ManagedHeap_relocate) (defScope s_ManagedHeap_relocate) [] [] (He.ma K (He.ga K "ManagedHeap") "relocate") fd
  d_ManagedHeap_moving : ∃ fd, FunD K "moving" "ManagedHeap.moving" (defArgs s_ManagedHeap_moving) (defBody s_ManagedHeap_moving) (defScope s_ManagedHeap_moving) [] [] (He.ma K (He.ga K "ManagedHeap") "moving") fd
  d_ManagedHeap_do_allocate : ∃ fd, FunD K "do_allocate" "ManagedHeap.do_allocate" (defArgs s_ManagedHeap_do_allocate) (defBody s_ManagedHeap_do_allocate) (defScope s_ManagedHeap_do_allocate) [] [] (He.ma K (He.ga K "ManagedHeap") "do_allocate") fd
  d_ManagedHeap_do_release : ∃ fd, FunD K "do_release" "ManagedHeap.do_release" (defArgs s_ManagedHeap_do_release) (defBody s_ManagedHeap_do_release) (defScope s_ManagedHeap_do_release) [] [] (He.ma K (He.ga K "ManagedHeap") "do_release") fd
  d_ManagedHeap_do_collect : ∃ fd, FunD K "do_collect" "ManagedHeap.do_collect" (defArgs s_ManagedHeap_do_collect) (defBody s_ManagedHeap_do_collect) (defScope s_ManagedHeap_do_collect) [] [] (He.ma K (He.ga K "ManagedHeap") "do_collect") fd
  d_ManagedHeap_do_compact : ∃ fd, FunD K "do_compact" "ManagedHeap.do_compact" (defArgs s_ManagedHeap_do_compact) (defBody s_ManagedHeap_do_compact) (defScope s_ManagedHeap_do_compact) [] [] (He.ma K (He.ga K "ManagedHeap") "do_compact") fd
  d_ManagedHeap_do_slide : ∃ fd, FunD K "do_slide" "ManagedHeap.do_slide" (defArgs s_ManagedHeap_do_slide) (defBody s_ManagedHeap_do_slide) (defScope s_ManagedHeap_do_slide) [] [] (He.ma K (He.ga K "ManagedHeap") "do_slide") fd
  d_ManagedHeap_perform : ∃ fd, FunD K "perform" "ManagedHeap.perform" (defArgs s_ManagedHeap_perform) (defBody s_ManagedHeap_perform) (defScope s_ManagedHeap_perform) [] [] (He.ma K (He.ga K "ManagedHeap") "perform") fd
  d_ManagedHeap_change : ∃ fd, FunD K "change" "ManagedHeap.change" (defArgs s_ManagedHeap_change) (defBody s_ManagedHeap_change) (defScope s_ManagedHeap_change) [] [] (He.ma K (He.ga K "ManagedHeap") "change") fd
  d_ManagedHeap_write : ∃ fd, FunD K "write" "ManagedHeap.write" (defArgs s_ManagedHeap_write) (defBody s_ManagedHeap_write) (defScope s_ManagedHeap_write) [] [] (He.ma K (He.ga K "ManagedHeap") "write") fd
  d_ManagedHeap_compact : ∃ fd, FunD K "compact" "ManagedHeap.compact" (defArgs s_ManagedHeap_compact) (defBody s_ManagedHeap_compact) (defScope s_ManagedHeap_compact) [] [] (He.ma K (He.ga K "ManagedHeap") "compact") fd
  d_ManagedHeap_slide : ∃ fd, FunD K "slide" "ManagedHeap.slide" (defArgs s_ManagedHeap_slide) (defBody s_ManagedHeap_slide) (defScope s_ManagedHeap_slide) [] [] (He.ma K (He.ga K "ManagedHeap") "slide") fd
  d_ManagedHeap_branch : ∃ fd, FunD K "branch" "ManagedHeap.branch" (defArgs s_ManagedHeap_branch) (defBody s_ManagedHeap_branch) (defScope s_ManagedHeap_branch) [] [] (He.ma K (He.ga K "ManagedHeap") "branch") fd
  x_NoSuchObject : SxAll K mg "NoSuchObject" s_NoSuchObject___init__ ["number"]
  x_NoSuchField : SxAll K mg "NoSuchField" s_NoSuchField___init__ ["index"]
  x_StillUsed : SxAll K mg "StillUsed" s_StillUsed___init__ ["number", "reason"]
  x_OutOfMemory : SxAll K mg "OutOfMemory" s_OutOfMemory___init__ ["length"]
/-- the def at f keeps the promise sp -/
def Ok (P : Program) (w : World) (K : PySem.W.Frag) (mg : Str → Option Value) (base : Heap) (CX : CXT) (k : Nat) (f : Addr) (ps : List Str) (sp : Sp) : Prop :=
  ∃ fd, FnOk P w K mg base CX k f fd ps sp ∧ Binds K fd ps [] ∧ PySem.W.keepIn K (.ref f) = true
section
variable {P : Program} {w : World} {K : PySem.W.Frag} {mg : Str → Option Value} {base : Heap} {x qual : Str} {st : Stmt} {f : Addr} {N ps : List Str} {k : Nat} {sp : Sp}
/-- a def that lets nothing out -/
theorem ok0 (F : ∃ fd, FunD K x qual (defArgs st) (defBody st) (defScope st) [] [] f fd) (S : FnScope N ps (defScope st)) (len : ∀ vs H Q E, sp vs H Q E → vs.length = ps.length)
    (hb : ∀ (kV doc pm : Value) (an : Option Addr) (cdv ct : Value) (us : List Value), us.length = ps.length → bindArgs (PySem.W.fnOf x qual (defArgs st) (defBody st) (defScope st) .none kV doc pm an cdv ct) ⟨us, []⟩ = pure (ps.zip us))
    (hbody : ∀ (cdv : Value) (A : Around) (outer : List Env) (s : Shared) (H : Hp) (vs : List V) (Q : VK) (E : XK), Room k (A.deeper (envOfC qual (defScope st) s.heap.objs.size f cdv)) → sp vs H Q E →
      ∃ t, PSs (cxOf CX0 P w K mg base N qual (defScope st) f cdv A outer s H E).nox (defBody st) t ∧ t { nx := fun _ H' => Q .non H', rt := Q } (start N vs) H) : Ok P w K mg base CX0 (k + 1) f ps sp := by
  obtain ⟨fd, F⟩ := F
  refine ⟨fd, F.ok S len fun cdv A outer s H vs Q E hr hsp => ?_, F.bindsN hb, F.kp⟩
  obtain ⟨t, h1, h2⟩ := hbody cdv A outer s H vs Q E hr hsp
  exact ⟨t, h1.nox, h2⟩
/-- a def that may raise -/
theorem okX (F : ∃ fd, FunD K x qual (defArgs st) (defBody st) (defScope st) [] [] f fd) (S : FnScope N ps (defScope st)) (len : ∀ vs H Q E, sp vs H Q E → vs.length = ps.length)
    (hb : ∀ (kV doc pm : Value) (an : Option Addr) (cdv ct : Value) (us : List Value), us.length = ps.length → bindArgs (PySem.W.fnOf x qual (defArgs st) (defBody st) (defScope st) .none kV doc pm an cdv ct) ⟨us, []⟩ = pure (ps.zip us))
    (hbody : ∀ (cdv : Value) (A : Around) (outer : List Env) (s : Shared) (H : Hp) (vs : List V) (Q : VK) (E : XK), Room k (A.deeper (envOfC qual (defScope st) s.heap.objs.size f cdv)) → sp vs H Q E →
      ∃ t, PSs (cxOf (L2.CX P w) P w K mg base N qual (defScope st) f cdv A outer s H E) (defBody st) t ∧ t { nx := fun _ H' => Q .non H', rt := Q } (start N vs) H) : Ok P w K mg base (L2.CX P w) (k + 1) f ps sp := by
  obtain ⟨fd, F⟩ := F
  exact ⟨fd, F.ok S len fun cdv A outer s H vs Q E hr hsp => hbody cdv A outer s H vs Q E hr hsp, F.bindsN hb, F.kp⟩
theorem Ok.mono {CX : CXT} {j : Nat} (o : Ok P w K mg base CX j f ps sp) (h : j ≤ k) : Ok P w K mg base CX k f ps sp := by
  obtain ⟨fd, F, b, kp⟩ := o
  exact ⟨fd, F.mono h, b, kp⟩
end
/-! ### what is raised -/
/-- one of the program's errors, its fields in its dict -/
def Err (K : PySem.W.Frag) (cls : Value) (d : Option Addr) (H : Hp) : Prop := ∃ dd fs, d = some dd ∧ H dd = some (.xd fs) ∧
  ((cls = .ref (He.ga K "NoSuchObject") ∧ ∃ v, fs.lookup ("number" : Str) = some v) ∨ (cls = .ref (He.ga K "NoSuchField") ∧ ∃ v, fs.lookup ("index" : Str) = some v) ∨
    (cls = .ref (He.ga K "StillUsed") ∧ (∃ v, fs.lookup ("number" : Str) = some v) ∧ ∃ v, fs.lookup ("reason" : Str) = some v) ∨ (cls = .ref (He.ga K "OutOfMemory") ∧ ∃ v, fs.lookup ("length" : Str) = some v))
/-- any of them may be let out, as long as nothing but F is changed -/
def MayRaise (K : PySem.W.Frag) (F : List Addr) (H : Hp) (E : XK) : Prop := ∀ cls d H', Err K cls d H' → Kp F H H' → E cls d H'
theorem MayRaise.of {K : PySem.W.Frag} {F G : List Addr} {H H1 : Hp} {E : XK} (m : MayRaise K F H E) (k : Kp F H H1) (h : ∀ b ∈ G, b ∈ F) : MayRaise K G H1 E := fun cls d H' e k' => m cls d H' e (k.trans (k'.mono h))
theorem MayRaise.same {K : PySem.W.Frag} {F : List Addr} {H H1 : Hp} {E : XK} (m : MayRaise K F H E) (k : Same H H1) : MayRaise K F H1 E := fun cls d H' e k' => m cls d H' e (Same.kp k k')
/-! ### the errors' own __init__ -/
section
variable {w : World} {K : PySem.W.Frag} {mg : Str → Option Value} {base : Heap}
/-- an error with one field -/
def spErr1 (C : Addr) (f : Str) : Sp := fun vs H Q _ => ∃ (a : Addr) (i : Int), vs = [.ref a, .int i] ∧ i.natAbs.log2 < 1920 ∧ H a = some (exo a C none) ∧ ∀ d, H d = none → d ≠ a → Q .non (upd (upd H d (exd d [(f, .int i)])) a (exo a C (some d)))
def spErr2 (C : Addr) (f g : Str) : Sp := fun vs H Q _ => ∃ (a : Addr) (i : Int) (z : Str), vs = [.ref a, .int i, .str z] ∧ i.natAbs.log2 < 1920 ∧ z.length ≤ 100 ∧ H a = some (exo a C none) ∧
  ∀ d, H d = none → d ≠ a → Q .non (upd (upd (upd H d (exd d [(f, .int i)])) a (exo a C (some d))) d (exd d [(g, .str z), (f, .int i)]))
end
end K96
set_option Elab.async false
set_option linter.all false
set_option maxRecDepth 100000
set_option maxHeartbeats 2000000
/-! The errors' own __init__. -/
namespace K96
open PySem PySem.Spec PyProof.Rows L2
theorem int_len {i : Int} (h : i.natAbs.log2 < 1920) : (PySem.Str.ofString (toString i)).length ≤ 1921 := by
  rw [PySem.ofString_length]
  exact int_text_length_le (k := 1920) (by decide) h
theorem line_of {n : Nat} (h : n ≤ 100000) : n ≤ sizeLine := by
  rw [sizeLine_eq]; omega
theorem len_app {a b : Str} {n m : Nat} (h1 : a.length ≤ n) (h2 : b.length ≤ m) : (a ++ b).length ≤ n + m := by
  rw [PySem.Str.length_append]; omega
theorem line_mono {a : Str} {n : Nat} (h : a.length ≤ n) (hn : n ≤ 100000) : a.length ≤ sizeLine := line_of (Nat.le_trans h hn)
def OkI (w : World) (K : PySem.W.Frag) (mg : Str → Option Value) (base : Heap) (k : Nat) (f : Addr) (ps : List Str) (sp : Sp) : Prop :=
  ∃ fd, FnOk Pg w K mg base CX0 k f fd ps sp ∧ Binds K fd ps []
section
variable {w : World} {K : PySem.W.Frag} {mg : Str → Option Value} {base : Heap}
theorem ok_err_NoSuchObject (T : Top K mg) : OkI w K mg base 2 (He.ma K (He.ga K "NoSuchObject") "__init__") ["self", "number"] (spErr1 (He.ga K "NoSuchObject") "number") := by
  obtain ⟨cda, cc, oc, kV, doc, pm, ct, od, an, osl, S, xf, iC, tI, lk, hcd, na⟩ := T.x_NoSuchObject
  refine ⟨_, fn_super (ps := ["self", "number"]) (k := 1) S lk hcd rfl (NdefX.nscope_by (by decide +kernel)) rfl rfl rfl (fun vs H Q E h => ?_) (fun _ => rfl) (fun _ => ⟨_, rfl⟩) (fun _ => rfl) (fun A outer s H vs Q E hr h => ?_), .all fun us hl => match us, hl with | [_, _], _ => rfl⟩
  · obtain ⟨a, i, rfl, _⟩ := h
    rfl
  · obtain ⟨a, i, rfl, hz, Ha, k⟩ := h
    refine ⟨_, _, a, rfl, Ha, pa_cons (pe_joined (.cons pe_str (.cons (pe_fmt (pv 1)) .nil))) pa_nil, pss_one (ps_ost (pv 0) (pv 1)), ?_⟩
    have l0 : (Str.empty ++ ("there is no object " : Str)).length ≤ 30 := by decide +kernel
    refine ⟨_, rfl, line_mono l0 (by decide), _, rfl, .inr ⟨i, rfl, hz, _, rfl, line_mono (len_app l0 (int_len hz)) (by decide), ?_⟩⟩
    refine ⟨by simp, Ha, _, rfl, _, rfl, a, _, rfl, S.cls, na _ (by simp), .inl ⟨Ha, fun d hd hne => k d hd hne⟩⟩
theorem ok_err_NoSuchField (T : Top K mg) : OkI w K mg base 2 (He.ma K (He.ga K "NoSuchField") "__init__") ["self", "index"] (spErr1 (He.ga K "NoSuchField") "index") := by
  obtain ⟨cda, cc, oc, kV, doc, pm, ct, od, an, osl, S, xf, iC, tI, lk, hcd, na⟩ := T.x_NoSuchField
  refine ⟨_, fn_super (ps := ["self", "index"]) (k := 1) S lk hcd rfl (NdefX.nscope_by (by decide +kernel)) rfl rfl rfl (fun vs H Q E h => ?_) (fun _ => rfl) (fun _ => ⟨_, rfl⟩) (fun _ => rfl) (fun A outer s H vs Q E hr h => ?_), .all fun us hl => match us, hl with | [_, _], _ => rfl⟩
  · obtain ⟨a, i, rfl, _⟩ := h
    rfl
  · obtain ⟨a, i, rfl, hz, Ha, k⟩ := h
    refine ⟨_, _, a, rfl, Ha, pa_cons (pe_joined (.cons pe_str (.cons (pe_fmt (pv 1)) .nil))) pa_nil, pss_one (ps_ost (pv 0) (pv 1)), ?_⟩
    have l0 : (Str.empty ++ ("there is no field " : Str)).length ≤ 30 := by decide +kernel
    refine ⟨_, rfl, line_mono l0 (by decide), _, rfl, .inr ⟨i, rfl, hz, _, rfl, line_mono (len_app l0 (int_len hz)) (by decide), ?_⟩⟩
    refine ⟨by simp, Ha, _, rfl, _, rfl, a, _, rfl, S.cls, na _ (by simp), .inl ⟨Ha, fun d hd hne => k d hd hne⟩⟩
theorem ok_err_OutOfMemory (T : Top K mg) : OkI w K mg base 2 (He.ma K (He.ga K "OutOfMemory") "__init__") ["self", "length"] (spErr1 (He.ga K "OutOfMemory") "length") := by
  obtain ⟨cda, cc, oc, kV, doc, pm, ct, od, an, osl, S, xf, iC, tI, lk, hcd, na⟩ := T.x_OutOfMemory
  refine ⟨_, fn_super (ps := ["self", "length"]) (k := 1) S lk hcd rfl (NdefX.nscope_by (by decide +kernel)) rfl rfl rfl (fun vs H Q E h => ?_) (fun _ => rfl) (fun _ => ⟨_, rfl⟩) (fun _ => rfl) (fun A outer s H vs Q E hr h => ?_), .all fun us hl => match us, hl with | [_, _], _ => rfl⟩
  · obtain ⟨a, i, rfl, _⟩ := h
    rfl
  · obtain ⟨a, i, rfl, hz, Ha, k⟩ := h
    refine ⟨_, _, a, rfl, Ha, pa_cons (pe_joined (.cons pe_str (.cons (pe_fmt (pv 1)) (.cons pe_str .nil)))) pa_nil, pss_one (ps_ost (pv 0) (pv 1)), ?_⟩
    have l0 : (Str.empty ++ ("no room for " : Str)).length ≤ 30 := by decide +kernel
    have l1 : ((" cells" : Str)).length ≤ 30 := by decide +kernel
    refine ⟨_, rfl, line_mono l0 (by decide), _, rfl, .inr ⟨i, rfl, hz, _, rfl, line_mono (len_app l0 (int_len hz)) (by decide), _, rfl, line_mono (len_app (len_app l0 (int_len hz)) l1) (by decide), ?_⟩⟩
    refine ⟨by simp, Ha, _, rfl, _, rfl, a, _, rfl, S.cls, na _ (by simp), .inl ⟨Ha, fun d hd hne => k d hd hne⟩⟩
theorem ok_err_StillUsed (T : Top K mg) : OkI w K mg base 2 (He.ma K (He.ga K "StillUsed") "__init__") ["self", "number", "reason"] (spErr2 (He.ga K "StillUsed") "number" "reason") := by
  obtain ⟨cda, cc, oc, kV, doc, pm, ct, od, an, osl, S, xf, iC, tI, lk, hcd, na⟩ := T.x_StillUsed
  refine ⟨_, fn_super (ps := ["self", "number", "reason"]) (k := 1) S lk hcd rfl (NdefX.nscope_by (by decide +kernel)) rfl rfl rfl (fun vs H Q E h => ?_) (fun _ => rfl) (fun _ => ⟨_, rfl⟩) (fun _ => rfl) (fun A outer s H vs Q E hr h => ?_), .all fun us hl => match us, hl with | [_, _, _], _ => rfl⟩
  · obtain ⟨a, i, z, rfl, _⟩ := h
    rfl
  · obtain ⟨a, i, z, rfl, hz, hz2, Ha, k⟩ := h
    refine ⟨_, _, a, rfl, Ha, pa_cons (pe_joined (.cons pe_str (.cons (pe_fmt (pv 1)) (.cons pe_str (.cons (pe_fmt (pv 2)) .nil))))) pa_nil, pss_cons (ps_ost (pv 0) (pv 1)) (pss_one (ps_ost (pv 0) (pv 2))), ?_⟩
    have l0 : (Str.empty ++ ("object " : Str)).length ≤ 30 := by decide +kernel
    have l1 : ((" is " : Str)).length ≤ 30 := by decide +kernel
    refine ⟨_, rfl, line_mono l0 (by decide), _, rfl, .inr ⟨i, rfl, hz, _, rfl, line_mono (len_app l0 (int_len hz)) (by decide), _, rfl, line_mono (len_app (len_app l0 (int_len hz)) l1) (by decide), _, rfl,
      .inl ⟨z, rfl, line_mono hz2 (by decide), _, rfl, line_mono (len_app (len_app (len_app l0 (int_len hz)) l1) hz2) (by decide), ?_⟩⟩⟩
    refine ⟨by simp, Ha, _, rfl, _, rfl, a, _, rfl, S.cls, na _ (by simp), .inl ⟨Ha, fun d hd hne => ?_⟩⟩
    refine ⟨_, rfl, _, rfl, a, _, rfl, S.cls, na _ (by simp), .inr ⟨d, _, upd_same, by rw [upd_ne hne, upd_same], by simp, k d hd hne⟩⟩
end
end K96
set_option Elab.async false
set_option linter.all false
set_option maxRecDepth 100000
set_option maxHeartbeats 2000000
namespace K96
open PySem PySem.Spec PyProof.Rows L2
theorem srF_objects {od : Addr} {rl : Addr} {n : Int} : (srF od rl n).lookup ("objects" : Str) = some (V.ref od) := by rfl
theorem srF_roots {od : Addr} {rl : Addr} {n : Int} : (srF od rl n).lookup ("roots" : Str) = some (V.ref rl) := by rfl
theorem srF_next_number {od : Addr} {rl : Addr} {n : Int} : (srF od rl n).lookup ("next_number" : Str) = some (V.int n) := by rfl
theorem srF_put_objects {od : Addr} {rl : Addr} {n : Int} {x : Addr} : putF ("objects" : Str) (V.ref x) (srF od rl n) = srF x rl n := by rfl
theorem srF_put_roots {od : Addr} {rl : Addr} {n : Int} {x : Addr} : putF ("roots" : Str) (V.ref x) (srF od rl n) = srF od x n := by rfl
theorem srF_put_next_number {od : Addr} {rl : Addr} {n : Int} {x : Int} : putF ("next_number" : Str) (V.int x) (srF od rl n) = srF od rl x := by rfl
theorem srF_no_copy {od : Addr} {rl : Addr} {n : Int} : (srF od rl n).lookup ("copy" : Str) = none := by rfl
theorem srF_no_numbers {od : Addr} {rl : Addr} {n : Int} : (srF od rl n).lookup ("numbers" : Str) = none := by rfl
theorem srF_no_fields {od : Addr} {rl : Addr} {n : Int} : (srF od rl n).lookup ("fields" : Str) = none := by rfl
theorem srF_no_make {od : Addr} {rl : Addr} {n : Int} : (srF od rl n).lookup ("make" : Str) = none := by rfl
theorem srF_no_read {od : Addr} {rl : Addr} {n : Int} : (srF od rl n).lookup ("read" : Str) = none := by rfl
theorem srF_no_write {od : Addr} {rl : Addr} {n : Int} : (srF od rl n).lookup ("write" : Str) = none := by rfl
theorem srF_no_is_referenced {od : Addr} {rl : Addr} {n : Int} : (srF od rl n).lookup ("is_referenced" : Str) = none := by rfl
theorem srF_no_release {od : Addr} {rl : Addr} {n : Int} : (srF od rl n).lookup ("release" : Str) = none := by rfl
theorem srF_no_add_root {od : Addr} {rl : Addr} {n : Int} : (srF od rl n).lookup ("add_root" : Str) = none := by rfl
theorem srF_no_remove_root {od : Addr} {rl : Addr} {n : Int} : (srF od rl n).lookup ("remove_root" : Str) = none := by rfl
theorem srF_no_reachable {od : Addr} {rl : Addr} {n : Int} : (srF od rl n).lookup ("reachable" : Str) = none := by rfl
theorem srF_no_collect {od : Addr} {rl : Addr} {n : Int} : (srF od rl n).lookup ("collect" : Str) = none := by rfl
theorem stF_store {so : Addr} {sd : Addr} {c : Int} : (stF so sd c).lookup ("store" : Str) = some (V.ref so) := by rfl
theorem stF_starts {so : Addr} {sd : Addr} {c : Int} : (stF so sd c).lookup ("starts" : Str) = some (V.ref sd) := by rfl
theorem stF_cursor {so : Addr} {sd : Addr} {c : Int} : (stF so sd c).lookup ("cursor" : Str) = some (V.int c) := by rfl
theorem stF_put_store {so : Addr} {sd : Addr} {c : Int} {x : Addr} : putF ("store" : Str) (V.ref x) (stF so sd c) = stF x sd c := by rfl
theorem stF_put_starts {so : Addr} {sd : Addr} {c : Int} {x : Addr} : putF ("starts" : Str) (V.ref x) (stF so sd c) = stF so x c := by rfl
theorem stF_put_cursor {so : Addr} {sd : Addr} {c : Int} {x : Int} : putF ("cursor" : Str) (V.int x) (stF so sd c) = stF so sd x := by rfl
theorem stF_no_copy {so : Addr} {sd : Addr} {c : Int} : (stF so sd c).lookup ("copy" : Str) = none := by rfl
theorem pmF_size {z : Int} {p : Str} : (pmF z p).lookup ("size" : Str) = some (V.int z) := by rfl
theorem pmF_policy {z : Int} {p : Str} : (pmF z p).lookup ("policy" : Str) = some (V.str p) := by rfl
theorem pmF_strategy {z : Int} {p : Str} : (pmF z p).lookup ("strategy" : Str) = some (V.bl false) := by rfl
theorem pmF_put_size {z : Int} {p : Str} {x : Int} : putF ("size" : Str) (V.int x) (pmF z p) = pmF x p := by rfl
theorem pmF_put_policy {z : Int} {p : Str} {x : Str} : putF ("policy" : Str) (V.str x) (pmF z p) = pmF z x := by rfl
theorem pmF_no_place {z : Int} {p : Str} : (pmF z p).lookup ("place" : Str) = none := by rfl
theorem mhF_manager {m : Addr} {st : Addr} {el : Addr} {ev : Addr} : (mhF m st el ev).lookup ("manager" : Str) = some (V.ref m) := by rfl
theorem mhF_state {m : Addr} {st : Addr} {el : Addr} {ev : Addr} : (mhF m st el ev).lookup ("state" : Str) = some (V.ref st) := by rfl
theorem mhF_earlier {m : Addr} {st : Addr} {el : Addr} {ev : Addr} : (mhF m st el ev).lookup ("earlier" : Str) = some (V.ref el) := by rfl
theorem mhF_events {m : Addr} {st : Addr} {el : Addr} {ev : Addr} : (mhF m st el ev).lookup ("events" : Str) = some (V.ref ev) := by rfl
theorem mhF_put_manager {m : Addr} {st : Addr} {el : Addr} {ev : Addr} {x : Addr} : putF ("manager" : Str) (V.ref x) (mhF m st el ev) = mhF x st el ev := by rfl
theorem mhF_put_state {m : Addr} {st : Addr} {el : Addr} {ev : Addr} {x : Addr} : putF ("state" : Str) (V.ref x) (mhF m st el ev) = mhF m x el ev := by rfl
theorem mhF_put_earlier {m : Addr} {st : Addr} {el : Addr} {ev : Addr} {x : Addr} : putF ("earlier" : Str) (V.ref x) (mhF m st el ev) = mhF m st x ev := by rfl
theorem mhF_put_events {m : Addr} {st : Addr} {el : Addr} {ev : Addr} {x : Addr} : putF ("events" : Str) (V.ref x) (mhF m st el ev) = mhF m st el x := by rfl
theorem mhF_no_layout {m : Addr} {st : Addr} {el : Addr} {ev : Addr} : (mhF m st el ev).lookup ("layout" : Str) = none := by rfl
theorem mhF_no_number_at {m : Addr} {st : Addr} {el : Addr} {ev : Addr} : (mhF m st el ev).lookup ("number_at" : Str) = none := by rfl
theorem mhF_no_word {m : Addr} {st : Addr} {el : Addr} {ev : Addr} : (mhF m st el ev).lookup ("word" : Str) = none := by rfl
theorem mhF_no_words {m : Addr} {st : Addr} {el : Addr} {ev : Addr} : (mhF m st el ev).lookup ("words" : Str) = none := by rfl
theorem mhF_no_relocate {m : Addr} {st : Addr} {el : Addr} {ev : Addr} : (mhF m st el ev).lookup ("relocate" : Str) = none := by rfl
theorem mhF_no_moving {m : Addr} {st : Addr} {el : Addr} {ev : Addr} : (mhF m st el ev).lookup ("moving" : Str) = none := by rfl
theorem mhF_no_do_allocate {m : Addr} {st : Addr} {el : Addr} {ev : Addr} : (mhF m st el ev).lookup ("do_allocate" : Str) = none := by rfl
theorem mhF_no_do_release {m : Addr} {st : Addr} {el : Addr} {ev : Addr} : (mhF m st el ev).lookup ("do_release" : Str) = none := by rfl
theorem mhF_no_do_collect {m : Addr} {st : Addr} {el : Addr} {ev : Addr} : (mhF m st el ev).lookup ("do_collect" : Str) = none := by rfl
theorem mhF_no_do_compact {m : Addr} {st : Addr} {el : Addr} {ev : Addr} : (mhF m st el ev).lookup ("do_compact" : Str) = none := by rfl
theorem mhF_no_do_slide {m : Addr} {st : Addr} {el : Addr} {ev : Addr} : (mhF m st el ev).lookup ("do_slide" : Str) = none := by rfl
theorem mhF_no_perform {m : Addr} {st : Addr} {el : Addr} {ev : Addr} : (mhF m st el ev).lookup ("perform" : Str) = none := by rfl
theorem mhF_no_change {m : Addr} {st : Addr} {el : Addr} {ev : Addr} : (mhF m st el ev).lookup ("change" : Str) = none := by rfl
theorem mhF_no_write {m : Addr} {st : Addr} {el : Addr} {ev : Addr} : (mhF m st el ev).lookup ("write" : Str) = none := by rfl
theorem mhF_no_compact {m : Addr} {st : Addr} {el : Addr} {ev : Addr} : (mhF m st el ev).lookup ("compact" : Str) = none := by rfl
theorem mhF_no_slide {m : Addr} {st : Addr} {el : Addr} {ev : Addr} : (mhF m st el ev).lookup ("slide" : Str) = none := by rfl
theorem mhF_no_branch {m : Addr} {st : Addr} {el : Addr} {ev : Addr} : (mhF m st el ev).lookup ("branch" : Str) = none := by rfl
theorem slF_words {wl : Addr} {sd : Addr} {ld : Addr} {mv : V} {t : Int} {c : Int} : (slF wl sd ld mv t c).lookup ("words" : Str) = some (V.ref wl) := by rfl
theorem slF_starts {wl : Addr} {sd : Addr} {ld : Addr} {mv : V} {t : Int} {c : Int} : (slF wl sd ld mv t c).lookup ("starts" : Str) = some (V.ref sd) := by rfl
theorem slF_lengths {wl : Addr} {sd : Addr} {ld : Addr} {mv : V} {t : Int} {c : Int} : (slF wl sd ld mv t c).lookup ("lengths" : Str) = some (V.ref ld) := by rfl
theorem slF_moving {wl : Addr} {sd : Addr} {ld : Addr} {mv : V} {t : Int} {c : Int} : (slF wl sd ld mv t c).lookup ("moving" : Str) = some (mv) := by rfl
theorem slF_target {wl : Addr} {sd : Addr} {ld : Addr} {mv : V} {t : Int} {c : Int} : (slF wl sd ld mv t c).lookup ("target" : Str) = some (V.int t) := by rfl
theorem slF_copied {wl : Addr} {sd : Addr} {ld : Addr} {mv : V} {t : Int} {c : Int} : (slF wl sd ld mv t c).lookup ("copied" : Str) = some (V.int c) := by rfl
theorem slF_put_words {wl : Addr} {sd : Addr} {ld : Addr} {mv : V} {t : Int} {c : Int} {x : Addr} : putF ("words" : Str) (V.ref x) (slF wl sd ld mv t c) = slF x sd ld mv t c := by rfl
theorem slF_put_starts {wl : Addr} {sd : Addr} {ld : Addr} {mv : V} {t : Int} {c : Int} {x : Addr} : putF ("starts" : Str) (V.ref x) (slF wl sd ld mv t c) = slF wl x ld mv t c := by rfl
theorem slF_put_lengths {wl : Addr} {sd : Addr} {ld : Addr} {mv : V} {t : Int} {c : Int} {x : Addr} : putF ("lengths" : Str) (V.ref x) (slF wl sd ld mv t c) = slF wl sd x mv t c := by rfl
theorem slF_put_moving {wl : Addr} {sd : Addr} {ld : Addr} {mv : V} {t : Int} {c : Int} {x : V} : putF ("moving" : Str) (x) (slF wl sd ld mv t c) = slF wl sd ld x t c := by rfl
theorem slF_put_target {wl : Addr} {sd : Addr} {ld : Addr} {mv : V} {t : Int} {c : Int} {x : Int} : putF ("target" : Str) (V.int x) (slF wl sd ld mv t c) = slF wl sd ld mv x c := by rfl
theorem slF_put_copied {wl : Addr} {sd : Addr} {ld : Addr} {mv : V} {t : Int} {c : Int} {x : Int} : putF ("copied" : Str) (V.int x) (slF wl sd ld mv t c) = slF wl sd ld mv t x := by rfl
theorem slF_no_layout {wl : Addr} {sd : Addr} {ld : Addr} {mv : V} {t : Int} {c : Int} : (slF wl sd ld mv t c).lookup ("layout" : Str) = none := by rfl
theorem slF_no_cell {wl : Addr} {sd : Addr} {ld : Addr} {mv : V} {t : Int} {c : Int} : (slF wl sd ld mv t c).lookup ("cell" : Str) = none := by rfl
theorem slF_no_write {wl : Addr} {sd : Addr} {ld : Addr} {mv : V} {t : Int} {c : Int} : (slF wl sd ld mv t c).lookup ("write" : Str) = none := by rfl
theorem slF_no_begin {wl : Addr} {sd : Addr} {ld : Addr} {mv : V} {t : Int} {c : Int} : (slF wl sd ld mv t c).lookup ("begin" : Str) = none := by rfl
theorem slF_no_finish {wl : Addr} {sd : Addr} {ld : Addr} {mv : V} {t : Int} {c : Int} : (slF wl sd ld mv t c).lookup ("finish" : Str) = none := by rfl
theorem slF_no_step {wl : Addr} {sd : Addr} {ld : Addr} {mv : V} {t : Int} {c : Int} : (slF wl sd ld mv t c).lookup ("step" : Str) = none := by rfl
theorem slF_no_work {wl : Addr} {sd : Addr} {ld : Addr} {mv : V} {t : Int} {c : Int} : (slF wl sd ld mv t c).lookup ("work" : Str) = none := by rfl
/-- a dict that was locked is let go -/
theorem Kp.unlock {F : List Addr} {H H' : Hp} {d : Addr} {u : HO} {od : Obj} (hd : H d = some u) (k : Kp F (upd H d (.frz od u)) H') : Kp F H (upd H' d u) := fun b o e n => by
  by_cases h : b = d
  · subst h
    rw [upd_same, ← hd]; exact e
  · rw [upd_ne h]
    exact k b o (by rw [upd_ne h]; exact e) n
theorem none_unlock {H' : Hp} {d p : Addr} {u : HO} {x : HO} (hd : H' d = some x) (h : H' p = none) : upd H' d u p = none := by
  have e : p ≠ d := fun q => by rw [q, hd] at h; cases h
  rw [upd_ne e]; exact h
end K96
set_option Elab.async false
set_option linter.all false
set_option maxRecDepth 100000
set_option maxHeartbeats 2000000
/-! Loops and comprehensions over anything that takes n turns. -/
namespace K96
open PySem PySem.Spec PyProof.Rows L2
theorem for_of {J : It} {n : Nat} {g : TG} {tb : TS} {D : Ends} {σ : L2.St} {H : Hp} (Pv : Nat → L2.St → Hp → Prop) (h0 : Pv 0 σ H) (hgo : ∀ i σ H, i < n → Pv i σ H → J.go i H) (hst : ∀ σ H, Pv n σ H → J.stop n H)
    (hs : ∀ i x σ H H', i < n → Pv i σ H → J.yld i H x H' → g x σ H' fun σ2 H2 => tb { D with nx := Pv (i + 1), ct := Pv (i + 1), bk := D.nx } σ2 H2) (hd : ∀ σ H, Pv n σ H → D.nx σ H) :
    ∃ W : Nat → Nat → L2.St → Hp → Prop, (∃ m, W 0 m σ H) ∧ ∀ i m σ H, W i m σ H →
      (J.stop i H ∧ D.nx σ H) ∨ (J.go i H ∧ ∃ N : L2.St → Hp → Prop, (∀ σ' H', N σ' H' → ∃ m', m' < m ∧ W (i + 1) m' σ' H') ∧ ∀ x H', J.yld i H x H' → g x σ H' fun σ2 H2 => tb { D with nx := N, ct := N, bk := D.nx } σ2 H2) := by
  refine ⟨fun i m σ H => m = n - i ∧ i ≤ n ∧ Pv i σ H, ⟨n, by simp, Nat.zero_le _, h0⟩, ?_⟩
  rintro i m σ H ⟨rfl, hi, p⟩
  by_cases hlt : i < n
  · exact .inr ⟨hgo i σ H hlt p, Pv (i + 1), fun σ' H' p' => ⟨n - (i + 1), by omega, rfl, hlt, p'⟩, fun x H' y => hs i x σ H H' hlt p y⟩
  · have e : i = n := by omega
    subst e
    exact .inl ⟨hst σ H p, hd σ H p⟩
theorem lc_of {J : It} {n : Nat} {g : TG} {tt : TT} {te : TE} {vs : List Nat} {σ : L2.St} {H1 : Hp} {D : Addr} {Qd : Hp → Prop} (Pv : Nat → Hp → Prop) (h0 : Pv 0 (upd H1 D (.lst []))) (hgo : ∀ i H, i < n → Pv i H → J.go i H) (hst : ∀ H, Pv n H → J.stop n H)
    (hs : ∀ i x H H', i < n → Pv i H → J.yld i H x H' → g x (wipe σ vs) H' fun σ2 H2 => wipe σ2 vs = wipe σ vs ∧ tt σ2 H2 fun b H3 =>
      if b = true then te σ2 H3 fun y H4 => ∃ acc, H4 D = some (.lst acc) ∧ acc.length < sizeLine ∧ Pv (i + 1) (upd H4 D (.lst (acc ++ [y]))) else Pv (i + 1) H3) (hd : ∀ H, Pv n H → Qd H) :
    ∃ W : Nat → Nat → Hp → Prop, (∃ m, W 0 m (upd H1 D (.lst []))) ∧ ∀ i m H, W i m H →
      (J.stop i H ∧ Qd H) ∨ (J.go i H ∧ ∃ Nx : Hp → Prop, (∀ H', Nx H' → ∃ m', m' < m ∧ W (i + 1) m' H') ∧ ∀ x H', J.yld i H x H' → g x (wipe σ vs) H' fun σ2 H2 => wipe σ2 vs = wipe σ vs ∧ tt σ2 H2 fun b H3 =>
        if b = true then te σ2 H3 fun y H4 => ∃ acc, H4 D = some (.lst acc) ∧ acc.length < sizeLine ∧ Nx (upd H4 D (.lst (acc ++ [y]))) else Nx H3) := by
  refine ⟨fun i m H => m = n - i ∧ i ≤ n ∧ Pv i H, ⟨n, by simp, Nat.zero_le _, h0⟩, ?_⟩
  rintro i m H ⟨rfl, hi, p⟩
  by_cases hlt : i < n
  · refine .inr ⟨hgo i H hlt p, fun H' => Pv (i + 1) H', fun H' p' => ⟨n - (i + 1), by omega, rfl, hlt, p'⟩, fun x H' y => hs i x H H' hlt p y⟩
  · have e : i = n := by omega
    subst e
    exact .inl ⟨hst H p, hd H p⟩
theorem tYes_if {σ : L2.St} {H : Hp} {A B : Hp → Prop} (h : A H) : tYes σ H fun b H3 => if b = true then A H3 else B H3 := h
/-- the keys of a dict that is walked -/
theorem keys_go {d : Addr} {o : Obj} {kvs : List (Key × V)} {i : Nat} {H : Hp} (e : H d = some (.frz o (.dK kvs))) (h : i < kvs.length) : (Itk d o kvs).go i H := ⟨e, h⟩
theorem keys_stop {d : Addr} {o : Obj} {kvs : List (Key × V)} {H : Hp} (e : H d = some (.frz o (.dK kvs))) : (Itk d o kvs).stop kvs.length H := ⟨e, Nat.le_refl _⟩
theorem take_succ_of {α : Type} {l : List α} {i : Nat} {x : α} (h : l[i]? = some x) : l.take (i + 1) = l.take i ++ [x] := by
  rw [List.take_add_one, h]; rfl
end K96
set_option Elab.async false
set_option linter.all false
set_option maxRecDepth 100000
set_option maxHeartbeats 1000000
namespace K96
open PySem PySem.Spec PyProof.Rows L2
section
variable {w : World} {K : PySem.W.Frag} {mg : Str → Option Value} {base : Heap}
/-! ### target_of -/
def tgV (H : Hp) (v : V) : V := match tgt H v with
  | some k => .int k
  | none => .non
def spTarget : Sp := fun vs H Q _ => ∃ v, vs = [v] ∧ VOk H v ∧ Q (tgV H v) H
theorem sc_target : FnScope ["value"] ["value"] (defScope s_target_of) := ⟨rfl, rfl, rfl, by decide +kernel, rfl, by decide +kernel, by decide +kernel⟩
theorem ok_target (T : Top K mg) : Ok Pg w K mg base CX0 1 (He.ga K "target_of") ["value"] spTarget := by
  refine ok0 T.d_target_of sc_target (fun vs H Q E h => ?_) (fun _ _ _ _ _ _ us hl => match us, hl with | [_], _ => rfl) (fun cdv A outer s H vs Q E hr h => ?_)
  · obtain ⟨v, rfl, _⟩ := h
    rfl
  · obtain ⟨v, rfl, hv, k⟩ := h
    refine ⟨_, pss_cons (ps_if (pt_val (pe_callB call_isi (by rfl) T.fr_isinstance (by decide +kernel) (pa_cons (pv 0) (pa_cons (pe_bltn (v := .ty "tuple") (by rfl) T.fr_tuple (by decide +kernel) rfl) pa_nil)))) (pss_one (ps_ret (pe_ix ix_tup (pv 0) pe_int (fun _ _ => rfl)))) pss_nil)
      (pss_one (ps_ret pe_non)), ?_⟩
    rcases hv with rfl | ⟨n, rfl⟩ | ⟨t, j, rfl, e⟩
    · refine ⟨_, rfl, _, _, _, _, false, rfl, .ty "tuple", .base .non, kit_ty (by decide +kernel), false, rfl, ?_⟩
      exact iteF k
    · refine ⟨_, rfl, _, _, _, _, false, rfl, .ty "tuple", .base (.int n), kit_ty (by decide +kernel), false, rfl, ?_⟩
      exact iteF k
    · refine ⟨_, rfl, _, _, _, _, true, rfl, .ty "tuple", .base (.tup e), kit_ty (by decide +kernel), true, rfl, ?_⟩
      refine iteT ?_
      have k' : Q (.int j) H := by
        have e2 : tgV H (.ref t) = .int j := by unfold tgV; rw [tgt_ref e]
        rw [← e2]; exact k
      exact ⟨_, rfl, t, _, _, _, rfl, rfl, SqT.of e, atI_nat (j := 1) rfl, k'⟩
/-! ### Store.__init__ -/
def spStoreInit (K : PySem.W.Frag) : Sp := fun vs H Q _ => ∃ (p dx : Addr), vs = [.ref p] ∧ H p = some (.ins (He.ga K "Store") dx []) ∧
  ∀ (H' : Hp) (od rl : Addr), StoreAt K H' ⟨p, od, rl, [], [], 0⟩ → Kp [p] H H' → H od = none → H rl = none → Q .non H'
theorem sc_StoreInit : FnScope ["self"] ["self"] (defScope s_Store___init__) := ⟨rfl, rfl, rfl, by decide +kernel, rfl, by decide +kernel, by decide +kernel⟩
theorem ok_StoreInit (T : Top K mg) : Ok Pg w K mg base CX0 1 (He.ma K (He.ga K "Store") "__init__") ["self"] (spStoreInit K) := by
  refine ok0 T.d_Store___init__ sc_StoreInit (fun vs H Q E h => ?_) (fun _ _ _ _ _ _ us hl => match us, hl with | [_], _ => rfl) (fun cdv A outer s H vs Q E hr h => ?_)
  · obtain ⟨p, dx, rfl, _⟩ := h
    rfl
  · obtain ⟨p, dx, rfl, hp, k⟩ := h
    refine ⟨_, pss_cons (ps_fld (pv 0) pe_dnewK rfl) (pss_cons (ps_fld (pv 0) (pe_lst pa_nil) rfl) (pss_one (ps_fld (pv 0) pe_int rfl))), ?_⟩
    intro d hd
    have npd : p ≠ d := ne_of_none hp hd
    refine ⟨_, rfl, p, _, dx, _, rfl, by rw [upd_ne npd]; exact hp, T.cl_Store, T.na_Store_objects, (by show 0 < 1000; decide), ?_⟩
    refine ⟨Nat.zero_le _, fun l hl => ?_⟩
    have npl : p ≠ l := ne_of_none upd_same hl
    have ndl : d ≠ l := fun e => by rw [← e, upd_ne npd.symm, upd_same] at hl; cases hl
    have hl0 : H l = none := by rw [upd_ne npl.symm, upd_ne ndl.symm] at hl; exact hl
    refine ⟨_, rfl, p, _, dx, _, rfl, by rw [upd_ne npl, upd_same], T.cl_Store, T.na_Store_roots, (by show 1 < 1000; decide), ?_⟩
    refine ⟨_, rfl, p, _, dx, _, rfl, upd_same, T.cl_Store, T.na_Store_next_number, (by show 2 < 1000; decide), ?_⟩
    refine k _ d l ⟨⟨dx, upd_same⟩, ?_, ?_, fun q hq => (nomatch hq), ?_, List.Pairwise.nil, Nat.zero_le _⟩ (fun b o e n => ?_) hd hl0
    · rw [upd_ne npd.symm, upd_ne npd.symm, upd_ne ndl, upd_ne npd.symm, upd_same]; rfl
    · rw [upd_ne npl.symm, upd_ne npl.symm, upd_same]; rfl
    · show [p, d, l].Nodup
      simp [npd, npl, ndl]
    · have nb : b ≠ p := fun q => n (by simp [q])
      rw [upd_ne nb, upd_ne nb, upd_ne (ne_of_none e hl0), upd_ne nb, upd_ne (ne_of_none e hd)]
      exact e
/-! ### Store.numbers -/
theorem perm_asc : ∀ {l m : List Int}, l.Perm m → l.Pairwise (· ≤ ·) → m.Pairwise (· < ·) → l = m := fun {l m} hp h1 h2 =>
  hp.eq_of_pairwise (fun a b _ _ h3 h4 => Int.le_antisymm h3 h4) h1 (h2.imp fun h => Int.le_of_lt h)
def spNumbers (K : PySem.W.Frag) : Sp := fun vs H Q _ => ∃ (r : Sc), vs = [.ref r.so] ∧ StoreAt K H r ∧ (r.blks.map (·.num)).Pairwise (· < ·) ∧ r.bks.length < 64 ∧
  ∀ p, H p = none → Q (.ref p) (upd H p (.lst ((r.blks.map (·.num)).map V.int)))
theorem sc_numbers : FnScope ["self"] ["self"] (defScope s_Store_numbers) := ⟨rfl, rfl, rfl, by decide +kernel, rfl, by decide +kernel, by decide +kernel⟩
theorem oD_keys (l : List (Addr × Blk V)) : (oD l).map (·.1) = (l.map fun p => p.2.num).map Sum.inl := by
  unfold oD
  rw [List.map_map, List.map_map]
  rfl
theorem blks_nums (r : Sc) : r.blks.map (·.num) = r.bks.map fun p => p.2.num := by
  unfold Sc.blks
  rw [List.map_map]
  rfl
theorem ok_numbers (T : Top K mg) : Ok Pg w K mg base CX0 1 (He.ma K (He.ga K "Store") "numbers") ["self"] (spNumbers K) := by
  refine ok0 T.d_Store_numbers sc_numbers (fun vs H Q E h => ?_) (fun _ _ _ _ _ _ us hl => match us, hl with | [_], _ => rfl) (fun cdv A outer s H vs Q E hr h => ?_)
  · obtain ⟨r, rfl, _⟩ := h
    rfl
  · obtain ⟨r, rfl, S, asc, hz, k⟩ := h
    obtain ⟨dx, h1⟩ := S.ins
    refine ⟨_, pss_one (ps_ret (pe_callB (call_sortedDI rfl) (by rfl) T.fr_sorted (by decide +kernel) (pa_cons (pe_fld (pv 0) rfl) pa_nil))), ?_⟩
    refine ⟨_, rfl, r.so, _, dx, _, _, rfl, h1, T.cl_Store, T.na_Store_objects, srF_objects, r.od, _, r.bks.map fun p => p.2.num, rfl, .inl S.objs, oD_keys _, by rw [List.length_map]; exact hz, fun ys p hp hs hn => ?_⟩
    have e : ys = r.blks.map (·.num) := perm_asc (by rw [blks_nums]; exact hp) hs asc
    rw [e]
    exact k p hn
/-! ### Store.fields -/
def spFields (K : PySem.W.Frag) : Sp := fun vs H Q E => ∃ (r : Sc) (k : Int), vs = [.ref r.so, .int k] ∧ StoreAt K H r ∧ k.natAbs.log2 < 1920 ∧
  (∀ p ∈ r.bks, p.2.num = k → Q (.ref p.1) H) ∧ (k ∉ r.blks.map (·.num) → MayRaise K [] H E)
theorem sc_fields : FnScope ["self", "number"] ["self", "number"] (defScope s_Store_fields) := ⟨rfl, rfl, rfl, by decide +kernel, rfl, by decide +kernel, by decide +kernel⟩
theorem err1_end {H : Hp} {a d C : Addr} {f : Str} {i : Int} (ha : H a = none) (hd : H d = none) (hne : d ≠ a) :
    (∀ b o, H b = some o → upd (del (upd (upd (upd H a (exo a C none)) d (exd d [(f, .int i)])) a (exo a C (some d))) a) d (.xd [(f, .int i)]) b = some o) ∧ upd (del (upd (upd (upd H a (exo a C none)) d (exd d [(f, .int i)])) a (exo a C (some d))) a) d (.xd [(f, .int i)]) d = some (.xd [(f, .int i)]) := by
  refine ⟨fun b o e => ?_, upd_same⟩
  have n1 := ne_of_none e ha
  have n2 := ne_of_none e hd
  rw [upd_ne n2, del_ne n1, upd_ne n1, upd_ne n2, upd_ne n1]
  exact e
theorem ok_fields (T : Top K mg) : Ok Pg w K mg base (L2.CX Pg w) 4 (He.ma K (He.ga K "Store") "fields") ["self", "number"] (spFields K) := by
  obtain ⟨fdE, GE, bE⟩ := ok_err_NoSuchObject (w := w) (base := base) T
  obtain ⟨_, _, _, _, _, _, _, _, _, _, SE, _, iC, tI, _⟩ := T.x_NoSuchObject
  refine okX T.d_Store_fields sc_fields (fun vs H Q E h => ?_) (fun _ _ _ _ _ _ us hl => match us, hl with | [_, _], _ => rfl) (fun cdv A outer s H vs Q E hr h => ?_)
  · obtain ⟨r, k, rfl, _⟩ := h
    rfl
  · obtain ⟨r, k, rfl, S, hz, kq, ke⟩ := h
    have hu := hu_of hr
    obtain ⟨dx, h1⟩ := S.ins
    refine ⟨_, pss_cons (ps_if (pt_cmp (pc_dnotin hu (pv 1) (pe_fld (pv 0) rfl))) (pss_one (ps_raise rfl (takes_of rfl rfl rfl rfl) (pmk_oex SE.cls iC tI GE hr bE .nil pass0 (by rfl) T.mg_NoSuchObject (pa_cons (pv 1) pa_nil)))) pss_nil)
      (pss_one (ps_ret (pe_dget hu (pe_fld (pv 0) rfl) (pv 1) (fun _ _ => rfl)))), ?_⟩
    refine ⟨_, rfl, _, rfl, r.so, _, dx, _, _, rfl, h1, T.cl_Store, T.na_Store_objects, srF_objects, r.od, _, rfl, DGet.k (k := Sum.inl k) S.objs, _, rfl, ?_⟩
    by_cases hk : k ∈ r.blks.map (·.num)
    · rw [blks_nums] at hk
      obtain ⟨p, hp, e⟩ := List.mem_map.mp hk
      subst e
      have nd : (r.bks.map fun p => p.2.num).Nodup := by rw [← blks_nums]; exact S.nums
      rw [valV_oD nd hp]
      refine iteF ?_
      exact ⟨_, rfl, r.so, _, dx, _, _, rfl, h1, T.cl_Store, T.na_Store_objects, srF_objects, _, rfl, r.od, .ref p.1, rfl, by rw [← valV_oD nd hp]; exact DGet.k (k := Sum.inl p.2.num) S.objs, kq p hp rfl⟩
    · rw [valV_oD_none (by rw [← blks_nums]; exact hk)]
      refine iteT ?_
      refine ⟨_, rfl, by simp, fun a ha => ⟨a, k, rfl, hz, upd_same, fun d hd hne => ⟨rfl, d, [("number", .int k)], upd_same, ?_, ?_, ?_⟩⟩⟩
      · rw [upd_ne hne, upd_same]
      · rw [upd_ne hne] at hd; exact hd
      · have hd0 : H d = none := by rw [upd_ne hne] at hd; exact hd
        obtain ⟨z1, z2⟩ := err1_end (C := He.ga K "NoSuchObject") (f := "number") (i := k) ha hd0 hne
        exact ke hk _ _ _ ⟨d, _, rfl, z2, .inl ⟨rfl, _, rfl⟩⟩ fun b o e _ => z1 b o e
end
end K96
set_option Elab.async false
set_option linter.all false
set_option maxRecDepth 100000
set_option maxHeartbeats 1000000
namespace K96
open PySem PySem.Spec PyProof.Rows L2
theorem rep_flat {x : V} : ∀ n : Nat, (List.replicate n [x]).flatten = List.replicate n x
  | 0 => rfl
  | n + 1 => by
    rw [List.replicate_succ, List.replicate_succ, List.flatten_cons, rep_flat n]; rfl
theorem line1000 {n : Nat} (h : n ≤ 1000) : n ≤ sizeLine := Nat.le_of_lt (small1000 h)
section
variable {w : World} {K : PySem.W.Frag} {mg : Str → Option Value} {base : Heap}
/-! ### Store.make -/
def spMake (K : PySem.W.Frag) : Sp := fun vs H Q _ => ∃ (r : Sc) (c : Int), vs = [.ref r.so, .int c] ∧ StoreAt K H r ∧ 0 ≤ c ∧ c ≤ 1000 ∧ r.next ∉ r.blks.map (·.num) ∧ r.bks.length < 64 ∧
  ∀ (H' : Hp) (l : Addr), H l = none → (∀ s : Int, StoreAt K H' { r with bks := r.bks ++ [(l, ⟨r.next, s, List.replicate c.toNat .non⟩)], next := r.next + 1 }) → Kp r.sfp H H' → Q (.int r.next) H'
theorem sc_make : FnScope ["self", "count", "number"] ["self", "count"] (defScope s_Store_make) := ⟨rfl, rfl, rfl, by decide +kernel, rfl, by decide +kernel, by decide +kernel⟩
theorem ok_make (T : Top K mg) : Ok Pg w K mg base CX0 1 (He.ma K (He.ga K "Store") "make") ["self", "count"] (spMake K) := by
  refine ok0 T.d_Store_make sc_make (fun vs H Q E h => ?_) (fun _ _ _ _ _ _ us hl => match us, hl with | [_, _], _ => rfl) (fun cdv A outer s H vs Q E hr h => ?_)
  · obtain ⟨r, c, rfl, _⟩ := h
    rfl
  · obtain ⟨r, c, rfl, S, hc0, hc1, hnx, hlen, k⟩ := h
    have hu := hu_of hr
    obtain ⟨dx, h1⟩ := S.ins
    refine ⟨_, pss_cons (ps_set (i := 2) sc_make.nd rfl (.inl rfl) (pe_fld (pv 0) rfl))
      (pss_cons (ps_dput hu (pe_fld (pv 0) rfl) (pv 2) (pe_op op_rep (pe_lst (pa_cons pe_non pa_nil)) (pv 1)) rfl)
      (pss_cons (ps_fldaug (pv 0) pe_int in_add) (pss_one (ps_ret (pv 2))))), ?_⟩
    refine ⟨_, rfl, r.so, _, dx, _, _, rfl, h1, T.cl_Store, T.na_Store_next_number, srF_next_number, ?_⟩
    refine ⟨(by show 1 ≤ sizeLine; decide), fun p hp => ⟨_, rfl, p, c, _, rfl, rfl, upd_same, by omega, by omega, line1000 (by simp only [List.length_cons, List.length_nil]; omega), fun q hq => ?_⟩⟩
    have s1 : Same H (upd H p (.lst [.non])) := same_upd hp
    have s2 := s1.trans (same_upd (o := .lst (List.replicate c.toNat [V.non]).flatten) hq)
    have hq0 : H q = none := s1.free hq
    have el : (oD r.bks).length < sizeLine := by unfold oD; rw [List.length_map]; exact small1000 (by omega)
    refine ⟨_, rfl, r.so, _, dx, _, _, rfl, s2 _ _ h1, T.cl_Store, T.na_Store_objects, srF_objects, _, rfl, r.od, _, rfl, DPut.k (k := Sum.inl r.next) (s2 _ _ S.objs) el, ?_⟩
    have nd := S.nd
    have nso : r.so ≠ r.od := ne_of h1 S.objs (by intro z; cases z)
    refine ⟨_, rfl, r.so, _, dx, _, _, rfl, by rw [upd_ne nso]; exact s2 _ _ h1, T.cl_Store, T.na_Store_next_number, srF_next_number, _, _, rfl, rfl, dx, _, by rw [upd_ne nso]; exact s2 _ _ h1, (by show 3 < 1000; decide), ?_⟩
    refine ⟨_, rfl, ?_⟩
    have ndb : (r.so :: r.od :: r.rl :: r.bks.map (·.1)).Nodup := S.nd
    simp only [List.nodup_cons, List.mem_cons, not_or] at ndb
    obtain ⟨⟨_, n2, n3⟩, ⟨n4, n5⟩, n6, n7⟩ := ndb
    have hnx' : r.next ∉ r.bks.map fun p => p.2.num := by rw [← blks_nums]; exact hnx
    have qn : ∀ b o, H b = some o → b ≠ q := fun b o e => ne_of_none e hq0
    have ho : ∀ b o, b ≠ r.so → b ≠ r.od → H b = some o → upd (upd (upd (upd H p (.lst [V.non])) q (.lst (List.replicate c.toNat [V.non]).flatten)) r.od (.dK (putK (oD r.bks) (Sum.inl r.next) (V.ref q)))) r.so (.ins (He.ga K "Store") dx (putF "next_number" (V.int (r.next + 1)) (srF r.od r.rl r.next))) b = some o := fun b o e1 e2 e => by
      rw [upd_ne e1, upd_ne e2]; exact s2 _ _ e
    refine k _ q hq0 (fun s => ⟨⟨dx, ?_⟩, ?_, ho _ _ (Ne.symm n2) (Ne.symm n4) S.rts, ?_, ?_, ?_, ?_⟩) fun b o e n => ?_
    · rw [upd_same, srF_put_next_number]
    · rw [upd_ne nso.symm, upd_same, putK_oD_new (b := ⟨r.next, s, List.replicate c.toNat .non⟩) rfl hnx']
    · intro x hx
      rcases List.mem_append.mp hx with hx | hx
      · have hm := List.mem_map_of_mem (f := (·.1)) hx
        exact ho _ _ (fun z => n3 (by rw [← z]; exact hm)) (fun z => n5 (by rw [← z]; exact hm)) (S.lst x hx)
      · have e : x = (q, ⟨r.next, s, List.replicate c.toNat .non⟩) := by simpa using hx
        subst e
        show upd _ r.so _ q = _
        rw [upd_ne (qn _ _ h1).symm, upd_ne (qn _ _ S.objs).symm, upd_same, rep_flat]
    · show (r.so :: r.od :: r.rl :: (r.bks ++ [(q, (⟨r.next, s, List.replicate c.toNat .non⟩ : Blk V))]).map (·.1)).Nodup
      rw [List.map_append]
      have e : ∀ x ∈ r.so :: r.od :: r.rl :: r.bks.map (·.1), x ≠ q := fun x hx => by
        obtain ⟨o, eo⟩ := S.some_ x hx
        exact qn _ _ eo
      have : (r.so :: r.od :: r.rl :: (r.bks.map (·.1) ++ [(q, (⟨r.next, s, List.replicate c.toNat .non⟩ : Blk V))].map (·.1))) = (r.so :: r.od :: r.rl :: r.bks.map (·.1)) ++ [q] := rfl
      rw [this]
      refine List.nodup_append.mpr ⟨S.nd, by simp, fun x hx y hy => ?_⟩
      have : y = q := by simpa using hy
      subst this
      exact e x hx
    · show (((r.bks ++ [(q, (⟨r.next, s, List.replicate c.toNat .non⟩ : Blk V))]).map (·.2)).map (·.num)).Nodup
      rw [List.map_append, List.map_append]
      refine List.nodup_append.mpr ⟨S.nums, by simp, fun x hx y hy => ?_⟩
      have : y = r.next := by simpa using hy
      subst this
      intro z
      rw [z] at hx
      exact hnx hx
    · show (r.bks ++ [(q, (⟨r.next, s, List.replicate c.toNat .non⟩ : Blk V))]).length ≤ 64
      rw [List.length_append]
      simp only [List.length_cons, List.length_nil]
      omega
    · have e1 : b ≠ r.so := fun z => n (by rw [z]; simp [Sc.sfp])
      have e2 : b ≠ r.od := fun z => n (by rw [z]; simp [Sc.sfp])
      exact ho b o e1 e2 e
end
end K96
set_option Elab.async false
set_option linter.all false
set_option maxRecDepth 100000
set_option maxHeartbeats 1000000
namespace K96
open PySem PySem.Spec PyProof.Rows L2
theorem nums_mem {r : Sc} {k : Int} (h : k ∈ r.blks.map (·.num)) : ∃ p ∈ r.bks, p.2.num = k := by
  rw [blks_nums] at h
  obtain ⟨p, hp, e⟩ := List.mem_map.mp h
  exact ⟨p, hp, e⟩
theorem mem_nums {r : Sc} {p : Addr × Blk V} (h : p ∈ r.bks) : p.2.num ∈ r.blks.map (·.num) := by
  rw [blks_nums]
  exact List.mem_map_of_mem (f := fun p : Addr × Blk V => p.2.num) h
theorem bks_inj {K : PySem.W.Frag} {H : Hp} {r : Sc} (S : StoreAt K H r) {p q : Addr × Blk V} (hp : p ∈ r.bks) (hq : q ∈ r.bks) (e : p.2.num = q.2.num) : p = q := by
  have nd : (r.bks.map fun p => p.2.num).Nodup := by rw [← blks_nums]; exact S.nums
  obtain ⟨i, hi, ei⟩ := List.getElem_of_mem hp
  obtain ⟨j, hj, ej⟩ := List.getElem_of_mem hq
  have e4 : (r.bks.map fun p => p.2.num)[i]'(by simpa using hi) = (r.bks.map fun p => p.2.num)[j]'(by simpa using hj) := by simpa [ei, ej] using e
  have ij : i = j := (List.getElem_inj nd).mp e4
  subst ij
  exact ei.symm.trans ej
section
variable {w : World} {K : PySem.W.Frag} {mg : Str → Option Value} {base : Heap}
/-! ### Store.read -/
def spRead (K : PySem.W.Frag) : Sp := fun vs H Q E => ∃ (r : Sc) (k i : Int), vs = [.ref r.so, .int k, .int i] ∧ StoreAt K H r ∧ k.natAbs.log2 < 1920 ∧ i.natAbs.log2 < 1920 ∧
  (∀ p ∈ r.bks, p.2.num = k → ∀ (j : Nat) v, i = (j : Int) → p.2.fs[j]? = some v → Q v H) ∧ ((¬ ∃ p ∈ r.bks, p.2.num = k ∧ 0 ≤ i ∧ i < p.2.len) → MayRaise K [] H E)
theorem sc_read : FnScope ["self", "number", "index", "fields"] ["self", "number", "index"] (defScope s_Store_read) := ⟨rfl, rfl, rfl, by decide +kernel, rfl, by decide +kernel, by decide +kernel⟩
theorem ok_read (T : Top K mg) : Ok Pg w K mg base (L2.CX Pg w) 5 (He.ma K (He.ga K "Store") "read") ["self", "number", "index"] (spRead K) := by
  obtain ⟨fdE, GE, bE⟩ := ok_err_NoSuchField (w := w) (base := base) T
  obtain ⟨_, _, _, _, _, _, _, _, _, _, SE, _, iC, tI, _⟩ := T.x_NoSuchField
  obtain ⟨fdF, GF, bF, _⟩ := ok_fields (w := w) (base := base) T
  refine okX T.d_Store_read sc_read (fun vs H Q E h => ?_) (fun _ _ _ _ _ _ us hl => match us, hl with | [_, _, _], _ => rfl) (fun cdv A outer s H vs Q E hr h => ?_)
  · obtain ⟨r, k, i, rfl, _⟩ := h
    rfl
  · obtain ⟨r, k, i, rfl, S, hz, hz2, kq, ke⟩ := h
    have hr3 : Room 3 _ := hr.mono (by decide)
    obtain ⟨dx, h1⟩ := S.ins
    refine ⟨_, pss_cons (ps_set (i := 3) sc_read.nd rfl (.inl rfl) (pe_meth (pv 0) T.cl_Store T.me_Store_fields GF hr bF .nil (passes_call (takes_of rfl rfl rfl rfl) (fun _ _ _ _ h => h)) (pa_cons (pv 1) pa_nil)))
      (pss_cons (ps_if (pt_not (pt_chain op_le op_lt pe_int (pv 2) (pe_callB call_len_seq (by rfl) T.fr_len PySem.boot_len (pa_cons (pv 3) pa_nil))))
        (pss_one (ps_raise rfl (takes_of rfl rfl rfl rfl) (pmk_oex SE.cls iC tI GE hr3 bE .nil pass0 (by rfl) T.mg_NoSuchField (pa_cons (pv 2) pa_nil)))) pss_nil)
      (pss_one (ps_ret (pe_ix ix_list (pv 3) (pv 2) (fun _ _ => rfl))))), ?_⟩
    refine ⟨_, rfl, r.so, dx, _, rfl, h1, srF_no_fields, _, rfl, r, k, rfl, S, hz, fun p hp e => ?_, fun hk => ke fun ⟨p, hp, e, _⟩ => hk (by rw [← e]; exact mem_nums hp)⟩
    have raise : ∀ {H1 : Hp}, Same H H1 → (¬ ∃ p ∈ r.bks, p.2.num = k ∧ 0 ≤ i ∧ i < p.2.len) → ∀ a, H1 a = none → spErr1 (He.ga K "NoSuchField") "index" (.ref a :: ([.int i] ++ [])) (upd H1 a (exo a (He.ga K "NoSuchField") none))
        (fun v H2 => v = .non ∧ ∃ (d : Addr) (fs : List (Str × V)), H2 a = some (exo a (He.ga K "NoSuchField") (some d)) ∧ H2 d = some (exd d fs) ∧ H1 d = none ∧ E (.ref (He.ga K "NoSuchField")) (some d) (upd (del H2 a) d (.xd fs))) (fun _ _ _ => False) := fun {H1} hs hno a ha => by
      refine ⟨a, i, rfl, hz2, upd_same, fun d hd hne => ⟨rfl, d, [("index", .int i)], upd_same, ?_, ?_, ?_⟩⟩
      · rw [upd_ne hne, upd_same]
      · rw [upd_ne hne] at hd; exact hd
      · have hd0 : H1 d = none := by rw [upd_ne hne] at hd; exact hd
        obtain ⟨z1, z2⟩ := err1_end (C := He.ga K "NoSuchField") (f := "index") (i := i) ha hd0 hne
        exact ke hno _ _ _ ⟨d, _, rfl, z2, .inr (.inl ⟨rfl, _, rfl⟩)⟩ fun b o e _ => z1 b o (hs b o e)
    have hlen : (p.2.fs.length : Int) = p.2.len := rfl
    refine ⟨_, rfl, _, _, rfl, rfl, _, rfl, ?_⟩
    by_cases h0 : 0 ≤ i
    · rw [decide_eq_true h0]
      refine iteT ⟨_, rfl, p.1, _, rfl, .inl (SqL.of (S.lst p hp)), _, _, rfl, rfl, _, rfl, ?_⟩
      by_cases h2 : i < (p.2.fs.length : Int)
      · rw [decide_eq_true h2]
        refine iteF ?_
        obtain ⟨j, rfl⟩ := Int.eq_ofNat_of_zero_le h0
        have hj : j < p.2.fs.length := by omega
        have hv : p.2.fs[j]? = some p.2.fs[j] := List.getElem?_eq_getElem hj
        exact ⟨_, rfl, _, rfl, p.1, _, _, _, rfl, rfl, SqL.of (S.lst p hp), atI_nat hv, kq p hp e j _ rfl hv⟩
      · rw [decide_eq_false h2]
        refine iteT ⟨_, rfl, by simp, raise Same.refl fun ⟨q, hq, eq, hq0, hq1⟩ => ?_⟩
        have : q = p := bks_inj S hq hp (eq.trans e.symm)
        subst this
        rw [← hlen] at hq1
        exact h2 hq1
    · rw [decide_eq_false h0]
      refine iteF ⟨_, rfl, ?_⟩
      exact iteT ⟨_, rfl, by simp, raise Same.refl fun ⟨q, _, _, hq0, _⟩ => h0 hq0⟩
/-! ### Store.write -/
def wrB (k : Int) (i : Nat) (v : V) (l : List (Addr × Blk V)) : List (Addr × Blk V) := l.map fun p => if p.2.num = k then (p.1, { p.2 with fs := p.2.fs.set i v }) else p
theorem wrB_blks (k : Int) (i : Nat) (v : V) (l : List (Addr × Blk V)) : (wrB k i v l).map (·.2) = setF k i v (l.map (·.2)) := by
  unfold wrB setF
  rw [List.map_map, List.map_map]
  apply List.map_congr_left
  intro p _
  show (if p.2.num = k then _ else p : Addr × Blk V).2 = if p.2.num = k then _ else p.2
  split <;> rfl
theorem wrB_las (k : Int) (i : Nat) (v : V) (l : List (Addr × Blk V)) : (wrB k i v l).map (·.1) = l.map (·.1) := by
  unfold wrB
  rw [List.map_map]
  apply List.map_congr_left
  intro p _
  show (if p.2.num = k then _ else p : Addr × Blk V).1 = p.1
  split <;> rfl
theorem wrB_oD (k : Int) (i : Nat) (v : V) (l : List (Addr × Blk V)) : oD (wrB k i v l) = oD l := by
  unfold oD wrB
  rw [List.map_map]
  apply List.map_congr_left
  intro p _
  show ((Sum.inl (if p.2.num = k then ((p.1, { p.2 with fs := p.2.fs.set i v }) : Addr × Blk V) else p).2.num : Key), V.ref (if p.2.num = k then ((p.1, { p.2 with fs := p.2.fs.set i v }) : Addr × Blk V) else p).1) = _
  split <;> rfl
def Sc.wr (r : Sc) (k : Int) (i : Nat) (v : V) : Sc := { r with bks := wrB k i v r.bks }
theorem Sc.wr_blks (r : Sc) (k : Int) (i : Nat) (v : V) : (r.wr k i v).blks = setF k i v r.blks := wrB_blks k i v r.bks
theorem Sc.wr_sfp (r : Sc) (k : Int) (i : Nat) (v : V) : (r.wr k i v).sfp = r.sfp := by
  unfold Sc.sfp Sc.wr
  rw [wrB_las]
theorem store_wr {H : Hp} {r : Sc} (S : StoreAt K H r) {p : Addr × Blk V} (hp : p ∈ r.bks) (i : Nat) (v : V) : StoreAt K (upd H p.1 (.lst (p.2.fs.set i v))) (r.wr p.2.num i v) := by
  obtain ⟨dx, h1⟩ := S.ins
  have nd := S.nd
  have n1 : r.so ≠ p.1 := ne_of h1 (S.lst p hp) (by intro z; cases z)
  have n2 : r.od ≠ p.1 := ne_of S.objs (S.lst p hp) (by intro z; cases z)
  have ndb : (r.so :: r.od :: r.rl :: r.bks.map (·.1)).Nodup := S.nd
  simp only [List.nodup_cons, List.mem_cons, not_or] at ndb
  have n3 : r.rl ≠ p.1 := fun z => ndb.2.2.1 (by rw [z]; exact List.mem_map_of_mem (f := (·.1)) hp)
  refine ⟨⟨dx, by show upd _ _ _ r.so = _; rw [upd_ne n1]; exact h1⟩, ?_, by show upd _ _ _ r.rl = _; rw [upd_ne n3]; exact S.rts, fun q hq => ?_, by rw [Sc.wr_sfp]; exact S.nd, ?_, ?_⟩
  · show upd _ _ _ r.od = some (.dK (oD (wrB p.2.num i v r.bks)))
    rw [upd_ne n2, wrB_oD]; exact S.objs
  · obtain ⟨q0, hq0, e⟩ := List.mem_map.mp (show q ∈ wrB p.2.num i v r.bks from hq)
    by_cases c : q0.2.num = p.2.num
    · rw [if_pos c] at e
      have : q0 = p := bks_inj S hq0 hp c
      subst this
      subst e
      exact upd_same
    · rw [if_neg c] at e
      subst e
      have : q0.1 ≠ p.1 := fun z => c (by
        have nl := ndb.2.2.2
        obtain ⟨a, ha, ea⟩ := List.getElem_of_mem hq0
        obtain ⟨b, hb, eb⟩ := List.getElem_of_mem hp
        have e4 : (r.bks.map (·.1))[a]'(by simpa using ha) = (r.bks.map (·.1))[b]'(by simpa using hb) := by simpa [ea, eb] using z
        have ij : a = b := (List.getElem_inj nl).mp e4
        subst ij
        rw [← ea, ← eb])
      rw [upd_ne this]
      exact S.lst q0 hq0
  · rw [Sc.wr_blks, setF_nums]; exact S.nums
  · show (wrB _ _ _ _).length ≤ 64
    unfold wrB
    rw [List.length_map]
    exact S.small
/-- what a write does, or whether it raises -/
def CanWrite (H : Hp) (r : Sc) (k i : Int) (v : V) : Prop := (∃ p ∈ r.bks, p.2.num = k ∧ 0 ≤ i ∧ i < p.2.len) ∧ ∀ j, tgt H v = some j → j ∈ r.blks.map (·.num)
def spWrite (K : PySem.W.Frag) : Sp := fun vs H Q E => ∃ (r : Sc) (k i : Int) (v : V), vs = [.ref r.so, .int k, .int i, v] ∧ StoreAt K H r ∧ k.natAbs.log2 < 1920 ∧ i.natAbs.log2 < 1920 ∧ VOk H v ∧ (∀ j, tgt H v = some j → j.natAbs.log2 < 1920) ∧
  (CanWrite H r k i v → ∀ H', StoreAt K H' (r.wr k i.toNat v) → Kp r.sfp H H' → Q .non H') ∧ (¬ CanWrite H r k i v → MayRaise K [] H E)
theorem sc_write : FnScope ["self", "number", "index", "value", "target"] ["self", "number", "index", "value"] (defScope s_Store_write) := ⟨rfl, rfl, rfl, by decide +kernel, rfl, by decide +kernel, by decide +kernel⟩
theorem ok_write (T : Top K mg) : Ok Pg w K mg base (L2.CX Pg w) 6 (He.ma K (He.ga K "Store") "write") ["self", "number", "index", "value"] (spWrite K) := by
  obtain ⟨fdR, GR, bR, _⟩ := ok_read (w := w) (base := base) T
  obtain ⟨fdF, GF, bF, _⟩ := ok_fields (w := w) (base := base) T
  obtain ⟨fdT, GT, bT, kT⟩ := ok_target (w := w) (base := base) T
  refine okX T.d_Store_write sc_write (fun vs H Q E h => ?_) (fun _ _ _ _ _ _ us hl => match us, hl with | [_, _, _, _], _ => rfl) (fun cdv A outer s H vs Q E hr h => ?_)
  · obtain ⟨r, k, i, v, rfl, _⟩ := h
    rfl
  · obtain ⟨r, k, i, v, rfl, S, hz, hz2, hv, hz3, kq, ke⟩ := h
    have hr4 : Room 4 _ := hr.mono (by decide)
    have hr1 : Room 1 _ := hr.mono (by decide)
    have hu := hu_of hr
    obtain ⟨dx, h1⟩ := S.ins
    refine ⟨_, pss_cons (ps_expr (pe_meth (pv 0) T.cl_Store T.me_Store_read GR hr bR .nil (passes_call (takes_of rfl rfl rfl rfl) (fun _ _ _ _ h => h)) (pa_cons (pv 1) (pa_cons (pv 2) pa_nil))))
      (pss_cons (ps_set (i := 4) sc_write.nd rfl (.inl rfl) (pe_call GT hr1 rfl T.mg_target_of kT bT .nil pass0 (pa_cons (pv 3) pa_nil)))
      (pss_cons (ps_if (pt_cmp (pc_notN (pv 4))) (pss_one (ps_expr (pe_meth (pv 0) T.cl_Store T.me_Store_fields GF hr4 bF .nil (passes_call (takes_of rfl rfl rfl rfl) (fun _ _ _ _ h => h)) (pa_cons (pv 4) pa_nil)))) pss_nil)
      (pss_one (ps_asg (pv 3) (pg_sub (pe_dget hu (pe_fld (pv 0) rfl) (pv 1) (fun _ _ => rfl)) (pv 2) set_list))))), ?_⟩
    refine ⟨_, rfl, r.so, dx, _, rfl, h1, srF_no_read, _, rfl, _, rfl, r, k, i, rfl, S, hz, hz2, fun p hp e j x ej hx => ?_, fun hno => ke fun c => hno c.1⟩
    have hj : j < p.2.fs.length := (List.getElem?_eq_some_iff.mp hx).1
    have hin : ∃ p ∈ r.bks, p.2.num = k ∧ 0 ≤ i ∧ i < p.2.len := ⟨p, hp, e, by omega, by rw [ej]; show (j : Int) < (p.2.fs.length : Int); omega⟩
    refine ⟨_, rfl, v, rfl, hv, ?_⟩
    subst e
    subst ej
    have nd : (r.bks.map fun p => p.2.num).Nodup := by rw [← blks_nums]; exact S.nums
    -- the store itself
    have last : CanWrite H r p.2.num j v → ∀ σ4 : Option V, tAsg (tVar 3) (gSub (tDGet (tFld K (tVar 0) "objects") (tVar 1)) (tVar 2) rSetL) { nx := fun _ H' => Q .non H', rt := Q } [some (.ref r.so), some (.int p.2.num), some (.int j), some v, σ4] H := fun hc σ4 => by
      refine ⟨_, rfl, _, rfl, r.so, _, dx, _, _, rfl, h1, T.cl_Store, T.na_Store_objects, srF_objects, _, rfl, r.od, .ref p.1, rfl, by rw [← valV_oD nd hp]; exact DGet.k (k := Sum.inl p.2.num) S.objs, _, rfl, p.1, _, _, j, rfl, rfl, S.lst p hp, ?_, ?_⟩
      · unfold ixN
        rw [if_pos (by omega), Int.toNat_natCast]
        exact if_pos (by omega)
      · exact kq hc _ (store_wr S hp j v) (kp_upd (by unfold Sc.sfp; exact List.mem_cons_of_mem _ (List.mem_cons_of_mem _ (List.mem_cons_of_mem _ (List.mem_map_of_mem (f := (·.1)) hp)))))
    refine ⟨_, rfl, _, rfl, ?_⟩
    unfold tgV
    cases et : tgt H v with
    | none =>
      refine iteF ?_
      exact last ⟨hin, fun j' e => by rw [et] at e; cases e⟩ _
    | some j' =>
      refine iteT ?_
      refine ⟨_, rfl, r.so, dx, _, rfl, h1, srF_no_fields, _, rfl, r, j', rfl, S, hz3 j' et, fun p' hp' e' => ?_, fun hk => ke fun c => hk (c.2 j' et)⟩
      exact last ⟨hin, fun j2 e => by rw [et] at e; cases e; rw [← e']; exact mem_nums hp'⟩ _
end
end K96
set_option Elab.async false
set_option linter.all false
set_option maxRecDepth 100000
set_option maxHeartbeats 1000000
namespace K96
open PySem PySem.Spec PyProof.Rows L2
section
variable {w : World} {K : PySem.W.Frag} {mg : Str → Option Value} {base : Heap}
/-! ### Store.copy -/
theorem made_same {H : Hp} {x dx C : Addr} (hx : H x = none) (hd : H dx = none) : Same H (upd (upd H dx (.own x)) x (.ins C dx [])) := fun b o e => by
  rw [upd_ne (ne_of_none e hx), upd_ne (ne_of_none e hd)]; exact e
theorem kp_made {H H' : Hp} {x : Addr} (hx : H x = none) (k : Kp [x] H H') : Same H H' := fun b o e => k b o e (by simp; exact ne_of_none e hx)
def spSCopy (K : PySem.W.Frag) : Sp := fun vs H Q _ => ∃ (r : Sc), vs = [.ref r.so] ∧ StoreAt K H r ∧
  ∀ (H' : Hp) (r' : Sc), StoreAt K H' r' → r'.blks = r.blks → r'.roots = r.roots → r'.next = r.next → Same H H' → (∀ b ∈ r'.sfp, H b = none) → Q (.ref r'.so) H'
theorem sc_scopy : FnScope ["self", "other", "number"] ["self"] (defScope s_Store_copy) := ⟨rfl, rfl, rfl, by decide +kernel, rfl, by decide +kernel, by decide +kernel⟩
theorem ok_scopy (T : Top K mg) : Ok Pg w K mg base CX0 3 (He.ma K (He.ga K "Store") "copy") ["self"] (spSCopy K) := by
  obtain ⟨fdI, GI, bI, _⟩ := ok_StoreInit (w := w) (base := base) T
  refine ok0 T.d_Store_copy sc_scopy (fun vs H Q E h => ?_) (fun _ _ _ _ _ _ us hl => match us, hl with | [_], _ => rfl) (fun cdv A outer s H vs Q E hr h => ?_)
  · obtain ⟨r, rfl, _⟩ := h
    rfl
  · obtain ⟨r, rfl, S, k⟩ := h
    have hu := hu_of hr
    refine ⟨_, pss_cons (ps_set (i := 1) sc_scopy.nd rfl (.inl rfl) (pe_make0 T.mk_Store GI hr rfl T.mg_Store bI .nil pass0))
      (pss_cons (ps_lock (ps_for PassesOwn.never rfl (pi_keys (pe_fld (pv 0) rfl)) (pg_name (i := 2) sc_scopy.nd rfl (.inl rfl))
        (pss_one (ps_dput hu (pe_fld (pv 1) rfl) (pv 2) (pe_callTy call_list_of (by rfl) T.fr_list (by decide +kernel) (pa_cons (pe_dget hu (pe_fld (pv 0) rfl) (pv 2) (fun _ _ => rfl)) pa_nil)) rfl))))
      (pss_cons (ps_fld (pv 1) (pe_callTy call_list_of (by rfl) T.fr_list (by decide +kernel) (pa_cons (pe_fld (pv 0) rfl) pa_nil)) rfl)
      (pss_cons (ps_fld (pv 1) (pe_fld (pv 0) rfl) rfl) (pss_one (ps_ret (pv 1)))))), ?_⟩
    -- other = Store()
    intro x dx nx ndx nex
    refine ⟨x, dx, rfl, upd_same, fun H1 od' rl' S' kp f1 f2 => ⟨rfl, ?_⟩⟩
    have s0 := made_same (C := He.ga K "Store") nx ndx
    have s1 : Same H H1 := fun b o e => kp b o (s0 b o e) (by simp; exact ne_of_none e nx)
    have fod : H od' = none := s0.free f1
    have frl : H rl' = none := s0.free f2
    have S1 := S.same s1
    obtain ⟨dS, h1⟩ := S1.ins
    obtain ⟨dx', h1'⟩ := S'.ins
    have ndb : (r.so :: r.od :: r.rl :: r.bks.map (·.1)).Nodup := S.nd
    simp only [List.nodup_cons, List.mem_cons, not_or] at ndb
    obtain ⟨⟨n1, n2, n3⟩, ⟨n4, n5⟩, n6, n7⟩ := ndb
    have ndx' : [x, od', rl'].Nodup := S'.nd
    simp only [List.nodup_cons, List.mem_cons, List.not_mem_nil, or_false, not_or] at ndx'
    obtain ⟨⟨m1, m2⟩, m3, _⟩ := ndx'
    -- what is old is none of the new ones
    have old : ∀ b o, H b = some o → b ≠ x ∧ b ≠ od' ∧ b ≠ rl' := fun b o e => ⟨ne_of_none e nx, ne_of_none e fod, ne_of_none e frl⟩
    have oso := S.some_ r.so (by simp [Sc.sfp])
    obtain ⟨oso, eso'⟩ := oso
    obtain ⟨a1, a2, a3⟩ := old _ _ eso'
    obtain ⟨b1, b2, b3⟩ := old _ _ S.objs
    -- the loop
    refine ⟨r.od, _, S1.objs, True.intro, fun o => ?_⟩
    have hin : ∀ {b u}, b ≠ r.od → H1 b = some u → upd H1 r.od (.frz o (.dK (oD r.bks))) b = some u := fun {b u} hb e => by rw [upd_ne hb]; exact e
    refine ⟨_, rfl, r.so, _, dS, _, _, rfl, hin n1 h1, T.cl_Store, T.na_Store_objects, srF_objects, r.od, o, rfl, .inl ⟨_, upd_same, ?_⟩⟩
    refine for_of (n := (oD r.bks).length) (fun i σ H2 => ∃ (v : Option V) (ac : List (Addr × Blk V)), σ = [some (.ref r.so), some (.ref x), v] ∧ Kp [od'] (upd H1 r.od (.frz o (.dK (oD r.bks)))) H2 ∧ H2 od' = some (.dK (oD ac)) ∧ ac.map (·.2) = (r.bks.take i).map (·.2) ∧
        (∀ p ∈ ac, H2 p.1 = some (.lst p.2.fs) ∧ H p.1 = none ∧ p.1 ≠ x ∧ p.1 ≠ od' ∧ p.1 ≠ rl') ∧ (ac.map (·.1)).Nodup)
      ⟨none, [], rfl, Kp.refl, by rw [upd_ne b2.symm]; exact S'.objs, rfl, fun p hp => (nomatch hp), List.Pairwise.nil⟩
      (fun i σ H2 hi ⟨_, _, _, k2, _⟩ => keys_go (k2 _ _ upd_same (by simp; exact b2)) hi) (fun σ H2 ⟨_, _, _, k2, _⟩ => keys_stop (k2 _ _ upd_same (by simp; exact b2))) ?_ ?_
    · rintro i y σ H2 _ hi ⟨v, ac, rfl, k2, e2, eb, hac, nac⟩ ⟨rfl, kk, vv, ek, rfl⟩
      obtain ⟨p, hp, e⟩ : ∃ p, r.bks[i]? = some p ∧ (kk, vv) = (Sum.inl p.2.num, V.ref p.1) := by
        unfold oD at ek
        rw [List.getElem?_map] at ek
        cases q : r.bks[i]? with
        | none => rw [q] at ek; cases ek
        | some p => rw [q] at ek; exact ⟨p, rfl, (Option.some.inj ek).symm⟩
      cases e
      have hpm := List.mem_of_getElem? hp
      have nd : (r.bks.map fun p => p.2.num).Nodup := by rw [← blks_nums]; exact S.nums
      have keep : ∀ b u, b ≠ r.od → b ≠ od' → H1 b = some u → _ := fun b u c1 c2 e => k2 b u (hin c1 e) (by simp; exact c2)
      have p1 : p.1 ≠ r.od := fun z => n5 (by rw [← z]; exact List.mem_map_of_mem (f := (·.1)) hpm)
      have p2 : p.1 ≠ od' := (old _ _ (S.lst p hpm)).2.1
      have hl := keep _ _ p1 p2 (S1.lst p hpm)
      refine ⟨_, rfl, r.so, _, dS, _, _, rfl, keep _ _ n1 a2 h1, T.cl_Store, T.na_Store_objects, srF_objects, _, rfl, r.od, .ref p.1, rfl, ?_, p.1, _, rfl, .inl (SqL.of hl), fun l hl2 => ?_⟩
      · refine .inl ⟨_, Sum.inl p.2.num, .inr ⟨o, k2 _ _ upd_same (by simp; exact b2)⟩, rfl, (valV_oD nd hpm).symm⟩
      · have xod : x ≠ r.od := fun z => b1 z.symm
        have hx2 := keep _ _ xod m1 h1'
        have hfr := k2 _ _ upd_same (by simp; exact b2)
        have l1 : l ≠ od' := fun z => by rw [z, e2] at hl2; cases hl2
        have l2 : l ≠ x := fun z => by rw [z, hx2] at hl2; cases hl2
        have l3 : l ≠ r.od := fun z => by rw [z, hfr] at hl2; cases hl2
        have l4 : H l = none := by
          cases q : H l with
          | none => rfl
          | some u =>
            have z := keep _ _ l3 l1 (s1 _ _ q)
            rw [hl2] at z; cases z
        have l5 : l ≠ rl' := fun z => by
          have z2 := keep _ _ (fun q => b3 q.symm) (fun q => m3 q.symm) S'.rts
          rw [← z, hl2] at z2; cases z2
        have lac : ∀ q ∈ ac, q.1 ≠ l := fun q hq => ne_of_none (hac q hq).1 hl2
        have hnum : p.2.num ∉ ac.map fun p => p.2.num := fun z => by
          have e3 : (ac.map fun p => p.2.num) = (r.bks.take i).map fun p => p.2.num := by
            have := congrArg (List.map Blk.num) eb
            rw [List.map_map, List.map_map] at this
            exact this
          rw [e3] at z
          have nt : ((r.bks.take (i + 1)).map fun p => p.2.num).Nodup := nd.sublist ((List.take_sublist _ _).map _)
          rw [take_succ_of hp, List.map_append] at nt
          exact (List.nodup_append.mp nt).2.2 _ z _ (by simp) rfl
        have lac2 : (oD ac).length < sizeLine := by
          have : ac.length ≤ r.bks.length := by
            have := congrArg List.length eb
            simp only [List.length_map, List.length_take] at this
            omega
          unfold oD; rw [List.length_map]; exact small1000 (by have := S.small; omega)
        refine ⟨_, rfl, x, _, dx', _, _, rfl, by rw [upd_ne l2.symm]; exact hx2, T.cl_Store, T.na_Store_objects, srF_objects, _, rfl, od', _, rfl, DPut.k (k := Sum.inl p.2.num) (by rw [upd_ne l1.symm]; exact e2) lac2, ?_⟩
        refine ⟨some (.int p.2.num), ac ++ [(l, p.2)], rfl, fun b u eu nu => ?_, ?_, ?_, fun q hq => ?_, ?_⟩
        · have e4 := k2 b u eu nu
          rw [upd_ne (by simpa using nu), upd_ne (ne_of_none e4 hl2)]; exact e4
        · rw [upd_same, putK_oD_new (b := p.2) rfl hnum]
        · rw [List.map_append, eb, take_succ_of hp, List.map_append]; rfl
        · rcases List.mem_append.mp hq with hq | hq
          · obtain ⟨c1, c2, c3, c4, c5⟩ := hac q hq
            exact ⟨by rw [upd_ne c4, upd_ne (lac q hq)]; exact c1, c2, c3, c4, c5⟩
          · have : q = (l, p.2) := by simpa using hq
            subst this
            exact ⟨by rw [upd_ne l1, upd_same], l4, l2, l1, l5⟩
        · rw [List.map_append]
          refine List.nodup_append.mpr ⟨nac, by simp, fun a ha b hb => ?_⟩
          have : b = l := by simpa using hb
          subst this
          obtain ⟨q, hq, rfl⟩ := List.mem_map.mp ha
          exact lac q hq
    · rintro σ H2 ⟨v, ac, rfl, k2, e2, eb, hac, nac⟩
      have hfr := k2 _ _ upd_same (by simp; exact b2)
      refine ⟨hfr, ?_⟩
      have k3 : Kp [od'] H1 (upd H2 r.od (.dK (oD r.bks))) := Kp.unlock S1.objs k2
      have e3 : upd H2 r.od (.dK (oD r.bks)) od' = some (.dK (oD ac)) := by rw [upd_ne b2.symm]; exact e2
      have hac3 : ∀ p ∈ ac, upd H2 r.od (.dK (oD r.bks)) p.1 = some (.lst p.2.fs) := fun p hp => by
        have : p.1 ≠ r.od := fun z => by have q := (hac p hp).1; rw [z, hfr] at q; cases q
        rw [upd_ne this]; exact (hac p hp).1
      obtain ⟨H3, eH3⟩ : ∃ H3, H3 = upd H2 r.od (.dK (oD r.bks)) := ⟨_, rfl⟩
      rw [← eH3] at k3 e3 hac3
      show tSeq _ _ _ _ _
      rw [← eH3]
      have hx3 := k3 _ _ h1' (by simp; exact m1)
      have hso3 := k3 _ _ h1 (by simp; exact a2)
      -- other.roots = list(self.roots)
      refine ⟨_, rfl, r.so, _, dS, _, _, rfl, hso3, T.cl_Store, T.na_Store_roots, srF_roots, r.rl, _, rfl, .inl (SqL.of (k3 _ _ S1.rts (by simp; exact (old _ _ S.rts).2.1))), fun l2 hl2 => ?_⟩
      have s4 := same_upd (o := .lst (r.roots.map V.int)) hl2
      refine ⟨_, rfl, x, _, dx', _, rfl, s4 _ _ hx3, T.cl_Store, T.na_Store_roots, (by show 3 < 1000; decide), ?_⟩
      have ex : putF ("roots" : Str) (V.ref l2) (srF od' rl' 0) = srF od' l2 0 := srF_put_roots
      rw [ex]
      -- other.next_number = self.next_number
      have k5 : Kp [x] H3 (upd (upd H3 l2 (.lst (r.roots.map V.int))) x (.ins (He.ga K "Store") dx' (srF od' l2 0))) := Same.kp s4 (kp_upd (by simp))
      refine ⟨_, rfl, r.so, _, dS, _, _, rfl, k5 _ _ hso3 (by simp; exact a1), T.cl_Store, T.na_Store_next_number, srF_next_number, _, rfl, x, _, dx', _, rfl, upd_same, T.cl_Store, T.na_Store_next_number, (by show 3 < 1000; decide), ?_⟩
      have ex2 : putF ("next_number" : Str) (V.int r.next) (srF od' l2 0) = srF od' l2 r.next := srF_put_next_number
      rw [ex2, upd_upd]
      refine ⟨_, rfl, ?_⟩
      have k6 : Kp [x] H3 (upd (upd H3 l2 (.lst (r.roots.map V.int))) x (.ins (He.ga K "Store") dx' (srF od' l2 r.next))) := Same.kp s4 (kp_upd (by simp))
      have hnl : ∀ b u, H b = some u → H3 b = some u := fun b u e => k3 _ _ (s1 _ _ e) (by simp; exact (old _ _ e).2.1)
      have l20 : H l2 = none := by
        cases q : H l2 with
        | none => rfl
        | some u => rw [hnl _ _ q] at hl2; cases hl2
      have lx : l2 ≠ x := fun z => by rw [z, hx3] at hl2; cases hl2
      have lo : l2 ≠ od' := fun z => by rw [z, e3] at hl2; cases hl2
      have la : ∀ p ∈ ac, p.1 ≠ l2 := fun p hp => ne_of_none (hac3 p hp) hl2
      have eb2 : ac.map (·.2) = r.bks.map (·.2) := by
        rw [eb]
        have : (oD r.bks).length = r.bks.length := by unfold oD; rw [List.length_map]
        rw [this, List.take_length]
      refine k _ ⟨x, od', l2, ac, r.roots, r.next⟩ ⟨⟨dx', upd_same⟩, k6 _ _ e3 (by simp; exact Ne.symm m1), by rw [upd_ne lx, upd_same], fun p hp => k6 _ _ (hac3 p hp) (by simp; exact (hac p hp).2.2.1), ?_, ?_, ?_⟩ eb2 rfl rfl (fun b u e => k6 b u (hnl b u e) (by simp; exact (old _ _ e).1)) ?_
      · show (x :: od' :: l2 :: ac.map (·.1)).Nodup
        refine List.nodup_cons.mpr ⟨?_, List.nodup_cons.mpr ⟨?_, List.nodup_cons.mpr ⟨?_, nac⟩⟩⟩
        · simp only [List.mem_cons, not_or]
          refine ⟨m1, Ne.symm lx, fun z => ?_⟩
          obtain ⟨p, hp, e⟩ := List.mem_map.mp z
          exact (hac p hp).2.2.1 e
        · simp only [List.mem_cons, not_or]
          refine ⟨Ne.symm lo, fun z => ?_⟩
          obtain ⟨p, hp, e⟩ := List.mem_map.mp z
          exact (hac p hp).2.2.2.1 e
        · intro z
          obtain ⟨p, hp, e⟩ := List.mem_map.mp z
          exact la p hp e
      · show ((ac.map (·.2)).map (·.num)).Nodup
        rw [eb2]; exact S.nums
      · show ac.length ≤ 64
        have := congrArg List.length eb2
        simp only [List.length_map] at this
        rw [this]; exact S.small
      · intro b hb
        rcases List.mem_cons.mp hb with rfl | hb
        · exact nx
        rcases List.mem_cons.mp hb with rfl | hb
        · exact fod
        rcases List.mem_cons.mp hb with rfl | hb
        · exact l20
        obtain ⟨p, hp, rfl⟩ := List.mem_map.mp hb
        exact (hac p hp).2.1
end
end K96
set_option Elab.async false
set_option linter.all false
set_option maxRecDepth 100000
set_option maxHeartbeats 1000000
namespace K96
open PySem PySem.Spec PyProof.Rows L2
theorem oD_at {l : List (Addr × Blk V)} {i : Nat} {kk : Key} {vv : V} (ek : (oD l)[i]? = some (kk, vv)) : ∃ p, l[i]? = some p ∧ kk = Sum.inl p.2.num ∧ vv = V.ref p.1 := by
  unfold oD at ek
  rw [List.getElem?_map] at ek
  cases q : l[i]? with
  | none => rw [q] at ek; cases ek
  | some p =>
    rw [q] at ek
    have e := Option.some.inj ek
    exact ⟨p, rfl, (congrArg Prod.fst e).symm, (congrArg Prod.snd e).symm⟩
theorem oD_len (l : List (Addr × Blk V)) : (oD l).length = l.length := by unfold oD; rw [List.length_map]
theorem inV_tg {H : Hp} {k : Int} {l : List V} (h : inV (.int k) (l.map (tgV H)) = false) : ∀ v ∈ l, tgt H v ≠ some k := fun v hv e => by
  unfold inV at h
  have := List.any_eq_false.mp h (tgV H v) (List.mem_map_of_mem hv)
  unfold tgV at this
  rw [e] at this
  simp [eqV] at this
theorem tgV_flat {H : Hp} (v : V) : flatV (tgV H v) = true := by
  unfold tgV
  cases tgt H v <;> rfl
section
variable {w : World} {K : PySem.W.Frag} {mg : Str → Option Value} {base : Heap}
/-! ### Store.is_referenced -/
def ValsOk (H : Hp) (r : Sc) : Prop := ∀ p ∈ r.bks, p.2.fs.length ≤ 900 ∧ ∀ v ∈ p.2.fs, VOk H v
def spIsRef (K : PySem.W.Frag) : Sp := fun vs H Q _ => ∃ (r : Sc) (k : Int), vs = [.ref r.so, .int k] ∧ StoreAt K H r ∧ ValsOk H r ∧
  ∀ (b : Bool) (H' : Hp), (b = false → ∀ p ∈ r.bks, p.2.num ≠ k → ∀ v ∈ p.2.fs, tgt H v ≠ some k) → Same H H' → Q (.bl b) H'
theorem sc_isref : FnScope ["self", "number", "other", "value"] ["self", "number"] (defScope s_Store_is_referenced) := ⟨rfl, rfl, rfl, by decide +kernel, rfl, by decide +kernel, by decide +kernel⟩
theorem ok_isref (T : Top K mg) : Ok Pg w K mg base CX0 2 (He.ma K (He.ga K "Store") "is_referenced") ["self", "number"] (spIsRef K) := by
  obtain ⟨fdT, GT, bT, kT⟩ := ok_target (w := w) (base := base) T
  refine ok0 T.d_Store_is_referenced sc_isref (fun vs H Q E h => ?_) (fun _ _ _ _ _ _ us hl => match us, hl with | [_, _], _ => rfl) (fun cdv A outer s H vs Q E hr h => ?_)
  · obtain ⟨r, k, rfl, _⟩ := h
    rfl
  · obtain ⟨r, k, rfl, S, hv, kq⟩ := h
    have hu := hu_of hr
    obtain ⟨dx, h1⟩ := S.ins
    refine ⟨_, pss_cons (ps_lock (ps_for PassesOwn.never rfl (pi_keys (pe_fld (pv 0) rfl)) (pg_name (i := 2) sc_isref.nd rfl (.inl rfl))
        (pss_one (ps_if (PW.pt (pw_and (pt_cmpR op_ne (pv 2) (pv 1) (nomark _)) (pw_and1 (pt_cmpR op_in_seq (pv 1)
            (pe_lc (own := [("value", 3)]) (g := gName 3) (tt := tYes) rfl sc_isref.nd (pi_list (pe_dget hu (pe_fld (pv 0) rfl) (pv 2) (fun _ _ => rfl))) (blkOk_by (own := [("value", 3)]) (N := ["self", "number", "other", "value"]) (sc := defScope s_Store_is_referenced) (by decide +kernel))
              (fun _ _ _ _ _ => pg_name (i := 3) sc_isref.nd rfl (Or.inl rfl)) (fun _ _ _ _ _ => pts_nil) (fun _ _ _ _ _ => pe_call GT hr rfl T.mg_target_of kT bT .nil pass0 (pa_cons (pv 3) pa_nil))) (by rfl)))))
          (pss_one (ps_ret pe_bl)) pss_nil))))
      (pss_one (ps_ret pe_bl)), ?_⟩
    have ndb : (r.so :: r.od :: r.rl :: r.bks.map (·.1)).Nodup := S.nd
    simp only [List.nodup_cons, List.mem_cons, not_or] at ndb
    obtain ⟨⟨n1, n2, n3⟩, ⟨n4, n5⟩, n6, n7⟩ := ndb
    have nd : (r.bks.map fun p => p.2.num).Nodup := by rw [← blks_nums]; exact S.nums
    refine ⟨r.od, _, S.objs, True.intro, fun o => ?_⟩
    have hin : ∀ {b u}, b ≠ r.od → H b = some u → upd H r.od (.frz o (.dK (oD r.bks))) b = some u := fun {b u} hb e => by rw [upd_ne hb]; exact e
    have un : ∀ {H'}, Same (upd H r.od (.frz o (.dK (oD r.bks)))) H' → Same H (upd H' r.od (.dK (oD r.bks))) := fun {H'} s => (Kp.unlock (F := []) S.objs (Kp.of_same s)).same
    refine ⟨_, rfl, r.so, _, dx, _, _, rfl, hin n1 h1, T.cl_Store, T.na_Store_objects, srF_objects, r.od, o, rfl, .inl ⟨_, upd_same, ?_⟩⟩
    refine for_of (n := (oD r.bks).length) (fun i σ H2 => ∃ (v : Option V), σ = [some (.ref r.so), some (.int k), v, none] ∧ Same (upd H r.od (.frz o (.dK (oD r.bks)))) H2 ∧ ∀ p ∈ r.bks.take i, p.2.num ≠ k → ∀ v ∈ p.2.fs, tgt H v ≠ some k)
      ⟨none, rfl, Same.refl, fun p hp => (nomatch hp)⟩ (fun i σ H2 hi ⟨_, _, k2, _⟩ => keys_go (k2 _ _ upd_same) hi) (fun σ H2 ⟨_, _, k2, _⟩ => keys_stop (k2 _ _ upd_same)) ?_ ?_
    · rintro i y σ _ H2 hi ⟨v, rfl, k2, hno⟩ ⟨rfl, kk, vv, ek, rfl⟩
      obtain ⟨p, hp, rfl, rfl⟩ := oD_at ek
      have hpm := List.mem_of_getElem? hp
      have next : (p.2.num ≠ k → ∀ v ∈ p.2.fs, tgt H v ≠ some k) → ∀ q ∈ r.bks.take (i + 1), q.2.num ≠ k → ∀ v ∈ q.2.fs, tgt H v ≠ some k := fun hq q hm => by
        rw [take_succ_of hp] at hm
        rcases List.mem_append.mp hm with hm | hm
        · exact hno q hm
        · have : q = p := by simpa using hm
          subst this
          exact hq
      refine ⟨_, rfl, _, rfl, rfl, _, rfl, ?_⟩
      by_cases hne : p.2.num = k
      · have : (!decide (V.int p.2.num = V.int k)) = false := by rw [hne]; simp
        show if (!decide (V.int p.2.num = V.int k)) = true then _ else _
        rw [this]
        refine iteF (iteF ?_)
        exact ⟨_, rfl, k2, next fun h => absurd hne h⟩
      · have : (!decide (V.int p.2.num = V.int k)) = true := by simp [hne]
        show if (!decide (V.int p.2.num = V.int k)) = true then _ else _
        rw [this]
        refine iteT ?_
        have p1 : p.1 ≠ r.od := fun z => n5 (by rw [← z]; exact List.mem_map_of_mem (f := (·.1)) hpm)
        have hl := k2 _ _ (hin p1 (S.lst p hpm))
        refine ⟨_, rfl, _, rfl, r.so, _, dx, _, _, rfl, k2 _ _ (hin n1 h1), T.cl_Store, T.na_Store_objects, srF_objects, _, rfl, r.od, .ref p.1, rfl, .inl ⟨_, Sum.inl p.2.num, .inr ⟨o, k2 _ _ upd_same⟩, rfl, (valV_oD nd hpm).symm⟩, p.1, rfl, ⟨_, SqL.of hl⟩, fun D hD => ?_⟩
        refine lc_list (K := K) (a := p.1) (xs := p.2.fs) (fun j H3 => Same H2 H3 ∧ H3 D = some (.lst ((p.2.fs.take j).map (tgV H)))) ⟨same_upd hD, upd_same⟩ (fun j H3 _ ⟨s3, _⟩ => SqL.of (s3 _ _ hl)) ?_ ?_
        · rintro j x H3 hx ⟨s3, e3⟩
          have hvx := (hv p hpm).2 x (List.mem_of_getElem? hx)
          have hT : Tp H H3 := fun t xs e => s3 _ _ (k2 _ _ (hin (fun z => by rw [z, S.objs] at e; cases e) e))
          obtain ⟨hvx3, etg⟩ := hvx.mono hT
          refine ⟨rfl, ?_⟩
          refine tYes_if ?_
          refine ⟨_, rfl, x, rfl, hvx3, _, e3, ?_, ?_⟩
          · rw [List.length_map]
            have := (hv p hpm).1
            exact small1000 (by rw [List.length_take]; omega)
          · refine ⟨fun b u eu => by rw [upd_ne (ne_of_none eu hD)]; exact s3 b u eu, ?_⟩
            rw [upd_same, take_succ_of hx, List.map_append]
            show _ = some (HO.lst (_ ++ [tgV _ x]))
            unfold tgV
            rw [etg]
        · rintro H3 ⟨s3, e3⟩
          rw [List.take_length] at e3
          have s4 : Same (upd H r.od (.frz o (.dK (oD r.bks)))) H3 := k2.trans s3
          refine ⟨D, _, rfl, .inl (SqL.of e3), rfl, ?_, ?_⟩
          · rw [List.all_eq_true]
            intro z hz
            obtain ⟨v, _, rfl⟩ := List.mem_map.mp hz
            exact tgV_flat v
          · refine ⟨_, rfl, ?_⟩
            show if inV (V.int k) (p.2.fs.map (tgV H)) = true then _ else _
            cases ei : inV (V.int k) (p.2.fs.map (tgV H)) with
            | true => exact iteT ⟨s4 _ _ upd_same, kq true _ (fun e => (nomatch e)) (un s4)⟩
            | false => exact iteF ⟨_, rfl, s4, next fun _ => inV_tg ei⟩
    · rintro σ H2 ⟨v, rfl, k2, hno⟩
      refine ⟨k2 _ _ upd_same, ?_⟩
      rw [oD_len, List.take_length] at hno
      exact kq false _ (fun _ => hno) (un k2)
end
end K96
set_option Elab.async false
set_option linter.all false
set_option maxRecDepth 100000
set_option maxHeartbeats 1000000
namespace K96
open PySem PySem.Spec PyProof.Rows L2
section
variable {w : World} {K : PySem.W.Frag} {mg : Str → Option Value} {base : Heap}
theorem still_raise {E : XK} {H1 : Hp} {k : Int} {z : Str} (hz : k.natAbs.log2 < 1920) (hz2 : z.length ≤ 100) (m : MayRaise K [] H1 E) : ∀ a, H1 a = none → spErr2 (He.ga K "StillUsed") "number" "reason" (.ref a :: ([.int k, .str z] ++ [])) (upd H1 a (exo a (He.ga K "StillUsed") none))
    (fun v H2 => v = .non ∧ ∃ (d : Addr) (fs : List (Str × V)), H2 a = some (exo a (He.ga K "StillUsed") (some d)) ∧ H2 d = some (exd d fs) ∧ H1 d = none ∧ E (.ref (He.ga K "StillUsed")) (some d) (upd (del H2 a) d (.xd fs))) (fun _ _ _ => False) := fun a ha => by
  refine ⟨a, k, z, rfl, hz, hz2, upd_same, fun d hd hne => ⟨rfl, d, [("reason", .str z), ("number", .int k)], ?_, upd_same, ?_, ?_⟩⟩
  · rw [upd_ne (Ne.symm hne), upd_same]
  · rw [upd_ne hne] at hd; exact hd
  · have hd0 : H1 d = none := by rw [upd_ne hne] at hd; exact hd
    refine m _ _ _ ⟨d, _, rfl, upd_same, .inr (.inr (.inl ⟨rfl, ⟨_, rfl⟩, ⟨_, rfl⟩⟩))⟩ fun b o e _ => ?_
    have n1 := ne_of_none e ha
    have n2 := ne_of_none e hd0
    rw [upd_ne n2, del_ne n1, upd_ne n2, upd_ne n1, upd_ne n2, upd_ne n1]
    exact e
/-! ### Store.release -/
def Sc.drop (r : Sc) (k : Int) : Sc := { r with bks := r.bks.filter fun p => decide (p.2.num ≠ k) }
theorem drop_blks (r : Sc) (k : Int) : (r.drop k).blks = r.blks.filter fun b => decide (b.num ≠ k) := by
  unfold Sc.drop Sc.blks
  rw [List.filter_map]
  rfl
theorem drop_sub (r : Sc) (k : Int) : ∀ b ∈ (r.drop k).sfp, b ∈ r.sfp := fun b hb => by
  unfold Sc.sfp at hb ⊢
  rcases List.mem_cons.mp hb with rfl | hb
  · exact List.mem_cons_self ..
  rcases List.mem_cons.mp hb with rfl | hb
  · exact List.mem_cons_of_mem _ (List.mem_cons_self ..)
  rcases List.mem_cons.mp hb with rfl | hb
  · exact List.mem_cons_of_mem _ (List.mem_cons_of_mem _ (List.mem_cons_self ..))
  obtain ⟨p, hp, rfl⟩ := List.mem_map.mp hb
  exact List.mem_cons_of_mem _ (List.mem_cons_of_mem _ (List.mem_cons_of_mem _ (List.mem_map_of_mem ((List.mem_filter.mp hp).1))))
theorem store_drop {H : Hp} {r : Sc} (S : StoreAt K H r) (k : Int) : StoreAt K (upd H r.od (.dK (dropK (oD r.bks) (Sum.inl k)))) (r.drop k) := by
  obtain ⟨dx, h1⟩ := S.ins
  have ndb : (r.so :: r.od :: r.rl :: r.bks.map (·.1)).Nodup := S.nd
  have ndb' := ndb
  simp only [List.nodup_cons, List.mem_cons, not_or] at ndb
  obtain ⟨⟨n1, n2, n3⟩, ⟨n4, n5⟩, n6, n7⟩ := ndb
  refine ⟨⟨dx, by show upd _ _ _ r.so = _; rw [upd_ne n1]; exact h1⟩, ?_, by show upd _ _ _ r.rl = _; rw [upd_ne (Ne.symm n4)]; exact S.rts, fun p hp => ?_, ?_, ?_, ?_⟩
  · show upd _ r.od _ r.od = _
    rw [upd_same, dropK_oD]; rfl
  · have hp' : p ∈ r.bks := (List.mem_filter.mp hp).1
    rw [upd_ne fun z => n5 (by rw [← z]; exact List.mem_map_of_mem (f := (·.1)) hp')]
    exact S.lst p hp'
  · refine List.Nodup.sublist ?_ ndb'
    show List.Sublist (r.so :: r.od :: r.rl :: (r.bks.filter fun p => decide (p.2.num ≠ k)).map (·.1)) _
    exact (((List.filter_sublist.map _).cons_cons _).cons_cons _).cons_cons _
  · rw [drop_blks]
    exact S.nums.sublist (List.filter_sublist.map _)
  · exact Nat.le_trans (List.length_filter_le _ _) S.small
def spRelease (K : PySem.W.Frag) : Sp := fun vs H Q E => ∃ (r : Sc) (k : Int), vs = [.ref r.so, .int k] ∧ StoreAt K H r ∧ k.natAbs.log2 < 1920 ∧ ValsOk H r ∧ r.roots.length ≤ 900 ∧
  (k ∈ r.blks.map (·.num) → k ∉ r.roots → (∀ p ∈ r.bks, p.2.num ≠ k → ∀ v ∈ p.2.fs, tgt H v ≠ some k) → ∀ H', StoreAt K H' (r.drop k) → Kp [r.od] H H' → Q .non H') ∧ MayRaise K [] H E
theorem sc_release : FnScope ["self", "number"] ["self", "number"] (defScope s_Store_release) := ⟨rfl, rfl, rfl, by decide +kernel, rfl, by decide +kernel, by decide +kernel⟩
theorem inV_int {k : Int} {l : List Int} : inV (.int k) (l.map V.int) = decide (k ∈ l) := by
  induction l with
  | nil => rfl
  | cons x r ih =>
    show (eqV (.int x) (.int k) || inV (.int k) (r.map V.int)) = _
    rw [ih]
    show (decide (x = k) || _) = _
    by_cases e : x = k
    · subst e; simp
    · have : k ≠ x := fun q => e q.symm
      simp [e, this]
theorem flat_ints (l : List Int) : (l.map V.int).all flatV = true := by
  rw [List.all_eq_true]
  intro z hz
  obtain ⟨v, _, rfl⟩ := List.mem_map.mp hz
  rfl
theorem ok_release (T : Top K mg) : Ok Pg w K mg base (L2.CX Pg w) 5 (He.ma K (He.ga K "Store") "release") ["self", "number"] (spRelease K) := by
  obtain ⟨fdE, GE, bE⟩ := ok_err_StillUsed (w := w) (base := base) T
  obtain ⟨_, _, _, _, _, _, _, _, _, _, SE, _, iC, tI, _⟩ := T.x_StillUsed
  obtain ⟨fdF, GF, bF, _⟩ := ok_fields (w := w) (base := base) T
  obtain ⟨fdR, GR, bR, _⟩ := ok_isref (w := w) (base := base) T
  refine okX T.d_Store_release sc_release (fun vs H Q E h => ?_) (fun _ _ _ _ _ _ us hl => match us, hl with | [_, _], _ => rfl) (fun cdv A outer s H vs Q E hr h => ?_)
  · obtain ⟨r, k, rfl, _⟩ := h
    rfl
  · obtain ⟨r, k, rfl, S, hz, hv, hrl, kq, ke⟩ := h
    have hr2 : Room 2 _ := hr.mono (by decide)
    have hr3 : Room 2 _ := hr.mono (by decide)
    obtain ⟨dx, h1⟩ := S.ins
    refine ⟨_, pss_cons (ps_expr (pe_meth (pv 0) T.cl_Store T.me_Store_fields GF hr bF .nil (passes_call (takes_of rfl rfl rfl rfl) (fun _ _ _ _ h => h)) (pa_cons (pv 1) pa_nil)))
      (pss_cons (ps_if (pt_cmpR op_in_seq (pv 1) (pe_fld (pv 0) rfl) (by rfl)) (pss_one (ps_raise rfl (takes_of rfl rfl rfl rfl) (pmk_oex SE.cls iC tI GE (hr.mono (by decide)) bE .nil pass0 (by rfl) T.mg_StillUsed (pa_cons (pv 1) (pa_cons pe_str pa_nil))))) pss_nil)
      (pss_cons (ps_if (pt_val (pe_meth (pv 0) T.cl_Store T.me_Store_is_referenced GR hr2 bR .nil pass0 (pa_cons (pv 1) pa_nil))) (pss_one (ps_raise rfl (takes_of rfl rfl rfl rfl) (pmk_oex SE.cls iC tI GE (hr.mono (by decide)) bE .nil pass0 (by rfl) T.mg_StillUsed (pa_cons (pv 1) (pa_cons pe_str pa_nil))))) pss_nil)
      (pss_one (ps_ddel (pe_fld (pv 0) rfl) (pv 1))))), ?_⟩
    refine ⟨_, rfl, r.so, dx, _, rfl, h1, srF_no_fields, _, rfl, r, k, rfl, S, hz, fun p hp e => ?_, fun hk => ke⟩
    refine ⟨_, rfl, _, rfl, r.so, _, dx, _, _, rfl, h1, T.cl_Store, T.na_Store_roots, srF_roots, r.rl, _, rfl, .inl (SqL.of S.rts), rfl, flat_ints _, ?_⟩
    rw [inV_int]
    by_cases c : k ∈ r.roots
    · rw [decide_eq_true c]
      refine ⟨_, rfl, iteT ?_⟩
      exact ⟨_, rfl, by simp, fun a ha => still_raise hz (by decide +kernel) ke a ha⟩
    · rw [decide_eq_false c]
      refine ⟨_, rfl, iteF ?_⟩
      refine ⟨_, rfl, r.so, dx, _, rfl, h1, srF_no_is_referenced, _, rfl, r, k, rfl, S, hv, fun b H1 hb s1 => ?_⟩
      cases b with
      | true =>
        refine ⟨_, rfl, iteT ?_⟩
        exact ⟨_, rfl, by simp, fun a ha => still_raise hz (by decide +kernel) (ke.same s1) a ha⟩
      | false =>
        refine ⟨_, rfl, iteF ?_⟩
        have S1 := S.same s1
        refine ⟨_, rfl, r.so, _, dx, _, _, rfl, s1 _ _ h1, T.cl_Store, T.na_Store_objects, srF_objects, _, rfl, r.od, _, Sum.inl k, rfl, S1.objs, rfl, ?_, ?_⟩
        · subst e
          have nd : (r.bks.map fun p => p.2.num).Nodup := by rw [← blks_nums]; exact S.nums
          rw [valV_oD nd hp]; rfl
        · exact kq (by rw [← e]; exact mem_nums hp) c (hb rfl) _ (store_drop S1 k) (Same.kp s1 (kp_upd (by simp)))
end
end K96
set_option Elab.async false
set_option linter.all false
set_option maxRecDepth 100000
set_option maxHeartbeats 1000000
namespace K96
open PySem PySem.Spec PyProof.Rows L2
section
variable {w : World} {K : PySem.W.Frag} {mg : Str → Option Value} {base : Heap}
def Sc.rt (r : Sc) (rl : Addr) (roots : List Int) : Sc := { r with rl := rl, roots := roots }
/-- what a change of the roots may do -/
def RtQ (K : PySem.W.Frag) (H : Hp) (r : Sc) (k : Int) (Q : VK) : Prop := ∀ (b : Bool) (H' : Hp) (rl' : Addr) (roots' : List Int), StoreAt K H' (r.rt rl' roots') → (rl' = r.rl ∨ H rl' = none) → (∀ x ∈ roots', x = k ∨ x ∈ r.roots) → (r.roots.Nodup → roots'.Nodup) → Kp r.sfp H H' → Q (.bl b) H'
def spRoot (K : PySem.W.Frag) : Sp := fun vs H Q E => ∃ (r : Sc) (k : Int), vs = [.ref r.so, .int k] ∧ StoreAt K H r ∧ k.natAbs.log2 < 1920 ∧ r.roots.length ≤ 900 ∧
  (k ∈ r.blks.map (·.num) → RtQ K H r k Q) ∧ MayRaise K [] H E
theorem store_rt {H : Hp} {r : Sc} (S : StoreAt K H r) {roots : List Int} : StoreAt K (upd H r.rl (.lst (roots.map V.int))) (r.rt r.rl roots) := by
  obtain ⟨dx, h1⟩ := S.ins
  have ndb : (r.so :: r.od :: r.rl :: r.bks.map (·.1)).Nodup := S.nd
  simp only [List.nodup_cons, List.mem_cons, not_or] at ndb
  obtain ⟨⟨n1, n2, n3⟩, ⟨n4, n5⟩, n6, n7⟩ := ndb
  refine ⟨⟨dx, by show upd _ _ _ r.so = _; rw [upd_ne n2]; exact h1⟩, by show upd _ _ _ r.od = _; rw [upd_ne n4]; exact S.objs, upd_same, fun p hp => ?_, S.nd, S.nums, S.small⟩
  rw [upd_ne fun z => n6 (by rw [← z]; exact List.mem_map_of_mem (f := (·.1)) hp)]
  exact S.lst p hp
/-- another list of roots -/
theorem store_rt2 {H : Hp} {r : Sc} (S : StoreAt K H r) {roots : List Int} {rl dx : Addr} (hn : ∀ b ∈ r.sfp, b ≠ rl) (he : H rl = some (.lst (roots.map V.int))) :
    StoreAt K (upd H r.so (.ins (cOf K "Store") dx (srF r.od rl r.next))) (r.rt rl roots) := by
  have ndb : (r.so :: r.od :: r.rl :: r.bks.map (·.1)).Nodup := S.nd
  simp only [List.nodup_cons, List.mem_cons, not_or] at ndb
  obtain ⟨⟨n1, n2, n3⟩, ⟨n4, n5⟩, n6, n7⟩ := ndb
  have a1 : r.so ≠ rl := hn _ (by simp [Sc.sfp])
  have a2 : r.od ≠ rl := hn _ (by simp [Sc.sfp])
  have a3 : rl ∉ r.bks.map (·.1) := fun z => hn rl (by unfold Sc.sfp; exact List.mem_cons_of_mem _ (List.mem_cons_of_mem _ (List.mem_cons_of_mem _ z))) rfl
  refine ⟨⟨dx, upd_same⟩, by show upd _ _ _ r.od = _; rw [upd_ne (Ne.symm n1)]; exact S.objs, by show upd _ _ _ rl = _; rw [upd_ne (Ne.symm a1)]; exact he, fun p hp => ?_, ?_, S.nums, S.small⟩
  · rw [upd_ne fun z => n3 (by rw [← z]; exact List.mem_map_of_mem (f := (·.1)) hp)]
    exact S.lst p hp
  · show (r.so :: r.od :: rl :: r.bks.map (·.1)).Nodup
    refine List.nodup_cons.mpr ⟨?_, List.nodup_cons.mpr ⟨?_, List.nodup_cons.mpr ⟨a3, n7⟩⟩⟩
    · simp only [List.mem_cons, not_or]
      exact ⟨n1, a1, n3⟩
    · simp only [List.mem_cons, not_or]
      exact ⟨a2, n5⟩
theorem sc_add_root : FnScope ["self", "number"] ["self", "number"] (defScope s_Store_add_root) := ⟨rfl, rfl, rfl, by decide +kernel, rfl, by decide +kernel, by decide +kernel⟩
theorem ok_add_root (T : Top K mg) : Ok Pg w K mg base (L2.CX Pg w) 5 (He.ma K (He.ga K "Store") "add_root") ["self", "number"] (spRoot K) := by
  obtain ⟨fdF, GF, bF, _⟩ := ok_fields (w := w) (base := base) T
  refine okX T.d_Store_add_root sc_add_root (fun vs H Q E h => ?_) (fun _ _ _ _ _ _ us hl => match us, hl with | [_, _], _ => rfl) (fun cdv A outer s H vs Q E hr h => ?_)
  · obtain ⟨r, k, rfl, _⟩ := h
    rfl
  · obtain ⟨r, k, rfl, S, hz, hrl, kq, ke⟩ := h
    obtain ⟨dx, h1⟩ := S.ins
    refine ⟨_, pss_cons (ps_expr (pe_meth (pv 0) T.cl_Store T.me_Store_fields GF hr bF .nil (passes_call (takes_of rfl rfl rfl rfl) (fun _ _ _ _ h => h)) (pa_cons (pv 1) pa_nil)))
      (pss_cons (ps_if (pt_cmpR op_in_seq (pv 1) (pe_fld (pv 0) rfl) (by rfl)) (pss_one (ps_ret pe_bl)) pss_nil)
      (pss_cons (ps_fld (pv 0) (pe_callB cr_sortedI (by rfl) T.fr_sorted (by decide +kernel) (pa_cons (pe_op op_cat (pe_fld (pv 0) rfl) (pe_lst (pa_cons (pv 1) pa_nil))) pa_nil)) rfl)
      (pss_one (ps_ret pe_bl)))), ?_⟩
    refine ⟨_, rfl, r.so, dx, _, rfl, h1, srF_no_fields, _, rfl, r, k, rfl, S, hz, fun p hp e => ?_, fun hk => ke⟩
    have hk : k ∈ r.blks.map (·.num) := by rw [← e]; exact mem_nums hp
    refine ⟨_, rfl, _, rfl, r.so, _, dx, _, _, rfl, h1, T.cl_Store, T.na_Store_roots, srF_roots, r.rl, _, rfl, .inl (SqL.of S.rts), rfl, flat_ints _, ?_⟩
    rw [inV_int]
    by_cases c : k ∈ r.roots
    · rw [decide_eq_true c]
      refine ⟨_, rfl, iteT ?_⟩
      exact kq hk _ _ r.rl r.roots S (.inl rfl) (fun x hx => .inr hx) (fun z => z) Kp.refl
    · rw [decide_eq_false c]
      refine ⟨_, rfl, iteF ?_⟩
      refine ⟨_, rfl, r.so, _, dx, _, _, rfl, h1, T.cl_Store, T.na_Store_roots, srF_roots, _, rfl, (by show 1 ≤ sizeLine; decide), fun p hp => ?_⟩
      have s1 : Same H (upd H p (.lst [.int k])) := same_upd hp
      refine ⟨r.rl, p, _, _, rfl, rfl, s1 _ _ S.rts, upd_same, ?_, fun q hq => ?_⟩
      · rw [List.length_map]
        exact Nat.le_of_lt (small1000 (by simp only [List.length_cons, List.length_nil]; omega))
      have s2 := s1.trans (same_upd (o := .lst (r.roots.map V.int ++ [V.int k])) hq)
      have e2 : r.roots.map V.int ++ [V.int k] = (r.roots ++ [k]).map V.int := by rw [List.map_append]; rfl
      refine ⟨q, r.roots ++ [k], rfl, SqL.of (by rw [upd_same, e2]), fun ns' t hp' hs' ht => ?_⟩
      have s3 := s2.trans (same_upd (o := .lst (ns'.map V.int)) ht)
      have ht0 : H t = none := s2.free ht
      have S3 := S.same s3
      have hn : ∀ b ∈ r.sfp, b ≠ t := fun b hb z => by
        obtain ⟨o, eo⟩ := S.some_ b hb
        exact ne_of_none eo ht0 z
      refine ⟨_, rfl, r.so, _, dx, _, rfl, s3 _ _ h1, T.cl_Store, T.na_Store_roots, (by show 3 < 1000; decide), ?_⟩
      have ex : putF ("roots" : Str) (V.ref t) (srF r.od r.rl r.next) = srF r.od t r.next := srF_put_roots
      rw [ex]
      refine kq hk _ _ t ns' (store_rt2 S3 hn upd_same) (.inr ht0) (fun x hx => ?_) (fun nd => ?_) (Same.kp s3 (kp_upd (by simp [Sc.sfp])))
      · have := hp'.mem_iff.mp hx
        rcases List.mem_append.mp this with z | z
        · exact .inr z
        · exact .inl (by simpa using z)
      · refine hp'.nodup_iff.mpr (List.nodup_append.mpr ⟨nd, by simp, fun x hx y hy => ?_⟩)
        have : y = k := by simpa using hy
        subst this
        intro z
        rw [z] at hx
        exact c hx
theorem first_at {k : Int} : ∀ {l : List Int}, k ∈ l → ∃ j : Nat, l[j]? = some k ∧ ∀ m : Nat, m < j → l[m]? ≠ some k
  | x :: r, h => by
    by_cases e : x = k
    · exact ⟨0, by rw [e]; rfl, fun m hm => absurd hm (Nat.not_lt_zero _)⟩
    · have h' : k ∈ r := by
        rcases List.mem_cons.mp h with q | q
        · exact absurd q.symm e
        · exact q
      obtain ⟨j, h1, h2⟩ := first_at h'
      refine ⟨j + 1, by simpa using h1, fun m hm => ?_⟩
      cases m with
      | zero => intro q; exact e (by simpa using q)
      | succ m => simpa using h2 m (by omega)
theorem sc_remove_root : FnScope ["self", "number"] ["self", "number"] (defScope s_Store_remove_root) := ⟨rfl, rfl, rfl, by decide +kernel, rfl, by decide +kernel, by decide +kernel⟩
theorem ok_remove_root (T : Top K mg) : Ok Pg w K mg base (L2.CX Pg w) 5 (He.ma K (He.ga K "Store") "remove_root") ["self", "number"] (spRoot K) := by
  obtain ⟨fdF, GF, bF, _⟩ := ok_fields (w := w) (base := base) T
  refine okX T.d_Store_remove_root sc_remove_root (fun vs H Q E h => ?_) (fun _ _ _ _ _ _ us hl => match us, hl with | [_, _], _ => rfl) (fun cdv A outer s H vs Q E hr h => ?_)
  · obtain ⟨r, k, rfl, _⟩ := h
    rfl
  · obtain ⟨r, k, rfl, S, hz, hrl, kq, ke⟩ := h
    obtain ⟨dx, h1⟩ := S.ins
    refine ⟨_, pss_cons (ps_expr (pe_meth (pv 0) T.cl_Store T.me_Store_fields GF hr bF .nil (passes_call (takes_of rfl rfl rfl rfl) (fun _ _ _ _ h => h)) (pa_cons (pv 1) pa_nil)))
      (pss_cons (ps_if (pt_cmpR op_notIn_seq (pv 1) (pe_fld (pv 0) rfl) (by rfl)) (pss_one (ps_ret pe_bl)) pss_nil)
      (pss_cons (ps_expr (pe_bm PySem.F.plainAttrs_list PySem.F.slot_list_remove PySem.F.type_list_remove mt_remove (pe_fld (pv 0) rfl) (pa_cons (pv 1) pa_nil)))
      (pss_one (ps_ret pe_bl)))), ?_⟩
    refine ⟨_, rfl, r.so, dx, _, rfl, h1, srF_no_fields, _, rfl, r, k, rfl, S, hz, fun p hp e => ?_, fun hk => ke⟩
    have hk : k ∈ r.blks.map (·.num) := by rw [← e]; exact mem_nums hp
    refine ⟨_, rfl, _, rfl, r.so, _, dx, _, _, rfl, h1, T.cl_Store, T.na_Store_roots, srF_roots, r.rl, _, rfl, .inl (SqL.of S.rts), rfl, flat_ints _, ?_⟩
    rw [inV_int]
    by_cases c : k ∈ r.roots
    · rw [decide_eq_true c]
      refine ⟨_, rfl, iteF ?_⟩
      obtain ⟨j, hj, hno⟩ := first_at c
      refine ⟨_, rfl, r.so, _, dx, _, _, rfl, h1, T.cl_Store, T.na_Store_roots, srF_roots, .inl ⟨rfl, _, SqL.of S.rts⟩, _, rfl, r.rl, r.roots, k, j, rfl, rfl, S.rts, hj, hno, ?_⟩
      exact kq hk _ _ r.rl _ (store_rt S) (.inl rfl) (fun x hx => .inr (List.mem_of_mem_eraseIdx hx)) (fun nd => nd.sublist (List.eraseIdx_sublist ..)) (kp_upd (by simp [Sc.sfp]))
    · rw [decide_eq_false c]
      refine ⟨_, rfl, iteT ?_⟩
      exact kq hk _ _ r.rl r.roots S (.inl rfl) (fun x hx => .inr hx) (fun z => z) Kp.refl
end
end K96
set_option Elab.async false
set_option linter.all false
set_option maxRecDepth 100000
set_option maxHeartbeats 4000000
/-! set(list of ints), as a set whose order may be asked for later. -/
namespace K96
open PySem PySem.Spec PyProof.Rows L2
abbrev eso (w : World) : Obj := { cls := .type "set", dict := none, data := .set #[] 0 (.fresh 0 0 (!w.params.followText "set-order")) }
section
variable {P : Program} {w : World} {A : Around} {E : Value → Shared → Prop} {s : Shared}
set_option maxHeartbeats 4000000 in
theorem set_of_listI {l : Addr} {items : Array Value} (ns : List Int) {Q : Value → Shared → Prop} (hh : A.handled = none) (hl : s.heap.IsList l items) (hit : IntsAre items.toList ns) (hb : ns.length + 1 < scanBound)
    (h : ∀ (h' : Heap) (tk c : Nat), SetR w h' s.heap.objs.size (fun j => decide (j ∈ ns)) c → c ≤ ns.length → (∀ b o, s.heap.get? b = some o → h'.get? b = some o) → Q (.ref s.heap.objs.size) { s with heap := h', toks := tk }) :
    wpAny (model P w) A (call (.type "set") [.ref l]) Q E s := by
  have hisz : items.size = ns.length := by simpa using IntsAre.length hit
  obtain ⟨c, tl, hmro⟩ := F.called_set.mro
  have hmade := F.called_set.made
  have hsub := F.called_set.sub
  refine wpAny_call (codeAny_of_tree ?_)
  show wpAny _ _ (callAny (.type "set") _) _ _ _
  refine wpAny_pure ⟨Code.quiet_builtin _ (by decide +kernel), codeAny_builtin F.entry_type_call ?_⟩
  rw [Around.under_plain (weight_type_call_type "set" [.ref l] []) rfl]
  have h1 := F.called_set.notType
  have h2 := F.called_set.canCreate
  have hct := F.typeCall_set_1 (.ref l)
  repeat (any_goals (first | assumption | wp_step))
  refine codeAny_mono (code_set_led1 (.ref l) (E := E) (Q₁ := fun obj s₁ => obj = .ref s.heap.objs.size ∧ s₁ = { s with heap := s.heap.push (eso w) }) ⟨rfl, rfl⟩) fun r s₁ hr => ?_
  cases r with
  | error e => exact hr
  | ok fl =>
    cases fl with
    | ret obj =>
      obtain ⟨rfl, rfl⟩ := hr
      have hS : (s.heap.push (eso w)).get? s.heap.objs.size = some (eso w) := Heap.get?_push_size _ rfl
      have hT : Shared.TypeIs { s with heap := s.heap.push (eso w) } (.ref s.heap.objs.size) "set" := ⟨_, hS, rfl⟩
      have hli := F.called_set.init.lookup
      have hbi := F.called_set.init.bind (.ref s.heap.objs.size)
      repeat (any_goals (first | assumption | wp_step))
      refine codeAny_mono (codeAny_call_builtin (R := wants (fun r s₂ => r = .none ∧ ∃ h' tk c, s₂ = { s with heap := h', toks := tk } ∧ SetR w h' s.heap.objs.size (fun j => decide (j ∈ ns)) c ∧ c ≤ ns.length ∧
          (∀ b o, s.heap.get? b = some o → h'.get? b = some o)) E) F.called_set.init.plain F.entry_set_init (check_set_init_1 hT ?_)) fun r₂ s₂ hr₂ => ?_
      · obtain ⟨ol, hol, hcl, nl, hdl⟩ := hl
        obtain ⟨ocls, odict, odata, oslots⟩ := ol
        simp only at hcl hdl
        subst hcl; subst hdl
        have hol' : (s.heap.push (eso w)).get? l = some { cls := .type "list", dict := odict, data := .seq items nl, slots := oslots } := Heap.get?_push_of_some _ hol
        have hsls := F.sub_list_set
        have hslf := F.sub_list_frozenset
        have hne : (Value.type "list" == Value.type "dict") = false := by decide
        have hl1 : (s.heap.push (eso w)).IsList l items := ⟨_, hol', rfl, nl, rfl⟩
        unfold Builtin.«set.__init__» noKeywords Builtin.Frozenset.updateFrom
        generalize hPI : pyIter = PI
        wp_walk
        subst hPI
        refine wpAny_pyIter_list hl1 ?_
        refine wpAny_bind (wpAny_runValue ?_)
        have hlS : l < s.heap.objs.size := Heap.lt_size hol
        have hh3 : A.in1.in1.in1.handled = none := by simp [hh]
        have hneI : l ≠ (s.heap.push (eso w)).objs.size := by
          rw [Heap.size_push]; exact Nat.ne_of_lt (Nat.lt_succ_of_lt hlS)
        have hSf : s.heap.objs.size ∉ [(s.heap.push (eso w)).objs.size, l] := by
          rw [Heap.size_push]; simp only [List.mem_cons, List.mem_singleton, List.not_mem_nil, or_false, not_or]
          exact ⟨Nat.ne_of_lt (Nat.lt_succ_self _), Nat.ne_of_gt hlS⟩
        have hval : ∀ (i : Nat) (v : Value), items[i]? = some v → ∃ k t, ns[i]? = some k ∧ v = .int k t := fun i v hv => by
          have hi : i < ns.length := by rw [← hisz]; exact (Array.getElem?_eq_some_iff.mp hv).1
          obtain ⟨t, e⟩ := PyProof.Rows.IntsAre.int_at hit i v (by rw [Array.getElem?_toList]; exact hv)
          refine ⟨ns[i], t, List.getElem?_eq_getElem hi, ?_⟩
          rw [e, List.getD_eq_getElem?_getD, List.getElem?_eq_getElem hi] <;> rfl
        refine set_update_ints ((Walks.list hh3 _ l hneI items).toS) s.heap.objs.size
          hSf ns hisz hb hval (items.size - 0) 0 _ (by omega) (Nat.zero_le _)
          ⟨⟨_, Heap.get?_push_size _ rfl, rfl, rfl⟩, (hl1.push _)⟩ ?hS0 ?hR
        case hS0 => exact ⟨0, Nat.le_refl 0, setR_new_at (Heap.get?_push_of_some _ hS)⟩
        case hR =>
          intro s' c' hm hc' hS'
          obtain ⟨h', g2, d', tk', os'⟩ := s'
          obtain rfl : g2 = s.gens := hm.gens
          obtain rfl : d' = s.drawn := hm.drawn
          obtain rfl : os' = s.os := hm.os
          show wpAny _ _ _ _ _ _
          refine wpAny_pure ?_
          show wpAny _ _ (ret Value.none) _ _ _
          rw [hisz] at hc'
          refine wpAny_pure ⟨rfl, h', tk', c', rfl, hS', hc', fun b o e => ?_⟩
          have hb0 : b < s.heap.objs.size := Heap.lt_size e
          have hb2 : b ≠ (s.heap.push (eso w)).objs.size := by
            rw [Heap.size_push]; exact Nat.ne_of_lt (Nat.lt_succ_of_lt hb0)
          exact hm.heap b o (by simp only [List.mem_cons, List.mem_singleton, List.not_mem_nil, or_false, not_or]; exact ⟨Nat.ne_of_lt hb0, hb2⟩) (Heap.get?_push_of_some _ (Heap.get?_push_of_some _ e))
      · cases r₂ with
        | error e => exact hr₂
        | ok fl₂ =>
          cases fl₂ with
          | ret r =>
            obtain ⟨rfl, h', tk, c', rfl, hS', hc', hk'⟩ := hr₂
            repeat (any_goals (first | assumption | wp_step))
            exact h _ _ _ hS' hc' hk'
          | _ => exact hr₂.elim
    | _ => exact hr.elim
end
section
variable {X : Cx}
/-- set(xs) of a list of ints -/
def rSetL (K : PySem.W.Frag) (w : World) : List V → Hp → VK → Prop := fun vs H Q => ∃ (a : Addr) (ns : List Int), vs = [V.ref a] ∧ SqL K H a (ns.map V.int) ∧ ns.length ≤ 1000 ∧
  ∀ (p : Addr) (c : Nat), c ≤ ns.length → H p = none → Q (.ref p) (upd H p (SetO w p (fun j => decide (j ∈ ns)) c))
theorem cr_setL (hc : X.calm = true) : CallR X (.type "set") (rSetL X.K X.w) := by
  intro pins s σ H vs us Q I r h
  obtain ⟨a, ns, rfl, hS, hz, q⟩ := h
  rw [Vals.ref1 r]
  obtain ⟨its, rv, pl, _⟩ := I.list hS
  refine set_of_listI ns (I.ok.hd hc) pl.isList (by simpa using Vals.ints rv) (by unfold scanBound; omega) fun h' tk c R hcn k => ?_
  exact ⟨.ref _, upd H s.heap.objs.size (SetO X.w s.heap.objs.size (fun j => decide (j ∈ ns)) c), I.laid (t' := tk) k (Nat.le_refl _) (setO_new R), rfl, q _ _ hcn (I.hok.fresh (Nat.le_refl _))⟩
end
end K96
set_option Elab.async false
set_option linter.all false
set_option maxRecDepth 100000
set_option maxHeartbeats 1000000
namespace K96
open PySem PySem.Spec PyProof.Rows L2
/-- how many of the store's numbers are not in S -/
def cnt (r : Sc) (S : Int → Bool) : Nat := ((r.blks.map (·.num)).filter fun k => !S k).length
theorem cnt_le (r : Sc) (S : Int → Bool) : cnt r S ≤ r.bks.length := by
  unfold cnt
  refine Nat.le_trans (List.length_filter_le _ _) ?_
  unfold Sc.blks
  rw [List.length_map, List.length_map]
  exact Nat.le_refl _
theorem cnt_add {r : Sc} {S : Int → Bool} {t : Int} (ht : t ∈ r.blks.map (·.num)) (hS : S t = false) : cnt r (fun j => S j || decide (j = t)) + 1 ≤ cnt r S := by
  unfold cnt
  have e : (r.blks.map (·.num)).filter (fun k => !(S k || decide (k = t))) = ((r.blks.map (·.num)).filter fun k => !S k).filter fun k => !decide (k = t) := by
    rw [List.filter_filter]
    apply List.filter_congr
    intro k _
    rw [Bool.not_or, Bool.and_comm]
  rw [e]
  refine Nat.succ_le_of_lt (List.length_filter_lt_length_iff_exists.mpr ⟨t, List.mem_filter.mpr ⟨ht, by rw [hS]; rfl⟩, by simp⟩)
structure Rch (H : Hp) (r : Sc) (S : Int → Bool) (as : List Int) (n : Nat) (cur : Option ((Addr × Blk V) × Nat)) : Prop where
  hi : ∀ k, S k = true → k ∈ r.blks.map (·.num)
  ro : ∀ k ∈ r.roots, S k = true
  ah : ∀ k ∈ as, S k = true
  cl : ∀ p ∈ r.bks, S p.2.num = true → p.2.num ∈ as ∨ (∃ i, cur = some (p, i)) ∨ ∀ v ∈ p.2.fs, ∀ k, tgt H v = some k → S k = true
  cu : ∀ p i, cur = some (p, i) → ∀ v ∈ p.2.fs.take i, ∀ k, tgt H v = some k → S k = true
  b1 : n + cnt r S ≤ 60
  b2 : as.length + cnt r S ≤ 60
theorem Rch.pop {H : Hp} {r : Sc} {S : Int → Bool} {as : List Int} {n : Nat} {p : Addr × Blk V} (a : Rch H r S (as ++ [p.2.num]) n none) (hu : ∀ q ∈ r.bks, q.2.num = p.2.num → q = p) : Rch H r S as n (some (p, 0)) := by
  obtain ⟨h1, h2, h3, h4, h5, h6, h7⟩ := a
  refine ⟨h1, h2, fun k hk => h3 k (List.mem_append_left _ hk), fun q hq hS => ?_, fun q i e v hv => ?_, h6, by rw [List.length_append] at h7; omega⟩
  · rcases h4 q hq hS with z | ⟨_, z⟩ | z
    · rcases List.mem_append.mp z with z | z
      · exact .inl z
      · have : q.2.num = p.2.num := by simpa using z
        exact .inr (.inl ⟨0, by rw [hu q hq this]⟩)
    · cases z
    · exact .inr (.inr z)
  · cases e; cases hv
theorem Rch.skip {H : Hp} {r : Sc} {S : Int → Bool} {as : List Int} {n i : Nat} {p : Addr × Blk V} {x : V} (a : Rch H r S as n (some (p, i))) (hx : p.2.fs[i]? = some x) (ht : ∀ k, tgt H x = some k → S k = true) : Rch H r S as n (some (p, i + 1)) := by
  obtain ⟨h1, h2, h3, h4, h5, h6, h7⟩ := a
  refine ⟨h1, h2, h3, fun q hq hS => ?_, fun q j e v hv k ek => ?_, h6, h7⟩
  · rcases h4 q hq hS with z | ⟨_, z⟩ | z
    · exact .inl z
    · cases z; exact .inr (.inl ⟨_, rfl⟩)
    · exact .inr (.inr z)
  · cases e
    rw [K96.take_succ_of hx] at hv
    rcases List.mem_append.mp hv with hv | hv
    · exact h5 _ _ rfl v hv k ek
    · have : v = x := by simpa using hv
      subst this
      exact ht k ek
theorem Rch.add {H : Hp} {r : Sc} {S : Int → Bool} {as : List Int} {n i : Nat} {p : Addr × Blk V} {t : Int} (a : Rch H r S as n (some (p, i))) (ht : t ∈ r.blks.map (·.num)) (hS : S t = false) :
    Rch H r (fun j => S j || decide (j = t)) (as ++ [t]) (n + 1) (some (p, i)) := by
  obtain ⟨h1, h2, h3, h4, h5, h6, h7⟩ := a
  have hc := cnt_add ht hS
  refine ⟨fun k hk => ?_, fun k hk => ?_, fun k hk => ?_, fun q hq hS2 => ?_, fun q j e v hv k ek => ?_, by omega, ?_⟩
  · rcases Bool.or_eq_true_iff.mp hk with z | z
    · exact h1 k z
    · rw [of_decide_eq_true z]; exact ht
  · show (S k || _) = true
    rw [h2 k hk]; rfl
  · show (S k || _) = true
    rcases List.mem_append.mp hk with z | z
    · rw [h3 k z]; rfl
    · have : k = t := by simpa using z
      rw [decide_eq_true this, Bool.or_true]
  · rcases Bool.or_eq_true_iff.mp hS2 with z | z
    · rcases h4 q hq z with y | y | y
      · exact .inl (List.mem_append_left _ y)
      · exact .inr (.inl y)
      · exact .inr (.inr fun v hv k ek => by
          show (S k || _) = true
          rw [y v hv k ek]; rfl)
    · exact .inl (List.mem_append_right _ (by simp [of_decide_eq_true z]))
  · show (S k || _) = true
    rw [h5 q j e v hv k ek]; rfl
  · rw [List.length_append]
    simp only [List.length_cons, List.length_nil]
    omega
theorem Rch.done {H : Hp} {r : Sc} {S : Int → Bool} {as : List Int} {n : Nat} {p : Addr × Blk V} (a : Rch H r S as n (some (p, p.2.fs.length))) : Rch H r S as n none := by
  obtain ⟨h1, h2, h3, h4, h5, h6, h7⟩ := a
  refine ⟨h1, h2, h3, fun q hq hS => ?_, fun q j e => (nomatch e), h6, h7⟩
  rcases h4 q hq hS with z | ⟨_, z⟩ | z
  · exact .inl z
  · cases z
    exact .inr (.inr fun v hv => h5 _ _ rfl v (by rw [List.take_length]; exact hv))
  · exact .inr (.inr z)
section
variable {w : World} {K : PySem.W.Frag} {mg : Str → Option Value} {base : Heap}
/-! ### Store.reachable -/
/-- what is reached: ks -/
def Reach (H : Hp) (r : Sc) (ks : List Int) : Prop := ks.Pairwise (· < ·) ∧ (∀ k ∈ r.roots, k ∈ ks) ∧ (∀ k ∈ ks, k ∈ r.blks.map (·.num)) ∧ ∀ p ∈ r.bks, p.2.num ∈ ks → ∀ v ∈ p.2.fs, ∀ k, tgt H v = some k → k ∈ ks
def Closed (H : Hp) (r : Sc) : Prop := (∀ k ∈ r.roots, k ∈ r.blks.map (·.num)) ∧ ∀ p ∈ r.bks, ∀ v ∈ p.2.fs, ∀ k, tgt H v = some k → k ∈ r.blks.map (·.num)
def spReach (K : PySem.W.Frag) : Sp := fun vs H Q _ => ∃ (r : Sc), vs = [.ref r.so] ∧ StoreAt K H r ∧ ValsOk H r ∧ Closed H r ∧ r.roots.length ≤ 30 ∧ r.bks.length ≤ 30 ∧
  ∀ (ks : List Int) (H' : Hp) (p : Addr), Reach H r ks → Same H H' → H' p = some (.lst (ks.map V.int)) → H p = none → Q (.ref p) H'
theorem sc_reach : FnScope ["self", "found", "ahead", "number", "value", "target"] ["self"] (defScope s_Store_reachable) := ⟨rfl, rfl, rfl, by decide +kernel, rfl, by decide +kernel, by decide +kernel⟩
theorem ok_reach (T : Top K mg) : Ok Pg w K mg base CX0 2 (He.ma K (He.ga K "Store") "reachable") ["self"] (spReach K) := by
  obtain ⟨fdT, GT, bT, kT⟩ := ok_target (w := w) (base := base) T
  refine ok0 T.d_Store_reachable sc_reach (fun vs H Q E h => ?_) (fun _ _ _ _ _ _ us hl => match us, hl with | [_], _ => rfl) (fun cdv A outer s H vs Q E hr h => ?_)
  · obtain ⟨r, rfl, _⟩ := h
    rfl
  · obtain ⟨r, rfl, S0, hv, ⟨cl1, cl2⟩, hrl, hbl, kq⟩ := h
    have hu := hu_of hr
    obtain ⟨dx, h1⟩ := S0.ins
    refine ⟨_, pss_cons (ps_set (i := 1) sc_reach.nd rfl (.inl rfl) (pe_callTy (cr_setL rfl) (by rfl) T.fr_set (by decide +kernel) (pa_cons (pe_fld (pv 0) rfl) pa_nil)))
      (pss_cons (ps_set (i := 2) sc_reach.nd rfl (.inl rfl) (pe_callTy call_list_of (by rfl) T.fr_list (by decide +kernel) (pa_cons (pe_fld (pv 0) rfl) pa_nil)))
      (pss_cons (ps_while PassesOwn.never (pt_truth (pv 2) (by intro _; rfl))
        (pss_cons (ps_set (i := 3) sc_reach.nd rfl (.inl rfl) (pe_bm0 PySem.F.plainAttrs_list PySem.F.slot_list_pop PySem.F.type_list_pop mt_pop (pv 2)))
        (pss_one (ps_for PassesOwn.never rfl (pi_list (pe_dget hu (pe_fld (pv 0) rfl) (pv 3) (fun _ _ => rfl))) (pg_name (i := 4) sc_reach.nd rfl (.inl rfl))
          (pss_cons (ps_set (i := 5) sc_reach.nd rfl (.inl rfl) (pe_call GT hr (by rfl) T.mg_target_of kT bT .nil pass0 (pa_cons (pv 4) pa_nil)))
          (pss_one (ps_if (PW.pt (pw_and (pt_cmp (pc_notN (pv 5))) (pw_and1 (pt_cmpR or_snotin (pv 5) (pv 1) (by rfl)))))
            (pss_cons (ps_expr (pe_sadd (pv 1) (pa_cons (pv 5) pa_nil)))
            (pss_one (ps_expr (pe_bm PySem.F.plainAttrs_list PySem.F.slot_list_append PySem.F.type_list_append mt_append (pv 2) (pa_cons (pv 5) pa_nil))))) pss_nil)))))))
      (pss_one (ps_ret (pe_callB (cr_sortedSet rfl) (by rfl) T.fr_sorted (by decide +kernel) (pa_cons (pv 1) pa_nil)))))), ?_⟩
    have nd : (r.bks.map fun p => p.2.num).Nodup := by rw [← blks_nums]; exact S0.nums
    refine ⟨_, rfl, r.so, _, dx, _, _, rfl, h1, T.cl_Store, T.na_Store_roots, srF_roots, r.rl, r.roots, rfl, SqL.of S0.rts, by omega, fun f c hc hf => ?_⟩
    have s1 : Same H (upd H f (SetO w f (fun j => decide (j ∈ r.roots)) c)) := same_upd hf
    refine ⟨_, rfl, r.so, _, dx, _, _, rfl, s1 _ _ h1, T.cl_Store, T.na_Store_roots, srF_roots, r.rl, _, rfl, .inl (SqL.of (s1 _ _ S0.rts)), fun a ha => ?_⟩
    have s2 := s1.trans (same_upd (o := .lst (r.roots.map V.int)) ha)
    have hfa : f ≠ a := ne_of_none upd_same ha
    have ha0 : H a = none := s1.free ha
    -- the loop
    refine ⟨fun m σ H2 => ∃ (S : Int → Bool) (as : List Int) (n : Nat) (v3 v4 v5 : Option V), m = 2 * cnt r S + as.length ∧ σ = [some (.ref r.so), some (.ref f), some (.ref a), v3, v4, v5] ∧ Same H H2 ∧ H2 f = some (SetO w f S n) ∧ H2 a = some (.lst (as.map V.int)) ∧ Rch H r S as n none,
      ⟨_, fun j => decide (j ∈ r.roots), r.roots, c, none, none, none, rfl, rfl, s2, by rw [upd_ne hfa, upd_same]; rfl, upd_same, ?_⟩, ?_⟩
    · have := cnt_le r fun j => decide (j ∈ r.roots)
      refine ⟨fun k hk => cl1 k (of_decide_eq_true hk), fun k hk => decide_eq_true hk, fun k hk => decide_eq_true hk, fun p hp hS => .inl (of_decide_eq_true hS), fun p i e => (nomatch e), by omega, by omega⟩
    · rintro m σ H2 ⟨S, as, n, v3, v4, v5, rfl, rfl, k2, ef, ea, R⟩
      refine ⟨_, rfl, !(as.map V.int).isEmpty, .inl ⟨_, SqL.of ea, rfl⟩, ?_⟩
      rcases List.eq_nil_or_concat as with rfl | ⟨as', num, rfl⟩
      · refine iteF ?_
        refine ⟨_, rfl, f, S, n, rfl, ef, by have := R.b1; omega, fun ns p hp hm hlen hn => ?_⟩
        have s3 := k2.trans (same_upd (o := .lst (ns.map V.int)) hn)
        refine kq ns _ p ⟨hp, fun k hk => (hm k).mpr (R.ro k hk), fun k hk => R.hi k ((hm k).mp hk), fun q hq hqn v hvv k ek => ?_⟩ s3 upd_same (k2.free hn)
        rcases R.cl q hq ((hm _).mp hqn) with z | ⟨_, z⟩ | z
        · cases z
        · cases z
        · exact (hm k).mpr (z v hvv k ek)
      · rw [List.concat_eq_append] at R ea ⊢
        have ee : (!((as' ++ [num]).map V.int).isEmpty) = true := by simp
        rw [ee]
        refine iteT ?_
        refine ⟨fun σ' H' => ∃ (S' : Int → Bool) (as2 : List Int) (n' : Nat) (v3 v4 v5 : Option V), 2 * cnt r S' + as2.length < 2 * cnt r S + (as' ++ [num]).length ∧ σ' = [some (.ref r.so), some (.ref f), some (.ref a), v3, v4, v5] ∧ Same H H' ∧ H' f = some (SetO w f S' n') ∧ H' a = some (.lst (as2.map V.int)) ∧ Rch H r S' as2 n' none, ?_, ?_⟩
        · rintro σ' H' ⟨S', as2, n', u3, u4, u5, hm, rest⟩
          exact ⟨_, hm, S', as2, n', u3, u4, u5, rfl, rest⟩
        · have hnum : num ∈ r.blks.map (·.num) := R.hi num (R.ah num (by simp))
          obtain ⟨p, hp, rfl⟩ := nums_mem hnum
          have R1 := R.pop fun q hq e => bks_inj S0 hq hp e
          refine ⟨_, rfl, .inl ⟨rfl, _, SqL.of ea⟩, a, _, .int p.2.num, rfl, rfl, ea, by rw [List.map_append]; simp, ?_⟩
          have eD : ((as' ++ [p.2.num]).map V.int).dropLast = as'.map V.int := by rw [List.map_append]; simp
          rw [eD]
          have k3 : Same H (upd H2 a (.lst (as'.map V.int))) := fun b o e => by rw [upd_ne (ne_of_none e ha0)]; exact k2 b o e
          refine ⟨_, rfl, r.so, _, dx, _, _, rfl, k3 _ _ h1, T.cl_Store, T.na_Store_objects, srF_objects, _, rfl, r.od, .ref p.1, rfl, by rw [← valV_oD nd hp]; exact DGet.k (k := Sum.inl p.2.num) (k3 _ _ S0.objs), p.1, rfl, ⟨_, SqL.of (k3 _ _ (S0.lst p hp))⟩, ?_⟩
          refine for_list (K := K) (a := p.1) (xs := p.2.fs) (fun i σ H3 => ∃ (S' : Int → Bool) (as2 : List Int) (n' : Nat) (v4 v5 : Option V), 2 * cnt r S' + as2.length < 2 * cnt r S + (as' ++ [p.2.num]).length ∧ σ = [some (.ref r.so), some (.ref f), some (.ref a), some (.int p.2.num), v4, v5] ∧ Same H H3 ∧ H3 f = some (SetO w f S' n') ∧ H3 a = some (.lst (as2.map V.int)) ∧ Rch H r S' as2 n' (some (p, i)))
            ⟨S, as', n, v4, v5, by rw [List.length_append]; simp only [List.length_cons, List.length_nil]; omega, rfl, k3, by rw [upd_ne hfa]; exact ef, upd_same, R1⟩ (fun i σ H3 _ ⟨_, _, _, _, _, _, _, k4, _⟩ => SqL.of (k4 _ _ (S0.lst p hp))) ?_ ?_
          · rintro i x σ H3 hx ⟨S', as2, n', u4, u5, hm, rfl, k4, ef4, ea4, R4⟩
            have hvx := (hv p hp).2 x (List.mem_of_getElem? hx)
            obtain ⟨hvx3, etg⟩ := hvx.mono (Tp.of_same k4)
            refine ⟨_, rfl, x, rfl, hvx3, ?_⟩
            refine ⟨_, rfl, _, rfl, ?_⟩
            unfold tgV
            rw [etg]
            cases et : tgt H x with
            | none =>
              refine iteF (iteF ?_)
              exact ⟨S', as2, n', _, _, hm, rfl, k4, ef4, ea4, R4.skip hx fun k ek => by rw [et] at ek; cases ek⟩
            | some t =>
              refine iteT ⟨_, rfl, _, rfl, t, f, S', n', rfl, rfl, ef4, _, rfl, ?_⟩
              cases eS : S' t with
              | true =>
                refine iteF ?_
                exact ⟨S', as2, n', _, _, hm, rfl, k4, ef4, ea4, R4.skip hx fun k ek => by rw [et] at ek; cases ek; exact eS⟩
              | false =>
                refine iteT ?_
                have htn : t ∈ r.blks.map (·.num) := cl2 p hp x (List.mem_of_getElem? hx) t et
                have hc1 := cnt_add htn eS
                have R5 := (R4.add htn eS).skip hx fun k ek => by
                  rw [et] at ek; cases ek
                  show (S' t || decide (t = t)) = true
                  simp
                refine ⟨_, rfl, ⟨f, S', n', rfl, ef4⟩, _, rfl, f, t, S', n', rfl, rfl, ef4, by have := R4.b1; unfold scanBound; omega, ?_⟩
                rw [if_neg (by rw [eS]; decide)]
                have ea5 : upd H3 f (SetO w f (fun j => S' j || decide (j = t)) (n' + 1)) a = some (.lst (as2.map V.int)) := by rw [upd_ne (Ne.symm hfa)]; exact ea4
                refine ⟨_, rfl, .inl ⟨rfl, _, SqL.of ea5⟩, _, rfl, a, _, _, rfl, rfl, ea5, by rw [List.length_map]; exact small1000 (by have := R4.b2; omega), ?_⟩
                refine ⟨_, as2 ++ [t], n' + 1, _, _, ?_, rfl, fun b o e => ?_, by rw [upd_ne hfa, upd_same]; rfl, by rw [upd_same, List.map_append]; rfl, R5⟩
                · rw [List.length_append (as := as2)]
                  simp only [List.length_cons, List.length_nil] at hm ⊢
                  omega
                · rw [upd_ne (ne_of_none e ha0), upd_ne (ne_of_none e hf)]
                  exact k4 b o e
          · rintro σ H3 ⟨S', as2, n', u4, u5, hm, rfl, k4, ef4, ea4, R4⟩
            exact ⟨S', as2, n', _, _, _, hm, rfl, k4, ef4, ea4, R4.done⟩
end
end K96
set_option Elab.async false
set_option linter.all false
set_option maxRecDepth 100000
set_option maxHeartbeats 1000000
namespace K96
open PySem PySem.Spec PyProof.Rows L2
/-- the store without the numbers g -/
def Sc.wo (r : Sc) (g : List Int) : Sc := { r with bks := r.bks.filter fun p => decide (p.2.num ∉ g) }
def wob (g : List Int) (l : List (Blk V)) : List (Blk V) := l.filter fun b => decide (b.num ∉ g)
theorem wo_blks (r : Sc) (g : List Int) : (r.wo g).blks = wob g r.blks := by
  unfold Sc.wo Sc.blks wob
  rw [List.filter_map]
  rfl
theorem wo_nil (r : Sc) : r.wo [] = r := by
  unfold Sc.wo
  have : (r.bks.filter fun p => decide (p.2.num ∉ ([] : List Int))) = r.bks := List.filter_eq_self.mpr fun p _ => by simp
  rw [this]
theorem notin_snoc {k x : Int} {g : List Int} : decide (x ∉ g ++ [k]) = (decide (x ≠ k) && decide (x ∉ g)) := by
  by_cases h1 : x = k
  · simp [h1]
  · by_cases h2 : x ∈ g <;> simp [h1, h2]
theorem wo_drop (r : Sc) (g : List Int) (k : Int) : (r.wo g).drop k = r.wo (g ++ [k]) := by
  unfold Sc.wo Sc.drop
  show ({ r with bks := (r.bks.filter fun p => decide (p.2.num ∉ g)).filter fun p => decide (p.2.num ≠ k) } : Sc) = _
  rw [List.filter_filter]
  congr 1
  apply List.filter_congr
  intro p _
  rw [notin_snoc]
theorem wob_snoc (g : List Int) (k : Int) (l : List (Blk V)) : (wob g l).filter (fun b => decide (b.num ≠ k)) = wob (g ++ [k]) l := by
  unfold wob
  rw [List.filter_filter]
  apply List.filter_congr
  intro p _
  rw [notin_snoc]
theorem wob_nil (l : List (Blk V)) : wob [] l = l := List.filter_eq_self.mpr fun p _ => by simp
def goneOf (r : Sc) (ks : List Int) : List Int := (r.blks.map (·.num)).filter fun k => decide (k ∉ ks)
section
variable {w : World} {K : PySem.W.Frag} {mg : Str → Option Value} {base : Heap}
/-! ### Store.collect -/
def spCollect (K : PySem.W.Frag) : Sp := fun vs H Q _ => ∃ (r : Sc), vs = [.ref r.so] ∧ StoreAt K H r ∧ ValsOk H r ∧ Closed H r ∧ (r.blks.map (·.num)).Pairwise (· < ·) ∧ r.roots.length ≤ 30 ∧ r.bks.length ≤ 30 ∧
  ∀ (ks : List Int) (H' : Hp) (p : Addr), Reach H r ks → StoreAt K H' (r.wo (goneOf r ks)) → H' p = some (.lst ((goneOf r ks).map V.int)) → H p = none → Kp [r.od] H H' → Q (.ref p) H'
theorem sc_collect : FnScope ["self", "kept", "gone", "number"] ["self"] (defScope s_Store_collect) := ⟨rfl, rfl, rfl, by decide +kernel, rfl, by decide +kernel, by decide +kernel⟩
theorem ok_collect (T : Top K mg) : Ok Pg w K mg base CX0 3 (He.ma K (He.ga K "Store") "collect") ["self"] (spCollect K) := by
  obtain ⟨fdR, GR, bR, _⟩ := ok_reach (w := w) (base := base) T
  obtain ⟨fdN, GN, bN, _⟩ := ok_numbers (w := w) (base := base) T
  refine ok0 T.d_Store_collect sc_collect (fun vs H Q E h => ?_) (fun _ _ _ _ _ _ us hl => match us, hl with | [_], _ => rfl) (fun cdv A outer s H vs Q E hr h => ?_)
  · obtain ⟨r, rfl, _⟩ := h
    rfl
  · obtain ⟨r, rfl, S, hv, hcl, asc, hrl, hbl, kq⟩ := h
    have hr1 : Room 1 _ := hr.mono (by decide)
    obtain ⟨dx, h1⟩ := S.ins
    refine ⟨_, pss_cons (ps_set (i := 1) sc_collect.nd rfl (.inr rfl) (pe_meth0 (pv 0) T.cl_Store T.me_Store_reachable GR hr bR .nil pass0))
      (pss_cons (ps_setLc (i := 2) (own := [("number", 3)]) (g := gName 3) rfl sc_collect.nd rfl rfl (sw_true rfl rfl rfl (by decide +kernel)) (pi_list (pe_meth0 (pv 0) T.cl_Store T.me_Store_numbers GN hr1 bN .nil pass0)) (blkOk_by (own := [("number", 3)]) (N := ["self", "kept", "gone", "number"]) (sc := defScope s_Store_collect) (by decide +kernel))
          (fun _ _ _ _ _ => pg_name (i := 3) sc_collect.nd rfl (Or.inl rfl)) (fun _ _ _ _ _ => pts_one (pt_cmpR (r := rIn K true) op_notIn_seq (pv 3) (pv 1) (by rfl))) (fun _ _ _ _ _ => pv 3))
      (pss_cons (ps_for PassesOwn.never rfl (pi_list (pv 2)) (pg_name (i := 3) sc_collect.nd rfl (.inl rfl))
        (pss_one (ps_ddel (pe_fld (pv 0) rfl) (pv 3))))
      (pss_one (ps_ret (pv 2))))), ?_⟩
    refine ⟨_, rfl, r.so, dx, _, rfl, h1, srF_no_reachable, r, rfl, S, hv, hcl, hrl, hbl, fun ks H1 p hR s1 hp hp0 => ?_⟩
    have S1 := S.same s1
    refine ⟨_, rfl, r.so, dx, _, rfl, s1 _ _ h1, srF_no_numbers, r, rfl, S1, asc, by omega, fun q hq => ?_⟩
    have s2 := s1.trans (same_upd (o := .lst ((r.blks.map (·.num)).map V.int)) hq)
    have k1 : Same H1 (upd H1 q (.lst ((r.blks.map (·.num)).map V.int))) := same_upd hq
    have hnl : (r.blks.map (·.num)).length ≤ 30 := by rw [blks_nums, List.length_map]; exact hbl
    refine ⟨q, rfl, ⟨_, SqL.of upd_same⟩, fun D hD => ?_⟩
    refine lc_list (K := K) (a := q) (xs := (r.blks.map (·.num)).map V.int) (fun i H3 => Same (upd H1 q (.lst ((r.blks.map (·.num)).map V.int))) H3 ∧ H3 D = some (.lst ((((r.blks.map (·.num)).take i).filter fun k => decide (k ∉ ks)).map V.int)))
      ⟨same_upd hD, upd_same⟩ (fun i H3 _ ⟨s3, _⟩ => SqL.of (s3 _ _ upd_same)) ?_ ?_
    · rintro i x H3 hx ⟨s3, e3⟩
      rw [List.getElem?_map] at hx
      cases ex : (r.blks.map (·.num))[i]? with
      | none => rw [ex] at hx; cases hx
      | some k =>
        rw [ex] at hx
        have : x = .int k := (Option.some.inj hx).symm
        subst this
        refine ⟨rfl, _, rfl, _, rfl, p, _, rfl, .inl (SqL.of (s3 _ _ (k1 _ _ hp))), rfl, flat_ints _, ?_⟩
        rw [inV_int]
        refine ⟨_, rfl, ?_⟩
        have et : ((r.blks.map (·.num)).take (i + 1)).filter (fun k => decide (k ∉ ks)) = ((r.blks.map (·.num)).take i).filter (fun k => decide (k ∉ ks)) ++ (if k ∉ ks then [k] else []) := by
          rw [take_succ_of ex, List.filter_append]
          by_cases c : k ∈ ks <;> simp [c]
        by_cases c : k ∈ ks
        · rw [decide_eq_true c]
          refine iteF ⟨s3, ?_⟩
          rw [et, if_neg (by simp [c]), List.append_nil]
          exact e3
        · rw [decide_eq_false c]
          refine iteT ?_
          refine ⟨_, rfl, _, e3, ?_, fun b o e => by rw [upd_ne (ne_of_none e hD)]; exact s3 b o e, ?_⟩
          · rw [List.length_map]
            refine small1000 (Nat.le_trans (List.length_filter_le _ _) (by rw [List.length_take]; omega))
          · rw [upd_same, et, if_pos c, List.map_append]
            rfl
    · rintro H3 ⟨s3, e3⟩
      rw [List.length_map, List.take_length] at e3
      have s4 : Same H H3 := s2.trans s3
      have hD0 : H D = none := s2.free hD
      have S3 := S.same s4
      obtain ⟨d3, h3⟩ := S3.ins
      have hDf : D ∉ r.sfp := fun z => by
        obtain ⟨o, eo⟩ := S.some_ _ z
        rw [hD0] at eo; cases eo
      have hDo : D ≠ r.od := fun z => hDf (by rw [z]; simp [Sc.sfp])
      have eg : ((r.blks.map (·.num)).filter fun k => decide (k ∉ ks)) = goneOf r ks := rfl
      rw [eg] at e3
      refine ⟨_, rfl, D, rfl, ⟨_, SqL.of e3⟩, ?_⟩
      refine for_list (K := K) (a := D) (xs := (goneOf r ks).map V.int) (fun i σ H4 => ∃ v, σ = [some (.ref r.so), some (.ref p), some (.ref D), v] ∧ StoreAt K H4 (r.wo ((goneOf r ks).take i)) ∧ Kp [r.od] H3 H4)
        ⟨_, rfl, by rw [List.take_zero, wo_nil]; exact S3, Kp.refl⟩ (fun i σ H4 _ ⟨_, _, _, k4⟩ => SqL.of (k4 _ _ e3 (by simp; exact hDo))) ?_ ?_
      · rintro i x σ H4 hx ⟨v, rfl, S4, k4⟩
        rw [List.getElem?_map] at hx
        cases ex : (goneOf r ks)[i]? with
        | none => rw [ex] at hx; cases hx
        | some k =>
          rw [ex] at hx
          have : x = .int k := (Option.some.inj hx).symm
          subst this
          obtain ⟨d4, h4⟩ := S4.ins
          have hkg : k ∈ goneOf r ks := List.mem_of_getElem? ex
          have hkn : k ∈ r.blks.map (·.num) := (List.mem_filter.mp hkg).1
          have ndg : (goneOf r ks).Nodup := S.nums.sublist List.filter_sublist
          have hkt : k ∉ (goneOf r ks).take i := fun z => by
            have nt : ((goneOf r ks).take (i + 1)).Nodup := ndg.sublist (List.take_sublist _ _)
            rw [take_succ_of ex] at nt
            exact (List.nodup_append.mp nt).2.2 _ z _ (by simp) rfl
          obtain ⟨bp, hbp, ebp⟩ := nums_mem hkn
          have hbw : bp ∈ (r.wo ((goneOf r ks).take i)).bks := List.mem_filter.mpr ⟨hbp, by rw [ebp]; exact decide_eq_true hkt⟩
          have nd4 : ((r.wo ((goneOf r ks).take i)).bks.map fun p => p.2.num).Nodup := by rw [← blks_nums]; exact S4.nums
          refine ⟨_, rfl, r.so, _, d4, _, _, rfl, h4, T.cl_Store, T.na_Store_objects, srF_objects, _, rfl, r.od, _, Sum.inl k, rfl, S4.objs, rfl, ?_, ?_⟩
          · rw [← ebp, valV_oD nd4 hbw]; rfl
          · refine ⟨_, rfl, ?_, k4.trans (kp_upd (by simp))⟩
            rw [take_succ_of ex, ← wo_drop]
            exact store_drop S4 k
      · rintro σ H4 ⟨v, rfl, S4, k4⟩
        rw [List.length_map, List.take_length] at S4
        exact ⟨_, rfl, kq ks H4 D hR S4 (k4 _ _ e3 (by simp; exact hDo)) hD0 (Same.kp s4 k4)⟩
end
end K96
set_option Elab.async false
set_option linter.all false
set_option maxRecDepth 100000
set_option maxHeartbeats 1000000
namespace K96
open PySem PySem.Spec PyProof.Rows L2
/-! ### plain: gaps -/
abbrev PI := Int × Int
def LC (size : Int) : Int → List PI → Prop
  | e, [] => e ≤ size
  | e, x :: r => e ≤ x.1 ∧ 0 < x.2 ∧ LC size (x.1 + x.2) r
theorem LC.of {size : Int} {α : Type} : ∀ {e : Int} {l : List (Blk α)}, Chain size e l → LC size e (lay l)
  | _, [], h => h
  | _, b :: r, ⟨h1, h2, h3⟩ => ⟨h1, h2, LC.of h3⟩
theorem LC.le {size : Int} : ∀ {e : Int} {l : List PI}, LC size e l → e ≤ size
  | _, [], h => h
  | e, b :: r, ⟨h1, h2, h3⟩ => by
    have := LC.le h3
    have h1' : e ≤ b.1 := h1
    omega
theorem LC.mem {size : Int} : ∀ {e : Int} {l : List PI}, LC size e l → ∀ {b}, b ∈ l → e ≤ b.1 ∧ 0 < b.2 ∧ b.1 + b.2 ≤ size
  | e, c :: r, ⟨h1, h2, h3⟩, b, hb => by
    rcases List.mem_cons.mp hb with rfl | hb
    · exact ⟨h1, h2, h3.le⟩
    · have := LC.mem h3 hb
      refine ⟨?_, this.2⟩
      have h1' : e ≤ c.1 := h1
      omega
def gp : Int → List PI → List PI
  | _, [] => []
  | e, x :: r => (if x.1 > e then [(e, x.1 - e)] else []) ++ gp (x.1 + x.2) r
def en : Int → List PI → Int
  | e, [] => e
  | _, x :: r => en (x.1 + x.2) r
def gA (size : Int) : Int → List PI → List PI
  | e, [] => if e < size then [(e, size - e)] else []
  | e, x :: r => (if x.1 > e then [(e, x.1 - e)] else []) ++ gA size (x.1 + x.2) r
theorem gA_eq (size : Int) : ∀ (e : Int) (l : List PI), gA size e l = gp e l ++ (if en e l < size then [(en e l, size - en e l)] else [])
  | _, [] => rfl
  | e, x :: r => by
    show _ ++ gA size _ r = (_ ++ gp _ r) ++ _
    rw [gA_eq size _ r, List.append_assoc]; rfl
theorem gp_snoc : ∀ (e : Int) (l : List PI) (x : PI), gp e (l ++ [x]) = gp e l ++ (if x.1 > en e l then [(en e l, x.1 - en e l)] else [])
  | e, [], x => by
    show (if x.1 > e then [(e, x.1 - e)] else []) ++ [] = [] ++ (if x.1 > e then _ else _)
    rw [List.append_nil, List.nil_append]; rfl
  | e, y :: r, x => by
    show _ ++ gp _ (r ++ [x]) = (_ ++ gp _ r) ++ _
    rw [gp_snoc _ r x, List.append_assoc]; rfl
theorem en_snoc : ∀ (e : Int) (l : List PI) (x : PI), en e (l ++ [x]) = x.1 + x.2
  | _, [], _ => rfl
  | _, y :: r, x => en_snoc _ r x
theorem gp_len : ∀ (e : Int) (l : List PI), (gp e l).length ≤ l.length
  | _, [] => Nat.le_refl _
  | e, x :: r => by
    have := gp_len (x.1 + x.2) r
    show (_ ++ gp _ r).length ≤ r.length + 1
    rw [List.length_append]
    split <;> simp <;> omega
/-- n cells from s on are within the heap and free -/
def FreeAt (size : Int) (l : List PI) (s n : Int) : Prop := 0 ≤ s ∧ s + n ≤ size ∧ ∀ x ∈ l, x.1 + x.2 ≤ s ∨ s + n ≤ x.1
theorem gA_free {size : Int} : ∀ {e : Int} {l : List PI}, LC size e l → ∀ {g : PI}, g ∈ gA size e l → e ≤ g.1 ∧ 0 < g.2 ∧ g.1 + g.2 ≤ size ∧ ∀ x ∈ l, x.1 + x.2 ≤ g.1 ∨ g.1 + g.2 ≤ x.1
  | e, [], h, g, hg => by
    have hg' : g ∈ (if e < size then [(e, size - e)] else []) := hg
    by_cases c : e < size
    · rw [if_pos c] at hg'
      have : g = (e, size - e) := by simpa using hg'
      subst this
      exact ⟨Int.le_refl _, by show 0 < size - e; omega, by show e + (size - e) ≤ size; omega, fun x hx => (nomatch hx)⟩
    · rw [if_neg c] at hg'; cases hg'
  | e, y :: r, ⟨h1, h2, h3⟩, g, hg => by
    have h1' : e ≤ y.1 := h1
    have hg' : g ∈ (if y.1 > e then [(e, y.1 - e)] else []) ++ gA size (y.1 + y.2) r := hg
    rcases List.mem_append.mp hg' with hg' | hg'
    · by_cases c : y.1 > e
      · rw [if_pos c] at hg'
        have : g = (e, y.1 - e) := by simpa using hg'
        subst this
        have hle := h3.le
        refine ⟨Int.le_refl _, by show 0 < y.1 - e; omega, by show e + (y.1 - e) ≤ size; omega, fun x hx => ?_⟩
        right
        show e + (y.1 - e) ≤ x.1
        rcases List.mem_cons.mp hx with rfl | hx
        · omega
        · have := (h3.mem hx).1
          omega
      · rw [if_neg c] at hg'; cases hg'
    · obtain ⟨i1, i2, i3, i4⟩ := gA_free h3 hg'
      refine ⟨by omega, i2, i3, fun x hx => ?_⟩
      rcases List.mem_cons.mp hx with rfl | hx
      · exact .inl i1
      · exact i4 x hx
theorem gA_at {size : Int} {l : List PI} (h : LC size 0 l) {g : PI} (hg : g ∈ gA size 0 l) {s n : Int} (hn : 0 ≤ n) (h1 : g.1 ≤ s) (h2 : s + n ≤ g.1 + g.2) : FreeAt size l s n := by
  obtain ⟨i1, i2, i3, i4⟩ := gA_free h hg
  refine ⟨by omega, by omega, fun x hx => ?_⟩
  rcases i4 x hx with z | z
  · left; omega
  · right; omega
/-! ### lists of pairs -/
theorem PairsAt.push {H : Hp} {q t : Addr} {l : List PI} {ts : List Addr} {a b : Int} (e1 : H q = some (.lst (ts.map V.ref))) (e2 : ts.length = l.length)
    (e3 : ∀ (i : Nat) (t : Addr) (x : Int × Int), ts[i]? = some t → l[i]? = some x → H t = some (.tup [.int x.1, .int x.2])) (ht : H t = none) :
    PairsAt (upd (upd H t (.tup [.int a, .int b])) q (.lst (ts.map V.ref ++ [V.ref t]))) q (l ++ [(a, b)]) := by
  have hqt : q ≠ t := ne_of_none e1 ht
  refine ⟨ts ++ [t], by rw [upd_same, List.map_append]; rfl, by rw [List.length_append, List.length_append, e2]; rfl, fun i u x h1 h2 => ?_⟩
  by_cases hi : i < ts.length
  · rw [List.getElem?_append_left hi] at h1
    rw [List.getElem?_append_left (by omega)] at h2
    have e := e3 i u x h1 h2
    have huq : u ≠ q := ne_of e e1 (by intro z; cases z)
    rw [upd_ne huq, upd_ne (ne_of_none e ht)]; exact e
  · rw [List.getElem?_append_right (by omega)] at h1
    rw [List.getElem?_append_right (by omega)] at h2
    have hi0 : i - ts.length = 0 := by
      cases hz : i - ts.length with
      | zero => rfl
      | succ n => rw [hz] at h1; simp at h1
    rw [hi0] at h1
    rw [← e2, hi0] at h2
    have : u = t := by simpa using h1.symm
    have hx : x = (a, b) := by simpa using h2.symm
    subst this; subst hx
    rw [upd_ne (Ne.symm hqt), upd_same]
theorem PairsAt.nil {H : Hp} {q : Addr} (e : H q = some (.lst [])) : PairsAt H q [] := ⟨[], e, rfl, fun i t x h => by simp at h⟩
section
variable {w : World} {K : PySem.W.Frag} {mg : Str → Option Value} {base : Heap}
def spGaps : Sp := fun vs H Q _ => ∃ (size : Int) (p : Addr) (l : List PI), vs = [.int size, .ref p] ∧ PairsAt H p l ∧ l.length ≤ 60 ∧
  ∀ (H' : Hp) (q : Addr), PairsAt H' q (gA size 0 l) → Same H H' → H q = none → Q (.ref q) H'
theorem sc_gaps : FnScope ["size", "layout", "found", "end", "start", "length"] ["size", "layout"] (defScope s_gaps) := ⟨rfl, rfl, rfl, by decide +kernel, rfl, by decide +kernel, by decide +kernel⟩
theorem ok_gaps (T : Top K mg) : Ok Pg w K mg base CX0 1 (He.ga K "gaps") ["size", "layout"] spGaps := by
  refine ok0 T.d_gaps sc_gaps (fun vs H Q E h => ?_) (fun _ _ _ _ _ _ us hl => match us, hl with | [_, _], _ => rfl) (fun cdv A outer s H vs Q E hr h => ?_)
  · obtain ⟨size, p, l, rfl, _⟩ := h
    rfl
  · obtain ⟨size, p, l, rfl, ⟨ts, f1, f2, f3⟩, hl, kq⟩ := h
    refine ⟨_, pss_cons (ps_set (i := 2) sc_gaps.nd rfl (.inl rfl) (pe_lst pa_nil)) (pss_cons (ps_set (i := 3) sc_gaps.nd rfl (.inl rfl) pe_int)
      (pss_cons (ps_for PassesOwn.never rfl (pi_list (pv 1)) (pg_tup (by rfl) (pgs_cons (pg_name (i := 4) sc_gaps.nd rfl (.inl rfl)) (pgs_cons (pg_name (i := 5) sc_gaps.nd rfl (.inl rfl)) pgs_nil)))
        (pss_cons (ps_if (pt_cmpR op_gt (pv 4) (pv 3) (nomark _)) (pss_one (ps_expr (pe_bm PySem.F.plainAttrs_list PySem.F.slot_list_append PySem.F.type_list_append mt_append (pv 2) (pa_cons (pe_tup (pa_cons (pv 3) (pa_cons (pe_op op_sub (pv 4) (pv 3)) pa_nil))) pa_nil)))) pss_nil)
        (pss_one (ps_set (i := 3) sc_gaps.nd rfl (.inl rfl) (pe_op op_add (pv 4) (pv 5))))))
      (pss_cons (ps_if (pt_cmpR op_lt (pv 3) (pv 0) (nomark _)) (pss_one (ps_expr (pe_bm PySem.F.plainAttrs_list PySem.F.slot_list_append PySem.F.type_list_append mt_append (pv 2) (pa_cons (pe_tup (pa_cons (pv 3) (pa_cons (pe_op op_sub (pv 0) (pv 3)) pa_nil))) pa_nil)))) pss_nil)
      (pss_one (ps_ret (pv 2)))))), ?_⟩
    refine ⟨Nat.zero_le _, fun q hq => ?_⟩
    refine ⟨_, rfl, p, rfl, ⟨_, SqL.of (same_upd hq _ _ f1)⟩, ?_⟩
    refine for_list (K := K) (a := p) (xs := ts.map V.ref) (fun i σ H2 => ∃ (v4 v5 : Option V), σ = [some (.int size), some (.ref p), some (.ref q), some (.int (en 0 (l.take i))), v4, v5] ∧ Same H H2 ∧ PairsAt H2 q (gp 0 (l.take i)))
      ⟨none, none, rfl, same_upd hq, PairsAt.nil upd_same⟩ (fun i σ H2 _ ⟨_, _, _, s2, _⟩ => SqL.of (s2 _ _ f1)) ?_ ?_
    · rintro i y σ H2 hy ⟨v4, v5, rfl, s2, ⟨us, g1, g2, g3⟩⟩
      obtain ⟨t, x, rfl, ht, hx, htup⟩ := PairsAt.item (p := p) f2 f3 hy
      have hgl : us.length ≤ 60 := by
        have := gp_len 0 (l.take i)
        rw [List.length_take] at this
        omega
      refine ⟨t, _, rfl, SqT.of (s2 _ _ htup), rfl, _, _, rfl, _, _, rfl, rfl, ?_⟩
      refine ⟨_, rfl, _, rfl, _, _, rfl, rfl, _, rfl, ?_⟩
      by_cases c : x.1 > en 0 (l.take i)
      · rw [decide_eq_true c]
        refine iteT ?_
        refine ⟨_, rfl, .inl ⟨rfl, _, SqL.of g1⟩, _, rfl, _, rfl, _, rfl, _, _, rfl, rfl, (by show 2 ≤ sizeLine; decide), fun u hu => ?_⟩
        have hqu : q ≠ u := ne_of_none g1 hu
        refine ⟨q, _, _, rfl, rfl, by rw [upd_ne hqu]; exact g1, by rw [List.length_map]; exact small1000 (by omega), ?_⟩
        refine ⟨_, rfl, _, rfl, _, _, rfl, rfl, ?_⟩
        have P2 := PairsAt.push (a := en 0 (l.take i)) (b := x.1 - en 0 (l.take i)) g1 g2 g3 hu
        refine ⟨some (.int x.1), some (.int x.2), ?_, fun b o e => ?_, ?_⟩
        · rw [take_succ_of hx, en_snoc]; rfl
        · rw [upd_ne (ne_of_none e hq), upd_ne (ne_of_none (s2 _ _ e) hu)]; exact s2 b o e
        · rw [take_succ_of hx, gp_snoc, if_pos c]; exact P2
      · rw [decide_eq_false c]
        refine iteF ?_
        refine ⟨_, rfl, _, rfl, _, _, rfl, rfl, ?_⟩
        refine ⟨some (.int x.1), some (.int x.2), ?_, s2, ?_⟩
        · rw [take_succ_of hx, en_snoc]; rfl
        · rw [take_succ_of hx, gp_snoc, if_neg c, List.append_nil]; exact ⟨us, g1, g2, g3⟩
    · rintro σ H2 ⟨v4, v5, rfl, s2, P2⟩
      rw [List.length_map, f2, List.take_length] at P2
      have et : en 0 (l.take (ts.map V.ref).length) = en 0 l := by rw [List.length_map, f2, List.take_length]
      obtain ⟨us, g1, g2, g3⟩ := P2
      have hgl : us.length ≤ 60 := by
        have := gp_len 0 l
        omega
      refine ⟨_, rfl, _, rfl, _, _, rfl, rfl, _, rfl, ?_⟩
      rw [et]
      by_cases c : en 0 l < size
      · rw [decide_eq_true c]
        refine iteT ?_
        refine ⟨_, rfl, .inl ⟨rfl, _, SqL.of g1⟩, _, rfl, _, rfl, _, rfl, _, _, rfl, rfl, (by show 2 ≤ sizeLine; decide), fun u hu => ?_⟩
        have hqu : q ≠ u := ne_of_none g1 hu
        refine ⟨q, _, _, rfl, rfl, by rw [upd_ne hqu]; exact g1, by rw [List.length_map]; exact small1000 (by omega), ?_⟩
        have P2 := PairsAt.push (a := en 0 l) (b := size - en 0 l) g1 g2 g3 hu
        refine ⟨_, rfl, kq _ q ?_ (fun b o e => ?_) hq⟩
        · rw [gA_eq, if_pos c]; exact P2
        · rw [upd_ne (ne_of_none e hq), upd_ne (ne_of_none (s2 _ _ e) hu)]; exact s2 b o e
      · rw [decide_eq_false c]
        refine iteF ?_
        refine ⟨_, rfl, kq _ q ?_ s2 hq⟩
        rw [gA_eq, if_neg c, List.append_nil]; exact ⟨us, g1, g2, g3⟩
end
end K96
set_option Elab.async false
set_option linter.all false
set_option maxRecDepth 100000
set_option maxHeartbeats 1000000
namespace K96
open PySem PySem.Spec PyProof.Rows L2
theorem pairs_len {H : Hp} {p : Addr} {l : List PI} (a : PairsAt H p l) : ∃ ts : List Addr, ts.length = l.length ∧ H p = some (.lst (ts.map V.ref)) := by
  obtain ⟨ts, e1, e2, _⟩ := a
  exact ⟨ts, e2, e1⟩
def rgI (a b : Int) : List Int := (List.range (b - a).toNat).map fun i => a + (i : Nat)
theorem rgV_I (a b : Int) : rgV a b = (rgI a b).map V.int := by
  unfold rgV rgI
  rw [List.map_map]; rfl
theorem rgI_len (a b : Int) : (rgI a b).length = (b - a).toNat := by unfold rgI; rw [List.length_map, List.length_range]
theorem rgI_mem {a b s : Int} (h : s ∈ rgI a b) : a ≤ s ∧ s < b := by
  unfold rgI at h
  obtain ⟨i, hi, rfl⟩ := List.mem_map.mp h
  have := List.mem_range.mp hi
  omega
theorem gA_len (size e : Int) (l : List PI) : (gA size e l).length ≤ l.length + 1 := by
  rw [gA_eq, List.length_append]
  have := gp_len e l
  split <;> simp <;> omega
section
variable {w : World} {K : PySem.W.Frag} {mg : Str → Option Value} {base : Heap}
/-! ### first_place -/
def spFirst : Sp := fun vs H Q _ => ∃ (p : Addr) (c : Int) (ns : List Int), vs = [.ref p, .int c] ∧ H p = some (.lst (ns.map V.int)) ∧ ns.length ≤ 900 ∧
  (∀ H', Same H H' → Q .non H') ∧ ∀ s ∈ ns, ∀ H', Same H H' → Q (.int s) H'
theorem sc_first : FnScope ["found", "cursor", "later", "start"] ["found", "cursor"] (defScope s_first_place) := ⟨rfl, rfl, rfl, by decide +kernel, rfl, by decide +kernel, by decide +kernel⟩
theorem ok_first (T : Top K mg) : Ok Pg w K mg base CX0 1 (He.ga K "first_place") ["found", "cursor"] spFirst := by
  refine ok0 T.d_first_place sc_first (fun vs H Q E h => ?_) (fun _ _ _ _ _ _ us hl => match us, hl with | [_, _], _ => rfl) (fun cdv A outer s H vs Q E hr h => ?_)
  · obtain ⟨p, c, ns, rfl, _⟩ := h
    rfl
  · obtain ⟨p, c, ns, rfl, hp, hz, k1, k2⟩ := h
    refine ⟨_, pss_cons (ps_setLc (i := 2) (own := [("start", 3)]) (g := gName 3) rfl sc_first.nd rfl rfl (sw_true rfl rfl rfl (by decide +kernel)) (pi_list (pv 0)) (blkOk_by (own := [("start", 3)]) (N := ["found", "cursor", "later", "start"]) (sc := defScope s_first_place) (by decide +kernel))
          (fun _ _ _ _ _ => pg_name (i := 3) sc_first.nd rfl (Or.inl rfl)) (fun _ _ _ _ _ => pts_one (pt_cmpR (r := _) op_ge (pv 3) (pv 1) (nomark _))) (fun _ _ _ _ _ => pv 3))
      (pss_cons (ps_if (pt_truth (pv 2) (by intro _; rfl)) (pss_one (ps_ret (pe_ix ix_list (pv 2) pe_int (fun _ _ => rfl)))) pss_nil)
      (pss_cons (ps_if (pt_truth (pv 0) (by intro _; rfl)) (pss_one (ps_ret (pe_ix ix_list (pv 0) pe_int (fun _ _ => rfl)))) pss_nil)
      (pss_one (ps_ret pe_non)))), ?_⟩
    refine ⟨_, rfl, p, rfl, ⟨_, SqL.of hp⟩, fun D hD => ?_⟩
    refine lc_list (K := K) (a := p) (xs := ns.map V.int) (fun i H2 => Same H H2 ∧ ∃ ms : List Int, H2 D = some (.lst (ms.map V.int)) ∧ (∀ m ∈ ms, m ∈ ns) ∧ ms.length ≤ i) ⟨same_upd hD, [], upd_same, fun _ h => (nomatch h), Nat.le_refl _⟩ (fun i H2 _ ⟨s2, _⟩ => SqL.of (s2 _ _ hp)) ?_ ?_
    · rintro i x H2 hx ⟨s2, ms, e2, hm, hi⟩
      rw [List.getElem?_map] at hx
      cases ex : ns[i]? with
      | none => rw [ex] at hx; cases hx
      | some n =>
        rw [ex] at hx
        have : x = .int n := (Option.some.inj hx).symm
        subst this
        have hin : i < ns.length := (List.getElem?_eq_some_iff.mp ex).1
        refine ⟨rfl, _, rfl, _, rfl, _, _, rfl, rfl, _, rfl, ?_⟩
        by_cases g : n ≥ c
        · rw [decide_eq_true g]
          refine iteT ?_
          refine ⟨_, rfl, _, e2, by rw [List.length_map]; exact small1000 (by omega), fun b o e => by rw [upd_ne (ne_of_none e hD)]; exact s2 b o e, ms ++ [n], by rw [upd_same, List.map_append]; rfl, fun m hm' => ?_, by rw [List.length_append]; simp only [List.length_cons, List.length_nil]; omega⟩
          rcases List.mem_append.mp hm' with z | z
          · exact hm m z
          · have : m = n := by simpa using z
            subst this
            exact List.mem_of_getElem? ex
        · rw [decide_eq_false g]
          refine iteF ?_
          exact ⟨s2, ms, e2, hm, by omega⟩
    · rintro H2 ⟨s2, ms, e2, hm, hi⟩
      refine ⟨_, rfl, !(ms.map V.int).isEmpty, .inl ⟨_, SqL.of e2, rfl⟩, ?_⟩
      cases ms with
      | cons m ms =>
        refine iteT ?_
        exact ⟨_, rfl, D, _, _, .int m, rfl, rfl, SqL.of e2, atI_nat (j := 0) rfl, k2 m (hm m (List.mem_cons_self ..)) _ s2⟩
      | nil =>
        refine iteF ?_
        refine ⟨_, rfl, !(ns.map V.int).isEmpty, .inl ⟨_, SqL.of (s2 _ _ hp), rfl⟩, ?_⟩
        cases ns with
        | cons n ns =>
          refine iteT ?_
          exact ⟨_, rfl, p, _, _, .int n, rfl, rfl, SqL.of (s2 _ _ hp), atI_nat (j := 0) rfl, k2 n (List.mem_cons_self ..) _ s2⟩
        | nil => exact iteF (k1 _ s2)
/-! ### places -/
def spPlaces : Sp := fun vs H Q _ => ∃ (size : Int) (p : Addr) (l : List PI) (n : Int), vs = [.int size, .ref p, .int n] ∧ PairsAt H p l ∧ LC size 0 l ∧ 0 ≤ n ∧ n ≤ 1000 ∧ size ≤ 25 ∧ l.length ≤ 25 ∧
  ∀ (ns : List Int) (H' : Hp) (q : Addr), (∀ s ∈ ns, FreeAt size l s n) → ns.length ≤ 900 → Same H H' → H' q = some (.lst (ns.map V.int)) → Q (.ref q) H'
theorem sc_places : FnScope ["size", "layout", "length", "found", "start", "wide"] ["size", "layout", "length"] (defScope s_places) := ⟨rfl, rfl, rfl, by decide +kernel, rfl, by decide +kernel, by decide +kernel⟩
theorem ok_places (T : Top K mg) : Ok Pg w K mg base CX0 2 (He.ga K "places") ["size", "layout", "length"] spPlaces := by
  obtain ⟨fdG, GG, bG, kG⟩ := ok_gaps (w := w) (base := base) T
  refine ok0 T.d_places sc_places (fun vs H Q E h => ?_) (fun _ _ _ _ _ _ us hl => match us, hl with | [_, _, _], _ => rfl) (fun cdv A outer s H vs Q E hr h => ?_)
  · obtain ⟨size, p, l, n, rfl, _⟩ := h
    rfl
  · obtain ⟨size, p, l, n, rfl, hP, hL, hn0, hn1, hs, hll, kq⟩ := h
    refine ⟨_, pss_cons (ps_set (i := 3) sc_places.nd rfl (.inl rfl) (pe_lst pa_nil))
      (pss_cons (ps_for PassesOwn.never rfl (pi_list (pe_call GG hr (by rfl) T.mg_gaps kG bG .nil pass0 (pa_cons (pv 0) (pa_cons (pv 1) pa_nil)))) (pg_tup (by rfl) (pgs_cons (pg_name (i := 4) sc_places.nd rfl (.inl rfl)) (pgs_cons (pg_name (i := 5) sc_places.nd rfl (.inl rfl)) pgs_nil)))
        (pss_one (ps_set (i := 3) sc_places.nd rfl (.inl rfl) (pe_op op_cat (pv 3) (pe_listRg rfl (by rfl) T.fr_list (prg_2 (by rfl) T.fr_range (pv 4) (pe_op op_add (pe_op op_sub (pe_op op_add (pv 4) (pv 5)) (pv 2)) pe_int)))))))
      (pss_one (ps_ret (pv 3)))), ?_⟩
    refine ⟨Nat.zero_le _, fun q hq => ?_⟩
    have s0 : Same H (upd H q (.lst [])) := same_upd hq
    refine ⟨_, rfl, _, rfl, size, p, l, rfl, hP.same s0, by omega, fun H1 g hG s1 hg => ?_⟩
    have s01 := s0.trans s1
    obtain ⟨ts, f1, f2, f3⟩ := hG
    refine ⟨g, rfl, ⟨_, SqL.of f1⟩, ?_⟩
    have hgl := gA_len size 0 l
    refine for_list (K := K) (a := g) (xs := ts.map V.ref) (fun i σ H2 => ∃ (q2 : Addr) (ns : List Int) (v4 v5 : Option V), σ = [some (.int size), some (.ref p), some (.int n), some (.ref q2), v4, v5] ∧ Same H1 H2 ∧ H2 q2 = some (.lst (ns.map V.int)) ∧ (∀ s ∈ ns, FreeAt size l s n) ∧ ns.length ≤ i * 30)
      ⟨q, [], none, none, rfl, Same.refl, s1 _ _ upd_same, fun _ h => (nomatch h), Nat.zero_le _⟩ (fun i σ H2 _ ⟨_, _, _, _, _, s2, _⟩ => SqL.of (s2 _ _ f1)) ?_ ?_
    · rintro i y σ H2 hy ⟨q2, ns, v4, v5, rfl, s2, e2, hF, hi⟩
      obtain ⟨t, x, rfl, ht, hx, htup⟩ := PairsAt.item (p := p) f2 f3 hy
      have hxm : x ∈ gA size 0 l := List.mem_of_getElem? hx
      obtain ⟨x1, x2, x3, x4⟩ := gA_free hL hxm
      have hi26 : i < 26 := by
        have := (List.getElem?_eq_some_iff.mp hx).1
        omega
      refine ⟨t, _, rfl, SqT.of (s2 _ _ htup), rfl, _, _, rfl, _, _, rfl, rfl, ?_⟩
      refine ⟨_, rfl, _, rfl, _, rfl, _, rfl, _, _, rfl, rfl, _, rfl, _, _, rfl, rfl, _, _, rfl, rfl, _, _, rfl, rfl, ?_, fun u hu => ?_⟩
      · refine ⟨?_, ?_, ?_, ?_, ?_⟩ <;> omega
      · have hr30 : (rgI x.1 (x.1 + x.2 - n + 1)).length ≤ 30 := by rw [rgI_len]; omega
        have hq2u : q2 ≠ u := ne_of_none e2 hu
        have s3 : Same H2 (upd H2 u (.lst (rgV x.1 (x.1 + x.2 - n + 1)))) := same_upd hu
        refine ⟨q2, u, _, _, rfl, rfl, s3 _ _ e2, upd_same, ?_, fun z hz => ?_⟩
        · rw [List.length_map, rgV_I, List.length_map]
          exact Nat.le_of_lt (small1000 (by omega))
        · refine ⟨z, ns ++ rgI x.1 (x.1 + x.2 - n + 1), _, _, rfl, s2.trans (s3.trans (same_upd hz)), by rw [upd_same, rgV_I, List.map_append], fun s hs => ?_, by rw [List.length_append]; omega⟩
          rcases List.mem_append.mp hs with hs | hs
          · exact hF s hs
          · have := rgI_mem hs
            exact gA_at hL hxm hn0 (by omega) (by omega)
    · rintro σ H2 ⟨q2, ns, v4, v5, rfl, s2, e2, hF, hi⟩
      rw [List.length_map] at hi
      exact ⟨_, rfl, kq ns _ q2 hF (by omega) (s01.trans s2) e2⟩
end
end K96
set_option Elab.async false
set_option linter.all false
set_option maxRecDepth 100000
set_option maxHeartbeats 1000000
namespace K96
open PySem PySem.Spec PyProof.Rows L2
theorem bind5 (T : Addr) (kV doc pm : Value) (an : Option Addr) (cdv ct : Value) (us its : List Value) (hu : us.length = 5) (hi : its.length = 1) : ∃ k, bindArgs (PySem.W.fnOf "place_block" "place_block" (defArgs s_place_block) (defBody s_place_block) (defScope s_place_block) (.ref T) kV doc pm an cdv ct) ⟨us, []⟩ = seqItems? (.ref T) >>= k ∧ k (some its.toArray) = pure ((["size", "layout", "length", "policy", "cursor"] : List Str).zip (us ++ its.drop 1)) := by
  match us, hu, its, hi with
  | [a, b, c, d, e], _, [x], _ =>
    refine ⟨_, rfl, ?_⟩
    with_unfolding_all rfl
section
variable {w : World} {K : PySem.W.Frag} {mg : Str → Option Value} {base : Heap}
/-! ### place_block -/
def spPlace : Sp := fun vs H Q _ => ∃ (size : Int) (p : Addr) (l : List PI) (n : Int) (pol : Str) (cur : Int), vs = [.int size, .ref p, .int n, .str pol, .int cur] ∧ PairsAt H p l ∧ LC size 0 l ∧ 0 ≤ n ∧ n ≤ 1000 ∧ size ≤ 25 ∧ l.length ≤ 25 ∧
  (∀ H', Same H H' → Q .non H') ∧ ∀ s H', FreeAt size l s n → Same H H' → Q (.int s) H'
theorem sc_place : FnScope ["size", "layout", "length", "policy", "cursor", "best", "start", "wide"] ["size", "layout", "length", "policy", "cursor"] (defScope s_place_block) := ⟨rfl, rfl, rfl, by decide +kernel, rfl, by decide +kernel, by decide +kernel⟩
def Best (size n : Int) (l : List PI) (H : Hp) (b : V) : Prop := b = .non ∨ ∃ (t : Addr) (x : PI), b = .ref t ∧ H t = some (.tup [.int x.1, .int x.2]) ∧ x ∈ gA size 0 l ∧ n ≤ x.2
theorem ok_place (T : Top K mg) : Ok Pg w K mg base CX0 3 (He.ga K "place_block") ["size", "layout", "length", "policy", "cursor"] spPlace := by
  obtain ⟨fdG, GG, bG, kG⟩ := ok_gaps (w := w) (base := base) T
  obtain ⟨fdF, GF, bF, kF⟩ := ok_first (w := w) (base := base) T
  obtain ⟨fdP, GP, bP, kP⟩ := ok_places (w := w) (base := base) T
  obtain ⟨fd, F⟩ := T.d_place_block
  refine ⟨fd, F.ok sc_place (fun vs H Q E h => ?_) (fun cdv A outer s H vs Q E hr h => ?_), ?_, F.kp⟩
  · obtain ⟨size, p, l, n, pol, cur, rfl, _⟩ := h
    rfl
  · obtain ⟨size, p, l, n, pol, cur, rfl, hP, hL, hn0, hn1, hs, hll, k1, k2⟩ := h
    have hr1 : Room 1 _ := hr.mono (by decide)
    suffices z : ∃ t, PSs (cxOf CX0 Pg w K mg base ["size", "layout", "length", "policy", "cursor", "best", "start", "wide"] "place_block" (defScope s_place_block) (He.ga K "place_block") cdv A outer s H E).nox (defBody s_place_block) t ∧ t { nx := fun _ H' => Q .non H', rt := Q } (start ["size", "layout", "length", "policy", "cursor", "best", "start", "wide"] [.int size, .ref p, .int n, .str pol, .int cur]) H by
      obtain ⟨t, y1, y2⟩ := z
      exact ⟨t, y1.nox, y2⟩
    refine ⟨_, pss_cons (ps_if (pt_cmpR op_eq (pv 3) pe_str (nomark _)) (pss_one (ps_ret (pe_call GF hr1 (by rfl) T.mg_first_place kF bF .nil pass0 (pa_cons (pe_call GP hr (by rfl) T.mg_places kP bP .nil pass0 (pa_cons (pv 0) (pa_cons (pv 1) (pa_cons (pv 2) pa_nil)))) (pa_cons (pv 4) pa_nil))))) pss_nil)
      (pss_cons (ps_set (i := 5) sc_place.nd rfl (.inl rfl) pe_non)
      (pss_cons (ps_for PassesOwn.never rfl (pi_list (pe_call GG hr1 (by rfl) T.mg_gaps kG bG .nil pass0 (pa_cons (pv 0) (pa_cons (pv 1) pa_nil)))) (pg_tup (by rfl) (pgs_cons (pg_name (i := 6) sc_place.nd rfl (.inl rfl)) (pgs_cons (pg_name (i := 7) sc_place.nd rfl (.inl rfl)) pgs_nil)))
        (pss_cons (ps_if (pt_cmpR op_lt (pv 7) (pv 2) (nomark _)) (pss_one ps_continue) pss_nil)
        (pss_one (ps_if (pt_cmp (pc_isN (pv 5))) (pss_one (ps_set (i := 5) sc_place.nd rfl (.inl rfl) (pe_tup (pa_cons (pv 6) (pa_cons (pv 7) pa_nil)))))
          (pss_one (ps_if (PW.pt (pw_and (pt_cmpR op_eq (pv 3) pe_str (nomark _)) (pw_and1 (pt_cmpR op_lt (pv 7) (pe_ix ix_tup (pv 5) pe_int (fun _ _ => rfl)) (nomark _)))))
            (pss_one (ps_set (i := 5) sc_place.nd rfl (.inl rfl) (pe_tup (pa_cons (pv 6) (pa_cons (pv 7) pa_nil)))))
            (pss_one (ps_if (PW.pt (pw_and (pt_cmpR op_eq (pv 3) pe_str (nomark _)) (pw_and1 (pt_cmpR op_gt (pv 7) (pe_ix ix_tup (pv 5) pe_int (fun _ _ => rfl)) (nomark _)))))
              (pss_one (ps_set (i := 5) sc_place.nd rfl (.inl rfl) (pe_tup (pa_cons (pv 6) (pa_cons (pv 7) pa_nil)))))
              pss_nil))))))))
      (pss_cons (ps_if (pt_cmp (pc_isN (pv 5))) (pss_one (ps_ret pe_non)) pss_nil)
      (pss_one (ps_ret (pe_ix ix_tup (pv 5) pe_int (fun _ _ => rfl))))))), ?_⟩
    refine ⟨_, rfl, rfl, _, rfl, ?_⟩
    by_cases cn : V.str pol = V.str "next"
    · rw [decide_eq_true cn]
      refine iteT ?_
      refine ⟨_, rfl, _, rfl, _, rfl, size, p, l, n, rfl, hP, hL, hn0, hn1, hs, hll, fun ns H1 q hF hz s1 e1 => ?_⟩
      exact ⟨_, rfl, q, cur, ns, rfl, e1, hz, fun H2 s2 => k1 H2 (s1.trans s2), fun s hs H2 s2 => k2 s H2 (hF s hs) (s1.trans s2)⟩
    · rw [decide_eq_false cn]
      refine iteF ?_
      refine ⟨_, rfl, _, rfl, size, p, l, rfl, hP, by omega, fun H1 g hG s1 hg => ?_⟩
      obtain ⟨ts, f1, f2, f3⟩ := hG
      refine ⟨g, rfl, ⟨_, SqL.of f1⟩, ?_⟩
      refine for_list (K := K) (a := g) (xs := ts.map V.ref) (fun i σ H2 => ∃ (bv : V) (v6 v7 : Option V), σ = [some (.int size), some (.ref p), some (.int n), some (.str pol), some (.int cur), some bv, v6, v7] ∧ Same H1 H2 ∧ Best size n l H2 bv)
        ⟨.non, none, none, rfl, Same.refl, .inl rfl⟩ (fun i σ H2 _ ⟨_, _, _, _, s2, _⟩ => SqL.of (s2 _ _ f1)) ?_ ?_
      · rintro i y σ H2 hy ⟨bv, v6, v7, rfl, s2, hB⟩
        obtain ⟨t, x, rfl, ht, hx, htup⟩ := PairsAt.item (p := p) f2 f3 hy
        have hxm : x ∈ gA size 0 l := List.mem_of_getElem? hx
        refine ⟨t, _, rfl, SqT.of (s2 _ _ htup), rfl, _, _, rfl, _, _, rfl, rfl, ?_⟩
        refine ⟨_, rfl, _, rfl, _, _, rfl, rfl, _, rfl, ?_⟩
        by_cases c : x.2 < n
        · rw [decide_eq_true c]
          refine iteT ?_
          exact ⟨bv, _, _, rfl, s2, hB⟩
        · rw [decide_eq_false c]
          refine iteF ?_
          have new : ∀ u, H2 u = none → Same H1 (upd H2 u (.tup [.int x.1, .int x.2])) ∧ Best size n l (upd H2 u (.tup [.int x.1, .int x.2])) (.ref u) := fun u hu => ⟨s2.trans (same_upd hu), .inr ⟨u, x, rfl, upd_same, hxm, by omega⟩⟩
          rcases hB with rfl | ⟨u, z, rfl, eu, hz, hnz⟩
          · refine ⟨_, rfl, _, rfl, iteT ?_⟩
            refine ⟨_, rfl, _, rfl, (by show 2 ≤ sizeLine; decide), fun u hu => ?_⟩
            exact ⟨.ref u, _, _, rfl, new u hu⟩
          · refine ⟨_, rfl, _, rfl, iteF ?_⟩
            have keep : Best size n l H2 (.ref u) := .inr ⟨u, z, rfl, eu, hz, hnz⟩
            refine ⟨_, rfl, rfl, _, rfl, ?_⟩
            by_cases c1 : V.str pol = V.str "best"
            · rw [decide_eq_true c1]
              refine iteT ?_
              refine ⟨_, rfl, _, rfl, u, _, _, _, rfl, rfl, SqT.of eu, atI_nat (j := 1) rfl, _, _, rfl, rfl, _, rfl, ?_⟩
              by_cases c4 : x.2 < z.2
              · rw [decide_eq_true c4]
                refine iteT ?_
                refine ⟨_, rfl, _, rfl, (by show 2 ≤ sizeLine; decide), fun u' hu' => ?_⟩
                exact ⟨.ref u', _, _, rfl, new u' hu'⟩
              · rw [decide_eq_false c4]
                refine iteF ?_
                refine ⟨_, rfl, rfl, _, rfl, ?_⟩
                by_cases c2 : V.str pol = V.str "worst"
                · rw [decide_eq_true c2]
                  refine iteT ?_
                  refine ⟨_, rfl, _, rfl, u, _, _, _, rfl, rfl, SqT.of eu, atI_nat (j := 1) rfl, _, _, rfl, rfl, _, rfl, ?_⟩
                  by_cases c3 : x.2 > z.2
                  · rw [decide_eq_true c3]
                    refine iteT ?_
                    refine ⟨_, rfl, _, rfl, (by show 2 ≤ sizeLine; decide), fun u' hu' => ?_⟩
                    exact ⟨.ref u', _, _, rfl, new u' hu'⟩
                  · rw [decide_eq_false c3]
                    exact iteF ⟨.ref u, _, _, rfl, s2, keep⟩
                · rw [decide_eq_false c2]
                  exact iteF ⟨.ref u, _, _, rfl, s2, keep⟩
            · rw [decide_eq_false c1]
              refine iteF ?_
              refine ⟨_, rfl, rfl, _, rfl, ?_⟩
              by_cases c2 : V.str pol = V.str "worst"
              · rw [decide_eq_true c2]
                refine iteT ?_
                refine ⟨_, rfl, _, rfl, u, _, _, _, rfl, rfl, SqT.of eu, atI_nat (j := 1) rfl, _, _, rfl, rfl, _, rfl, ?_⟩
                by_cases c3 : x.2 > z.2
                · rw [decide_eq_true c3]
                  refine iteT ?_
                  refine ⟨_, rfl, _, rfl, (by show 2 ≤ sizeLine; decide), fun u' hu' => ?_⟩
                  exact ⟨.ref u', _, _, rfl, new u' hu'⟩
                · rw [decide_eq_false c3]
                  exact iteF ⟨.ref u, _, _, rfl, s2, keep⟩
              · rw [decide_eq_false c2]
                exact iteF ⟨.ref u, _, _, rfl, s2, keep⟩
      · rintro σ H2 ⟨bv, v6, v7, rfl, s2, hB⟩
        rcases hB with rfl | ⟨u, z, rfl, eu, hz, hnz⟩
        · refine ⟨_, rfl, _, rfl, iteT ?_⟩
          exact k1 _ (s1.trans s2)
        · refine ⟨_, rfl, _, rfl, iteF ?_⟩
          obtain ⟨x1, x2, x3, x4⟩ := gA_free hL hz
          exact ⟨_, rfl, u, _, _, _, rfl, rfl, SqT.of eu, atI_nat (j := 0) rfl, k2 z.1 _ (gA_at hL hz hn0 (Int.le_refl _) (by omega)) (s1.trans s2)⟩
  · obtain ⟨ds, v0, b0⟩ := F.binds1 5 1 (by simp) rfl bind5
    cases v0
    exact b0
end
end K96
set_option Elab.async false
set_option linter.all false
set_option maxRecDepth 100000
set_option maxHeartbeats 1000000
namespace K96
open PySem PySem.Spec PyProof.Rows L2
def packP : Int → List PI → List PI
  | _, [] => []
  | e, x :: r => (e, x.2) :: packP (e + x.2) r
def sE : Int → List PI → Int
  | e, [] => e
  | e, x :: r => sE (e + x.2) r
theorem packP_snoc : ∀ (e : Int) (l : List PI) (x : PI), packP e (l ++ [x]) = packP e l ++ [(sE e l, x.2)]
  | _, [], _ => rfl
  | e, y :: r, x => by
    show (e, y.2) :: packP _ (r ++ [x]) = (e, y.2) :: (packP _ r ++ _)
    rw [packP_snoc _ r x]; rfl
theorem sE_snoc : ∀ (e : Int) (l : List PI) (x : PI), sE e (l ++ [x]) = sE e l + x.2
  | _, [], _ => rfl
  | e, y :: r, x => sE_snoc _ r x
theorem packP_len : ∀ (e : Int) (l : List PI), (packP e l).length = l.length
  | _, [] => rfl
  | e, x :: r => by
    show (packP _ r).length + 1 = r.length + 1
    rw [packP_len _ r]
theorem packP_lay {α : Type} : ∀ (e : Int) (l : List (Blk α)), packP e (lay l) = lay (pack e l)
  | _, [] => rfl
  | e, b :: r => by
    show (e, b.len) :: packP (e + b.len) (lay r) = (e, b.len) :: lay (pack (e + b.len) r)
    rw [packP_lay _ r]
section
variable {w : World} {K : PySem.W.Frag} {mg : Str → Option Value} {base : Heap}
/-! ### slide_left -/
def spSlideL : Sp := fun vs H Q _ => ∃ (size : Int) (p : Addr) (l : List PI), vs = [.int size, .ref p] ∧ PairsAt H p l ∧ l.length ≤ 60 ∧
  ∀ (H' : Hp) (q : Addr), PairsAt H' q (packP 0 l) → Same H H' → H q = none → Q (.ref q) H'
theorem sc_slideL : FnScope ["size", "layout", "result", "end", "start", "length"] ["size", "layout"] (defScope s_slide_left) := ⟨rfl, rfl, rfl, by decide +kernel, rfl, by decide +kernel, by decide +kernel⟩
theorem ok_slideL (T : Top K mg) : Ok Pg w K mg base CX0 1 (He.ga K "slide_left") ["size", "layout"] spSlideL := by
  refine ok0 T.d_slide_left sc_slideL (fun vs H Q E h => ?_) (fun _ _ _ _ _ _ us hl => match us, hl with | [_, _], _ => rfl) (fun cdv A outer s H vs Q E hr h => ?_)
  · obtain ⟨size, p, l, rfl, _⟩ := h
    rfl
  · obtain ⟨size, p, l, rfl, ⟨ts, f1, f2, f3⟩, hl, kq⟩ := h
    refine ⟨_, pss_cons (ps_set (i := 2) sc_slideL.nd rfl (.inl rfl) (pe_lst pa_nil)) (pss_cons (ps_set (i := 3) sc_slideL.nd rfl (.inl rfl) pe_int)
      (pss_cons (ps_for PassesOwn.never rfl (pi_list (pv 1)) (pg_tup (by rfl) (pgs_cons (pg_name (i := 4) sc_slideL.nd rfl (.inl rfl)) (pgs_cons (pg_name (i := 5) sc_slideL.nd rfl (.inl rfl)) pgs_nil)))
        (pss_cons (ps_expr (pe_bm PySem.F.plainAttrs_list PySem.F.slot_list_append PySem.F.type_list_append mt_append (pv 2) (pa_cons (pe_tup (pa_cons (pv 3) (pa_cons (pv 5) pa_nil))) pa_nil)))
        (pss_one (ps_aug (i := 3) sc_slideL.nd rfl (.inl rfl) (pv 5) ip_add))))
      (pss_one (ps_ret (pv 2))))), ?_⟩
    refine ⟨Nat.zero_le _, fun q hq => ?_⟩
    refine ⟨_, rfl, p, rfl, ⟨_, SqL.of (same_upd hq _ _ f1)⟩, ?_⟩
    refine for_list (K := K) (a := p) (xs := ts.map V.ref) (fun i σ H2 => ∃ (v4 v5 : Option V), σ = [some (.int size), some (.ref p), some (.ref q), some (.int (sE 0 (l.take i))), v4, v5] ∧ Same H H2 ∧ PairsAt H2 q (packP 0 (l.take i)))
      ⟨none, none, rfl, same_upd hq, PairsAt.nil upd_same⟩ (fun i σ H2 _ ⟨_, _, _, s2, _⟩ => SqL.of (s2 _ _ f1)) ?_ ?_
    · rintro i y σ H2 hy ⟨v4, v5, rfl, s2, ⟨us, g1, g2, g3⟩⟩
      obtain ⟨t, x, rfl, ht, hx, htup⟩ := PairsAt.item (p := p) f2 f3 hy
      have hgl : us.length ≤ 60 := by
        have := packP_len 0 (l.take i)
        rw [List.length_take] at this
        omega
      refine ⟨t, _, rfl, SqT.of (s2 _ _ htup), rfl, _, _, rfl, _, _, rfl, rfl, ?_⟩
      refine ⟨_, rfl, .inl ⟨rfl, _, SqL.of g1⟩, _, rfl, _, rfl, (by show 2 ≤ sizeLine; decide), fun u hu => ?_⟩
      have hqu : q ≠ u := ne_of_none g1 hu
      refine ⟨q, _, _, rfl, rfl, by rw [upd_ne hqu]; exact g1, by rw [List.length_map]; exact small1000 (by omega), ?_⟩
      refine ⟨_, rfl, _, rfl, _, _, rfl, rfl, ?_⟩
      have P2 := PairsAt.push (a := sE 0 (l.take i)) (b := x.2) g1 g2 g3 hu
      refine ⟨some (.int x.1), some (.int x.2), ?_, fun b o e => ?_, ?_⟩
      · rw [take_succ_of hx, sE_snoc]; rfl
      · rw [upd_ne (ne_of_none e hq), upd_ne (ne_of_none (s2 _ _ e) hu)]; exact s2 b o e
      · rw [take_succ_of hx, packP_snoc]; exact P2
    · rintro σ H2 ⟨v4, v5, rfl, s2, P2⟩
      rw [List.length_map, f2, List.take_length] at P2
      exact ⟨_, rfl, kq _ q P2 s2 hq⟩
/-! ### canonical -/
def AnyList (H : Hp) (q : Addr) : Prop := ∃ xs, H q = some (.lst xs)
def spCanon : Sp := fun vs H Q _ => ∃ (p : Addr) (xs : List V), vs = [.ref p] ∧ H p = some (.lst xs) ∧ (∀ x ∈ xs, ∃ (t : Addr) (i j : Int), x = .ref t ∧ H t = some (.tup [.int i, .int j])) ∧ xs.length ≤ 900 ∧
  ∀ (H' : Hp) (q : Addr), AnyList H' q → Same H H' → Q (.ref q) H'
theorem sc_canon : FnScope ["pairs", "pieces", "source", "target", "start", "goal", "length"] ["pairs"] (defScope s_canonical) := ⟨rfl, rfl, rfl, by decide +kernel, rfl, by decide +kernel, by decide +kernel⟩
theorem ok_canon (T : Top K mg) : Ok Pg w K mg base CX0 1 (He.ga K "canonical") ["pairs"] spCanon := by
  refine ok0 T.d_canonical sc_canon (fun vs H Q E h => ?_) (fun _ _ _ _ _ _ us hl => match us, hl with | [_], _ => rfl) (fun cdv A outer s H vs Q E hr h => ?_)
  · obtain ⟨p, xs, rfl, _⟩ := h
    rfl
  · obtain ⟨p, xs, rfl, hp, hx, hz, kq⟩ := h
    refine ⟨_, pss_cons (ps_set (i := 1) sc_canon.nd rfl (.inl rfl) (pe_lst pa_nil))
      (pss_cons (ps_for PassesOwn.never rfl (pi_list (pe_callB cr_sortedP (by rfl) T.fr_sorted (by decide +kernel) (pa_cons (pv 0) pa_nil))) (pg_tup (by rfl) (pgs_cons (pg_name (i := 2) sc_canon.nd rfl (.inl rfl)) (pgs_cons (pg_name (i := 3) sc_canon.nd rfl (.inl rfl)) pgs_nil)))
        (pss_cons (ps_if (pt_truth (pv 1) (by intro _; rfl))
          (pss_cons (ps_asg (pe_ix ix_list (pv 1) (pe_un un_neg pe_int) (fun _ _ => rfl)) (pg_tup (by rfl) (pgs_cons (pg_name (i := 4) sc_canon.nd rfl (.inl rfl)) (pgs_cons (pg_name (i := 5) sc_canon.nd rfl (.inl rfl)) (pgs_cons (pg_name (i := 6) sc_canon.nd rfl (.inl rfl)) pgs_nil)))))
          (pss_one (ps_if (PW.pt (pw_and (pt_cmpR op_eq (pe_op op_add (pv 4) (pv 6)) (pv 2) (nomark _)) (pw_and1 (pt_cmpR op_eq (pe_op op_add (pv 5) (pv 6)) (pv 3) (nomark _)))))
            (pss_cons (ps_asg (pe_tup (pa_cons (pv 4) (pa_cons (pv 5) (pa_cons (pe_op op_add (pv 6) pe_int) pa_nil)))) (pg_sub (pv 1) (pe_un un_neg pe_int) set_list)) (pss_one ps_continue)) pss_nil))) pss_nil)
        (pss_one (ps_expr (pe_bm PySem.F.plainAttrs_list PySem.F.slot_list_append PySem.F.type_list_append mt_append (pv 1) (pa_cons (pe_tup (pa_cons (pv 2) (pa_cons (pv 3) (pa_cons pe_int pa_nil)))) pa_nil))))))
      (pss_one (ps_ret (pv 1)))), ?_⟩
    refine ⟨Nat.zero_le _, fun q hq => ?_⟩
    have s0 : Same H (upd H q (.lst [])) := same_upd hq
    refine ⟨_, rfl, p, xs, rfl, SqL.of (s0 _ _ hp), fun x hxm => ?_, fun ys g hperm hg => ?_⟩
    · obtain ⟨t, i, j, rfl, e⟩ := hx x hxm
      exact ⟨t, i, j, rfl, s0 _ _ e⟩
    have s1 := s0.trans (same_upd (o := .lst ys) hg)
    have hqg : q ≠ g := ne_of_none upd_same hg
    have hg0 : H g = none := s0.free hg
    refine ⟨g, rfl, ⟨_, SqL.of upd_same⟩, ?_⟩
    refine for_list (K := K) (a := g) (xs := ys) (fun i σ H2 => ∃ (v2 v3 v4 v5 v6 : Option V) (ps : List V), σ = [some (.ref p), some (.ref q), v2, v3, v4, v5, v6] ∧ Same H H2 ∧ H2 g = some (.lst ys) ∧ H2 q = some (.lst ps) ∧ ps.length ≤ i ∧ ∀ x ∈ ps, ∃ (t : Addr) (a b c : Int), x = .ref t ∧ H2 t = some (.tup [.int a, .int b, .int c]))
      ⟨_, _, _, _, _, [], rfl, s1, upd_same, by rw [upd_ne hqg, upd_same], Nat.le_refl _, fun _ h => (nomatch h)⟩ (fun i σ H2 _ ⟨_, _, _, _, _, _, _, _, e, _⟩ => SqL.of e) ?_ ?_
    · rintro i y σ H2 hy ⟨v2, v3, v4, v5, v6, ps, rfl, s2, eg, eq, hpi, hps⟩
      have hym : y ∈ xs := hperm.mem_iff.mp (List.mem_of_getElem? hy)
      obtain ⟨t, a, b, rfl, et⟩ := hx y hym
      have hi900 : i < ys.length := (List.getElem?_eq_some_iff.mp hy).1
      have hyl := hperm.length_eq
      refine ⟨t, _, rfl, SqT.of (s2 _ _ et), rfl, _, _, rfl, _, _, rfl, rfl, ?_⟩
      have fin : ∀ (u4 u5 u6 : Option V), tDrop (tBM K "list" rAppend (tVar 1) (tCons (tTup (tCons (tVar 2) (tCons (tVar 3) (tCons (tC (V.int 1)) tNil)))) tNil)) { nx := fun σ H2 => ∃ (v2 v3 v4 v5 v6 : Option V) (ps : List V), σ = [some (.ref p), some (.ref q), v2, v3, v4, v5, v6] ∧ Same H H2 ∧ H2 g = some (.lst ys) ∧ H2 q = some (.lst ps) ∧ ps.length ≤ i + 1 ∧ ∀ x ∈ ps, ∃ (t : Addr) (a b c : Int), x = .ref t ∧ H2 t = some (.tup [.int a, .int b, .int c]), rt := Q } [some (.ref p), some (.ref q), some (.int a), some (.int b), u4, u5, u6] H2 := fun u4 u5 u6 => by
        refine ⟨_, rfl, .inl ⟨rfl, _, SqL.of eq⟩, _, rfl, _, rfl, (by show 3 ≤ sizeLine; decide), fun u hu => ?_⟩
        have hqu : q ≠ u := ne_of_none eq hu
        have hgu : g ≠ u := ne_of_none eg hu
        refine ⟨q, _, _, rfl, rfl, by rw [upd_ne hqu]; exact eq, small1000 (by omega), ?_⟩
        refine ⟨_, _, _, _, _, ps ++ [.ref u], rfl, fun b' o e => ?_, ?_, upd_same, by rw [List.length_append]; simp only [List.length_cons, List.length_nil]; omega, fun x hx' => ?_⟩
        · rw [upd_ne (ne_of_none e hq), upd_ne (ne_of_none (s2 _ _ e) hu)]; exact s2 b' o e
        · rw [upd_ne (Ne.symm hqg), upd_ne hgu]; exact eg
        · rcases List.mem_append.mp hx' with z | z
          · obtain ⟨t', a', b', c', rfl, e⟩ := hps x z
            refine ⟨t', a', b', c', rfl, ?_⟩
            rw [upd_ne (ne_of e eq (by intro z; cases z)), upd_ne (ne_of_none e hu)]; exact e
          · have : x = .ref u := by simpa using z
            subst this
            exact ⟨u, a, b, 1, rfl, by rw [upd_ne (Ne.symm hqu), upd_same]⟩
      refine ⟨_, rfl, !ps.isEmpty, .inl ⟨_, SqL.of eq, rfl⟩, ?_⟩
      rcases List.eq_nil_or_concat ps with rfl | ⟨ps', z, rfl⟩
      · exact iteF (fin _ _ _)
      · rw [List.concat_eq_append] at eq hpi hps ⊢
        have ee : (!(ps' ++ [z]).isEmpty) = true := by simp
        rw [ee]
        refine iteT ?_
        obtain ⟨t', a', b', c', rfl, e'⟩ := hps z (by simp)
        refine ⟨_, rfl, _, rfl, q, _, _, _, rfl, rfl, SqL.of eq, atI_last _ _, ?_⟩
        refine ⟨t', _, rfl, SqT.of e', rfl, _, _, rfl, _, _, rfl, _, _, rfl, rfl, ?_⟩
        refine ⟨_, rfl, _, rfl, _, _, rfl, rfl, _, rfl, rfl, _, rfl, ?_⟩
        by_cases c1 : V.int (a' + c') = V.int a
        · rw [decide_eq_true c1]
          refine iteT ?_
          refine ⟨_, rfl, _, rfl, _, _, rfl, rfl, _, rfl, rfl, _, rfl, ?_⟩
          by_cases c2 : V.int (b' + c') = V.int b
          · rw [decide_eq_true c2]
            refine iteT ?_
            refine ⟨_, rfl, _, rfl, _, rfl, _, _, rfl, rfl, (by show 3 ≤ sizeLine; decide), fun u hu => ?_⟩
            have hqu : q ≠ u := ne_of_none eq hu
            have hgu : g ≠ u := ne_of_none eg hu
            refine ⟨_, rfl, _, rfl, q, _, _, ps'.length, rfl, rfl, by rw [upd_ne hqu]; exact eq, ?_, ?_⟩
            · unfold ixN
              rw [List.length_append]
              simp only [List.length_cons, List.length_nil]
              rw [if_neg (by omega), if_pos (by omega)]
              congr 1
              omega
            · refine ⟨_, _, _, _, _, _, rfl, fun b' o e => ?_, ?_, upd_same, by rw [List.length_set]; omega, fun x hx' => ?_⟩
              · rw [upd_ne (ne_of_none e hq), upd_ne (ne_of_none (s2 _ _ e) hu)]; exact s2 b' o e
              · rw [upd_ne (Ne.symm hqg), upd_ne hgu]; exact eg
              · rcases List.mem_or_eq_of_mem_set hx' with z | z
                · obtain ⟨t2, a2, b2, c3, rfl, e⟩ := hps x z
                  refine ⟨t2, a2, b2, c3, rfl, ?_⟩
                  rw [upd_ne (ne_of e eq (by intro z; cases z)), upd_ne (ne_of_none e hu)]; exact e
                · subst z
                  exact ⟨u, _, _, _, rfl, by rw [upd_ne (Ne.symm hqu), upd_same]⟩
          · rw [decide_eq_false c2]
            exact iteF (fin _ _ _)
        · rw [decide_eq_false c1]
          exact iteF (fin _ _ _)
    · rintro σ H2 ⟨v2, v3, v4, v5, v6, ps, rfl, s2, eg, eq, hpi, hps⟩
      exact ⟨_, rfl, kq _ q ⟨_, eq⟩ s2⟩
end
end K96
set_option Elab.async false
set_option linter.all false
set_option maxRecDepth 100000
set_option maxHeartbeats 1000000
namespace K96
open PySem PySem.Spec PyProof.Rows L2
section
variable {w : World} {K : PySem.W.Frag} {mg : Str → Option Value} {base : Heap}
/-! ### relocation_map -/
def PairTups (H : Hp) (xs : List V) : Prop := ∀ x ∈ xs, ∃ (t : Addr) (i j : Int), x = .ref t ∧ H t = some (.tup [.int i, .int j])
theorem PairTups.same {H H' : Hp} {xs : List V} (a : PairTups H xs) (k : Same H H') : PairTups H' xs := fun x hx => by
  obtain ⟨t, i, j, rfl, e⟩ := a x hx
  exact ⟨t, i, j, rfl, k _ _ e⟩
def spRelMap : Sp := fun vs H Q _ => ∃ (size : Int) (p sp : Addr) (l : List PI) (ss : List Int), vs = [.int size, .ref p, .ref sp] ∧ PairsAt H p l ∧ H sp = some (.lst (ss.map V.int)) ∧ ss.length = l.length ∧ l.length ≤ 25 ∧ (∀ x ∈ l, 0 ≤ x.2 ∧ x.2 ≤ 30) ∧
  ∀ (H' : Hp) (q : Addr), AnyList H' q → Same H H' → Q (.ref q) H'
theorem sc_relMap : FnScope ["size", "layout", "starts", "pairs", "start", "old", "length", "step"] ["size", "layout", "starts"] (defScope s_relocation_map) := ⟨rfl, rfl, rfl, by decide +kernel, rfl, by decide +kernel, by decide +kernel⟩
theorem ok_relMap (T : Top K mg) : Ok Pg w K mg base CX0 2 (He.ga K "relocation_map") ["size", "layout", "starts"] spRelMap := by
  obtain ⟨fdC, GC, bC, kC⟩ := ok_canon (w := w) (base := base) T
  refine ok0 T.d_relocation_map sc_relMap (fun vs H Q E h => ?_) (fun _ _ _ _ _ _ us hl => match us, hl with | [_, _, _], _ => rfl) (fun cdv A outer s H vs Q E hr h => ?_)
  · obtain ⟨size, p, sp, l, ss, rfl, _⟩ := h
    rfl
  · obtain ⟨size, p, sp, l, ss, rfl, ⟨ts, f1, f2, f3⟩, hsp, hsl, hll, hx2, kq⟩ := h
    refine ⟨_, pss_cons (ps_set (i := 3) sc_relMap.nd rfl (.inl rfl) (pe_lst pa_nil))
      (pss_cons (ps_for PassesOwn.never rfl (pi_zip (by rfl) T.fr_zip (pa_cons (pv 2) (pa_cons (pv 1) pa_nil))) (pg_tup (by rfl) (pgs_cons (pg_name (i := 4) sc_relMap.nd rfl (.inr rfl)) (pgs_cons (pg_tup (by rfl) (pgs_cons (pg_name (i := 5) sc_relMap.nd rfl (.inr rfl)) (pgs_cons (pg_name (i := 6) sc_relMap.nd rfl (.inl rfl)) pgs_nil))) pgs_nil)))
        (pss_one (ps_set (i := 3) sc_relMap.nd rfl (.inl rfl) (pe_op op_cat (pv 3)
          (pe_lc (own := [("step", 7)]) (g := gName 7) (tt := tYes) rfl sc_relMap.nd (pi_range1 (by rfl) T.fr_range (pa_cons (pv 6) pa_nil)) (blkOk_by (own := [("step", 7)]) (N := ["size", "layout", "starts", "pairs", "start", "old", "length", "step"]) (sc := defScope s_relocation_map) (by decide +kernel))
            (fun _ _ _ _ _ => pg_name (i := 7) sc_relMap.nd rfl (Or.inl rfl)) (fun _ _ _ _ _ => pts_nil) (fun _ _ _ _ _ => pe_tup (pa_cons (pe_op op_add (pv 5) (pv 7)) (pa_cons (pe_op op_add (pv 4) (pv 7)) pa_nil))))))))
      (pss_one (ps_ret (pe_call GC hr (by rfl) T.mg_canonical kC bC .nil pass0 (pa_cons (pv 3) pa_nil))))), ?_⟩
    refine ⟨Nat.zero_le _, fun q hq => ?_⟩
    have s0 : Same H (upd H q (.lst [])) := same_upd hq
    refine ⟨_, rfl, _, rfl, sp, p, _, _, rfl, SqL.of (s0 _ _ hsp), SqL.of (s0 _ _ f1), ?_⟩
    refine RZ.for_zipL (K := K) (a := sp) (b := p) (xs := ss.map V.int) (ys := ts.map V.ref) (by rw [List.length_map, List.length_map, hsl, f2])
      (fun i σ H2 => ∃ (q2 : Addr) (xs : List V) (v4 v5 v6 v7 : Option V), σ = [some (.int size), some (.ref p), some (.ref sp), some (.ref q2), v4, v5, v6, v7] ∧ Same H H2 ∧ H2 q2 = some (.lst xs) ∧ PairTups H2 xs ∧ xs.length ≤ i * 30)
      ⟨q, [], none, none, none, none, rfl, s0, upd_same, fun _ h => (nomatch h), Nat.zero_le _⟩ (fun i σ H2 ⟨_, _, _, _, _, _, _, s2, _⟩ => ⟨SqL.of (s2 _ _ hsp), SqL.of (s2 _ _ f1)⟩) ?_ ?_
    · rintro i x y T' σ H2 hx hy ⟨q2, xs, v4, v5, v6, v7, rfl, s2, e2, hP, hi⟩ hT
      obtain ⟨t, z, rfl, ht, hz, htup⟩ := PairsAt.item (p := p) f2 f3 hy
      have hzm := hx2 z (List.mem_of_getElem? hz)
      have hi25 : i < 25 := by
        have := (List.getElem?_eq_some_iff.mp hz).1
        omega
      rw [List.getElem?_map] at hx
      cases ex : ss[i]? with
      | none => rw [ex] at hx; cases hx
      | some st =>
        rw [ex] at hx
        have : x = .int st := (Option.some.inj hx).symm
        subst this
        have s3 : Same H2 (upd H2 T' (.tup [.int st, .ref t])) := same_upd hT
        have s23 := s2.trans s3
        refine ⟨T', _, rfl, SqT.of upd_same, rfl, _, _, rfl, _, _, rfl, ⟨t, _, rfl, SqT.of (s23 _ _ htup), rfl, _, _, rfl, _, _, rfl, rfl, rfl, ?_⟩⟩
        refine ⟨_, rfl, _, rfl, z.2, rfl, by omega, by omega, fun D hD => ?_⟩
        refine lc_range (lo := 0) (n := z.2.toNat) (fun j H3 => Same (upd H2 T' (.tup [.int st, .ref t])) H3 ∧ ∃ ys, H3 D = some (.lst ys) ∧ PairTups H3 ys ∧ ys.length ≤ j) ⟨same_upd hD, [], upd_same, fun _ h => (nomatch h), Nat.le_refl _⟩ ?_ ?_
        · rintro j H3 hj ⟨s4, ys, e3, hys, hyl⟩
          refine ⟨rfl, tYes_if ?_⟩
          refine ⟨_, rfl, _, rfl, _, _, rfl, rfl, _, rfl, _, rfl, _, _, rfl, rfl, (by show 2 ≤ sizeLine; decide), fun u hu => ?_⟩
          have hDu : D ≠ u := ne_of_none e3 hu
          refine ⟨ys, by rw [upd_ne hDu]; exact e3, small1000 (by omega), fun b o e => ?_, ys ++ [.ref u], upd_same, fun v hv => ?_, by rw [List.length_append]; simp only [List.length_cons, List.length_nil]; omega⟩
          · rw [upd_ne (ne_of_none e hD), upd_ne (ne_of_none (s4 _ _ e) hu)]; exact s4 b o e
          · rcases List.mem_append.mp hv with hv | hv
            · obtain ⟨t2, a2, b2, rfl, e⟩ := hys v hv
              refine ⟨t2, a2, b2, rfl, ?_⟩
              rw [upd_ne (ne_of e e3 (by intro z; cases z)), upd_ne (ne_of_none e hu)]; exact e
            · have : v = .ref u := by simpa using hv
              subst this
              exact ⟨u, _, _, rfl, by rw [upd_ne (Ne.symm hDu), upd_same]⟩
        · rintro H3 ⟨s4, ys, e3, hys, hyl⟩
          have s5 := s3.trans s4
          refine ⟨q2, D, _, _, rfl, rfl, s5 _ _ e2, e3, Nat.le_of_lt (small1000 (by omega)), fun u hu => ?_⟩
          refine ⟨u, xs ++ ys, _, _, _, _, rfl, (s2.trans s5).trans (same_upd hu), upd_same, fun v hv => ?_, by rw [List.length_append]; omega⟩
          rcases List.mem_append.mp hv with hv | hv
          · exact (hP.same (s5.trans (same_upd hu))) v hv
          · exact (PairTups.same hys (same_upd hu)) v hv
    · rintro σ H2 ⟨q2, xs, v4, v5, v6, v7, rfl, s2, e2, hP, hi⟩
      rw [List.length_map] at hi
      exact ⟨_, rfl, q2, xs, rfl, e2, hP, by omega, fun H3 q3 hA s3 => kq H3 q3 hA (s2.trans s3)⟩
end
end K96
set_option Elab.async false
set_option linter.all false
set_option maxRecDepth 100000
set_option maxHeartbeats 1000000
namespace K96
open PySem PySem.Spec PyProof.Rows L2
section
variable {w : World} {K : PySem.W.Frag} {mg : Str → Option Value} {base : Heap}
/-! ### PolicyManager -/
def spPMInit (K : PySem.W.Frag) : Sp := fun vs H Q _ => ∃ (p dx : Addr) (z : Int) (s : Str), vs = [.ref p, .int z, .str s] ∧ H p = some (.ins (He.ga K "PolicyManager") dx []) ∧
  Q .non (upd H p (.ins (He.ga K "PolicyManager") dx (pmF z s)))
theorem sc_PMInit : FnScope ["self", "size", "policy"] ["self", "size", "policy"] (defScope s_PolicyManager___init__) := ⟨rfl, rfl, rfl, by decide +kernel, rfl, by decide +kernel, by decide +kernel⟩
theorem ok_PMInit (T : Top K mg) : Ok Pg w K mg base CX0 1 (He.ma K (He.ga K "PolicyManager") "__init__") ["self", "size", "policy"] (spPMInit K) := by
  refine ok0 T.d_PolicyManager___init__ sc_PMInit (fun vs H Q E h => ?_) (fun _ _ _ _ _ _ us hl => match us, hl with | [_, _, _], _ => rfl) (fun cdv A outer s H vs Q E hr h => ?_)
  · obtain ⟨p, dx, z, s, rfl, _⟩ := h
    rfl
  · obtain ⟨p, dx, z, s, rfl, hp, k⟩ := h
    refine ⟨_, pss_cons (ps_fld (pv 0) (pv 1) rfl) (pss_cons (ps_fld (pv 0) (pv 2) rfl) (pss_one (ps_fld (pv 0) pe_bl rfl))), ?_⟩
    refine ⟨_, rfl, _, rfl, p, _, dx, _, rfl, hp, T.cl_PolicyManager, T.na_PolicyManager_size, (by show 0 < 1000; decide), ?_⟩
    refine ⟨_, rfl, _, rfl, p, _, dx, _, rfl, upd_same, T.cl_PolicyManager, T.na_PolicyManager_policy, (by show 1 < 1000; decide), ?_⟩
    refine ⟨_, rfl, p, _, dx, _, rfl, upd_same, T.cl_PolicyManager, T.na_PolicyManager_strategy, (by show 2 < 1000; decide), ?_⟩
    rw [upd_upd, upd_upd]
    exact k
theorem log_small {n : Int} (h0 : 0 ≤ n) (h1 : n ≤ 100000) : n.natAbs.log2 < 1920 := by
  rcases Nat.eq_zero_or_pos n.natAbs with z | z
  · rw [z]; decide
  · exact Nat.lt_of_lt_of_le ((Nat.log2_lt (Nat.ne_of_gt z)).mpr (by omega : n.natAbs < 2 ^ 17)) (by decide)
def spPMPlace (K : PySem.W.Frag) : Sp := fun vs H Q E => ∃ (m p dx : Addr) (z : Int) (pol : Str) (l : List PI) (n cur : Int), vs = [.ref m, .ref p, .int n, .int cur] ∧ H m = some (.ins (He.ga K "PolicyManager") dx (pmF z pol)) ∧ PairsAt H p l ∧ LC z 0 l ∧ 0 ≤ n ∧ n ≤ 1000 ∧ z ≤ 25 ∧ l.length ≤ 25 ∧
  (∀ s H' (t sp : Addr), FreeAt z l s n → Same H H' → H' t = some (.tup [.ref sp, .int s]) → H' sp = some (.lst ((l.map (·.1)).map V.int)) → Q (.ref t) H') ∧ MayRaise K [] H E
theorem sc_PMPlace : FnScope ["self", "layout", "length", "cursor", "start", "block"] ["self", "layout", "length", "cursor"] (defScope s_PolicyManager_place) := ⟨rfl, rfl, rfl, by decide +kernel, rfl, by decide +kernel, by decide +kernel⟩
theorem ok_PMPlace (T : Top K mg) : Ok Pg w K mg base (L2.CX Pg w) 5 (He.ma K (He.ga K "PolicyManager") "place") ["self", "layout", "length", "cursor"] (spPMPlace K) := by
  obtain ⟨fdE, GE, bE⟩ := ok_err_OutOfMemory (w := w) (base := base) T
  obtain ⟨_, _, _, _, _, _, _, _, _, _, SE, _, iC, tI, _⟩ := T.x_OutOfMemory
  obtain ⟨fdP, GP, bP, kP⟩ := ok_place (w := w) (base := base) T
  refine okX T.d_PolicyManager_place sc_PMPlace (fun vs H Q E h => ?_) (fun _ _ _ _ _ _ us hl => match us, hl with | [_, _, _, _], _ => rfl) (fun cdv A outer s H vs Q E hr h => ?_)
  · obtain ⟨m, p, dx, z, pol, l, n, cur, rfl, _⟩ := h
    rfl
  · obtain ⟨m, p, dx, z, pol, l, n, cur, rfl, hm, hP, hL, hn0, hn1, hz, hll, kq, ke⟩ := h
    refine ⟨_, pss_cons (ps_set (i := 4) sc_PMPlace.nd rfl (.inl rfl) (pe_call GP (hr.mono (by decide)) (by rfl) T.mg_place_block kP bP .nil pass0 (pa_cons (pe_fld (pv 0) rfl) (pa_cons (pv 1) (pa_cons (pv 2) (pa_cons (pe_fld (pv 0) rfl) (pa_cons (pv 3) pa_nil)))))))
      (pss_cons (ps_if (pt_cmp (pc_isN (pv 4))) (pss_one (ps_raise rfl (takes_of rfl rfl rfl rfl) (pmk_oex SE.cls iC tI GE (hr.mono (by decide)) bE .nil pass0 (by rfl) T.mg_OutOfMemory (pa_cons (pv 2) pa_nil)))) pss_nil)
      (pss_one (ps_ret (pe_tup (pa_cons (pe_lc (own := [("block", 5)]) (g := gName 5) (tt := tYes) rfl sc_PMPlace.nd (pi_list (pv 1)) (blkOk_by (own := [("block", 5)]) (N := ["self", "layout", "length", "cursor", "start", "block"]) (sc := defScope s_PolicyManager_place) (by decide +kernel))
            (fun _ _ _ _ _ => pg_name (i := 5) sc_PMPlace.nd rfl (Or.inl rfl)) (fun _ _ _ _ _ => pts_nil) (fun _ _ _ _ _ => pe_ix (r := rIxT K) ix_tup (pv 5) pe_int (fun _ _ => rfl))) (pa_cons (pv 4) pa_nil)))))), ?_⟩
    refine ⟨_, rfl, m, _, dx, _, _, rfl, hm, T.cl_PolicyManager, T.na_PolicyManager_size, pmF_size, _, rfl, _, rfl, _, rfl, m, _, dx, _, _, rfl, hm, T.cl_PolicyManager, T.na_PolicyManager_policy, pmF_policy, _, rfl, ?_⟩
    refine ⟨z, p, l, n, pol, cur, rfl, hP, hL, hn0, hn1, hz, hll, fun H1 s1 => ?_, fun st H1 hF s1 => ?_⟩
    · refine ⟨_, rfl, _, rfl, iteT ?_⟩
      refine ⟨_, rfl, by simp, fun a ha => ⟨a, n, rfl, log_small hn0 (by omega), upd_same, fun d hd hne => ⟨rfl, d, [("length", .int n)], upd_same, ?_, ?_, ?_⟩⟩⟩
      · rw [upd_ne hne, upd_same]
      · rw [upd_ne hne] at hd; exact hd
      · have hd0 : H1 d = none := by rw [upd_ne hne] at hd; exact hd
        obtain ⟨z1, z2⟩ := err1_end (C := He.ga K "OutOfMemory") (f := "length") (i := n) ha hd0 hne
        exact ke _ _ _ ⟨d, _, rfl, z2, .inr (.inr (.inr ⟨rfl, _, rfl⟩))⟩ fun b o e _ => z1 b o (s1 b o e)
    · refine ⟨_, rfl, _, rfl, iteF ?_⟩
      obtain ⟨ts, f1, f2, f3⟩ := hP
      refine ⟨_, rfl, p, rfl, ⟨_, SqL.of (s1 _ _ f1)⟩, fun D hD => ?_⟩
      refine lc_list (K := K) (a := p) (xs := ts.map V.ref) (fun i H2 => Same H1 H2 ∧ H2 D = some (.lst (((l.map (·.1)).take i).map V.int))) ⟨same_upd hD, upd_same⟩ (fun i H2 _ ⟨s2, _⟩ => SqL.of (s2 _ _ (s1 _ _ f1))) ?_ ?_
      · rintro i y H2 hy ⟨s2, e2⟩
        obtain ⟨t, x, rfl, ht, hx, htup⟩ := PairsAt.item (p := p) f2 f3 hy
        have hi : i < 25 := by
          have := (List.getElem?_eq_some_iff.mp hx).1
          omega
        refine ⟨rfl, tYes_if ?_⟩
        refine ⟨_, rfl, t, _, _, _, rfl, rfl, SqT.of (s2 _ _ (s1 _ _ htup)), atI_nat (j := 0) rfl, _, e2, ?_, fun b o e => by rw [upd_ne (ne_of_none e hD)]; exact s2 b o e, ?_⟩
        · rw [List.length_map]; exact small1000 (by rw [List.length_take]; omega)
        · have hx' : (l.map (·.1))[i]? = some x.1 := by rw [List.getElem?_map, hx]; rfl
          rw [upd_same, take_succ_of hx', List.map_append]; rfl
      · rintro H2 ⟨s2, e2⟩
        rw [List.length_map, f2, ← List.length_map (f := fun x : PI => x.1), List.take_length] at e2
        refine ⟨_, rfl, (by show 2 ≤ sizeLine; decide), fun t ht => ?_⟩
        exact kq st _ t D hF ((s1.trans s2).trans (same_upd ht)) upd_same (by rw [upd_ne (ne_of_none e2 ht)]; exact e2)
/-! ### State -/
def spStInit (K : PySem.W.Frag) : Sp := fun vs H Q _ => ∃ (p dx so sd : Addr) (c : Int), vs = [.ref p, .ref so, .ref sd, .int c] ∧ H p = some (.ins (He.ga K "State") dx []) ∧
  Q .non (upd H p (.ins (He.ga K "State") dx (stF so sd c)))
theorem sc_StInit : FnScope ["self", "store", "starts", "cursor"] ["self", "store", "starts", "cursor"] (defScope s_State___init__) := ⟨rfl, rfl, rfl, by decide +kernel, rfl, by decide +kernel, by decide +kernel⟩
theorem ok_StInit (T : Top K mg) : Ok Pg w K mg base CX0 1 (He.ma K (He.ga K "State") "__init__") ["self", "store", "starts", "cursor"] (spStInit K) := by
  refine ok0 T.d_State___init__ sc_StInit (fun vs H Q E h => ?_) (fun _ _ _ _ _ _ us hl => match us, hl with | [_, _, _, _], _ => rfl) (fun cdv A outer s H vs Q E hr h => ?_)
  · obtain ⟨p, dx, so, sd, c, rfl, _⟩ := h
    rfl
  · obtain ⟨p, dx, so, sd, c, rfl, hp, k⟩ := h
    refine ⟨_, pss_cons (ps_fld (pv 0) (pv 1) rfl) (pss_cons (ps_fld (pv 0) (pv 2) rfl) (pss_one (ps_fld (pv 0) (pv 3) rfl))), ?_⟩
    refine ⟨_, rfl, _, rfl, p, _, dx, _, rfl, hp, T.cl_State, T.na_State_store, (by show 0 < 1000; decide), ?_⟩
    refine ⟨_, rfl, _, rfl, p, _, dx, _, rfl, upd_same, T.cl_State, T.na_State_starts, (by show 1 < 1000; decide), ?_⟩
    refine ⟨_, rfl, _, rfl, p, _, dx, _, rfl, upd_same, T.cl_State, T.na_State_cursor, (by show 2 < 1000; decide), ?_⟩
    rw [upd_upd, upd_upd]
    exact k
def spStCopy (K : PySem.W.Frag) : Sp := fun vs H Q _ => ∃ (r : Rc), vs = [.ref r.st] ∧ StAt K H r ∧
  ∀ (H' : Hp) (r' : Rc), StAt K H' r' → r'.toSc.blks = r.toSc.blks → r'.roots = r.roots → r'.next = r.next → r'.cur = r.cur → Same H H' → (∀ b ∈ r'.fp, H b = none) → Q (.ref r'.st) H'
theorem sc_StCopy : FnScope ["self"] ["self"] (defScope s_State_copy) := ⟨rfl, rfl, rfl, by decide +kernel, rfl, by decide +kernel, by decide +kernel⟩
theorem ok_StCopy (T : Top K mg) : Ok Pg w K mg base CX0 4 (He.ma K (He.ga K "State") "copy") ["self"] (spStCopy K) := by
  obtain ⟨fdI, GI, bI, _⟩ := ok_StInit (w := w) (base := base) T
  obtain ⟨fdC, GC, bC, _⟩ := ok_scopy (w := w) (base := base) T
  refine ok0 T.d_State_copy sc_StCopy (fun vs H Q E h => ?_) (fun _ _ _ _ _ _ us hl => match us, hl with | [_], _ => rfl) (fun cdv A outer s H vs Q E hr h => ?_)
  · obtain ⟨r, rfl, _⟩ := h
    rfl
  · obtain ⟨r, rfl, S, k⟩ := h
    obtain ⟨dx, h1⟩ := S.ins
    obtain ⟨d2, h2⟩ := S.store.ins
    refine ⟨_, pss_one (ps_ret (pe_make T.mk_State GI (hr.mono (by decide)) (by rfl) T.mg_State bI .nil pass0 (pa_cons (pe_meth0 (pe_fld (pv 0) rfl) T.cl_Store T.me_Store_copy GC hr bC .nil pass0) (pa_cons (pe_callTy call_dictD (by rfl) T.fr_dict (by decide +kernel) (pa_cons (pe_fld (pv 0) rfl) pa_nil)) (pa_cons (pe_fld (pv 0) rfl) pa_nil))))), ?_⟩
    refine ⟨_, rfl, r.st, _, dx, _, _, rfl, h1, T.cl_State, T.na_State_store, stF_store, r.so, d2, _, rfl, h2, srF_no_copy, r.toSc, rfl, S.store, fun H1 r1 S1 b1 b2 b3 s1 fr1 => ?_⟩
    refine ⟨_, rfl, r.st, _, dx, _, _, rfl, s1 _ _ h1, T.cl_State, T.na_State_starts, stF_starts, r.sd, _, rfl, .inl (s1 _ _ S.sts), fun sd' hsd => ?_⟩
    have s2 := s1.trans (same_upd (o := .dK (sD r.toSc.blks)) hsd)
    refine ⟨_, rfl, r.st, _, dx, _, _, rfl, s2 _ _ h1, T.cl_State, T.na_State_cursor, stF_cursor, ?_⟩
    intro x dx' nx ndx nex
    refine ⟨x, dx', r1.so, sd', r.cur, rfl, upd_same, ⟨rfl, ?_⟩⟩
    rw [upd_upd]
    have k1 : Same H1 (upd (upd (upd H1 sd' (.dK (sD r.toSc.blks))) dx' (.own x)) x (.ins (He.ga K "State") dx' (stF r1.so sd' r.cur))) := (same_upd hsd).trans fun b o e => by
      rw [upd_ne (ne_of_none e nx), upd_ne (ne_of_none e ndx)]; exact e
    have nx1 : H1 x = none := (same_upd hsd).free nx
    have nsx : sd' ≠ x := ne_of_none upd_same nx
    have nsd : sd' ≠ dx' := ne_of_none upd_same ndx
    have hsd1 : upd (upd (upd H1 sd' (.dK (sD r.toSc.blks))) dx' (.own x)) x (.ins (He.ga K "State") dx' (stF r1.so sd' r.cur)) sd' = some (.dK (sD r.toSc.blks)) := by
      rw [upd_ne nsx, upd_ne nsd, upd_same]
    refine k _ ⟨r1, x, sd', r.cur⟩ ⟨S1.same k1, ⟨dx', upd_same⟩, by show _ = some (HO.dK (sD r1.blks)); rw [b1]; exact hsd1, ?_⟩ b1 b2 b3 rfl (s1.trans k1) fun b hb => ?_
    · show (x :: sd' :: r1.sfp).Nodup
      have old : ∀ b ∈ r1.sfp, b ≠ x ∧ b ≠ sd' := fun b hb => by
        obtain ⟨o, e⟩ := S1.some_ b hb
        exact ⟨ne_of_none e nx1, ne_of_none e hsd⟩
      refine List.nodup_cons.mpr ⟨fun z => ?_, List.nodup_cons.mpr ⟨fun z => (old _ z).2 rfl, S1.nd⟩⟩
      rcases List.mem_cons.mp z with z | z
      · exact nsx z.symm
      · exact (old _ z).1 rfl
    · rcases List.mem_cons.mp hb with rfl | hb
      · exact s1.free nx1
      rcases List.mem_cons.mp hb with rfl | hb
      · exact s1.free hsd
      · exact fr1 b hb
end
end K96
set_option Elab.async false
set_option linter.all false
set_option maxRecDepth 100000
set_option maxHeartbeats 1000000
namespace K96
open PySem PySem.Spec PyProof.Rows L2
/-! ### sorted pairs -/
def kOf (H : Hp) (x : V) : Int × Int := match x with
  | .ref t => (match H t with
    | some (.tup [.int a, .int b]) => (a, b)
    | _ => (0, 0))
  | _ => (0, 0)
theorem kOf_ref {H : Hp} {t : Addr} {a b : Int} (e : H t = some (.tup [.int a, .int b])) : kOf H (.ref t) = (a, b) := by
  show (match H t with
    | some (.tup [.int a, .int b]) => (a, b)
    | _ => (0, 0)) = _
  rw [e]
theorem get_map_eq {α β : Type} {f : α → β} {l : List α} {m : List β} (h : l.length = m.length) (h2 : ∀ (i : Nat) a b, l[i]? = some a → m[i]? = some b → f a = b) : l.map f = m := by
  refine List.ext_getElem (by rw [List.length_map]; exact h) fun i h1 h3 => ?_
  rw [List.getElem_map]
  have hl : i < l.length := by rw [List.length_map] at h1; exact h1
  exact h2 i _ _ (List.getElem?_eq_getElem hl) (List.getElem?_eq_getElem h3)
theorem sorted_at {H : Hp} {ts : List Addr} {l m : List PI} {ys : List V} (e2 : ts.length = l.length) (e3 : ∀ (i : Nat) (t : Addr) (x : Int × Int), ts[i]? = some t → l[i]? = some x → H t = some (.tup [.int x.1, .int x.2]))
    (h1 : SrtO.Srtd (ltP (kOf H)) ys) (h2 : SrtO.Stb (ltP (kOf H)) ys (ts.map V.ref)) (hp : m.Perm l) (hm : m.Pairwise fun x y => x.1 < y.1) :
    ∃ us : List Addr, ys = us.map V.ref ∧ us.length = m.length ∧ ∀ (i : Nat) (t : Addr) (x : Int × Int), us[i]? = some t → m[i]? = some x → H t = some (.tup [.int x.1, .int x.2]) := by
  have ex : ∀ y ∈ ys, ∃ (t : Addr) (x : PI), y = .ref t ∧ H t = some (.tup [.int x.1, .int x.2]) := fun y hy => by
    have := h2.perm.mem_iff.mp hy
    obtain ⟨t, ht, rfl⟩ := List.mem_map.mp this
    obtain ⟨i, hi, ei⟩ := List.getElem_of_mem ht
    exact ⟨t, l[i], rfl, e3 i t _ (by rw [List.getElem?_eq_getElem hi, ei]) (List.getElem?_eq_getElem (by omega))⟩
  have ek : (ts.map V.ref).map (kOf H) = l := by
    rw [List.map_map]
    refine get_map_eq e2 fun i t x h3 h4 => ?_
    exact kOf_ref (e3 i t x h3 h4)
  have em : ys.map (kOf H) = m := by
    have p1 : (ys.map (kOf H)).Perm m := by
      have := h2.perm.map (kOf H)
      rw [ek] at this
      exact this.trans hp.symm
    refine p1.eq_of_pairwise (le := fun x y => SrtO.lexB y x = false) (fun a b _ _ h3 h4 => ?_) (List.pairwise_map.mpr (h1.imp fun h => h)) (hm.imp fun {x y} h => ?_)
    · have c := SrtO.lexB_no.mp h3
      have d := SrtO.lexB_no.mp h4
      refine Prod.ext ?_ ?_ <;> omega
    · refine SrtO.lexB_no.mpr ?_
      omega
  have ey : ∃ us : List Addr, ys = us.map V.ref := by
    clear h1 h2 em
    induction ys with
    | nil => exact ⟨[], rfl⟩
    | cons y r ih =>
      obtain ⟨t, x, e, _⟩ := ex y (List.mem_cons_self ..)
      obtain ⟨us, eu⟩ := ih fun z hz => ex z (List.mem_cons_of_mem _ hz)
      exact ⟨t :: us, by rw [e, eu]; rfl⟩
  obtain ⟨us, rfl⟩ := ey
  have hl : us.length = m.length := by rw [← em, List.length_map, List.length_map]
  refine ⟨us, rfl, hl, fun i t x h3 h4 => ?_⟩
  obtain ⟨t', x', e, et⟩ := ex (.ref t) (List.mem_map_of_mem (List.mem_of_getElem? h3))
  cases e
  have : m[i]? = some (kOf H (.ref t)) := by
    rw [← em, List.getElem?_map, List.getElem?_map, h3]; rfl
  rw [this, kOf_ref et] at h4
  have := Option.some.inj h4
  rw [← this]; exact et
section
variable {w : World} {K : PySem.W.Frag} {mg : Str → Option Value} {base : Heap}
theorem StoreAt.len {H : Hp} {r : Sc} (S : StoreAt K H r) : r.blks.length ≤ 64 := by
  unfold Sc.blks; rw [List.length_map]; exact S.small
theorem lay_len {α : Type} (l : List (Blk α)) : (lay l).length = l.length := by unfold lay; rw [List.length_map]
theorem lay_at {α : Type} {l : List (Blk α)} {i : Nat} {b : Blk α} (h : l[i]? = some b) : (lay l)[i]? = some (b.start, b.len) := by
  unfold lay; rw [List.getElem?_map, h]; rfl
theorem blks_at {r : Sc} {i : Nat} {p : Addr × Blk V} (h : r.bks[i]? = some p) : r.blks[i]? = some p.2 := by
  unfold Sc.blks; rw [List.getElem?_map, h]; rfl
def rLenS (K : PySem.W.Frag) : List V → Hp → VK → Prop := fun xs H Q => ∃ p ys, xs = [.ref p] ∧ (SqL K H p ys ∨ SqT K H p ys) ∧ Q (.int ys.length) H
/-! ### ManagedHeap.layout -/
def spMLayout (K : PySem.W.Frag) : Sp := fun vs H Q _ => ∃ (c : Hc) (bs : List (Blk V)) (size : Int), vs = [.ref c.h] ∧ HeapAt K H c ∧ bs.Perm c.rc.blks ∧ Chain size 0 bs ∧
  ∀ (H' : Hp) (q : Addr), PairsAt H' q (lay bs) → Same H H' → H q = none → Q (.ref q) H'
theorem sc_MLayout : FnScope ["self", "store", "number"] ["self"] (defScope s_ManagedHeap_layout) := ⟨rfl, rfl, rfl, by decide +kernel, rfl, by decide +kernel, by decide +kernel⟩
theorem ok_MLayout (T : Top K mg) : Ok Pg w K mg base CX0 1 (He.ma K (He.ga K "ManagedHeap") "layout") ["self"] (spMLayout K) := by
  refine ok0 T.d_ManagedHeap_layout sc_MLayout (fun vs H Q E h => ?_) (fun _ _ _ _ _ _ us hl => match us, hl with | [_], _ => rfl) (fun cdv A outer s H vs Q E hr h => ?_)
  · obtain ⟨c, bs, size, rfl, _⟩ := h
    rfl
  · obtain ⟨c, bs, size, rfl, P, hperm, hch, kq⟩ := h
    have hu := hu_of hr
    obtain ⟨dh, h1⟩ := P.ins
    obtain ⟨dt, h2⟩ := P.st.ins
    obtain ⟨ds, h3⟩ := P.st.store.ins
    have S := P.st.store
    refine ⟨_, pss_cons (ps_set (i := 1) sc_MLayout.nd rfl (.inr rfl) (pe_fld (pe_fld (pv 0) rfl) rfl))
      (pss_one (ps_ret (pe_callB cr_sortedPO (by rfl) T.fr_sorted (by decide +kernel) (pa_cons (pe_lock (pe_lc (own := [("number", 2)]) (g := gName 2) (tt := tYes) (te := tTup (tCons (tDGet (tFld K (tFld K (tVar 0) "state") "starts") (tVar 2)) (tCons (tCB (rLenS K) (tCons (tDGet (tFld K (tVar 1) "objects") (tVar 2)) tNil)) tNil))) rfl sc_MLayout.nd (pi_keys (pe_fld (pv 1) rfl)) (blkOk_by (own := [("number", 2)]) (N := ["self", "store", "number"]) (sc := defScope s_ManagedHeap_layout) (by decide +kernel))
            (fun _ _ _ _ _ => pg_name (i := 2) sc_MLayout.nd rfl (Or.inl rfl)) (fun _ _ _ _ _ => pts_nil) (fun _ _ _ _ _ => pe_tup (pa_cons (pe_dget hu (pe_fld (pe_fld (pv 0) rfl) rfl) (pv 2) (fun _ _ => rfl)) (pa_cons (pe_callB (r := rLenS K) call_len_seq (by rfl) T.fr_len PySem.boot_len (pa_cons (pe_dget hu (pe_fld (pv 1) rfl) (pv 2) (fun _ _ => rfl)) pa_nil)) pa_nil))))) pa_nil)))), ?_⟩
    have nst : c.rc.st ≠ c.rc.od := ne_of h2 S.objs (by intro z; cases z)
    have nh : c.h ≠ c.rc.od := ne_of h1 S.objs (by intro z; cases z)
    have nso : c.rc.so ≠ c.rc.od := ne_of h3 S.objs (by intro z; cases z)
    have nsd : c.rc.sd ≠ c.rc.od := fun z => by
      have := P.st.nd
      unfold Rc.fp Sc.sfp at this
      simp only [List.nodup_cons, List.mem_cons, not_or] at this
      exact this.2.1.2.1 z
    have nl : ∀ p ∈ c.rc.bks, p.1 ≠ c.rc.od := fun p hp => ne_of (S.lst p hp) S.objs (by intro z; cases z)
    refine ⟨_, rfl, c.h, _, dh, _, _, rfl, h1, T.cl_ManagedHeap, T.na_ManagedHeap_state, mhF_state, c.rc.st, _, dt, _, _, rfl, h2, T.cl_State, T.na_State_store, stF_store, ?_⟩
    refine ⟨c.rc.od, _, S.objs, True.intro, fun o => ?_⟩
    have hin : ∀ {b u}, b ≠ c.rc.od → H b = some u → upd H c.rc.od (.frz o (.dK (oD c.rc.bks))) b = some u := fun {b u} hb e => by rw [upd_ne hb]; exact e
    have un : ∀ {H'}, Same (upd H c.rc.od (.frz o (.dK (oD c.rc.bks)))) H' → Same H (upd H' c.rc.od (.dK (oD c.rc.bks))) := fun {H'} s => (Kp.unlock (F := []) S.objs (Kp.of_same s)).same
    refine ⟨_, rfl, c.rc.so, _, ds, _, _, rfl, hin nso h3, T.cl_Store, T.na_Store_objects, srF_objects, c.rc.od, o, rfl, .inl ⟨_, upd_same, fun D hD => ?_⟩⟩
    refine lc_of (n := (oD c.rc.bks).length) (fun i H3 => Same (upd H c.rc.od (.frz o (.dK (oD c.rc.bks)))) H3 ∧ PairsAt H3 D ((lay c.rc.blks).take i)) ⟨same_upd hD, PairsAt.nil upd_same⟩ (fun i H3 hi ⟨k2, _⟩ => keys_go (k2 _ _ upd_same) hi) (fun H3 ⟨k2, _⟩ => keys_stop (k2 _ _ upd_same)) ?_ ?_
    · rintro i y _ H3 hi ⟨k2, P3⟩ ⟨rfl, kk, vv, ek, rfl⟩
      obtain ⟨p, hp, rfl, rfl⟩ := oD_at ek
      have hpm := List.mem_of_getElem? hp
      have nd : (c.rc.bks.map fun p => p.2.num).Nodup := by rw [← blks_nums]; exact S.nums
      have hb := blks_at hp
      have hbm : p.2 ∈ c.rc.blks := List.mem_of_getElem? hb
      refine ⟨rfl, tYes_if ?_⟩
      refine ⟨_, rfl, c.h, _, dh, _, _, rfl, k2 _ _ (hin nh h1), T.cl_ManagedHeap, T.na_ManagedHeap_state, mhF_state, c.rc.st, _, dt, _, _, rfl, k2 _ _ (hin nst h2), T.cl_State, T.na_State_starts, stF_starts, ?_⟩
      refine ⟨_, rfl, c.rc.sd, .int p.2.start, rfl, by rw [← valV_sD S.nums hbm]; exact DGet.k (k := Sum.inl p.2.num) (k2 _ _ (hin nsd P.st.sts)), ?_⟩
      refine ⟨_, rfl, c.rc.so, _, ds, _, _, rfl, k2 _ _ (hin nso h3), T.cl_Store, T.na_Store_objects, srF_objects, _, rfl, c.rc.od, .ref p.1, rfl, .inl ⟨_, Sum.inl p.2.num, .inr ⟨o, k2 _ _ upd_same⟩, rfl, (valV_oD nd hpm).symm⟩, ?_⟩
      refine ⟨p.1, _, rfl, .inl (SqL.of (k2 _ _ (hin (nl p hpm) (S.lst p hpm)))), (by show 2 ≤ sizeLine; decide), fun t ht => ?_⟩
      obtain ⟨ts, g1, g2, g3⟩ := P3
      have hDt : D ≠ t := ne_of_none g1 ht
      have hlen : ts.length ≤ 64 := by
        have := S.len
        have e := lay_len c.rc.blks
        rw [g2, List.length_take]; omega
      have P5 := PairsAt.push (a := p.2.start) (b := p.2.len) g1 g2 g3 ht
      refine ⟨_, by rw [upd_ne hDt]; exact g1, by rw [List.length_map]; exact small1000 (by omega), fun b u e => ?_, ?_⟩
      · rw [upd_ne (ne_of_none e hD), upd_ne (ne_of_none (k2 _ _ e) ht)]; exact k2 b u e
      · rw [take_succ_of (lay_at hb)]; exact P5
    · rintro H3 ⟨k2, P3⟩
      have e1 : (oD c.rc.bks).length = (lay c.rc.blks).length := by
        rw [lay_len, oD_len]; unfold Sc.blks; rw [List.length_map]
      rw [e1, List.take_length] at P3
      refine ⟨k2 _ _ upd_same, ?_⟩
      have s3 := un k2
      obtain ⟨H5, e5⟩ : ∃ H5, H5 = upd H3 c.rc.od (.dK (oD c.rc.bks)) := ⟨_, rfl⟩
      rw [← e5] at s3 ⊢
      have hDo : D ≠ c.rc.od := fun z => by rw [z, upd_same] at hD; cases hD
      have hD0 : H D = none := by rw [upd_ne hDo] at hD; exact hD
      obtain ⟨ts, g1, g2, g3⟩ := P3
      have f1 : H5 D = some (.lst (ts.map V.ref)) := by rw [e5, upd_ne hDo]; exact g1
      have f3 : ∀ (i : Nat) (t : Addr) (x : Int × Int), ts[i]? = some t → (lay c.rc.blks)[i]? = some x → H5 t = some (.tup [.int x.1, .int x.2]) := fun i t x a b => by
        have e := g3 i t x a b
        rw [e5, upd_ne fun z => by rw [z, k2 _ _ upd_same] at e; cases e]; exact e
      refine ⟨D, _, kOf H5, rfl, SqL.of f1, fun x hx => ?_, fun ys q hs hst hq => ?_⟩
      · obtain ⟨t, ht, rfl⟩ := List.mem_map.mp hx
        obtain ⟨i, hi, ei⟩ := List.getElem_of_mem ht
        have hi2 : i < (lay c.rc.blks).length := by rw [← g2]; exact hi
        have e := f3 i t _ (by rw [List.getElem?_eq_getElem hi, ei]) (List.getElem?_eq_getElem hi2)
        exact ⟨t, rfl, by rw [kOf_ref e]; exact e⟩
      · obtain ⟨us, rfl, hl, hus⟩ := sorted_at (m := lay bs) g2 f3 hs hst (hperm.map _) hch.sorted
        have s6 := same_upd (o := .lst (us.map V.ref)) hq
        exact kq _ q ⟨us, upd_same, hl, fun i t x a b => s6 _ _ (hus i t x a b)⟩ (s3.trans s6) (s3.free hq)
end
end K96
set_option Elab.async false
set_option linter.all false
set_option maxRecDepth 100000
set_option maxHeartbeats 1000000
namespace K96
open PySem PySem.Spec PyProof.Rows L2
theorem sD_at {l : List (Blk V)} {i : Nat} {kk : Key} {vv : V} (ek : (sD l)[i]? = some (kk, vv)) : ∃ b, l[i]? = some b ∧ kk = Sum.inl b.num ∧ vv = V.int b.start := by
  unfold sD at ek
  rw [List.getElem?_map] at ek
  cases q : l[i]? with
  | none => rw [q] at ek; cases ek
  | some p =>
    rw [q] at ek
    have e := Option.some.inj ek
    exact ⟨p, rfl, (congrArg Prod.fst e).symm, (congrArg Prod.snd e).symm⟩
theorem sD_len (l : List (Blk V)) : (sD l).length = l.length := by unfold sD; rw [List.length_map]
section
variable {w : World} {K : PySem.W.Frag} {mg : Str → Option Value} {base : Heap}
/-! ### number_at -/
def spNumAt (K : PySem.W.Frag) : Sp := fun vs H Q _ => ∃ (c : Hc) (b : Blk V), vs = [.ref c.h, .int b.start] ∧ HeapAt K H c ∧ b ∈ c.rc.blks ∧ (∀ b' ∈ c.rc.blks, b'.start = b.start → b' = b) ∧
  ∀ (H' : Hp), Same H H' → Q (.int b.num) H'
theorem sc_NumAt : FnScope ["self", "start", "number"] ["self", "start"] (defScope s_ManagedHeap_number_at) := ⟨rfl, rfl, rfl, by decide +kernel, rfl, by decide +kernel, by decide +kernel⟩
theorem ok_NumAt (T : Top K mg) : Ok Pg w K mg base CX0 1 (He.ma K (He.ga K "ManagedHeap") "number_at") ["self", "start"] (spNumAt K) := by
  refine ok0 T.d_ManagedHeap_number_at sc_NumAt (fun vs H Q E h => ?_) (fun _ _ _ _ _ _ us hl => match us, hl with | [_, _], _ => rfl) (fun cdv A outer s H vs Q E hr h => ?_)
  · obtain ⟨c, b, rfl, _⟩ := h
    rfl
  · obtain ⟨c, b, rfl, P, hb, hun, kq⟩ := h
    have hu := hu_of hr
    obtain ⟨dh, h1⟩ := P.ins
    obtain ⟨dt, h2⟩ := P.st.ins
    have S := P.st.store
    refine ⟨_, pss_one (ps_ret (pe_ix ix_list (pe_lock (pe_lc (own := [("number", 2)]) (g := gName 2) (tt := tTest (tOp rEq (tDGet (tFld K (tFld K (tVar 0) "state") "starts") (tVar 2)) (tVar 1))) rfl sc_NumAt.nd (pi_keys (pe_fld (pe_fld (pv 0) rfl) rfl)) (blkOk_by (own := [("number", 2)]) (N := ["self", "start", "number"]) (sc := defScope s_ManagedHeap_number_at) (by decide +kernel))
            (fun _ _ _ _ _ => pg_name (i := 2) sc_NumAt.nd rfl (Or.inl rfl)) (fun _ _ _ _ _ => pts_one (pt_cmpR op_eq (pe_dget hu (pe_fld (pe_fld (pv 0) rfl) rfl) (pv 2) (fun _ _ => rfl)) (pv 1) (nomark _))) (fun _ _ _ _ _ => pv 2))) pe_int (fun _ _ => rfl))), ?_⟩
    have nst : c.rc.st ≠ c.rc.sd := ne_of h2 P.st.sts (by intro z; cases z)
    have nh : c.h ≠ c.rc.sd := ne_of h1 P.st.sts (by intro z; cases z)
    refine ⟨c.rc.sd, _, P.st.sts, True.intro, fun o => ?_⟩
    have hin : ∀ {b u}, b ≠ c.rc.sd → H b = some u → upd H c.rc.sd (.frz o (.dK (sD c.rc.blks))) b = some u := fun {b u} hb e => by rw [upd_ne hb]; exact e
    have un : ∀ {H'}, Same (upd H c.rc.sd (.frz o (.dK (sD c.rc.blks)))) H' → Same H (upd H' c.rc.sd (.dK (sD c.rc.blks))) := fun {H'} s => (Kp.unlock (F := []) P.st.sts (Kp.of_same s)).same
    refine ⟨_, rfl, c.h, _, dh, _, _, rfl, hin nh h1, T.cl_ManagedHeap, T.na_ManagedHeap_state, mhF_state, c.rc.st, _, dt, _, _, rfl, hin nst h2, T.cl_State, T.na_State_starts, stF_starts, c.rc.sd, o, rfl, .inl ⟨_, upd_same, fun D hD => ?_⟩⟩
    refine lc_of (n := (sD c.rc.blks).length) (fun i H3 => Same (upd H c.rc.sd (.frz o (.dK (sD c.rc.blks)))) H3 ∧ ∃ ns : List Int, H3 D = some (.lst (ns.map V.int)) ∧ ns.length ≤ i ∧ (∀ n ∈ ns, n = b.num) ∧ (b ∈ c.rc.blks.take i → ns ≠ [])) ⟨same_upd hD, [], upd_same, Nat.le_refl _, fun _ h => (nomatch h), fun h => (nomatch h)⟩ (fun i H3 hi ⟨k2, _⟩ => keys_go (k2 _ _ upd_same) hi) (fun H3 ⟨k2, _⟩ => keys_stop (k2 _ _ upd_same)) ?_ ?_
    · rintro i y _ H3 hi ⟨k2, ns, e3, hn1, hn2, hn3⟩ ⟨rfl, kk, vv, ek, rfl⟩
      obtain ⟨b', hp, rfl, rfl⟩ := sD_at ek
      have hbm : b' ∈ c.rc.blks := List.mem_of_getElem? hp
      have hi64 : i < 64 := by
        have := (List.getElem?_eq_some_iff.mp hp).1
        have := S.len
        omega
      refine ⟨rfl, _, rfl, c.h, _, dh, _, _, rfl, k2 _ _ (hin nh h1), T.cl_ManagedHeap, T.na_ManagedHeap_state, mhF_state, c.rc.st, _, dt, _, _, rfl, k2 _ _ (hin nst h2), T.cl_State, T.na_State_starts, stF_starts, ?_⟩
      refine ⟨_, rfl, c.rc.sd, .int b'.start, rfl, .inl ⟨_, Sum.inl b'.num, .inr ⟨o, k2 _ _ upd_same⟩, rfl, (valV_sD S.nums hbm).symm⟩, ?_⟩
      refine ⟨_, rfl, rfl, _, rfl, ?_⟩
      by_cases g : V.int b'.start = V.int b.start
      · rw [decide_eq_true g]
        refine iteT ?_
        have eb : b' = b := hun b' hbm (by injection g)
        refine ⟨_, rfl, _, e3, by rw [List.length_map]; exact small1000 (by omega), fun b'' u e => by rw [upd_ne (ne_of_none e hD)]; exact k2 b'' u e, ns ++ [b'.num], by rw [upd_same, List.map_append]; rfl, by rw [List.length_append]; simp only [List.length_cons, List.length_nil]; omega, fun n hn => ?_, fun _ => by simp⟩
        rcases List.mem_append.mp hn with z | z
        · exact hn2 n z
        · rw [← eb]; simpa using z
      · rw [decide_eq_false g]
        refine iteF ⟨k2, ns, e3, by omega, hn2, fun hb' => hn3 ?_⟩
        rw [take_succ_of hp] at hb'
        rcases List.mem_append.mp hb' with z | z
        · exact z
        · have : b = b' := by simpa using z
          exact absurd (by rw [this]) g
    · rintro H3 ⟨k2, ns, e3, hn1, hn2, hn3⟩
      rw [sD_len, List.take_length] at hn3
      refine ⟨k2 _ _ upd_same, ?_⟩
      have hDo : D ≠ c.rc.sd := fun z => by rw [z, upd_same] at hD; cases hD
      cases ns with
      | nil => exact absurd rfl (hn3 hb)
      | cons n ns =>
        have en : n = b.num := hn2 n (List.mem_cons_self ..)
        subst en
        exact ⟨D, _, _, .int b.num, rfl, rfl, SqL.of (by rw [upd_ne hDo]; exact e3), atI_nat (j := 0) rfl, kq _ (un k2)⟩
/-! ### word -/
/-- a field as a word -/
def WordIs (H : Hp) (blks : List (Blk V)) (v x : V) : Prop := (tgt H v = none ∧ x = v) ∨ ∃ (b : Blk V) (t : Addr), tgt H v = some b.num ∧ b ∈ blks ∧ x = .ref t ∧ H t = some (.tup [.str "reference", .int b.start])
theorem WordIs.same {H H' : Hp} {blks : List (Blk V)} {v x : V} (h : WordIs H blks v x) (hv : VOk H v) (k : Tp H H') : WordIs H' blks v x := by
  have e := (hv.mono k).2
  rcases h with ⟨h1, h2⟩ | ⟨b, t, h1, h2, h3, h4⟩
  · exact .inl ⟨by rw [e]; exact h1, h2⟩
  · exact .inr ⟨b, t, by rw [e]; exact h1, h2, h3, k _ _ h4⟩
def spWord (K : PySem.W.Frag) : Sp := fun vs H Q _ => ∃ (h m st el ev so sd dh dt : Addr) (cur : Int) (blks : List (Blk V)) (v : V), vs = [.ref h, v] ∧ H h = some (.ins (cOf K "ManagedHeap") dh (mhF m st el ev)) ∧
  H st = some (.ins (cOf K "State") dt (stF so sd cur)) ∧ H sd = some (.dK (sD blks)) ∧ (blks.map (·.num)).Nodup ∧ VOk H v ∧ (∀ k, tgt H v = some k → k ∈ blks.map (·.num)) ∧
  ∀ x (H' : Hp), WordIs H' blks v x → Same H H' → Q x H'
theorem sc_Word : FnScope ["self", "value", "target"] ["self", "value"] (defScope s_ManagedHeap_word) := ⟨rfl, rfl, rfl, by decide +kernel, rfl, by decide +kernel, by decide +kernel⟩
theorem ok_Word (T : Top K mg) : Ok Pg w K mg base CX0 2 (He.ma K (He.ga K "ManagedHeap") "word") ["self", "value"] (spWord K) := by
  obtain ⟨fdT, GT, bT, kT⟩ := ok_target (w := w) (base := base) T
  refine ok0 T.d_ManagedHeap_word sc_Word (fun vs H Q E h => ?_) (fun _ _ _ _ _ _ us hl => match us, hl with | [_, _], _ => rfl) (fun cdv A outer s H vs Q E hr h => ?_)
  · obtain ⟨h, m, st, el, ev, so, sd, dh, dt, cur, blks, v, rfl, _⟩ := h
    rfl
  · obtain ⟨h, m, st, el, ev, so, sd, dh, dt, cur, blks, v, rfl, h1, h2, h3, hnd, hv, hk, kq⟩ := h
    have hu := hu_of hr
    refine ⟨_, pss_cons (ps_set (i := 2) sc_Word.nd rfl (.inl rfl) (pe_call GT hr (by rfl) T.mg_target_of kT bT .nil pass0 (pa_cons (pv 1) pa_nil)))
      (pss_cons (ps_if (pt_cmp (pc_isN (pv 2))) (pss_one (ps_ret (pv 1))) pss_nil)
      (pss_one (ps_ret (pe_tup (pa_cons pe_str (pa_cons (pe_dget hu (pe_fld (pe_fld (pv 0) rfl) rfl) (pv 2) (fun _ _ => rfl)) pa_nil)))))), ?_⟩
    refine ⟨_, rfl, v, rfl, hv, _, rfl, _, rfl, ?_⟩
    unfold tgV
    cases et : tgt H v with
    | none =>
      refine iteT ⟨_, rfl, kq v H (.inl ⟨et, rfl⟩) Same.refl⟩
    | some k =>
      refine iteF ?_
      obtain ⟨b, hb, rfl⟩ := List.mem_map.mp (hk k et)
      refine ⟨_, rfl, h, _, dh, _, _, rfl, h1, T.cl_ManagedHeap, T.na_ManagedHeap_state, mhF_state, st, _, dt, _, _, rfl, h2, T.cl_State, T.na_State_starts, stF_starts, ?_⟩
      refine ⟨_, rfl, sd, .int b.start, rfl, by rw [← valV_sD hnd hb]; exact DGet.k (k := Sum.inl b.num) h3, (by show 2 ≤ sizeLine; decide), fun t ht => ?_⟩
      refine kq _ _ (.inr ⟨b, t, ?_, hb, rfl, upd_same⟩) (same_upd ht)
      rw [(hv.mono (Tp.of_same (same_upd ht))).2]; exact et
end
end K96
set_option Elab.async false
set_option linter.all false
set_option maxRecDepth 100000
set_option maxHeartbeats 1000000
namespace K96
open PySem PySem.Spec PyProof.Rows L2
/-- what stands in the j-th cell, when bs lie in the cells; references by the starts in blks -/
def CellIs (H : Hp) (bs blks : List (Blk V)) (j : Nat) (x : V) : Prop := (∃ b ∈ bs, ∃ (i : Nat) (v : V), b.fs[i]? = some v ∧ (j : Int) = b.start + i ∧ WordIs H blks v x) ∨ ((∀ b ∈ bs, ¬ (b.start ≤ (j : Int) ∧ (j : Int) < b.start + b.len)) ∧ x = .str "free")
def WordsAt (H : Hp) (q : Addr) (size : Int) (blks : List (Blk V)) : Prop := ∃ ws, H q = some (.lst ws) ∧ (ws.length : Int) = size ∧ ∀ (j : Nat) x, ws[j]? = some x → CellIs H blks blks j x
/-- the first m fields of a block -/
def Blk.cut (b : Blk V) (m : Nat) : Blk V := { b with fs := b.fs.take m }
theorem cell_step {H H' : Hp} {bs blks : List (Blk V)} {b : Blk V} {m : Nat} {v y : V} (hv : b.fs[m]? = some v) (hy : WordIs H' blks v y) {j : Nat} {x : V} (hj : (j : Int) ≠ b.start + m) (h : CellIs H (bs ++ [b.cut m]) blks j x)
    (hvs : ∀ c ∈ bs ++ [b], ∀ v ∈ c.fs, VOk H v) (k : Tp H H') : CellIs H' (bs ++ [b.cut (m + 1)]) blks j x := by
  have hm : m < b.fs.length := (List.getElem?_eq_some_iff.mp hv).1
  rcases h with ⟨c, hc, i, u, h1, h2, h3⟩ | ⟨h1, h2⟩
  · rcases List.mem_append.mp hc with hc | hc
    · exact .inl ⟨c, List.mem_append_left _ hc, i, u, h1, h2, h3.same (hvs c (List.mem_append_left _ hc) u (List.mem_of_getElem? h1)) k⟩
    · have : c = b.cut m := by simpa using hc
      subst this
      have h1' : (b.fs.take m)[i]? = some u := h1
      rw [List.getElem?_take] at h1'
      by_cases c : i < m
      · rw [if_pos c] at h1'
        refine .inl ⟨b.cut (m + 1), by simp, i, u, ?_, h2, h3.same (hvs b (by simp) u (List.mem_of_getElem? h1')) k⟩
        show (b.fs.take (m + 1))[i]? = some u
        rw [List.getElem?_take, if_pos (by omega)]; exact h1'
      · rw [if_neg c] at h1'; cases h1'
  · refine .inr ⟨fun c hc => ?_, h2⟩
    rcases List.mem_append.mp hc with hc | hc
    · exact h1 c (List.mem_append_left _ hc)
    · have : c = b.cut (m + 1) := by simpa using hc
      subst this
      have := h1 (b.cut m) (by simp)
      have e1 : (b.cut m).len = m := by show ((b.fs.take m).length : Int) = m; rw [List.length_take]; omega
      have e2 : (b.cut (m + 1)).len = m + 1 := by show ((b.fs.take (m + 1)).length : Int) = m + 1; rw [List.length_take]; omega
      have e3 : (b.cut m).start = b.start := rfl
      have e4 : (b.cut (m + 1)).start = b.start := rfl
      rw [e1, e3] at this
      rw [e2, e4]
      omega
theorem cell_here {H : Hp} {bs blks : List (Blk V)} {b : Blk V} {m : Nat} {v y : V} (hv : b.fs[m]? = some v) (hy : WordIs H blks v y) {j : Nat} (hj : (j : Int) = b.start + m) : CellIs H (bs ++ [b.cut (m + 1)]) blks j y := by
  refine .inl ⟨b.cut (m + 1), by simp, m, v, ?_, hj, hy⟩
  show (b.fs.take (m + 1))[m]? = some v
  rw [List.getElem?_take, if_pos (by omega)]; exact hv
theorem cell_zero {H : Hp} {bs blks : List (Blk V)} {b : Blk V} {j : Nat} {x : V} (h : CellIs H bs blks j x) : CellIs H (bs ++ [b.cut 0]) blks j x := by
  rcases h with ⟨c, hc, r⟩ | ⟨h1, h2⟩
  · exact .inl ⟨c, List.mem_append_left _ hc, r⟩
  · refine .inr ⟨fun c hc => ?_, h2⟩
    rcases List.mem_append.mp hc with hc | hc
    · exact h1 c hc
    · have : c = b.cut 0 := by simpa using hc
      subst this
      have : (b.cut 0).len = 0 := rfl
      rw [this]; omega
theorem cut_all (b : Blk V) : b.cut b.fs.length = b := by
  unfold Blk.cut; rw [List.take_length]
theorem CellIs.same {H H' : Hp} {bs blks : List (Blk V)} {j : Nat} {x : V} (h : CellIs H bs blks j x) (hvs : ∀ c ∈ bs, ∀ v ∈ c.fs, VOk H v) (k : Tp H H') : CellIs H' bs blks j x := by
  rcases h with ⟨c, hc, i, u, h1, h2, h3⟩ | h
  · exact .inl ⟨c, hc, i, u, h1, h2, h3.same (hvs c hc u (List.mem_of_getElem? h1)) k⟩
  · exact .inr h
section
variable {w : World} {K : PySem.W.Frag} {mg : Str → Option Value} {base : Heap}
/-! ### words -/
def spWords (K : PySem.W.Frag) : Sp := fun vs H Q _ => ∃ (c : Hc), vs = [.ref c.h] ∧ HeapAt K H c ∧ 0 ≤ c.size ∧ c.size ≤ 25 ∧ (∀ b ∈ c.rc.blks, 0 ≤ b.start ∧ b.start + b.len ≤ c.size) ∧ ValsOk H c.rc.toSc ∧ Closed H c.rc.toSc ∧
  ∀ (H' : Hp) (q : Addr), WordsAt H' q c.size c.rc.blks → Same H H' → H q = none → Q (.ref q) H'
theorem sc_Words : FnScope ["self", "cells", "number", "index", "value"] ["self"] (defScope s_ManagedHeap_words) := ⟨rfl, rfl, rfl, by decide +kernel, rfl, by decide +kernel, by decide +kernel⟩
theorem ok_Words (T : Top K mg) : Ok Pg w K mg base CX0 3 (He.ma K (He.ga K "ManagedHeap") "words") ["self"] (spWords K) := by
  obtain ⟨fdW, GW, bW, kW⟩ := ok_Word (w := w) (base := base) T
  refine ok0 T.d_ManagedHeap_words sc_Words (fun vs H Q E h => ?_) (fun _ _ _ _ _ _ us hl => match us, hl with | [_], _ => rfl) (fun cdv A outer s H vs Q E hr h => ?_)
  · obtain ⟨c, rfl, _⟩ := h
    rfl
  · obtain ⟨c, rfl, P, hz0, hz1, hin0, hv, hcl, kq⟩ := h
    have hu := hu_of hr
    obtain ⟨dh, h1⟩ := P.ins
    obtain ⟨dm, hm⟩ := P.man
    obtain ⟨dt, h2⟩ := P.st.ins
    obtain ⟨ds, h3⟩ := P.st.store.ins
    have S := P.st.store
    have nd : (c.rc.bks.map fun p => p.2.num).Nodup := by rw [← blks_nums]; exact S.nums
    refine ⟨_, pss_cons (ps_set (i := 1) sc_Words.nd rfl (.inl rfl) (pe_op op_rep (pe_lst (pa_cons pe_str pa_nil)) (pe_fld (pe_fld (pv 0) rfl) rfl)))
      (pss_cons (ps_lock (ps_for PassesOwn.never rfl (pi_keys (pe_fld (pe_fld (pe_fld (pv 0) rfl) rfl) rfl)) (pg_name (i := 2) sc_Words.nd rfl (.inl rfl))
        (pss_one (ps_for PassesOwn.never rfl (pi_enum (by rfl) T.fr_enumerate (pa_cons (pe_dget hu (pe_fld (pe_fld (pe_fld (pv 0) rfl) rfl) rfl) (pv 2) (fun _ _ => rfl)) pa_nil)) (pg_tup (by rfl) (pgs_cons (pg_name (i := 3) sc_Words.nd rfl (.inl rfl)) (pgs_cons (pg_name (i := 4) sc_Words.nd rfl (.inl rfl)) pgs_nil)))
          (pss_one (ps_asg (pe_meth (pv 0) T.cl_ManagedHeap T.me_ManagedHeap_word GW hr bW .nil pass0 (pa_cons (pv 4) pa_nil)) (pg_sub (pv 1) (pe_op op_add (pe_dget hu (pe_fld (pe_fld (pv 0) rfl) rfl) (pv 2) (fun _ _ => rfl)) (pv 3)) set_list)))))))
      (pss_one (ps_ret (pv 1)))), ?_⟩
    have nst : c.rc.st ≠ c.rc.od := ne_of h2 S.objs (by intro z; cases z)
    have nh : c.h ≠ c.rc.od := ne_of h1 S.objs (by intro z; cases z)
    have nso : c.rc.so ≠ c.rc.od := ne_of h3 S.objs (by intro z; cases z)
    have nsd : c.rc.sd ≠ c.rc.od := fun z => by
      have := P.st.nd
      unfold Rc.fp Sc.sfp at this
      simp only [List.nodup_cons, List.mem_cons, not_or] at this
      exact this.2.1.2.1 z
    have nl : ∀ p ∈ c.rc.bks, p.1 ≠ c.rc.od := fun p hp => ne_of (S.lst p hp) S.objs (by intro z; cases z)
    -- cells
    refine ⟨(by show 1 ≤ sizeLine; decide), fun p hp => ?_⟩
    have s1 : Same H (upd H p (.lst [.str "free"])) := same_upd hp
    refine ⟨_, rfl, c.h, _, dh, _, _, rfl, s1 _ _ h1, T.cl_ManagedHeap, T.na_ManagedHeap_manager, mhF_manager, c.m, _, dm, _, _, rfl, s1 _ _ hm, T.cl_PolicyManager, T.na_PolicyManager_size, pmF_size, ?_⟩
    refine ⟨p, c.size, _, rfl, rfl, upd_same, by omega, by omega, line1000 (by simp only [List.length_cons, List.length_nil]; omega), fun q hq => ?_⟩
    have s2 := s1.trans (same_upd (o := .lst (List.replicate c.size.toNat [V.str "free"]).flatten) hq)
    have hq0 : H q = none := s1.free hq
    rw [rep_flat] at s2 ⊢
    obtain ⟨H0, eH0⟩ : ∃ H0, H0 = upd (upd H p (.lst [.str "free"])) q (.lst (List.replicate c.size.toNat (V.str "free"))) := ⟨_, rfl⟩
    have eq0 : H0 q = some (.lst (List.replicate c.size.toNat (V.str "free"))) := by rw [eH0, upd_same]
    rw [← eH0] at s2 ⊢
    have h1 := s2 _ _ h1
    have h2 := s2 _ _ h2
    have h3 := s2 _ _ h3
    have hsts := s2 _ _ P.st.sts
    have hobjs := s2 _ _ S.objs
    have hlst : ∀ p ∈ c.rc.bks, H0 p.1 = some (.lst p.2.fs) := fun p hp => s2 _ _ (S.lst p hp)
    have nq : c.rc.od ≠ q := ne_of_none S.objs hq0
    -- the walk
    refine ⟨c.rc.od, _, hobjs, True.intro, fun o => ?_⟩
    have hin : ∀ {b u}, b ≠ c.rc.od → H0 b = some u → upd H0 c.rc.od (.frz o (.dK (oD c.rc.bks))) b = some u := fun {b u} hb e => by rw [upd_ne hb]; exact e
    refine ⟨_, rfl, c.h, _, dh, _, _, rfl, hin nh h1, T.cl_ManagedHeap, T.na_ManagedHeap_state, mhF_state, c.rc.st, _, dt, _, _, rfl, hin nst h2, T.cl_State, T.na_State_store, stF_store, c.rc.so, _, ds, _, _, rfl, hin nso h3, T.cl_Store, T.na_Store_objects, srF_objects, c.rc.od, o, rfl, .inl ⟨_, upd_same, ?_⟩⟩
    have hvb : ∀ b ∈ c.rc.blks, ∀ v ∈ b.fs, VOk H v := fun b hb v hv' => by
      obtain ⟨p, hp, rfl⟩ := List.mem_map.mp hb
      exact (hv p hp).2 v hv'
    have hT0 : Tp H (upd H0 c.rc.od (.frz o (.dK (oD c.rc.bks)))) := fun t xs e => hin (fun z => by rw [z, S.objs] at e; cases e) (s2 _ _ e)
    refine for_of (n := (oD c.rc.bks).length) (fun i σ H2 => ∃ (v2 v3 v4 : Option V) (ws : List V), σ = [some (.ref c.h), some (.ref q), v2, v3, v4] ∧ Kp [q] (upd H0 c.rc.od (.frz o (.dK (oD c.rc.bks)))) H2 ∧ H2 q = some (.lst ws) ∧ (ws.length : Int) = c.size ∧ ∀ (j : Nat) x, ws[j]? = some x → CellIs H2 (c.rc.blks.take i) c.rc.blks j x)
      ⟨none, none, none, _, rfl, Kp.refl, by rw [upd_ne nq.symm]; exact eq0, by rw [List.length_replicate]; omega, fun j x hx => .inr ⟨fun b hb => (nomatch hb), ?_⟩⟩ (fun i σ H2 hi ⟨_, _, _, _, _, k2, _⟩ => keys_go (k2 _ _ upd_same (by simp; exact nq)) hi) (fun σ H2 ⟨_, _, _, _, _, k2, _⟩ => keys_stop (k2 _ _ upd_same (by simp; exact nq))) ?_ ?_
    · exact (List.mem_replicate.mp (List.mem_of_getElem? hx)).2
    · rintro i y σ _ H2 hi ⟨v2, v3, v4, ws, rfl, k2, e2, hl, hc⟩ ⟨rfl, kk, vv, ek, rfl⟩
      obtain ⟨bp, hbp, rfl, rfl⟩ := oD_at ek
      have hpm := List.mem_of_getElem? hbp
      have hb := blks_at hbp
      have hbm : bp.2 ∈ c.rc.blks := List.mem_of_getElem? hb
      have old : ∀ b u, H b = some u → b ≠ q := fun b u e => ne_of_none e hq0
      have kk2 : ∀ b u, b ≠ c.rc.od → H b = some u → H2 b = some u := fun b u n e => k2 b u (hin n (s2 _ _ e)) (by simp; exact old b u e)
      obtain ⟨dh', g1⟩ := P.ins
      obtain ⟨dt', g2⟩ := P.st.ins
      obtain ⟨ds', g3⟩ := S.ins
      refine ⟨_, rfl, c.h, _, dh', _, _, rfl, kk2 _ _ nh g1, T.cl_ManagedHeap, T.na_ManagedHeap_state, mhF_state, c.rc.st, _, dt', _, _, rfl, kk2 _ _ nst g2, T.cl_State, T.na_State_store, stF_store, c.rc.so, _, ds', _, _, rfl, kk2 _ _ nso g3, T.cl_Store, T.na_Store_objects, srF_objects, ?_⟩
      refine ⟨_, rfl, c.rc.od, .ref bp.1, rfl, .inl ⟨_, Sum.inl bp.2.num, .inr ⟨o, k2 _ _ upd_same (by simp; exact nq)⟩, rfl, (valV_oD nd hpm).symm⟩, ?_⟩
      have hfs := kk2 _ _ (nl bp hpm) (S.lst bp hpm)
      refine ⟨bp.1, _, rfl, SqL.of hfs, ?_⟩
      have hvs : ∀ d ∈ c.rc.blks.take i ++ [bp.2], ∀ v ∈ d.fs, VOk H v := fun d hd v hv' => by
        rcases List.mem_append.mp hd with hd | hd
        · exact hvb d (List.mem_of_mem_take hd) v hv'
        · have : d = bp.2 := by simpa using hd
          subst this
          exact hvb _ hbm v hv'
      refine for_of (n := bp.2.fs.length) (fun m σ H3 => ∃ (v3 v4 : Option V) (ws : List V), σ = [some (.ref c.h), some (.ref q), some (.int bp.2.num), v3, v4] ∧ Kp [q] (upd H0 c.rc.od (.frz o (.dK (oD c.rc.bks)))) H3 ∧ H3 q = some (.lst ws) ∧ (ws.length : Int) = c.size ∧ ∀ (j : Nat) x, ws[j]? = some x → CellIs H3 (c.rc.blks.take i ++ [bp.2.cut m]) c.rc.blks j x)
        ⟨v3, v4, ws, rfl, k2, e2, hl, fun j x hx => cell_zero (hc j x hx)⟩ (fun m σ H3 hm ⟨_, _, _, _, k3, _⟩ => ?_) (fun σ H3 ⟨_, _, _, _, k3, _⟩ => ?_) ?_ ?_
      · exact ⟨_, bp.2.fs[m], SqL.of (k3 _ _ (hin (nl bp hpm) (s2 _ _ (S.lst bp hpm))) (by simp; exact old _ _ (S.lst bp hpm))), List.getElem?_eq_getElem hm⟩
      · exact ⟨_, SqL.of (k3 _ _ (hin (nl bp hpm) (s2 _ _ (S.lst bp hpm))) (by simp; exact old _ _ (S.lst bp hpm))), Nat.le_refl _⟩
      · rintro m y σ H3 H4 hm ⟨v3, v4, ws, rfl, k3, e3, hl, hc⟩ ⟨T', x, rfl, hT', rfl, hx⟩
        have hfs3 := k3 _ _ (hin (nl bp hpm) (s2 _ _ (S.lst bp hpm))) (by simp; exact old _ _ (S.lst bp hpm))
        have hx := hx _ (SqL.of hfs3)
        have s3 : Same H3 (upd H3 T' (.tup [.int m, x])) := same_upd hT'
        have kk3 : ∀ b u, b ≠ c.rc.od → H b = some u → H3 b = some u := fun b u n e => k3 b u (hin n (s2 _ _ e)) (by simp; exact old b u e)
        have hTp : ∀ {H'}, Kp [q] (upd H0 c.rc.od (.frz o (.dK (oD c.rc.bks)))) H' → Tp H H' := fun k t xs e => k _ _ (hT0 t xs e) (by simp; exact old _ _ e)
        have hxv : VOk H x := hvb _ hbm x (List.mem_of_getElem? hx)
        have k4 : Kp [q] (upd H0 c.rc.od (.frz o (.dK (oD c.rc.bks)))) (upd H3 T' (.tup [.int m, x])) := k3.then_same s3
        have hx4 := hxv.mono (hTp k4)
        refine ⟨T', _, rfl, SqT.of upd_same, rfl, _, _, rfl, _, _, rfl, rfl, ?_⟩
        refine ⟨_, rfl, c.h, dh', _, rfl, s3 _ _ (kk3 _ _ nh g1), mhF_no_word, _, rfl, ?_⟩
        refine ⟨c.h, c.m, c.rc.st, c.el, c.evl, c.rc.so, c.rc.sd, dh', dt', c.rc.cur, c.rc.blks, x, rfl, s3 _ _ (kk3 _ _ nh g1), s3 _ _ (kk3 _ _ nst g2), s3 _ _ (kk3 _ _ nsd P.st.sts), S.nums, hx4.1, fun k ek => hcl.2 bp hpm x (List.mem_of_getElem? hx) k (by rw [← hx4.2]; exact ek), fun y H5 hW s5 => ?_⟩
        have s35 := s3.trans s5
        have hin2 := hin0 _ hbm
        have hfl : bp.2.len = (bp.2.fs.length : Int) := rfl
        have hj : ((bp.2.start + m).toNat : Int) = bp.2.start + m := Int.toNat_of_nonneg (by omega)
        refine ⟨_, rfl, _, rfl, c.h, _, dh', _, _, rfl, s35 _ _ (kk3 _ _ nh g1), T.cl_ManagedHeap, T.na_ManagedHeap_state, mhF_state, c.rc.st, _, dt', _, _, rfl, s35 _ _ (kk3 _ _ nst g2), T.cl_State, T.na_State_starts, stF_starts, ?_⟩
        refine ⟨_, rfl, c.rc.sd, .int bp.2.start, rfl, by rw [← valV_sD S.nums hbm]; exact DGet.k (k := Sum.inl bp.2.num) (s35 _ _ (kk3 _ _ nsd P.st.sts)), _, rfl, _, _, rfl, rfl, ?_⟩
        refine ⟨q, ws, _, (bp.2.start + m).toNat, rfl, rfl, s35 _ _ e3, ?_, ?_⟩
        · unfold ixN
          rw [if_pos (by omega), if_pos (by omega)]
        · have k6 : Kp [q] (upd H0 c.rc.od (.frz o (.dK (oD c.rc.bks)))) (upd H5 q (.lst (ws.set (bp.2.start + m).toNat y))) := (k3.then_same s35).trans (kp_upd (by simp))
          have t36 : Tp H3 (upd H5 q (.lst (ws.set (bp.2.start + m).toNat y))) := fun t xs e => by
            rw [upd_ne fun z => by rw [z, e3] at e; cases e]; exact s35 _ _ e
          have t56 : Tp H5 (upd H5 q (.lst (ws.set (bp.2.start + m).toNat y))) := fun t xs e => by
            rw [upd_ne fun z => by rw [z, s35 _ _ e3] at e; cases e]; exact e
          refine ⟨_, _, _, rfl, k6, upd_same, by rw [List.length_set]; exact hl, fun j z hz => ?_⟩
          rw [List.getElem?_set] at hz
          have hW6 : WordIs (upd H5 q (.lst (ws.set (bp.2.start + m).toNat y))) c.rc.blks x y := hW.same ((hx4.1.mono (Tp.of_same s5)).1) t56
          by_cases g : (bp.2.start + m).toNat = j
          · rw [if_pos g] at hz
            have hlt : j < ws.length := by omega
            rw [if_pos (by omega)] at hz
            have : y = z := Option.some.inj hz
            subst this
            exact cell_here hx hW6 (by omega)
          · rw [if_neg g] at hz
            exact cell_step hx hW6 (by omega) (hc j z hz) (fun d hd v hv' => ((hvs d hd v hv').mono (hTp k3)).1) t36
      · rintro σ H3 ⟨v3, v4, ws, rfl, k3, e3, hl, hc⟩
        refine ⟨_, _, _, ws, rfl, k3, e3, hl, fun j x hx => ?_⟩
        have := hc j x hx
        rw [cut_all] at this
        rw [take_succ_of hb]; exact this
    · rintro σ H2 ⟨v2, v3, v4, ws, rfl, k2, e2, hl, hc⟩
      have e1 : (oD c.rc.bks).length = c.rc.blks.length := by rw [oD_len]; unfold Sc.blks; rw [List.length_map]
      rw [e1, List.take_length] at hc
      refine ⟨k2 _ _ upd_same (by simp; exact nq), ?_⟩
      have k3 : Kp [q] H0 (upd H2 c.rc.od (.dK (oD c.rc.bks))) := Kp.unlock hobjs k2
      have s3 : Same H (upd H2 c.rc.od (.dK (oD c.rc.bks))) := fun b u e => k3 b u (s2 _ _ e) (by simp; exact ne_of_none e hq0)
      have hTp : Tp H H2 := fun t xs e => k2 _ _ (hT0 t xs e) (by simp; exact ne_of_none e hq0)
      refine ⟨_, rfl, kq _ q ⟨ws, by rw [upd_ne nq.symm]; exact e2, hl, fun j x hx => ?_⟩ s3 hq0⟩
      refine (hc j x hx).same (fun d hd v hv' => ((hvb d hd v hv').mono hTp).1) fun t xs e => ?_
      rw [upd_ne fun z => by rw [z, k2 _ _ upd_same (by simp; exact nq)] at e; cases e]; exact e
end
end K96
set_option Elab.async false
set_option linter.all false
set_option maxRecDepth 100000
set_option maxHeartbeats 1000000
namespace K96
open PySem PySem.Spec PyProof.Rows L2
/-! ### other starts -/
def setSB (k e : Int) (l : List (Addr × Blk V)) : List (Addr × Blk V) := l.map fun p => if p.2.num = k then (p.1, { p.2 with start := e }) else p
theorem setSB_blks (k e : Int) (l : List (Addr × Blk V)) : (setSB k e l).map (·.2) = setS k e (l.map (·.2)) := by
  unfold setSB setS
  rw [List.map_map, List.map_map]
  apply List.map_congr_left
  intro p _
  show (if p.2.num = k then _ else p : Addr × Blk V).2 = if p.2.num = k then _ else p.2
  split <;> rfl
theorem setSB_las (k e : Int) (l : List (Addr × Blk V)) : (setSB k e l).map (·.1) = l.map (·.1) := by
  unfold setSB
  rw [List.map_map]
  apply List.map_congr_left
  intro p _
  show (if p.2.num = k then _ else p : Addr × Blk V).1 = p.1
  split <;> rfl
theorem setSB_oD (k e : Int) (l : List (Addr × Blk V)) : oD (setSB k e l) = oD l := by
  unfold oD setSB
  rw [List.map_map]
  apply List.map_congr_left
  intro p _
  show ((Sum.inl (if p.2.num = k then ((p.1, { p.2 with start := e }) : Addr × Blk V) else p).2.num : Key), V.ref (if p.2.num = k then ((p.1, { p.2 with start := e }) : Addr × Blk V) else p).1) = _
  split <;> rfl
def setAllB (xs : List (Blk V)) (l : List (Addr × Blk V)) : List (Addr × Blk V) := xs.foldl (fun l b => setSB b.num b.start l) l
theorem setAllB_blks : ∀ (xs : List (Blk V)) (l : List (Addr × Blk V)), (setAllB xs l).map (·.2) = setAll xs (l.map (·.2))
  | [], _ => rfl
  | b :: r, l => by
    show (setAllB r (setSB b.num b.start l)).map (·.2) = setAll r (setS b.num b.start (l.map (·.2)))
    rw [setAllB_blks r, setSB_blks]
theorem setAllB_las : ∀ (xs : List (Blk V)) (l : List (Addr × Blk V)), (setAllB xs l).map (·.1) = l.map (·.1)
  | [], _ => rfl
  | b :: r, l => (setAllB_las r _).trans (setSB_las _ _ _)
theorem setAllB_oD : ∀ (xs : List (Blk V)) (l : List (Addr × Blk V)), oD (setAllB xs l) = oD l
  | [], _ => rfl
  | b :: r, l => (setAllB_oD r _).trans (setSB_oD _ _ _)
theorem setAllB_fs : ∀ (xs : List (Blk V)) (l : List (Addr × Blk V)), ∀ p ∈ setAllB xs l, ∃ p' ∈ l, p'.1 = p.1 ∧ p'.2.fs = p.2.fs ∧ p'.2.num = p.2.num
  | [], _, p, hp => ⟨p, hp, rfl, rfl, rfl⟩
  | b :: r, l, p, hp => by
    obtain ⟨q, hq, e1, e2, e3⟩ := setAllB_fs r _ p hp
    obtain ⟨q0, hq0, rfl⟩ := List.mem_map.mp hq
    refine ⟨q0, hq0, ?_, ?_, ?_⟩
    · rw [← e1]; split <;> rfl
    · rw [← e2]; split <;> rfl
    · rw [← e3]; split <;> rfl
theorem setAllB_snoc (xs : List (Blk V)) (x : Blk V) (l : List (Addr × Blk V)) : setAllB (xs ++ [x]) l = setSB x.num x.start (setAllB xs l) := by
  unfold setAllB; rw [List.foldl_append]; rfl
theorem setAll_snoc {α : Type} (xs : List (Blk α)) (x : Blk α) (l : List (Blk α)) : setAll (xs ++ [x]) l = setS x.num x.start (setAll xs l) := by
  unfold setAll; rw [List.foldl_append]; rfl
theorem setAllB_len (xs : List (Blk V)) (l : List (Addr × Blk V)) : (setAllB xs l).length = l.length := by
  have := congrArg List.length (setAllB_las xs l)
  rw [List.length_map, List.length_map] at this
  exact this
def Sc.mv (r : Sc) (xs : List (Blk V)) : Sc := { r with bks := setAllB xs r.bks }
def Rc.mv (r : Rc) (xs : List (Blk V)) : Rc := { r with bks := setAllB xs r.bks }
def Hc.mv (c : Hc) (xs : List (Blk V)) : Hc := { c with rc := c.rc.mv xs }
theorem Sc.mv_blks (r : Sc) (xs : List (Blk V)) : (r.mv xs).blks = setAll xs r.blks := setAllB_blks xs r.bks
theorem Sc.mv_sfp (r : Sc) (xs : List (Blk V)) : (r.mv xs).sfp = r.sfp := by
  unfold Sc.sfp Sc.mv; rw [setAllB_las]
theorem Rc.mv_fp (r : Rc) (xs : List (Blk V)) : (r.mv xs).fp = r.fp := by
  unfold Rc.fp
  show r.st :: r.sd :: (r.toSc.mv xs).sfp = _
  rw [Sc.mv_sfp]
theorem Hc.mv_fp (c : Hc) (xs : List (Blk V)) : (c.mv xs).fp = c.fp := by
  unfold Hc.fp
  show c.h :: c.el :: c.evl :: (c.rc.mv xs).fp = _
  rw [Rc.mv_fp]
section
variable {w : World} {K : PySem.W.Frag} {mg : Str → Option Value} {base : Heap}
theorem store_mv {H : Hp} {r : Sc} (S : StoreAt K H r) (xs : List (Blk V)) : StoreAt K H (r.mv xs) := by
  refine ⟨S.ins, by show _ = some (HO.dK (oD (setAllB xs r.bks))); rw [setAllB_oD]; exact S.objs, S.rts, fun p hp => ?_, by rw [Sc.mv_sfp]; exact S.nd, by rw [Sc.mv_blks, setAll_nums]; exact S.nums, ?_⟩
  · obtain ⟨p', hp', e1, e2, _⟩ := setAllB_fs xs r.bks p hp
    rw [← e1, ← e2]; exact S.lst p' hp'
  · show (setAllB xs r.bks).length ≤ 64
    rw [setAllB_len]; exact S.small
theorem sd_not_sfp {H : Hp} {r : Rc} (S : StAt K H r) : r.sd ∉ r.toSc.sfp := by
  have := S.nd
  unfold Rc.fp at this
  simp only [List.nodup_cons] at this
  exact this.2.1
theorem sd_ne_st {H : Hp} {r : Rc} (S : StAt K H r) : r.st ≠ r.sd := by
  have := S.nd
  unfold Rc.fp at this
  simp only [List.nodup_cons, List.mem_cons, not_or] at this
  exact this.1.1
theorem st_mv {H : Hp} {r : Rc} (S : StAt K H r) (xs : List (Blk V)) : StAt K (upd H r.sd (.dK (sD (r.mv xs).toSc.blks))) (r.mv xs) := by
  obtain ⟨dx, e⟩ := S.ins
  refine ⟨(store_mv S.store xs).keep fun b hb o eb => ?_, ⟨dx, by show upd _ _ _ r.st = _; rw [upd_ne (sd_ne_st S)]; exact e⟩, upd_same, by rw [Rc.mv_fp]; exact S.nd⟩
  have hb' : b ∈ r.toSc.sfp := by rw [← Sc.mv_sfp r.toSc xs]; exact hb
  rw [upd_ne fun z => sd_not_sfp S (by rw [← z]; exact hb')]; exact eb
theorem hp_sd {H : Hp} {c : Hc} (P : HeapAt K H c) : c.h ≠ c.rc.sd ∧ c.el ≠ c.rc.sd ∧ c.evl ≠ c.rc.sd ∧ c.m ≠ c.rc.sd := by
  have nd := P.nd
  have hm := P.mfp
  have hs : c.rc.sd ∈ c.rc.fp := by unfold Rc.fp; simp
  unfold Hc.fp at nd hm
  simp only [List.nodup_cons, List.mem_cons, not_or] at nd hm
  obtain ⟨⟨a1, a2, a3⟩, ⟨b1, b2⟩, c1, _⟩ := nd
  exact ⟨fun z => a3 (by rw [z]; exact hs), fun z => b2 (by rw [z]; exact hs), fun z => c1 (by rw [z]; exact hs), fun z => hm.2.2.2 (by rw [z]; exact hs)⟩
theorem heap_mv {H : Hp} {c : Hc} (P : HeapAt K H c) (xs : List (Blk V)) : HeapAt K (upd H c.rc.sd (.dK (sD (c.rc.mv xs).toSc.blks))) (c.mv xs) := by
  obtain ⟨n1, n2, n3, n4⟩ := hp_sd P
  obtain ⟨⟨d1, e1⟩, ⟨d2, e2⟩, e3, e4, e5, e6, e7, e8, e9⟩ := P
  exact ⟨⟨d1, by show upd _ _ _ c.h = _; rw [upd_ne n1]; exact e1⟩, ⟨d2, by show upd _ _ _ c.m = _; rw [upd_ne n4]; exact e2⟩, st_mv e3 xs, by show upd _ _ _ c.el = _; rw [upd_ne n2]; exact e4, by show upd _ _ _ c.evl = _; rw [upd_ne n3]; exact e5, by rw [Hc.mv_fp]; exact e6, by rw [Hc.mv_fp]; exact e7, e8, e9⟩
/-! ### relocate -/
def spReloc (K : PySem.W.Frag) : Sp := fun vs H Q _ => ∃ (c : Hc) (bs xs : List (Blk V)) (size : Int) (sp : Addr), vs = [.ref c.h, .ref sp] ∧ HeapAt K H c ∧ bs.Perm c.rc.blks ∧ Chain size 0 bs ∧ size ≤ 25 ∧
  H sp = some (.lst ((xs.map (·.start)).map V.int)) ∧ xs.map (·.num) = bs.map (·.num) ∧
  ∀ (H' : Hp) (q : Addr), HeapAt K H' (c.mv xs) → Kp [c.rc.sd] H H' → Q (.ref q) H'
theorem sc_Reloc : FnScope ["self", "starts", "layout", "numbers", "block", "number", "start"] ["self", "starts"] (defScope s_ManagedHeap_relocate) := ⟨rfl, rfl, rfl, by decide +kernel, rfl, by decide +kernel, by decide +kernel⟩
theorem ok_Reloc (T : Top K mg) : Ok Pg w K mg base CX0 3 (He.ma K (He.ga K "ManagedHeap") "relocate") ["self", "starts"] (spReloc K) := by
  obtain ⟨fdL, GL, bL, _⟩ := ok_MLayout (w := w) (base := base) T
  obtain ⟨fdN, GN, bN, _⟩ := ok_NumAt (w := w) (base := base) T
  obtain ⟨fdR, GR, bR, kR⟩ := ok_relMap (w := w) (base := base) T
  refine ok0 T.d_ManagedHeap_relocate sc_Reloc (fun vs H Q E h => ?_) (fun _ _ _ _ _ _ us hl => match us, hl with | [_, _], _ => rfl) (fun cdv A outer s H vs Q E hr h => ?_)
  · obtain ⟨c, bs, xs, size, sp, rfl, _⟩ := h
    rfl
  · obtain ⟨c, bs, xs, size, sp, rfl, P, hperm, hch, hsz, hsp, hnm, kq⟩ := h
    have hu := hu_of hr
    have hr1 : Room 1 _ := hr.mono (by decide)
    obtain ⟨dh, h1⟩ := P.ins
    obtain ⟨dm, hm⟩ := P.man
    obtain ⟨dt, h2⟩ := P.st.ins
    have S := P.st.store
    refine ⟨_, pss_cons (ps_set (i := 2) sc_Reloc.nd rfl (.inl rfl) (pe_meth0 (pv 0) T.cl_ManagedHeap T.me_ManagedHeap_layout GL hr1 bL .nil pass0))
      (pss_cons (ps_setLc (i := 3) (own := [("block", 4)]) (g := gName 4) (tt := tYes) (te := tMeth (He.ga K "ManagedHeap") "number_at" (spNumAt K) [] E0 (tVar 0) (tCons (tOp (rIxT K) (tVar 4) (tC (V.int 0))) tNil)) rfl sc_Reloc.nd rfl rfl (sw_true rfl rfl rfl (by decide +kernel)) (pi_list (pv 2)) (blkOk_by (own := [("block", 4)]) (N := ["self", "starts", "layout", "numbers", "block", "number", "start"]) (sc := defScope s_ManagedHeap_relocate) (by decide +kernel))
          (fun _ _ _ _ _ => pg_name (i := 4) sc_Reloc.nd rfl (Or.inl rfl)) (fun _ _ _ _ _ => pts_nil) (fun _ _ _ _ _ => pe_meth (pv 0) T.cl_ManagedHeap T.me_ManagedHeap_number_at GN hr1 bN .nil pass0 (pa_cons (pe_ix ix_tup (pv 4) pe_int (fun _ _ => rfl)) pa_nil)))
      (pss_cons (ps_for PassesOwn.never rfl (pi_zip (by rfl) T.fr_zip (pa_cons (pv 3) (pa_cons (pv 1) pa_nil))) (pg_tup (by rfl) (pgs_cons (pg_name (i := 5) sc_Reloc.nd rfl (.inl rfl)) (pgs_cons (pg_name (i := 6) sc_Reloc.nd rfl (.inl rfl)) pgs_nil)))
        (pss_one (ps_dput hu (pe_fld (pe_fld (pv 0) rfl) rfl) (pv 5) (pv 6) rfl)))
      (pss_one (ps_ret (pe_call GR (hr.mono (by decide)) (by rfl) T.mg_relocation_map kR bR .nil pass0 (pa_cons (pe_fld (pe_fld (pv 0) rfl) rfl) (pa_cons (pv 2) (pa_cons (pv 1) pa_nil)))))))), ?_⟩
    refine ⟨_, rfl, c.h, dh, _, rfl, h1, mhF_no_layout, c, bs, size, rfl, P, hperm, hch, fun H1 lp hPL s1 hlp => ?_⟩
    obtain ⟨ts, f1, f2, f3⟩ := hPL
    have P1 := P.same s1
    have hbl : bs.length ≤ 25 := by
      have := hch.count
      omega
    have hll := lay_len bs
    refine ⟨_, rfl, lp, rfl, ⟨_, SqL.of f1⟩, fun D hD => ?_⟩
    refine lc_list (K := K) (a := lp) (xs := ts.map V.ref) (fun i H2 => Same H1 H2 ∧ H2 D = some (.lst (((bs.map (·.num)).take i).map V.int))) ⟨same_upd hD, upd_same⟩ (fun i H2 _ ⟨s2, _⟩ => SqL.of (s2 _ _ f1)) ?_ ?_
    · rintro i y H2 hy ⟨s2, e2⟩
      obtain ⟨t, x, rfl, ht, hx, htup⟩ := PairsAt.item (p := lp) f2 f3 hy
      have hi : i < bs.length := by
        have := (List.getElem?_eq_some_iff.mp hx).1
        omega
      have hbi : bs[i]? = some bs[i] := List.getElem?_eq_getElem hi
      have hx' := lay_at hbi
      rw [hx] at hx'
      have : x = (bs[i].start, bs[i].len) := Option.some.inj hx'
      subst this
      have P2 := P1.same s2
      refine ⟨rfl, tYes_if ?_⟩
      refine ⟨_, rfl, c.h, dh, _, rfl, s2 _ _ (s1 _ _ h1), mhF_no_number_at, _, rfl, t, _, _, _, rfl, rfl, SqT.of (s2 _ _ htup), atI_nat (j := 0) rfl, ?_⟩
      refine ⟨c, bs[i], rfl, P2, hperm.mem_iff.mp (List.getElem_mem hi), fun b' hb' e => hch.starts (hperm.mem_iff.mpr hb') (List.getElem_mem hi) e, fun H3 s3 => ?_⟩
      have e3 := s3 _ _ e2
      refine ⟨_, e3, ?_, fun b o e => by rw [upd_ne (ne_of_none e hD)]; exact s3 _ _ (s2 b o e), ?_⟩
      · rw [List.length_map]; exact small1000 (by rw [List.length_take]; omega)
      · have hn' : (bs.map (·.num))[i]? = some bs[i].num := by rw [List.getElem?_map, hbi]; rfl
        rw [upd_same, take_succ_of hn', List.map_append]; rfl
    · rintro H2 ⟨s2, e2⟩
      have e0 : (ts.map V.ref).length = (bs.map (·.num)).length := by rw [List.length_map, List.length_map, f2, hll]
      rw [e0, List.take_length, ← hnm] at e2
      have s12 := s1.trans s2
      have P2 := P.same s12
      have hlen : xs.length = bs.length := by
        have := congrArg List.length hnm
        rw [List.length_map, List.length_map] at this
        exact this
      obtain ⟨n1, n2, n3, n4⟩ := hp_sd P
      have nD : D ≠ c.rc.sd := fun z => by
        have hD0 := s1.free hD
        rw [z, P.st.sts] at hD0; cases hD0
      have nlp : lp ≠ c.rc.sd := fun z => by rw [z, P.st.sts] at hlp; cases hlp
      have nsp : sp ≠ c.rc.sd := ne_of hsp P.st.sts (by intro z; cases z)
      refine ⟨_, rfl, _, rfl, D, sp, _, _, rfl, SqL.of e2, SqL.of (s12 _ _ hsp), ?_⟩
      refine RZ.for_zipL (K := K) (a := D) (b := sp) (xs := (xs.map (·.num)).map V.int) (ys := (xs.map (·.start)).map V.int) (by simp only [List.length_map])
        (fun i σ H3 => ∃ (v4 v5 v6 : Option V), σ = [some (.ref c.h), some (.ref sp), some (.ref lp), some (.ref D), v4, v5, v6] ∧ HeapAt K H3 (c.mv (xs.take i)) ∧ Kp [c.rc.sd] H2 H3)
        ⟨none, none, none, rfl, P2, Kp.refl⟩ (fun i σ H3 ⟨_, _, _, _, _, k3⟩ => ⟨SqL.of (k3 _ _ e2 (by simp; exact nD)), SqL.of (k3 _ _ (s12 _ _ hsp) (by simp; exact nsp))⟩) ?_ ?_
      · rintro i x y T' σ H3 hx hy ⟨v4, v5, v6, rfl, P3, k3⟩ hT
        rw [List.getElem?_map, List.getElem?_map] at hx hy
        cases ex : xs[i]? with
        | none => rw [ex] at hx; cases hx
        | some b =>
          rw [ex] at hx hy
          have : x = .int b.num := (Option.some.inj hx).symm
          subst this
          have : y = .int b.start := (Option.some.inj hy).symm
          subst this
          have s3 : Same H3 (upd H3 T' (.tup [.int b.num, .int b.start])) := same_upd hT
          have P4 := P3.same s3
          obtain ⟨d4, g1⟩ := P4.ins
          obtain ⟨d5, g2⟩ := P4.st.ins
          refine ⟨T', _, rfl, SqT.of upd_same, rfl, _, _, rfl, _, _, rfl, rfl, ?_⟩
          have hsl : (sD (c.mv (xs.take i)).rc.toSc.blks).length < sizeLine := by
            rw [sD_len]
            have := P3.st.store.len
            exact small1000 (by omega)
          refine ⟨_, rfl, _, rfl, c.h, _, d4, _, _, rfl, g1, T.cl_ManagedHeap, T.na_ManagedHeap_state, mhF_state, _, _, d5, _, _, rfl, g2, T.cl_State, T.na_State_starts, stF_starts, _, rfl, c.rc.sd, _, rfl, DPut.k (k := Sum.inl b.num) P4.st.sts hsl, ?_⟩
          have hbn : b.num ∈ (c.mv (xs.take i)).rc.toSc.blks.map (·.num) := by
            show b.num ∈ ((c.rc.toSc.mv (xs.take i)).blks).map (·.num)
            rw [Sc.mv_blks, setAll_nums]
            have : b.num ∈ bs.map (·.num) := by rw [← hnm]; exact List.mem_map_of_mem (f := (·.num)) (List.mem_of_getElem? ex)
            exact (hperm.map _).mem_iff.mp this
          rw [putK_sD_old hbn P4.st.store.nums]
          have ec : c.mv (xs.take (i + 1)) = (c.mv (xs.take i)).mv [b] := by
            unfold Hc.mv Rc.mv
            rw [take_succ_of ex, setAllB_snoc]
            rfl
          have P5 := heap_mv P4 [b]
          refine ⟨_, _, _, rfl, ?_, (k3.then_same s3).trans (kp_upd (by simp))⟩
          rw [ec]
          have ed : ((c.mv (xs.take i)).rc.mv [b]).toSc.blks = setS b.num b.start (c.mv (xs.take i)).rc.toSc.blks := Sc.mv_blks (c.mv (xs.take i)).rc.toSc [b]
          rw [ed] at P5
          exact P5
      · rintro σ H3 ⟨v4, v5, v6, rfl, P3, k3⟩
        have e4 : ((xs.map (·.num)).map V.int).length = xs.length := by simp only [List.length_map]
        rw [e4, List.take_length] at P3
        obtain ⟨d4, g1⟩ := P3.ins
        obtain ⟨d5, g2⟩ := P3.man
        refine ⟨_, rfl, c.h, _, d4, _, _, rfl, g1, T.cl_ManagedHeap, T.na_ManagedHeap_manager, mhF_manager, c.m, _, d5, _, _, rfl, g2, T.cl_PolicyManager, T.na_PolicyManager_size, pmF_size, _, rfl, _, rfl, ?_⟩
        have PL : PairsAt H2 lp (lay bs) := PairsAt.same ⟨ts, f1, f2, f3⟩ s2
        have PL3 : PairsAt H3 lp (lay bs) := PL.frame k3 (by simp; exact nlp) (Tp.of_kp k3 fun b hb xs e => by
          have : b = c.rc.sd := by simpa using hb
          rw [this, s12 _ _ P.st.sts] at e; cases e)
        refine ⟨_, lp, sp, lay bs, xs.map (·.start), rfl, PL3, k3 _ _ (s12 _ _ hsp) (by simp; exact nsp), by rw [List.length_map, hll, hlen], by omega, fun x hx => ?_, fun H4 q _ s4 => kq H4 q (P3.same s4) (Same.kp s12 (k3.then_same s4))⟩
        obtain ⟨b, hb, rfl⟩ := List.mem_map.mp hx
        have := hch.mem hb
        show 0 ≤ b.len ∧ b.len ≤ 30
        omega
end
end K96
set_option Elab.async false
set_option linter.all false
set_option maxRecDepth 100000
set_option maxHeartbeats 1000000
namespace K96
open PySem PySem.Spec PyProof.Rows L2
theorem prod_ext_lists {α β : Type} : ∀ {l m : List (α × β)}, l.map (·.1) = m.map (·.1) → l.map (·.2) = m.map (·.2) → l = m
  | [], [], _, _ => rfl
  | [], _ :: _, h, _ => by cases h
  | _ :: _, [], h, _ => by cases h
  | x :: l, y :: m, h1, h2 => by
    have a1 := (List.cons.inj h1).1
    have a2 := (List.cons.inj h2).1
    rw [prod_ext_lists (List.cons.inj h1).2 (List.cons.inj h2).2, Prod.ext a1 a2]
theorem mv_same {r : Sc} {bs : List (Blk V)} (hp : bs.Perm r.blks) (nd : (r.blks.map (·.num)).Nodup) : setAllB bs r.bks = r.bks :=
  prod_ext_lists (setAllB_las _ _) ((setAllB_blks _ _).trans (setAll_same hp nd))
theorem Hc.mv_same {c : Hc} {bs : List (Blk V)} (hp : bs.Perm c.rc.blks) (nd : (c.rc.blks.map (·.num)).Nodup) : c.mv bs = c := by
  unfold Hc.mv Rc.mv
  rw [K96.mv_same hp nd]
theorem lay_starts {α : Type} (bs : List (Blk α)) : (lay bs).map (·.1) = bs.map (·.start) := by
  unfold lay; rw [List.map_map]; rfl
section
variable {w : World} {K : PySem.W.Frag} {mg : Str → Option Value} {base : Heap}
theorem heap_of {H H' : Hp} {c : Hc} {rc : Rc} (P : HeapAt K H c) (S : StAt K H' rc) (e : rc.st = c.rc.st) (f : Fr c.rc.fp H rc.fp) (k : Kp c.rc.fp H H') : HeapAt K H' { c with rc := rc } := by
  obtain ⟨⟨d1, e1⟩, ⟨d2, e2⟩, e3, e4, e5, e6, e7, e8, e9⟩ := P
  unfold Hc.fp at e6 e7
  have e6' := e6
  simp only [List.nodup_cons, List.mem_cons, not_or] at e6 e7
  obtain ⟨⟨a1, a2, a3⟩, ⟨b1, b2⟩, c1, nd⟩ := e6
  have ap : ∀ b o, H b = some o → b ∉ c.rc.fp → b ∉ rc.fp := fun b o eb hb z => by
    rcases f b z with q | q
    · exact hb q
    · rw [eb] at q; cases q
  refine ⟨⟨d1, by show H' c.h = _; rw [k _ _ e1 a3]; rw [← e]⟩, ⟨d2, k _ _ e2 e7.2.2.2⟩, S, k _ _ e4 b2, k _ _ e5 c1, ?_, ?_, e8, e9⟩
  · show (c.h :: c.el :: c.evl :: rc.fp).Nodup
    refine List.nodup_cons.mpr ⟨?_, List.nodup_cons.mpr ⟨?_, List.nodup_cons.mpr ⟨ap _ _ e5 c1, S.nd⟩⟩⟩
    · simp only [List.mem_cons, not_or]; exact ⟨a1, a2, ap _ _ e1 a3⟩
    · simp only [List.mem_cons, not_or]; exact ⟨b1, ap _ _ e4 b2⟩
  · show c.m ∉ c.h :: c.el :: c.evl :: rc.fp
    simp only [List.mem_cons, not_or]
    exact ⟨e7.1, e7.2.1, e7.2.2.1, ap _ _ e2 e7.2.2.2⟩
/-! ### do_allocate -/
def Rc.al (r : Rc) (l : Addr) (s n : Int) : Rc := { r with bks := r.bks ++ [(l, ⟨r.next, s, List.replicate n.toNat .non⟩)], next := r.next + 1, cur := s + n }
def spAlloc (K : PySem.W.Frag) : Sp := fun vs H Q E => ∃ (c : Hc) (bs : List (Blk V)) (n : Int), vs = [.ref c.h, .int n] ∧ HeapAt K H c ∧ bs.Perm c.rc.blks ∧ Chain c.size 0 bs ∧ c.size ≤ 25 ∧ 1 ≤ n ∧ n ≤ 1000 ∧ c.rc.next ∉ c.rc.blks.map (·.num) ∧
  (∀ s l H', FreeAt c.size (lay bs) s n → StAt K H' (c.rc.al l s n) → H l = none → Kp c.rc.fp H H' → Q (.int c.rc.next) H') ∧ MayRaise K [] H E
theorem sc_Alloc : FnScope ["self", "length", "starts", "start", "number"] ["self", "length"] (defScope s_ManagedHeap_do_allocate) := ⟨rfl, rfl, rfl, by decide +kernel, rfl, by decide +kernel, by decide +kernel⟩
theorem ok_Alloc (T : Top K mg) : Ok Pg w K mg base (L2.CX Pg w) 6 (He.ma K (He.ga K "ManagedHeap") "do_allocate") ["self", "length"] (spAlloc K) := by
  obtain ⟨fdL, GL, bL, _⟩ := ok_MLayout (w := w) (base := base) T
  obtain ⟨fdP, GP, bP, _⟩ := ok_PMPlace (w := w) (base := base) T
  obtain ⟨fdR, GR, bR, _⟩ := ok_Reloc (w := w) (base := base) T
  obtain ⟨fdM, GM, bM, _⟩ := ok_make (w := w) (base := base) T
  refine okX T.d_ManagedHeap_do_allocate sc_Alloc (fun vs H Q E h => ?_) (fun _ _ _ _ _ _ us hl => match us, hl with | [_, _], _ => rfl) (fun cdv A outer s H vs Q E hr h => ?_)
  · obtain ⟨c, bs, n, rfl, _⟩ := h
    rfl
  · obtain ⟨c, bs, n, rfl, P, hperm, hch, hsz, hn0, hn1, hnx, kq, ke⟩ := h
    have hu := hu_of hr
    obtain ⟨dh, h1⟩ := P.ins
    obtain ⟨dm, hm⟩ := P.man
    obtain ⟨dt, h2⟩ := P.st.ins
    refine ⟨_, pss_cons (ps_asg (pe_meth (pe_fld (pv 0) rfl) T.cl_PolicyManager T.me_PolicyManager_place GP hr bP .nil (passes_call (takes_of rfl rfl rfl rfl) (fun _ _ _ _ h => h)) (pa_cons (pe_meth0 (pv 0) T.cl_ManagedHeap T.me_ManagedHeap_layout GL (hr.mono (by decide)) bL .nil pass0) (pa_cons (pv 1) (pa_cons (pe_fld (pe_fld (pv 0) rfl) rfl) pa_nil))))
          (pg_tup (by rfl) (pgs_cons (pg_name (i := 2) sc_Alloc.nd rfl (.inl rfl)) (pgs_cons (pg_name (i := 3) sc_Alloc.nd rfl (.inl rfl)) pgs_nil))))
      (pss_cons (ps_expr (pe_meth (pv 0) T.cl_ManagedHeap T.me_ManagedHeap_relocate GR (hr.mono (by decide)) bR .nil pass0 (pa_cons (pv 2) pa_nil)))
      (pss_cons (ps_set (i := 4) sc_Alloc.nd rfl (.inl rfl) (pe_meth (pe_fld (pe_fld (pv 0) rfl) rfl) T.cl_Store T.me_Store_make GM (hr.mono (by decide)) bM .nil pass0 (pa_cons (pv 1) pa_nil)))
      (pss_cons (ps_dput hu (pe_fld (pe_fld (pv 0) rfl) rfl) (pv 4) (pv 3) rfl)
      (pss_cons (ps_fld (pe_fld (pv 0) rfl) (pe_op op_add (pv 3) (pv 1)) rfl)
      (pss_one (ps_ret (pv 4))))))), ?_⟩
    have hbl : bs.length ≤ 25 := by
      have := hch.count
      omega
    have hll := lay_len bs
    refine ⟨_, rfl, c.h, _, dh, _, _, rfl, h1, T.cl_ManagedHeap, T.na_ManagedHeap_manager, mhF_manager, c.m, dm, _, rfl, hm, pmF_no_place, _, rfl, c.h, dh, _, rfl, h1, mhF_no_layout, c, bs, c.size, rfl, P, hperm, hch, fun H1 lp hPL s1 hlp => ?_⟩
    refine ⟨_, rfl, _, rfl, c.h, _, dh, _, _, rfl, s1 _ _ h1, T.cl_ManagedHeap, T.na_ManagedHeap_state, mhF_state, c.rc.st, _, dt, _, _, rfl, s1 _ _ h2, T.cl_State, T.na_State_cursor, stF_cursor, ?_⟩
    refine ⟨c.m, lp, dm, c.size, c.pol, lay bs, n, c.rc.cur, rfl, s1 _ _ hm, hPL, LC.of hch, by omega, hn1, hsz, by omega, fun st H2 t sp hF s2 et esp => ?_, ke.same s1⟩
    have s12 := s1.trans s2
    have P2 := P.same s12
    refine ⟨t, _, rfl, SqT.of et, rfl, _, _, rfl, _, _, rfl, rfl, ?_⟩
    have esp' : H2 sp = some (.lst ((bs.map (·.start)).map V.int)) := by
      rw [esp, lay_starts]
    refine ⟨_, rfl, c.h, dh, _, rfl, s12 _ _ h1, mhF_no_relocate, _, rfl, c, bs, bs, c.size, sp, rfl, P2, hperm, hch, hsz, esp', rfl, fun H3 q P3 k3 => ?_⟩
    rw [Hc.mv_same hperm P.st.store.nums] at P3
    obtain ⟨d1, g1⟩ := P3.ins
    obtain ⟨d2, g2⟩ := P3.st.ins
    obtain ⟨d3, g3⟩ := P3.st.store.ins
    have S3 := P3.st.store
    have hbk : c.rc.bks.length < 64 := by
      have := hperm.length_eq
      unfold Sc.blks at this
      rw [List.length_map] at this
      omega
    refine ⟨_, rfl, c.h, _, d1, _, _, rfl, g1, T.cl_ManagedHeap, T.na_ManagedHeap_state, mhF_state, c.rc.st, _, d2, _, _, rfl, g2, T.cl_State, T.na_State_store, stF_store, c.rc.so, d3, _, rfl, g3, srF_no_make, _, rfl, c.rc.toSc, n, rfl, S3, by omega, hn1, hnx, hbk, fun H4 l hl S4 k4 => ?_⟩
    have hPfp := P3.nd
    have hPm := P3.mfp
    unfold Hc.fp Rc.fp at hPfp
    simp only [List.nodup_cons, List.mem_cons, not_or] at hPfp
    obtain ⟨⟨_, _, a3, a4, a5⟩, ⟨_, b2⟩, c1, ⟨c2, c3⟩, c4, _⟩ := hPfp
    have g1' := k4 _ _ g1 a5
    have g2' := k4 _ _ g2 c3
    have gsd := k4 _ _ P3.st.sts c4
    have hsl : (sD c.rc.blks).length < sizeLine := by
      rw [sD_len]
      have := S3.len
      exact small1000 (by omega)
    refine ⟨_, rfl, _, rfl, c.h, _, d1, _, _, rfl, g1', T.cl_ManagedHeap, T.na_ManagedHeap_state, mhF_state, c.rc.st, _, d2, _, _, rfl, g2', T.cl_State, T.na_State_starts, stF_starts, _, rfl, c.rc.sd, _, rfl, DPut.k (k := Sum.inl c.rc.next) gsd hsl, ?_⟩
    rw [putK_sD_new (b := ⟨c.rc.next, st, List.replicate n.toNat .non⟩) rfl rfl hnx]
    refine ⟨_, rfl, _, rfl, _, _, rfl, rfl, _, rfl, c.h, _, d1, _, _, rfl, by rw [upd_ne a4]; exact g1', T.cl_ManagedHeap, T.na_ManagedHeap_state, mhF_state, c.rc.st, _, d2, _, rfl, by rw [upd_ne c2]; exact g2', T.cl_State, T.na_State_cursor, (by show 3 < 1000; decide), ?_⟩
    have ex : putF ("cursor" : Str) (V.int (st + n)) (stF c.rc.so c.rc.sd c.rc.cur) = stF c.rc.so c.rc.sd (st + n) := stF_put_cursor
    rw [ex]
    have lst_ : l ≠ c.rc.st := (ne_of_none g2 hl).symm
    have lsd_ : l ≠ c.rc.sd := (ne_of_none P3.st.sts hl).symm
    have nds : (c.rc.toSc.sfp ++ [l]).Nodup := (S4 st).nd |> fun z => by
      have e : c.rc.toSc.sfp ++ [l] = ({ c.rc.toSc with bks := c.rc.bks ++ [(l, (⟨c.rc.next, st, List.replicate n.toNat .non⟩ : Blk V))], next := c.rc.next + 1 } : Sc).sfp := by
        unfold Sc.sfp
        show _ = _ :: _ :: _ :: (c.rc.bks ++ [_]).map (fun p : Addr × Blk V => p.1)
        rw [List.map_append]; rfl
      rw [e]; exact z
    have hl0 : H l = none := by
      cases e : H l with
      | none => rfl
      | some o =>
        exfalso
        have e2 := s12 _ _ e
        have := k3 _ _ e2 (by simp; exact lsd_)
        rw [hl] at this; cases this
    have hl0' : H l = none := hl0
    refine ⟨_, rfl, kq st l _ hF ⟨?_, ⟨d2, by show upd _ _ _ c.rc.st = _; rw [upd_same]; rfl⟩, ?_, ?_⟩ hl0' ?_⟩
    · refine (S4 st).keep fun b hb o eb => ?_
      have hb' : b ∈ c.rc.toSc.sfp ++ [l] := by
        unfold Sc.sfp at hb ⊢
        have hb2 : b ∈ c.rc.so :: c.rc.od :: c.rc.rl :: (c.rc.bks ++ [(l, (⟨c.rc.next, st, List.replicate n.toNat .non⟩ : Blk V))]).map (·.1) := hb
        rw [List.map_append] at hb2
        exact hb2
      have : b ≠ c.rc.st ∧ b ≠ c.rc.sd := by
        rcases List.mem_append.mp hb' with z | z
        · exact ⟨fun q => c3 (by rw [← q]; exact z), fun q => c4 (by rw [← q]; exact z)⟩
        · have : b = l := by simpa using z
          rw [this]; exact ⟨lst_, lsd_⟩
      rw [upd_ne this.1, upd_ne this.2]; exact eb
    · show upd _ c.rc.st _ c.rc.sd = some (HO.dK (sD ((c.rc.bks ++ [(l, (⟨c.rc.next, st, List.replicate n.toNat .non⟩ : Blk V))]).map (·.2))))
      rw [upd_ne (Ne.symm c2), upd_same, List.map_append]; rfl
    · show (c.rc.st :: c.rc.sd :: _).Nodup
      have e : ((c.rc.al l st n).toSc).sfp = c.rc.toSc.sfp ++ [l] := by
        unfold Sc.sfp Rc.al
        show _ :: _ :: _ :: (c.rc.bks ++ [_]).map (fun p : Addr × Blk V => p.1) = _
        rw [List.map_append]; rfl
      rw [e]
      refine List.nodup_cons.mpr ⟨?_, List.nodup_cons.mpr ⟨?_, nds⟩⟩
      · simp only [List.mem_cons, List.mem_append, List.not_mem_nil, or_false, not_or]
        exact ⟨c2, c3, Ne.symm lst_⟩
      · simp only [List.mem_append, List.mem_cons, List.not_mem_nil, or_false, not_or]
        exact ⟨c4, Ne.symm lsd_⟩
    · intro b o e hb
      have b1 : b ≠ c.rc.st := fun z => hb (by rw [z]; unfold Rc.fp; simp)
      have b2 : b ≠ c.rc.sd := fun z => hb (by rw [z]; unfold Rc.fp; simp)
      rw [upd_ne b1, upd_ne b2]
      exact k4 _ _ (k3 _ _ (s12 _ _ e) (by simp; exact b2)) fun z => hb (sfp_fp z)
end
end K96
set_option Elab.async false
set_option linter.all false
set_option maxRecDepth 100000
set_option maxHeartbeats 1000000
namespace K96
open PySem PySem.Spec PyProof.Rows L2
def Rc.dropk (r : Rc) (k : Int) : Rc := { r with bks := (r.toSc.drop k).bks }
def Rc.wog (r : Rc) (g : List Int) : Rc := { r with bks := (r.toSc.wo g).bks }
theorem wo_sub (r : Sc) (g : List Int) : ∀ b ∈ (r.wo g).sfp, b ∈ r.sfp := fun b hb => by
  unfold Sc.sfp at hb ⊢
  rcases List.mem_cons.mp hb with rfl | hb
  · exact List.mem_cons_self ..
  rcases List.mem_cons.mp hb with rfl | hb
  · exact List.mem_cons_of_mem _ (List.mem_cons_self ..)
  rcases List.mem_cons.mp hb with rfl | hb
  · exact List.mem_cons_of_mem _ (List.mem_cons_of_mem _ (List.mem_cons_self ..))
  obtain ⟨p, hp, rfl⟩ := List.mem_map.mp hb
  exact List.mem_cons_of_mem _ (List.mem_cons_of_mem _ (List.mem_cons_of_mem _ (List.mem_map_of_mem (List.mem_filter.mp hp).1)))
section
variable {w : World} {K : PySem.W.Frag} {mg : Str → Option Value} {base : Heap}
/-- a state of a part of a store -/
theorem st_part {H H' : Hp} {r r' : Rc} (S : StAt K H r) (S' : StoreAt K H' r'.toSc) (e1 : r'.st = r.st) (e2 : r'.sd = r.sd) (e3 : r'.cur = r.cur) (e4 : r'.so = r.so) (sub : ∀ b ∈ r'.toSc.sfp, b ∈ r.toSc.sfp)
    (k : ∀ b, b ≠ r.od → ∀ o, H b = some o → H' b = some o) : StAt K (upd H' r.sd (.dK (sD r'.toSc.blks))) r' := by
  obtain ⟨dx, e⟩ := S.ins
  have nd := S.nd
  have nod : r.st ≠ r.od := ne_of e S.store.objs (by intro z; cases z)
  unfold Rc.fp at nd
  simp only [List.nodup_cons, List.mem_cons, not_or] at nd
  obtain ⟨⟨a1, a2⟩, a3, _⟩ := nd
  refine ⟨S'.keep fun b hb o eb => ?_, ⟨dx, ?_⟩, by rw [e2]; exact upd_same, ?_⟩
  · rw [upd_ne fun z => a3 (by rw [← z]; exact sub b hb)]; exact eb
  · rw [e1, e2, e3, e4, upd_ne a1]; exact k _ nod _ e
  · show (r'.st :: r'.sd :: r'.toSc.sfp).Nodup
    rw [e1, e2]
    refine List.nodup_cons.mpr ⟨?_, List.nodup_cons.mpr ⟨fun z => a3 (sub _ z), S'.nd⟩⟩
    simp only [List.mem_cons, not_or]
    exact ⟨a1, fun z => a2 (sub _ z)⟩
/-! ### do_release -/
def spDoRel (K : PySem.W.Frag) : Sp := fun vs H Q E => ∃ (c : Hc) (k : Int), vs = [.ref c.h, .int k] ∧ HeapAt K H c ∧ k.natAbs.log2 < 1920 ∧ ValsOk H c.rc.toSc ∧ c.rc.roots.length ≤ 900 ∧
  (k ∈ c.rc.blks.map (·.num) → k ∉ c.rc.roots → (∀ p ∈ c.rc.bks, p.2.num ≠ k → ∀ v ∈ p.2.fs, tgt H v ≠ some k) → ∀ H', StAt K H' (c.rc.dropk k) → Kp c.rc.fp H H' → Q .non H') ∧ MayRaise K [] H E
theorem sc_DoRel : FnScope ["self", "number"] ["self", "number"] (defScope s_ManagedHeap_do_release) := ⟨rfl, rfl, rfl, by decide +kernel, rfl, by decide +kernel, by decide +kernel⟩
theorem ok_DoRel (T : Top K mg) : Ok Pg w K mg base (L2.CX Pg w) 6 (He.ma K (He.ga K "ManagedHeap") "do_release") ["self", "number"] (spDoRel K) := by
  obtain ⟨fdR, GR, bR, _⟩ := ok_release (w := w) (base := base) T
  refine okX T.d_ManagedHeap_do_release sc_DoRel (fun vs H Q E h => ?_) (fun _ _ _ _ _ _ us hl => match us, hl with | [_, _], _ => rfl) (fun cdv A outer s H vs Q E hr h => ?_)
  · obtain ⟨c, k, rfl, _⟩ := h
    rfl
  · obtain ⟨c, k, rfl, P, hz, hv, hrl, kq, ke⟩ := h
    obtain ⟨dh, h1⟩ := P.ins
    obtain ⟨dt, h2⟩ := P.st.ins
    obtain ⟨ds, h3⟩ := P.st.store.ins
    have S := P.st.store
    refine ⟨_, pss_cons (ps_expr (pe_meth (pe_fld (pe_fld (pv 0) rfl) rfl) T.cl_Store T.me_Store_release GR hr bR .nil (passes_call (takes_of rfl rfl rfl rfl) (fun _ _ _ _ h => h)) (pa_cons (pv 1) pa_nil)))
      (pss_one (ps_ddel (pe_fld (pe_fld (pv 0) rfl) rfl) (pv 1))), ?_⟩
    refine ⟨_, rfl, c.h, _, dh, _, _, rfl, h1, T.cl_ManagedHeap, T.na_ManagedHeap_state, mhF_state, c.rc.st, _, dt, _, _, rfl, h2, T.cl_State, T.na_State_store, stF_store, c.rc.so, ds, _, rfl, h3, srF_no_release, _, rfl, c.rc.toSc, k, rfl, S, hz, hv, hrl, fun hk1 hk2 hk3 H1 S1 k1 => ?_, ke⟩
    have nh : c.h ≠ c.rc.od := ne_of h1 S.objs (by intro z; cases z)
    have nst : c.rc.st ≠ c.rc.od := ne_of h2 S.objs (by intro z; cases z)
    have nsd : c.rc.sd ≠ c.rc.od := fun z => sd_not_sfp P.st (by rw [z]; simp [Sc.sfp])
    have gsd := k1 _ _ P.st.sts (by simp; exact nsd)
    obtain ⟨b, hb, rfl⟩ := List.mem_map.mp hk1
    refine ⟨_, rfl, c.h, _, dh, _, _, rfl, k1 _ _ h1 (by simp; exact nh), T.cl_ManagedHeap, T.na_ManagedHeap_state, mhF_state, c.rc.st, _, dt, _, _, rfl, k1 _ _ h2 (by simp; exact nst), T.cl_State, T.na_State_starts, stF_starts, _, rfl, c.rc.sd, _, Sum.inl b.num, rfl, gsd, rfl, by rw [valV_sD S.nums hb]; rfl, ?_⟩
    rw [dropK_sD, ← drop_blks]
    refine kq hk1 hk2 hk3 _ ?_ ?_
    · exact st_part (r' := c.rc.dropk b.num) P.st S1 rfl rfl rfl rfl (drop_sub _ _) fun b hb o e => k1 _ _ e (by simp; exact hb)
    · refine (k1.mono fun b hb => ?_).trans (kp_upd (by unfold Rc.fp; simp))
      have : b = c.rc.od := by simpa using hb
      rw [this]; exact sfp_fp (by simp [Sc.sfp])
/-! ### do_collect -/
def spDoCol (K : PySem.W.Frag) : Sp := fun vs H Q _ => ∃ (c : Hc), vs = [.ref c.h] ∧ HeapAt K H c ∧ ValsOk H c.rc.toSc ∧ Closed H c.rc.toSc ∧ (c.rc.blks.map (·.num)).Pairwise (· < ·) ∧ c.rc.roots.length ≤ 30 ∧ c.rc.bks.length ≤ 30 ∧
  ∀ (ks : List Int) (H' : Hp) (p : Addr), Reach H c.rc.toSc ks → StAt K H' (c.rc.wog (goneOf c.rc.toSc ks)) → Kp c.rc.fp H H' → Q (.ref p) H'
theorem sc_DoCol : FnScope ["self", "gone", "number"] ["self"] (defScope s_ManagedHeap_do_collect) := ⟨rfl, rfl, rfl, by decide +kernel, rfl, by decide +kernel, by decide +kernel⟩
theorem ok_DoCol (T : Top K mg) : Ok Pg w K mg base CX0 4 (He.ma K (He.ga K "ManagedHeap") "do_collect") ["self"] (spDoCol K) := by
  obtain ⟨fdC, GC, bC, _⟩ := ok_collect (w := w) (base := base) T
  refine ok0 T.d_ManagedHeap_do_collect sc_DoCol (fun vs H Q E h => ?_) (fun _ _ _ _ _ _ us hl => match us, hl with | [_], _ => rfl) (fun cdv A outer s H vs Q E hr h => ?_)
  · obtain ⟨c, rfl, _⟩ := h
    rfl
  · obtain ⟨c, rfl, P, hv, hcl, asc, hrl, hbl, kq⟩ := h
    obtain ⟨dh, h1⟩ := P.ins
    obtain ⟨dt, h2⟩ := P.st.ins
    obtain ⟨ds, h3⟩ := P.st.store.ins
    have S := P.st.store
    refine ⟨_, pss_cons (ps_set (i := 1) sc_DoCol.nd rfl (.inl rfl) (pe_meth0 (pe_fld (pe_fld (pv 0) rfl) rfl) T.cl_Store T.me_Store_collect GC hr bC .nil pass0))
      (pss_cons (ps_for PassesOwn.never rfl (pi_list (pv 1)) (pg_name (i := 2) sc_DoCol.nd rfl (.inl rfl))
        (pss_one (ps_ddel (pe_fld (pe_fld (pv 0) rfl) rfl) (pv 2))))
      (pss_one (ps_ret (pv 1)))), ?_⟩
    refine ⟨_, rfl, c.h, _, dh, _, _, rfl, h1, T.cl_ManagedHeap, T.na_ManagedHeap_state, mhF_state, c.rc.st, _, dt, _, _, rfl, h2, T.cl_State, T.na_State_store, stF_store, c.rc.so, ds, _, rfl, h3, srF_no_collect, c.rc.toSc, rfl, S, hv, hcl, asc, hrl, hbl, fun ks H1 p hR S1 e1 hp k1 => ?_⟩
    have nh : c.h ≠ c.rc.od := ne_of h1 S.objs (by intro z; cases z)
    have nst : c.rc.st ≠ c.rc.od := ne_of h2 S.objs (by intro z; cases z)
    have nsd : c.rc.sd ≠ c.rc.od := fun z => sd_not_sfp P.st (by rw [z]; simp [Sc.sfp])
    have gsd := k1 _ _ P.st.sts (by simp; exact nsd)
    have gh := k1 _ _ h1 (by simp; exact nh)
    have gst := k1 _ _ h2 (by simp; exact nst)
    obtain ⟨n1, n2, n3, n4⟩ := hp_sd P
    have nss := sd_ne_st P.st
    have npsd : p ≠ c.rc.sd := (ne_of_none P.st.sts hp).symm
    refine ⟨_, rfl, p, rfl, ⟨_, SqL.of e1⟩, ?_⟩
    refine for_list (K := K) (a := p) (xs := (goneOf c.rc.toSc ks).map V.int) (fun i σ H4 => ∃ v, σ = [some (.ref c.h), some (.ref p), v] ∧ H4 = upd H1 c.rc.sd (.dK (sD (wob ((goneOf c.rc.toSc ks).take i) c.rc.blks))))
      ⟨_, rfl, ?_⟩ (fun i σ H4 _ ⟨_, _, e⟩ => SqL.of (by rw [e, upd_ne npsd]; exact e1)) ?_ ?_
    · rw [List.take_zero, wob_nil]
      funext b
      by_cases e : b = c.rc.sd
      · rw [e, upd_same]; exact gsd
      · rw [upd_ne e]
    · rintro i x σ H4 hx ⟨v, rfl, rfl⟩
      rw [List.getElem?_map] at hx
      cases ex : (goneOf c.rc.toSc ks)[i]? with
      | none => rw [ex] at hx; cases hx
      | some k =>
        rw [ex] at hx
        have : x = .int k := (Option.some.inj hx).symm
        subst this
        have hkg : k ∈ goneOf c.rc.toSc ks := List.mem_of_getElem? ex
        have hkn : k ∈ c.rc.blks.map (·.num) := (List.mem_filter.mp hkg).1
        have ndg : (goneOf c.rc.toSc ks).Nodup := S.nums.sublist List.filter_sublist
        have hkt : k ∉ (goneOf c.rc.toSc ks).take i := fun z => by
          have nt : ((goneOf c.rc.toSc ks).take (i + 1)).Nodup := ndg.sublist (List.take_sublist _ _)
          rw [take_succ_of ex] at nt
          exact (List.nodup_append.mp nt).2.2 _ z _ (by simp) rfl
        obtain ⟨b, hb, rfl⟩ := List.mem_map.mp hkn
        have hbw : b ∈ wob ((goneOf c.rc.toSc ks).take i) c.rc.blks := List.mem_filter.mpr ⟨hb, decide_eq_true hkt⟩
        have nd4 : ((wob ((goneOf c.rc.toSc ks).take i) c.rc.blks).map (·.num)).Nodup := S.nums.sublist (List.filter_sublist.map _)
        refine ⟨_, rfl, c.h, _, dh, _, _, rfl, by rw [upd_ne n1]; exact gh, T.cl_ManagedHeap, T.na_ManagedHeap_state, mhF_state, c.rc.st, _, dt, _, _, rfl, by rw [upd_ne nss]; exact gst, T.cl_State, T.na_State_starts, stF_starts, _, rfl, c.rc.sd, _, Sum.inl b.num, rfl, upd_same, rfl, by rw [valV_sD nd4 hbw]; rfl, ?_⟩
        refine ⟨_, rfl, ?_⟩
        rw [upd_upd, dropK_sD, take_succ_of ex, ← wob_snoc]
    · rintro σ H4 ⟨v, rfl, rfl⟩
      have e0 : ((goneOf c.rc.toSc ks).map V.int).length = (goneOf c.rc.toSc ks).length := List.length_map ..
      rw [e0, List.take_length]
      refine ⟨_, rfl, kq ks _ p hR ?_ ?_⟩
      · have := st_part (r' := c.rc.wog (goneOf c.rc.toSc ks)) P.st S1 rfl rfl rfl rfl (wo_sub _ _) fun b hb o e => k1 _ _ e (by simp; exact hb)
        have e : (c.rc.wog (goneOf c.rc.toSc ks)).toSc.blks = wob (goneOf c.rc.toSc ks) c.rc.blks := wo_blks _ _
        rw [e] at this
        exact this
      · refine (k1.mono fun b hb => ?_).trans (kp_upd (by unfold Rc.fp; simp))
        have : b = c.rc.od := by simpa using hb
        rw [this]; exact sfp_fp (by simp [Sc.sfp])
/-! ### moving -/
def spMoving (K : PySem.W.Frag) : Sp := fun vs H Q _ => ∃ (c : Hc), vs = [.ref c.h] ∧ HeapAt K H c ∧ Q .non H
theorem sc_Moving : FnScope ["self"] ["self"] (defScope s_ManagedHeap_moving) := ⟨rfl, rfl, rfl, by decide +kernel, rfl, by decide +kernel, by decide +kernel⟩
theorem ok_Moving (T : Top K mg) : Ok Pg w K mg base CX0 1 (He.ma K (He.ga K "ManagedHeap") "moving") ["self"] (spMoving K) := by
  refine ok0 T.d_ManagedHeap_moving sc_Moving (fun vs H Q E h => ?_) (fun _ _ _ _ _ _ us hl => match us, hl with | [_], _ => rfl) (fun cdv A outer s H vs Q E hr h => ?_)
  · obtain ⟨c, rfl, _⟩ := h
    rfl
  · obtain ⟨c, rfl, P, kq⟩ := h
    obtain ⟨dh, h1⟩ := P.ins
    obtain ⟨dm, hm⟩ := P.man
    refine ⟨_, pss_one (ps_if (pt_val (pe_fld (pe_fld (pv 0) rfl) rfl)) (pss_one ps_never) pss_nil), ?_⟩
    refine ⟨_, rfl, c.h, _, dh, _, _, rfl, h1, T.cl_ManagedHeap, T.na_ManagedHeap_manager, mhF_manager, c.m, _, dm, _, _, rfl, hm, T.cl_PolicyManager, T.na_PolicyManager_strategy, pmF_strategy, _, rfl, ?_⟩
    exact iteF kq
end
end K96
set_option Elab.async false
set_option linter.all false
set_option maxRecDepth 100000
set_option maxHeartbeats 1000000
namespace K96
open PySem PySem.Spec PyProof.Rows L2
theorem gap_at {l : List PI} {i : Nat} {x : PI} {e : Int} (h : l[i]? = some x) : gap e (l.drop i) = if x.1 > e then some (x.1, e) else gap (x.1 + x.2) (l.drop (i + 1)) := by
  obtain ⟨hi, e2⟩ := List.getElem?_eq_some_iff.mp h
  rw [List.drop_eq_getElem_cons hi, e2]; rfl
section
variable {w : World} {K : PySem.W.Frag} {mg : Str → Option Value} {base : Heap}
/-! ### do_compact -/
def spCompact (K : PySem.W.Frag) : Sp := fun vs H Q _ => ∃ (c : Hc) (bs : List (Blk V)), vs = [.ref c.h] ∧ HeapAt K H c ∧ bs.Perm c.rc.blks ∧ Chain c.size 0 bs ∧ c.size ≤ 25 ∧
  ∀ (H' : Hp) (q : Addr), HeapAt K H' (c.mv (pack 0 bs)) → Kp [c.rc.sd] H H' → Q (.ref q) H'
theorem sc_Compact : FnScope ["self", "block"] ["self"] (defScope s_ManagedHeap_do_compact) := ⟨rfl, rfl, rfl, by decide +kernel, rfl, by decide +kernel, by decide +kernel⟩
theorem ok_Compact (T : Top K mg) : Ok Pg w K mg base CX0 4 (He.ma K (He.ga K "ManagedHeap") "do_compact") ["self"] (spCompact K) := by
  obtain ⟨fdL, GL, bL, _⟩ := ok_MLayout (w := w) (base := base) T
  obtain ⟨fdR, GR, bR, _⟩ := ok_Reloc (w := w) (base := base) T
  obtain ⟨fdM, GM, bM, _⟩ := ok_Moving (w := w) (base := base) T
  obtain ⟨fdS, GS, bS, kS⟩ := ok_slideL (w := w) (base := base) T
  refine ok0 T.d_ManagedHeap_do_compact sc_Compact (fun vs H Q E h => ?_) (fun _ _ _ _ _ _ us hl => match us, hl with | [_], _ => rfl) (fun cdv A outer s H vs Q E hr h => ?_)
  · obtain ⟨c, bs, rfl, _⟩ := h
    rfl
  · obtain ⟨c, bs, rfl, P, hperm, hch, hsz, kq⟩ := h
    obtain ⟨dh, h1⟩ := P.ins
    obtain ⟨dm, hm⟩ := P.man
    have hr1 : Room 1 _ := hr.mono (by decide)
    refine ⟨_, pss_cons (ps_expr (pe_meth0 (pv 0) T.cl_ManagedHeap T.me_ManagedHeap_moving GM hr1 bM .nil pass0))
      (pss_one (ps_ret (pe_meth (pv 0) T.cl_ManagedHeap T.me_ManagedHeap_relocate GR hr bR .nil pass0 (pa_cons
        (pe_lc (own := [("block", 1)]) (g := gName 1) (tt := tYes) (te := tOp (rIxT K) (tVar 1) (tC (V.int 0))) rfl sc_Compact.nd (pi_list (pe_call GS hr1 (by rfl) T.mg_slide_left kS bS .nil pass0 (pa_cons (pe_fld (pe_fld (pv 0) rfl) rfl) (pa_cons (pe_meth0 (pv 0) T.cl_ManagedHeap T.me_ManagedHeap_layout GL hr1 bL .nil pass0) pa_nil)))) (blkOk_by (own := [("block", 1)]) (N := ["self", "block"]) (sc := defScope s_ManagedHeap_do_compact) (by decide +kernel))
          (fun _ _ _ _ _ => pg_name (i := 1) sc_Compact.nd rfl (Or.inl rfl)) (fun _ _ _ _ _ => pts_nil) (fun _ _ _ _ _ => pe_ix ix_tup (pv 1) pe_int (fun _ _ => rfl))) pa_nil)))), ?_⟩
    have hbl : bs.length ≤ 25 := by
      have := hch.count
      omega
    have hll := lay_len bs
    refine ⟨_, rfl, c.h, dh, _, rfl, h1, mhF_no_moving, c, rfl, P, ?_⟩
    refine ⟨_, rfl, c.h, dh, _, rfl, h1, mhF_no_relocate, ?_⟩
    refine ⟨_, rfl, c.h, _, dh, _, _, rfl, h1, T.cl_ManagedHeap, T.na_ManagedHeap_manager, mhF_manager, c.m, _, dm, _, _, rfl, hm, T.cl_PolicyManager, T.na_PolicyManager_size, pmF_size, ?_⟩
    refine ⟨_, rfl, c.h, dh, _, rfl, h1, mhF_no_layout, c, bs, c.size, rfl, P, hperm, hch, fun H1 lp hPL s1 hlp => ?_⟩
    refine ⟨c.size, lp, lay bs, rfl, hPL, by omega, fun H2 q hPQ s2 hq => ?_⟩
    rw [packP_lay] at hPQ
    obtain ⟨ts, f1, f2, f3⟩ := hPQ
    refine ⟨q, rfl, ⟨_, SqL.of f1⟩, fun D hD => ?_⟩
    have epl : (lay (pack 0 bs)).length ≤ 25 := by
      rw [← packP_lay, packP_len]; omega
    refine lc_list (K := K) (a := q) (xs := ts.map V.ref) (fun i H3 => Same H2 H3 ∧ H3 D = some (.lst ((((lay (pack 0 bs)).map (·.1)).take i).map V.int))) ⟨same_upd hD, upd_same⟩ (fun i H3 _ ⟨s3, _⟩ => SqL.of (s3 _ _ f1)) ?_ ?_
    · rintro i y H3 hy ⟨s3, e3⟩
      obtain ⟨t, x, rfl, ht, hx, htup⟩ := PairsAt.item (p := q) f2 f3 hy
      have hi : i < 25 := by
        have := (List.getElem?_eq_some_iff.mp hx).1
        omega
      refine ⟨rfl, tYes_if ?_⟩
      refine ⟨_, rfl, t, _, _, _, rfl, rfl, SqT.of (s3 _ _ htup), atI_nat (j := 0) rfl, _, e3, ?_, fun b o e => by rw [upd_ne (ne_of_none e hD)]; exact s3 b o e, ?_⟩
      · rw [List.length_map]; exact small1000 (by rw [List.length_take]; omega)
      · have hx' : ((lay (pack 0 bs)).map (·.1))[i]? = some x.1 := by rw [List.getElem?_map, hx]; rfl
        rw [upd_same, take_succ_of hx', List.map_append]; rfl
    · rintro H3 ⟨s3, e3⟩
      rw [List.length_map, f2, ← List.length_map (f := fun x : PI => x.1), List.take_length, lay_starts] at e3
      have s13 := (s1.trans s2).trans s3
      exact ⟨c, bs, pack 0 bs, c.size, D, rfl, P.same s13, hperm, hch, hsz, e3, keys_nums (pack_keys 0 bs), fun H4 q4 P4 k4 => kq H4 q4 P4 (Same.kp s13 k4)⟩
/-! ### do_slide -/
def spSlide (K : PySem.W.Frag) : Sp := fun vs H Q _ => ∃ (c : Hc) (bs : List (Blk V)), vs = [.ref c.h] ∧ HeapAt K H c ∧ bs.Perm c.rc.blks ∧ Chain c.size 0 bs ∧ c.size ≤ 25 ∧
  (gap 0 (lay bs) = none → ∀ H', Same H H' → Q .non H') ∧
  ∀ b t, b ∈ c.rc.blks → gap 0 (lay bs) = some (b.start, t) → ∀ (H' : Hp) (x : Addr), HeapAt K H' (c.mv [{ b with start := t }]) → Kp [c.rc.sd] H H' → Q (.ref x) H'
theorem sc_Slide : FnScope ["self", "end", "start", "length", "number"] ["self"] (defScope s_ManagedHeap_do_slide) := ⟨rfl, rfl, rfl, by decide +kernel, rfl, by decide +kernel, by decide +kernel⟩
theorem ok_Slide (T : Top K mg) : Ok Pg w K mg base CX0 2 (He.ma K (He.ga K "ManagedHeap") "do_slide") ["self"] (spSlide K) := by
  obtain ⟨fdL, GL, bL, _⟩ := ok_MLayout (w := w) (base := base) T
  obtain ⟨fdN, GN, bN, _⟩ := ok_NumAt (w := w) (base := base) T
  obtain ⟨fdM, GM, bM, _⟩ := ok_Moving (w := w) (base := base) T
  refine ok0 T.d_ManagedHeap_do_slide sc_Slide (fun vs H Q E h => ?_) (fun _ _ _ _ _ _ us hl => match us, hl with | [_], _ => rfl) (fun cdv A outer s H vs Q E hr h => ?_)
  · obtain ⟨c, bs, rfl, _⟩ := h
    rfl
  · obtain ⟨c, bs, rfl, P, hperm, hch, hsz, kq1, kq2⟩ := h
    have hu := hu_of hr
    obtain ⟨dh, h1⟩ := P.ins
    obtain ⟨dt, h2⟩ := P.st.ins
    refine ⟨_, pss_cons (ps_expr (pe_meth0 (pv 0) T.cl_ManagedHeap T.me_ManagedHeap_moving GM hr bM .nil pass0))
      (pss_cons (ps_set (i := 1) sc_Slide.nd rfl (.inl rfl) pe_int)
      (pss_cons (ps_for PassesOwn.never rfl (pi_list (pe_meth0 (pv 0) T.cl_ManagedHeap T.me_ManagedHeap_layout GL hr bL .nil pass0)) (pg_tup (by rfl) (pgs_cons (pg_name (i := 2) sc_Slide.nd rfl (.inl rfl)) (pgs_cons (pg_name (i := 3) sc_Slide.nd rfl (.inl rfl)) pgs_nil)))
        (pss_cons (ps_if (pt_cmpR op_gt (pv 2) (pv 1) (nomark _))
          (pss_cons (ps_set (i := 4) sc_Slide.nd rfl (.inl rfl) (pe_meth (pv 0) T.cl_ManagedHeap T.me_ManagedHeap_number_at GN hr bN .nil pass0 (pa_cons (pv 2) pa_nil)))
          (pss_cons (ps_dput hu (pe_fld (pe_fld (pv 0) rfl) rfl) (pv 4) (pv 1) rfl)
          (pss_one (ps_ret (pe_tup (pa_cons (pv 4) (pa_cons (pv 2) (pa_cons (pv 1) pa_nil)))))))) pss_nil)
        (pss_one (ps_set (i := 1) sc_Slide.nd rfl (.inl rfl) (pe_op op_add (pv 2) (pv 3))))))
      (pss_one (ps_ret pe_non)))), ?_⟩
    have hll := lay_len bs
    obtain ⟨n1, n2, n3, n4⟩ := hp_sd P
    refine ⟨_, rfl, c.h, dh, _, rfl, h1, mhF_no_moving, c, rfl, P, ?_⟩
    refine ⟨_, rfl, c.h, dh, _, rfl, h1, mhF_no_layout, c, bs, c.size, rfl, P, hperm, hch, fun H1 lp hPL s1 hlp => ?_⟩
    obtain ⟨ts, f1, f2, f3⟩ := hPL
    have P1 := P.same s1
    refine ⟨lp, rfl, ⟨_, SqL.of f1⟩, ?_⟩
    refine for_list (K := K) (a := lp) (xs := ts.map V.ref) (fun i σ H2 => ∃ (v2 v3 v4 : Option V), σ = [some (.ref c.h), some (.int (en 0 ((lay bs).take i))), v2, v3, v4] ∧ H2 = H1 ∧ gap 0 (lay bs) = gap (en 0 ((lay bs).take i)) ((lay bs).drop i))
      ⟨none, none, none, rfl, rfl, rfl⟩ (fun i σ H2 _ ⟨_, _, _, _, e, _⟩ => SqL.of (by rw [e]; exact f1)) ?_ ?_
    · rintro i y σ H2 hy ⟨v2, v3, v4, rfl, rfl, hg⟩
      obtain ⟨t, x, rfl, ht, hx, htup⟩ := PairsAt.item (p := lp) f2 f3 hy
      rw [gap_at hx] at hg
      refine ⟨t, _, rfl, SqT.of htup, rfl, _, _, rfl, _, _, rfl, rfl, ?_⟩
      refine ⟨_, rfl, _, rfl, _, _, rfl, rfl, _, rfl, ?_⟩
      by_cases g : x.1 > en 0 ((lay bs).take i)
      · rw [decide_eq_true g]
        rw [if_pos g] at hg
        refine iteT ?_
        have hi : i < bs.length := by
          have := (List.getElem?_eq_some_iff.mp hx).1
          omega
        have hx' := lay_at (List.getElem?_eq_getElem hi)
        rw [hx] at hx'
        have : x = (bs[i].start, bs[i].len) := Option.some.inj hx'
        subst this
        have hbm : bs[i] ∈ c.rc.blks := hperm.mem_iff.mp (List.getElem_mem hi)
        refine ⟨_, rfl, c.h, dh, _, rfl, s1 _ _ h1, mhF_no_number_at, _, rfl, c, bs[i], rfl, P1, hbm, fun b' hb' e => hch.starts (hperm.mem_iff.mpr hb') (List.getElem_mem hi) e, fun H3 s3 => ?_⟩
        have P3 := P1.same s3
        have s13 := s1.trans s3
        have hsl : (sD c.rc.blks).length < sizeLine := by
          rw [sD_len]
          have := P3.st.store.len
          exact small1000 (by omega)
        refine ⟨_, rfl, _, rfl, c.h, _, dh, _, _, rfl, s13 _ _ h1, T.cl_ManagedHeap, T.na_ManagedHeap_state, mhF_state, c.rc.st, _, dt, _, _, rfl, s13 _ _ h2, T.cl_State, T.na_State_starts, stF_starts, _, rfl, c.rc.sd, _, rfl, DPut.k (k := Sum.inl bs[i].num) P3.st.sts hsl, ?_⟩
        rw [putK_sD_old (List.mem_map_of_mem hbm) P3.st.store.nums]
        have P5 := heap_mv P3 [{ bs[i] with start := en 0 ((lay bs).take i) }]
        have ed : (c.rc.mv [{ bs[i] with start := en 0 ((lay bs).take i) }]).toSc.blks = setS bs[i].num (en 0 ((lay bs).take i)) c.rc.toSc.blks := Sc.mv_blks c.rc.toSc [{ bs[i] with start := en 0 ((lay bs).take i) }]
        rw [ed] at P5
        refine ⟨_, rfl, _, rfl, _, rfl, (by show 3 ≤ sizeLine; decide), fun u hu => ?_⟩
        exact kq2 bs[i] _ hbm hg _ u (P5.same (same_upd hu)) ((Same.kp s13 (kp_upd (by simp))).then_same (same_upd hu))
      · rw [decide_eq_false g]
        rw [if_neg g] at hg
        refine iteF ⟨_, rfl, _, rfl, _, _, rfl, rfl, some (.int x.1), some (.int x.2), v4, ?_, rfl, ?_⟩
        · rw [take_succ_of hx, en_snoc]; rfl
        · rw [take_succ_of hx, en_snoc]; exact hg
    · rintro σ H2 ⟨v2, v3, v4, rfl, rfl, hg⟩
      have : (lay bs).drop (ts.map V.ref).length = [] := by rw [List.length_map, f2, List.drop_length]
      rw [this] at hg
      exact kq1 hg _ s1
end
end K96
set_option Elab.async false
set_option linter.all false
set_option maxRecDepth 100000
set_option maxHeartbeats 1000000
namespace K96
open PySem PySem.Spec PyProof.Rows L2
theorem if_ne {a b : Str} {A B : Prop} (h : a ≠ b) (k : B) : if decide (V.str a = V.str b) = true then A else B := by
  rw [decide_eq_false fun e => h (by injection e)]; exact iteF k
theorem if_eq {a : Str} {A B : Prop} (k : A) : if decide (V.str a = V.str a) = true then A else B := by
  rw [decide_eq_true rfl]; exact iteT k
section
variable {w : World} {K : PySem.W.Frag} {mg : Str → Option Value} {base : Heap}
/-! ### perform -/
def spPerform (K : PySem.W.Frag) : Sp := fun vs H Q E => ∃ (c : Hc) (ev : Addr), vs = [.ref c.h, .ref ev] ∧ HeapAt K H c ∧ (
  (∃ n : V, H ev = some (.tup [.str "allocate", n]) ∧ spAlloc K [.ref c.h, n] H Q E) ∨
  (∃ k i v : V, H ev = some (.tup [.str "write", k, i, v]) ∧ spWrite K [.ref c.rc.so, k, i, v] H Q E) ∨
  (∃ n : V, H ev = some (.tup [.str "release", n]) ∧ spDoRel K [.ref c.h, n] H Q E) ∨
  (∃ n : V, H ev = some (.tup [.str "addRoot", n]) ∧ spRoot K [.ref c.rc.so, n] H Q E) ∨
  (∃ n : V, H ev = some (.tup [.str "removeRoot", n]) ∧ spRoot K [.ref c.rc.so, n] H Q E) ∨
  (H ev = some (.tup [.str "collect"]) ∧ spDoCol K [.ref c.h] H Q E) ∨
  (H ev = some (.tup [.str "compact"]) ∧ spCompact K [.ref c.h] H Q E) ∨
  (H ev = some (.tup [.str "slide"]) ∧ spSlide K [.ref c.h] H Q E))
theorem sc_Perform : FnScope ["self", "event", "word", "store"] ["self", "event"] (defScope s_ManagedHeap_perform) := ⟨rfl, rfl, rfl, by decide +kernel, rfl, by decide +kernel, by decide +kernel⟩
theorem ok_Perform (T : Top K mg) : Ok Pg w K mg base (L2.CX Pg w) 7 (He.ma K (He.ga K "ManagedHeap") "perform") ["self", "event"] (spPerform K) := by
  obtain ⟨fdA, GA, bA, _⟩ := ok_Alloc (w := w) (base := base) T
  obtain ⟨fdW, GW, bW, _⟩ := ok_write (w := w) (base := base) T
  obtain ⟨fdR, GR, bR, _⟩ := ok_DoRel (w := w) (base := base) T
  obtain ⟨fdAR, GAR, bAR, _⟩ := ok_add_root (w := w) (base := base) T
  obtain ⟨fdRR, GRR, bRR, _⟩ := ok_remove_root (w := w) (base := base) T
  obtain ⟨fdC, GC, bC, _⟩ := ok_DoCol (w := w) (base := base) T
  obtain ⟨fdP, GP, bP, _⟩ := ok_Compact (w := w) (base := base) T
  obtain ⟨fdS, GS, bS, _⟩ := ok_Slide (w := w) (base := base) T
  refine okX T.d_ManagedHeap_perform sc_Perform (fun vs H Q E h => ?_) (fun _ _ _ _ _ _ us hl => match us, hl with | [_, _], _ => rfl) (fun cdv A outer s H vs Q E hr h => ?_)
  · obtain ⟨c, ev, rfl, _⟩ := h
    rfl
  · obtain ⟨c, ev, rfl, P, hk⟩ := h
    obtain ⟨dh, h1⟩ := P.ins
    obtain ⟨dt, h2⟩ := P.st.ins
    obtain ⟨ds, h3⟩ := P.st.store.ins
    refine ⟨_, pss_cons (ps_set (i := 2) sc_Perform.nd rfl (.inl rfl) (pe_ix ix_tup (pv 1) pe_int (fun _ _ => rfl)))
      (pss_cons (ps_set (i := 3) sc_Perform.nd rfl (.inl rfl) (pe_fld (pe_fld (pv 0) rfl) rfl))
      (pss_cons (ps_if (pt_cmpR op_eq (pv 2) pe_str (nomark _)) (pss_one (ps_ret (pe_meth (pv 0) T.cl_ManagedHeap T.me_ManagedHeap_do_allocate GA hr bA .nil (passes_call (takes_of rfl rfl rfl rfl) (fun _ _ _ _ h => h)) (pa_cons (pe_ix ix_tup (pv 1) pe_int (fun _ _ => rfl)) pa_nil)))) pss_nil)
      (pss_cons (ps_if (pt_cmpR op_eq (pv 2) pe_str (nomark _)) (pss_one (ps_ret (pe_meth (pv 3) T.cl_Store T.me_Store_write GW hr bW .nil (passes_call (takes_of rfl rfl rfl rfl) (fun _ _ _ _ h => h)) (pa_cons (pe_ix ix_tup (pv 1) pe_int (fun _ _ => rfl)) (pa_cons (pe_ix ix_tup (pv 1) pe_int (fun _ _ => rfl)) (pa_cons (pe_ix ix_tup (pv 1) pe_int (fun _ _ => rfl)) pa_nil)))))) pss_nil)
      (pss_cons (ps_if (pt_cmpR op_eq (pv 2) pe_str (nomark _)) (pss_one (ps_ret (pe_meth (pv 0) T.cl_ManagedHeap T.me_ManagedHeap_do_release GR hr bR .nil (passes_call (takes_of rfl rfl rfl rfl) (fun _ _ _ _ h => h)) (pa_cons (pe_ix ix_tup (pv 1) pe_int (fun _ _ => rfl)) pa_nil)))) pss_nil)
      (pss_cons (ps_if (pt_cmpR op_eq (pv 2) pe_str (nomark _)) (pss_one (ps_ret (pe_meth (pv 3) T.cl_Store T.me_Store_add_root GAR (hr.mono (by decide)) bAR .nil (passes_call (takes_of rfl rfl rfl rfl) (fun _ _ _ _ h => h)) (pa_cons (pe_ix ix_tup (pv 1) pe_int (fun _ _ => rfl)) pa_nil)))) pss_nil)
      (pss_cons (ps_if (pt_cmpR op_eq (pv 2) pe_str (nomark _)) (pss_one (ps_ret (pe_meth (pv 3) T.cl_Store T.me_Store_remove_root GRR (hr.mono (by decide)) bRR .nil (passes_call (takes_of rfl rfl rfl rfl) (fun _ _ _ _ h => h)) (pa_cons (pe_ix ix_tup (pv 1) pe_int (fun _ _ => rfl)) pa_nil)))) pss_nil)
      (pss_cons (ps_if (pt_cmpR op_eq (pv 2) pe_str (nomark _)) (pss_one (ps_ret (pe_meth0 (pv 0) T.cl_ManagedHeap T.me_ManagedHeap_do_collect GC (hr.mono (by decide)) bC .nil pass0))) pss_nil)
      (pss_cons (ps_if (pt_cmpR op_eq (pv 2) pe_str (nomark _)) (pss_one (ps_ret (pe_meth0 (pv 0) T.cl_ManagedHeap T.me_ManagedHeap_do_compact GP (hr.mono (by decide)) bP .nil pass0))) pss_nil)
      (pss_cons (ps_if (pt_cmpR op_eq (pv 2) pe_str (nomark _)) (pss_one ps_never) pss_nil)
      (pss_one (ps_ret (pe_meth0 (pv 0) T.cl_ManagedHeap T.me_ManagedHeap_do_slide GS (hr.mono (by decide)) bS .nil pass0)))))))))))), ?_⟩
    rcases hk with ⟨n, he, hs⟩ | ⟨k, i, v, he, hs⟩ | ⟨n, he, hs⟩ | ⟨n, he, hs⟩ | ⟨n, he, hs⟩ | ⟨he, hs⟩ | ⟨he, hs⟩ | ⟨he, hs⟩
    · refine ⟨_, rfl, ev, _, _, _, rfl, rfl, SqT.of he, atI_nat (j := 0) rfl, ?_⟩
      refine ⟨_, rfl, c.h, _, dh, _, _, rfl, h1, T.cl_ManagedHeap, T.na_ManagedHeap_state, mhF_state, c.rc.st, _, dt, _, _, rfl, h2, T.cl_State, T.na_State_store, stF_store, ?_⟩
      refine ⟨_, rfl, rfl, _, rfl, if_eq ?_⟩
      exact ⟨_, rfl, c.h, dh, _, rfl, h1, mhF_no_do_allocate, _, rfl, ev, _, _, _, rfl, rfl, SqT.of he, atI_nat (j := 1) rfl, hs⟩
    · refine ⟨_, rfl, ev, _, _, _, rfl, rfl, SqT.of he, atI_nat (j := 0) rfl, ?_⟩
      refine ⟨_, rfl, c.h, _, dh, _, _, rfl, h1, T.cl_ManagedHeap, T.na_ManagedHeap_state, mhF_state, c.rc.st, _, dt, _, _, rfl, h2, T.cl_State, T.na_State_store, stF_store, ?_⟩
      refine ⟨_, rfl, rfl, _, rfl, if_ne (by decide) ?_⟩
      refine ⟨_, rfl, rfl, _, rfl, if_eq ?_⟩
      exact ⟨_, rfl, c.rc.so, ds, _, rfl, h3, srF_no_write, _, rfl, ev, _, _, _, rfl, rfl, SqT.of he, atI_nat (j := 1) rfl, _, rfl, ev, _, _, _, rfl, rfl, SqT.of he, atI_nat (j := 2) rfl, _, rfl, ev, _, _, _, rfl, rfl, SqT.of he, atI_nat (j := 3) rfl, hs⟩
    · refine ⟨_, rfl, ev, _, _, _, rfl, rfl, SqT.of he, atI_nat (j := 0) rfl, ?_⟩
      refine ⟨_, rfl, c.h, _, dh, _, _, rfl, h1, T.cl_ManagedHeap, T.na_ManagedHeap_state, mhF_state, c.rc.st, _, dt, _, _, rfl, h2, T.cl_State, T.na_State_store, stF_store, ?_⟩
      refine ⟨_, rfl, rfl, _, rfl, if_ne (by decide) ?_⟩
      refine ⟨_, rfl, rfl, _, rfl, if_ne (by decide) ?_⟩
      refine ⟨_, rfl, rfl, _, rfl, if_eq ?_⟩
      exact ⟨_, rfl, c.h, dh, _, rfl, h1, mhF_no_do_release, _, rfl, ev, _, _, _, rfl, rfl, SqT.of he, atI_nat (j := 1) rfl, hs⟩
    · refine ⟨_, rfl, ev, _, _, _, rfl, rfl, SqT.of he, atI_nat (j := 0) rfl, ?_⟩
      refine ⟨_, rfl, c.h, _, dh, _, _, rfl, h1, T.cl_ManagedHeap, T.na_ManagedHeap_state, mhF_state, c.rc.st, _, dt, _, _, rfl, h2, T.cl_State, T.na_State_store, stF_store, ?_⟩
      refine ⟨_, rfl, rfl, _, rfl, if_ne (by decide) ?_⟩
      refine ⟨_, rfl, rfl, _, rfl, if_ne (by decide) ?_⟩
      refine ⟨_, rfl, rfl, _, rfl, if_ne (by decide) ?_⟩
      refine ⟨_, rfl, rfl, _, rfl, if_eq ?_⟩
      exact ⟨_, rfl, c.rc.so, ds, _, rfl, h3, srF_no_add_root, _, rfl, ev, _, _, _, rfl, rfl, SqT.of he, atI_nat (j := 1) rfl, hs⟩
    · refine ⟨_, rfl, ev, _, _, _, rfl, rfl, SqT.of he, atI_nat (j := 0) rfl, ?_⟩
      refine ⟨_, rfl, c.h, _, dh, _, _, rfl, h1, T.cl_ManagedHeap, T.na_ManagedHeap_state, mhF_state, c.rc.st, _, dt, _, _, rfl, h2, T.cl_State, T.na_State_store, stF_store, ?_⟩
      refine ⟨_, rfl, rfl, _, rfl, if_ne (by decide) ?_⟩
      refine ⟨_, rfl, rfl, _, rfl, if_ne (by decide) ?_⟩
      refine ⟨_, rfl, rfl, _, rfl, if_ne (by decide) ?_⟩
      refine ⟨_, rfl, rfl, _, rfl, if_ne (by decide) ?_⟩
      refine ⟨_, rfl, rfl, _, rfl, if_eq ?_⟩
      exact ⟨_, rfl, c.rc.so, ds, _, rfl, h3, srF_no_remove_root, _, rfl, ev, _, _, _, rfl, rfl, SqT.of he, atI_nat (j := 1) rfl, hs⟩
    · refine ⟨_, rfl, ev, _, _, _, rfl, rfl, SqT.of he, atI_nat (j := 0) rfl, ?_⟩
      refine ⟨_, rfl, c.h, _, dh, _, _, rfl, h1, T.cl_ManagedHeap, T.na_ManagedHeap_state, mhF_state, c.rc.st, _, dt, _, _, rfl, h2, T.cl_State, T.na_State_store, stF_store, ?_⟩
      refine ⟨_, rfl, rfl, _, rfl, if_ne (by decide) ?_⟩
      refine ⟨_, rfl, rfl, _, rfl, if_ne (by decide) ?_⟩
      refine ⟨_, rfl, rfl, _, rfl, if_ne (by decide) ?_⟩
      refine ⟨_, rfl, rfl, _, rfl, if_ne (by decide) ?_⟩
      refine ⟨_, rfl, rfl, _, rfl, if_ne (by decide) ?_⟩
      refine ⟨_, rfl, rfl, _, rfl, if_eq ?_⟩
      exact ⟨_, rfl, c.h, dh, _, rfl, h1, mhF_no_do_collect, hs⟩
    · refine ⟨_, rfl, ev, _, _, _, rfl, rfl, SqT.of he, atI_nat (j := 0) rfl, ?_⟩
      refine ⟨_, rfl, c.h, _, dh, _, _, rfl, h1, T.cl_ManagedHeap, T.na_ManagedHeap_state, mhF_state, c.rc.st, _, dt, _, _, rfl, h2, T.cl_State, T.na_State_store, stF_store, ?_⟩
      refine ⟨_, rfl, rfl, _, rfl, if_ne (by decide) ?_⟩
      refine ⟨_, rfl, rfl, _, rfl, if_ne (by decide) ?_⟩
      refine ⟨_, rfl, rfl, _, rfl, if_ne (by decide) ?_⟩
      refine ⟨_, rfl, rfl, _, rfl, if_ne (by decide) ?_⟩
      refine ⟨_, rfl, rfl, _, rfl, if_ne (by decide) ?_⟩
      refine ⟨_, rfl, rfl, _, rfl, if_ne (by decide) ?_⟩
      refine ⟨_, rfl, rfl, _, rfl, if_eq ?_⟩
      exact ⟨_, rfl, c.h, dh, _, rfl, h1, mhF_no_do_compact, hs⟩
    · refine ⟨_, rfl, ev, _, _, _, rfl, rfl, SqT.of he, atI_nat (j := 0) rfl, ?_⟩
      refine ⟨_, rfl, c.h, _, dh, _, _, rfl, h1, T.cl_ManagedHeap, T.na_ManagedHeap_state, mhF_state, c.rc.st, _, dt, _, _, rfl, h2, T.cl_State, T.na_State_store, stF_store, ?_⟩
      refine ⟨_, rfl, rfl, _, rfl, if_ne (by decide) ?_⟩
      refine ⟨_, rfl, rfl, _, rfl, if_ne (by decide) ?_⟩
      refine ⟨_, rfl, rfl, _, rfl, if_ne (by decide) ?_⟩
      refine ⟨_, rfl, rfl, _, rfl, if_ne (by decide) ?_⟩
      refine ⟨_, rfl, rfl, _, rfl, if_ne (by decide) ?_⟩
      refine ⟨_, rfl, rfl, _, rfl, if_ne (by decide) ?_⟩
      refine ⟨_, rfl, rfl, _, rfl, if_ne (by decide) ?_⟩
      refine ⟨_, rfl, rfl, _, rfl, if_ne (by decide) ?_⟩
      exact ⟨_, rfl, c.h, dh, _, rfl, h1, mhF_no_do_slide, hs⟩
end
end K96
set_option Elab.async false
set_option linter.all false
set_option maxRecDepth 100000
set_option maxHeartbeats 1000000
namespace K96
open PySem PySem.Spec PyProof.Rows L2
section
variable {w : World} {K : PySem.W.Frag} {mg : Str → Option Value} {base : Heap}
/-- the state rb is a copy, all of it new -/
def CopyOf (K : PySem.W.Frag) (H : Hp) (r : Rc) (H1 : Hp) (rb : Rc) : Prop := StAt K H1 rb ∧ rb.toSc.blks = r.toSc.blks ∧ rb.roots = r.roots ∧ rb.next = r.next ∧ rb.cur = r.cur ∧ Same H H1 ∧ ∀ b ∈ rb.fp, H b = none
/-- behind perform: what change goes on with -/
def Cont (K : PySem.W.Frag) (c : Hc) (ev : Addr) (word : Str) (rest : List V) (rb : Rc) (Q : VK) : VK := fun v H2 => ∃ c2 : Hc, HeapAt K H2 c2 ∧ c2.h = c.h ∧ c2.el = c.el ∧ c2.evl = c.evl ∧ c2.es = c.es ∧ c2.evs = c.evs ∧ H2 ev = some (.tup (.str word :: rest)) ∧
  (word = "slide" → v = .non → Q v H2) ∧ ((word ≠ "slide" ∨ v ≠ .non) → ∀ H3, HeapAt K H3 { c2 with es := c.es ++ [.ref rb.st], evs := c.evs ++ [.ref ev] } → Kp [c.el, c.evl] H2 H3 → Q v H3)
def spChange (K : PySem.W.Frag) : Sp := fun vs H Q E => ∃ (c : Hc) (ev : Addr) (word : Str) (rest : List V) (may : Prop), vs = [.ref c.h, .ref ev] ∧ HeapAt K H c ∧ H ev = some (.tup (.str word :: rest)) ∧ c.es.length ≤ 900 ∧ c.evs.length ≤ 900 ∧
  (may → ∀ cls d H1 H3 rb, Err K cls d H3 → CopyOf K H c.rc H1 rb → HeapAt K H3 { c with rc := rb } → Kp [c.h] H1 H3 → E cls d H3) ∧
  ∀ H1 rb, CopyOf K H c.rc H1 rb → ∀ Q' E', (∀ v H2, Cont K c ev word rest rb Q v H2 → Q' v H2) → (may → ∀ cls d H2, Err K cls d H2 → Same H1 H2 → E' cls d H2) → spPerform K [.ref c.h, .ref ev] H1 Q' E'
theorem err_exm (T : Top K mg) {cls : Value} {d : Option Addr} {H : Hp} (h : Err K cls d H) : PySem.W.exmOne K cls (.ref (He.ga K "HeapgameError")) = some true := by
  obtain ⟨dd, fs, _, _, h⟩ := h
  rcases h with ⟨rfl, _⟩ | ⟨rfl, _⟩ | ⟨rfl, _⟩ | ⟨rfl, _⟩
  · exact T.ex_NoSuchObject_HeapgameError
  · exact T.ex_NoSuchField_HeapgameError
  · exact T.ex_StillUsed_HeapgameError
  · exact T.ex_OutOfMemory_HeapgameError
/-- the heap with another, new state -/
theorem heap_back {H H1 : Hp} {c : Hc} {rb : Rc} (P : HeapAt K H c) (C : CopyOf K H c.rc H1 rb) {dx : Addr} (e : H1 c.h = some (.ins (cOf K "ManagedHeap") dx (mhF c.m c.rc.st c.el c.evl))) :
    HeapAt K (upd H1 c.h (.ins (cOf K "ManagedHeap") dx (mhF c.m rb.st c.el c.evl))) { c with rc := rb } := by
  obtain ⟨C1, C2, C3, C4, C5, s1, fr⟩ := C
  have nd := P.nd
  have hm := P.mfp
  have old : ∀ b o, H b = some o → b ∉ rb.fp := fun b o eb z => by rw [fr b z] at eb; cases eb
  obtain ⟨d1, e1⟩ := P.ins
  obtain ⟨d2, e2⟩ := P.man
  unfold Hc.fp at nd hm
  simp only [List.nodup_cons, List.mem_cons, not_or] at nd hm
  obtain ⟨⟨a1, a2, a3⟩, ⟨b1, b2⟩, c1, _⟩ := nd
  refine ⟨⟨dx, upd_same⟩, ⟨d2, ?_⟩, C1.keep fun b hb o eb => ?_, ?_, ?_, ?_, ?_, P.few1, P.few2⟩
  · show upd _ c.h _ c.m = _
    rw [upd_ne hm.1]; exact s1 _ _ e2
  · rw [upd_ne fun z => old _ _ e1 (by rw [← z]; exact hb)]; exact eb
  · show upd _ c.h _ c.el = _
    rw [upd_ne (Ne.symm a1)]; exact s1 _ _ P.ear
  · show upd _ c.h _ c.evl = _
    rw [upd_ne (Ne.symm a2)]; exact s1 _ _ P.evs
  · show (c.h :: c.el :: c.evl :: rb.fp).Nodup
    refine List.nodup_cons.mpr ⟨?_, List.nodup_cons.mpr ⟨?_, List.nodup_cons.mpr ⟨old _ _ P.evs, C1.nd⟩⟩⟩
    · simp only [List.mem_cons, not_or]; exact ⟨a1, a2, old _ _ e1⟩
    · simp only [List.mem_cons, not_or]; exact ⟨b1, old _ _ P.ear⟩
  · show c.m ∉ c.h :: c.el :: c.evl :: rb.fp
    simp only [List.mem_cons, not_or]
    exact ⟨hm.1, hm.2.1, hm.2.2.1, old _ _ e2⟩
theorem heap_log {H : Hp} {c : Hc} (P : HeapAt K H c) {es evs : List V} (h1 : es.length ≤ 1000) (h2 : evs.length ≤ 1000) : HeapAt K (upd (upd H c.el (.lst es)) c.evl (.lst evs)) { c with es := es, evs := evs } := by
  have nd := P.nd
  have hm := P.mfp
  obtain ⟨d1, e1⟩ := P.ins
  obtain ⟨d2, e2⟩ := P.man
  unfold Hc.fp at nd hm
  simp only [List.nodup_cons, List.mem_cons, not_or] at nd hm
  obtain ⟨⟨a1, a2, a3⟩, ⟨b1, b2⟩, c1, _⟩ := nd
  refine ⟨⟨d1, ?_⟩, ⟨d2, ?_⟩, P.st.keep fun b hb o eb => ?_, ?_, upd_same, P.nd, P.mfp, h1, h2⟩
  · show upd _ c.evl _ c.h = _
    rw [upd_ne a2, upd_ne a1]; exact e1
  · show upd _ c.evl _ c.m = _
    rw [upd_ne hm.2.2.1, upd_ne hm.2.1]; exact e2
  · rw [upd_ne fun z => c1 (by rw [← z]; exact hb), upd_ne fun z => b2 (by rw [← z]; exact hb)]; exact eb
  · show upd _ c.evl _ c.el = _
    rw [upd_ne b1, upd_same]
theorem sc_Change : FnScope ["self", "event", "before", "result"] ["self", "event"] (defScope s_ManagedHeap_change) := ⟨rfl, rfl, rfl, by decide +kernel, rfl, by decide +kernel, by decide +kernel⟩
theorem ok_Change (T : Top K mg) : Ok Pg w K mg base (L2.CX Pg w) 8 (He.ma K (He.ga K "ManagedHeap") "change") ["self", "event"] (spChange K) := by
  obtain ⟨fdC, GC, bC, _⟩ := ok_StCopy (w := w) (base := base) T
  obtain ⟨fdP, GP, bP, _⟩ := ok_Perform (w := w) (base := base) T
  refine okX T.d_ManagedHeap_change sc_Change (fun vs H Q E h => ?_) (fun _ _ _ _ _ _ us hl => match us, hl with | [_, _], _ => rfl) (fun cdv A outer s H vs Q E hr h => ?_)
  · obtain ⟨c, ev, word, rest, may, rfl, _⟩ := h
    rfl
  · obtain ⟨c, ev, word, rest, may, rfl, P, hev, hz1, hz2, ke, kp⟩ := h
    obtain ⟨dh, h1⟩ := P.ins
    obtain ⟨dt, h2⟩ := P.st.ins
    refine ⟨_, pss_cons (ps_set (i := 2) sc_Change.nd rfl (.inl rfl) (pe_meth0 (pe_fld (pv 0) rfl) T.cl_State T.me_State_copy GC (hr.mono (by decide)) bC .nil pass0))
      (pss_cons (ps_try_rr (ts := sFld K (tVar 0) (tVar 2) "state") rfl rfl rfl ⟨by rfl, by decide, .inl T.mg_HeapgameError⟩ (L2H.passesAt_of rfl) (takes_of rfl rfl rfl rfl)
        (fun W pn xe tk _ => pss_one (ps_set (i := 3) sc_Change.nd rfl (.inl rfl) (pe_methT (pv 0) T.cl_ManagedHeap T.me_ManagedHeap_perform GP hr bP (fun σ => passAt tk σ) (pa_cons (pv 1) pa_nil))))
        (fun a pn => ps_fld (pv 0) (pv 2) rfl))
      (pss_cons (ps_if (PW.pt (pw_or (pt_cmpR op_ne (pe_ix ix_tup (pv 1) pe_int (fun _ _ => rfl)) pe_str (nomark _)) (pw_or1 (pt_cmp (pc_notN (pv 3))))))
        (pss_cons (ps_expr (pe_bm PySem.F.plainAttrs_list PySem.F.slot_list_append PySem.F.type_list_append mt_append (pe_fld (pv 0) rfl) (pa_cons (pv 2) pa_nil)))
        (pss_one (ps_expr (pe_bm PySem.F.plainAttrs_list PySem.F.slot_list_append PySem.F.type_list_append mt_append (pe_fld (pv 0) rfl) (pa_cons (pv 1) pa_nil))))) pss_nil)
      (pss_one (ps_ret (pv 3))))), ?_⟩
    refine ⟨_, rfl, c.h, _, dh, _, _, rfl, h1, T.cl_ManagedHeap, T.na_ManagedHeap_state, mhF_state, c.rc.st, dt, _, rfl, h2, stF_no_copy, c.rc, rfl, P.st, fun H1 rb b1 b2 b3 b4 b5 s1 fr => ?_⟩
    have C : CopyOf K H c.rc H1 rb := ⟨b1, b2, b3, b4, b5, s1, fr⟩
    refine ⟨_, rfl, c.h, dh, _, rfl, s1 _ _ h1, mhF_no_perform, _, rfl, ?_⟩
    refine kp H1 rb C _ _ (fun v H2 hC => ?_) (fun hm cls d H2 hE s2 => ?_)
    · obtain ⟨c2, P2, e1, e2, e3, e4, e5, hev2, q1, q2⟩ := hC
      obtain ⟨d2, g1⟩ := P2.ins
      rw [e1, e2, e3] at g1
      have hf1 := P2.few1
      have go : ∀ σ : L2.St, σ = [some (.ref c.h), some (.ref ev), some (.ref rb.st), some v] → (∀ H3, HeapAt K H3 { c2 with es := c.es ++ [.ref rb.st], evs := c.evs ++ [.ref ev] } → Kp [c.el, c.evl] H2 H3 → Q v H3) →
          tSeq (tDrop (tBM K "list" rAppend (tFld K (tVar 0) "earlier") (tCons (tVar 2) tNil))) (tDrop (tBM K "list" rAppend (tFld K (tVar 0) "events") (tCons (tVar 1) tNil))) { nx := tRet (tVar 3) { nx := fun x H' => Q V.non H', rt := Q }, rt := Q } σ H2 := fun σ eσ q => by
        subst eσ
        have ge := P2.ear
        have gv := P2.evs
        rw [e2, e4] at ge
        rw [e3, e5] at gv
        have nd := P.nd
        unfold Hc.fp at nd
        simp only [List.nodup_cons, List.mem_cons, not_or] at nd
        obtain ⟨⟨a1, a2, a3⟩, ⟨b1, b2⟩, _⟩ := nd
        refine ⟨_, rfl, c.h, _, d2, _, _, rfl, g1, T.cl_ManagedHeap, T.na_ManagedHeap_earlier, mhF_earlier, .inl ⟨rfl, _, SqL.of ge⟩, _, rfl, c.el, _, _, rfl, rfl, ge, small1000 (by omega), ?_⟩
        have gv' : upd H2 c.el (.lst (c.es ++ [.ref rb.st])) c.evl = some (.lst c.evs) := by rw [upd_ne (Ne.symm b1)]; exact gv
        refine ⟨_, rfl, c.h, _, d2, _, _, rfl, by rw [upd_ne a1]; exact g1, T.cl_ManagedHeap, T.na_ManagedHeap_events, mhF_events, .inl ⟨rfl, _, SqL.of gv'⟩, _, rfl, c.evl, _, _, rfl, rfl, gv', small1000 (by omega), ?_⟩
        refine ⟨_, rfl, q _ ?_ ((kp_upd (by simp)).trans (kp_upd (by simp)))⟩
        rw [← e2, ← e3]
        exact heap_log P2 (es := c.es ++ [.ref rb.st]) (evs := c.evs ++ [.ref ev]) (by rw [List.length_append]; simp only [List.length_cons, List.length_nil]; omega) (by rw [List.length_append]; simp only [List.length_cons, List.length_nil]; omega)
      refine ⟨_, rfl, ev, _, _, _, rfl, rfl, SqT.of hev2, atI_nat (j := 0) rfl, rfl, _, rfl, ?_⟩
      by_cases cw : word = "slide"
      · have : (!decide (V.str word = V.str "slide")) = false := by rw [cw]; simp
        rw [this]
        refine iteF ⟨_, rfl, _, rfl, ?_⟩
        by_cases cv : v = .non
        · have : (!decide (v = V.non)) = false := by rw [cv]; simp
          rw [this]
          exact iteF ⟨_, rfl, q1 cw cv⟩
        · have : (!decide (v = V.non)) = true := by simp [cv]
          rw [this]
          exact iteT (go _ rfl (q2 (.inr cv)))
      · have : (!decide (V.str word = V.str "slide")) = true := by
          have : V.str word ≠ V.str "slide" := fun e => cw (by injection e)
          simp [this]
        rw [this]
        exact iteT (go _ rfl (q2 (.inl cw)))
    · refine ⟨err_exm T hE, ?_⟩
      have g1 := s2 _ _ (s1 _ _ h1)
      refine ⟨_, rfl, _, rfl, c.h, _, dh, _, rfl, g1, T.cl_ManagedHeap, T.na_ManagedHeap_state, (by show 4 < 1000; decide), ?_⟩
      have ex : putF ("state" : Str) (V.ref rb.st) (mhF c.m c.rc.st c.el c.evl) = mhF c.m rb.st c.el c.evl := mhF_put_state
      rw [ex]
      have C2 : CopyOf K H c.rc H2 rb := ⟨b1.same s2, b2, b3, b4, b5, s1.trans s2, fr⟩
      have hE3 : Err K cls d (upd H2 c.h (.ins (cOf K "ManagedHeap") dh (mhF c.m rb.st c.el c.evl))) := by
        obtain ⟨dd, fs, x1, x2, x3⟩ := hE
        exact ⟨dd, fs, x1, by rw [upd_ne (ne_of x2 g1 (by intro z; cases z))]; exact x2, x3⟩
      exact ke hm cls d H2 _ rb hE3 C2 (heap_back P C2 g1) (kp_upd (by simp))
end
end K96
set_option Elab.async false
set_option linter.all false
set_option maxRecDepth 100000
set_option maxHeartbeats 1000000
namespace K96
open PySem PySem.Spec PyProof.Rows L2
section
variable {w : World} {K : PySem.W.Frag} {mg : Str → Option Value} {base : Heap}
/-! ### write, compact, slide -/
def spMWrite (K : PySem.W.Frag) : Sp := fun vs H Q E => ∃ (c : Hc) (k i v : V), vs = [.ref c.h, k, i, v] ∧ HeapAt K H c ∧ ∀ t, H t = none → spChange K [.ref c.h, .ref t] (upd H t (.tup [.str "write", k, i, v])) Q E
theorem sc_MWrite : FnScope ["self", "number", "index", "value"] ["self", "number", "index", "value"] (defScope s_ManagedHeap_write) := ⟨rfl, rfl, rfl, by decide +kernel, rfl, by decide +kernel, by decide +kernel⟩
theorem ok_MWrite (T : Top K mg) : Ok Pg w K mg base (L2.CX Pg w) 9 (He.ma K (He.ga K "ManagedHeap") "write") ["self", "number", "index", "value"] (spMWrite K) := by
  obtain ⟨fdC, GC, bC, _⟩ := ok_Change (w := w) (base := base) T
  refine okX T.d_ManagedHeap_write sc_MWrite (fun vs H Q E h => ?_) (fun _ _ _ _ _ _ us hl => match us, hl with | [_, _, _, _], _ => rfl) (fun cdv A outer s H vs Q E hr h => ?_)
  · obtain ⟨c, k, i, v, rfl, _⟩ := h
    rfl
  · obtain ⟨c, k, i, v, rfl, P, q⟩ := h
    obtain ⟨dh, h1⟩ := P.ins
    refine ⟨_, pss_one (ps_ret (pe_meth (pv 0) T.cl_ManagedHeap T.me_ManagedHeap_change GC hr bC .nil (passes_call (takes_of rfl rfl rfl rfl) (fun _ _ _ _ h => h)) (pa_cons (pe_tup (pa_cons pe_str (pa_cons (pv 1) (pa_cons (pv 2) (pa_cons (pv 3) pa_nil))))) pa_nil))), ?_⟩
    exact ⟨_, rfl, c.h, dh, _, rfl, h1, mhF_no_change, _, rfl, _, rfl, _, rfl, (by show 4 ≤ sizeLine; decide), fun t ht => q t ht⟩
def spM0 (word : Str) (K : PySem.W.Frag) : Sp := fun vs H Q E => ∃ (c : Hc), vs = [.ref c.h] ∧ HeapAt K H c ∧ ∀ t, H t = none → spChange K [.ref c.h, .ref t] (upd H t (.tup [.str word])) Q E
theorem sc_MCompact : FnScope ["self"] ["self"] (defScope s_ManagedHeap_compact) := ⟨rfl, rfl, rfl, by decide +kernel, rfl, by decide +kernel, by decide +kernel⟩
theorem ok_MCompact (T : Top K mg) : Ok Pg w K mg base (L2.CX Pg w) 9 (He.ma K (He.ga K "ManagedHeap") "compact") ["self"] (spM0 "compact" K) := by
  obtain ⟨fdC, GC, bC, _⟩ := ok_Change (w := w) (base := base) T
  refine okX T.d_ManagedHeap_compact sc_MCompact (fun vs H Q E h => ?_) (fun _ _ _ _ _ _ us hl => match us, hl with | [_], _ => rfl) (fun cdv A outer s H vs Q E hr h => ?_)
  · obtain ⟨c, rfl, _⟩ := h
    rfl
  · obtain ⟨c, rfl, P, q⟩ := h
    obtain ⟨dh, h1⟩ := P.ins
    refine ⟨_, pss_one (ps_ret (pe_meth (pv 0) T.cl_ManagedHeap T.me_ManagedHeap_change GC hr bC .nil (passes_call (takes_of rfl rfl rfl rfl) (fun _ _ _ _ h => h)) (pa_cons (pe_tup (pa_cons pe_str pa_nil)) pa_nil))), ?_⟩
    exact ⟨_, rfl, c.h, dh, _, rfl, h1, mhF_no_change, (by show 1 ≤ sizeLine; decide), fun t ht => q t ht⟩
theorem sc_MSlide : FnScope ["self"] ["self"] (defScope s_ManagedHeap_slide) := ⟨rfl, rfl, rfl, by decide +kernel, rfl, by decide +kernel, by decide +kernel⟩
theorem ok_MSlide (T : Top K mg) : Ok Pg w K mg base (L2.CX Pg w) 9 (He.ma K (He.ga K "ManagedHeap") "slide") ["self"] (spM0 "slide" K) := by
  obtain ⟨fdC, GC, bC, _⟩ := ok_Change (w := w) (base := base) T
  refine okX T.d_ManagedHeap_slide sc_MSlide (fun vs H Q E h => ?_) (fun _ _ _ _ _ _ us hl => match us, hl with | [_], _ => rfl) (fun cdv A outer s H vs Q E hr h => ?_)
  · obtain ⟨c, rfl, _⟩ := h
    rfl
  · obtain ⟨c, rfl, P, q⟩ := h
    obtain ⟨dh, h1⟩ := P.ins
    refine ⟨_, pss_one (ps_ret (pe_meth (pv 0) T.cl_ManagedHeap T.me_ManagedHeap_change GC hr bC .nil (passes_call (takes_of rfl rfl rfl rfl) (fun _ _ _ _ h => h)) (pa_cons (pe_tup (pa_cons pe_str pa_nil)) pa_nil))), ?_⟩
    exact ⟨_, rfl, c.h, dh, _, rfl, h1, mhF_no_change, (by show 1 ≤ sizeLine; decide), fun t ht => q t ht⟩
/-! ### __init__ -/
def Hc.Empty (c : Hc) : Prop := c.es = [] ∧ c.evs = [] ∧ c.rc.bks = [] ∧ c.rc.roots = [] ∧ c.rc.next = 0 ∧ c.rc.cur = 0
def spMHInit (K : PySem.W.Frag) : Sp := fun vs H Q _ => ∃ (p dx m dm : Addr) (z : Int) (pol : Str), vs = [.ref p, .ref m] ∧ H p = some (.ins (He.ga K "ManagedHeap") dx []) ∧ H m = some (.ins (cOf K "PolicyManager") dm (pmF z pol)) ∧ p ≠ m ∧
  ∀ (H' : Hp) (c : Hc), HeapAt K H' c → c.h = p → c.m = m → c.size = z → c.pol = pol → c.Empty → Kp [p] H H' → (∀ b ∈ c.fp, b = p ∨ H b = none) → Q .non H'
theorem sc_MHInit : FnScope ["self", "manager"] ["self", "manager"] (defScope s_ManagedHeap___init__) := ⟨rfl, rfl, rfl, by decide +kernel, rfl, by decide +kernel, by decide +kernel⟩
theorem ok_MHInit (T : Top K mg) : Ok Pg w K mg base CX0 3 (He.ma K (He.ga K "ManagedHeap") "__init__") ["self", "manager"] (spMHInit K) := by
  obtain ⟨fdS, GS, bS, _⟩ := ok_StoreInit (w := w) (base := base) T
  obtain ⟨fdI, GI, bI, _⟩ := ok_StInit (w := w) (base := base) T
  refine ok0 T.d_ManagedHeap___init__ sc_MHInit (fun vs H Q E h => ?_) (fun _ _ _ _ _ _ us hl => match us, hl with | [_, _], _ => rfl) (fun cdv A outer s H vs Q E hr h => ?_)
  · obtain ⟨p, dx, m, dm, z, pol, rfl, _⟩ := h
    rfl
  · obtain ⟨p, dx, m, dm, z, pol, rfl, hp, hm, npm, kq⟩ := h
    refine ⟨_, pss_cons (ps_fld (pv 0) (pv 1) rfl)
      (pss_cons (ps_fld (pv 0) (pe_make T.mk_State GI hr (by rfl) T.mg_State bI .nil pass0 (pa_cons (pe_make0 T.mk_Store GS hr (by rfl) T.mg_Store bS .nil pass0) (pa_cons pe_dnewK (pa_cons pe_int pa_nil)))) rfl)
      (pss_cons (ps_fld (pv 0) (pe_lst pa_nil) rfl) (pss_one (ps_fld (pv 0) (pe_lst pa_nil) rfl)))), ?_⟩
    refine ⟨_, rfl, _, rfl, p, _, dx, _, rfl, hp, T.cl_ManagedHeap, T.na_ManagedHeap_manager, (by show 0 < 1000; decide), ?_⟩
    intro x xd nx nxd nex
    refine ⟨x, xd, rfl, upd_same, fun H1 od rl S1 k1 fod frl => ⟨rfl, ?_⟩⟩
    obtain ⟨H0, eH0⟩ : ∃ H0, H0 = upd H p (.ins (He.ga K "ManagedHeap") dx (putF "manager" (V.ref m) [])) := ⟨_, rfl⟩
    rw [← eH0] at nx nxd k1 fod frl
    have hp0 : H0 p = some (.ins (He.ga K "ManagedHeap") dx [("manager", V.ref m)]) := by rw [eH0, upd_same]; rfl
    have k0 : Kp [p] H H0 := by rw [eH0]; exact kp_upd (by simp)
    have s0 : Same H0 (upd (upd H0 xd (.own x)) x (.ins (He.ga K "Store") xd [])) := made_same nx nxd
    have s1 : Same H0 H1 := fun b o e => k1 _ _ (s0 _ _ e) (by simp; exact ne_of_none e nx)
    have fod0 := s0.free fod
    have frl0 := s0.free frl
    have hp1 := s1 _ _ hp0
    intro sd hsd
    intro st std nst nstd nest
    refine ⟨st, std, x, sd, 0, rfl, upd_same, ⟨rfl, ?_⟩⟩
    rw [upd_upd]
    have s2 : Same H1 (upd H1 sd (.dK [])) := same_upd hsd
    have nst1 : H1 st = none := s2.free nst
    have s3 : Same (upd H1 sd (.dK [])) (upd (upd (upd H1 sd (.dK [])) std (.own st)) st (.ins (He.ga K "State") std (stF x sd 0))) := fun b o e => by
      rw [upd_ne (ne_of_none e nst), upd_ne (ne_of_none e nstd)]; exact e
    have e3 : upd (upd (upd H1 sd (.dK [])) std (.own st)) st (.ins (He.ga K "State") std (stF x sd 0)) st = some (.ins (He.ga K "State") std (stF x sd 0)) := upd_same
    obtain ⟨H3, eH3⟩ : ∃ H3, H3 = upd (upd (upd H1 sd (.dK [])) std (.own st)) st (.ins (He.ga K "State") std (stF x sd 0)) := ⟨_, rfl⟩
    rw [← eH3] at s3 e3 ⊢
    have s13 := s2.trans s3
    have s03 := s1.trans s13
    have esd := s3 _ _ (upd_same : upd H1 sd (.dK []) sd = some (.dK []))
    have hp3 := s03 _ _ hp0
    refine ⟨_, rfl, p, _, dx, _, rfl, hp3, T.cl_ManagedHeap, T.na_ManagedHeap_state, (by show 1 < 1000; decide), ?_⟩
    refine ⟨Nat.zero_le _, fun el hel => ?_⟩
    have npe : p ≠ el := ne_of_none upd_same hel
    have hel3 : H3 el = none := by rw [upd_ne npe.symm] at hel; exact hel
    refine ⟨_, rfl, p, _, dx, _, rfl, by rw [upd_ne npe, upd_same], T.cl_ManagedHeap, T.na_ManagedHeap_earlier, (by show 2 < 1000; decide), ?_⟩
    refine ⟨Nat.zero_le _, fun evl hevl => ?_⟩
    have npv : p ≠ evl := ne_of_none upd_same hevl
    have nev : el ≠ evl := fun q => by rw [← q, upd_ne npe.symm, upd_same] at hevl; cases hevl
    have hevl3 : H3 evl = none := by rw [upd_ne npv.symm, upd_ne nev.symm, upd_ne npv.symm] at hevl; exact hevl
    refine ⟨_, rfl, p, _, dx, _, rfl, by rw [upd_ne npv, upd_same], T.cl_ManagedHeap, T.na_ManagedHeap_events, (by show 3 < 1000; decide), ?_⟩
    have ex : putF ("events" : Str) (V.ref evl) (putF "earlier" (V.ref el) (putF "state" (V.ref st) [("manager", V.ref m)])) = mhF m st el evl := rfl
    rw [ex]
    obtain ⟨H8, eH8⟩ : ∃ H8, H8 = upd (upd (upd (upd (upd H3 p (.ins (He.ga K "ManagedHeap") dx (putF "state" (V.ref st) [("manager", V.ref m)]))) el (.lst [])) p (.ins (He.ga K "ManagedHeap") dx (putF "earlier" (V.ref el) (putF "state" (V.ref st) [("manager", V.ref m)])))) evl (.lst [])) p (.ins (He.ga K "ManagedHeap") dx (mhF m st el evl)) := ⟨_, rfl⟩
    have g : H8 p = some (.ins (He.ga K "ManagedHeap") dx (mhF m st el evl)) := by rw [eH8, upd_same]
    have gel : H8 el = some (.lst []) := by rw [eH8, upd_ne npe.symm, upd_ne nev, upd_ne npe.symm, upd_same]
    have gevl : H8 evl = some (.lst []) := by rw [eH8, upd_ne npv.symm, upd_same]
    have k8 : Kp [p] H3 H8 := fun b o e n => by
      have nb : b ≠ p := by simpa using n
      rw [eH8, upd_ne nb, upd_ne (ne_of_none e hevl3), upd_ne nb, upd_ne (ne_of_none e hel3), upd_ne nb]; exact e
    have S3 := S1.same s13
    have fp3 : ∀ b ∈ ([x, od, rl] : List Addr), ∃ o, H3 b = some o := fun b hb => S3.some_ b (by unfold Sc.sfp; simpa using hb)
    have fp0 : ∀ b ∈ ([x, od, rl] : List Addr), H0 b = none := fun b hb => by
      rcases List.mem_cons.mp hb with rfl | hb
      · exact nx
      rcases List.mem_cons.mp hb with rfl | hb
      · exact fod0
      rcases List.mem_cons.mp hb with rfl | hb
      · exact frl0
      · cases hb
    have sfpn : ∀ b ∈ ([x, od, rl] : List Addr), b ≠ p ∧ b ≠ st ∧ b ≠ sd ∧ b ≠ el ∧ b ≠ evl := fun b hb => by
      have f0 := fp0 b hb
      obtain ⟨o, eo⟩ := fp3 b hb
      obtain ⟨o1, eo1⟩ := S1.some_ b (by unfold Sc.sfp; simpa using hb)
      exact ⟨(ne_of_none hp0 f0).symm, ne_of_none eo1 nst1, ne_of_none eo1 hsd, ne_of_none eo hel3, ne_of_none eo hevl3⟩
    have nh : ∀ b o, H0 b = some o → b ≠ st ∧ b ≠ sd ∧ b ≠ el ∧ b ≠ evl := fun b o e => ⟨ne_of_none (s1 _ _ e) nst1, ne_of_none (s1 _ _ e) hsd, ne_of_none (s03 _ _ e) hel3, ne_of_none (s03 _ _ e) hevl3⟩
    have nds : ([x, od, rl] : List Addr).Nodup := S1.nd
    have hst0 : H0 st = none := s1.free nst1
    have hsd0 : H0 sd = none := s1.free hsd
    have ssd : st ≠ sd := fun q => by rw [q, upd_same] at nst; cases nst
    have m0 : H0 m = some (.ins (cOf K "PolicyManager") dm (pmF z pol)) := k0 _ _ hm (by simp; exact Ne.symm npm)
    have fp_p := nh _ _ hp0
    have fp_m := nh _ _ m0
    have none0 : ∀ b, b ≠ p → H0 b = none → H b = none := fun b nb e => by rw [eH0, upd_ne nb] at e; exact e
    rw [← eH8]
    refine kq H8 ⟨p, m, el, evl, [], [], ⟨⟨x, od, rl, [], [], 0⟩, st, sd, 0⟩, z, pol⟩ ⟨⟨dx, g⟩, ⟨dm, k8 _ _ (s03 _ _ m0) (by simp; exact Ne.symm npm)⟩, ⟨S3.keep fun b hb o eb => ?_, ⟨std, k8 _ _ e3 (by simp; exact Ne.symm fp_p.1)⟩, k8 _ _ esd (by simp; exact Ne.symm fp_p.2.1), ?_⟩, gel, gevl, ?_, ?_, Nat.zero_le _, Nat.zero_le _⟩ rfl rfl rfl rfl ⟨rfl, rfl, rfl, rfl, rfl, rfl⟩ ?_ ?_
    · have hb' : b ∈ ([x, od, rl] : List Addr) := hb
      exact k8 _ _ eb (by simp; exact (sfpn b hb').1)
    · show (st :: sd :: [x, od, rl]).Nodup
      refine List.nodup_cons.mpr ⟨fun q => ?_, List.nodup_cons.mpr ⟨fun q => (sfpn _ q).2.2.1 rfl, nds⟩⟩
      rcases List.mem_cons.mp q with q | q
      · exact ssd q
      · exact (sfpn _ q).2.1 rfl
    · show (p :: el :: evl :: st :: sd :: [x, od, rl]).Nodup
      have nel : el ∉ ([st, sd] : List Addr) ∧ evl ∉ ([st, sd] : List Addr) := by
        have a1 := ne_of_none e3 hel3
        have a2 := ne_of_none esd hel3
        have a3 := ne_of_none e3 hevl3
        have a4 := ne_of_none esd hevl3
        simp [Ne.symm a1, Ne.symm a2, Ne.symm a3, Ne.symm a4]
      refine List.nodup_cons.mpr ⟨fun q => ?_, List.nodup_cons.mpr ⟨fun q => ?_, List.nodup_cons.mpr ⟨fun q => ?_, List.nodup_cons.mpr ⟨fun q => ?_, List.nodup_cons.mpr ⟨fun q => (sfpn _ q).2.2.1 rfl, nds⟩⟩⟩⟩⟩
      · rcases List.mem_cons.mp q with q | q
        · exact npe q
        rcases List.mem_cons.mp q with q | q
        · exact npv q
        rcases List.mem_cons.mp q with q | q
        · exact fp_p.1 q
        rcases List.mem_cons.mp q with q | q
        · exact fp_p.2.1 q
        · exact (sfpn _ q).1 rfl
      · rcases List.mem_cons.mp q with q | q
        · exact nev q
        rcases List.mem_cons.mp q with q | q
        · exact nel.1 (by rw [q]; simp)
        rcases List.mem_cons.mp q with q | q
        · exact nel.1 (by rw [q]; simp)
        · exact (sfpn _ q).2.2.2.1 rfl
      · rcases List.mem_cons.mp q with q | q
        · exact nel.2 (by rw [q]; simp)
        rcases List.mem_cons.mp q with q | q
        · exact nel.2 (by rw [q]; simp)
        · exact (sfpn _ q).2.2.2.2 rfl
      · rcases List.mem_cons.mp q with q | q
        · exact ssd q
        · exact (sfpn _ q).2.1 rfl
    · show m ∉ p :: el :: evl :: st :: sd :: [x, od, rl]
      intro q
      rcases List.mem_cons.mp q with q | q
      · exact npm q.symm
      rcases List.mem_cons.mp q with q | q
      · exact fp_m.2.2.1 q
      rcases List.mem_cons.mp q with q | q
      · exact fp_m.2.2.2 q
      rcases List.mem_cons.mp q with q | q
      · exact fp_m.1 q
      rcases List.mem_cons.mp q with q | q
      · exact fp_m.2.1 q
      · have := fp0 _ q
        rw [m0] at this; cases this
    · exact (k0.then_same s03).trans k8
    · intro b hb
      have hb' : b ∈ p :: el :: evl :: st :: sd :: [x, od, rl] := hb
      by_cases nb : b = p
      · exact .inl nb
      refine .inr (none0 b nb ?_)
      rcases List.mem_cons.mp hb' with q | q
      · exact absurd q nb
      rcases List.mem_cons.mp q with q | q
      · rw [q]; exact s03.free hel3
      rcases List.mem_cons.mp q with q | q
      · rw [q]; exact s03.free hevl3
      rcases List.mem_cons.mp q with q | q
      · rw [q]; exact hst0
      rcases List.mem_cons.mp q with q | q
      · rw [q]; exact hsd0
      · exact fp0 _ q
/-! ### policy_heap -/
def spPH (K : PySem.W.Frag) : Sp := fun vs H Q _ => ∃ (z : Int) (pol : Str), vs = [.int z, .str pol] ∧
  ∀ (H' : Hp) (c : Hc), HeapAt K H' c → c.size = z → c.pol = pol → c.Empty → Same H H' → (∀ b ∈ c.fp, H b = none) → H c.m = none → Q (.ref c.h) H'
theorem sc_PH : FnScope ["size", "policy"] ["size", "policy"] (defScope s_policy_heap) := ⟨rfl, rfl, rfl, by decide +kernel, rfl, by decide +kernel, by decide +kernel⟩
theorem ok_PH (T : Top K mg) : Ok Pg w K mg base CX0 5 (He.ga K "policy_heap") ["size", "policy"] (spPH K) := by
  obtain ⟨fdP, GP, bP, _⟩ := ok_PMInit (w := w) (base := base) T
  obtain ⟨fdI, GI, bI, _⟩ := ok_MHInit (w := w) (base := base) T
  refine ok0 T.d_policy_heap sc_PH (fun vs H Q E h => ?_) (fun _ _ _ _ _ _ us hl => match us, hl with | [_, _], _ => rfl) (fun cdv A outer s H vs Q E hr h => ?_)
  · obtain ⟨z, pol, rfl, _⟩ := h
    rfl
  · obtain ⟨z, pol, rfl, kq⟩ := h
    refine ⟨_, pss_one (ps_ret (pe_make T.mk_ManagedHeap GI hr (by rfl) T.mg_ManagedHeap bI .nil pass0 (pa_cons (pe_make T.mk_PolicyManager GP (hr.mono (by decide)) (by rfl) T.mg_PolicyManager bP .nil pass0 (pa_cons (pv 0) (pa_cons (pv 1) pa_nil))) pa_nil))), ?_⟩
    refine ⟨_, rfl, _, rfl, fun m md nm nmd nem => ⟨m, md, z, pol, rfl, upd_same, ⟨rfl, ?_⟩⟩⟩
    rw [upd_upd]
    have s1 : Same H (upd (upd H md (.own m)) m (.ins (He.ga K "PolicyManager") md (pmF z pol))) := fun b o e => by
      rw [upd_ne (ne_of_none e nm), upd_ne (ne_of_none e nmd)]; exact e
    have e1 : upd (upd H md (.own m)) m (.ins (He.ga K "PolicyManager") md (pmF z pol)) m = some (.ins (He.ga K "PolicyManager") md (pmF z pol)) := upd_same
    intro p pd np npd nep
    have npm : p ≠ m := (ne_of_none e1 np).symm
    refine ⟨p, pd, m, md, z, pol, rfl, upd_same, ?_, npm, fun H' c P c1 c2 c3 c4 c5 k fp => ⟨rfl, ?_⟩⟩
    · rw [upd_ne (ne_of_none e1 np), upd_ne (ne_of_none e1 npd)]; exact e1
    · have e : V.ref p = V.ref c.h := by rw [c1]
      rw [e]
      refine kq H' c P c3 c4 c5 (fun b o eb => k _ _ ?_ (by simp; exact ne_of_none (s1 _ _ eb) np)) (fun b hb => ?_) (by rw [c2]; exact nm)
      · have := s1 _ _ eb
        rw [upd_ne (ne_of_none this np), upd_ne (ne_of_none this npd)]; exact this
      · rcases fp b hb with z | z
        · rw [z]; exact s1.free np
        · exact s1.free ((made_same np npd).free z)
end
end K96
set_option Elab.async false
set_option linter.all false
set_option maxRecDepth 100000
set_option maxHeartbeats 1000000
namespace K96
open PySem PySem.Spec PyProof.Rows L2
section
variable {w : World} {K : PySem.W.Frag} {mg : Str → Option Value} {base : Heap}
/-! ### branch -/
def Old (K : PySem.W.Frag) (H : Hp) (es : List V) : Prop := ∀ v ∈ es, ∃ r : Rc, v = .ref r.st ∧ StAt K H r
def spBranch (K : PySem.W.Frag) : Sp := fun vs H Q _ => ∃ (c : Hc), vs = [.ref c.h] ∧ HeapAt K H c ∧ Old K H c.es ∧ c.es.length ≤ 900 ∧ c.evs.length ≤ 900 ∧
  ∀ (H' : Hp) (c' : Hc), HeapAt K H' c' → c'.m = c.m → c'.size = c.size → c'.es.length = c.es.length → c'.evs = c.evs → c'.rc.toSc.blks = c.rc.toSc.blks → c'.rc.roots = c.rc.roots → c'.rc.next = c.rc.next → c'.rc.cur = c.rc.cur → Same H H' → (∀ b ∈ c'.fp, H b = none) → Q (.ref c'.h) H'
theorem sc_Branch : FnScope ["self", "other", "state"] ["self"] (defScope s_ManagedHeap_branch) := ⟨rfl, rfl, rfl, by decide +kernel, rfl, by decide +kernel, by decide +kernel⟩
theorem ok_Branch (T : Top K mg) : Ok Pg w K mg base CX0 5 (He.ma K (He.ga K "ManagedHeap") "branch") ["self"] (spBranch K) := by
  obtain ⟨fdI, GI, bI, _⟩ := ok_MHInit (w := w) (base := base) T
  obtain ⟨fdC, GC, bC, _⟩ := ok_StCopy (w := w) (base := base) T
  refine ok0 T.d_ManagedHeap_branch sc_Branch (fun vs H Q E h => ?_) (fun _ _ _ _ _ _ us hl => match us, hl with | [_], _ => rfl) (fun cdv A outer s H vs Q E hr h => ?_)
  · obtain ⟨c, rfl, _⟩ := h
    rfl
  · obtain ⟨c, rfl, P, hold, hz1, hz2, kq⟩ := h
    obtain ⟨dh, h1⟩ := P.ins
    obtain ⟨dm, hm⟩ := P.man
    obtain ⟨dt, h2⟩ := P.st.ins
    refine ⟨_, pss_cons (ps_set (i := 1) sc_Branch.nd rfl (.inl rfl) (pe_make T.mk_ManagedHeap GI hr (by rfl) T.mg_ManagedHeap bI .nil pass0 (pa_cons (pe_fld (pv 0) rfl) pa_nil)))
      (pss_cons (ps_fld (pv 1) (pe_meth0 (pe_fld (pv 0) rfl) T.cl_State T.me_State_copy GC hr bC .nil pass0) rfl)
      (pss_cons (ps_fld (pv 1) (pe_lc (own := [("state", 2)]) (g := gName 2) (tt := tYes) (te := tMeth (He.ga K "State") "copy" (spStCopy K) [] E0 (tVar 2) tNil) rfl sc_Branch.nd (pi_list (pe_fld (pv 0) rfl)) (blkOk_by (own := [("state", 2)]) (N := ["self", "other", "state"]) (sc := defScope s_ManagedHeap_branch) (by decide +kernel))
          (fun _ _ _ _ _ => pg_name (i := 2) sc_Branch.nd rfl (Or.inl rfl)) (fun _ _ _ _ _ => pts_nil) (fun _ _ _ _ _ => pe_meth0 (pv 2) T.cl_State T.me_State_copy GC hr bC .nil pass0)) rfl)
      (pss_cons (ps_fld (pv 1) (pe_callTy call_list_of (by rfl) T.fr_list (by decide +kernel) (pa_cons (pe_fld (pv 0) rfl) pa_nil)) rfl)
      (pss_one (ps_ret (pv 1)))))), ?_⟩
    refine ⟨_, rfl, c.h, _, dh, _, _, rfl, h1, T.cl_ManagedHeap, T.na_ManagedHeap_manager, mhF_manager, fun p pd np npd nep => ?_⟩
    have s0 := made_same (C := He.ga K "ManagedHeap") np npd
    have npm : p ≠ c.m := (ne_of_none hm np).symm
    refine ⟨p, pd, c.m, dm, c.size, c.pol, rfl, upd_same, s0 _ _ hm, npm, fun H1 c0 P0 c1 c2 c3 c4 c5 k1 fp0 => ⟨rfl, ?_⟩⟩
    have s1 : Same H H1 := fun b o e => k1 _ _ (s0 _ _ e) (by simp; exact ne_of_none e np)
    -- other.state
    refine ⟨_, rfl, c.h, _, dh, _, _, rfl, s1 _ _ h1, T.cl_ManagedHeap, T.na_ManagedHeap_state, mhF_state, c.rc.st, dt, _, rfl, s1 _ _ h2, stF_no_copy, c.rc, rfl, P.st.same s1, fun H2 r' S' b1 b2 b3 b4 s2 fr => ?_⟩
    obtain ⟨d0, g0⟩ := P0.ins
    rw [c1, c2] at g0
    refine ⟨_, rfl, p, _, d0, _, rfl, s2 _ _ g0, T.cl_ManagedHeap, T.na_ManagedHeap_state, (by show 4 < 1000; decide), ?_⟩
    have ex : putF ("state" : Str) (V.ref r'.st) (mhF c.m c0.rc.st c0.el c0.evl) = mhF c.m r'.st c0.el c0.evl := mhF_put_state
    rw [ex]
    have s12 := s1.trans s2
    have np' : ∀ b o, H b = some o → b ≠ p := fun b o e => ne_of_none e np
    obtain ⟨H3, eH3⟩ : ∃ H3, H3 = upd H2 p (.ins (He.ga K "ManagedHeap") d0 (mhF c.m r'.st c0.el c0.evl)) := ⟨_, rfl⟩
    have g3 : H3 p = some (.ins (He.ga K "ManagedHeap") d0 (mhF c.m r'.st c0.el c0.evl)) := by rw [eH3, upd_same]
    have k3 : Kp [p] H2 H3 := by rw [eH3]; exact kp_upd (by simp)
    have s3 : Same H H3 := fun b o e => k3 _ _ (s12 _ _ e) (by simp; exact np' _ _ e)
    have frp : p ∉ r'.fp := fun z => by rw [fr p z] at g0; cases g0
    have S3 : StAt K H3 r' := S'.frame k3 fun b hb => by simp; exact fun z => frp (by rw [← z]; exact hb)
    rw [← eH3]
    -- other.earlier
    refine ⟨_, rfl, c.h, _, dh, _, _, rfl, s3 _ _ h1, T.cl_ManagedHeap, T.na_ManagedHeap_earlier, mhF_earlier, c.el, rfl, ⟨_, SqL.of (s3 _ _ P.ear)⟩, fun D hD => ?_⟩
    refine lc_list (K := K) (a := c.el) (xs := c.es) (fun i H4 => Same H3 H4 ∧ ∃ acc : List V, H4 D = some (.lst acc) ∧ acc.length = i) ⟨same_upd hD, [], upd_same, rfl⟩ (fun i H4 _ ⟨s4, _⟩ => SqL.of (s4 _ _ (s3 _ _ P.ear))) ?_ ?_
    · rintro i x H4 hx ⟨s4, acc, e4, hl⟩
      obtain ⟨r, rfl, Sr⟩ := hold x (List.mem_of_getElem? hx)
      have hi : i < c.es.length := (List.getElem?_eq_some_iff.mp hx).1
      have s34 := s3.trans s4
      obtain ⟨dr, er⟩ := Sr.ins
      refine ⟨rfl, tYes_if ?_⟩
      refine ⟨_, rfl, r.st, dr, _, rfl, s34 _ _ er, stF_no_copy, r, rfl, Sr.same s34, fun H5 r2 S2 _ _ _ _ s5 _ => ?_⟩
      exact ⟨acc, s5 _ _ e4, small1000 (by omega), fun b o e => by rw [upd_ne (ne_of_none e hD)]; exact s5 _ _ (s4 _ _ e), acc ++ [.ref r2.st], upd_same, by rw [List.length_append]; simp only [List.length_cons, List.length_nil]; omega⟩
    · rintro H4 ⟨s4, acc, e4, hl⟩
      have g4 := s4 _ _ g3
      have npD : p ≠ D := ne_of_none g3 hD
      refine ⟨_, rfl, p, _, d0, _, rfl, g4, T.cl_ManagedHeap, T.na_ManagedHeap_earlier, (by show 4 < 1000; decide), ?_⟩
      have ex2 : putF ("earlier" : Str) (V.ref D) (mhF c.m r'.st c0.el c0.evl) = mhF c.m r'.st D c0.evl := mhF_put_earlier
      rw [ex2]
      have s34 := s3.trans s4
      have k5 : Kp [p] H4 (upd H4 p (.ins (He.ga K "ManagedHeap") d0 (mhF c.m r'.st D c0.evl))) := kp_upd (by simp)
      have s5 : Same H (upd H4 p (.ins (He.ga K "ManagedHeap") d0 (mhF c.m r'.st D c0.evl))) := fun b o e => k5 _ _ (s34 _ _ e) (by simp; exact np' _ _ e)
      -- other.events
      refine ⟨_, rfl, c.h, _, dh, _, _, rfl, s5 _ _ h1, T.cl_ManagedHeap, T.na_ManagedHeap_events, mhF_events, c.evl, _, rfl, .inl (SqL.of (s5 _ _ P.evs)), fun L hL => ?_⟩
      have npL : p ≠ L := ne_of_none upd_same hL
      have hL4 : H4 L = none := by rw [upd_ne npL.symm] at hL; exact hL
      refine ⟨_, rfl, p, _, d0, _, rfl, by rw [upd_ne npL, upd_same], T.cl_ManagedHeap, T.na_ManagedHeap_events, (by show 4 < 1000; decide), ?_⟩
      have ex3 : putF ("events" : Str) (V.ref L) (mhF c.m r'.st D c0.evl) = mhF c.m r'.st D L := mhF_put_events
      rw [ex3]
      obtain ⟨H7, eH7⟩ : ∃ H7, H7 = upd (upd (upd H4 p (.ins (He.ga K "ManagedHeap") d0 (mhF c.m r'.st D c0.evl))) L (.lst c.evs)) p (.ins (He.ga K "ManagedHeap") d0 (mhF c.m r'.st D L)) := ⟨_, rfl⟩
      have k7 : Kp [p] H4 H7 := fun b o e n => by
        have nb : b ≠ p := by simpa using n
        rw [eH7, upd_ne nb, upd_ne (ne_of_none e hL4), upd_ne nb]; exact e
      have s7 : Same H H7 := fun b o e => k7 _ _ (s34 _ _ e) (by simp; exact np' _ _ e)
      rw [← eH7]
      have hD0 : H D = none := s3.free hD
      have hL0 : H L = none := s34.free hL4
      have oldS : ∀ b ∈ r'.fp, b ≠ D ∧ b ≠ L ∧ b ≠ p := fun b hb => by
        obtain ⟨o, e⟩ := S3.some_ b hb
        exact ⟨ne_of_none e hD, ne_of_none (s4 _ _ e) hL4, fun z => frp (by rw [← z]; exact hb)⟩
      have nDL : D ≠ L := ne_of_none e4 hL4
      refine ⟨_, rfl, kq H7 ⟨p, c.m, D, L, acc, c.evs, r', c.size, c.pol⟩ ⟨⟨d0, by rw [eH7, upd_same]⟩, ⟨dm, s7 _ _ hm⟩, (S3.same s4).frame k7 fun b hb => by simp; exact (oldS b hb).2.2, k7 _ _ e4 (by simp; exact npD.symm), by rw [eH7]; show upd _ p _ L = _; rw [upd_ne npL.symm, upd_same], ?_, ?_, by show acc.length ≤ 1000; omega, by show c.evs.length ≤ 1000; omega⟩ rfl rfl hl rfl b1 b2 b3 b4 s7 ?_⟩
      · show (p :: D :: L :: r'.fp).Nodup
        refine List.nodup_cons.mpr ⟨fun q => ?_, List.nodup_cons.mpr ⟨fun q => ?_, List.nodup_cons.mpr ⟨fun q => (oldS _ q).2.1 rfl, S'.nd⟩⟩⟩
        · rcases List.mem_cons.mp q with q | q
          · exact npD q
          rcases List.mem_cons.mp q with q | q
          · exact npL q
          · exact frp q
        · rcases List.mem_cons.mp q with q | q
          · exact nDL q
          · exact (oldS _ q).1 rfl
      · show c.m ∉ p :: D :: L :: r'.fp
        intro q
        rcases List.mem_cons.mp q with q | q
        · exact npm q.symm
        rcases List.mem_cons.mp q with q | q
        · rw [q, hD0] at hm; cases hm
        rcases List.mem_cons.mp q with q | q
        · rw [q, hL0] at hm; cases hm
        · have := fr _ q
          rw [s1 _ _ hm] at this; cases this
      · intro b hb
        have hb' : b ∈ p :: D :: L :: r'.fp := hb
        rcases List.mem_cons.mp hb' with rfl | q
        · exact np
        rcases List.mem_cons.mp q with rfl | q
        · exact hD0
        rcases List.mem_cons.mp q with rfl | q
        · exact hL0
        · exact s1.free (fr b q)
end
end K96
/-! The plain law of a slider's words. -/
set_option linter.all false
namespace K96
section
variable {α : Type}
/-- where a field lies -/
def pos (mk : Option Int) (t : Int) (c : Nat) (b : Blk α) (i : Nat) : Int := if mk = some b.num ∧ i < c then t + i else b.start + i
structure SW (fr : α) (size : Int) (bl : List (Blk α)) (mk : Option Int) (t : Int) (c : Nat) (ws : List α) : Prop where
  len : (ws.length : Int) = size
  at_ : ∀ b ∈ bl, ∀ (i : Nat) (v : α), b.fs[i]? = some v → ws[(pos mk t c b i).toNat]? = some v
  fre : ∀ j : Nat, (j : Int) < size → (∀ b ∈ bl, ¬ (b.start ≤ (j : Int) ∧ (j : Int) < b.start + b.len)) → (mk ≠ none → ¬ (t ≤ (j : Int) ∧ (j : Int) < t + c)) → ws[j]? = some fr
  mvo : ∀ k, mk = some k → ∃ b ∈ bl, b.num = k ∧ 0 ≤ t ∧ t < b.start ∧ (c : Int) ≤ b.len ∧ ∀ b' ∈ bl, b'.num ≠ k → b'.start + b'.len ≤ t ∨ b.start + b.len ≤ b'.start
theorem fs_len {b : Blk α} {i : Nat} {v : α} (h : b.fs[i]? = some v) : (i : Int) < b.len := by
  have := (List.getElem?_eq_some_iff.mp h).1
  unfold Blk.len
  omega
section
variable {fr : α} {size t : Int} {bl bs pk : List (Blk α)} {mk : Option Int} {c : Nat} {ws : List α}
theorem SW.pos_range (a : SW fr size bl mk t c ws) (o : Ord size pk bl bs) (nd : (bl.map (·.num)).Nodup) {b : Blk α} (hb : b ∈ bl) {i : Nat} (hi : (i : Int) < b.len) : 0 ≤ pos mk t c b i ∧ pos mk t c b i < size := by
  obtain ⟨h1, h2, h3⟩ := o.mem hb
  unfold pos
  by_cases e : mk = some b.num ∧ i < c
  · rw [if_pos e]
    obtain ⟨b2, hb2, e2, q1, q2, q3, _⟩ := a.mvo _ e.1
    have : b2 = b := num_inj nd hb2 hb e2
    subst this
    omega
  · rw [if_neg e]; omega
theorem SW.pos_inj (a : SW fr size bl mk t c ws) (o : Ord size pk bl bs) (nd : (bl.map (·.num)).Nodup) {b b' : Blk α} (hb : b ∈ bl) (hb' : b' ∈ bl) {i i' : Nat} (hi : (i : Int) < b.len) (hi' : (i' : Int) < b'.len)
    (h : pos mk t c b i = pos mk t c b' i') : b.num = b'.num ∧ i = i' := by
  have m1 := o.mem hb
  have m2 := o.mem hb'
  by_cases en : b.num = b'.num
  · have : b = b' := num_inj nd hb hb' en
    subst this
    refine ⟨rfl, ?_⟩
    unfold pos at h
    by_cases e : mk = some b.num ∧ i < c <;> by_cases e' : mk = some b.num ∧ i' < c
    · rw [if_pos e, if_pos e'] at h; omega
    · rw [if_pos e, if_neg e'] at h
      obtain ⟨b2, hb2, e2, q1, q2, q3, _⟩ := a.mvo _ e.1
      have : b2 = b := num_inj nd hb2 hb e2
      subst this
      have : ¬ i' < c := fun z => e' ⟨e.1, z⟩
      omega
    · rw [if_neg e, if_pos e'] at h
      obtain ⟨b2, hb2, e2, q1, q2, q3, _⟩ := a.mvo _ e'.1
      have : b2 = b := num_inj nd hb2 hb e2
      subst this
      have : ¬ i < c := fun z => e ⟨e'.1, z⟩
      omega
    · rw [if_neg e, if_neg e'] at h; omega
  · exfalso
    have ap := o.apart hb hb' en
    unfold Apart at ap
    unfold pos at h
    by_cases e : mk = some b.num ∧ i < c
    · obtain ⟨b2, hb2, e2, q1, q2, q3, q4⟩ := a.mvo _ e.1
      have : b2 = b := num_inj nd hb2 hb e2
      subst this
      have := q4 b' hb' (Ne.symm en)
      have e' : ¬ (mk = some b'.num ∧ i' < c) := fun z => en (by have := z.1; rw [e.1] at this; exact Option.some.inj this)
      rw [if_pos e, if_neg e'] at h
      omega
    · by_cases e' : mk = some b'.num ∧ i' < c
      · obtain ⟨b2, hb2, e2, q1, q2, q3, q4⟩ := a.mvo _ e'.1
        have : b2 = b' := num_inj nd hb2 hb' e2
        subst this
        have := q4 b hb en
        rw [if_neg e, if_pos e'] at h
        omega
      · rw [if_neg e, if_neg e'] at h
        omega
theorem setF_mem {k : Int} {i : Nat} {v : α} {l : List (Blk α)} {b : Blk α} (h : b ∈ setF k i v l) : ∃ b0 ∈ l, b = (if b0.num = k then { b0 with fs := b0.fs.set i v } else b0) ∧ b.num = b0.num ∧ b.start = b0.start ∧ b.len = b0.len := by
  unfold setF at h
  obtain ⟨b0, h0, rfl⟩ := List.mem_map.mp h
  refine ⟨b0, h0, rfl, ?_, ?_, setF_len k i v b0⟩ <;> split <;> rfl
theorem setF_mem' {k : Int} {i : Nat} {v : α} {l : List (Blk α)} {b0 : Blk α} (h : b0 ∈ l) : (if b0.num = k then { b0 with fs := b0.fs.set i v } else b0) ∈ setF k i v l := by
  unfold setF
  exact List.mem_map_of_mem (f := fun b => if b.num = k then { b with fs := b.fs.set i v } else b) h
/-- a field is written where it lies -/
theorem SW.write (a : SW fr size bl mk t c ws) (o : Ord size pk bl bs) (nd : (bl.map (·.num)).Nodup) {b : Blk α} (hb : b ∈ bl) {i : Nat} (hi : (i : Int) < b.len) (v : α) : SW fr size (setF b.num i v bl) mk t c (ws.set (pos mk t c b i).toNat v) := by
  have hr := a.pos_range o nd hb hi
  have al := a.len
  refine ⟨by rw [List.length_set]; exact a.len, fun d hd j u hu => ?_, fun j hj h1 h2 => ?_, fun k hk => ?_⟩
  · obtain ⟨d0, hd0, e, e1, e2, e3⟩ := setF_mem hd
    have ep : pos mk t c d j = pos mk t c d0 j := by unfold pos; rw [e1, e2]
    rw [ep]
    have hj : (j : Int) < d0.len := by rw [← e3]; exact fs_len hu
    have hrd := a.pos_range o nd hd0 hj
    rw [List.getElem?_set]
    by_cases g : (pos mk t c b i).toNat = (pos mk t c d0 j).toNat
    · obtain ⟨g1, g2⟩ := a.pos_inj o nd hb hd0 hi hj (by omega)
      have : b = d0 := num_inj nd hb hd0 g1
      subst this
      subst g2
      rw [if_pos rfl, if_pos (by omega)]
      rw [if_pos rfl] at e
      rw [e] at hu
      have hu' : (b.fs.set i v)[i]? = some u := hu
      have hil : i < b.fs.length := by have := hi; unfold Blk.len at this; omega
      rw [List.getElem?_set, if_pos rfl, if_pos hil] at hu'
      exact hu'
    · rw [if_neg g]
      refine a.at_ d0 hd0 j u ?_
      by_cases en : d0.num = b.num
      · have : d0 = b := num_inj nd hd0 hb en
        subst this
        rw [if_pos rfl] at e
        rw [e] at hu
        have hu' : (d0.fs.set i v)[j]? = some u := hu
        rw [List.getElem?_set] at hu'
        by_cases ij : i = j
        · subst ij
          exact absurd rfl g
        · rw [if_neg ij] at hu'; exact hu'
      · rw [if_neg en] at e
        rw [e] at hu; exact hu
  · have h1' : ∀ d ∈ bl, ¬ (d.start ≤ (j : Int) ∧ (j : Int) < d.start + d.len) := fun d hd => by
      have := h1 _ (setF_mem' (k := b.num) (i := i) (v := v) hd)
      have e3 := setF_len b.num i v d
      have e2 : (if d.num = b.num then ({ d with fs := d.fs.set i v } : Blk α) else d).start = d.start := by split <;> rfl
      rw [e3, e2] at this
      exact this
    rw [List.getElem?_set]
    by_cases g : (pos mk t c b i).toNat = j
    · exfalso
      unfold pos at g hr
      by_cases e : mk = some b.num ∧ i < c
      · rw [if_pos e] at g hr
        exact h2 (by rw [e.1]; simp) ⟨by omega, by omega⟩
      · rw [if_neg e] at g hr
        have := h1' b hb
        omega
    · rw [if_neg g]; exact a.fre j hj h1' h2
  · obtain ⟨b2, hb2, e2, q1, q2, q3, q4⟩ := a.mvo k hk
    have e3 := setF_len b.num i v b2
    have e4 : (if b2.num = b.num then ({ b2 with fs := b2.fs.set i v } : Blk α) else b2).start = b2.start := by split <;> rfl
    have e5 : (if b2.num = b.num then ({ b2 with fs := b2.fs.set i v } : Blk α) else b2).num = b2.num := by split <;> rfl
    refine ⟨_, setF_mem' (k := b.num) (i := i) (v := v) hb2, by rw [e5]; exact e2, q1, by rw [e4]; exact q2, by rw [e3]; exact q3, fun d hd hne => ?_⟩
    obtain ⟨d0, hd0, _, f1, f2, f3⟩ := setF_mem hd
    have := q4 d0 hd0 (by rw [← f1]; exact hne)
    rw [e3, e4, f2, f3]; exact this
/-- the next word is copied -/
theorem SW.copy (a : SW fr size bl mk t c ws) (o : Ord size pk bl bs) (nd : (bl.map (·.num)).Nodup) {b : Blk α} (hb : b ∈ bl) (hk : mk = some b.num) {v : α} (hv : b.fs[c]? = some v) : SW fr size bl mk t (c + 1) (ws.set (t + c).toNat v) := by
  have hc := fs_len hv
  have al := a.len
  obtain ⟨b2, hb2, e2, q1, q2, q3, q4⟩ := a.mvo _ hk
  have : b2 = b := num_inj nd hb2 hb e2
  subst this
  have mb := o.mem hb
  refine ⟨by rw [List.length_set]; exact a.len, fun d hd j u hu => ?_, fun j hj h1 h2 => ?_, fun k hk' => ?_⟩
  · have hj := fs_len hu
    have md := o.mem hd
    rw [List.getElem?_set]
    by_cases g : (t + c).toNat = (pos mk t (c + 1) d j).toNat
    · have : d.num = b2.num ∧ j = c := by
        unfold pos at g
        by_cases e : mk = some d.num ∧ j < c + 1
        · rw [if_pos e] at g
          have := e.1
          rw [hk] at this
          exact ⟨(Option.some.inj this).symm, by omega⟩
        · exfalso
          rw [if_neg e] at g
          by_cases en : d.num = b2.num
          · have : d = b2 := num_inj nd hd hb en
            subst this
            have : ¬ j < c + 1 := fun z => e ⟨hk, z⟩
            omega
          · have := q4 d hd en
            omega
      obtain ⟨g1, g2⟩ := this
      have : d = b2 := num_inj nd hd hb g1
      subst this
      subst g2
      rw [hv] at hu
      have : v = u := Option.some.inj hu
      subst this
      rw [if_pos g, if_pos (by omega)]
    · rw [if_neg g]
      have old := a.at_ d hd j u hu
      have : pos mk t (c + 1) d j = pos mk t c d j := by
        unfold pos
        by_cases e : mk = some d.num ∧ j < c
        · rw [if_pos e, if_pos ⟨e.1, by omega⟩]
        · rw [if_neg e]
          by_cases e' : mk = some d.num ∧ j < c + 1
          · exfalso
            have hjc : j = c := by
              have : ¬ j < c := fun z => e ⟨e'.1, z⟩
              omega
            apply g
            unfold pos
            rw [if_pos e', hjc]
          · rw [if_neg e']
      rw [this]; exact old
  · rw [List.getElem?_set]
    have h2' := h2 (by rw [hk]; simp)
    by_cases g : (t + c).toNat = j
    · exfalso; omega
    · rw [if_neg g]
      exact a.fre j hj h1 fun _ => by omega
  · have hkk : k = b2.num := by rw [hk] at hk'; exact (Option.some.inj hk').symm
    subst hkk
    exact ⟨b2, hb, rfl, q1, q2, by omega, q4⟩
/-- a block is chosen -/
theorem SW.begin (a : SW fr size bl none t c ws) {b : Blk α} (hb : b ∈ bl) {e : Int} (h0 : 0 ≤ e) (h1 : e < b.start) (h2 : ∀ b' ∈ bl, b'.num ≠ b.num → b'.start + b'.len ≤ e ∨ b.start + b.len ≤ b'.start) : SW fr size bl (some b.num) e 0 ws := by
  have p0 : ∀ (d : Blk α) (j : Nat), pos (some b.num) e 0 d j = pos none t c d j := fun d j => by
    unfold pos
    rw [if_neg (by simp), if_neg (by simp)]
  refine ⟨a.len, fun d hd j u hu => by rw [p0]; exact a.at_ d hd j u hu, fun j hj g1 g2 => a.fre j hj g1 (fun z => absurd rfl z), fun k hk => ?_⟩
  have : k = b.num := (Option.some.inj hk).symm
  subst this
  exact ⟨b, hb, rfl, h0, h1, by have := b.len_nonneg; omega, h2⟩
theorem setS_mem {k e : Int} {l : List (Blk α)} {b : Blk α} (h : b ∈ setS k e l) : ∃ b0 ∈ l, b.num = b0.num ∧ b.fs = b0.fs ∧ (b0.num = k → b.start = e) ∧ (b0.num ≠ k → b.start = b0.start) := by
  unfold setS at h
  obtain ⟨b0, h0, rfl⟩ := List.mem_map.mp h
  refine ⟨b0, h0, ?_, ?_, fun z => ?_, fun z => ?_⟩
  · split <;> rfl
  · split <;> rfl
  · rw [if_pos z]
  · rw [if_neg z]
theorem setS_mem' {k e : Int} {l : List (Blk α)} {b0 : Blk α} (h : b0 ∈ l) : (if b0.num = k then { b0 with start := e } else b0) ∈ setS k e l := by
  unfold setS
  exact List.mem_map_of_mem (f := fun b => if b.num = k then { b with start := e } else b) h
/-- the block is at its new place, the cells that it left are free -/
theorem SW.finish {b : Blk α} {ws' : List α} (a : SW fr size bl (some b.num) t c ws) (o : Ord size pk bl bs) (nd : (bl.map (·.num)).Nodup) (hb : b ∈ bl) (hc : (c : Int) = b.len) (hl : ws'.length = ws.length)
    (hw : ∀ j : Nat, j < ws.length → ws'[j]? = if b.start ≤ (j : Int) ∧ t + b.len ≤ (j : Int) ∧ (j : Int) < b.start + b.len then some fr else ws[j]?) (t' : Int) (c' : Nat) : SW fr size (setS b.num t bl) none t' c' ws' := by
  have al := a.len
  obtain ⟨b2, hb2, e2, q1, q2, q3, q4⟩ := a.mvo _ rfl
  have : b2 = b := num_inj nd hb2 hb e2
  subst this
  have mb := o.mem hb
  refine ⟨by omega, fun d hd j u hu => ?_, fun j hj h1 h2 => ?_, fun k hk => (nomatch hk)⟩
  · obtain ⟨d0, hd0, f1, f2, f3, f4⟩ := setS_mem hd
    have hu0 : d0.fs[j]? = some u := by rw [← f2]; exact hu
    have hj := fs_len hu0
    have md := o.mem hd0
    have old := a.at_ d0 hd0 j u hu0
    have hp : pos none t' c' d j = d.start + j := by unfold pos; rw [if_neg (by simp)]
    rw [hp]
    by_cases en : d0.num = b2.num
    · have : d0 = b2 := num_inj nd hd0 hb en
      subst this
      rw [f3 rfl]
      have : pos (some d0.num) t c d0 j = t + j := by unfold pos; rw [if_pos ⟨rfl, by omega⟩]
      rw [this] at old
      rw [hw _ (by omega), if_neg (by omega)]; exact old
    · rw [f4 en]
      have : pos (some b2.num) t c d0 j = d0.start + j := by
        unfold pos
        rw [if_neg fun z => en (Option.some.inj z.1).symm]
      rw [this] at old
      have ap := o.apart hb hd0 (Ne.symm en)
      unfold Apart at ap
      rw [hw _ (by omega), if_neg (by omega)]; exact old
  · rw [hw j (by omega)]
    by_cases g : b2.start ≤ (j : Int) ∧ t + b2.len ≤ (j : Int) ∧ (j : Int) < b2.start + b2.len
    · rw [if_pos g]
    · rw [if_neg g]
      have hb' := h1 _ (setS_mem' (k := b2.num) (e := t) hb)
      rw [if_pos rfl] at hb'
      have hb'' : ¬ (t ≤ (j : Int) ∧ (j : Int) < t + b2.len) := hb'
      refine a.fre j hj (fun d hd => ?_) fun _ => by omega
      by_cases en : d.num = b2.num
      · have : d = b2 := num_inj nd hd hb en
        subst this
        omega
      · have := h1 _ (setS_mem' (k := b2.num) (e := t) hd)
        rw [if_neg en] at this
        exact this
/-! ### how far the slider is -/
def wsum : List (Blk α) → Int
  | [] => 0
  | b :: r => b.len * b.start + wsum r
theorem wsum_setS {k e : Int} : ∀ {l : List (Blk α)} {b : Blk α}, (l.map (·.num)).Nodup → b ∈ l → b.num = k → wsum (setS k e l) = wsum l - b.len * (b.start - e)
  | x :: r, b, nd, hb, hk => by
    have nd' := List.nodup_cons.mp nd
    have hd : setS k e (x :: r) = (if x.num = k then { x with start := e } else x) :: setS k e r := rfl
    rcases List.mem_cons.mp hb with rfl | hb
    · have hr : setS k e r = r := setS_none fun c hc q => nd'.1 (by show b.num ∈ _; rw [hk, ← q]; exact List.mem_map_of_mem hc)
      rw [hd, hr, if_pos hk]
      show b.len * e + wsum r = b.len * b.start + wsum r - b.len * (b.start - e)
      rw [Int.mul_sub]; omega
    · have hx : x.num ≠ k := fun q => nd'.1 (by show x.num ∈ _; rw [q, ← hk]; exact List.mem_map_of_mem hb)
      rw [hd, if_neg hx]
      show x.len * x.start + wsum (setS k e r) = x.len * x.start + wsum r - b.len * (b.start - e)
      rw [wsum_setS nd'.2 hb hk]; omega
theorem wsum_keysF {k : Int} {i : Nat} {v : α} : ∀ (l : List (Blk α)), wsum (setF k i v l) = wsum l
  | [] => rfl
  | x :: r => by
    have hd : setF k i v (x :: r) = (if x.num = k then { x with fs := x.fs.set i v } else x) :: setF k i v r := rfl
    rw [hd]
    show (if x.num = k then ({ x with fs := x.fs.set i v } : Blk α) else x).len * (if x.num = k then ({ x with fs := x.fs.set i v } : Blk α) else x).start + wsum (setF k i v r) = x.len * x.start + wsum r
    rw [setF_len, wsum_keysF r]
    have : (if x.num = k then ({ x with fs := x.fs.set i v } : Blk α) else x).start = x.start := by split <;> rfl
    rw [this]
theorem wsum_le {size : Int} : ∀ {l : List (Blk α)}, (∀ b ∈ l, 0 ≤ b.start ∧ 0 < b.len ∧ b.start + b.len ≤ size) → 0 ≤ size → wsum l ≤ total l * size
  | [], _, h0 => by show (0 : Int) ≤ 0 * size; simp
  | x :: r, h, h0 => by
    have ih := wsum_le (l := r) (fun b hb => h b (List.mem_cons_of_mem _ hb)) h0
    obtain ⟨a1, a2, a3⟩ := h x (List.mem_cons_self ..)
    show x.len * x.start + wsum r ≤ (x.len + total r) * size
    rw [Int.add_mul]
    have : x.len * x.start ≤ x.len * size := Int.mul_le_mul_of_nonneg_left (by omega) (by omega)
    omega
theorem wsum_mem {l : List (Blk α)} (h : ∀ b ∈ l, 0 ≤ b.start ∧ 0 < b.len) : 0 ≤ wsum l ∧ ∀ b ∈ l, b.len * b.start ≤ wsum l := by
  induction l with
  | nil => exact ⟨Int.le_refl _, fun b hb => (nomatch hb)⟩
  | cons x r ih =>
    obtain ⟨i1, i2⟩ := ih fun b hb => h b (List.mem_cons_of_mem _ hb)
    obtain ⟨a1, a2⟩ := h x (List.mem_cons_self ..)
    have hx : 0 ≤ x.len * x.start := Int.mul_nonneg (by omega) a1
    refine ⟨by show 0 ≤ x.len * x.start + wsum r; omega, fun b hb => ?_⟩
    show b.len * b.start ≤ x.len * x.start + wsum r
    rcases List.mem_cons.mp hb with rfl | hb
    · omega
    · have := i2 b hb; omega
theorem total_perm {l m : List (Blk α)} (h : l.Perm m) : total l = total m := by
  induction h with
  | nil => rfl
  | cons x _ ih => show x.len + total _ = x.len + total _; rw [ih]
  | swap x y l => show y.len + (x.len + total l) = x.len + (y.len + total l); omega
  | trans _ _ i1 i2 => exact i1.trans i2
theorem Ord.wsum (o : Ord size pk bl bs) (h0 : 0 ≤ size) : K96.wsum bl ≤ size * size := by
  have h1 := wsum_le (l := bl) (size := size) (fun b hb => o.mem hb) h0
  have h2 := o.chain.total
  rw [total_perm o.perm] at h2
  have h3 : total bl * size ≤ size * size := Int.mul_le_mul_of_nonneg_right (by omega) h0
  omega
end
end
end K96
set_option Elab.async false
set_option linter.all false
set_option maxRecDepth 100000
set_option maxHeartbeats 1000000
namespace K96
open PySem PySem.Spec PyProof.Rows L2
theorem cut_get {α : Type} {ws fs : List α} {n m : Nat} (hm : m = n + fs.length) (hw : m ≤ ws.length) (j : Nat) : (ws.take n ++ fs ++ ws.drop m)[j]? = if n ≤ j ∧ j < m then fs[j - n]? else ws[j]? := by
  have hl : (ws.take n).length = n := by rw [List.length_take]; omega
  by_cases h1 : j < n
  · rw [if_neg (by omega), List.getElem?_append_left (by rw [List.length_append, hl]; omega), List.getElem?_append_left (by rw [hl]; exact h1), List.getElem?_take, if_pos h1]
  · by_cases h2 : j < m
    · rw [if_pos ⟨by omega, h2⟩, List.getElem?_append_left (by rw [List.length_append, hl]; omega), List.getElem?_append_right (by rw [hl]; omega), hl]
    · rw [if_neg (by omega), List.getElem?_append_right (by rw [List.length_append, hl]; omega), List.length_append, hl, List.getElem?_drop]
      congr 1
      omega
theorem SW.nil {α : Type} {fr : α} {size : Int} (h : 0 ≤ size) : SW fr size [] none 0 0 (List.replicate size.toNat fr) := by
  refine ⟨by rw [List.length_replicate]; omega, fun b hb => (nomatch hb), fun j hj _ _ => ?_, fun k hk => (nomatch hk)⟩
  rw [List.getElem?_replicate, if_pos (by omega)]
theorem SW.add {α : Type} {fr : α} {size : Int} {l : List (Blk α)} {t : Int} {c : Nat} {ws : List α} {b : Blk α} (a : SW fr size l none t c ws) (h0 : 0 ≤ b.start) (h1 : b.start + b.len ≤ size) (hap : ∀ d ∈ l, Apart d b) (hl0 : ∀ d ∈ l, 0 ≤ d.start) :
    SW fr size (l ++ [b]) none t c (ws.take b.start.toNat ++ b.fs ++ ws.drop (b.start + b.len).toNat) := by
  have al := a.len
  have hlen : b.len = (b.fs.length : Int) := rfl
  have p0 : ∀ (d : Blk α) (j : Nat), pos none t c d j = d.start + j := fun d j => by unfold pos; rw [if_neg (by simp)]
  have get := cut_get (ws := ws) (fs := b.fs) (n := b.start.toNat) (m := (b.start + b.len).toNat) (by omega) (by omega)
  refine ⟨?_, fun d hd i v hv => ?_, fun j hj g1 g2 => ?_, fun k hk => (nomatch hk)⟩
  · rw [List.length_append, List.length_append, List.length_take, List.length_drop]; omega
  · have hi := fs_len hv
    rw [p0, get]
    rcases List.mem_append.mp hd with hd | hd
    · have ap := hap d hd
      have := hl0 d hd
      unfold Apart at ap
      rw [if_neg (by omega)]
      have := a.at_ d hd i v hv
      rw [p0] at this
      exact this
    · have : d = b := by simpa using hd
      subst this
      rw [if_pos ⟨by omega, by omega⟩]
      have : (d.start + (i : Int)).toNat - d.start.toNat = i := by omega
      rw [this]; exact hv
  · have gb := g1 b (by simp)
    rw [get, if_neg (by omega)]
    exact a.fre j hj (fun d hd => g1 d (List.mem_append_left _ hd)) fun z => absurd rfl z
/-! ### the slider's record -/
structure Sl where
  sl : Addr
  wl : Addr
  sd : Addr
  ld : Addr
  bl : List (Blk V)
  mo : Option Int
  t : Int
  c : Nat
  ws : List V
def mkV : Option Int → V
  | none => .non
  | some k => .int k
def lD (l : List (Blk V)) : List (Key × V) := l.map fun b => (Sum.inl b.num, V.int b.len)
structure SlAt (K : PySem.W.Frag) (H : Hp) (r : Sl) : Prop where
  ins : ∃ dx, H r.sl = some (.ins (He.ga K "Slider") dx (slF r.wl r.sd r.ld (mkV r.mo) r.t (r.c : Int)))
  wls : H r.wl = some (.lst r.ws)
  sts : H r.sd = some (.dK (sD r.bl))
  lns : H r.ld = some (.dK (lD r.bl))
  nd : [r.sl, r.wl, r.sd, r.ld].Nodup
  nums : (r.bl.map (·.num)).Nodup
  small : r.bl.length ≤ 64
def Sl.fp (r : Sl) : List Addr := [r.sl, r.wl, r.sd, r.ld]
theorem SlAt.keep {K : PySem.W.Frag} {H H' : Hp} {r : Sl} (a : SlAt K H r) (k : ∀ b ∈ r.fp, ∀ o, H b = some o → H' b = some o) : SlAt K H' r := by
  obtain ⟨⟨dx, e1⟩, e2, e3, e4, e5, e6, e7⟩ := a
  exact ⟨⟨dx, k _ (by simp [Sl.fp]) _ e1⟩, k _ (by simp [Sl.fp]) _ e2, k _ (by simp [Sl.fp]) _ e3, k _ (by simp [Sl.fp]) _ e4, e5, e6, e7⟩
theorem SlAt.same {K : PySem.W.Frag} {H H' : Hp} {r : Sl} (a : SlAt K H r) (k : Same H H') : SlAt K H' r := a.keep fun b _ o e => k b o e
theorem SlAt.some_ {K : PySem.W.Frag} {H : Hp} {r : Sl} (a : SlAt K H r) : ∀ b ∈ r.fp, ∃ o, H b = some o := fun b hb => by
  unfold Sl.fp at hb
  rcases List.mem_cons.mp hb with rfl | hb
  · obtain ⟨dx, e⟩ := a.ins; exact ⟨_, e⟩
  rcases List.mem_cons.mp hb with rfl | hb
  · exact ⟨_, a.wls⟩
  rcases List.mem_cons.mp hb with rfl | hb
  · exact ⟨_, a.sts⟩
  rcases List.mem_cons.mp hb with rfl | hb
  · exact ⟨_, a.lns⟩
  · cases hb
theorem putK_lD_new {l : List (Blk V)} {b : Blk V} (h : b.num ∉ l.map (·.num)) : putK (lD l) (Sum.inl b.num : Key) (V.int b.len) = lD (l ++ [b]) := by
  have hn : valV (lD l) (Sum.inl b.num : Key) = none := by
    induction l with
    | nil => rfl
    | cons q r ih =>
      show valV ((Sum.inl q.num, V.int q.len) :: lD r) _ = _
      rw [valV_neg fun e => h (by rw [← Sum.inl.inj e]; exact List.mem_map_of_mem (f := fun b : Blk V => b.num) (List.mem_cons_self ..))]
      exact ih fun q' => h (List.mem_cons_of_mem _ q')
  rw [putK_new _ hn]
  unfold lD
  rw [List.map_append]; rfl
theorem valV_lD {l : List (Blk V)} (nd : (l.map (·.num)).Nodup) {b : Blk V} (hb : b ∈ l) : valV (lD l) (Sum.inl b.num : Key) = some (V.int b.len) := by
  induction l with
  | nil => cases hb
  | cons q r ih =>
    have nd' := List.nodup_cons.mp nd
    show valV ((Sum.inl q.num, V.int q.len) :: lD r) _ = _
    rcases List.mem_cons.mp hb with rfl | hb
    · exact valV_pos rfl
    · have hne : ¬ (Sum.inl q.num : Key) = Sum.inl b.num := fun e => nd'.1 (by
        show q.num ∈ _
        rw [Sum.inl.inj e]; exact List.mem_map_of_mem hb)
      rw [valV_neg hne]
      exact ih nd'.2 hb
theorem lD_setS (k e : Int) (l : List (Blk V)) : lD (setS k e l) = lD l := by
  unfold lD setS
  rw [List.map_map]
  apply List.map_congr_left
  intro b _
  show (Sum.inl (if b.num = k then ({ b with start := e } : Blk V) else b).num, V.int (if b.num = k then ({ b with start := e } : Blk V) else b).len) = _
  split <;> rfl
theorem lD_setF (k : Int) (i : Nat) (v : V) (l : List (Blk V)) : lD (setF k i v l) = lD l := by
  unfold lD setF
  rw [List.map_map]
  apply List.map_congr_left
  intro b _
  show ((Sum.inl (if b.num = k then ({ b with fs := b.fs.set i v } : Blk V) else b).num : Key), V.int (if b.num = k then ({ b with fs := b.fs.set i v } : Blk V) else b).len) = _
  rw [setF_len]
  have : (if b.num = k then ({ b with fs := b.fs.set i v } : Blk V) else b).num = b.num := by split <;> rfl
  rw [this]
theorem sD_setF (k : Int) (i : Nat) (v : V) (l : List (Blk V)) : sD (setF k i v l) = sD l := by
  unfold sD setF
  rw [List.map_map]
  apply List.map_congr_left
  intro b _
  show ((Sum.inl (if b.num = k then ({ b with fs := b.fs.set i v } : Blk V) else b).num : Key), V.int (if b.num = k then ({ b with fs := b.fs.set i v } : Blk V) else b).start) = _
  split <;> rfl
theorem lD_len (l : List (Blk V)) : (lD l).length = l.length := by unfold lD; rw [List.length_map]
section
variable {w : World} {K : PySem.W.Frag} {mg : Str → Option Value} {base : Heap}
/-! ### Slider.__init__ -/
def BlocksAt (H : Hp) (p : Addr) (bks : List (Addr × Blk V)) : Prop := ∃ ts : List Addr, H p = some (.lst (ts.map V.ref)) ∧ ts.length = bks.length ∧ ∀ (i : Nat) (t : Addr) (q : Addr × Blk V), ts[i]? = some t → bks[i]? = some q →
  H t = some (.tup [.int q.2.num, .int q.2.start, .ref q.1]) ∧ H q.1 = some (.lst q.2.fs)
def spSlInit (K : PySem.W.Frag) : Sp := fun vs H Q _ => ∃ (p dx bp : Addr) (z : Int) (bks : List (Addr × Blk V)), vs = [.ref p, .int z, .ref bp] ∧ H p = some (.ins (He.ga K "Slider") dx []) ∧ 0 ≤ z ∧ z ≤ 25 ∧ BlocksAt H bp bks ∧ bks.length ≤ 60 ∧
  (∀ q ∈ bks, 0 ≤ q.2.start ∧ q.2.start + q.2.len ≤ z) ∧ (bks.map (·.2)).Pairwise Apart ∧ ((bks.map (·.2)).map (·.num)).Nodup ∧
  ∀ (H' : Hp) (r : Sl), SlAt K H' r → r.sl = p → r.bl = bks.map (·.2) → r.mo = none → SW (.str "free") z r.bl none r.t r.c r.ws → Kp [p] H H' → (∀ b ∈ r.fp, b = p ∨ H b = none) → Q .non H'
theorem sc_SlInit : FnScope ["self", "size", "blocks", "number", "start", "fields"] ["self", "size", "blocks"] (defScope s_Slider___init__) := ⟨rfl, rfl, rfl, by decide +kernel, rfl, by decide +kernel, by decide +kernel⟩
theorem ok_SlInit (T : Top K mg) : Ok Pg w K mg base CX0 1 (He.ma K (He.ga K "Slider") "__init__") ["self", "size", "blocks"] (spSlInit K) := by
  refine ok0 T.d_Slider___init__ sc_SlInit (fun vs H Q E h => ?_) (fun _ _ _ _ _ _ us hl => match us, hl with | [_, _, _], _ => rfl) (fun cdv A outer s H vs Q E hr h => ?_)
  · obtain ⟨p, dx, bp, z, bks, rfl, _⟩ := h
    rfl
  · obtain ⟨p, dx, bp, z, bks, rfl, hp, hz0, hz1, ⟨ts, f1, f2, f3⟩, hbl, hrng, hap, hnn, kq⟩ := h
    have hu := hu_of hr
    refine ⟨_, pss_cons (ps_fld (pv 0) (pe_op op_rep (pe_lst (pa_cons pe_str pa_nil)) (pv 1)) rfl)
      (pss_cons (ps_fld (pv 0) pe_dnewK rfl) (pss_cons (ps_fld (pv 0) pe_dnewK rfl) (pss_cons (ps_fld (pv 0) pe_non rfl) (pss_cons (ps_fld (pv 0) pe_int rfl) (pss_cons (ps_fld (pv 0) pe_int rfl)
      (pss_one (ps_for PassesOwn.never rfl (pi_list (pv 2)) (pg_tup (by rfl) (pgs_cons (pg_name (i := 3) sc_SlInit.nd rfl (.inl rfl)) (pgs_cons (pg_name (i := 4) sc_SlInit.nd rfl (.inl rfl)) (pgs_cons (pg_name (i := 5) sc_SlInit.nd rfl (.inl rfl)) pgs_nil))))
        (pss_cons (ps_dput hu (pe_fld (pv 0) rfl) (pv 3) (pv 4) rfl)
        (pss_cons (ps_dput hu (pe_fld (pv 0) rfl) (pv 3) (pe_callB call_len_seq (by rfl) T.fr_len PySem.boot_len (pa_cons (pv 5) pa_nil)) rfl)
        (pss_one (ps_asg (pe_callTy call_list_of (by rfl) T.fr_list (by decide +kernel) (pa_cons (pv 5) pa_nil)) (pg_cut (pe_fld (pv 0) rfl) (pv 4) (pe_op op_add (pv 4) (pe_callB call_len_seq (by rfl) T.fr_len PySem.boot_len (pa_cons (pv 5) pa_nil))))))))))))))), ?_⟩
    refine ⟨(by show 1 ≤ sizeLine; decide), fun f hf => ?_⟩
    have npf : p ≠ f := ne_of_none hp hf
    refine ⟨_, rfl, f, z, _, rfl, rfl, upd_same, by omega, by omega, line1000 (by simp only [List.length_cons, List.length_nil]; omega), fun wl hwl => ?_⟩
    rw [rep_flat]
    have s1 : Same H (upd (upd H f (.lst [.str "free"])) wl (.lst (List.replicate z.toNat (V.str "free")))) := (same_upd hf).trans (same_upd hwl)
    have hwl0 : H wl = none := (same_upd hf).free hwl
    obtain ⟨H1, eH1⟩ : ∃ H1, H1 = upd (upd H f (.lst [.str "free"])) wl (.lst (List.replicate z.toNat (V.str "free"))) := ⟨_, rfl⟩
    have ew : H1 wl = some (.lst (List.replicate z.toNat (V.str "free"))) := by rw [eH1, upd_same]
    rw [← eH1] at s1 ⊢
    refine ⟨_, rfl, p, _, dx, _, rfl, s1 _ _ hp, T.cl_Slider, T.na_Slider_words, (by show 0 < 1000; decide), ?_⟩
    intro sd hsd
    have nps : p ≠ sd := ne_of_none upd_same hsd
    have hsd1 : H1 sd = none := by rw [upd_ne nps.symm] at hsd; exact hsd
    refine ⟨_, rfl, p, _, dx, _, rfl, by rw [upd_ne nps, upd_same], T.cl_Slider, T.na_Slider_starts, (by show 1 < 1000; decide), ?_⟩
    intro ld hld
    have npl : p ≠ ld := ne_of_none upd_same hld
    have nsl : sd ≠ ld := fun q => by rw [← q, upd_ne nps.symm, upd_same] at hld; cases hld
    have hld1 : H1 ld = none := by rw [upd_ne npl.symm, upd_ne nsl.symm, upd_ne npl.symm] at hld; exact hld
    refine ⟨_, rfl, p, _, dx, _, rfl, by rw [upd_ne npl, upd_same], T.cl_Slider, T.na_Slider_lengths, (by show 2 < 1000; decide), ?_⟩
    refine ⟨_, rfl, p, _, dx, _, rfl, upd_same, T.cl_Slider, T.na_Slider_moving, (by show 3 < 1000; decide), ?_⟩
    refine ⟨_, rfl, p, _, dx, _, rfl, upd_same, T.cl_Slider, T.na_Slider_target, (by show 4 < 1000; decide), ?_⟩
    refine ⟨_, rfl, p, _, dx, _, rfl, upd_same, T.cl_Slider, T.na_Slider_copied, (by show 5 < 1000; decide), ?_⟩
    rw [upd_upd, upd_upd, upd_upd]
    have npw : p ≠ wl := (ne_of_none hp hwl0)
    have nws : wl ≠ sd := ne_of_none ew hsd1
    have nwl : wl ≠ ld := ne_of_none ew hld1
    obtain ⟨H2, eH2⟩ : ∃ H2, H2 = upd (upd (upd (upd (upd H1 p (.ins (He.ga K "Slider") dx (putF "words" (V.ref wl) []))) sd (.dK [])) p (.ins (He.ga K "Slider") dx (putF "starts" (V.ref sd) (putF "words" (V.ref wl) [])))) ld (.dK [])) p (.ins (He.ga K "Slider") dx (putF "copied" (V.int 0) (putF "target" (V.int 0) (putF "moving" V.non (putF "lengths" (V.ref ld) (putF "starts" (V.ref sd) (putF "words" (V.ref wl) []))))))) := ⟨_, rfl⟩
    have g2 : H2 p = some (.ins (He.ga K "Slider") dx (slF wl sd ld .non 0 0)) := by rw [eH2, upd_same]; rfl
    have gw : H2 wl = some (.lst (List.replicate z.toNat (V.str "free"))) := by rw [eH2, upd_ne npw.symm, upd_ne nwl, upd_ne npw.symm, upd_ne nws, upd_ne npw.symm]; exact ew
    have gs : H2 sd = some (.dK []) := by rw [eH2, upd_ne nps.symm, upd_ne nsl, upd_ne nps.symm, upd_same]
    have gl : H2 ld = some (.dK []) := by rw [eH2, upd_ne npl.symm, upd_same]
    have k2 : Kp [p] H H2 := fun b o e n => by
      have nb : b ≠ p := by simpa using n
      have e1 := s1 _ _ e
      rw [eH2, upd_ne nb, upd_ne (ne_of_none e1 hld1), upd_ne nb, upd_ne (ne_of_none e1 hsd1), upd_ne nb]; exact e1
    have hsd0 := s1.free hsd1
    have hld0 := s1.free hld1
    rw [← eH2]
    have nd4 : [p, wl, sd, ld].Nodup := by simp [npw, nps, npl, nws, nwl, nsl]
    have old : ∀ b o, H b = some o → b ≠ p → b ≠ wl ∧ b ≠ sd ∧ b ≠ ld := fun b o e _ => ⟨ne_of_none e hwl0, ne_of_none e hsd0, ne_of_none e hld0⟩
    have npbp : bp ≠ p := ne_of f1 hp (by intro z; cases z)
    obtain ⟨o1, o2, o3⟩ := old _ _ f1 npbp
    refine ⟨_, rfl, bp, rfl, ⟨_, SqL.of (k2 _ _ f1 (by simp; exact npbp))⟩, ?_⟩
    refine for_list (K := K) (a := bp) (xs := ts.map V.ref) (fun i σ H3 => ∃ (v3 v4 v5 : Option V) (ws : List V), σ = [some (.ref p), some (.int z), some (.ref bp), v3, v4, v5] ∧ SlAt K H3 ⟨p, wl, sd, ld, (bks.take i).map (·.2), none, 0, 0, ws⟩ ∧ SW (.str "free") z ((bks.take i).map (·.2)) none 0 0 ws ∧ Kp [wl, sd, ld] H2 H3)
      ⟨none, none, none, _, rfl, ⟨⟨dx, g2⟩, gw, gs, gl, nd4, List.Pairwise.nil, Nat.zero_le _⟩, SW.nil hz0, Kp.refl⟩ (fun i σ H3 _ ⟨_, _, _, _, _, _, _, k3⟩ => SqL.of (k3 _ _ (k2 _ _ f1 (by simp; exact npbp)) (by simp; exact ⟨o1, o2, o3⟩))) ?_ ?_
    · rintro i y σ H3 hy ⟨v3, v4, v5, ws, rfl, S3, W3, k3⟩
      rw [List.getElem?_map] at hy
      cases et : ts[i]? with
      | none => rw [et] at hy; cases hy
      | some t =>
        rw [et] at hy
        have : y = .ref t := (Option.some.inj hy).symm
        subst this
        have hi : i < bks.length := by
          have := (List.getElem?_eq_some_iff.mp et).1
          omega
        have hbi : bks[i]? = some bks[i] := List.getElem?_eq_getElem hi
        obtain ⟨u1, u2⟩ := f3 i t _ et hbi
        obtain ⟨q, hq⟩ : ∃ q, q = bks[i] := ⟨_, rfl⟩
        rw [← hq] at hbi u1 u2
        have hqm : q ∈ bks := List.mem_of_getElem? hbi
        have keep : ∀ b o, H b = some o → b ≠ p → H3 b = some o := fun b o e n => by
          obtain ⟨n1, n2, n3⟩ := old _ _ e n
          exact k3 _ _ (k2 _ _ e (by simp; exact n)) (by simp; exact ⟨n1, n2, n3⟩)
        have tp := keep _ _ u1 (ne_of u1 hp (by intro z; cases z))
        have tl := keep _ _ u2 (ne_of u2 hp (by intro z; cases z))
        obtain ⟨d3, g3⟩ := S3.ins
        have etk : (bks.take (i + 1)).map (·.2) = (bks.take i).map (·.2) ++ [q.2] := by rw [take_succ_of hbi, List.map_append]; rfl
        have hall : (bks.map (·.2)).take (i + 1) = (bks.take i).map (·.2) ++ [q.2] := by rw [← List.map_take, etk]
        have hnum : q.2.num ∉ ((bks.take i).map (·.2)).map (·.num) := fun zz => by
          have nt : (((bks.map (·.2)).take (i + 1)).map (·.num)).Nodup := hnn.sublist ((List.take_sublist _ _).map _)
          rw [hall, List.map_append] at nt
          exact (List.nodup_append.mp nt).2.2 _ zz _ (by simp) rfl
        have hapt : ∀ d ∈ (bks.take i).map (·.2), Apart d q.2 := fun d hd => by
          have nt : ((bks.map (·.2)).take (i + 1)).Pairwise Apart := hap.sublist (List.take_sublist _ _)
          rw [hall] at nt
          exact (List.pairwise_append.mp nt).2.2 d hd q.2 (by simp)
        have htl : ((bks.take i).map (·.2)).length ≤ 60 := by rw [List.length_map, List.length_take]; omega
        refine ⟨t, _, rfl, SqT.of tp, rfl, _, _, rfl, _, _, rfl, _, _, rfl, rfl, ?_⟩
        -- self.starts[number] = start
        refine ⟨_, rfl, _, rfl, p, _, d3, _, _, rfl, g3, T.cl_Slider, T.na_Slider_starts, slF_starts, _, rfl, sd, _, rfl, DPut.k (k := Sum.inl q.2.num) S3.sts (by rw [sD_len]; exact small1000 (by show ((bks.take i).map (·.2)).length ≤ 1000; omega)), ?_⟩
        have tl1 : ∀ {o}, upd H3 sd o q.1 = some (.lst q.2.fs) := fun {o} => by rw [upd_ne (ne_of_none u2 hsd0)]; exact tl
        refine ⟨_, rfl, q.1, _, rfl, .inl (SqL.of tl1), _, rfl, p, _, d3, _, _, rfl, by rw [upd_ne nps]; exact g3, T.cl_Slider, T.na_Slider_lengths, slF_lengths, _, rfl, ld, _, rfl, DPut.k (k := Sum.inl q.2.num) (by rw [upd_ne nsl.symm]; exact S3.lns) (by rw [lD_len]; exact small1000 (by show ((bks.take i).map (·.2)).length ≤ 1000; omega)), ?_⟩
        rw [putK_sD_new (b := q.2) rfl rfl hnum]
        have e5 : V.int (q.2.fs.length : Int) = V.int q.2.len := rfl
        rw [e5, putK_lD_new hnum]
        have tl2 : ∀ {o o'}, upd (upd H3 sd o) ld o' q.1 = some (.lst q.2.fs) := fun {o o'} => by rw [upd_ne (ne_of_none u2 hld0), upd_ne (ne_of_none u2 hsd0)]; exact tl
        obtain ⟨r1, r2⟩ := hrng q hqm
        have hlq : q.2.len = (q.2.fs.length : Int) := rfl
        have hwlen : (ws.length : Int) = z := W3.len
        refine ⟨_, rfl, q.1, _, rfl, .inl (SqL.of tl2), fun b hb => ?_⟩
        have gw3 : upd (upd H3 sd (.dK (sD ((bks.take i).map (·.2) ++ [q.2])))) ld (.dK (lD ((bks.take i).map (·.2) ++ [q.2]))) wl = some (.lst ws) := by rw [upd_ne nwl, upd_ne nws]; exact S3.wls
        have nwb : wl ≠ b := ne_of_none gw3 hb
        have npb : p ≠ b := ne_of_none (by rw [upd_ne npl, upd_ne nps]; exact g3 : upd (upd H3 sd (.dK (sD ((bks.take i).map (·.2) ++ [q.2])))) ld (.dK (lD ((bks.take i).map (·.2) ++ [q.2]))) p = _) hb
        have nsb : sd ≠ b := ne_of_none (by rw [upd_ne nsl, upd_same] : upd (upd H3 sd (.dK (sD ((bks.take i).map (·.2) ++ [q.2])))) ld (.dK (lD ((bks.take i).map (·.2) ++ [q.2]))) sd = _) hb
        have nlb : ld ≠ b := ne_of_none upd_same hb
        refine ⟨_, rfl, p, _, d3, _, _, rfl, by rw [upd_ne npb, upd_ne npl, upd_ne nps]; exact g3, T.cl_Slider, T.na_Slider_words, slF_words, _, rfl, _, rfl, _, rfl, q.1, _, rfl, .inl (SqL.of (by rw [upd_ne (fun q' => by rw [← q', tl2] at hb; cases hb)]; exact tl2)), _, _, rfl, rfl, ?_⟩
        refine ⟨wl, b, ws, q.2.fs, q.2.start, _, rfl, rfl, rfl, rfl, by rw [upd_ne nwb]; exact gw3, upd_same, nwb, r1, by omega, by omega, line1000 (by omega), ?_⟩
        refine ⟨_, _, _, ws.take q.2.start.toNat ++ q.2.fs ++ ws.drop (q.2.start + q.2.len).toNat, rfl, ⟨⟨d3, ?_⟩, upd_same, ?_, ?_, nd4, ?_, ?_⟩, ?_, fun b' o e n => ?_⟩
        · show upd _ wl _ p = _
          rw [upd_ne npw, upd_ne npb, upd_ne npl, upd_ne nps]; exact g3
        · show upd _ wl _ sd = _
          rw [etk, upd_ne nws.symm, upd_ne nsb, upd_ne nsl, upd_same]
        · show upd _ wl _ ld = _
          rw [etk, upd_ne nwl.symm, upd_ne nlb, upd_same]
        · show (((bks.take (i + 1)).map (·.2)).map (·.num)).Nodup
          rw [List.map_take]
          exact hnn.sublist ((List.take_sublist _ _).map _)
        · show ((bks.take (i + 1)).map (·.2)).length ≤ 64
          rw [List.length_map, List.length_take]; omega
        · rw [etk]
          refine W3.add r1 r2 hapt fun d hd => ?_
          obtain ⟨q', hq', rfl⟩ := List.mem_map.mp hd
          exact (hrng q' (List.mem_of_mem_take hq')).1
        · have n' : b' ≠ wl ∧ b' ≠ sd ∧ b' ≠ ld := by simpa using n
          have e3 := k3 _ _ e n
          have nb' : b' ≠ b := fun zz => by
            rw [zz] at e3
            have : upd (upd H3 sd (.dK (sD ((bks.take i).map (·.2) ++ [q.2])))) ld (.dK (lD ((bks.take i).map (·.2) ++ [q.2]))) b = some o := by rw [upd_ne nlb.symm, upd_ne nsb.symm]; exact e3
            rw [hb] at this; cases this
          rw [upd_ne n'.1, upd_ne nb', upd_ne n'.2.2, upd_ne n'.2.1]; exact e3
    · rintro σ H3 ⟨v3, v4, v5, ws, rfl, S3, W3, k3⟩
      have e0 : (ts.map V.ref).length = bks.length := by rw [List.length_map, f2]
      rw [e0, List.take_length] at S3 W3
      refine kq H3 ⟨p, wl, sd, ld, bks.map (·.2), none, 0, 0, ws⟩ S3 rfl rfl rfl W3 (fun b o e n => ?_) fun b hb => ?_
      · obtain ⟨n1, n2, n3⟩ := old _ _ e (by simpa using n)
        exact k3 _ _ (k2 _ _ e n) (by simp; exact ⟨n1, n2, n3⟩)
      · have hb' : b ∈ [p, wl, sd, ld] := hb
        rcases List.mem_cons.mp hb' with q | q
        · exact .inl q
        rcases List.mem_cons.mp q with q | q
        · rw [q]; exact .inr hwl0
        rcases List.mem_cons.mp q with q | q
        · rw [q]; exact .inr hsd0
        rcases List.mem_cons.mp q with q | q
        · rw [q]; exact .inr hld0
        · cases q
end
end K96
set_option Elab.async false
set_option linter.all false
set_option maxRecDepth 100000
set_option maxHeartbeats 1000000
namespace K96
open PySem PySem.Spec PyProof.Rows L2
section
variable {w : World} {K : PySem.W.Frag} {mg : Str → Option Value} {base : Heap}
theorem apart_all {size : Int} {pk l bs : List (Blk V)} (o : Ord size pk l bs) (nd : (l.map (·.num)).Nodup) : l.Pairwise Apart := by
  have h : l.Pairwise fun b c => b.num ≠ c.num := List.pairwise_map.mp nd
  exact h.imp_of_mem fun {b c} hb hc e => o.apart hb hc e
/-! ### slider_of -/
def spSlOf (K : PySem.W.Frag) : Sp := fun vs H Q _ => ∃ (c : Hc) (pk bs : List (Blk V)), vs = [.ref c.h] ∧ HeapAt K H c ∧ Ord c.size pk c.rc.blks bs ∧ (c.rc.blks.map (·.num)).Pairwise (· < ·) ∧ 0 ≤ c.size ∧ c.size ≤ 25 ∧
  ∀ (H' : Hp) (r : Sl), SlAt K H' r → r.bl = c.rc.blks → r.mo = none → SW (.str "free") c.size r.bl none r.t r.c r.ws → Same H H' → (∀ b ∈ r.fp, H b = none) → Q (.ref r.sl) H'
theorem sc_SlOf : FnScope ["heap", "blocks", "number"] ["heap"] (defScope s_slider_of) := ⟨rfl, rfl, rfl, by decide +kernel, rfl, by decide +kernel, by decide +kernel⟩
theorem ok_SlOf (T : Top K mg) : Ok Pg w K mg base CX0 3 (He.ga K "slider_of") ["heap"] (spSlOf K) := by
  obtain ⟨fdI, GI, bI, _⟩ := ok_SlInit (w := w) (base := base) T
  obtain ⟨fdN, GN, bN, _⟩ := ok_numbers (w := w) (base := base) T
  refine ok0 T.d_slider_of sc_SlOf (fun vs H Q E h => ?_) (fun _ _ _ _ _ _ us hl => match us, hl with | [_], _ => rfl) (fun cdv A outer s H vs Q E hr h => ?_)
  · obtain ⟨c, pk, bs, rfl, _⟩ := h
    rfl
  · obtain ⟨c, pk, bs, rfl, P, o, asc, hz0, hz1, kq⟩ := h
    have hu := hu_of hr
    obtain ⟨dh, h1⟩ := P.ins
    obtain ⟨dm, hm⟩ := P.man
    obtain ⟨dt, h2⟩ := P.st.ins
    obtain ⟨ds, h3⟩ := P.st.store.ins
    have S := P.st.store
    have nd : (c.rc.bks.map fun p => p.2.num).Nodup := by rw [← blks_nums]; exact S.nums
    have hbl : c.rc.bks.length ≤ 25 := by
      have := o.len
      unfold Sc.blks at this
      rw [List.length_map] at this
      omega
    refine ⟨_, pss_cons (ps_set (i := 1) sc_SlOf.nd rfl (.inl rfl) (pe_lst pa_nil))
      (pss_cons (ps_for PassesOwn.never rfl (pi_list (pe_meth0 (pe_fld (pe_fld (pv 0) rfl) rfl) T.cl_Store T.me_Store_numbers GN (hr.mono (by decide)) bN .nil pass0)) (pg_name (i := 2) sc_SlOf.nd rfl (.inl rfl))
        (pss_one (ps_expr (pe_bm PySem.F.plainAttrs_list PySem.F.slot_list_append PySem.F.type_list_append mt_append (pv 1) (pa_cons (pe_tup (pa_cons (pv 2) (pa_cons (pe_dget hu (pe_fld (pe_fld (pv 0) rfl) rfl) (pv 2) (fun _ _ => rfl)) (pa_cons (pe_dget hu (pe_fld (pe_fld (pe_fld (pv 0) rfl) rfl) rfl) (pv 2) (fun _ _ => rfl)) pa_nil)))) pa_nil)))))
      (pss_one (ps_ret (pe_make T.mk_Slider GI hr (by rfl) T.mg_Slider bI .nil pass0 (pa_cons (pe_fld (pe_fld (pv 0) rfl) rfl) (pa_cons (pv 1) pa_nil)))))), ?_⟩
    refine ⟨Nat.zero_le _, fun bl hbl0 => ?_⟩
    have s1 : Same H (upd H bl (.lst [])) := same_upd hbl0
    refine ⟨_, rfl, c.h, _, dh, _, _, rfl, s1 _ _ h1, T.cl_ManagedHeap, T.na_ManagedHeap_state, mhF_state, c.rc.st, _, dt, _, _, rfl, s1 _ _ h2, T.cl_State, T.na_State_store, stF_store, c.rc.so, ds, _, rfl, s1 _ _ h3, srF_no_numbers, c.rc.toSc, rfl, S.same s1, asc, by omega, fun q hq => ?_⟩
    have s2 := s1.trans (same_upd (o := .lst ((c.rc.blks.map (·.num)).map V.int)) hq)
    have nbq : bl ≠ q := ne_of_none upd_same hq
    have hq0 := s1.free hq
    refine ⟨q, rfl, ⟨_, SqL.of upd_same⟩, ?_⟩
    refine for_list (K := K) (a := q) (xs := (c.rc.blks.map (·.num)).map V.int) (fun i σ H2 => ∃ (v2 : Option V) (ts : List Addr), σ = [some (.ref c.h), some (.ref bl), v2] ∧ Same H H2 ∧ H2 q = some (.lst ((c.rc.blks.map (·.num)).map V.int)) ∧ H2 bl = some (.lst (ts.map V.ref)) ∧ ts.length = (c.rc.bks.take i).length ∧
        ∀ (j : Nat) (t : Addr) (p : Addr × Blk V), ts[j]? = some t → (c.rc.bks.take i)[j]? = some p → H2 t = some (.tup [.int p.2.num, .int p.2.start, .ref p.1]))
      ⟨none, [], rfl, s2, upd_same, by rw [upd_ne nbq, upd_same]; rfl, rfl, fun j t p h => by simp at h⟩ (fun i σ H2 _ ⟨_, _, _, _, e, _⟩ => SqL.of e) ?_ ?_
    · rintro i x σ H2 hx ⟨v2, ts, rfl, k2, eq, eb, hl, hts⟩
      rw [List.getElem?_map, blks_nums, List.getElem?_map] at hx
      cases ex : c.rc.bks[i]? with
      | none => rw [ex] at hx; cases hx
      | some p =>
        rw [ex] at hx
        have : x = .int p.2.num := (Option.some.inj hx).symm
        subst this
        have hpm := List.mem_of_getElem? ex
        have hbm : p.2 ∈ c.rc.blks := List.mem_map_of_mem (f := fun q : Addr × Blk V => q.2) hpm
        have htl : ts.length ≤ 25 := by rw [hl, List.length_take]; omega
        refine ⟨_, rfl, .inl ⟨rfl, _, SqL.of eb⟩, _, rfl, ?_⟩
        refine ⟨_, rfl, c.h, _, dh, _, _, rfl, k2 _ _ h1, T.cl_ManagedHeap, T.na_ManagedHeap_state, mhF_state, c.rc.st, _, dt, _, _, rfl, k2 _ _ h2, T.cl_State, T.na_State_starts, stF_starts, _, rfl, c.rc.sd, .int p.2.start, rfl, by rw [← valV_sD S.nums hbm]; exact DGet.k (k := Sum.inl p.2.num) (k2 _ _ P.st.sts), ?_⟩
        refine ⟨_, rfl, c.h, _, dh, _, _, rfl, k2 _ _ h1, T.cl_ManagedHeap, T.na_ManagedHeap_state, mhF_state, c.rc.st, _, dt, _, _, rfl, k2 _ _ h2, T.cl_State, T.na_State_store, stF_store, c.rc.so, _, ds, _, _, rfl, k2 _ _ h3, T.cl_Store, T.na_Store_objects, srF_objects, _, rfl, c.rc.od, .ref p.1, rfl, by rw [← valV_oD nd hpm]; exact DGet.k (k := Sum.inl p.2.num) (k2 _ _ S.objs), ?_⟩
        refine ⟨(by show 3 ≤ sizeLine; decide), fun u hu' => ?_⟩
        have nbu : bl ≠ u := ne_of_none eb hu'
        have nqu : q ≠ u := ne_of_none eq hu'
        refine ⟨bl, _, _, rfl, rfl, by rw [upd_ne nbu]; exact eb, by rw [List.length_map]; exact small1000 (by omega), ?_⟩
        refine ⟨_, ts ++ [u], rfl, fun b o' e => ?_, ?_, by rw [upd_same, List.map_append]; rfl, ?_, fun j t p' hj hp' => ?_⟩
        · rw [upd_ne (ne_of_none e hbl0), upd_ne (ne_of_none (k2 _ _ e) hu')]; exact k2 b o' e
        · rw [upd_ne nbq.symm, upd_ne nqu]; exact eq
        · rw [take_succ_of ex, List.length_append, List.length_append, hl]; rfl
        · rw [take_succ_of ex] at hp'
          by_cases hlt : j < ts.length
          · rw [List.getElem?_append_left hlt] at hj
            rw [List.getElem?_append_left (by omega)] at hp'
            have e := hts j t p' hj hp'
            rw [upd_ne (ne_of e eb (by intro z; cases z)), upd_ne (ne_of_none e hu')]; exact e
          · rw [List.getElem?_append_right (by omega)] at hj
            rw [List.getElem?_append_right (by omega)] at hp'
            have hz : j - ts.length = 0 := by
              cases hz : j - ts.length with
              | zero => rfl
              | succ n => rw [hz] at hj; simp at hj
            rw [hz] at hj
            rw [← hl, hz] at hp'
            have e1 : u = t := by simpa using hj
            have e2 : p = p' := by simpa using hp'
            subst e1; subst e2
            rw [upd_ne (Ne.symm nbu), upd_same]
    · rintro σ H2 ⟨v2, ts, rfl, k2, eq, eb, hl, hts⟩
      have e0 : ((c.rc.blks.map (·.num)).map V.int).length = c.rc.bks.length := by rw [List.length_map, blks_nums, List.length_map]
      rw [e0, List.take_length] at hl hts
      refine ⟨_, rfl, c.h, _, dh, _, _, rfl, k2 _ _ h1, T.cl_ManagedHeap, T.na_ManagedHeap_manager, mhF_manager, c.m, _, dm, _, _, rfl, k2 _ _ hm, T.cl_PolicyManager, T.na_PolicyManager_size, pmF_size, _, rfl, ?_⟩
      intro x xd nx nxd nex
      have s3 := made_same (C := He.ga K "Slider") nx nxd
      have s23 := k2.trans s3
      refine ⟨x, xd, bl, c.size, c.rc.bks, rfl, upd_same, hz0, hz1, ⟨ts, s3 _ _ eb, hl, fun j t p hj hp => ⟨s3 _ _ (hts j t p hj hp), s23 _ _ (S.lst p (List.mem_of_getElem? hp))⟩⟩, by omega, fun p hp => ?_, apart_all o S.nums, S.nums, fun H' r SA r1 r2 r3 r4 k r5 => ⟨rfl, ?_⟩⟩
      · obtain ⟨m1, m2, m3⟩ := o.mem (b := p.2) (List.mem_map_of_mem (f := fun q : Addr × Blk V => q.2) hp)
        exact ⟨m1, m3⟩
      · have e : V.ref x = V.ref r.sl := by rw [r1]
        rw [e]
        have hx0 : H x = none := k2.free nx
        refine kq H' r SA r2 r3 r4 (fun b o' eb' => k _ _ (s23 _ _ eb') (by simp; exact ne_of_none eb' hx0)) fun b hb => ?_
        rcases r5 b hb with z | z
        · rw [z]; exact hx0
        · exact s23.free z
/-! ### Slider.layout -/
def spSlLay (K : PySem.W.Frag) : Sp := fun vs H Q _ => ∃ (r : Sl) (bs : List (Blk V)) (size : Int), vs = [.ref r.sl] ∧ SlAt K H r ∧ bs.Perm r.bl ∧ Chain size 0 bs ∧
  ∀ (H' : Hp) (q : Addr), PairsAt H' q (lay bs) → Same H H' → H q = none → Q (.ref q) H'
theorem sc_SlLay : FnScope ["self", "number"] ["self"] (defScope s_Slider_layout) := ⟨rfl, rfl, rfl, by decide +kernel, rfl, by decide +kernel, by decide +kernel⟩
theorem ok_SlLay (T : Top K mg) : Ok Pg w K mg base CX0 1 (He.ma K (He.ga K "Slider") "layout") ["self"] (spSlLay K) := by
  refine ok0 T.d_Slider_layout sc_SlLay (fun vs H Q E h => ?_) (fun _ _ _ _ _ _ us hl => match us, hl with | [_], _ => rfl) (fun cdv A outer s H vs Q E hr h => ?_)
  · obtain ⟨r, bs, size, rfl, _⟩ := h
    rfl
  · obtain ⟨r, bs, size, rfl, S, hperm, hch, kq⟩ := h
    have hu := hu_of hr
    obtain ⟨dx, h1⟩ := S.ins
    refine ⟨_, pss_one (ps_ret (pe_callB cr_sortedPO (by rfl) T.fr_sorted (by decide +kernel) (pa_cons (pe_lock (pe_lc (own := [("number", 1)]) (g := gName 1) (tt := tYes) (te := tTup (tCons (tDGet (tFld K (tVar 0) "starts") (tVar 1)) (tCons (tDGet (tFld K (tVar 0) "lengths") (tVar 1)) tNil))) rfl sc_SlLay.nd (pi_keys (pe_fld (pv 0) rfl)) (blkOk_by (own := [("number", 1)]) (N := ["self", "number"]) (sc := defScope s_Slider_layout) (by decide +kernel))
            (fun _ _ _ _ _ => pg_name (i := 1) sc_SlLay.nd rfl (Or.inl rfl)) (fun _ _ _ _ _ => pts_nil) (fun _ _ _ _ _ => pe_tup (pa_cons (pe_dget hu (pe_fld (pv 0) rfl) (pv 1) (fun _ _ => rfl)) (pa_cons (pe_dget hu (pe_fld (pv 0) rfl) (pv 1) (fun _ _ => rfl)) pa_nil))))) pa_nil))), ?_⟩
    have nd4 := S.nd
    simp only [List.nodup_cons, List.mem_cons, List.not_mem_nil, or_false, not_or] at nd4
    obtain ⟨⟨n1, n2, n3⟩, ⟨n4, n5⟩, n6, _⟩ := nd4
    refine ⟨r.sd, _, S.sts, True.intro, fun o => ?_⟩
    have hin : ∀ {b u}, b ≠ r.sd → H b = some u → upd H r.sd (.frz o (.dK (sD r.bl))) b = some u := fun {b u} hb e => by rw [upd_ne hb]; exact e
    have un : ∀ {H'}, Same (upd H r.sd (.frz o (.dK (sD r.bl)))) H' → Same H (upd H' r.sd (.dK (sD r.bl))) := fun {H'} s => (Kp.unlock (F := []) S.sts (Kp.of_same s)).same
    refine ⟨_, rfl, r.sl, _, dx, _, _, rfl, hin n2 h1, T.cl_Slider, T.na_Slider_starts, slF_starts, r.sd, o, rfl, .inl ⟨_, upd_same, fun D hD => ?_⟩⟩
    refine lc_of (n := (sD r.bl).length) (fun i H3 => Same (upd H r.sd (.frz o (.dK (sD r.bl)))) H3 ∧ PairsAt H3 D ((lay r.bl).take i)) ⟨same_upd hD, PairsAt.nil upd_same⟩ (fun i H3 hi ⟨k2, _⟩ => keys_go (k2 _ _ upd_same) hi) (fun H3 ⟨k2, _⟩ => keys_stop (k2 _ _ upd_same)) ?_ ?_
    · rintro i y _ H3 hi ⟨k2, P3⟩ ⟨rfl, kk, vv, ek, rfl⟩
      obtain ⟨b, hb, rfl, rfl⟩ := sD_at ek
      have hbm : b ∈ r.bl := List.mem_of_getElem? hb
      refine ⟨rfl, tYes_if ?_⟩
      refine ⟨_, rfl, r.sl, _, dx, _, _, rfl, k2 _ _ (hin n2 h1), T.cl_Slider, T.na_Slider_starts, slF_starts, _, rfl, r.sd, .int b.start, rfl, .inl ⟨_, Sum.inl b.num, .inr ⟨o, k2 _ _ upd_same⟩, rfl, (valV_sD S.nums hbm).symm⟩, ?_⟩
      refine ⟨_, rfl, r.sl, _, dx, _, _, rfl, k2 _ _ (hin n2 h1), T.cl_Slider, T.na_Slider_lengths, slF_lengths, _, rfl, r.ld, .int b.len, rfl, by rw [← valV_lD S.nums hbm]; exact DGet.k (k := Sum.inl b.num) (k2 _ _ (hin (Ne.symm n6) S.lns)), ?_⟩
      refine ⟨(by show 2 ≤ sizeLine; decide), fun t ht => ?_⟩
      obtain ⟨ts, g1, g2, g3⟩ := P3
      have hDt : D ≠ t := ne_of_none g1 ht
      have hlen : ts.length ≤ 64 := by
        have := S.small
        have e := lay_len r.bl
        rw [g2, List.length_take]; omega
      have P5 := PairsAt.push (a := b.start) (b := b.len) g1 g2 g3 ht
      refine ⟨_, by rw [upd_ne hDt]; exact g1, by rw [List.length_map]; exact small1000 (by omega), fun b' u e => ?_, ?_⟩
      · rw [upd_ne (ne_of_none e hD), upd_ne (ne_of_none (k2 _ _ e) ht)]; exact k2 b' u e
      · rw [take_succ_of (lay_at hb)]; exact P5
    · rintro H3 ⟨k2, P3⟩
      have e1 : (sD r.bl).length = (lay r.bl).length := by rw [lay_len, sD_len]
      rw [e1, List.take_length] at P3
      refine ⟨k2 _ _ upd_same, ?_⟩
      have s3 := un k2
      obtain ⟨H5, e5⟩ : ∃ H5, H5 = upd H3 r.sd (.dK (sD r.bl)) := ⟨_, rfl⟩
      rw [← e5] at s3 ⊢
      have hDo : D ≠ r.sd := fun z => by rw [z, upd_same] at hD; cases hD
      obtain ⟨ts, g1, g2, g3⟩ := P3
      have f1 : H5 D = some (.lst (ts.map V.ref)) := by rw [e5, upd_ne hDo]; exact g1
      have f3 : ∀ (i : Nat) (t : Addr) (x : Int × Int), ts[i]? = some t → (lay r.bl)[i]? = some x → H5 t = some (.tup [.int x.1, .int x.2]) := fun i t x a b => by
        have e := g3 i t x a b
        rw [e5, upd_ne fun z => by rw [z, k2 _ _ upd_same] at e; cases e]; exact e
      refine ⟨D, _, kOf H5, rfl, SqL.of f1, fun x hx => ?_, fun ys q hs hst hq => ?_⟩
      · obtain ⟨t, ht, rfl⟩ := List.mem_map.mp hx
        obtain ⟨i, hi, ei⟩ := List.getElem_of_mem ht
        have hi2 : i < (lay r.bl).length := by rw [← g2]; exact hi
        have e := f3 i t _ (by rw [List.getElem?_eq_getElem hi, ei]) (List.getElem?_eq_getElem hi2)
        exact ⟨t, rfl, by rw [kOf_ref e]; exact e⟩
      · obtain ⟨us, rfl, hl, hus⟩ := sorted_at (m := lay bs) g2 f3 hs hst (hperm.map _) hch.sorted
        have s6 := same_upd (o := .lst (us.map V.ref)) hq
        exact kq _ q ⟨us, upd_same, hl, fun i t x a b => s6 _ _ (hus i t x a b)⟩ (s3.trans s6) (s3.free hq)
/-! ### Slider.cell -/
def spCell (K : PySem.W.Frag) : Sp := fun vs H Q _ => ∃ (r : Sl) (b : Blk V) (i : Nat), vs = [.ref r.sl, .int b.num, .int i] ∧ SlAt K H r ∧ b ∈ r.bl ∧ (i : Int) < b.len ∧ Q (.int (pos r.mo r.t r.c b i)) H
theorem sc_Cell : FnScope ["self", "number", "index"] ["self", "number", "index"] (defScope s_Slider_cell) := ⟨rfl, rfl, rfl, by decide +kernel, rfl, by decide +kernel, by decide +kernel⟩
theorem ok_Cell (T : Top K mg) : Ok Pg w K mg base CX0 1 (He.ma K (He.ga K "Slider") "cell") ["self", "number", "index"] (spCell K) := by
  refine ok0 T.d_Slider_cell sc_Cell (fun vs H Q E h => ?_) (fun _ _ _ _ _ _ us hl => match us, hl with | [_, _, _], _ => rfl) (fun cdv A outer s H vs Q E hr h => ?_)
  · obtain ⟨r, b, i, rfl, _⟩ := h
    rfl
  · obtain ⟨r, b, i, rfl, S, hb, hi, kq⟩ := h
    have hu := hu_of hr
    obtain ⟨dx, h1⟩ := S.ins
    refine ⟨_, pss_cons (ps_if (pt_cmp (pc_dnotin hu (pv 1) (pe_fld (pv 0) rfl))) (pss_one ps_never) pss_nil)
      (pss_cons (ps_if (pt_not (pt_chain op_le op_lt pe_int (pv 2) (pe_dget hu (pe_fld (pv 0) rfl) (pv 1) (fun _ _ => rfl)))) (pss_one ps_never) pss_nil)
      (pss_cons (ps_if (PW.pt (pw_and (pt_cmpR op_eq (pv 1) (pe_fld (pv 0) rfl) (nomark _)) (pw_and1 (pt_cmpR op_lt (pv 2) (pe_fld (pv 0) rfl) (nomark _))))) (pss_one (ps_ret (pe_op op_add (pe_fld (pv 0) rfl) (pv 2)))) pss_nil)
      (pss_one (ps_ret (pe_op op_add (pe_dget hu (pe_fld (pv 0) rfl) (pv 1) (fun _ _ => rfl)) (pv 2)))))), ?_⟩
    refine ⟨_, rfl, _, rfl, r.sl, _, dx, _, _, rfl, h1, T.cl_Slider, T.na_Slider_starts, slF_starts, r.sd, _, rfl, DGet.k (k := Sum.inl b.num) S.sts, _, rfl, ?_⟩
    rw [valV_sD S.nums hb]
    refine iteF ?_
    refine ⟨_, rfl, _, _, rfl, rfl, _, rfl, ?_⟩
    rw [decide_eq_true (by omega : (0 : Int) ≤ (i : Int))]
    refine iteT ⟨_, rfl, r.sl, _, dx, _, _, rfl, h1, T.cl_Slider, T.na_Slider_lengths, slF_lengths, _, rfl, r.ld, .int b.len, rfl, by rw [← valV_lD S.nums hb]; exact DGet.k (k := Sum.inl b.num) S.lns, _, _, rfl, rfl, _, rfl, ?_⟩
    rw [decide_eq_true hi]
    refine iteF ?_
    have fin : ¬ (r.mo = some b.num ∧ i < r.c) → tRet (tOp (rI0 fun i j => V.int (i + j)) (tDGet (tFld K (tVar 0) "starts") (tVar 1)) (tVar 2)) { nx := fun _ H' => Q .non H', rt := Q } [some (.ref r.sl), some (.int b.num), some (.int i)] H := fun hn => by
      refine ⟨_, rfl, r.sl, _, dx, _, _, rfl, h1, T.cl_Slider, T.na_Slider_starts, slF_starts, _, rfl, r.sd, .int b.start, rfl, by rw [← valV_sD S.nums hb]; exact DGet.k (k := Sum.inl b.num) S.sts, _, rfl, _, _, rfl, rfl, ?_⟩
      have : pos r.mo r.t r.c b i = b.start + i := by unfold pos; rw [if_neg hn]
      rw [this] at kq; exact kq
    have hsc : scal (.int b.num) (mkV r.mo) = true := by cases r.mo <;> rfl
    refine ⟨_, rfl, _, rfl, r.sl, _, dx, _, _, rfl, h1, T.cl_Slider, T.na_Slider_moving, slF_moving, hsc, _, rfl, ?_⟩
    by_cases c1 : r.mo = some b.num
    · have : decide (V.int b.num = mkV r.mo) = true := by rw [c1]; exact decide_eq_true rfl
      rw [this]
      refine iteT ?_
      refine ⟨_, rfl, _, rfl, r.sl, _, dx, _, _, rfl, h1, T.cl_Slider, T.na_Slider_copied, slF_copied, _, _, rfl, rfl, _, rfl, ?_⟩
      by_cases c2 : (i : Int) < (r.c : Int)
      · rw [decide_eq_true c2]
        refine iteT ?_
        refine ⟨_, rfl, r.sl, _, dx, _, _, rfl, h1, T.cl_Slider, T.na_Slider_target, slF_target, _, rfl, _, _, rfl, rfl, ?_⟩
        have : pos r.mo r.t r.c b i = r.t + i := by unfold pos; rw [if_pos ⟨c1, by omega⟩]
        rw [this] at kq; exact kq
      · rw [decide_eq_false c2]
        exact iteF (fin fun z => c2 (by omega))
    · have : decide (V.int b.num = mkV r.mo) = false := by
        refine decide_eq_false fun e => c1 ?_
        cases h : r.mo with
        | none => rw [h] at e; cases e
        | some k => rw [h] at e; injection e with e; rw [e]
      rw [this]
      exact iteF (fin fun z => c1 z.1)
/-! ### Slider.write -/
def Sl.wr (r : Sl) (b : Blk V) (i : Nat) (v : V) : Sl := { r with bl := setF b.num i v r.bl, ws := r.ws.set (pos r.mo r.t r.c b i).toNat v }
def spSlWrite (K : PySem.W.Frag) : Sp := fun vs H Q _ => ∃ (r : Sl) (b : Blk V) (i : Nat) (v : V), vs = [.ref r.sl, .int b.num, .int i, v] ∧ SlAt K H r ∧ b ∈ r.bl ∧ (i : Int) < b.len ∧ 0 ≤ pos r.mo r.t r.c b i ∧ pos r.mo r.t r.c b i < r.ws.length ∧
  ∀ H', SlAt K H' (r.wr b i v) → Kp [r.wl] H H' → Q .non H'
theorem sc_SlWrite : FnScope ["self", "number", "index", "value"] ["self", "number", "index", "value"] (defScope s_Slider_write) := ⟨rfl, rfl, rfl, by decide +kernel, rfl, by decide +kernel, by decide +kernel⟩
theorem ok_SlWrite (T : Top K mg) : Ok Pg w K mg base CX0 2 (He.ma K (He.ga K "Slider") "write") ["self", "number", "index", "value"] (spSlWrite K) := by
  obtain ⟨fdC, GC, bC, _⟩ := ok_Cell (w := w) (base := base) T
  refine ok0 T.d_Slider_write sc_SlWrite (fun vs H Q E h => ?_) (fun _ _ _ _ _ _ us hl => match us, hl with | [_, _, _, _], _ => rfl) (fun cdv A outer s H vs Q E hr h => ?_)
  · obtain ⟨r, b, i, v, rfl, _⟩ := h
    rfl
  · obtain ⟨r, b, i, v, rfl, S, hb, hi, hp0, hp1, kq⟩ := h
    obtain ⟨dx, h1⟩ := S.ins
    refine ⟨_, pss_one (ps_asg (pv 3) (pg_sub (pe_fld (pv 0) rfl) (pe_meth (pv 0) T.cl_Slider T.me_Slider_cell GC hr bC .nil pass0 (pa_cons (pv 1) (pa_cons (pv 2) pa_nil))) set_list)), ?_⟩
    have nd4 := S.nd
    have nd5 := S.nd
    simp only [List.nodup_cons, List.mem_cons, List.not_mem_nil, or_false, not_or] at nd4
    obtain ⟨⟨n1, n2, n3⟩, ⟨n4, n5⟩, n6, _⟩ := nd4
    refine ⟨_, rfl, _, rfl, r.sl, _, dx, _, _, rfl, h1, T.cl_Slider, T.na_Slider_words, slF_words, ?_⟩
    refine ⟨_, rfl, r.sl, dx, _, rfl, h1, slF_no_cell, _, rfl, _, rfl, r, b, i, rfl, S, hb, hi, ?_⟩
    refine ⟨r.wl, r.ws, _, (pos r.mo r.t r.c b i).toNat, rfl, rfl, S.wls, ?_, ?_⟩
    · unfold ixN
      rw [if_pos hp0, if_pos hp1]
    · refine kq _ ⟨⟨dx, by show upd _ r.wl _ r.sl = _; rw [upd_ne n1]; exact h1⟩, upd_same, ?_, ?_, nd5, ?_, ?_⟩ (kp_upd (by simp))
      · show upd _ r.wl _ r.sd = some (.dK (sD (setF b.num i v r.bl)))
        rw [upd_ne (Ne.symm n4), sD_setF]; exact S.sts
      · show upd _ r.wl _ r.ld = some (.dK (lD (setF b.num i v r.bl)))
        rw [upd_ne (Ne.symm n5), lD_setF]; exact S.lns
      · show ((setF b.num i v r.bl).map (·.num)).Nodup
        rw [setF_nums]; exact S.nums
      · show (setF b.num i v r.bl).length ≤ 64
        unfold setF; rw [List.length_map]; exact S.small
end
end K96
set_option Elab.async false
set_option linter.all false
set_option maxRecDepth 100000
set_option maxHeartbeats 1000000
namespace K96
open PySem PySem.Spec PyProof.Rows L2
section
variable {w : World} {K : PySem.W.Frag} {mg : Str → Option Value} {base : Heap}
/-! ### begin -/
def spBegin (K : PySem.W.Frag) : Sp := fun vs H Q _ => ∃ (r : Sl) (bs : List (Blk V)) (size : Int), vs = [.ref r.sl] ∧ SlAt K H r ∧ bs.Perm r.bl ∧ Chain size 0 bs ∧
  (gap 0 (lay bs) = none → ∀ H', Same H H' → Q (.bl false) H') ∧
  ∀ b e, b ∈ r.bl → gap 0 (lay bs) = some (b.start, e) → ∀ H', SlAt K H' { r with mo := some b.num, t := e, c := 0 } → Kp [r.sl] H H' → Q (.bl true) H'
theorem sc_Begin : FnScope ["self", "end", "start", "length", "number"] ["self"] (defScope s_Slider_begin) := ⟨rfl, rfl, rfl, by decide +kernel, rfl, by decide +kernel, by decide +kernel⟩
theorem ok_Begin (T : Top K mg) : Ok Pg w K mg base CX0 2 (He.ma K (He.ga K "Slider") "begin") ["self"] (spBegin K) := by
  obtain ⟨fdL, GL, bL, _⟩ := ok_SlLay (w := w) (base := base) T
  refine ok0 T.d_Slider_begin sc_Begin (fun vs H Q E h => ?_) (fun _ _ _ _ _ _ us hl => match us, hl with | [_], _ => rfl) (fun cdv A outer s H vs Q E hr h => ?_)
  · obtain ⟨r, bs, size, rfl, _⟩ := h
    rfl
  · obtain ⟨r, bs, size, rfl, S, hperm, hch, kq1, kq2⟩ := h
    have hu := hu_of hr
    obtain ⟨dx, h1⟩ := S.ins
    refine ⟨_, pss_cons (ps_set (i := 1) sc_Begin.nd rfl (.inl rfl) pe_int)
      (pss_cons (ps_for PassesOwn.never rfl (pi_list (pe_meth0 (pv 0) T.cl_Slider T.me_Slider_layout GL hr bL .nil pass0)) (pg_tup (by rfl) (pgs_cons (pg_name (i := 2) sc_Begin.nd rfl (.inr rfl)) (pgs_cons (pg_name (i := 3) sc_Begin.nd rfl (.inl rfl)) pgs_nil)))
        (pss_cons (ps_if (pt_cmpR op_gt (pv 2) (pv 1) (nomark _))
          (pss_cons (ps_fld (pv 0) (pe_ix ix_list (pe_lock (pe_lc (own := [("number", 4)]) (g := gName 4) (tt := tTest (tOp rEq (tDGet (tFld K (tVar 0) "starts") (tVar 4)) (tVar 2))) rfl sc_Begin.nd (pi_keys (pe_fld (pv 0) rfl)) (blkOk_by (own := [("number", 4)]) (N := ["self", "end", "start", "length", "number"]) (sc := defScope s_Slider_begin) (by decide +kernel))
              (fun _ _ _ _ _ => pg_name (i := 4) sc_Begin.nd rfl (Or.inl rfl)) (fun _ _ _ _ _ => pts_one (pt_cmpR op_eq (pe_dget hu (pe_fld (pv 0) rfl) (pv 4) (fun _ _ => rfl)) (pv 2) (nomark _))) (fun _ _ _ _ _ => pv 4))) pe_int (fun _ _ => rfl)) rfl)
          (pss_cons (ps_fld (pv 0) (pv 1) rfl)
          (pss_cons (ps_fld (pv 0) pe_int rfl)
          (pss_one (ps_ret pe_bl))))) pss_nil)
        (pss_one (ps_set (i := 1) sc_Begin.nd rfl (.inl rfl) (pe_op op_add (pv 2) (pv 3))))))
      (pss_one (ps_ret pe_bl))), ?_⟩
    have hll := lay_len bs
    have nd4 := S.nd
    have nd5 := S.nd
    simp only [List.nodup_cons, List.mem_cons, List.not_mem_nil, or_false, not_or] at nd4
    obtain ⟨⟨n1, n2, n3⟩, ⟨n4, n5⟩, n6, _⟩ := nd4
    refine ⟨_, rfl, r.sl, dx, _, rfl, h1, slF_no_layout, r, bs, size, rfl, S, hperm, hch, fun H1 lp hPL s1 hlp => ?_⟩
    obtain ⟨ts, f1, f2, f3⟩ := hPL
    have S1 := S.same s1
    have h11 := s1 _ _ h1
    refine ⟨lp, rfl, ⟨_, SqL.of f1⟩, ?_⟩
    refine for_list (K := K) (a := lp) (xs := ts.map V.ref) (fun i σ H2 => ∃ (v2 v3 : Option V), σ = [some (.ref r.sl), some (.int (en 0 ((lay bs).take i))), v2, v3, none] ∧ H2 = H1 ∧ gap 0 (lay bs) = gap (en 0 ((lay bs).take i)) ((lay bs).drop i))
      ⟨none, none, rfl, rfl, rfl⟩ (fun i σ H2 _ ⟨_, _, _, e, _⟩ => SqL.of (by rw [e]; exact f1)) ?_ ?_
    · rintro i y σ H2 hy ⟨v2, v3, rfl, rfl, hg⟩
      obtain ⟨t, x, rfl, ht, hx, htup⟩ := PairsAt.item (p := lp) f2 f3 hy
      rw [gap_at hx] at hg
      refine ⟨t, _, rfl, SqT.of htup, rfl, _, _, rfl, _, _, rfl, rfl, ?_⟩
      refine ⟨_, rfl, _, rfl, _, _, rfl, rfl, _, rfl, ?_⟩
      by_cases g : x.1 > en 0 ((lay bs).take i)
      · rw [decide_eq_true g]
        rw [if_pos g] at hg
        refine iteT ?_
        have hi : i < bs.length := by
          have := (List.getElem?_eq_some_iff.mp hx).1
          omega
        have hx' := lay_at (List.getElem?_eq_getElem hi)
        rw [hx] at hx'
        have : x = (bs[i].start, bs[i].len) := Option.some.inj hx'
        subst this
        obtain ⟨b, eb⟩ : ∃ b, b = bs[i] := ⟨_, rfl⟩
        have hbb : b ∈ bs := by rw [eb]; exact List.getElem_mem hi
        rw [← eb] at hg ⊢
        have hb : b ∈ r.bl := hperm.mem_iff.mp hbb
        have hun : ∀ b' ∈ r.bl, b'.start = b.start → b' = b := fun b' hb' e => hch.starts (hperm.mem_iff.mpr hb') hbb e
        -- the number
        refine ⟨r.sd, _, S1.sts, True.intro, fun o => ?_⟩
        have hin : ∀ {b u}, b ≠ r.sd → H2 b = some u → upd H2 r.sd (.frz o (.dK (sD r.bl))) b = some u := fun {b u} hb e => by rw [upd_ne hb]; exact e
        have un : ∀ {H'}, Same (upd H2 r.sd (.frz o (.dK (sD r.bl)))) H' → Same H2 (upd H' r.sd (.dK (sD r.bl))) := fun {H'} s => (Kp.unlock (F := []) S1.sts (Kp.of_same s)).same
        refine ⟨_, rfl, r.sl, _, dx, _, _, rfl, hin n2 h11, T.cl_Slider, T.na_Slider_starts, slF_starts, r.sd, o, rfl, .inl ⟨_, upd_same, fun D hD => ?_⟩⟩
        refine lc_of (n := (sD r.bl).length) (fun i H3 => Same (upd H2 r.sd (.frz o (.dK (sD r.bl)))) H3 ∧ ∃ ns : List Int, H3 D = some (.lst (ns.map V.int)) ∧ ns.length ≤ i ∧ (∀ n ∈ ns, n = b.num) ∧ (b ∈ r.bl.take i → ns ≠ [])) ⟨same_upd hD, [], upd_same, Nat.le_refl _, fun _ h => (nomatch h), fun h => (nomatch h)⟩ (fun i H3 hi ⟨k2, _⟩ => keys_go (k2 _ _ upd_same) hi) (fun H3 ⟨k2, _⟩ => keys_stop (k2 _ _ upd_same)) ?_ ?_
        · rintro j y _ H3 hj ⟨k2, ns, e3, hn1, hn2, hn3⟩ ⟨rfl, kk, vv, ek, rfl⟩
          obtain ⟨b', hp, rfl, rfl⟩ := sD_at ek
          have hbm : b' ∈ r.bl := List.mem_of_getElem? hp
          have hi64 : j < 64 := by
            have := (List.getElem?_eq_some_iff.mp hp).1
            have := S.small
            omega
          refine ⟨rfl, _, rfl, r.sl, _, dx, _, _, rfl, k2 _ _ (hin n2 h11), T.cl_Slider, T.na_Slider_starts, slF_starts, ?_⟩
          refine ⟨_, rfl, r.sd, .int b'.start, rfl, .inl ⟨_, Sum.inl b'.num, .inr ⟨o, k2 _ _ upd_same⟩, rfl, (valV_sD S.nums hbm).symm⟩, ?_⟩
          refine ⟨_, rfl, rfl, _, rfl, ?_⟩
          by_cases g' : V.int b'.start = V.int b.start
          · rw [decide_eq_true g']
            refine iteT ?_
            have eb' : b' = b := hun b' hbm (by injection g')
            refine ⟨_, rfl, _, e3, by rw [List.length_map]; exact small1000 (by omega), fun b'' u e => by rw [upd_ne (ne_of_none e hD)]; exact k2 b'' u e, ns ++ [b'.num], by rw [upd_same, List.map_append]; rfl, by rw [List.length_append]; simp only [List.length_cons, List.length_nil]; omega, fun n hn => ?_, fun _ => by simp⟩
            rcases List.mem_append.mp hn with z | z
            · exact hn2 n z
            · rw [← eb']; simpa using z
          · rw [decide_eq_false g']
            refine iteF ⟨k2, ns, e3, by omega, hn2, fun hb' => hn3 ?_⟩
            rw [take_succ_of hp] at hb'
            rcases List.mem_append.mp hb' with z | z
            · exact z
            · have : b = b' := by simpa using z
              exact absurd (by rw [this]) g'
        · rintro H3 ⟨k2, ns, e3, hn1, hn2, hn3⟩
          rw [sD_len, List.take_length] at hn3
          refine ⟨k2 _ _ upd_same, ?_⟩
          have hDo : D ≠ r.sd := fun z => by rw [z, upd_same] at hD; cases hD
          cases ns with
          | nil => exact absurd rfl (hn3 hb)
          | cons n ns =>
            have en' : n = b.num := hn2 n (List.mem_cons_self ..)
            subst en'
            refine ⟨D, _, _, .int b.num, rfl, rfl, SqL.of (by rw [upd_ne hDo]; exact e3), atI_nat (j := 0) rfl, ?_⟩
            have s3 := un k2
            have S3 := S1.same s3
            have h13 := s3 _ _ h11
            refine ⟨_, rfl, r.sl, _, dx, _, rfl, h13, T.cl_Slider, T.na_Slider_moving, (by show 6 < 1000; decide), ?_⟩
            refine ⟨_, rfl, _, rfl, r.sl, _, dx, _, rfl, upd_same, T.cl_Slider, T.na_Slider_target, (by show 6 < 1000; decide), ?_⟩
            refine ⟨_, rfl, r.sl, _, dx, _, rfl, upd_same, T.cl_Slider, T.na_Slider_copied, (by show 6 < 1000; decide), ?_⟩
            rw [upd_upd, upd_upd, slF_put_moving, slF_put_target, slF_put_copied]
            refine kq2 b _ hb hg _ ⟨⟨dx, upd_same⟩, ?_, ?_, ?_, nd5, S.nums, S.small⟩ ((Kp.of_same (s1.trans s3)).trans (kp_upd (by simp)))
            · show upd _ r.sl _ r.wl = _
              rw [upd_ne (Ne.symm n1)]; exact S3.wls
            · show upd _ r.sl _ r.sd = _
              rw [upd_ne (Ne.symm n2)]; exact S3.sts
            · show upd _ r.sl _ r.ld = _
              rw [upd_ne (Ne.symm n3)]; exact S3.lns
      · rw [decide_eq_false g]
        rw [if_neg g] at hg
        refine iteF ⟨_, rfl, _, rfl, _, _, rfl, rfl, some (.int x.1), some (.int x.2), ?_, rfl, ?_⟩
        · rw [take_succ_of hx, en_snoc]; rfl
        · rw [take_succ_of hx, en_snoc]; exact hg
    · rintro σ H2 ⟨v2, v3, rfl, rfl, hg⟩
      have : (lay bs).drop (ts.map V.ref).length = [] := by rw [List.length_map, f2, List.drop_length]
      rw [this] at hg
      exact kq1 hg _ s1
/-! ### finish -/
def spFinish (K : PySem.W.Frag) : Sp := fun vs H Q _ => ∃ (r : Sl) (b : Blk V), vs = [.ref r.sl] ∧ SlAt K H r ∧ b ∈ r.bl ∧ r.mo = some b.num ∧ 0 ≤ b.start ∧ b.start + b.len ≤ r.ws.length ∧ r.ws.length ≤ 900 ∧ 0 ≤ r.t ∧ r.t < b.start ∧
  ∀ H' ws', SlAt K H' { r with bl := setS b.num r.t r.bl, mo := none, ws := ws' } → ws'.length = r.ws.length → (∀ j : Nat, j < r.ws.length → ws'[j]? = if b.start ≤ (j : Int) ∧ r.t + b.len ≤ (j : Int) ∧ (j : Int) < b.start + b.len then some (.str "free") else r.ws[j]?) →
    Kp [r.sl, r.wl, r.sd] H H' → Q .non H'
theorem sc_Finish : FnScope ["self", "length", "old", "place"] ["self"] (defScope s_Slider_finish) := ⟨rfl, rfl, rfl, by decide +kernel, rfl, by decide +kernel, by decide +kernel⟩
theorem ok_Finish (T : Top K mg) : Ok Pg w K mg base CX0 1 (He.ma K (He.ga K "Slider") "finish") ["self"] (spFinish K) := by
  refine ok0 T.d_Slider_finish sc_Finish (fun vs H Q E h => ?_) (fun _ _ _ _ _ _ us hl => match us, hl with | [_], _ => rfl) (fun cdv A outer s H vs Q E hr h => ?_)
  · obtain ⟨r, b, rfl, _⟩ := h
    rfl
  · obtain ⟨r, b, rfl, S, hb, hmo, hb0, hb1, hw, ht0, ht1, kq⟩ := h
    have hu := hu_of hr
    obtain ⟨dx, h1⟩ := S.ins
    rw [hmo] at h1
    have h1 : H r.sl = some (.ins (He.ga K "Slider") dx (slF r.wl r.sd r.ld (.int b.num) r.t (r.c : Int))) := h1
    refine ⟨_, pss_cons (ps_set (i := 1) sc_Finish.nd rfl (.inl rfl) (pe_dget hu (pe_fld (pv 0) rfl) (pe_fld (pv 0) rfl) (fun _ _ => rfl)))
      (pss_cons (ps_set (i := 2) sc_Finish.nd rfl (.inl rfl) (pe_dget hu (pe_fld (pv 0) rfl) (pe_fld (pv 0) rfl) (fun _ _ => rfl)))
      (pss_cons (ps_for PassesOwn.never rfl (pi_range2 (by rfl) T.fr_range (pa_cons (pe_callB (call_max2 rfl) (by rfl) T.fr_max (by decide +kernel) (pa_cons (pv 2) (pa_cons (pe_op op_add (pe_fld (pv 0) rfl) (pv 1)) pa_nil))) (pa_cons (pe_op op_add (pv 2) (pv 1)) pa_nil))) (pg_name (i := 3) sc_Finish.nd rfl (.inl rfl))
        (pss_one (ps_asg pe_str (pg_sub (pe_fld (pv 0) rfl) (pv 3) set_list))))
      (pss_cons (ps_dput hu (pe_fld (pv 0) rfl) (pe_fld (pv 0) rfl) (pe_fld (pv 0) rfl) rfl)
      (pss_one (ps_fld (pv 0) pe_non rfl))))), ?_⟩
    have nd4 := S.nd
    have nd5 := S.nd
    simp only [List.nodup_cons, List.mem_cons, List.not_mem_nil, or_false, not_or] at nd4
    obtain ⟨⟨n1, n2, n3⟩, ⟨n4, n5⟩, n6, _⟩ := nd4
    have hlen0 := b.len_nonneg
    refine ⟨_, rfl, r.sl, _, dx, _, _, rfl, h1, T.cl_Slider, T.na_Slider_lengths, slF_lengths, _, rfl, r.sl, _, dx, _, _, rfl, h1, T.cl_Slider, T.na_Slider_moving, slF_moving, r.ld, .int b.len, rfl, by rw [← valV_lD S.nums hb]; exact DGet.k (k := Sum.inl b.num) S.lns, ?_⟩
    refine ⟨_, rfl, r.sl, _, dx, _, _, rfl, h1, T.cl_Slider, T.na_Slider_starts, slF_starts, _, rfl, r.sl, _, dx, _, _, rfl, h1, T.cl_Slider, T.na_Slider_moving, slF_moving, r.sd, .int b.start, rfl, by rw [← valV_sD S.nums hb]; exact DGet.k (k := Sum.inl b.num) S.sts, ?_⟩
    refine ⟨_, rfl, _, rfl, r.sl, _, dx, _, _, rfl, h1, T.cl_Slider, T.na_Slider_target, slF_target, _, rfl, _, _, rfl, rfl, ?_⟩
    refine ⟨_, _, rfl, ?_⟩
    obtain ⟨lo, elo⟩ : ∃ lo : Int, lo = if r.t + b.len > b.start then r.t + b.len else b.start := ⟨_, rfl⟩
    have hlo : b.start ≤ lo ∧ r.t + b.len ≤ lo ∧ lo ≤ b.start + b.len ∧ (lo = b.start ∨ lo = r.t + b.len) := by
      rw [elo]
      split
      · exact ⟨by omega, by omega, by omega, .inr rfl⟩
      · exact ⟨by omega, by omega, by omega, .inl rfl⟩
    rw [← elo]
    obtain ⟨l1, l2, l3, l4⟩ := hlo
    refine ⟨_, rfl, _, rfl, _, _, rfl, rfl, lo, b.start + b.len, rfl, ⟨by omega, by omega, by omega, by omega⟩, ?_⟩
    refine for_range (lo := lo) (n := (b.start + b.len - lo).toNat) (fun i σ H3 => ∃ (v3 : Option V) (ws' : List V), σ = [some (.ref r.sl), some (.int b.len), some (.int b.start), v3] ∧ H3 = upd H r.wl (.lst ws') ∧ ws'.length = r.ws.length ∧ ∀ j : Nat, j < r.ws.length → ws'[j]? = if lo ≤ (j : Int) ∧ (j : Int) < lo + i then some (.str "free") else r.ws[j]?)
      ⟨none, r.ws, rfl, ?_, rfl, fun j hj => by rw [if_neg (by omega)]⟩ ?_ ?_
    · funext x
      by_cases e : x = r.wl
      · rw [e, upd_same]; exact S.wls
      · rw [upd_ne e]
    · rintro i σ H3 hi ⟨v3, ws', rfl, rfl, hl, hw'⟩
      refine ⟨_, rfl, r.sl, _, dx, _, _, rfl, by rw [upd_ne n1]; exact h1, T.cl_Slider, T.na_Slider_words, slF_words, _, rfl, ?_⟩
      refine ⟨r.wl, ws', _, (lo + (i : Int)).toNat, rfl, rfl, upd_same, ?_, ?_⟩
      · unfold ixN
        rw [if_pos (by omega), if_pos (by omega)]
      · refine ⟨_, ws'.set (lo + (i : Int)).toNat (.str "free"), rfl, by rw [upd_upd], by rw [List.length_set]; exact hl, fun j hj => ?_⟩
        rw [List.getElem?_set]
        by_cases g : (lo + (i : Int)).toNat = j
        · rw [if_pos g, if_pos (by omega), if_pos (by omega)]
        · rw [if_neg g, hw' j hj]
          by_cases g2 : lo ≤ (j : Int) ∧ (j : Int) < lo + i
          · rw [if_pos g2, if_pos (by omega)]
          · rw [if_neg g2, if_neg (by omega)]
    · rintro σ H3 ⟨v3, ws', rfl, rfl, hl, hw'⟩
      have h13 : upd H r.wl (.lst ws') r.sl = some (.ins (He.ga K "Slider") dx (slF r.wl r.sd r.ld (.int b.num) r.t (r.c : Int))) := by rw [upd_ne n1]; exact h1
      refine ⟨_, rfl, r.sl, _, dx, _, _, rfl, h13, T.cl_Slider, T.na_Slider_target, slF_target, ?_⟩
      refine ⟨_, rfl, r.sl, _, dx, _, _, rfl, h13, T.cl_Slider, T.na_Slider_starts, slF_starts, _, rfl, r.sl, _, dx, _, _, rfl, h13, T.cl_Slider, T.na_Slider_moving, slF_moving, r.sd, _, rfl, DPut.k (k := Sum.inl b.num) (by rw [upd_ne (Ne.symm n4)]; exact S.sts) (by rw [sD_len]; exact small1000 (by have := S.small; omega)), ?_⟩
      rw [putK_sD_old (List.mem_map_of_mem hb) S.nums]
      refine ⟨_, rfl, r.sl, _, dx, _, rfl, by rw [upd_ne n2]; exact h13, T.cl_Slider, T.na_Slider_moving, (by show 6 < 1000; decide), ?_⟩
      rw [slF_put_moving]
      refine kq _ ws' ⟨⟨dx, upd_same⟩, ?_, ?_, ?_, nd5, ?_, ?_⟩ hl (fun j hj => ?_) ((kp_upd (by simp)).trans ((kp_upd (by simp)).trans (kp_upd (by simp))))
      · show upd _ r.sl _ r.wl = _
        rw [upd_ne (Ne.symm n1), upd_ne n4, upd_same]
      · show upd _ r.sl _ r.sd = _
        rw [upd_ne (Ne.symm n2), upd_same]
      · show upd _ r.sl _ r.ld = some (.dK (lD (setS b.num r.t r.bl)))
        rw [upd_ne (Ne.symm n3), upd_ne (Ne.symm n6), upd_ne (Ne.symm n5), lD_setS]; exact S.lns
      · show ((setS b.num r.t r.bl).map (·.num)).Nodup
        rw [setS_nums]; exact S.nums
      · show (setS b.num r.t r.bl).length ≤ 64
        unfold setS; rw [List.length_map]; exact S.small
      · rw [hw' j hj]
        by_cases g2 : lo ≤ (j : Int) ∧ (j : Int) < lo + ((b.start + b.len - lo).toNat : Int)
        · rw [if_pos g2, if_pos (by omega)]
        · rw [if_neg g2, if_neg (by omega)]
end
end K96
set_option Elab.async false
set_option linter.all false
set_option maxRecDepth 100000
set_option maxHeartbeats 1000000
namespace K96
open PySem PySem.Spec PyProof.Rows L2
/-- what holds of a slider between two steps -/
structure SlOk (size : Int) (pk : List (Blk V)) (r : Sl) : Prop where
  ord : ∃ bs, Ord size pk r.bl bs ∧ ∀ b ∈ r.bl, r.mo = some b.num → gap 0 (lay bs) = some (b.start, r.t)
  sw : SW (.str "free") size r.bl r.mo r.t r.c r.ws
  cl : ∀ b ∈ r.bl, r.mo = some b.num → (r.c : Int) < b.len
def Sl.mu (r : Sl) : Int := wsum r.bl - (if r.mo = none then 0 else (r.c : Int))
def Moved (r r' : Sl) : Prop := r'.sl = r.sl ∧ r'.wl = r.wl ∧ r'.sd = r.sd ∧ r'.ld = r.ld ∧ r'.bl.map Blk.key = r.bl.map Blk.key
theorem Moved.refl (r : Sl) : Moved r r := ⟨rfl, rfl, rfl, rfl, rfl⟩
theorem Moved.trans {a b c : Sl} (h : Moved a b) (g : Moved b c) : Moved a c :=
  ⟨g.1.trans h.1, g.2.1.trans h.2.1, g.2.2.1.trans h.2.2.1, g.2.2.2.1.trans h.2.2.2.1, g.2.2.2.2.trans h.2.2.2.2⟩
def Sl.mfp (r : Sl) : List Addr := [r.sl, r.wl, r.sd]
theorem Moved.mfp {r r' : Sl} (h : Moved r r') : r'.mfp = r.mfp := by
  unfold Sl.mfp; rw [h.1, h.2.1, h.2.2.1]
theorem SlOk.mu_nonneg {size : Int} {pk : List (Blk V)} {r : Sl} (a : SlOk size pk r) : 0 ≤ r.mu := by
  obtain ⟨bs, o, _⟩ := a.ord
  have h := wsum_mem (l := r.bl) fun b hb => ⟨(o.mem hb).1, (o.mem hb).2.1⟩
  unfold Sl.mu
  cases e : r.mo with
  | none => rw [if_pos rfl]; have := h.1; omega
  | some k =>
    rw [if_neg (by simp)]
    obtain ⟨b, hb, e2, q1, q2, q3, _⟩ := a.sw.mvo k e
    have h1 := h.2 b hb
    have h2 := a.cl b hb (by rw [e, e2])
    have h3 : b.len * 1 ≤ b.len * b.start := Int.mul_le_mul_of_nonneg_left (by omega) b.len_nonneg
    omega
section
variable {w : World} {K : PySem.W.Frag} {mg : Str → Option Value} {base : Heap}
/-! ### step -/
def spStep (K : PySem.W.Frag) : Sp := fun vs H Q _ => ∃ (r : Sl) (size : Int) (pk : List (Blk V)), vs = [.ref r.sl] ∧ SlAt K H r ∧ SlOk size pk r ∧ 0 ≤ size ∧ size ≤ 25 ∧
  (∀ bs, r.mo = none → Ord size pk r.bl bs → gap 0 (lay bs) = none → ∀ H', Same H H' → Q (.bl false) H') ∧
  ∀ r' H', SlAt K H' r' → SlOk size pk r' → Moved r r' → r'.mu < r.mu → Kp r.mfp H H' → Q (.bl true) H'
theorem sc_Step : FnScope ["self"] ["self"] (defScope s_Slider_step) := ⟨rfl, rfl, rfl, by decide +kernel, rfl, by decide +kernel, by decide +kernel⟩
theorem ok_Step (T : Top K mg) : Ok Pg w K mg base CX0 3 (He.ma K (He.ga K "Slider") "step") ["self"] (spStep K) := by
  obtain ⟨fdB, GB, bB, _⟩ := ok_Begin (w := w) (base := base) T
  obtain ⟨fdF, GF, bF, _⟩ := ok_Finish (w := w) (base := base) T
  refine ok0 T.d_Slider_step sc_Step (fun vs H Q E h => ?_) (fun _ _ _ _ _ _ us hl => match us, hl with | [_], _ => rfl) (fun cdv A outer s H vs Q E hr h => ?_)
  · obtain ⟨r, size, pk, rfl, _⟩ := h
    rfl
  · obtain ⟨r, size, pk, rfl, S, O, hz0, hz1, kq1, kq2⟩ := h
    have hu := hu_of hr
    refine ⟨_, pss_cons (ps_if (PW.pt (pw_and (pt_cmp (pc_isN (pe_fld (pv 0) rfl))) (pw_and1 (pt_not (pt_val (pe_meth0 (pv 0) T.cl_Slider T.me_Slider_begin GB hr bB .nil pass0)))))) (pss_one (ps_ret pe_bl)) pss_nil)
      (pss_cons (ps_asg (pe_ix ix_list (pe_fld (pv 0) rfl) (pe_op op_add (pe_dget hu (pe_fld (pv 0) rfl) (pe_fld (pv 0) rfl) (fun _ _ => rfl)) (pe_fld (pv 0) rfl)) (fun _ _ => rfl)) (pg_sub (pe_fld (pv 0) rfl) (pe_op op_add (pe_fld (pv 0) rfl) (pe_fld (pv 0) rfl)) set_list))
      (pss_cons (ps_fldaug (pv 0) pe_int in_add)
      (pss_cons (ps_if (pt_cmpR op_eq (pe_fld (pv 0) rfl) (pe_dget hu (pe_fld (pv 0) rfl) (pe_fld (pv 0) rfl) (fun _ _ => rfl)) (nomark _)) (pss_one (ps_expr (pe_meth0 (pv 0) T.cl_Slider T.me_Slider_finish GF (hr.mono (by decide)) bF .nil pass0))) pss_nil)
      (pss_one (ps_ret pe_bl))))), ?_⟩
    have hS := S
    obtain ⟨dx, h1⟩ := S.ins
    -- the copying, from any state with a block that moves
    have go : ∀ (r1 : Sl) (H1 : Hp) (b : Blk V), SlAt K H1 r1 → SlOk size pk r1 → Moved r r1 → r1.mu = r.mu → Kp r.mfp H H1 → b ∈ r1.bl → r1.mo = some b.num →
        tSeq (tAsg (tOp (rIxL K) (tFld K (tVar 0) "words") (tOp (rI0 fun i j => V.int (i + j)) (tDGet (tFld K (tVar 0) "starts") (tFld K (tVar 0) "moving")) (tFld K (tVar 0) "copied"))) (gSub (tFld K (tVar 0) "words") (tOp (rI0 fun i j => V.int (i + j)) (tFld K (tVar 0) "target") (tFld K (tVar 0) "copied")) L2.rSetL))
          (tSeq (sFldAug K (tVar 0) (tC (V.int 1)) (rI0 fun i j => V.int (i + j)) "copied") (tSeq (tIfS (tTest (tOp rEq (tFld K (tVar 0) "copied") (tDGet (tFld K (tVar 0) "lengths") (tFld K (tVar 0) "moving")))) (tDrop (tMeth (He.ga K "Slider") "finish" (spFinish K) [] E0 (tVar 0) tNil)) tNext) (tRet (tC (V.bl true)))))
          { nx := fun _ H' => Q .non H', rt := Q } [some (.ref r.sl)] H1 := by
      intro r1 H1 b S1 O1 M1 hmu k1 hb hmo
      obtain ⟨bs, o, hgp⟩ := O1.ord
      have W := O1.sw
      have wl_ := W.len
      have hcl := O1.cl b hb hmo
      have mb := o.mem hb
      have hlb : b.len = (b.fs.length : Int) := rfl
      have hci : r1.c < b.fs.length := by omega
      have hv : b.fs[r1.c]? = some b.fs[r1.c] := List.getElem?_eq_getElem hci
      obtain ⟨b2, hb2, e2, q1, q2, q3, q4⟩ := W.mvo _ hmo
      have : b2 = b := num_inj S1.nums hb2 hb e2
      subst this
      have hat := W.at_ b2 hb r1.c _ hv
      have hpos : pos r1.mo r1.t r1.c b2 r1.c = b2.start + (r1.c : Int) := by unfold pos; rw [if_neg fun z => Nat.lt_irrefl _ z.2]
      rw [hpos] at hat
      have hat2 : atI r1.ws (b2.start + (r1.c : Int)) = some b2.fs[r1.c] := by
        have e : b2.start + (r1.c : Int) = ((b2.start + (r1.c : Int)).toNat : Int) := (Int.toNat_of_nonneg (by omega)).symm
        rw [e]; exact atI_nat hat
      obtain ⟨d1, g1⟩ := S1.ins
      rw [hmo] at g1
      have g1 : H1 r1.sl = some (.ins (He.ga K "Slider") d1 (slF r1.wl r1.sd r1.ld (.int b2.num) r1.t (r1.c : Int))) := g1
      have esl : r1.sl = r.sl := M1.1
      have nd4 := S1.nd
      have nd5 := S1.nd
      simp only [List.nodup_cons, List.mem_cons, List.not_mem_nil, or_false, not_or] at nd4
      obtain ⟨⟨n1, n2, n3⟩, ⟨n4, n5⟩, n6, _⟩ := nd4
      have hsd1 := S1.sts
      rw [← esl]
      refine ⟨_, rfl, r1.sl, _, d1, _, _, rfl, g1, T.cl_Slider, T.na_Slider_words, slF_words, _, rfl, r1.sl, _, d1, _, _, rfl, g1, T.cl_Slider, T.na_Slider_starts, slF_starts, _, rfl, r1.sl, _, d1, _, _, rfl, g1, T.cl_Slider, T.na_Slider_moving, slF_moving, r1.sd, .int b2.start, rfl, by rw [← valV_sD S1.nums hb]; exact DGet.k (k := Sum.inl b2.num) S1.sts, ?_⟩
      refine ⟨_, rfl, r1.sl, _, d1, _, _, rfl, g1, T.cl_Slider, T.na_Slider_copied, slF_copied, _, _, rfl, rfl, r1.wl, r1.ws, _, _, rfl, rfl, SqL.of S1.wls, hat2, ?_⟩
      refine ⟨_, rfl, r1.sl, _, d1, _, _, rfl, g1, T.cl_Slider, T.na_Slider_words, slF_words, _, rfl, r1.sl, _, d1, _, _, rfl, g1, T.cl_Slider, T.na_Slider_target, slF_target, _, rfl, r1.sl, _, d1, _, _, rfl, g1, T.cl_Slider, T.na_Slider_copied, slF_copied, _, _, rfl, rfl, ?_⟩
      refine ⟨r1.wl, r1.ws, _, (r1.t + (r1.c : Int)).toNat, rfl, rfl, S1.wls, ?_, ?_⟩
      · unfold ixN
        rw [if_pos (by omega), if_pos (by omega)]
      have W2 := W.copy o S1.nums hb hmo hv
      obtain ⟨ws2, ews2⟩ : ∃ ws2, ws2 = r1.ws.set (r1.t + (r1.c : Int)).toNat b2.fs[r1.c] := ⟨_, rfl⟩
      rw [← ews2] at W2 ⊢
      have g2 : upd H1 r1.wl (.lst ws2) r1.sl = some (.ins (He.ga K "Slider") d1 (slF r1.wl r1.sd r1.ld (.int b2.num) r1.t (r1.c : Int))) := by rw [upd_ne n1]; exact g1
      refine ⟨_, rfl, r1.sl, _, d1, _, _, rfl, g2, T.cl_Slider, T.na_Slider_copied, slF_copied, _, _, rfl, rfl, d1, _, g2, (by show 6 < 1000; decide), ?_⟩
      rw [slF_put_copied]
      have ec : ((r1.c : Int) + 1) = ((r1.c + 1 : Nat) : Int) := by omega
      obtain ⟨H3, eH3⟩ : ∃ H3, H3 = upd (upd H1 r1.wl (.lst ws2)) r1.sl (.ins (He.ga K "Slider") d1 (slF r1.wl r1.sd r1.ld (.int b2.num) r1.t ((r1.c : Int) + 1))) := ⟨_, rfl⟩
      have g3 : H3 r1.sl = some (.ins (He.ga K "Slider") d1 (slF r1.wl r1.sd r1.ld (.int b2.num) r1.t ((r1.c + 1 : Nat) : Int))) := by rw [eH3, upd_same, ec]
      have S3 : SlAt K H3 { r1 with c := r1.c + 1, ws := ws2 } := by
        refine ⟨⟨d1, by show H3 r1.sl = some (.ins _ d1 (slF r1.wl r1.sd r1.ld (mkV r1.mo) r1.t ((r1.c + 1 : Nat) : Int))); rw [hmo]; exact g3⟩, ?_, ?_, ?_, nd5, S1.nums, S1.small⟩
        · show H3 r1.wl = _
          rw [eH3, upd_ne (Ne.symm n1), upd_same]
        · show H3 r1.sd = _
          rw [eH3, upd_ne (Ne.symm n2), upd_ne (Ne.symm n4)]; exact S1.sts
        · show H3 r1.ld = _
          rw [eH3, upd_ne (Ne.symm n3), upd_ne (Ne.symm n5)]; exact S1.lns
      have k3 : Kp r.mfp H H3 := k1.trans (by
        rw [eH3, ← M1.mfp]
        exact (kp_upd (by simp [Sl.mfp])).trans (kp_upd (by simp [Sl.mfp])))
      rw [← eH3]
      have hmu1 : r1.mu = wsum r1.bl - (r1.c : Int) := by unfold Sl.mu; rw [if_neg (by rw [hmo]; simp)]
      refine ⟨_, rfl, r1.sl, _, d1, _, _, rfl, g3, T.cl_Slider, T.na_Slider_copied, slF_copied, _, rfl, r1.sl, _, d1, _, _, rfl, g3, T.cl_Slider, T.na_Slider_lengths, slF_lengths, _, rfl, r1.sl, _, d1, _, _, rfl, g3, T.cl_Slider, T.na_Slider_moving, slF_moving, r1.ld, .int b2.len, rfl, by rw [← valV_lD S1.nums hb]; exact DGet.k (k := Sum.inl b2.num) S3.lns, rfl, _, rfl, ?_⟩
      by_cases ce : V.int ((r1.c + 1 : Nat) : Int) = V.int b2.len
      · rw [decide_eq_true ce]
        have ce' : ((r1.c + 1 : Nat) : Int) = b2.len := by injection ce
        refine iteT ?_
        refine ⟨_, rfl, r1.sl, d1, _, rfl, g3, slF_no_finish, { r1 with c := r1.c + 1, ws := ws2 }, b2, rfl, S3, hb, hmo, mb.1, by show _ ≤ (ws2.length : Int); rw [W2.len]; exact mb.2.2, by show ws2.length ≤ 900; have := W2.len; omega, q1, q2, fun H4 ws' S4 hl hw k4 => ?_⟩
        have W2' : SW (.str "free") size r1.bl (some b2.num) r1.t (r1.c + 1) ws2 := by rw [← hmo]; exact W2
        have W4 := W2'.finish o S1.nums hb ce' hl hw r1.t (r1.c + 1)
        obtain ⟨b3, hb3, x1, x2, x3, x4, x5, x6⟩ := o.slide S1.nums (hgp b2 hb hmo)
        have : b3 = b2 := o.starts hb3 hb x1
        subst this
        refine kq2 { r1 with c := r1.c + 1, ws := ws', bl := setS b3.num r1.t r1.bl, mo := none } H4 S4 ⟨⟨_, x4, fun b' _ z => (nomatch z)⟩, W4, fun b' _ z => (nomatch z)⟩ (M1.trans ⟨rfl, rfl, rfl, rfl, setS_keys _ _ _⟩) ?_ (k3.trans ?_)
        · have h5 := wsum_setS (k := b3.num) (e := r1.t) S1.nums hb rfl
          show wsum (setS b3.num r1.t r1.bl) - 0 < r.mu
          rw [← hmu, hmu1, h5]
          have h6 : b3.len * 1 ≤ b3.len * (b3.start - r1.t) := Int.mul_le_mul_of_nonneg_left (by omega) b3.len_nonneg
          omega
        · have e : r.mfp = [r1.sl, r1.wl, r1.sd] := M1.mfp.symm
          rw [e]; exact k4
      · rw [decide_eq_false ce]
        have ce' : ((r1.c + 1 : Nat) : Int) ≠ b2.len := fun z => ce (by rw [z])
        refine iteF ?_
        refine kq2 { r1 with c := r1.c + 1, ws := ws2 } H3 S3 ⟨⟨bs, o, hgp⟩, W2, fun b' hb' z => ?_⟩ (M1.trans ⟨rfl, rfl, rfl, rfl, rfl⟩) ?_ k3
        · have z' : r1.mo = some b'.num := z
          rw [hmo] at z'
          have : b' = b2 := num_inj S1.nums hb' hb (Option.some.inj z').symm
          subst this
          show ((r1.c + 1 : Nat) : Int) < b'.len
          omega
        · unfold Sl.mu at hmu ⊢
          show wsum r1.bl - (if r1.mo = none then 0 else ((r1.c + 1 : Nat) : Int)) < _
          rw [← hmu, if_neg (by rw [hmo]; simp), if_neg (by rw [hmo]; simp)]
          omega
    refine ⟨_, rfl, r.sl, _, dx, _, _, rfl, h1, T.cl_Slider, T.na_Slider_moving, slF_moving, _, rfl, ?_⟩
    obtain ⟨bs, o, hgp⟩ := O.ord
    cases hm : r.mo with
    | some k =>
      have : decide (mkV (some k) = V.non) = false := by simp [mkV]
      rw [this]
      obtain ⟨b, hb, e2, _⟩ := O.sw.mvo k hm
      exact iteF (go r H b S O (.refl r) rfl Kp.refl hb (by rw [hm, e2]))
    | none =>
      have : decide (mkV none = V.non) = true := by simp [mkV]
      rw [this]
      refine iteT ?_
      refine ⟨_, rfl, r.sl, dx, _, rfl, h1, slF_no_begin, r, bs, size, rfl, S, o.perm, o.chain, fun hg H' s' => ⟨_, rfl, ?_⟩, fun b e hb hg H' S' k' => ⟨_, rfl, ?_⟩⟩
      · exact iteT (kq1 bs hm o hg H' s')
      · refine iteF ?_
        obtain ⟨b3, hb3, x1, x2, x3, x4, x5, x6⟩ := o.slide S.nums hg
        have : b3 = b := o.starts hb3 hb x1
        subst this
        have W0 : SW (.str "free") size r.bl none r.t r.c r.ws := by rw [← hm]; exact O.sw
        have W1 := W0.begin hb x2 x3 fun b' hb' hne => x6 b' hb' hne
        have mb := o.mem hb
        refine go { r with mo := some b3.num, t := e, c := 0 } H' b3 S' ⟨⟨bs, o, fun b' hb' z => ?_⟩, W1, fun b' hb' z => ?_⟩ ⟨rfl, rfl, rfl, rfl, rfl⟩ ?_ (k'.mono fun x hx => by
          have : x = r.sl := by simpa using hx
          rw [this]; simp [Sl.mfp]) hb rfl
        · have : b' = b3 := num_inj S.nums hb' hb (Option.some.inj z).symm
          rw [this]; exact hg
        · have : b' = b3 := num_inj S.nums hb' hb (Option.some.inj z).symm
          rw [this]
          show ((0 : Nat) : Int) < b3.len
          omega
        · unfold Sl.mu
          show wsum r.bl - (if some b3.num = none then 0 else ((0 : Nat) : Int)) = wsum r.bl - (if r.mo = none then 0 else (r.c : Int))
          rw [if_neg (by simp), if_pos hm]
          rfl
end
end K96
set_option Elab.async false
set_option linter.all false
set_option maxRecDepth 100000
set_option maxHeartbeats 1000000
namespace K96
open PySem PySem.Spec PyProof.Rows L2
section
variable {w : World} {K : PySem.W.Frag} {mg : Str → Option Value} {base : Heap}
/-! ### work -/
def Done (size : Int) (pk : List (Blk V)) (r : Sl) : Prop := r.mo = none ∧ ∃ bs, Ord size pk r.bl bs ∧ gap 0 (lay bs) = none
def spWork (K : PySem.W.Frag) : Sp := fun vs H Q _ => ∃ (r : Sl) (size n : Int) (pk : List (Blk V)), vs = [.ref r.sl, .int n] ∧ SlAt K H r ∧ SlOk size pk r ∧ 0 ≤ size ∧ size ≤ 25 ∧
  ∀ r' H' k, SlAt K H' r' → SlOk size pk r' → Moved r r' → (r.mu < n → Done size pk r') → Kp r.mfp H H' → Q (.int k) H'
theorem sc_Work : FnScope ["self", "steps", "made"] ["self", "steps"] (defScope s_Slider_work) := ⟨rfl, rfl, rfl, by decide +kernel, rfl, by decide +kernel, by decide +kernel⟩
theorem ok_Work (T : Top K mg) : Ok Pg w K mg base CX0 4 (He.ma K (He.ga K "Slider") "work") ["self", "steps"] (spWork K) := by
  obtain ⟨fdS, GS, bS, _⟩ := ok_Step (w := w) (base := base) T
  refine ok0 T.d_Slider_work sc_Work (fun vs H Q E h => ?_) (fun _ _ _ _ _ _ us hl => match us, hl with | [_, _], _ => rfl) (fun cdv A outer s H vs Q E hr h => ?_)
  · obtain ⟨r, size, n, pk, rfl, _⟩ := h
    rfl
  · obtain ⟨r, size, n, pk, rfl, S, O, hz0, hz1, kq⟩ := h
    refine ⟨_, pss_cons (ps_set (i := 2) sc_Work.nd rfl (.inl rfl) pe_int)
      (pss_cons (ps_while PassesOwn.never (PW.pt (pw_and (pt_cmpR op_lt (pv 2) (pv 1) (nomark _)) (pw_and1 (pt_val (pe_meth0 (pv 0) T.cl_Slider T.me_Slider_step GS hr bS .nil pass0)))))
        (pss_one (ps_aug (i := 2) sc_Work.nd rfl (.inl rfl) pe_int ip_add)))
      (pss_one (ps_ret (pv 2)))), ?_⟩
    refine ⟨fun m σ H2 => ∃ (k : Int) (r2 : Sl), m = (n - k).toNat ∧ σ = [some (.ref r.sl), some (.int n), some (.int k)] ∧ SlAt K H2 r2 ∧ SlOk size pk r2 ∧ Moved r r2 ∧ r2.mu + k ≤ r.mu ∧ Kp r.mfp H H2, ⟨_, 0, r, rfl, rfl, S, O, .refl r, by omega, Kp.refl⟩, ?_⟩
    rintro m σ H2 ⟨k, r2, rfl, rfl, S2, O2, M2, hmu, k2⟩
    refine ⟨_, rfl, _, rfl, _, _, rfl, rfl, _, rfl, ?_⟩
    by_cases c : k < n
    · rw [decide_eq_true c]
      refine iteT ?_
      obtain ⟨d2, g2⟩ := S2.ins
      have esl : r2.sl = r.sl := M2.1
      refine ⟨_, rfl, r.sl, d2, _, rfl, by rw [← esl]; exact g2, slF_no_step, r2, size, pk, by rw [← esl]; rfl, S2, O2, hz0, hz1, fun bs hm o hg H3 s3 => ?_, fun r3 H3 S3 O3 M3 hmu3 k3 => ?_⟩
      · refine ⟨_, rfl, iteF ?_⟩
        refine ⟨_, rfl, kq r2 H3 k (S2.same s3) O2 M2 (fun _ => ⟨hm, bs, o, hg⟩) (k2.then_same s3)⟩
      · refine ⟨_, rfl, iteT ?_⟩
        refine ⟨fun σ' H' => ∃ (k' : Int) (r' : Sl), (n - k').toNat < (n - k).toNat ∧ σ' = [some (.ref r.sl), some (.int n), some (.int k')] ∧ SlAt K H' r' ∧ SlOk size pk r' ∧ Moved r r' ∧ r'.mu + k' ≤ r.mu ∧ Kp r.mfp H H', ?_, ?_⟩
        · rintro σ' H' ⟨k', r', hm, rest⟩
          exact ⟨_, hm, k', r', rfl, rest⟩
        · refine ⟨_, rfl, _, _, rfl, rfl, k + 1, r3, by omega, rfl, S3, O3, M2.trans M3, by omega, k2.trans ?_⟩
          rw [← M2.mfp]; exact k3
    · rw [decide_eq_false c]
      refine iteF ?_
      refine ⟨_, rfl, kq r2 H2 k S2 O2 M2 (fun hn => ?_) k2⟩
      have := O2.mu_nonneg
      omega
end
end K96
set_option Elab.async false
set_option linter.all false
set_option maxRecDepth 100000
set_option maxHeartbeats 1000000
namespace K96
open PySem PySem.Spec PyProof.Rows L2
section
variable {w : World} {K : PySem.W.Frag} {mg : Str → Option Value} {base : Heap}
/-! ### _law_cell -/
def spLCell (K : PySem.W.Frag) : Sp := fun vs H Q _ => ∃ (a : Addr) (ns : List Int) (k : Int), vs = [.ref a, .int k] ∧ SqL K H a (ns.map V.int) ∧ 0 ≤ k ∧ ∀ n : Int, Q (.int n) H
theorem sc_LCell : FnScope ["_law_script", "_law_k"] ["_law_script", "_law_k"] (defScope s__law_cell) := ⟨rfl, rfl, rfl, by decide +kernel, rfl, by decide +kernel, by decide +kernel⟩
theorem ok_LCell (T : Top K mg) : Ok Pg w K mg base CX0 1 (He.ga K "_law_cell") ["_law_script", "_law_k"] (spLCell K) := by
  refine ok0 T.d__law_cell sc_LCell (fun vs H Q E h => ?_) (fun _ _ _ _ _ _ us hl => match us, hl with | [_, _], _ => rfl) (fun cdv A outer s H vs Q E hr h => ?_)
  · obtain ⟨a, ns, k, rfl, _⟩ := h
    rfl
  · obtain ⟨a, ns, k, rfl, hS, hk, kq⟩ := h
    refine ⟨_, pss_cons (ps_if (pt_cmpR op_lt (pv 1) (pe_callB call_len_seq (by rfl) T.fr_len PySem.boot_len (pa_cons (pv 0) pa_nil)) (nomark _)) (pss_one (ps_ret (pe_ix ix_list (pv 0) (pv 1) (fun _ _ => rfl)))) pss_nil)
      (pss_one (ps_ret pe_int)), ?_⟩
    refine ⟨_, rfl, _, rfl, a, _, rfl, .inl hS, _, _, rfl, rfl, _, rfl, ?_⟩
    rw [List.length_map]
    by_cases c : k < (ns.length : Int)
    · rw [decide_eq_true c]
      refine iteT ?_
      obtain ⟨j, rfl⟩ := Int.eq_ofNat_of_zero_le hk
      have hj : j < ns.length := by omega
      have hv : (ns.map V.int)[j]? = some (V.int ns[j]) := by rw [List.getElem?_map, List.getElem?_eq_getElem hj]; rfl
      exact ⟨_, rfl, _, rfl, a, _, _, _, rfl, rfl, hS, atI_nat hv, kq _⟩
    · rw [decide_eq_false c]
      exact iteF (kq 0)
/-! ### _law_row -/
def spLRow (K : PySem.W.Frag) : Sp := fun vs H Q _ => ∃ (c k m : Int), vs = [.int c, .int k, .int m] ∧ 0 ≤ k ∧ k ≤ 1000 ∧ 0 ≤ m ∧ m ≤ 100 ∧ ∀ (H' : Hp) (p : Addr) (ns : List Int), H' p = some (.lst (ns.map V.int)) → ns.length ≤ 100 → Same H H' → Q (.ref p) H'
theorem sc_LRow : FnScope ["_law_cell_here", "_law_k", "_law_many", "_law_row_here", "_law_turn", "_law_seed"] ["_law_cell_here", "_law_k", "_law_many"] (defScope s__law_row) := ⟨rfl, rfl, rfl, by decide +kernel, rfl, by decide +kernel, by decide +kernel⟩
theorem ok_LRow (T : Top K mg) : Ok Pg w K mg base CX0 1 (He.ga K "_law_row") ["_law_cell_here", "_law_k", "_law_many"] (spLRow K) := by
  refine ok0 T.d__law_row sc_LRow (fun vs H Q E h => ?_) (fun _ _ _ _ _ _ us hl => match us, hl with | [_, _, _], _ => rfl) (fun cdv A outer s H vs Q E hr h => ?_)
  · obtain ⟨c, k, m, rfl, _⟩ := h
    rfl
  · obtain ⟨c, k, m, rfl, hk0, hk1, hm0, hm1, kq⟩ := h
    have hu := hu_of hr
    refine ⟨_, pss_cons (ps_set (i := 3) sc_LRow.nd rfl (.inl rfl) (pe_lst pa_nil))
      (pss_cons (ps_if (pt_cmpR op_lt (pv 0) pe_int (nomark _)) (pss_one (ps_set (i := 0) sc_LRow.nd rfl (.inl rfl) (pe_op op_sub pe_int (pe_op op_mul pe_int (pv 0))))) pss_nil)
      (pss_cons (ps_if (pt_cmpR op_ge (pv 0) (pe_op op_pow pe_int pe_int) (nomark _))
        (pss_cons (ps_for PassesOwn.never rfl (pi_range1 (by rfl) T.fr_range (pa_cons pe_int pa_nil)) (pg_name (i := 4) sc_LRow.nd rfl (.inl rfl))
          (pss_one (ps_if (PW.pt (pw_and (pt_cmpR op_gt (pv 0) pe_int (nomark _)) (pw_and1 (pt_cmpR op_lt (pe_callB call_len_seq (by rfl) T.fr_len PySem.boot_len (pa_cons (pv 3) pa_nil)) (pv 2) (nomark _)))))
            (pss_cons (ps_expr (pe_bm PySem.F.plainAttrs_list PySem.F.slot_list_append PySem.F.type_list_append mt_append (pv 3) (pa_cons (pe_op op_mod (pe_callTy call_int1 (by rfl) T.fr_int (by decide +kernel) (pa_cons (pv 0) pa_nil)) pe_int) pa_nil)))
            (pss_one (ps_set (i := 0) sc_LRow.nd rfl (.inl rfl) (pe_op op_fdiv (pv 0) pe_int)))) pss_nil)))
        (pss_one (ps_ret (pv 3)))) pss_nil)
      (pss_cons (ps_set (i := 5) sc_LRow.nd rfl (.inl rfl) (pe_op op_mod (pe_callTy call_int1 (by rfl) T.fr_int (by decide +kernel) (pa_cons (pe_op op_add (pe_op op_add (pe_op op_mul (pv 0) pe_int) (pe_op op_mul (pv 1) pe_int)) pe_int) pa_nil)) pe_int))
      (pss_cons (ps_for PassesOwn.never rfl (pi_range1 (by rfl) T.fr_range (pa_cons (pv 2) pa_nil)) (pg_name (i := 4) sc_LRow.nd rfl (.inl rfl))
        (pss_cons (ps_set (i := 5) sc_LRow.nd rfl (.inl rfl) (pe_op op_mod (pe_callTy call_int1 (by rfl) T.fr_int (by decide +kernel) (pa_cons (pe_op op_add (pe_op op_add (pe_op op_mul (pv 5) pe_int) (pe_op op_mul pe_int (pv 4))) pe_int) pa_nil)) pe_int))
        (pss_one (ps_expr (pe_bm PySem.F.plainAttrs_list PySem.F.slot_list_append PySem.F.type_list_append mt_append (pv 3) (pa_cons (pe_op op_mod (pe_callTy call_int1 (by rfl) T.fr_int (by decide +kernel) (pa_cons (pe_op op_fdiv (pv 5) pe_int) pa_nil)) pe_int) pa_nil))))))
      (pss_one (ps_ret (pv 3))))))), ?_⟩
    refine ⟨Nat.zero_le _, fun q hq => ?_⟩
    have s0 : Same H (upd H q (.lst [])) := same_upd hq
    have push : ∀ {H2 : Hp} {ns : List Int} {x : Int}, Same H H2 → H2 q = some (.lst (ns.map V.int)) → Same H (upd H2 q (.lst (ns.map V.int ++ [V.int x]))) ∧ upd H2 q (.lst (ns.map V.int ++ [V.int x])) q = some (.lst ((ns ++ [x]).map V.int)) := fun {H2 ns x} s e => ⟨fun b o eb => by rw [upd_ne (ne_of_none eb hq)]; exact s b o eb, by rw [upd_same, List.map_append]; rfl⟩
    refine ⟨_, rfl, _, _, rfl, rfl, _, rfl, ?_⟩
    by_cases c0 : c < 0
    all_goals first
      | (rw [decide_eq_true c0]
         refine iteT ⟨_, rfl, _, _, rfl, rfl, .inl ⟨by decide, by decide⟩, _, _, rfl, rfl, ?_⟩
         have h0 : 0 ≤ 1 - 2 * c := by omega
         dsimp only
         generalize 1 - 2 * c = c' at h0 ⊢)
      | (rw [decide_eq_false c0]
         refine iteF ?_
         have h0 : 0 ≤ c := by omega
         generalize c = c' at h0 ⊢)
    all_goals
      refine ⟨_, rfl, _, _, rfl, rfl, ⟨by decide, by decide, by decide⟩, _, _, rfl, rfl, _, rfl, ?_⟩
      have e18 : (10 : Int) ^ (18 : Int).toNat = 1000000000000000000 := by decide
      rw [e18]
      by_cases c1 : 1000000000000000000 ≤ c'
      · rw [decide_eq_true c1]
        refine iteT ?_
        refine ⟨60, rfl, by decide, by decide, ?_⟩
        refine for_range (lo := 0) (n := 60) (fun i σ H2 => ∃ (c2 : Int) (v4 : Option V) (ns : List Int), σ = [some (.int c2), some (.int k), some (.int m), some (.ref q), v4, none] ∧ Same H H2 ∧ H2 q = some (.lst (ns.map V.int)) ∧ ns.length ≤ i)
          ⟨c', none, [], rfl, s0, upd_same, Nat.le_refl _⟩ ?_ ?_
        · rintro i σ H2 hi ⟨c2, v4, ns, rfl, s2, e2, hl⟩
          refine ⟨_, rfl, _, _, rfl, rfl, _, rfl, ?_⟩
          by_cases c3 : 0 < c2
          · rw [decide_eq_true c3]
            refine iteT ⟨_, rfl, q, _, rfl, .inl (SqL.of e2), _, rfl, _, _, rfl, rfl, _, rfl, ?_⟩
            rw [List.length_map]
            by_cases c4 : (ns.length : Int) < m
            · rw [decide_eq_true c4]
              refine iteT ?_
              refine ⟨_, rfl, .inl ⟨rfl, _, SqL.of e2⟩, _, rfl, .inl ⟨_, rfl, _, _, rfl, rfl, (by show (0 : Int) < 1000; decide), q, _, _, rfl, rfl, e2, by rw [List.length_map]; exact small1000 (by omega), ?_⟩⟩
              obtain ⟨p1, p2⟩ := push (x := c2 % 1000) s2 e2
              refine ⟨_, rfl, _, _, rfl, rfl, ⟨by decide, by decide⟩, c2 / 1000, _, ns ++ [c2 % 1000], rfl, p1, p2, by rw [List.length_append]; simp only [List.length_cons, List.length_nil]; omega⟩
            · rw [decide_eq_false c4]
              exact iteF ⟨c2, _, ns, rfl, s2, e2, by omega⟩
          · rw [decide_eq_false c3]
            exact iteF ⟨c2, _, ns, rfl, s2, e2, by omega⟩
        · rintro σ H2 ⟨c2, v4, ns, rfl, s2, e2, hl⟩
          exact ⟨_, rfl, kq H2 q ns e2 (by omega) s2⟩
      · rw [decide_eq_false c1]
        refine iteF ?_
        refine ⟨_, rfl, _, _, rfl, rfl, .inl ⟨by omega, by omega⟩, _, rfl, _, _, rfl, rfl, .inl ⟨by omega, by omega⟩, _, _, rfl, rfl, _, _, rfl, rfl, .inl ⟨_, rfl, _, _, rfl, rfl, (by show (0 : Int) < 2147483647; decide), ?_⟩⟩
        dsimp only
        have hs0 := Int.emod_nonneg (c' * 48271 + k * 69621 + 11) (b := 2147483647) (by decide)
        have hs1 := Int.emod_lt_of_pos (c' * 48271 + k * 69621 + 11) (b := 2147483647) (by decide)
        generalize (c' * 48271 + k * 69621 + 11) % 2147483647 = sd at hs0 hs1 ⊢
        refine ⟨_, rfl, m, rfl, by omega, by omega, ?_⟩
        refine for_range (lo := 0) (n := m.toNat) (fun i σ H2 => ∃ (sd : Int) (v4 : Option V) (ns : List Int), σ = [some (.int c'), some (.int k), some (.int m), some (.ref q), v4, some (.int sd)] ∧ 0 ≤ sd ∧ sd < 2147483647 ∧ Same H H2 ∧ H2 q = some (.lst (ns.map V.int)) ∧ ns.length ≤ i)
          ⟨sd, none, [], rfl, hs0, hs1, s0, upd_same, Nat.le_refl _⟩ ?_ ?_
        · rintro i σ H2 hi ⟨sd, v4, ns, rfl, d0, d1, s2, e2, hl⟩
          refine ⟨_, rfl, _, _, rfl, rfl, .inl ⟨by omega, by omega⟩, _, rfl, _, _, rfl, rfl, .inl ⟨by decide, by decide⟩, _, _, rfl, rfl, _, _, rfl, rfl, .inl ⟨_, rfl, _, _, rfl, rfl, (by show (0 : Int) < 2147483647; decide), ?_⟩⟩
          dsimp only
          have hs0 := Int.emod_nonneg (sd * 16807 + 7 * (0 + (i : Int)) + 1) (b := 2147483647) (by decide)
          have hs1 := Int.emod_lt_of_pos (sd * 16807 + 7 * (0 + (i : Int)) + 1) (b := 2147483647) (by decide)
          generalize (sd * 16807 + 7 * (0 + (i : Int)) + 1) % 2147483647 = sd2 at hs0 hs1 ⊢
          refine ⟨_, rfl, .inl ⟨rfl, _, SqL.of e2⟩, _, rfl, _, _, rfl, rfl, ⟨by decide, by decide⟩, .inl ⟨_, rfl, _, _, rfl, rfl, (by show (0 : Int) < 1000; decide), q, _, _, rfl, rfl, e2, by rw [List.length_map]; exact small1000 (by omega), ?_⟩⟩
          obtain ⟨p1, p2⟩ := push (x := sd2 / 997 % 1000) s2 e2
          exact ⟨sd2, _, ns ++ [sd2 / 997 % 1000], rfl, hs0, hs1, p1, p2, by rw [List.length_append]; simp only [List.length_cons, List.length_nil]; omega⟩
        · rintro σ H2 ⟨sd, v4, ns, rfl, d0, d1, s2, e2, hl⟩
          exact ⟨_, rfl, kq H2 q ns e2 (by omega) s2⟩
end
end K96
set_option Elab.async false
set_option linter.all false
set_option maxRecDepth 100000
set_option maxHeartbeats 1000000
namespace K96
open PySem PySem.Spec PyProof.Rows L2
/-- the box of draws -/
def Bx (H : Hp) (bx p : Addr) : Prop := ∃ (ns : List Int) (a : Int), H bx = some (.lst [.ref p, .int a]) ∧ H p = some (.lst (ns.map V.int)) ∧ 0 ≤ a
theorem Bx.ne {H : Hp} {bx p : Addr} (h : Bx H bx p) : bx ≠ p := by
  obtain ⟨ns, a, e1, e2, _⟩ := h
  intro z
  rw [z, e2] at e1
  cases ns with
  | nil => cases e1
  | cons x r => injection e1 with e1; injection e1 with e1; injection e1 with e1; cases e1
theorem Bx.frame {H H' : Hp} {F : List Addr} {bx p : Addr} (h : Bx H bx p) (k : Kp F H H') (h1 : bx ∉ F) (h2 : p ∉ F) : Bx H' bx p := by
  obtain ⟨ns, a, e1, e2, e3⟩ := h
  exact ⟨ns, a, k _ _ e1 h1, k _ _ e2 h2, e3⟩
theorem Bx.same {H H' : Hp} {bx p : Addr} (h : Bx H bx p) (k : Same H H') : Bx H' bx p := by
  obtain ⟨ns, a, e1, e2, e3⟩ := h
  exact ⟨ns, a, k _ _ e1, k _ _ e2, e3⟩
section
variable {w : World} {K : PySem.W.Frag} {mg : Str → Option Value} {base : Heap}
/-! ### _law_box -/
def spLBox (K : PySem.W.Frag) : Sp := fun vs H Q _ => ∃ (a : Addr) (ns : List Int) (i j : Int), vs = [.ref a, .int i, .int j] ∧ SqL K H a (ns.map V.int) ∧ 0 ≤ i ∧ i ≤ j ∧ j ≤ 100 ∧ (∀ H', Same H H' → SqL K H' a (ns.map V.int)) ∧
  ∀ (H' : Hp) (bx p : Addr), Bx H' bx p → Same H H' → H bx = none → H p = none → Q (.ref bx) H'
theorem sc_LBox : FnScope ["_law_script", "_law_first", "_law_last", "_law_row_here", "_law_k"] ["_law_script", "_law_first", "_law_last"] (defScope s__law_box) := ⟨rfl, rfl, rfl, by decide +kernel, rfl, by decide +kernel, by decide +kernel⟩
theorem ok_LBox (T : Top K mg) : Ok Pg w K mg base CX0 2 (He.ga K "_law_box") ["_law_script", "_law_first", "_law_last"] (spLBox K) := by
  obtain ⟨fdC, GC, bC, kC⟩ := ok_LCell (w := w) (base := base) T
  obtain ⟨fdR, GR, bR, kR⟩ := ok_LRow (w := w) (base := base) T
  refine ok0 T.d__law_box sc_LBox (fun vs H Q E h => ?_) (fun _ _ _ _ _ _ us hl => match us, hl with | [_, _, _], _ => rfl) (fun cdv A outer s H vs Q E hr h => ?_)
  · obtain ⟨a, ns, i, j, rfl, _⟩ := h
    rfl
  · obtain ⟨a, ns, i, j, rfl, hS, hi, hij, hj, hSS, kq⟩ := h
    refine ⟨_, pss_cons (ps_set (i := 3) sc_LBox.nd rfl (.inl rfl) (pe_lst pa_nil))
      (pss_cons (ps_for PassesOwn.never rfl (pi_range2 (by rfl) T.fr_range (pa_cons (pv 1) (pa_cons (pv 2) pa_nil))) (pg_name (i := 4) sc_LBox.nd rfl (.inl rfl))
        (pss_one (ps_set (i := 3) sc_LBox.nd rfl (.inl rfl) (pe_op op_cat (pv 3) (pe_call GR hr (by rfl) T.mg__law_row kR bR .nil pass0 (pa_cons (pe_call GC hr (by rfl) T.mg__law_cell kC bC .nil pass0 (pa_cons (pv 0) (pa_cons (pv 4) pa_nil))) (pa_cons (pv 4) (pa_cons pe_int pa_nil))))))))
      (pss_one (ps_ret (pe_lst (pa_cons (pv 3) (pa_cons pe_int pa_nil)))))), ?_⟩
    refine ⟨Nat.zero_le _, fun q hq => ?_⟩
    have s0 : Same H (upd H q (.lst [])) := same_upd hq
    refine ⟨_, rfl, _, rfl, i, j, rfl, ⟨by omega, by omega, by omega, by omega⟩, ?_⟩
    refine for_range (lo := i) (n := (j - i).toNat) (fun t σ H2 => ∃ (q2 : Addr) (v4 : Option V) (ms : List Int), σ = [some (.ref a), some (.int i), some (.int j), some (.ref q2), v4] ∧ Same H H2 ∧ H2 q2 = some (.lst (ms.map V.int)) ∧ H q2 = none ∧ ms.length ≤ t * 100)
      ⟨q, none, [], rfl, s0, upd_same, hq, Nat.zero_le _⟩ ?_ ?_
    · rintro t σ H2 ht ⟨q2, v4, ms, rfl, s2, e2, n2, hl⟩
      have ht100 : t < 100 := by omega
      refine ⟨_, rfl, _, rfl, _, rfl, a, ns, i + (t : Int), rfl, hSS _ s2, by omega, fun n => ?_⟩
      refine ⟨_, rfl, n, i + (t : Int), 12, rfl, by omega, by omega, by decide, by decide, fun H3 p3 ms3 e3 hl3 s3 => ?_⟩
      refine ⟨q2, p3, _, _, rfl, rfl, s3 _ _ e2, e3, line_of (by rw [List.length_map, List.length_map]; omega), fun z hz => ?_⟩
      refine ⟨z, _, ms ++ ms3, rfl, (s2.trans s3).trans (same_upd hz), by rw [upd_same, List.map_append], (s2.trans s3).free hz, by rw [List.length_append]; omega⟩
    · rintro σ H2 ⟨q2, v4, ms, rfl, s2, e2, n2, hl⟩
      refine ⟨_, rfl, (by show 2 ≤ sizeLine; decide), fun bx hbx => ?_⟩
      have s3 := same_upd (o := .lst [V.ref q2, V.int 0]) hbx
      exact kq _ bx q2 ⟨ms, 0, upd_same, s3 _ _ e2, by decide⟩ (s2.trans s3) (s2.free hbx) n2
/-! ### _law_draw -/
def spDraw : Sp := fun vs H Q _ => ∃ (bx p : Addr) (m : Int), vs = [.ref bx, .int m] ∧ Bx H bx p ∧ 0 < m ∧ ∀ (d : Int) (H' : Hp), 0 ≤ d → d < m → Bx H' bx p → Kp [bx] H H' → Q (.int d) H'
theorem sc_Draw : FnScope ["_law_box_here", "_law_many", "_law_at"] ["_law_box_here", "_law_many"] (defScope s__law_draw) := ⟨rfl, rfl, rfl, by decide +kernel, rfl, by decide +kernel, by decide +kernel⟩
theorem ok_Draw (T : Top K mg) : Ok Pg w K mg base CX0 1 (He.ga K "_law_draw") ["_law_box_here", "_law_many"] spDraw := by
  refine ok0 T.d__law_draw sc_Draw (fun vs H Q E h => ?_) (fun _ _ _ _ _ _ us hl => match us, hl with | [_, _], _ => rfl) (fun cdv A outer s H vs Q E hr h => ?_)
  · obtain ⟨bx, p, m, rfl, _⟩ := h
    rfl
  · obtain ⟨bx, p, m, rfl, hB, hm, kq⟩ := h
    have hne := hB.ne
    obtain ⟨ns, a, e1, e2, ha⟩ := hB
    refine ⟨_, pss_cons (ps_set (i := 2) sc_Draw.nd rfl (.inl rfl) (pe_ix ix_list (pv 0) pe_int (fun _ _ => rfl)))
      (pss_cons (ps_asg (pe_op op_add (pv 2) pe_int) (pg_sub (pv 0) pe_int set_list))
      (pss_cons (ps_if (pt_cmpR op_lt (pv 2) (pe_callB call_len_seq (by rfl) T.fr_len PySem.boot_len (pa_cons (pe_ix ix_list (pv 0) pe_int (fun _ _ => rfl)) pa_nil)) (nomark _))
        (pss_one (ps_ret (pe_op op_mod (pe_callTy call_int1 (by rfl) T.fr_int (by decide +kernel) (pa_cons (pe_ix ix_list (pe_ix ix_list (pv 0) pe_int (fun _ _ => rfl)) (pv 2) (fun _ _ => rfl)) pa_nil)) (pv 1)))) pss_nil)
      (pss_one (ps_ret (pe_op op_mod (pe_callTy call_int1 (by rfl) T.fr_int (by decide +kernel) (pa_cons (pe_op op_add (pe_op op_mul (pv 2) pe_int) pe_int) pa_nil)) (pv 1)))))), ?_⟩
    refine ⟨_, rfl, bx, _, _, _, rfl, rfl, SqL.of e1, atI_nat (j := 1) rfl, ?_⟩
    refine ⟨_, rfl, _, _, rfl, rfl, _, rfl, bx, _, _, 1, rfl, rfl, e1, rfl, ?_⟩
    have e1' : upd H bx (.lst [V.ref p, V.int (a + 1)]) bx = some (.lst [V.ref p, V.int (a + 1)]) := upd_same
    have e2' : upd H bx (.lst [V.ref p, V.int (a + 1)]) p = some (.lst (ns.map V.int)) := by rw [upd_ne (Ne.symm hne)]; exact e2
    have hB' : Bx (upd H bx (.lst [V.ref p, V.int (a + 1)])) bx p := ⟨ns, a + 1, e1', e2', by omega⟩
    have k1 : Kp [bx] H (upd H bx (.lst [V.ref p, V.int (a + 1)])) := kp_upd (by simp)
    refine ⟨_, rfl, _, rfl, bx, _, _, _, rfl, rfl, SqL.of e1', atI_nat (j := 0) rfl, p, _, rfl, .inl (SqL.of e2'), _, _, rfl, rfl, _, rfl, ?_⟩
    rw [List.length_map]
    by_cases c : a < (ns.length : Int)
    · rw [decide_eq_true c]
      refine iteT ?_
      obtain ⟨j, rfl⟩ := Int.eq_ofNat_of_zero_le ha
      have hj : j < ns.length := by omega
      have hv : (ns.map V.int)[j]? = some (V.int ns[j]) := by rw [List.getElem?_map, List.getElem?_eq_getElem hj]; rfl
      exact ⟨_, rfl, bx, _, _, _, rfl, rfl, SqL.of e1', atI_nat (j := 0) rfl, _, rfl, p, _, _, _, rfl, rfl, SqL.of e2', atI_nat hv, .inl ⟨_, rfl, _, rfl, _, _, rfl, rfl, hm, kq _ _ (Int.emod_nonneg _ (by omega)) (Int.emod_lt_of_pos _ hm) hB' k1⟩⟩
    · rw [decide_eq_false c]
      refine iteF ?_
      exact ⟨_, rfl, _, _, rfl, rfl, .inr ⟨by decide, by decide⟩, _, _, rfl, rfl, .inl ⟨_, rfl, _, rfl, _, _, rfl, rfl, hm, kq _ _ (Int.emod_nonneg _ (by omega)) (Int.emod_lt_of_pos _ hm) hB' k1⟩⟩
/-! ### _law_value -/
def spValue : Sp := fun vs H Q _ => ∃ (bx p : Addr) (m : Int), vs = [.ref bx, .int m] ∧ Bx H bx p ∧ 0 < m ∧ ∀ (v : V) (H' : Hp), VOk H' v → (∀ k, tgt H' v = some k → 0 ≤ k ∧ k < m) → Bx H' bx p → Kp [bx] H H' → Q v H'
theorem sc_Value : FnScope ["_law_box_here", "_law_most", "_law_kind"] ["_law_box_here", "_law_most"] (defScope s__law_value) := ⟨rfl, rfl, rfl, by decide +kernel, rfl, by decide +kernel, by decide +kernel⟩
theorem ok_Value (T : Top K mg) : Ok Pg w K mg base CX0 2 (He.ga K "_law_value") ["_law_box_here", "_law_most"] spValue := by
  obtain ⟨fdD, GD, bD, kD⟩ := ok_Draw (w := w) (base := base) T
  refine ok0 T.d__law_value sc_Value (fun vs H Q E h => ?_) (fun _ _ _ _ _ _ us hl => match us, hl with | [_, _], _ => rfl) (fun cdv A outer s H vs Q E hr h => ?_)
  · obtain ⟨bx, p, m, rfl, _⟩ := h
    rfl
  · obtain ⟨bx, p, m, rfl, hB, hm, kq⟩ := h
    refine ⟨_, pss_cons (ps_set (i := 2) sc_Value.nd rfl (.inl rfl) (pe_call GD hr (by rfl) T.mg__law_draw kD bD .nil pass0 (pa_cons (pv 0) (pa_cons pe_int pa_nil))))
      (pss_cons (ps_if (pt_cmpR op_eq (pv 2) pe_int (nomark _)) (pss_one (ps_ret pe_non)) pss_nil)
      (pss_cons (ps_if (pt_cmpR op_eq (pv 2) pe_int (nomark _)) (pss_one (ps_ret (pe_op op_add (pe_op op_mul (pe_call GD hr (by rfl) T.mg__law_draw kD bD .nil pass0 (pa_cons (pv 0) (pa_cons pe_int pa_nil))) pe_int) (pe_call GD hr (by rfl) T.mg__law_draw kD bD .nil pass0 (pa_cons (pv 0) (pa_cons pe_int pa_nil)))))) pss_nil)
      (pss_one (ps_ret (pe_tup (pa_cons pe_str (pa_cons (pe_call GD hr (by rfl) T.mg__law_draw kD bD .nil pass0 (pa_cons (pv 0) (pa_cons (pv 1) pa_nil))) pa_nil))))))), ?_⟩
    refine ⟨_, rfl, bx, p, 4, rfl, hB, by decide, fun d H1 d0 d1 hB1 k1 => ?_⟩
    refine ⟨_, rfl, rfl, _, rfl, ?_⟩
    by_cases c0 : V.int d = V.int 0
    · rw [decide_eq_true c0]
      exact iteT (kq .non H1 (.inl rfl) (fun k e => (nomatch e)) hB1 k1)
    · rw [decide_eq_false c0]
      refine iteF ⟨_, rfl, rfl, _, rfl, ?_⟩
      by_cases c1 : V.int d = V.int 1
      · rw [decide_eq_true c1]
        refine iteT ?_
        refine ⟨_, rfl, bx, p, 1000, rfl, hB1, by decide, fun d2 H2 _ _ hB2 k2 => ⟨_, _, rfl, rfl, .inr ⟨by decide, by decide⟩, ?_⟩⟩
        refine ⟨_, rfl, bx, p, 600, rfl, hB2, by decide, fun d3 H3 _ _ hB3 k3 => ⟨_, _, rfl, rfl, ?_⟩⟩
        exact kq _ H3 (.inr (.inl ⟨_, rfl⟩)) (fun k e => (nomatch e)) hB3 ((k1.trans k2).trans k3)
      · rw [decide_eq_false c1]
        refine iteF ?_
        refine ⟨_, rfl, _, rfl, bx, p, m, rfl, hB1, hm, fun d2 H2 e0 e1 hB2 k2 => ⟨(by show 2 ≤ sizeLine; decide), fun t ht => ?_⟩⟩
        have s3 := same_upd (o := .tup [V.str "object", V.int d2]) ht
        refine kq (.ref t) _ (.inr (.inr ⟨t, d2, rfl, upd_same⟩)) (fun k e => ?_) (hB2.same s3) ((k1.trans k2).then_same s3)
        rw [tgt_ref upd_same] at e
        have := Option.some.inj e
        omega
end
end K96
set_option Elab.async false
set_option linter.all false
set_option maxRecDepth 100000
set_option maxHeartbeats 1000000
namespace K96
open PySem PySem.Spec PyProof.Rows L2
/-- the events that are drawn -/
def EvOk (H : Hp) (e : Addr) (m : Int) : Prop :=
  (∃ n : Int, H e = some (.tup [.str "allocate", .int n]) ∧ 1 ≤ n ∧ n ≤ 3) ∨
  (∃ (k i : Int) (v : V), H e = some (.tup [.str "write", .int k, .int i, v]) ∧ 0 ≤ k ∧ k < m ∧ 0 ≤ i ∧ i < 4 ∧ VOk H v ∧ ∀ j, tgt H v = some j → 0 ≤ j ∧ j < m) ∨
  (∃ k : Int, H e = some (.tup [.str "addRoot", .int k]) ∧ 0 ≤ k ∧ k < m) ∨ (∃ k : Int, H e = some (.tup [.str "release", .int k]) ∧ 0 ≤ k ∧ k < m) ∨ (∃ k : Int, H e = some (.tup [.str "removeRoot", .int k]) ∧ 0 ≤ k ∧ k < m) ∨
  H e = some (.tup [.str "collect"]) ∨ H e = some (.tup [.str "compact"]) ∨ (∃ n : Int, H e = some (.tup [.str "makeRoom", .int n])) ∨ H e = some (.tup [.str "slide"])
section
variable {w : World} {K : PySem.W.Frag} {mg : Str → Option Value} {base : Heap}
/-! ### _law_deed -/
def spDeed : Sp := fun vs H Q _ => ∃ (bx p : Addr) (m : Int), vs = [.ref bx, .int m] ∧ Bx H bx p ∧ 0 < m ∧ ∀ (e : Addr) (H' : Hp), EvOk H' e m → Bx H' bx p → Kp [bx] H H' → Q (.ref e) H'
theorem sc_Deed : FnScope ["_law_box_here", "_law_most", "_law_kind", "_law_number"] ["_law_box_here", "_law_most"] (defScope s__law_deed) := ⟨rfl, rfl, rfl, by decide +kernel, rfl, by decide +kernel, by decide +kernel⟩
theorem ok_Deed (T : Top K mg) : Ok Pg w K mg base CX0 3 (He.ga K "_law_deed") ["_law_box_here", "_law_most"] spDeed := by
  obtain ⟨fdD, GD0, bD, kD⟩ := ok_Draw (w := w) (base := base) T
  have GD := GD0.mono (by decide : 1 ≤ 2)
  obtain ⟨fdV, GV, bV, kV⟩ := ok_Value (w := w) (base := base) T
  refine ok0 T.d__law_deed sc_Deed (fun vs H Q E h => ?_) (fun _ _ _ _ _ _ us hl => match us, hl with | [_, _], _ => rfl) (fun cdv A outer s H vs Q E hr h => ?_)
  · obtain ⟨bx, p, m, rfl, _⟩ := h
    rfl
  · obtain ⟨bx, p, m, rfl, hB, hm, kq⟩ := h
    refine ⟨_, pss_cons (ps_set (i := 2) sc_Deed.nd rfl (.inl rfl) (pe_call GD hr (by rfl) T.mg__law_draw kD bD .nil pass0 (pa_cons (pv 0) (pa_cons pe_int pa_nil))))
      (pss_cons (ps_set (i := 3) sc_Deed.nd rfl (.inl rfl) (pe_call GD hr (by rfl) T.mg__law_draw kD bD .nil pass0 (pa_cons (pv 0) (pa_cons (pv 1) pa_nil))))
      (pss_cons (ps_if (pt_cmpR op_lt (pv 2) pe_int (nomark _)) (pss_one (ps_ret (pe_tup (pa_cons pe_str (pa_cons (pe_op op_add pe_int (pe_call GD hr (by rfl) T.mg__law_draw kD bD .nil pass0 (pa_cons (pv 0) (pa_cons pe_int pa_nil)))) pa_nil))))) pss_nil)
      (pss_cons (ps_if (pt_cmpR op_lt (pv 2) pe_int (nomark _)) (pss_one (ps_ret (pe_tup (pa_cons pe_str (pa_cons (pv 3) (pa_cons (pe_call GD hr (by rfl) T.mg__law_draw kD bD .nil pass0 (pa_cons (pv 0) (pa_cons pe_int pa_nil))) (pa_cons (pe_call GV hr (by rfl) T.mg__law_value kV bV .nil pass0 (pa_cons (pv 0) (pa_cons (pv 1) pa_nil))) pa_nil))))))) pss_nil)
      (pss_cons (ps_if (pt_cmpR op_lt (pv 2) pe_int (nomark _)) (pss_one (ps_ret (pe_tup (pa_cons pe_str (pa_cons (pv 3) pa_nil))))) pss_nil)
      (pss_one (ps_ret (pe_ix ix_list (pe_lst (pa_cons (pe_tup (pa_cons pe_str (pa_cons (pv 3) pa_nil))) (pa_cons (pe_tup (pa_cons pe_str (pa_cons (pv 3) pa_nil))) (pa_cons (pe_tup (pa_cons pe_str pa_nil)) (pa_cons (pe_tup (pa_cons pe_str pa_nil))
          (pa_cons (pe_tup (pa_cons pe_str (pa_cons (pe_op op_add pe_int (pe_call GD hr (by rfl) T.mg__law_draw kD bD .nil pass0 (pa_cons (pv 0) (pa_cons pe_int pa_nil)))) pa_nil))) (pa_cons (pe_tup (pa_cons pe_str pa_nil)) pa_nil)))))))
          (pe_op op_mod (pe_callTy call_int1 (by rfl) T.fr_int (by decide +kernel) (pa_cons (pe_op op_add (pv 2) (pe_call GD hr (by rfl) T.mg__law_draw kD bD .nil pass0 (pa_cons (pv 0) (pa_cons pe_int pa_nil)))) pa_nil)) pe_int) (fun _ _ => rfl)))))))), ?_⟩
    refine ⟨_, rfl, bx, p, 16, rfl, hB, by decide, fun d H1 d0 d1 hB1 k1 => ?_⟩
    refine ⟨_, rfl, _, rfl, bx, p, m, rfl, hB1, hm, fun n H2 n0 n1 hB2 k2 => ?_⟩
    have k12 := k1.trans k2
    refine ⟨_, rfl, _, _, rfl, rfl, _, rfl, ?_⟩
    by_cases c0 : d < 5
    · rw [decide_eq_true c0]
      refine iteT ?_
      refine ⟨_, rfl, bx, p, 3, rfl, hB2, by decide, fun a H3 a0 a1 hB3 k3 => ⟨_, _, rfl, rfl, (by show 2 ≤ sizeLine; decide), fun t ht => ?_⟩⟩
      have s4 := same_upd (o := .tup [V.str "allocate", V.int (1 + a)]) ht
      exact kq t _ (.inl ⟨1 + a, upd_same, by omega, by omega⟩) (hB3.same s4) ((k12.trans k3).then_same s4)
    · rw [decide_eq_false c0]
      refine iteF ⟨_, rfl, _, _, rfl, rfl, _, rfl, ?_⟩
      by_cases c1 : d < 9
      · rw [decide_eq_true c1]
        refine iteT ?_
        refine ⟨_, rfl, _, rfl, bx, p, 4, rfl, hB2, by decide, fun i H3 i0 i1 hB3 k3 => ?_⟩
        refine ⟨_, rfl, _, rfl, bx, p, m, rfl, hB3, hm, fun v H4 hv ht hB4 k4 => ⟨(by show 4 ≤ sizeLine; decide), fun t ht' => ?_⟩⟩
        have s5 := same_upd (o := .tup [V.str "write", V.int n, V.int i, v]) ht'
        have hv5 := hv.mono (Tp.of_same s5)
        exact kq t _ (.inr (.inl ⟨n, i, v, upd_same, n0, n1, i0, i1, hv5.1, fun j e => ht j (by rw [← hv5.2]; exact e)⟩)) (hB4.same s5) (((k12.trans k3).trans k4).then_same s5)
      · rw [decide_eq_false c1]
        refine iteF ⟨_, rfl, _, _, rfl, rfl, _, rfl, ?_⟩
        by_cases c2 : d < 11
        · rw [decide_eq_true c2]
          refine iteT ?_
          refine ⟨_, rfl, (by show 2 ≤ sizeLine; decide), fun t ht' => ?_⟩
          have s5 := same_upd (o := .tup [V.str "addRoot", V.int n]) ht'
          exact kq t _ (.inr (.inr (.inl ⟨n, upd_same, n0, n1⟩))) (hB2.same s5) (k12.then_same s5)
        · rw [decide_eq_false c2]
          refine iteF ?_
          refine ⟨_, rfl, (by show 2 ≤ sizeLine; decide), fun t1 h1 => ?_⟩
          have s1 := same_upd (o := .tup [V.str "release", V.int n]) h1
          refine ⟨_, rfl, (by show 2 ≤ sizeLine; decide), fun t2 h2 => ?_⟩
          have s2 := s1.trans (same_upd (o := .tup [V.str "removeRoot", V.int n]) h2)
          refine ⟨(by show 1 ≤ sizeLine; decide), fun t3 h3 => ?_⟩
          have s3 := s2.trans (same_upd (o := .tup [V.str "collect"]) h3)
          refine ⟨(by show 1 ≤ sizeLine; decide), fun t4 h4 => ?_⟩
          have s4 := s3.trans (same_upd (o := .tup [V.str "compact"]) h4)
          have e1 : ∀ {H' : Hp}, Same (upd H2 t1 (.tup [V.str "release", V.int n])) H' → H' t1 = some (.tup [V.str "release", V.int n]) := fun s => s _ _ upd_same
          refine ⟨_, rfl, bx, p, 4, rfl, hB2.same s4, by decide, fun a H5 a0 a1 hB5 k5 => ⟨_, _, rfl, rfl, (by show 2 ≤ sizeLine; decide), fun t5 h5 => ?_⟩⟩
          have s5 := same_upd (o := .tup [V.str "makeRoom", V.int (1 + a)]) h5
          refine ⟨(by show 1 ≤ sizeLine; decide), fun t6 h6 => ?_⟩
          have s6 := s5.trans (same_upd (o := .tup [V.str "slide"]) h6)
          refine ⟨(by show 6 ≤ sizeLine; decide), fun l hl => ?_⟩
          have s7 := s6.trans (same_upd (o := .lst [V.ref t1, V.ref t2, V.ref t3, V.ref t4, V.ref t5, V.ref t6]) hl)
          have hB7 := hB5.same s7
          -- the six tuples stand
          have nb : ∀ t o, (H5 t = some o ∨ True) → True := fun _ _ _ => trivial
          have hbx : ∃ xs, (upd (upd (upd (upd H2 t1 (.tup [V.str "release", V.int n])) t2 (.tup [V.str "removeRoot", V.int n])) t3 (.tup [V.str "collect"])) t4 (.tup [V.str "compact"])) bx = some (.lst xs) := by
            obtain ⟨_, _, e, _⟩ := hB2.same s4
            exact ⟨_, e⟩
          obtain ⟨xbx, ebx⟩ := hbx
          have kp5 : ∀ {t : Addr} {xs : List V}, (upd (upd (upd (upd H2 t1 (.tup [V.str "release", V.int n])) t2 (.tup [V.str "removeRoot", V.int n])) t3 (.tup [V.str "collect"])) t4 (.tup [V.str "compact"])) t = some (.tup xs) → ∀ {H' : Hp}, Kp [bx] H5 H' → H' t = some (.tup xs) := fun {t xs} e {H'} k => by
            have nt : t ≠ bx := ne_of e ebx (by intro z; cases z)
            exact k _ _ (k5 _ _ e (by simp; exact nt)) (by simp; exact nt)
          have f2 : (upd (upd (upd (upd H2 t1 (.tup [V.str "release", V.int n])) t2 (.tup [V.str "removeRoot", V.int n])) t3 (.tup [V.str "collect"])) t4 (.tup [V.str "compact"])) t2 = some (.tup [V.str "removeRoot", V.int n]) := ((same_upd h3).trans (same_upd h4)) _ _ upd_same
          have f1 : (upd (upd (upd (upd H2 t1 (.tup [V.str "release", V.int n])) t2 (.tup [V.str "removeRoot", V.int n])) t3 (.tup [V.str "collect"])) t4 (.tup [V.str "compact"])) t1 = some (.tup [V.str "release", V.int n]) := (((same_upd h2).trans (same_upd h3)).trans (same_upd h4)) _ _ upd_same
          have f3 : (upd (upd (upd (upd H2 t1 (.tup [V.str "release", V.int n])) t2 (.tup [V.str "removeRoot", V.int n])) t3 (.tup [V.str "collect"])) t4 (.tup [V.str "compact"])) t3 = some (.tup [V.str "collect"]) := (same_upd h4) _ _ upd_same
          have f4 : (upd (upd (upd (upd H2 t1 (.tup [V.str "release", V.int n])) t2 (.tup [V.str "removeRoot", V.int n])) t3 (.tup [V.str "collect"])) t4 (.tup [V.str "compact"])) t4 = some (.tup [V.str "compact"]) := upd_same
          have f5 : (upd (upd (upd H5 t5 (.tup [V.str "makeRoom", V.int (1 + a)])) t6 (.tup [V.str "slide"])) l (.lst [V.ref t1, V.ref t2, V.ref t3, V.ref t4, V.ref t5, V.ref t6])) t5 = some (.tup [V.str "makeRoom", V.int (1 + a)]) := ((same_upd h6).trans (same_upd hl)) _ _ upd_same
          have f6 : (upd (upd (upd H5 t5 (.tup [V.str "makeRoom", V.int (1 + a)])) t6 (.tup [V.str "slide"])) l (.lst [V.ref t1, V.ref t2, V.ref t3, V.ref t4, V.ref t5, V.ref t6])) t6 = some (.tup [V.str "slide"]) := (same_upd hl) _ _ upd_same
          have fl : (upd (upd (upd H5 t5 (.tup [V.str "makeRoom", V.int (1 + a)])) t6 (.tup [V.str "slide"])) l (.lst [V.ref t1, V.ref t2, V.ref t3, V.ref t4, V.ref t5, V.ref t6])) l = some (.lst [V.ref t1, V.ref t2, V.ref t3, V.ref t4, V.ref t5, V.ref t6]) := upd_same
          obtain ⟨H7, eH7⟩ : ∃ H7, H7 = upd (upd (upd H5 t5 (.tup [V.str "makeRoom", V.int (1 + a)])) t6 (.tup [V.str "slide"])) l (.lst [V.ref t1, V.ref t2, V.ref t3, V.ref t4, V.ref t5, V.ref t6]) := ⟨_, rfl⟩
          rw [← eH7] at s7 hB7 f5 f6 fl ⊢
          have k7 : Kp [bx] H H7 := ((k12.then_same s4).trans k5).then_same s7
          refine ⟨_, rfl, _, rfl, bx, p, 2, rfl, hB7, by decide, fun b H8 b0 b1 hB8 k8 => ?_⟩
          refine ⟨_, _, rfl, rfl, .inl ⟨_, rfl, _, _, rfl, rfl, (by show (0 : Int) < 6; decide), ?_⟩⟩
          have hlb : l ≠ bx := by
            intro z
            obtain ⟨_, _, e, _⟩ := hB7
            rw [← z, fl] at e
            injection e with e; injection e with e; injection e with _ e; injection e with e; cases e
          have fl8 := k8 _ _ fl (by simp; exact hlb)
          have hbx7 : ∃ xs, H7 bx = some (.lst xs) := by
            obtain ⟨_, _, e, _⟩ := hB7
            exact ⟨_, e⟩
          obtain ⟨x7, ex7⟩ := hbx7
          have kp7 : ∀ {t : Addr} {xs : List V}, H7 t = some (.tup xs) → H8 t = some (.tup xs) := fun {t xs} e => k8 _ _ e (by simp; exact ne_of e ex7 (by intro z; cases z))
          have k78 : Kp [bx] H5 H8 := (Kp.of_same s7).trans k8
          have i0 := Int.emod_nonneg (d + b) (b := 6) (by decide)
          have i1 := Int.emod_lt_of_pos (d + b) (b := 6) (by decide)
          have fin : ∀ (j : Nat) (t : Addr), (d + b) % 6 = (j : Int) → ([V.ref t1, V.ref t2, V.ref t3, V.ref t4, V.ref t5, V.ref t6] : List V)[j]? = some (.ref t) → EvOk H8 t m → ∃ p' xs i v, V.ref l = V.ref p' ∧ V.int ((d + b) % 6) = V.int i ∧ SqL K H8 p' xs ∧ atI xs i = some v ∧ Q v H8 := fun j t ej et hE => by
            rw [ej]
            exact ⟨l, _, _, _, rfl, rfl, SqL.of fl8, atI_nat et, kq t H8 hE hB8 (k7.trans k8)⟩
          have cs : (d + b) % 6 = 0 ∨ (d + b) % 6 = 1 ∨ (d + b) % 6 = 2 ∨ (d + b) % 6 = 3 ∨ (d + b) % 6 = 4 ∨ (d + b) % 6 = 5 := by omega
          rcases cs with z | z | z | z | z | z
          · exact fin 0 t1 z rfl (.inr (.inr (.inr (.inl ⟨n, kp5 f1 k78, n0, n1⟩))))
          · exact fin 1 t2 z rfl (.inr (.inr (.inr (.inr (.inl ⟨n, kp5 f2 k78, n0, n1⟩)))))
          · exact fin 2 t3 z rfl (.inr (.inr (.inr (.inr (.inr (.inl (kp5 f3 k78)))))))
          · exact fin 3 t4 z rfl (.inr (.inr (.inr (.inr (.inr (.inr (.inl (kp5 f4 k78))))))))
          · exact fin 4 t5 z rfl (.inr (.inr (.inr (.inr (.inr (.inr (.inr (.inl ⟨_, kp7 f5⟩))))))))
          · exact fin 5 t6 z rfl (.inr (.inr (.inr (.inr (.inr (.inr (.inr (.inr (kp7 f6)))))))))
end
end K96
set_option Elab.async false
set_option linter.all false
set_option maxRecDepth 100000
set_option maxHeartbeats 1000000
namespace K96
open PySem PySem.Spec PyProof.Rows L2
def tsE (K : PySem.W.Frag) (C f word : Str) : Addr → Value → Option Addr → TS := fun a cls d => tRet (tTup (tCons (tC (.str word)) (tCons (tXf a cls d (He.ga K C) f (tVar 2)) tNil)))
def tsE2 (K : PySem.W.Frag) (C f g word : Str) : Addr → Value → Option Addr → TS := fun a cls d => tRet (tTup (tCons (tC (.str word)) (tCons (tXf a cls d (He.ga K C) f (tVar 2)) (tCons (tXf a cls d (He.ga K C) g (tVar 2)) tNil))))
section
variable {w : World} {K : PySem.W.Frag} {mg : Str → Option Value} {base : Heap}
/-! ### _law_change -/
def spLChange (K : PySem.W.Frag) : Sp := fun vs H Q _ => ∃ (c : Hc) (ev : Addr) (CQ : V → Hp → Prop) (CE : Hp → Prop), vs = [.ref c.h, .ref ev] ∧ HeapAt K H c ∧
  (∀ Q' E', (∀ v H2, CQ v H2 → Q' v H2) → (∀ cls d H2, Err K cls d H2 → CE H2 → E' cls d H2) → spChange K [.ref c.h, .ref ev] H Q' E') ∧
  (∀ v H2 x H3, CQ v H2 → Same H2 H3 → Q x H3) ∧ (∀ H2 x H3, CE H2 → Same H2 H3 → Q x H3)
theorem sc_LChange : FnScope ["_law_heap", "_law_event", "fault"] ["_law_heap", "_law_event"] (defScope s__law_change) := ⟨rfl, rfl, rfl, by decide +kernel, rfl, by decide +kernel, by decide +kernel⟩
theorem ok_LChange (T : Top K mg) : Ok Pg w K mg base CX0 9 (He.ga K "_law_change") ["_law_heap", "_law_event"] (spLChange K) := by
  obtain ⟨fdC, GC, bC, _⟩ := ok_Change (w := w) (base := base) T
  obtain ⟨_, _, _, _, _, _, _, _, _, _, _, x1, _, _, _, _, n1⟩ := T.x_NoSuchObject
  obtain ⟨_, _, _, _, _, _, _, _, _, _, _, x2, _, _, _, _, n2⟩ := T.x_NoSuchField
  obtain ⟨_, _, _, _, _, _, _, _, _, _, _, x3, _, _, _, _, n3⟩ := T.x_StillUsed
  obtain ⟨_, _, _, _, _, _, _, _, _, _, _, x4, _, _, _, _, n4⟩ := T.x_OutOfMemory
  refine ok0 T.d__law_change sc_LChange (fun vs H Q E h => ?_) (fun _ _ _ _ _ _ us hl => match us, hl with | [_, _], _ => rfl) (fun cdv A outer s H vs Q E hr h => ?_)
  · obtain ⟨c, ev, CQ, CE, rfl, _⟩ := h
    rfl
  · obtain ⟨c, ev, CQ, CE, rfl, P, hc, kq, ke⟩ := h
    refine ⟨_, pss_one (ps_try_many2 rfl rfl sc_LChange.nd takes0
      (fun W pn xe tk _ => pss_one (ps_ret (pe_tup (pa_cons pe_str (pa_cons (pe_methT (pv 0) T.cl_ManagedHeap T.me_ManagedHeap_change GC hr bC (fun σ => passAt tk σ) (pa_cons (pv 1) pa_nil)) pa_nil)))))
      (.named (i := 2) (ts := tsE K "NoSuchObject" "number" "object") rfl rfl ⟨by rfl, by decide, .inl T.mg_NoSuchObject⟩ (fun a oe cls d pn hz hf => pss_one (ps_ret (pe_tup (pa_cons pe_str (pa_cons (pe_xf x1 (n1 _ (by simp)) hz hf (pv 2)) pa_nil)))))
      (.named (i := 2) (ts := tsE K "NoSuchField" "index" "field") rfl rfl ⟨by rfl, by decide, .inl T.mg_NoSuchField⟩ (fun a oe cls d pn hz hf => pss_one (ps_ret (pe_tup (pa_cons pe_str (pa_cons (pe_xf x2 (n2 _ (by simp)) hz hf (pv 2)) pa_nil)))))
      (.named (i := 2) (ts := tsE2 K "StillUsed" "number" "reason" "used") rfl rfl ⟨by rfl, by decide, .inl T.mg_StillUsed⟩ (fun a oe cls d pn hz hf => pss_one (ps_ret (pe_tup (pa_cons pe_str (pa_cons (pe_xf x3 (n3 _ (by simp)) hz hf (pv 2)) (pa_cons (pe_xf x3 (n3 _ (by simp)) hz hf (pv 2)) pa_nil))))))
      (.named (i := 2) (ts := tsE K "OutOfMemory" "length" "memory") rfl rfl ⟨by rfl, by decide, .inl T.mg_OutOfMemory⟩ (fun a oe cls d pn hz hf => pss_one (ps_ret (pe_tup (pa_cons pe_str (pa_cons (pe_xf x4 (n4 _ (by simp)) hz hf (pv 2)) pa_nil)))))
      (.named (i := 2) rfl rfl ⟨by rfl, by decide, .inl T.mg_NotAllowed⟩ (fun a oe cls d pn hz hf => pss_one ps_never)
      (.named (i := 2) rfl rfl ⟨by rfl, by decide, .inl T.mg_NoRoom⟩ (fun a oe cls d pn hz hf => pss_one ps_never)
      (.plain ⟨by rfl, by decide, .inl T.mg_StrategyDecides⟩ (fun a oe cls d pn hz hf => pss_one ps_never) .nil)))))))), ?_⟩
    obtain ⟨dh, h1⟩ := P.ins
    refine ⟨_, rfl, c.h, dh, _, rfl, h1, mhF_no_change, _, rfl, ?_⟩
    refine hc _ _ (fun v H2 hq => ⟨(by show 2 ≤ sizeLine; decide), fun t ht => kq v H2 _ _ hq (same_upd ht)⟩) (fun cls d H2 hE hCE => ?_)
    obtain ⟨dd, fs, rfl, ed, hcl⟩ := hE
    rcases hcl with ⟨rfl, v, hv⟩ | ⟨rfl, v, hv⟩ | ⟨rfl, ⟨v, hv⟩, ⟨v', hv'⟩⟩ | ⟨rfl, v, hv⟩
    · refine ⟨true, T.ex_NoSuchObject_NoSuchObject, fun _ a ha => ?_, fun z => (nomatch z)⟩
      exact ⟨_, rfl, rfl, rfl, dd, fs, v, rfl, ed, hv, (by show 2 ≤ sizeLine; decide), fun t ht => ke H2 _ _ hCE (same_upd ht)⟩
    · refine ⟨false, T.ex_NoSuchField_NoSuchObject, fun z => (nomatch z), fun _ => ?_⟩
      refine ⟨true, T.ex_NoSuchField_NoSuchField, fun _ a ha => ?_, fun z => (nomatch z)⟩
      exact ⟨_, rfl, rfl, rfl, dd, fs, v, rfl, ed, hv, (by show 2 ≤ sizeLine; decide), fun t ht => ke H2 _ _ hCE (same_upd ht)⟩
    · refine ⟨false, T.ex_StillUsed_NoSuchObject, fun z => (nomatch z), fun _ => ?_⟩
      refine ⟨false, T.ex_StillUsed_NoSuchField, fun z => (nomatch z), fun _ => ?_⟩
      refine ⟨true, T.ex_StillUsed_StillUsed, fun _ a ha => ?_, fun z => (nomatch z)⟩
      exact ⟨_, rfl, rfl, rfl, dd, fs, v, rfl, ed, hv, _, rfl, rfl, rfl, dd, fs, v', rfl, ed, hv', (by show 3 ≤ sizeLine; decide), fun t ht => ke H2 _ _ hCE (same_upd ht)⟩
    · refine ⟨false, T.ex_OutOfMemory_NoSuchObject, fun z => (nomatch z), fun _ => ?_⟩
      refine ⟨false, T.ex_OutOfMemory_NoSuchField, fun z => (nomatch z), fun _ => ?_⟩
      refine ⟨false, T.ex_OutOfMemory_StillUsed, fun z => (nomatch z), fun _ => ?_⟩
      refine ⟨true, T.ex_OutOfMemory_OutOfMemory, fun _ a ha => ?_, fun z => (nomatch z)⟩
      exact ⟨_, rfl, rfl, rfl, dd, fs, v, rfl, ed, hv, (by show 2 ≤ sizeLine; decide), fun t ht => ke H2 _ _ hCE (same_upd ht)⟩
end
end K96
set_option Elab.async false
set_option linter.all false
set_option maxRecDepth 100000
set_option maxHeartbeats 1000000
namespace K96
open PySem PySem.Spec PyProof.Rows L2
/-! ### plain: a chain with one block more, with some less -/
theorem Chain.insert {α : Type} {size : Int} {b : Blk α} (h0 : 0 < b.len) (h1 : b.start + b.len ≤ size) : ∀ {e : Int} {l : List (Blk α)}, Chain size e l → e ≤ b.start → (∀ x ∈ l, x.start + x.len ≤ b.start ∨ b.start + b.len ≤ x.start) → ∃ l', l'.Perm (b :: l) ∧ Chain size e l'
  | e, [], _, he, _ => ⟨[b], List.Perm.refl _, he, h0, h1⟩
  | e, c :: r, ⟨g1, g2, g3⟩, he, hx => by
    by_cases q : b.start + b.len ≤ c.start
    · exact ⟨b :: c :: r, List.Perm.refl _, he, h0, q, g2, g3⟩
    · have hc : c.start + c.len ≤ b.start := (hx c (List.mem_cons_self ..)).resolve_right q
      obtain ⟨l', p, ch⟩ := Chain.insert h0 h1 g3 hc fun x hx' => hx x (List.mem_cons_of_mem _ hx')
      exact ⟨c :: l', (p.cons c).trans (List.Perm.swap b c r), g1, g2, ch⟩
theorem Chain.filter {α : Type} {size : Int} {p : Blk α → Bool} : ∀ {e : Int} {l : List (Blk α)}, Chain size e l → ∀ {d : Int}, d ≤ e → Chain size d (l.filter p)
  | e, [], h, d, hd => by
    have h' : e ≤ size := h
    show d ≤ size
    omega
  | e, c :: r, ⟨g1, g2, g3⟩, d, hd => by
    have g1' : e ≤ c.start := g1
    rw [List.filter_cons]
    by_cases q : p c = true
    · rw [if_pos q]
      exact ⟨by omega, g2, Chain.filter g3 (Int.le_refl _)⟩
    · rw [if_neg q]
      exact Chain.filter g3 (by omega)
section
variable {K : PySem.W.Frag} {H H' : Hp} {size : Int}
theorem Wf.vals {r : Sc} (W : Wf size H r) (hs : size ≤ 900) : ValsOk H r := fun p hp => by
  have hb : p.2 ∈ r.blks := List.mem_map_of_mem (f := fun q : Addr × Blk V => q.2) hp
  refine ⟨?_, W.val p.2 hb⟩
  obtain ⟨pk, bs, o⟩ := W.ord
  have := o.mem hb
  have e : p.2.len = (p.2.fs.length : Int) := rfl
  omega
theorem Wf.closed {r : Sc} (W : Wf size H r) : Closed H r := ⟨W.rts, fun p hp v hv k e => W.ref p.2 (List.mem_map_of_mem (f := fun q : Addr × Blk V => q.2) hp) v hv k e⟩
theorem wf_al {r : Rc} {l : Addr} {s n : Int} {pk bs : List (Blk V)} (W : Wf size H r.toSc) (o : Ord size pk r.toSc.blks bs) (h1 : 1 ≤ n) (hF : FreeAt size (lay bs) s n) (t : Tp H H') : Wf size H' (r.al l s n).toSc := by
  have W' := W.mono t
  obtain ⟨f1, f2, f3⟩ := hF
  have eb : (r.al l s n).toSc.blks = r.toSc.blks ++ [⟨r.next, s, List.replicate n.toNat .non⟩] := by
    unfold Sc.blks
    show (r.bks ++ [_]).map (fun p : Addr × Blk V => p.2) = _
    rw [List.map_append]; rfl
  have en : (r.al l s n).toSc.blks.map (·.num) = r.toSc.blks.map (·.num) ++ [r.next] := by rw [eb, List.map_append]; rfl
  have hlen : (⟨r.next, s, List.replicate n.toNat .non⟩ : Blk V).len = n := by
    show ((List.replicate n.toNat V.non).length : Int) = n
    rw [List.length_replicate]; omega
  have sub : ∀ k, k ∈ r.toSc.blks.map (·.num) → k ∈ (r.al l s n).toSc.blks.map (·.num) := fun k hk => by rw [en]; exact List.mem_append_left _ hk
  refine ⟨?_, ?_, ?_, ?_, ?_, ?_, ?_, W.rnd⟩
  · rw [en]
    refine List.pairwise_append.mpr ⟨W.asc, by simp, fun a ha b hb => ?_⟩
    obtain ⟨x, hx, rfl⟩ := List.mem_map.mp ha
    have : b = r.next := by simpa using hb
    rw [this]
    exact (W.lt x hx).2
  · intro b hb
    rw [eb] at hb
    show 0 ≤ b.num ∧ b.num < r.next + 1
    rcases List.mem_append.mp hb with z | z
    · have := W.lt b z
      omega
    · have : b = ⟨r.next, s, List.replicate n.toNat .non⟩ := by simpa using z
      rw [this]
      have := W.nx
      show 0 ≤ r.next ∧ r.next < r.next + 1
      omega
  · show 0 ≤ r.next + 1
    have := W.nx
    omega
  · obtain ⟨l', p, ch⟩ := Chain.insert (b := (⟨r.next, s, List.replicate n.toNat .non⟩ : Blk V)) (by rw [hlen]; omega) (by rw [hlen]; exact f2) o.chain f1 fun x hx => by
      rw [hlen]
      exact f3 (x.start, x.len) (by unfold lay; exact List.mem_map_of_mem (f := Blk.se) hx)
    refine ⟨_, l', ?_, ch, rfl⟩
    rw [eb]
    exact (p.trans (List.Perm.cons _ o.perm)).trans (List.perm_append_comm (l₁ := [_]) (l₂ := r.toSc.blks))
  · intro b hb v hv
    rw [eb] at hb
    rcases List.mem_append.mp hb with z | z
    · exact W'.val b z v hv
    · have : b = ⟨r.next, s, List.replicate n.toNat .non⟩ := by simpa using z
      rw [this] at hv
      rw [(List.mem_replicate.mp hv).2]
      exact .inl rfl
  · intro b hb v hv k e
    rw [eb] at hb
    rcases List.mem_append.mp hb with z | z
    · exact sub k (W'.ref b z v hv k e)
    · have : b = ⟨r.next, s, List.replicate n.toNat .non⟩ := by simpa using z
      rw [this] at hv
      rw [(List.mem_replicate.mp hv).2] at e
      cases e
  · intro k hk
    exact sub k (W.rts k hk)
theorem wf_wr {r : Sc} {k : Int} {i : Nat} {v : V} (W : Wf size H r) (t : Tp H H') (hv : VOk H' v) (hr : ∀ j, tgt H' v = some j → j ∈ r.blks.map (·.num)) : Wf size H' (r.wr k i v) := by
  have W' := W.mono t
  have eb := Sc.wr_blks r k i v
  have en : (r.wr k i v).blks.map (·.num) = r.blks.map (·.num) := by rw [eb, setF_nums]
  have mem : ∀ b ∈ (r.wr k i v).blks, ∃ b0 ∈ r.blks, b.num = b0.num ∧ ∀ u ∈ b.fs, u ∈ b0.fs ∨ u = v := fun b hb => by
    rw [eb] at hb
    obtain ⟨b0, h0, e, e1, _, _⟩ := setF_mem hb
    refine ⟨b0, h0, e1, fun u hu => ?_⟩
    by_cases c : b0.num = k
    · rw [if_pos c] at e
      rw [e] at hu
      exact List.mem_or_eq_of_mem_set hu
    · rw [if_neg c] at e
      rw [e] at hu
      exact .inl hu
  refine ⟨by rw [en]; exact W.asc, fun b hb => ?_, W.nx, ?_, fun b hb u hu => ?_, fun b hb u hu j e => ?_, fun j hj => by rw [en]; exact W.rts j hj, W.rnd⟩
  · obtain ⟨b0, h0, e1, _⟩ := mem b hb
    rw [e1]; exact W.lt b0 h0
  · obtain ⟨pk, bs, o⟩ := W.ord
    exact ⟨_, _, by rw [eb]; exact o.write k i v⟩
  · obtain ⟨b0, h0, _, e2⟩ := mem b hb
    rcases e2 u hu with z | z
    · exact W'.val b0 h0 u z
    · rw [z]; exact hv
  · rw [en]
    obtain ⟨b0, h0, _, e2⟩ := mem b hb
    rcases e2 u hu with z | z
    · exact W'.ref b0 h0 u z j e
    · rw [z] at e; exact hr j e
theorem wf_rt {r : Sc} {rl : Addr} {roots : List Int} (W : Wf size H r) (t : Tp H H') (h1 : ∀ k ∈ roots, k ∈ r.blks.map (·.num)) (h2 : roots.Nodup) : Wf size H' (r.rt rl roots) := by
  have W' := W.mono t
  exact ⟨W'.asc, W'.lt, W'.nx, W'.ord, W'.val, W'.ref, h1, h2⟩
theorem wf_sub {r r' : Sc} {p : Blk V → Bool} (W : Wf size H r) (t : Tp H H') (eb : r'.blks = r.blks.filter p) (e1 : r'.roots = r.roots) (e2 : r'.next = r.next) (h1 : ∀ k ∈ r.roots, k ∈ r'.blks.map (·.num))
    (h2 : ∀ b ∈ r.blks, p b = true → ∀ v ∈ b.fs, ∀ k, tgt H v = some k → k ∈ r'.blks.map (·.num)) : Wf size H' r' := by
  have W' := W.mono t
  have mem : ∀ b ∈ r'.blks, b ∈ r.blks ∧ p b = true := fun b hb => by rw [eb] at hb; exact List.mem_filter.mp hb
  refine ⟨by rw [eb]; exact W.asc.sublist (List.filter_sublist.map _), fun b hb => by rw [e2]; exact W.lt b (mem b hb).1, by rw [e2]; exact W.nx, ?_, fun b hb => W'.val b (mem b hb).1, fun b hb v hv k e => ?_, by rw [e1]; exact h1, by rw [e1]; exact W.rnd⟩
  · obtain ⟨pk, bs, o⟩ := W.ord
    refine ⟨_, bs.filter p, ?_, o.chain.filter (Int.le_refl _), rfl⟩
    rw [eb]; exact o.perm.filter p
  · refine h2 b (mem b hb).1 (mem b hb).2 v hv k ?_
    rw [← ((W.val b (mem b hb).1 v hv).mono t).2]; exact e
end
end K96
set_option Elab.async false
set_option linter.all false
set_option maxRecDepth 100000
set_option maxHeartbeats 1000000
namespace K96
open PySem PySem.Spec PyProof.Rows L2
section
variable {K : PySem.W.Frag} {H H' : Hp}
theorem store_notup {r : Sc} (S : StoreAt K H r) : ∀ b ∈ r.sfp, ∀ xs, H b ≠ some (.tup xs) := fun b hb xs e => by
  unfold Sc.sfp at hb
  rcases List.mem_cons.mp hb with rfl | hb
  · obtain ⟨dx, e2⟩ := S.ins; rw [e] at e2; cases e2
  rcases List.mem_cons.mp hb with rfl | hb
  · have := S.objs; rw [e] at this; cases this
  rcases List.mem_cons.mp hb with rfl | hb
  · have := S.rts; rw [e] at this; cases this
  obtain ⟨p, hp, rfl⟩ := List.mem_map.mp hb
  have := S.lst p hp; rw [e] at this; cases this
theorem st_notup {r : Rc} (S : StAt K H r) : ∀ b ∈ r.fp, ∀ xs, H b ≠ some (.tup xs) := fun b hb xs e => by
  unfold Rc.fp at hb
  rcases List.mem_cons.mp hb with rfl | hb
  · obtain ⟨dx, e2⟩ := S.ins; rw [e] at e2; cases e2
  rcases List.mem_cons.mp hb with rfl | hb
  · have := S.sts; rw [e] at this; cases this
  exact store_notup S.store b hb xs e
theorem heap_notup {c : Hc} (P : HeapAt K H c) : ∀ b ∈ c.fp, ∀ xs, H b ≠ some (.tup xs) := fun b hb xs e => by
  unfold Hc.fp at hb
  rcases List.mem_cons.mp hb with rfl | hb
  · obtain ⟨dx, e2⟩ := P.ins; rw [e] at e2; cases e2
  rcases List.mem_cons.mp hb with rfl | hb
  · have := P.ear; rw [e] at this; cases this
  rcases List.mem_cons.mp hb with rfl | hb
  · have := P.evs; rw [e] at this; cases this
  exact st_notup P.st b hb xs e
/-- the store alone was changed -/
theorem st_of_store {rc : Rc} {r' : Sc} (S : StAt K H rc) (S' : StoreAt K H' r') (e1 : r'.so = rc.so) (e2 : sD r'.blks = sD rc.toSc.blks) (k : Kp rc.toSc.sfp H H') (f : Fr rc.toSc.sfp H r'.sfp) : StAt K H' { rc with toSc := r' } := by
  obtain ⟨dx, e⟩ := S.ins
  have nd := S.nd
  unfold Rc.fp at nd
  simp only [List.nodup_cons, List.mem_cons, not_or] at nd
  obtain ⟨⟨a1, a2⟩, a3, _⟩ := nd
  have ap : ∀ b o, H b = some o → b ∉ rc.toSc.sfp → b ∉ r'.sfp := fun b o eb hb z => by
    rcases f b z with q | q
    · exact hb q
    · rw [eb] at q; cases q
  refine ⟨S', ⟨dx, by show H' rc.st = some (.ins _ dx (stF r'.so rc.sd rc.cur)); rw [e1]; exact k _ _ e a2⟩, by show H' rc.sd = some (.dK (sD r'.blks)); rw [e2]; exact k _ _ S.sts a3, ?_⟩
  show (rc.st :: rc.sd :: r'.sfp).Nodup
  refine List.nodup_cons.mpr ⟨?_, List.nodup_cons.mpr ⟨ap _ _ S.sts a3, S'.nd⟩⟩
  simp only [List.mem_cons, not_or]
  exact ⟨a1, ap _ _ e a2⟩
theorem fr_st {rc rc' : Rc} (e1 : rc'.st = rc.st) (e2 : rc'.sd = rc.sd) (f : Fr rc.toSc.sfp H rc'.toSc.sfp) : Fr rc.fp H rc'.fp := fun b hb => by
  unfold Rc.fp at hb
  rcases List.mem_cons.mp hb with rfl | hb
  · left; rw [e1]; unfold Rc.fp; simp
  rcases List.mem_cons.mp hb with rfl | hb
  · left; rw [e2]; unfold Rc.fp; simp
  rcases f b hb with z | z
  · exact .inl (sfp_fp z)
  · exact .inr z
theorem wf_congr {size : Int} {r r' : Sc} (W : Wf size H r) (e1 : r'.blks = r.blks) (e2 : r'.roots = r.roots) (e3 : r'.next = r.next) (t : Tp H H') : Wf size H' r' := by
  have W' := W.mono t
  obtain ⟨a1, a2, a3, a4, a5, a6, a7, a8⟩ := W'
  exact ⟨by rw [e1]; exact a1, by rw [e1, e3]; exact a2, by rw [e3]; exact a3, by rw [e1]; exact a4, by rw [e1]; exact a5, by rw [e1]; exact a6, by rw [e1, e2]; exact a7, by rw [e2]; exact a8⟩
end
/-! ### a good heap, apart from X -/
structure Good (K : PySem.W.Frag) (H : Hp) (c : Hc) (X : List Addr) (n : Nat) : Prop where
  heap : HeapAt K H c
  wf : Wf c.size H c.rc.toSc
  old : ∀ v ∈ c.es, ∃ r : Rc, v = .ref r.st ∧ StAt K H r ∧ ∀ b ∈ r.fp, b ∉ c.fp ∧ b ∉ X
  sep : ∀ b ∈ c.fp, b ∉ X
  msep : c.m ∉ X
  few : c.es.length ≤ n ∧ c.evs.length ≤ n
  sz : 4 ≤ c.size ∧ c.size ≤ 12
  nb : c.rc.next ≤ n
  xs : ∀ b ∈ X, ∃ o, H b = some o ∧ ∀ xs, o ≠ .tup xs
theorem Good.frame {K : PySem.W.Frag} {H H' : Hp} {c : Hc} {X : List Addr} {n : Nat} (G : Good K H c X n) (k : Kp X H H') (hX : ∀ b ∈ X, ∃ o, H' b = some o ∧ ∀ xs, o ≠ .tup xs) : Good K H' c X n := by
  have t : Tp H H' := Tp.of_kp k fun b hb xs e => by
    obtain ⟨o, e2, h⟩ := G.xs b hb
    rw [e] at e2
    exact h xs (Option.some.inj e2).symm
  exact ⟨G.heap.frame k G.sep G.msep, G.wf.mono t, fun v hv => by
    obtain ⟨r, e, S, d⟩ := G.old v hv
    exact ⟨r, e, S.frame k fun b hb => (d b hb).2, d⟩, G.sep, G.msep, G.few, G.sz, G.nb, hX⟩
theorem Good.same {K : PySem.W.Frag} {H H' : Hp} {c : Hc} {X : List Addr} {n : Nat} (G : Good K H c X n) (k : Same H H') : Good K H' c X n :=
  G.frame (Kp.of_same k) fun b hb => by
    obtain ⟨o, e, h⟩ := G.xs b hb
    exact ⟨o, k _ _ e, h⟩
/-- behind a change -/
def Nx (K : PySem.W.Frag) (H : Hp) (c : Hc) (X : List Addr) (n : Nat) (H3 : Hp) : Prop := ∃ c', Good K H3 c' X (n + 1) ∧ c'.h = c.h ∧ c'.size = c.size ∧ Kp c.fp H H3
section
variable {K : PySem.W.Frag} {H : Hp} {c : Hc} {X : List Addr} {n : Nat}
theorem nx_err (G : Good K H c X n) {H1 H3 : Hp} {rb : Rc} (C : CopyOf K H c.rc H1 rb) (P3 : HeapAt K H3 { c with rc := rb }) (k : Kp [c.h] H1 H3) : Nx K H c X n H3 := by
  obtain ⟨C1, C2, C3, C4, C5, s1, fr⟩ := C
  obtain ⟨dh, eh⟩ := G.heap.ins
  have t13 : Tp H1 H3 := Tp.of_kp k fun b hb xs e => by
    have : b = c.h := by simpa using hb
    rw [this, s1 _ _ eh] at e; cases e
  have t : Tp H H3 := fun a xs e => t13 a xs (s1 _ _ e)
  have kk : Kp c.fp H H3 := Same.kp s1 (k.mono fun b hb => by
    have : b = c.h := by simpa using hb
    rw [this]; unfold Hc.fp; simp)
  have hfp : ∀ b ∈ ({ c with rc := rb } : Hc).fp, b ∈ c.fp ∨ H b = none := fun b hb => by
    have hb' : b ∈ c.h :: c.el :: c.evl :: rb.fp := hb
    rcases List.mem_cons.mp hb' with rfl | hb'
    · exact .inl (by unfold Hc.fp; simp)
    rcases List.mem_cons.mp hb' with rfl | hb'
    · exact .inl (by unfold Hc.fp; simp)
    rcases List.mem_cons.mp hb' with rfl | hb'
    · exact .inl (by unfold Hc.fp; simp)
    · exact .inr (fr b hb')
  refine ⟨{ c with rc := rb }, ⟨P3, wf_congr G.wf C2 C3 C4 t, fun v hv => ?_, fun b hb => ?_, G.msep, ⟨Nat.le_succ_of_le G.few.1, Nat.le_succ_of_le G.few.2⟩, G.sz, by show rb.next ≤ _; rw [C4]; have := G.nb; omega, fun b hb => ?_⟩, rfl, rfl, kk⟩
  · obtain ⟨r, e, S, d⟩ := G.old v hv
    refine ⟨r, e, S.frame kk fun b hb => (d b hb).1, fun b hb => ⟨fun z => ?_, (d b hb).2⟩⟩
    rcases hfp b z with q | q
    · exact (d b hb).1 q
    · obtain ⟨o, eo⟩ := S.some_ b hb
      rw [eo] at q; cases q
  · rcases hfp b hb with q | q
    · exact G.sep b q
    · intro z
      obtain ⟨o, eo, _⟩ := G.xs b z
      rw [eo] at q; cases q
  · obtain ⟨o, eo, h⟩ := G.xs b hb
    exact ⟨o, kk _ _ eo fun z => G.sep b z hb, h⟩
theorem nx_ok (G : Good K H c X n) (hn : n ≤ 500) {H1 H2 : Hp} {rb rc : Rc} {ev : Addr} {word : Str} {rest : List V} {v : V} {Q : VK} (hnx : rc.next ≤ c.rc.next + 1) (hev : H ev = some (.tup (.str word :: rest))) (hw : word ≠ "slide") (C : CopyOf K H c.rc H1 rb)
    (S2 : StAt K H2 rc) (W2 : Wf c.size H2 rc.toSc) (e1 : rc.st = c.rc.st) (f : Fr c.rc.fp H1 rc.fp) (k : Kp c.rc.fp H1 H2) (hQ : ∀ v H3, Nx K H c X n H3 → Q v H3) : Cont K c ev word rest rb Q v H2 := by
  obtain ⟨C1, C2, C3, C4, C5, s1, fr⟩ := C
  have P1 := G.heap.same s1
  have t12 : Tp H1 H2 := Tp.of_kp k (st_notup P1.st)
  have P2 := heap_of P1 S2 e1 f k
  refine ⟨{ c with rc := rc }, P2, rfl, rfl, rfl, rfl, rfl, t12 _ _ (s1 _ _ hev), fun z => absurd z hw, fun _ H3 P3 k3 => hQ v H3 ?_⟩
  have ear2 := P2.ear
  have evs2 := P2.evs
  have t23 : Tp H2 H3 := Tp.of_kp k3 fun b hb xs e => by
    rcases List.mem_cons.mp hb with q | q
    · rw [q] at e
      have ear2' : H2 c.el = some (.lst c.es) := ear2
      rw [ear2'] at e; cases e
    · have q : b = c.evl := by simpa using q
      rw [q] at e
      have evs2' : H2 c.evl = some (.lst c.evs) := evs2
      rw [evs2'] at e; cases e
  have k12 : Kp c.fp H1 H2 := k.mono fun b hb => fp_hfp hb
  have k23 : Kp c.fp H2 H3 := k3.mono fun b hb => by
    unfold Hc.fp
    rcases List.mem_cons.mp hb with q | q
    · rw [q]; simp
    · have q : b = c.evl := by simpa using q
      rw [q]; simp
  have kk : Kp c.fp H H3 := (Same.kp s1 k12).trans k23
  have hfp : ∀ b ∈ ({ c with rc := rc, es := c.es ++ [.ref rb.st], evs := c.evs ++ [.ref ev] } : Hc).fp, b ∈ c.fp ∨ H1 b = none := fun b hb => by
    have hb' : b ∈ c.h :: c.el :: c.evl :: rc.fp := hb
    rcases List.mem_cons.mp hb' with rfl | hb'
    · exact .inl (by unfold Hc.fp; simp)
    rcases List.mem_cons.mp hb' with rfl | hb'
    · exact .inl (by unfold Hc.fp; simp)
    rcases List.mem_cons.mp hb' with rfl | hb'
    · exact .inl (by unfold Hc.fp; simp)
    · rcases f b hb' with q | q
      · exact .inl (fp_hfp q)
      · exact .inr q
  refine ⟨_, ⟨P3, W2.mono t23, fun u hu => ?_, fun b hb => ?_, G.msep, ⟨?_, ?_⟩, G.sz, by show rc.next ≤ _; have := G.nb; omega, fun b hb => ?_⟩, rfl, rfl, kk⟩
  · rcases List.mem_append.mp hu with hu | hu
    · obtain ⟨r, e, S, d⟩ := G.old u hu
      refine ⟨r, e, S.frame kk fun b hb => (d b hb).1, fun b hb => ⟨fun z => ?_, (d b hb).2⟩⟩
      rcases hfp b z with q | q
      · exact (d b hb).1 q
      · obtain ⟨o, eo⟩ := (S.same s1).some_ b hb
        rw [eo] at q; cases q
    · have : u = .ref rb.st := by simpa using hu
      subst this
      have nb : ∀ b ∈ rb.fp, b ∉ c.fp := fun b hb z => by
        obtain ⟨o, eo⟩ := G.heap.some_ b z
        rw [fr b hb] at eo; cases eo
      refine ⟨rb, rfl, (C1.frame k12 nb).frame k23 nb, fun b hb => ⟨fun z => ?_, fun z => ?_⟩⟩
      · rcases hfp b z with q | q
        · exact nb b hb q
        · obtain ⟨o, eo⟩ := C1.some_ b hb
          rw [eo] at q; cases q
      · obtain ⟨o, eo, _⟩ := G.xs b z
        rw [fr b hb] at eo; cases eo
  · rcases hfp b hb with q | q
    · exact G.sep b q
    · intro z
      obtain ⟨o, eo, _⟩ := G.xs b z
      rw [s1 _ _ eo] at q; cases q
  · show (c.es ++ [_]).length ≤ n + 1
    rw [List.length_append]
    have := G.few.1
    simp only [List.length_cons, List.length_nil]; omega
  · show (c.evs ++ [_]).length ≤ n + 1
    rw [List.length_append]
    have := G.few.2
    simp only [List.length_cons, List.length_nil]; omega
  · obtain ⟨o, eo, h⟩ := G.xs b hb
    exact ⟨o, kk _ _ eo fun z => G.sep b z hb, h⟩
end
end K96
set_option Elab.async false
set_option linter.all false
set_option maxRecDepth 100000
set_option maxHeartbeats 1000000
namespace K96
open PySem PySem.Spec PyProof.Rows L2
section
variable {K : PySem.W.Frag} {H : Hp} {c : Hc} {X : List Addr} {n : Nat}
theorem log6 {k : Int} (h0 : 0 ≤ k) (h1 : k < 100) : k.natAbs.log2 < 1920 := log_small h0 (by omega)
theorem al_fr {r : Rc} {l : Addr} {s n : Int} {H : Hp} (h : H l = none) : Fr r.fp H (r.al l s n).fp := fun b hb => by
  have hb' : b ∈ r.st :: r.sd :: (r.al l s n).toSc.sfp := hb
  rcases List.mem_cons.mp hb' with rfl | hb'
  · exact .inl (by unfold Rc.fp; simp)
  rcases List.mem_cons.mp hb' with rfl | hb'
  · exact .inl (by unfold Rc.fp; simp)
  have hb2 : b ∈ r.so :: r.od :: r.rl :: (r.bks ++ [(l, (⟨r.next, s, List.replicate n.toNat .non⟩ : Blk V))]).map (fun p : Addr × Blk V => p.1) := hb'
  rw [List.map_append] at hb2
  have hb3 : b ∈ r.toSc.sfp ++ [l] := hb2
  rcases List.mem_append.mp hb3 with z | z
  · exact .inl (sfp_fp z)
  · have : b = l := by simpa using z
    rw [this]; exact .inr h
theorem kp_nil {H H' : Hp} (k : Kp [] H H') : Same H H' := k.same
/-- a drawn event, but none that moves blocks -/
theorem ev_change (G : Good K H c X n) (hn : n ≤ 500) {ev : Addr} (hE : EvOk H ev 6) (hmv : ∀ xs, H ev = some (.tup xs) → xs.head? ≠ some (.str "compact") ∧ xs.head? ≠ some (.str "makeRoom") ∧ xs.head? ≠ some (.str "slide")) {Q : VK} {E : XK}
    (hQ : ∀ v H3, Nx K H c X n H3 → Q v H3) (hX : ∀ cls d H3, Err K cls d H3 → Nx K H c X n H3 → E cls d H3) : spChange K [.ref c.h, .ref ev] H Q E := by
  have W := G.wf
  obtain ⟨pk, bs, o⟩ := W.ord
  have hsz := G.sz
  have hbl := W.len
  have hrl := W.rlen
  have few := G.few
  have mk : ∀ word rest, H ev = some (.tup (.str word :: rest)) → (∀ H1 rb, CopyOf K H c.rc H1 rb → ∀ Q' E', (∀ v H2, Cont K c ev word rest rb Q v H2 → Q' v H2) → (∀ cls d H2, Err K cls d H2 → Same H1 H2 → E' cls d H2) → spPerform K [.ref c.h, .ref ev] H1 Q' E') → spChange K [.ref c.h, .ref ev] H Q E := fun word rest e h =>
    ⟨c, ev, word, rest, True, rfl, G.heap, e, by omega, by omega, fun _ cls d H1 H3 rb hErr C P3 k => hX cls d H3 hErr (nx_err G C P3 k), fun H1 rb C Q' E' a b => h H1 rb C Q' E' a (b trivial)⟩
  have mr : ∀ {H1 : Hp} {E' : XK}, (∀ cls d H2, Err K cls d H2 → Same H1 H2 → E' cls d H2) → MayRaise K [] H1 E' := fun h cls d H' e k => h cls d H' e k.same
  rcases hE with ⟨m, e, m0, m1⟩ | ⟨k, i, v, e, k0, k1, i0, i1, hv, ht⟩ | ⟨k, e, k0, k1⟩ | ⟨k, e, k0, k1⟩ | ⟨k, e, k0, k1⟩ | e | e | ⟨m, e⟩ | e
  · refine mk _ _ e fun H1 rb C Q' E' hC hE' => ?_
    have s1 : Same H H1 := C.2.2.2.2.2.1
    have P1 := G.heap.same s1
    refine ⟨c, ev, rfl, P1, .inl ⟨.int m, s1 _ _ e, c, bs, m, rfl, P1, o.perm, o.chain, by omega, m0, by omega, fun z => ?_, fun s l H2 hF S2 hl k2 => ?_, mr hE'⟩⟩
    · obtain ⟨b, hb, eb⟩ := List.mem_map.mp z
      have := (W.lt b hb).2
      omega
    · exact hC _ _ (nx_ok G hn (by first | exact Int.le_refl _ | exact Int.le_of_lt (Int.lt_add_one_of_le (Int.le_refl _))) e (by decide) C S2 (wf_al W o m0 hF (fun a xs e => (Tp.of_kp k2 (st_notup P1.st)) a xs (s1 _ _ e))) rfl (al_fr hl) k2 hQ)
  · refine mk _ _ e fun H1 rb C Q' E' hC hE' => ?_
    have s1 : Same H H1 := C.2.2.2.2.2.1
    have P1 := G.heap.same s1
    have hv1 := hv.mono (Tp.of_same s1)
    refine ⟨c, ev, rfl, P1, .inr (.inl ⟨.int k, .int i, v, s1 _ _ e, c.rc.toSc, k, i, v, rfl, P1.st.store, log6 k0 (by omega), log6 i0 (by omega), hv1.1, fun j ej => ?_, fun hc H2 S2 k2 => ?_, fun _ => mr hE'⟩)⟩
    · have := ht j (by rw [← hv1.2]; exact ej)
      exact log6 this.1 (by omega)
    · have t12 : Tp H1 H2 := Tp.of_kp k2 (store_notup P1.st.store)
      have hv2 := hv1.1.mono t12
      have f : Fr c.rc.toSc.sfp H1 (c.rc.toSc.wr k i.toNat v).sfp := by rw [Sc.wr_sfp]; exact Fr.refl
      refine hC _ _ (nx_ok G hn (by first | exact Int.le_refl _ | exact Int.le_of_lt (Int.lt_add_one_of_le (Int.le_refl _))) e (by decide) C (st_of_store P1.st S2 rfl (by rw [Sc.wr_blks, sD_setF]) k2 f) (wf_wr W (fun a xs e => t12 a xs (s1 _ _ e)) hv2.1 fun j ej => hc.2 j (by rw [← hv2.2]; exact ej)) rfl (fr_st rfl rfl f) (k2.mono fun b hb => sfp_fp hb) hQ)
  · refine mk _ _ e fun H1 rb C Q' E' hC hE' => ?_
    have s1 : Same H H1 := C.2.2.2.2.2.1
    have P1 := G.heap.same s1
    refine ⟨c, ev, rfl, P1, .inr (.inr (.inr (.inl ⟨.int k, s1 _ _ e, c.rc.toSc, k, rfl, P1.st.store, log6 k0 (by omega), by omega, fun hk b H2 rl' roots' S2 hrl' hro hnd k2 => ?_, mr hE'⟩)))⟩
    have t12 : Tp H1 H2 := Tp.of_kp k2 (store_notup P1.st.store)
    have f : Fr c.rc.toSc.sfp H1 (c.rc.toSc.rt rl' roots').sfp := fun x hx => by
      have hx' : x ∈ c.rc.so :: c.rc.od :: rl' :: c.rc.bks.map (·.1) := hx
      unfold Sc.sfp
      rcases List.mem_cons.mp hx' with rfl | hx'
      · exact .inl (by simp)
      rcases List.mem_cons.mp hx' with rfl | hx'
      · exact .inl (by simp)
      rcases List.mem_cons.mp hx' with rfl | hx'
      · rcases hrl' with z | z
        · exact .inl (by rw [z]; simp)
        · exact .inr z
      · exact .inl (List.mem_cons_of_mem _ (List.mem_cons_of_mem _ (List.mem_cons_of_mem _ hx')))
    refine hC _ _ (nx_ok G hn (by first | exact Int.le_refl _ | exact Int.le_of_lt (Int.lt_add_one_of_le (Int.le_refl _))) e (by decide) C (st_of_store P1.st S2 rfl rfl k2 f) (wf_rt W (fun a xs e => t12 a xs (s1 _ _ e)) (fun j hj => ?_) (hnd W.rnd)) rfl (fr_st rfl rfl f) (k2.mono fun b hb => sfp_fp hb) hQ)
    rcases hro j hj with z | z
    · rw [z]; exact hk
    · exact W.rts j z
  · refine mk _ _ e fun H1 rb C Q' E' hC hE' => ?_
    have s1 : Same H H1 := C.2.2.2.2.2.1
    have P1 := G.heap.same s1
    have W1 := W.mono (Tp.of_same s1)
    refine ⟨c, ev, rfl, P1, .inr (.inr (.inl ⟨.int k, s1 _ _ e, c, k, rfl, P1, log6 k0 (by omega), W1.vals (by omega), by omega, fun hk hkr hno H2 S2 k2 => ?_, mr hE'⟩))⟩
    have t12 : Tp H1 H2 := Tp.of_kp k2 (st_notup P1.st)
    have eb : (c.rc.dropk k).toSc.blks = c.rc.toSc.blks.filter fun b => decide (b.num ≠ k) := drop_blks c.rc.toSc k
    have mem : ∀ j, j ∈ c.rc.toSc.blks.map (·.num) → j ≠ k → j ∈ (c.rc.dropk k).toSc.blks.map (·.num) := fun j hj hne => by
      obtain ⟨b, hb, rfl⟩ := List.mem_map.mp hj
      rw [eb]
      exact List.mem_map_of_mem (List.mem_filter.mpr ⟨hb, decide_eq_true hne⟩)
    have f : Fr c.rc.toSc.sfp H1 (c.rc.dropk k).toSc.sfp := fun x hx => .inl (drop_sub c.rc.toSc k x hx)
    refine hC _ _ (nx_ok G hn (by first | exact Int.le_refl _ | exact Int.le_of_lt (Int.lt_add_one_of_le (Int.le_refl _))) e (by decide) C S2 (wf_sub W1 t12 eb rfl rfl (fun j hj => mem j (W1.rts j hj) fun z => hkr (by rw [← z]; exact hj)) fun b hb hp v hv j ej => ?_) rfl (fr_st rfl rfl f) k2 hQ)
    refine mem j (W1.ref b hb v hv j ej) fun z => ?_
    obtain ⟨p, hp', rfl⟩ := List.mem_map.mp hb
    exact hno p hp' (of_decide_eq_true hp) v hv (by rw [ej, z])
  · refine mk _ _ e fun H1 rb C Q' E' hC hE' => ?_
    have s1 : Same H H1 := C.2.2.2.2.2.1
    have P1 := G.heap.same s1
    refine ⟨c, ev, rfl, P1, .inr (.inr (.inr (.inr (.inl ⟨.int k, s1 _ _ e, c.rc.toSc, k, rfl, P1.st.store, log6 k0 (by omega), by omega, fun hk b H2 rl' roots' S2 hrl' hro hnd k2 => ?_, mr hE'⟩))))⟩
    have t12 : Tp H1 H2 := Tp.of_kp k2 (store_notup P1.st.store)
    have f : Fr c.rc.toSc.sfp H1 (c.rc.toSc.rt rl' roots').sfp := fun x hx => by
      have hx' : x ∈ c.rc.so :: c.rc.od :: rl' :: c.rc.bks.map (·.1) := hx
      unfold Sc.sfp
      rcases List.mem_cons.mp hx' with rfl | hx'
      · exact .inl (by simp)
      rcases List.mem_cons.mp hx' with rfl | hx'
      · exact .inl (by simp)
      rcases List.mem_cons.mp hx' with rfl | hx'
      · rcases hrl' with z | z
        · exact .inl (by rw [z]; simp)
        · exact .inr z
      · exact .inl (List.mem_cons_of_mem _ (List.mem_cons_of_mem _ (List.mem_cons_of_mem _ hx')))
    refine hC _ _ (nx_ok G hn (by first | exact Int.le_refl _ | exact Int.le_of_lt (Int.lt_add_one_of_le (Int.le_refl _))) e (by decide) C (st_of_store P1.st S2 rfl rfl k2 f) (wf_rt W (fun a xs e => t12 a xs (s1 _ _ e)) (fun j hj => ?_) (hnd W.rnd)) rfl (fr_st rfl rfl f) (k2.mono fun b hb => sfp_fp hb) hQ)
    rcases hro j hj with z | z
    · rw [z]; exact hk
    · exact W.rts j z
  · refine mk _ _ e fun H1 rb C Q' E' hC hE' => ?_
    have s1 : Same H H1 := C.2.2.2.2.2.1
    have P1 := G.heap.same s1
    have W1 := W.mono (Tp.of_same s1)
    refine ⟨c, ev, rfl, P1, .inr (.inr (.inr (.inr (.inr (.inl ⟨s1 _ _ e, c, rfl, P1, W1.vals (by omega), W1.closed, W1.asc, by omega, by omega, fun ks H2 p hR S2 k2 => ?_⟩)))))⟩
    have t12 : Tp H1 H2 := Tp.of_kp k2 (st_notup P1.st)
    obtain ⟨r1, r2, r3, r4⟩ := hR
    have eb : (c.rc.wog (goneOf c.rc.toSc ks)).toSc.blks = c.rc.toSc.blks.filter fun b => decide (b.num ∉ goneOf c.rc.toSc ks) := wo_blks c.rc.toSc _
    have ing : ∀ j, j ∈ c.rc.toSc.blks.map (·.num) → (j ∉ goneOf c.rc.toSc ks ↔ j ∈ ks) := fun j hj => by
      unfold goneOf
      rw [List.mem_filter]
      constructor
      · intro z
        by_cases q : j ∈ ks
        · exact q
        · exact absurd ⟨hj, decide_eq_true q⟩ z
      · intro z q
        exact of_decide_eq_true q.2 z
    have mem : ∀ j, j ∈ ks → j ∈ (c.rc.wog (goneOf c.rc.toSc ks)).toSc.blks.map (·.num) := fun j hj => by
      have hjn := r3 j hj
      obtain ⟨b, hb, rfl⟩ := List.mem_map.mp hjn
      rw [eb]
      exact List.mem_map_of_mem (List.mem_filter.mpr ⟨hb, decide_eq_true ((ing _ hjn).mpr hj)⟩)
    have f : Fr c.rc.toSc.sfp H1 (c.rc.wog (goneOf c.rc.toSc ks)).toSc.sfp := fun x hx => .inl (wo_sub c.rc.toSc _ x hx)
    refine hC _ _ (nx_ok G hn (by first | exact Int.le_refl _ | exact Int.le_of_lt (Int.lt_add_one_of_le (Int.le_refl _))) e (by decide) C S2 (wf_sub W1 t12 eb rfl rfl (fun j hj => mem j (r2 j hj)) fun b hb hp v hv j ej => ?_) rfl (fr_st rfl rfl f) k2 hQ)
    refine mem j ?_
    obtain ⟨p, hp', rfl⟩ := List.mem_map.mp hb
    have hpk : p.2.num ∈ ks := (ing _ (List.mem_map_of_mem (f := (·.num)) hb)).mp (of_decide_eq_true hp)
    exact r4 p hp' hpk v hv j ej
  · exact absurd rfl (hmv _ e).1
  · exact absurd rfl (hmv _ e).2.1
  · exact absurd rfl (hmv _ e).2.2
end
end K96
set_option Elab.async false
set_option linter.all false
set_option maxRecDepth 100000
set_option maxHeartbeats 1000000
namespace K96
open PySem PySem.Spec PyProof.Rows L2
section
variable {K : PySem.W.Frag} {H : Hp} {c : Hc} {n : Nat}
/-- the heap behind a change that is logged -/
def Nx2 (K : PySem.W.Frag) (H : Hp) (c : Hc) (n : Nat) (rc : Rc) (H3 : Hp) : Prop := ∃ es evs, HeapAt K H3 { c with rc := rc, es := es, evs := evs } ∧ es.length ≤ n + 1 ∧ evs.length ≤ n + 1 ∧ Tp H H3 ∧ Kp c.fp H H3
theorem ch_ok (P : HeapAt K H c) (few : c.es.length ≤ n ∧ c.evs.length ≤ n) {H1 H2 : Hp} {rb rc : Rc} {ev : Addr} {word : Str} {rest : List V} {v : V} {Q : VK} (hev : H ev = some (.tup (.str word :: rest))) (hw : word ≠ "slide" ∨ v ≠ .non) (C : CopyOf K H c.rc H1 rb)
    (S2 : StAt K H2 rc) (e1 : rc.st = c.rc.st) (f : Fr c.rc.fp H1 rc.fp) (k : Kp c.rc.fp H1 H2) (hQ : ∀ H3, Nx2 K H c n rc H3 → Q v H3) : Cont K c ev word rest rb Q v H2 := by
  obtain ⟨C1, C2, C3, C4, C5, s1, fr⟩ := C
  have P1 := P.same s1
  have t12 : Tp H1 H2 := Tp.of_kp k (st_notup P1.st)
  have P2 := heap_of P1 S2 e1 f k
  refine ⟨{ c with rc := rc }, P2, rfl, rfl, rfl, rfl, rfl, t12 _ _ (s1 _ _ hev), fun z z2 => ?_, fun _ H3 P3 k3 => hQ H3 ?_⟩
  · rcases hw with h | h
    · exact absurd z h
    · exact absurd z2 h
  have ear2 : H2 c.el = some (.lst c.es) := P2.ear
  have evs2 : H2 c.evl = some (.lst c.evs) := P2.evs
  have t23 : Tp H2 H3 := Tp.of_kp k3 fun b hb xs e => by
    rcases List.mem_cons.mp hb with q | q
    · rw [q, ear2] at e; cases e
    · have q : b = c.evl := by simpa using q
      rw [q, evs2] at e; cases e
  have k12 : Kp c.fp H1 H2 := k.mono fun b hb => fp_hfp hb
  have k23 : Kp c.fp H2 H3 := k3.mono fun b hb => by
    unfold Hc.fp
    rcases List.mem_cons.mp hb with q | q
    · rw [q]; simp
    · have q : b = c.evl := by simpa using q
      rw [q]; simp
  refine ⟨_, _, P3, ?_, ?_, fun a xs e => t23 _ _ (t12 _ _ (s1 _ _ e)), (Same.kp s1 k12).trans k23⟩
  · rw [List.length_append]
    have := few.1
    simp only [List.length_cons, List.length_nil]; omega
  · rw [List.length_append]
    have := few.2
    simp only [List.length_cons, List.length_nil]; omega
def Rc.wr (r : Rc) (k : Int) (i : Nat) (v : V) : Rc := { r with toSc := r.toSc.wr k i v }
/-- a field is written -/
theorem w_ok (P : HeapAt K H c) (few : c.es.length ≤ n ∧ c.evs.length ≤ n) (hn : n ≤ 500) {b : Blk V} {i : Nat} {v : V} (hb : b ∈ c.rc.blks) (hi : (i : Int) < b.len) (h0 : 0 ≤ b.num) (h1 : b.num < 100) (hi1 : i < 100) (hv : VOk H v)
    (ht : ∀ j, tgt H v = some j → j ∈ c.rc.blks.map (·.num) ∧ 0 ≤ j ∧ j < 100) {Q : VK} {E : XK} (hQ : ∀ H3, Nx2 K H c n (c.rc.wr b.num i v) H3 → Q .non H3) : spMWrite K [.ref c.h, .int b.num, .int (i : Int), v] H Q E := by
  refine ⟨c, _, _, _, rfl, P, fun t hf => ?_⟩
  have s0 := same_upd (o := .tup [.str "write", .int b.num, .int (i : Int), v]) hf
  refine ⟨c, t, "write", _, False, rfl, P.same s0, upd_same, by have := few.1; omega, by have := few.2; omega, fun z => z.elim, fun H1 rb C Q' E' hC _ => ?_⟩
  have s1 : Same _ H1 := C.2.2.2.2.2.1
  have s01 := s0.trans s1
  have P1 := P.same s01
  have hv1 := hv.mono (Tp.of_same s01)
  have hin : CanWrite H1 c.rc.toSc b.num (i : Int) v := by
    refine ⟨?_, fun j ej => (ht j (by rw [← hv1.2]; exact ej)).1⟩
    obtain ⟨p, hp, rfl⟩ := List.mem_map.mp hb
    exact ⟨p, hp, rfl, by omega, hi⟩
  refine ⟨c, t, rfl, P1, .inr (.inl ⟨_, _, _, s1 _ _ upd_same, c.rc.toSc, b.num, (i : Int), v, rfl, P1.st.store, log6 h0 h1, log6 (by omega) (by omega), hv1.1, fun j ej => ?_, fun hc H2 S2 k2 => ?_, fun z => absurd hin z⟩)⟩
  · have := (ht j (by rw [← hv1.2]; exact ej)).2
    exact log6 this.1 this.2
  · rw [Int.toNat_natCast] at S2
    have f : Fr c.rc.toSc.sfp H1 (c.rc.toSc.wr b.num i v).sfp := by rw [Sc.wr_sfp]; exact Fr.refl
    refine hC _ _ (ch_ok (P.same s0) few upd_same (.inl (by decide)) C (st_of_store P1.st S2 rfl (by rw [Sc.wr_blks, sD_setF]) k2 f) rfl (fr_st rfl rfl f) (k2.mono fun b hb => sfp_fp hb) fun H3 hN => hQ H3 ?_)
    obtain ⟨es, evs, a1, a2, a3, a4, a5⟩ := hN
    exact ⟨es, evs, a1, a2, a3, fun a xs e => a4 _ _ (s0 _ _ e), Same.kp s0 a5⟩
theorem mv_fr {r : Rc} {xs : List (Blk V)} {H : Hp} : Fr r.fp H (r.mv xs).fp := by rw [Rc.mv_fp]; exact Fr.refl
theorem hc_st {K : PySem.W.Frag} {H : Hp} {c : Hc} {xs : List (Blk V)} (P : HeapAt K H (c.mv xs)) : StAt K H (c.rc.mv xs) := P.st
/-- all blocks are slid -/
theorem cp_ok (P : HeapAt K H c) (few : c.es.length ≤ n ∧ c.evs.length ≤ n) (hn : n ≤ 500) {bs : List (Blk V)} (hp : bs.Perm c.rc.blks) (hc : Chain c.size 0 bs) (hz : c.size ≤ 25) {Q : VK} {E : XK} (hQ : ∀ v H3, Nx2 K H c n (c.rc.mv (pack 0 bs)) H3 → Q v H3) : spM0 "compact" K [.ref c.h] H Q E := by
  refine ⟨c, rfl, P, fun t hf => ?_⟩
  have s0 := same_upd (o := .tup [.str "compact"]) hf
  refine ⟨c, t, "compact", [], False, rfl, P.same s0, upd_same, by have := few.1; omega, by have := few.2; omega, fun z => z.elim, fun H1 rb C Q' E' hC _ => ?_⟩
  have s1 : Same _ H1 := C.2.2.2.2.2.1
  have P1 := P.same (s0.trans s1)
  refine ⟨c, t, rfl, P1, .inr (.inr (.inr (.inr (.inr (.inr (.inl ⟨s1 _ _ upd_same, c, bs, rfl, P1, hp, hc, hz, fun H2 q P2 k2 => ?_⟩))))))⟩
  refine hC _ _ (ch_ok (P.same s0) few upd_same (.inl (by decide)) C (hc_st P2) rfl mv_fr (k2.mono fun b hb => by
    have : b = c.rc.sd := by simpa using hb
    rw [this]; unfold Rc.fp; simp) fun H3 hN => hQ _ H3 ?_)
  obtain ⟨es, evs, a1, a2, a3, a4, a5⟩ := hN
  exact ⟨es, evs, a1, a2, a3, fun a xs e => a4 _ _ (s0 _ _ e), Same.kp s0 a5⟩
/-- one block is slid, or none -/
theorem sl_ok (P : HeapAt K H c) (few : c.es.length ≤ n ∧ c.evs.length ≤ n) (hn : n ≤ 500) {bs : List (Blk V)} (hp : bs.Perm c.rc.blks) (hc : Chain c.size 0 bs) (hz : c.size ≤ 25) {Q : VK} {E : XK}
    (hQ1 : gap 0 (lay bs) = none → ∀ H3, Same H H3 → Q .non H3) (hQ2 : ∀ b t, b ∈ c.rc.blks → gap 0 (lay bs) = some (b.start, t) → ∀ x H3, Nx2 K H c n (c.rc.mv [{ b with start := t }]) H3 → Q (.ref x) H3) : spM0 "slide" K [.ref c.h] H Q E := by
  refine ⟨c, rfl, P, fun t hf => ?_⟩
  have s0 := same_upd (o := .tup [.str "slide"]) hf
  refine ⟨c, t, "slide", [], False, rfl, P.same s0, upd_same, by have := few.1; omega, by have := few.2; omega, fun z => z.elim, fun H1 rb C Q' E' hC _ => ?_⟩
  have s1 : Same _ H1 := C.2.2.2.2.2.1
  have s01 := s0.trans s1
  have P1 := P.same s01
  refine ⟨c, t, rfl, P1, .inr (.inr (.inr (.inr (.inr (.inr (.inr ⟨s1 _ _ upd_same, c, bs, rfl, P1, hp, hc, hz, fun hg H2 s2 => ?_, fun b e hb hg H2 x P2 k2 => ?_⟩))))))⟩
  · have s02 := s01.trans s2
    exact hC _ _ ⟨c, P.same s02, rfl, rfl, rfl, rfl, rfl, s2 _ _ (s1 _ _ upd_same), fun _ _ => hQ1 hg H2 s02, fun z => by
      rcases z with z | z
      · exact absurd rfl z
      · exact absurd rfl z⟩
  · refine hC _ _ (ch_ok (P.same s0) few upd_same (.inr (by intro z; cases z)) C (hc_st P2) rfl mv_fr (k2.mono fun b hb => by
      have : b = c.rc.sd := by simpa using hb
      rw [this]; unfold Rc.fp; simp) fun H3 hN => hQ2 b e hb hg _ H3 ?_)
    obtain ⟨es, evs, a1, a2, a3, a4, a5⟩ := hN
    exact ⟨es, evs, a1, a2, a3, fun a xs e => a4 _ _ (s0 _ _ e), Same.kp s0 a5⟩
end
end K96
set_option Elab.async false
set_option linter.all false
set_option maxRecDepth 100000
set_option maxHeartbeats 1000000
namespace K96
open PySem PySem.Spec PyProof.Rows L2
/-! ### words as data -/
/-- flat data, or a tuple of such -/
def small : PyData → Bool
  | .none => true | .int _ => true | .str x => PyData.strOk x | .tuple [.str x, .int _] => PyData.strOk x | .tuple [.int _, .int _] => true
  | _ => false
theorem small_ok : ∀ d : PyData, small d = true → d.canLay0 = true ∧ d.depth ≤ 1
  | .none, _ => ⟨rfl, by decide⟩
  | .int _, _ => ⟨rfl, Nat.zero_le _⟩
  | .str x, h => ⟨h, Nat.zero_le _⟩
  | .tuple [.str x, .int _], h => ⟨by show (PyData.strOk x && (true && true)) = true; rw [show PyData.strOk x = true from h]; rfl, by show max 0 (max 0 0) + 1 ≤ 1; decide⟩
  | .tuple [.int _, .int _], _ => ⟨rfl, by show max 0 (max 0 0) + 1 ≤ 1; decide⟩
theorem small_all : ∀ ds : List PyData, (∀ d ∈ ds, small d = true) → PyData.canLayAll0 ds = true ∧ PyData.depthAll ds ≤ 1
  | [], _ => ⟨rfl, Nat.zero_le _⟩
  | d :: r, h => by
    obtain ⟨a1, a2⟩ := small_ok d (h d (List.mem_cons_self ..))
    obtain ⟨b1, b2⟩ := small_all r fun x hx => h x (List.mem_cons_of_mem _ hx)
    refine ⟨?_, ?_⟩
    · show (d.canLay0 && PyData.canLayAll0 r) = true
      rw [a1, b1]; rfl
    · show max d.depth (PyData.depthAll r) ≤ 1
      omega
theorem shaped_small {d : PyData} (h : small d = true) : SeqAt.shaped d = true := by
  obtain ⟨a1, a2⟩ := small_ok d h
  unfold SeqAt.shaped
  rw [a1, decide_eq_true (by omega : d.depth ≤ 64)]; rfl
theorem shaped_list {ds : List PyData} (h : ∀ d ∈ ds, small d = true) : SeqAt.shaped (.list ds) = true ∧ PyData.eqv (.list ds) (.list ds) = true := by
  obtain ⟨a1, a2⟩ := small_all ds h
  have c : (PyData.list ds).canLay0 = true := a1
  refine ⟨?_, SeqAt.eqv_refl _ c⟩
  unfold SeqAt.shaped
  have hd : (PyData.list ds).depth ≤ 64 := by
    show PyData.depthAll ds + 1 ≤ 64
    omega
  rw [c, decide_eq_true hd]; rfl
def startOf (B : List (Blk V)) (k : Int) : Int := match B.find? fun b => decide (b.num = k) with
  | some b => b.start
  | none => 0
def wordD (H : Hp) (B : List (Blk V)) (v : V) : PyData := match tgt H v with
  | some k => .tuple [.str "reference", .int (startOf B k)]
  | none => (match v with
    | .int i => .int i
    | _ => .none)
def cellD (H : Hp) (B : List (Blk V)) (j : Nat) : PyData := match B.find? fun b => decide (b.start ≤ (j : Int) ∧ (j : Int) < b.start + b.len) with
  | some b => wordD H B (b.fs.getD ((j : Int) - b.start).toNat .non)
  | none => .str "free"
theorem cellD_small (H : Hp) (B : List (Blk V)) (j : Nat) : small (cellD H B j) = true := by
  unfold cellD
  split
  · unfold wordD
    split
    · show PyData.strOk "reference" = true
      decide +kernel
    · split <;> rfl
  · show PyData.strOk "free" = true
    decide +kernel
theorem find_uniq {α : Type} {p : α → Bool} {x : α} : ∀ {l : List α}, x ∈ l → p x = true → (∀ y ∈ l, p y = true → y = x) → l.find? p = some x
  | y :: r, hx, hp, hu => by
    rw [List.find?_cons]
    by_cases c : p y = true
    · rw [c, hu y (List.mem_cons_self ..) c]
    · have c' : p y = false := by simpa using c
      rw [c']
      rcases List.mem_cons.mp hx with z | z
      · rw [z] at hp; rw [hp] at c'; cases c'
      · exact find_uniq z hp fun u hu' => hu u (List.mem_cons_of_mem _ hu')
theorem find_no {α : Type} {p : α → Bool} : ∀ {l : List α}, (∀ y ∈ l, p y = false) → l.find? p = none
  | [], _ => rfl
  | y :: r, h => by
    rw [List.find?_cons, h y (List.mem_cons_self ..)]
    exact find_no fun u hu => h u (List.mem_cons_of_mem _ hu)
section
variable {K : PySem.W.Frag} {H H' : Hp} {B : List (Blk V)} {size : Int}
theorem word_dp (hv : ∀ b ∈ B, ∀ v ∈ b.fs, VOk H v) (nd : (B.map (·.num)).Nodup) (t : Tp H H') {b : Blk V} (hb : b ∈ B) {v x : V} (hvb : v ∈ b.fs) (h : WordIs H' B v x) : Dp K H' x (wordD H B v) := by
  have hvv := hv b hb v hvb
  have et := (hvv.mono t).2
  rcases h with ⟨h1, h2⟩ | ⟨b', u, h1, h2, h3, h4⟩
  · rw [et] at h1
    subst h2
    unfold wordD
    rw [h1]
    rcases hvv with rfl | ⟨i, rfl⟩ | ⟨u, k, rfl, e⟩
    · exact .non
    · exact .int i
    · rw [tgt_ref e] at h1; cases h1
  · rw [et] at h1
    subst h3
    unfold wordD
    rw [h1]
    have : startOf B b'.num = b'.start := by
      unfold startOf
      rw [find_uniq h2 (decide_eq_true rfl) fun y hy hp => num_inj nd hy h2 (of_decide_eq_true hp)]
    show Dp K H' (.ref u) (.tuple [.str "reference", .int (startOf B b'.num)])
    rw [this]
    exact .tup (SqT.of h4) (.cons (.str _) (.cons (.int _) .nil))
theorem cell_dp (hv : ∀ b ∈ B, ∀ v ∈ b.fs, VOk H v) (nd : (B.map (·.num)).Nodup) (ap : ∀ b ∈ B, ∀ c ∈ B, b.num ≠ c.num → Apart b c) (t : Tp H H') {j : Nat} {x : V} (h : CellIs H' B B j x) : Dp K H' x (cellD H B j) := by
  rcases h with ⟨b, hb, i, v, h1, h2, h3⟩ | ⟨h1, h2⟩
  · have hi := (List.getElem?_eq_some_iff.mp h1).1
    have hlen : b.len = (b.fs.length : Int) := rfl
    have hp : decide (b.start ≤ (j : Int) ∧ (j : Int) < b.start + b.len) = true := decide_eq_true ⟨by omega, by omega⟩
    have : cellD H B j = wordD H B v := by
      unfold cellD
      rw [find_uniq hb hp fun y hy hpy => by
        have q := of_decide_eq_true hpy
        by_cases e : y.num = b.num
        · exact num_inj nd hy hb e
        · have := ap y hy b hb e
          unfold Apart at this
          omega]
      show wordD H B (b.fs.getD ((j : Int) - b.start).toNat .non) = _
      have e : ((j : Int) - b.start).toNat = i := by omega
      rw [e, List.getD_eq_getElem?_getD, h1]; rfl
    rw [this]
    exact word_dp hv nd t hb (List.mem_of_getElem? h1) h3
  · subst h2
    have : cellD H B j = .str "free" := by
      unfold cellD
      rw [find_no fun y hy => decide_eq_false (h1 y hy)]
    rw [this]; exact .str _
theorem dp_all : ∀ {xs : List V} {ds : List PyData}, xs.length = ds.length → (∀ (i : Nat) x d, xs[i]? = some x → ds[i]? = some d → Dp K H x d) → DpAll K H xs ds
  | [], [], _, _ => .nil
  | [], _ :: _, h, _ => by simp at h
  | _ :: _, [], h, _ => by simp at h
  | x :: r, d :: s, h, g => .cons (g 0 x d rfl rfl) (dp_all (by simpa using h) fun i y e h1 h2 => g (i + 1) y e (by simpa using h1) (by simpa using h2))
def datD (H : Hp) (B : List (Blk V)) (size : Int) : List PyData := (List.range size.toNat).map (cellD H B)
theorem datD_small : ∀ d ∈ datD H B size, small d = true := fun d hd => by
  unfold datD at hd
  obtain ⟨j, _, rfl⟩ := List.mem_map.mp hd
  exact cellD_small H B j
theorem words_dp (hv : ∀ b ∈ B, ∀ v ∈ b.fs, VOk H v) (nd : (B.map (·.num)).Nodup) (ap : ∀ b ∈ B, ∀ c ∈ B, b.num ≠ c.num → Apart b c) (t : Tp H H') {q : Addr} (h : WordsAt H' q size B) : Dp K H' (.ref q) (.list (datD H B size)) := by
  obtain ⟨ws, e, hl, hc⟩ := h
  refine .lst (SqL.of e) (dp_all ?_ fun i x d h1 h2 => ?_)
  · unfold datD; rw [List.length_map, List.length_range]; omega
  · unfold datD at h2
    rw [List.getElem?_map] at h2
    cases e2 : (List.range size.toNat)[i]? with
    | none => rw [e2] at h2; cases h2
    | some j =>
      rw [e2] at h2
      have hj : j = i := by
        obtain ⟨hi, e3⟩ := List.getElem?_eq_some_iff.mp e2
        rw [List.getElem_range] at e3
        exact e3.symm
      subst hj
      have : d = cellD H B j := (Option.some.inj h2).symm
      rw [this]
      exact cell_dp hv nd ap t (hc j x h1)
theorem WordsAt.same {q : Addr} (h : WordsAt H q size B) (hv : ∀ b ∈ B, ∀ v ∈ b.fs, VOk H v) (k : Same H H') : WordsAt H' q size B := by
  obtain ⟨ws, e, hl, hc⟩ := h
  exact ⟨ws, k _ _ e, hl, fun j x hx => (hc j x hx).same hv (Tp.of_same k)⟩
end
end K96
set_option Elab.async false
set_option linter.all false
set_option maxRecDepth 100000
set_option maxHeartbeats 1000000
namespace K96
open PySem PySem.Spec PyProof.Rows L2
/-! ### the heap, the other one, the slider -/
structure Two (K : PySem.W.Frag) (H : Hp) (c1 c2 : Hc) (r : Sl) (size : Int) (pk : List (Blk V)) (n : Nat) : Prop where
  a1 : HeapAt K H c1
  a2 : HeapAt K H c2
  a3 : SlAt K H r
  ok : SlOk size pk r
  wf : Wf size H c1.rc.toSc
  ord : ∃ bs, Ord size pk c1.rc.blks bs
  eb : c2.rc.blks = c1.rc.blks
  er : c2.rc.roots = c1.rc.roots
  en : c2.rc.next = c1.rc.next
  ek : r.bl.map Blk.key = c1.rc.blks.map Blk.key
  s1 : c1.size = size
  s2 : c2.size = size
  sz : 4 ≤ size ∧ size ≤ 12
  f1 : c1.es.length ≤ n ∧ c1.evs.length ≤ n
  f2 : c2.es.length ≤ n ∧ c2.evs.length ≤ n
  nb : c1.rc.next ≤ 100
structure Sp3 (F1 F2 F3 : List Addr) (m : Addr) : Prop where
  n12 : ∀ b ∈ F1, b ∉ F2
  n13 : ∀ b ∈ F1, b ∉ F3
  n23 : ∀ b ∈ F2, b ∉ F3
  m1 : m ∉ F1
  m2 : m ∉ F2
  m3 : m ∉ F3
section
variable {K : PySem.W.Frag} {H H' : Hp} {c1 c2 : Hc} {r : Sl} {size : Int} {pk : List (Blk V)} {n : Nat}
theorem sl_frame {F : List Addr} (a : SlAt K H r) (k : Kp F H H') (d : ∀ b ∈ r.fp, b ∉ F) : SlAt K H' r := a.keep fun b hb o e => k b o e (d b hb)
theorem sl_notup (S : SlAt K H r) : ∀ b ∈ r.fp, ∀ xs, H b ≠ some (.tup xs) := fun b hb xs e => by
  unfold Sl.fp at hb
  rcases List.mem_cons.mp hb with rfl | hb
  · obtain ⟨dx, e2⟩ := S.ins; rw [e] at e2; cases e2
  rcases List.mem_cons.mp hb with rfl | hb
  · have := S.wls; rw [e] at this; cases this
  rcases List.mem_cons.mp hb with rfl | hb
  · have := S.sts; rw [e] at this; cases this
  rcases List.mem_cons.mp hb with rfl | hb
  · have := S.lns; rw [e] at this; cases this
  · cases hb
theorem Two.frame {F : List Addr} (T : Two K H c1 c2 r size pk n) (k : Kp F H H') (t : Tp H H') (d1 : ∀ b ∈ c1.fp, b ∉ F) (m1 : c1.m ∉ F) (d2 : ∀ b ∈ c2.fp, b ∉ F) (m2 : c2.m ∉ F) (d3 : ∀ b ∈ r.fp, b ∉ F) : Two K H' c1 c2 r size pk n := by
  obtain ⟨a1, a2, a3, a4, a5, a6, a7, a8, a9, a10, a11, a12, a13, a14, a15, a16⟩ := T
  exact ⟨a1.frame k d1 m1, a2.frame k d2 m2, sl_frame a3 k d3, a4, a5.mono t, a6, a7, a8, a9, a10, a11, a12, a13, a14, a15, a16⟩
theorem Two.same (T : Two K H c1 c2 r size pk n) (k : Same H H') : Two K H' c1 c2 r size pk n :=
  T.frame (F := []) (Kp.of_same k) (Tp.of_same k) (fun _ _ => by simp) (by simp) (fun _ _ => by simp) (by simp) (fun _ _ => by simp)
theorem key_mem {l m : List (Blk V)} (h : l.map Blk.key = m.map Blk.key) {b : Blk V} (hb : b ∈ l) : ∃ b1 ∈ m, b1.num = b.num ∧ b1.fs = b.fs := by
  have : b.key ∈ m.map Blk.key := by rw [← h]; exact List.mem_map_of_mem hb
  obtain ⟨b1, h1, e⟩ := List.mem_map.mp this
  exact ⟨b1, h1, congrArg Prod.fst e, congrArg Prod.snd e⟩
/-- the slider works on -/
theorem Two.work {r' : Sl} (T : Two K H c1 c2 r size pk n) (sp : Sp3 c1.fp c2.fp r.fp c1.m) (em : c2.m = c1.m) (S' : SlAt K H' r') (O' : SlOk size pk r') (M : Moved r r') (k : Kp r.mfp H H') : Two K H' c1 c2 r' size pk n ∧ r'.fp = r.fp ∧ Tp H H' := by
  have sub : ∀ b ∈ r.mfp, b ∈ r.fp := fun b hb => by
    unfold Sl.mfp at hb
    unfold Sl.fp
    simp only [List.mem_cons, List.not_mem_nil, or_false] at hb ⊢
    rcases hb with z | z | z
    · exact .inl z
    · exact .inr (.inl z)
    · exact .inr (.inr (.inl z))
  have k' := k.mono sub
  have t : Tp H H' := Tp.of_kp k' (sl_notup T.a3)
  obtain ⟨a1, a2, a3, a4, a5, a6, a7, a8, a9, a10, a11, a12, a13, a14, a15, a16⟩ := T
  refine ⟨⟨a1.frame k' sp.n13 sp.m3, a2.frame k' sp.n23 (by rw [em]; exact sp.m3), S', O', a5.mono t, a6, a7, a8, a9, M.2.2.2.2.trans a10, a11, a12, a13, a14, a15, a16⟩, ?_, t⟩
  unfold Sl.fp
  rw [M.1, M.2.1, M.2.2.1, M.2.2.2.1]
theorem slok_wr {b : Blk V} {i : Nat} {v : V} (O : SlOk size pk r) (nd : (r.bl.map (·.num)).Nodup) (hb : b ∈ r.bl) (hi : (i : Int) < b.len) : SlOk size (setF b.num i v pk) (r.wr b i v) := by
  obtain ⟨bs, o, hg⟩ := O.ord
  refine ⟨⟨_, o.write b.num i v, fun d hd z => ?_⟩, O.sw.write o nd hb hi v, fun d hd z => ?_⟩
  · obtain ⟨d0, h0, _, e1, e2, e3⟩ := setF_mem hd
    have : lay (setF b.num i v bs) = lay bs := setF_se b.num i v bs
    rw [this, e2]
    have z' : r.mo = some d.num := z
    rw [e1] at z'
    exact hg d0 h0 z'
  · obtain ⟨d0, h0, _, e1, e2, e3⟩ := setF_mem hd
    have z' : r.mo = some d.num := z
    rw [e1] at z'
    rw [e3]
    exact O.cl d0 h0 z'
theorem hc_fp_wr {c : Hc} {k : Int} {i : Nat} {v : V} {es evs : List V} : ({ c with rc := c.rc.wr k i v, es := es, evs := evs } : Hc).fp = c.fp := by
  show c.h :: c.el :: c.evl :: c.rc.st :: c.rc.sd :: (c.rc.toSc.wr k i v).sfp = _
  rw [Sc.wr_sfp]; rfl
/-- the same write in all three -/
theorem Two.wr {H1 H2 H3 : Hp} {b : Blk V} {i : Nat} {v : V} (T : Two K H c1 c2 r size pk n) (sp : Sp3 c1.fp c2.fp r.fp c1.m) (em : c2.m = c1.m) (hb : b ∈ r.bl) (hi : (i : Int) < b.len) (hv : VOk H v) (ht : ∀ j, tgt H v = some j → j ∈ c1.rc.blks.map (·.num))
    (S1 : SlAt K H1 (r.wr b i v)) (k1 : Kp [r.wl] H H1) (N2 : Nx2 K H1 c1 n (c1.rc.wr b.num i v) H2) (N3 : Nx2 K H2 c2 n (c2.rc.wr b.num i v) H3) :
    ∃ c1' c2', Two K H3 c1' c2' (r.wr b i v) size (setF b.num i v pk) (n + 1) ∧ c1'.fp = c1.fp ∧ c2'.fp = c2.fp ∧ c1'.m = c1.m ∧ c2'.m = c2.m ∧ c1'.h = c1.h ∧ c2'.h = c2.h ∧ c1'.rc.blks.map (·.num) = c1.rc.blks.map (·.num) ∧ Tp H H3 ∧
      ∀ x o, H x = some o → x ∉ c1.fp → x ∉ c2.fp → x ∉ r.fp → H3 x = some o := by
  have hwl : r.wl ∈ r.fp := by unfold Sl.fp; simp
  have t1 : Tp H H1 := by
    refine Tp.of_kp k1 fun x hx => sl_notup T.a3 x ?_
    have : x = r.wl := by simpa using hx
    rw [this]; exact hwl
  obtain ⟨es1, evs1, p1, l1, l1', t2, k2⟩ := N2
  obtain ⟨es2, evs2, p2, l2, l2', t3, k3⟩ := N3
  have t13 : Tp H1 H3 := fun a xs e => t3 _ _ (t2 _ _ e)
  have t03 : Tp H H3 := fun a xs e => t13 _ _ (t1 _ _ e)
  have kall : ∀ x o, H x = some o → x ∉ c1.fp → x ∉ c2.fp → x ∉ r.fp → H3 x = some o := fun x o e n1 n2 n3 =>
    k3 _ _ (k2 _ _ (k1 _ _ e (by simp; intro z; exact n3 (by rw [z]; exact hwl))) n1) n2
  have P13 := p1.frame k3 (fun x hx => by rw [hc_fp_wr] at hx; exact sp.n12 x hx) (by show c1.m ∉ c2.fp; exact sp.m2)
  have rfp : (r.wr b i v).fp = r.fp := rfl
  have S2 : SlAt K H2 (r.wr b i v) := sl_frame S1 k2 fun x hx z => sp.n13 x z hx
  have S3 : SlAt K H3 (r.wr b i v) := sl_frame S2 k3 fun x hx z => sp.n23 x z hx
  have hvn := hv.mono t03
  refine ⟨_, _, ⟨P13, p2, S3, slok_wr T.ok T.a3.nums hb hi, wf_wr T.wf t03 hvn.1 fun j ej => ht j (by rw [← hvn.2]; exact ej), ?_, ?_, T.er, T.en, ?_, T.s1, T.s2, T.sz, ⟨l1, l1'⟩, ⟨l2, l2'⟩, T.nb⟩, hc_fp_wr, hc_fp_wr, rfl, rfl, rfl, rfl, ?_, t03, kall⟩
  · obtain ⟨bs, o⟩ := T.ord
    refine ⟨setF b.num i v bs, ?_⟩
    show Ord size (setF b.num i v pk) (c1.rc.toSc.wr b.num i v).blks _
    rw [Sc.wr_blks]
    exact o.write b.num i v
  · show (c2.rc.toSc.wr b.num i v).blks = (c1.rc.toSc.wr b.num i v).blks
    rw [Sc.wr_blks, Sc.wr_blks, T.eb]
  · show (setF b.num i v r.bl).map Blk.key = (c1.rc.toSc.wr b.num i v).blks.map Blk.key
    rw [Sc.wr_blks]
    exact setF_keys T.ek
  · show ((c1.rc.toSc.wr b.num i v).blks).map (·.num) = _
    rw [Sc.wr_blks, setF_nums]
end
end K96
set_option Elab.async false
set_option linter.all false
set_option maxRecDepth 100000
set_option maxHeartbeats 1000000
namespace K96
open PySem PySem.Spec PyProof.Rows L2
abbrev NL : List Str := ["_law_script", "_law_box_here", "_law_heap", "_law_turn", "_law_event", "_law_other", "_law_slider", "_law_numbers", "_law_number", "_law_index", "_law_value_here", "_law_words", "_law_word", "_law_left", "_law_block", "_law_count"]
theorem sc_Law : FnScope NL ["_law_script"] (defScope s_law) := ⟨rfl, rfl, rfl, by decide +kernel, rfl, by decide +kernel, by decide +kernel⟩
abbrev XL (w : World) (K : PySem.W.Frag) (mg : Str → Option Value) (base : Heap) (cdv : Value) (A : Around) (outer : List Env) (s : Shared) (H : Hp) (E : XK) : Cx := (cxOf CX0 Pg w K mg base NL "law" (defScope s_law) (He.ga K "law") cdv A outer s H E).nox
def XF : XK := fun _ _ _ => False
section
variable {w : World} {K : PySem.W.Frag} {mg : Str → Option Value} {base : Heap}
theorem vals_mv {H : Hp} {r : Sc} (h : ValsOk H r) (xs : List (Blk V)) : ValsOk H (r.mv xs) := fun p hp => by
  obtain ⟨p', hp', _, e2, _⟩ := setAllB_fs xs r.bks p hp
  rw [← e2]; exact h p' hp'
theorem closed_mv {H : Hp} {r : Sc} (h : Closed H r) (xs : List (Blk V)) : Closed H (r.mv xs) := by
  have en : (r.mv xs).blks.map (·.num) = r.blks.map (·.num) := by rw [Sc.mv_blks, setAll_nums]
  refine ⟨fun k hk => by rw [en]; exact h.1 k hk, fun p hp v hv k e => ?_⟩
  obtain ⟨p', hp', _, e2, _⟩ := setAllB_fs xs r.bks p hp
  rw [en]
  exact h.2 p' hp' v (by rw [e2]; exact hv) k e
theorem vals_tp {H H' : Hp} {r : Sc} (h : ValsOk H r) (t : Tp H H') : ValsOk H' r := fun p hp => ⟨(h p hp).1, fun v hv => (((h p hp).2 v hv).mono t).1⟩
theorem closed_tp {H H' : Hp} {r : Sc} (hv : ValsOk H r) (h : Closed H r) (t : Tp H H') : Closed H' r := ⟨h.1, fun p hp v hvm k e => h.2 p hp v hvm k (by rw [← (((hv p hp).2 v hvm).mono t).2]; exact e)⟩
/-! ### the law's end: left, compact, the single slides, the answer -/
theorem law10 (T : Top K mg) {cdv : Value} {A : Around} {outer : List Env} {s : Shared} {H0 : Hp} {E : XK} (hr : Room 9 (A.deeper (envOfC "law" (defScope s_law) s.heap.objs.size (He.ga K "law") cdv))) :
    ∃ t, PSs (XL w K mg base cdv A outer s H0 E) ((defBody s_law).drop 10) t ∧ ∀ (H : Hp) (Q : VK) (c1 c2 : Hc) (r : Sl) (size : Int) (pk : List (Blk V)) (wq nl : Addr) (nums : List Int) (v0 v1 v3 v4 v6 v8 v9 v10 v12 v13 v14 v15 : Option V),
      Two K H c1 c2 r size pk 100 → Sp3 c1.fp c2.fp r.fp c1.m → c2.m = c1.m → Done size pk r → WordsAt H wq size r.bl → H nl = some (.lst (nums.map V.int)) → nums.length = c1.rc.blks.length → wq ∉ c1.fp → wq ∉ c2.fp → nl ∉ c1.fp → nl ∉ c2.fp → (∀ H', Q (.bl true) H') →
      t { nx := fun _ H' => Q .non H', rt := Q } [v0, v1, some (.ref c1.h), v3, v4, some (.ref c2.h), v6, some (.ref nl), v8, v9, v10, some (.ref wq), v12, v13, none, v15] H := by
  obtain ⟨fdL, GL, bL, _⟩ := ok_MLayout (w := w) (base := base) T
  obtain ⟨fdC, GC, bC, _⟩ := ok_MCompact (w := w) (base := base) T
  obtain ⟨fdS, GS, bS, _⟩ := ok_MSlide (w := w) (base := base) T
  obtain ⟨fdW, GW, bW, _⟩ := ok_Words (w := w) (base := base) T
  have hu := hu_of hr
  have hu64 := hr.units
  have hu65 : (A.deeper (envOfC "law" (defScope s_law) s.heap.objs.size (He.ga K "law") cdv)).units + 65 < cLine := by have := hr.un; omega
  refine ⟨_, pss_cons (ps_set (i := 13) sc_Law.nd rfl (.inl rfl) (pe_callB call_len_seq (by rfl) T.fr_len PySem.boot_len (pa_cons
      (pe_lc (own := [("_law_block", 14)]) (g := gName 14) (tt := tTest (tOp (rNotInD K) (tVar 14) (tMeth (He.ga K "ManagedHeap") "layout" (spMLayout K) [] E0 (tVar 2) tNil))) (te := tC (V.int 1)) rfl sc_Law.nd (pi_list (pe_meth0 (pv 5) T.cl_ManagedHeap T.me_ManagedHeap_layout GL (hr.mono (by decide)) bL .nil pass0)) (blkOk_by (own := [("_law_block", 14)]) (N := NL) (sc := defScope s_law) (by decide +kernel))
        (fun _ _ _ _ _ => pg_name (i := 14) sc_Law.nd rfl (Or.inl rfl)) (fun _ _ _ _ _ => pts_one (pt_cmpR (op_notInD hu65) (pv 14) (pe_meth0 (pv 2) T.cl_ManagedHeap T.me_ManagedHeap_layout GL (hr.mono (by decide)) bL .nil pass0) (by rfl))) (fun _ _ _ _ _ => pe_int)) pa_nil)))
    (pss_cons (ps_expr (pe_meth0 (E := XF) (pv 2) T.cl_ManagedHeap T.me_ManagedHeap_compact GC hr bC .nil (passes_call takes0 (fun _ _ _ _ h => h))))
    (pss_cons (ps_set (i := 15) sc_Law.nd rfl (.inl rfl) pe_int)
    (pss_cons (ps_while PassesOwn.never (pt_cmp (pc_notN (pe_meth0 (E := XF) (pv 5) T.cl_ManagedHeap T.me_ManagedHeap_slide GS hr bS .nil (passes_call takes0 (fun _ _ _ _ h => h)))))
      (pss_cons (ps_set (i := 15) sc_Law.nd rfl (.inl rfl) (pe_op op_add (pv 15) pe_int))
      (pss_one (ps_if (pt_cmpR op_gt (pv 15) pe_int (nomark _)) (pss_one (ps_ret pe_bl)) pss_nil))))
    (pss_one (ps_ret (pe_and (pe_cmpR op_eq (pv 13) pe_int (nomark _)) (pe_and (pe_cmpR (op_eqD hu64) (pv 11) (pe_meth0 (pv 2) T.cl_ManagedHeap T.me_ManagedHeap_words GW (hr.mono (by decide)) bW .nil pass0) (nomark _))
      (pe_and (pe_cmpR (op_eqD hu64) (pe_meth0 (pv 5) T.cl_ManagedHeap T.me_ManagedHeap_words GW (hr.mono (by decide)) bW .nil pass0) (pe_meth0 (pv 2) T.cl_ManagedHeap T.me_ManagedHeap_words GW (hr.mono (by decide)) bW .nil pass0) (nomark _))
      (pe_one (pe_cmpR op_le (pv 15) (pe_callB call_len_seq (by rfl) T.fr_len PySem.boot_len (pa_cons (pv 7) pa_nil)) (nomark _))))))))))), ?_⟩
  intro H Q c1 c2 r size pk wq nl nums v0 v1 v3 v4 v6 v8 v9 v10 v12 v13 v14 v15 T2 sp em hD hW hnl hnn w1 w2 q1 q2 hq
  obtain ⟨bs, o⟩ := T2.ord
  obtain ⟨hmo, bsr, orr, hgr⟩ := hD
  obtain ⟨d1, i1⟩ := T2.a1.ins
  obtain ⟨d2, i2⟩ := T2.a2.ins
  have nd1 := T2.a1.st.store.nums
  have ndB := T2.a3.nums
  have hz := T2.sz
  have perm2 : bs.Perm c2.rc.blks := by rw [T2.eb]; exact o.perm
  have hll := lay_len bs
  have hbl12 : (bs.length : Int) ≤ size := by
    have := o.len
    rw [← o.perm.length_eq] at this; exact this
  have hlen1 : c1.rc.blks.length = bs.length := o.perm.length_eq.symm
  -- the fields
  have vB : ∀ b ∈ r.bl, ∀ v ∈ b.fs, VOk H v := fun b hb v hv => by
    obtain ⟨b1, hb1, _, e2⟩ := key_mem T2.ek hb
    exact T2.wf.val b1 hb1 v (by rw [e2]; exact hv)
  have apB : ∀ b ∈ r.bl, ∀ c ∈ r.bl, b.num ≠ c.num → Apart b c := fun b hb c hc e => orr.apart hb hc e
  have nB : r.bl.map (·.num) = c1.rc.blks.map (·.num) := keys_nums T2.ek
  have permB : r.bl.Perm pk := orr.tight hgr
  -- left
  refine ⟨_, rfl, c2.h, d2, _, rfl, i2, mhF_no_layout, c2, bs, size, rfl, T2.a2, perm2, o.chain, fun H1 lp hPL s1 hlp => ?_⟩
  obtain ⟨ts, f1, f2, f3⟩ := hPL
  refine ⟨lp, rfl, ⟨_, SqL.of f1⟩, fun D hD => ?_⟩
  refine lc_list (K := K) (a := lp) (xs := ts.map V.ref) (fun i H2 => Same H1 H2 ∧ H2 D = some (.lst [])) ⟨same_upd hD, upd_same⟩ (fun i H2 _ ⟨s2, _⟩ => SqL.of (s2 _ _ f1)) ?_ ?_
  · rintro i y H2 hy ⟨s2, e2⟩
    obtain ⟨t, x, rfl, ht, hx, htup⟩ := PairsAt.item (p := lp) f2 f3 hy
    have P1 := T2.a1.same (s1.trans s2)
    obtain ⟨dd, ii⟩ := P1.ins
    refine ⟨rfl, _, rfl, _, rfl, c1.h, dd, _, rfl, ii, mhF_no_layout, c1, bs, size, rfl, P1, o.perm, o.chain, fun H3 lq hPL2 s3 hlq => ?_⟩
    obtain ⟨us, g1, g2, g3⟩ := hPL2
    have hsm : ∀ z ∈ (lay bs).map (fun x : PI => PyData.tuple [.int x.1, .int x.2]), small z = true := fun z hz => by
      obtain ⟨y, _, rfl⟩ := List.mem_map.mp hz
      rfl
    refine ⟨.tuple [.int x.1, .int x.2], (lay bs).map fun x : PI => PyData.tuple [.int x.1, .int x.2], .tup (SqT.of (s3 _ _ (s2 _ _ htup))) (.cons (.int _) (.cons (.int _) .nil)), .lst (SqL.of g1) (dp_all (by rw [List.length_map, List.length_map, g2]) fun j z dz h1 h2 => ?_), shaped_small rfl, (shaped_list hsm).1, ?_⟩
    · rw [List.getElem?_map] at h1 h2
      cases e1 : us[j]? with
      | none => rw [e1] at h1; cases h1
      | some u =>
        cases e2 : (lay bs)[j]? with
        | none => rw [e2] at h2; cases h2
        | some y =>
          rw [e1] at h1
          rw [e2] at h2
          have := (Option.some.inj h1).symm
          subst this
          have := (Option.some.inj h2).symm
          subst this
          exact .tup (SqT.of (g3 j u y e1 e2)) (.cons (.int _) (.cons (.int _) .nil))
    · have hany : (((lay bs).map fun x : PI => PyData.tuple [.int x.1, .int x.2]).any fun z => PyData.eqv z (.tuple [.int x.1, .int x.2])) = true :=
        List.any_eq_true.mpr ⟨_, List.mem_map_of_mem (List.mem_of_getElem? hx), SeqAt.eqv_refl _ (small_ok _ rfl).1⟩
      rw [hany]
      exact ⟨_, rfl, iteF ⟨s2.trans s3, s3 _ _ e2⟩⟩
  · rintro H2 ⟨s2, e2⟩
    refine ⟨D, _, rfl, .inl (SqL.of e2), ?_⟩
    have s02 := s1.trans s2
    have P1 := T2.a1.same s02
    obtain ⟨dd, ii⟩ := P1.ins
    -- compact
    refine ⟨_, rfl, c1.h, dd, _, rfl, ii, mhF_no_compact, ?_⟩
    refine cp_ok P1 T2.f1 (by decide) o.perm (by rw [T2.s1]; exact o.chain) (by rw [T2.s1]; omega) fun v H3 hN => ?_
    obtain ⟨es1, evs1, P13, _, _, t23, k23⟩ := hN
    have fp1 : ({ c1 with rc := c1.rc.mv (pack 0 bs), es := es1, evs := evs1 } : Hc).fp = c1.fp := by
      show c1.h :: c1.el :: c1.evl :: (c1.rc.mv (pack 0 bs)).fp = _
      rw [Rc.mv_fp]; rfl
    have t03 : Tp H H3 := fun a xs e => t23 _ _ (s02 _ _ e)
    have b1 : (c1.rc.mv (pack 0 bs)).toSc.blks = setAll (pack 0 bs) c1.rc.blks := Sc.mv_blks c1.rc.toSc (pack 0 bs)
    have e1 : (c1.rc.mv (pack 0 bs)).toSc.blks = r.bl := by
      refine eq_of_perm_nums ?_ ?_ ndB
      · rw [b1]
        have := setAll_to (pack_keys 0 bs) o.perm nd1
        rw [o.pk] at this ⊢
        exact this.trans permB.symm
      · rw [b1, setAll_nums, nB]
    have v1_ : ValsOk H c1.rc.toSc := T2.wf.vals (by omega)
    have cl1 : Closed H c1.rc.toSc := T2.wf.closed
    have v2_ : ValsOk H c2.rc.toSc := fun p hp => by
      have hb : p.2 ∈ c1.rc.blks := by rw [← T2.eb]; exact List.mem_map_of_mem (f := fun q : Addr × Blk V => q.2) hp
      obtain ⟨p1, hp1, ep⟩ := List.mem_map.mp hb
      rw [← ep]; exact v1_ p1 hp1
    have cl2 : Closed H c2.rc.toSc := by
      refine ⟨fun k hk => by rw [T2.eb]; exact cl1.1 k (by rw [← T2.er]; exact hk), fun p hp v hv k e => ?_⟩
      have hb : p.2 ∈ c1.rc.blks := by rw [← T2.eb]; exact List.mem_map_of_mem (f := fun q : Addr × Blk V => q.2) hp
      rw [T2.eb]
      exact T2.wf.ref p.2 hb v hv k e
    have P23 : HeapAt K H3 c2 := (T2.a2.same s02).frame k23 (fun x hx z => sp.n12 x z hx) (by rw [em]; exact sp.m1)
    -- the loop
    refine ⟨fun m σ H4 => ∃ (k : Int) (c2' : Hc) (bs2 : List (Blk V)), m = loose 0 bs2 ∧ σ = [v0, v1, some (.ref c1.h), v3, v4, some (.ref c2.h), v6, some (.ref nl), v8, v9, v10, some (.ref wq), v12, some (.int 0), none, some (.int k)] ∧ HeapAt K H4 c2' ∧ Ord size pk c2'.rc.blks bs2 ∧ c2'.fp = c2.fp ∧ c2'.h = c2.h ∧ c2'.size = size ∧
        (c2'.es.length ≤ 100 + k.toNat ∧ c2'.evs.length ≤ 100 + k.toNat) ∧ 0 ≤ k ∧ k + (loose 0 bs2 : Int) ≤ (bs.length : Int) ∧ c2'.rc.blks.map (·.num) = c1.rc.blks.map (·.num) ∧ ValsOk H4 c2'.rc.toSc ∧ Closed H4 c2'.rc.toSc ∧ Kp c2.fp H3 H4 ∧ Tp H3 H4,
      ⟨_, 0, c2, bs, rfl, rfl, P23, by rw [T2.eb]; exact o, rfl, rfl, T2.s2, T2.f2, by decide, by have := loose_le 0 bs; omega, by rw [T2.eb], vals_tp v2_ t03, closed_tp v2_ cl2 t03, Kp.refl, fun _ _ e => e⟩, ?_⟩
    rintro m σ H4 ⟨k, c2', bs2, rfl, rfl, P24, o2, fp2, eh2, es2, few2, hk0, hkl, hn2, hv2, hc2, k34, t34⟩
    obtain ⟨d4, i4⟩ := P24.ins
    rw [eh2] at i4
    refine ⟨_, rfl, c2.h, d4, _, rfl, i4, mhF_no_slide, ?_⟩
    have key : ∀ Q' : VK, (gap 0 (lay bs2) = none → ∀ H5, Same H4 H5 → Q' .non H5) → (∀ b t, b ∈ c2'.rc.blks → gap 0 (lay bs2) = some (b.start, t) → ∀ x H5, Nx2 K H4 c2' (100 + k.toNat) (c2'.rc.mv [{ b with start := t }]) H5 → Q' (.ref x) H5) → spM0 "slide" K [.ref c2.h] H4 Q' XF := fun Q' a b => by
      rw [← eh2]
      exact sl_ok P24 few2 (by omega) o2.perm (by rw [es2]; exact o2.chain) (by rw [es2]; omega) a b
    refine key _ (fun hg H5 s5 => ?_) (fun b t hb hg x H5 hN => ?_)
    · -- the answer
      refine ⟨_, rfl, iteF ?_⟩
      have perm2' : c2'.rc.blks.Perm pk := o2.tight hg
      have e2' : c2'.rc.blks = r.bl := eq_of_perm_nums (perm2'.trans permB.symm) (hn2.trans nB.symm) ndB
      have k35 : Kp c2.fp H3 H5 := k34.then_same s5
      have t35 : Tp H3 H5 := fun a xs e => s5 _ _ (t34 _ _ e)
      have t05 : Tp H H5 := fun a xs e => t35 _ _ (t03 _ _ e)
      have P15 := P13.frame k35 (fun x hx => by rw [fp1] at hx; exact sp.n12 x hx) (by show c1.m ∉ c2.fp; exact sp.m2)
      have P25 := P24.same s5
      obtain ⟨d5, i5⟩ := P15.ins
      obtain ⟨d6, i6⟩ := P25.ins
      rw [eh2] at i6
      have i5 : H5 c1.h = _ := i5
      have hwq : H5 wq = H wq := by
        obtain ⟨ws, ew, _⟩ := hW
        rw [k35 _ _ (k23 _ _ (s02 _ _ ew) w1) w2, ew]
      have W5 : WordsAt H5 wq size r.bl := by
        obtain ⟨ws, ew, hl, hc⟩ := hW
        exact ⟨ws, by rw [hwq]; exact ew, hl, fun j x hx => (hc j x hx).same vB t05⟩
      have sh := shaped_list (ds := datD H r.bl size) datD_small
      have rng : ∀ b ∈ r.bl, 0 ≤ b.start ∧ b.start + b.len ≤ size := fun b hb => ⟨(orr.mem hb).1, (orr.mem hb).2.2⟩
      have vv1 : ValsOk H5 (c1.rc.mv (pack 0 bs)).toSc := vals_tp (vals_mv v1_ _) t05
      have cc1 : Closed H5 (c1.rc.mv (pack 0 bs)).toSc := closed_tp (vals_mv v1_ _) (closed_mv cl1 _) t05
      have vv2 : ValsOk H5 c2'.rc.toSc := vals_tp hv2 (Tp.of_same s5)
      have cc2 : Closed H5 c2'.rc.toSc := closed_tp hv2 hc2 (Tp.of_same s5)
      refine ⟨_, rfl, rfl, _, rfl, ?_⟩
      rw [decide_eq_true rfl]
      refine iteT ?_
      refine ⟨_, rfl, _, rfl, c1.h, d5, _, rfl, i5, mhF_no_words, { c1 with rc := c1.rc.mv (pack 0 bs), es := es1, evs := evs1 }, rfl, P15, by show 0 ≤ c1.size; rw [T2.s1]; omega, by show c1.size ≤ 25; rw [T2.s1]; omega, fun b hb => ?_, vv1, cc1, fun H6 qa hWA s6 hqa => ?_⟩
      · show 0 ≤ b.start ∧ b.start + b.len ≤ c1.size
        rw [T2.s1]
        have hb' : b ∈ r.bl := by rw [← e1]; exact hb
        exact rng b hb'
      have hWA' : WordsAt H6 qa size r.bl := by
        have : WordsAt H6 qa c1.size (c1.rc.mv (pack 0 bs)).toSc.blks := hWA
        rw [e1, T2.s1] at this; exact this
      have t06 : Tp H H6 := fun a xs e => s6 _ _ (t05 _ _ e)
      have vB5 : ∀ b ∈ r.bl, ∀ v ∈ b.fs, VOk H5 v := fun b hb v hv => ((vB b hb v hv).mono t05).1
      refine ⟨_, _, words_dp vB ndB apB t06 (W5.same vB5 s6), words_dp vB ndB apB t06 hWA', sh.1, sh.1, _, rfl, ?_⟩
      rw [sh.2]
      refine iteT ?_
      refine ⟨_, rfl, c2.h, d6, _, rfl, s6 _ _ i6, mhF_no_words, c2', by rw [eh2]; rfl, P25.same s6, by rw [es2]; omega, by rw [es2]; omega, fun b hb => ?_, vals_tp vv2 (Tp.of_same s6), closed_tp vv2 cc2 (Tp.of_same s6), fun H7 qb hWB s7 hqb => ?_⟩
      · rw [es2]
        exact rng b (by rw [← e2']; exact hb)
      rw [e2', es2] at hWB
      have s57 := s6.trans s7
      have t07 : Tp H H7 := fun a xs e => s7 _ _ (t06 _ _ e)
      refine ⟨_, rfl, c1.h, d5, _, rfl, s57 _ _ i5, mhF_no_words, { c1 with rc := c1.rc.mv (pack 0 bs), es := es1, evs := evs1 }, rfl, P15.same s57, by show 0 ≤ c1.size; rw [T2.s1]; omega, by show c1.size ≤ 25; rw [T2.s1]; omega, fun b hb => ?_, vals_tp vv1 (Tp.of_same s57), closed_tp vv1 cc1 (Tp.of_same s57), fun H8 qc hWC s8 hqc => ?_⟩
      · show 0 ≤ b.start ∧ b.start + b.len ≤ c1.size
        rw [T2.s1]
        have hb' : b ∈ r.bl := by rw [← e1]; exact hb
        exact rng b hb'
      have hWC' : WordsAt H8 qc size r.bl := by
        have : WordsAt H8 qc c1.size (c1.rc.mv (pack 0 bs)).toSc.blks := hWC
        rw [e1, T2.s1] at this; exact this
      have t08 : Tp H H8 := fun a xs e => s8 _ _ (t07 _ _ e)
      have vB7 : ∀ b ∈ r.bl, ∀ v ∈ b.fs, VOk H7 v := fun b hb v hv => ((vB b hb v hv).mono t07).1
      refine ⟨_, _, words_dp vB ndB apB t08 (hWB.same vB7 s8), words_dp vB ndB apB t08 hWC', sh.1, sh.1, _, rfl, ?_⟩
      rw [sh.2]
      refine iteT ?_
      have hnl8 : H8 nl = some (.lst (nums.map V.int)) := s8 _ _ (s7 _ _ (s6 _ _ (k35 _ _ (k23 _ _ (s02 _ _ hnl) q1) q2)))
      refine ⟨_, rfl, _, rfl, nl, _, rfl, .inl (SqL.of hnl8), _, _, rfl, rfl, ?_⟩
      rw [List.length_map]
      show Q (.bl (decide (k ≤ (nums.length : Int)))) H8
      rw [decide_eq_true (by omega : k ≤ (nums.length : Int))]
      exact hq _
    · -- one block more
      obtain ⟨b', hb', x1, x2, x3, x4, x5, x6⟩ := o2.slide P24.st.store.nums hg
      have : b' = b := o2.starts hb' hb x1
      subst this
      obtain ⟨es3, evs3, P25, l3, l3', t45, k45⟩ := hN
      refine ⟨_, rfl, iteT ?_⟩
      have b2 : (c2'.rc.mv [{ b' with start := t }]).toSc.blks = setS b'.num t c2'.rc.blks := Sc.mv_blks c2'.rc.toSc [{ b' with start := t }]
      have fp3 : ({ c2' with rc := c2'.rc.mv [{ b' with start := t }], es := es3, evs := evs3 } : Hc).fp = c2.fp := by
        rw [← fp2]
        show c2'.h :: c2'.el :: c2'.evl :: (c2'.rc.mv [{ b' with start := t }]).fp = _
        rw [Rc.mv_fp]; rfl
      have hll2 := loose_le 0 bs2
      refine ⟨fun σ' H' => ∃ (k : Int) (c2' : Hc) (bs3 : List (Blk V)), loose 0 bs3 < loose 0 bs2 ∧ σ' = [v0, v1, some (.ref c1.h), v3, v4, some (.ref c2.h), v6, some (.ref nl), v8, v9, v10, some (.ref wq), v12, some (.int 0), none, some (.int k)] ∧ HeapAt K H' c2' ∧ Ord size pk c2'.rc.blks bs3 ∧ c2'.fp = c2.fp ∧ c2'.h = c2.h ∧ c2'.size = size ∧
        (c2'.es.length ≤ 100 + k.toNat ∧ c2'.evs.length ≤ 100 + k.toNat) ∧ 0 ≤ k ∧ k + (loose 0 bs3 : Int) ≤ (bs.length : Int) ∧ c2'.rc.blks.map (·.num) = c1.rc.blks.map (·.num) ∧ ValsOk H' c2'.rc.toSc ∧ Closed H' c2'.rc.toSc ∧ Kp c2.fp H3 H' ∧ Tp H3 H', ?_, ?_⟩
      · rintro σ' H' ⟨k', c3, bs3, hm, rest⟩
        exact ⟨_, hm, k', c3, bs3, rfl, rest⟩
      · refine ⟨_, rfl, _, _, rfl, rfl, ?_⟩
        refine ⟨_, rfl, _, _, rfl, rfl, _, rfl, ?_⟩
        rw [decide_eq_false (by omega : ¬ (30 : Int) < k + 1)]
        refine iteF ⟨k + 1, { c2' with rc := c2'.rc.mv [{ b' with start := t }], es := es3, evs := evs3 }, setS b'.num t bs2, by omega, rfl, P25, ?_, fp3, eh2, es2, ⟨by show es3.length ≤ _; omega, by show evs3.length ≤ _; omega⟩, by omega, by omega, ?_, vals_tp (vals_mv hv2 _) t45, closed_tp (vals_mv hv2 _) (closed_mv hc2 _) t45, k34.trans (k45.mono fun x hx => by rw [← fp2]; exact hx), fun a xs e => t45 _ _ (t34 _ _ e)⟩
        · show Ord size pk (c2'.rc.mv [{ b' with start := t }]).toSc.blks _
          rw [b2]; exact x4
        · show ((c2'.rc.mv [{ b' with start := t }]).toSc.blks).map (·.num) = _
          rw [b2, setS_nums]; exact hn2
end
end K96
set_option Elab.async false
set_option linter.all false
set_option maxRecDepth 100000
set_option maxHeartbeats 1000000
namespace K96
open PySem PySem.Spec PyProof.Rows L2
theorem Two.mono {K : PySem.W.Frag} {H : Hp} {c1 c2 : Hc} {r : Sl} {size : Int} {pk : List (Blk V)} {n m : Nat} (T : Two K H c1 c2 r size pk n) (h : n ≤ m) : Two K H c1 c2 r size pk m := by
  obtain ⟨a1, a2, a3, a4, a5, a6, a7, a8, a9, a10, a11, a12, a13, a14, a15, a16⟩ := T
  exact ⟨a1, a2, a3, a4, a5, a6, a7, a8, a9, a10, a11, a12, a13, ⟨by omega, by omega⟩, ⟨by omega, by omega⟩, a16⟩
section
variable {w : World} {K : PySem.W.Frag} {mg : Str → Option Value} {base : Heap}
theorem law7 (T : Top K mg) {cdv : Value} {A : Around} {outer : List Env} {s : Shared} {H0 : Hp} {E : XK} (hr : Room 9 (A.deeper (envOfC "law" (defScope s_law) s.heap.objs.size (He.ga K "law") cdv))) :
    ∃ t, PSs (XL w K mg base cdv A outer s H0 E) ((defBody s_law).drop 7) t ∧ ∀ (H : Hp) (Q : VK) (c1 c2 : Hc) (r : Sl) (size : Int) (pk : List (Blk V)) (nl : Addr) (nums : List Int) (v0 v1 v3 v4 v8 v9 v10 : Option V),
      Two K H c1 c2 r size pk 100 → Sp3 c1.fp c2.fp r.fp c1.m → c2.m = c1.m → H nl = some (.lst (nums.map V.int)) → nums.length = c1.rc.blks.length → nl ∉ c1.fp → nl ∉ c2.fp → nl ∉ r.fp → (∀ H', Q (.bl true) H') →
      t { nx := fun _ H' => Q .non H', rt := Q } [v0, v1, some (.ref c1.h), v3, v4, some (.ref c2.h), some (.ref r.sl), some (.ref nl), v8, v9, v10, none, none, none, none, none] H := by
  obtain ⟨fdW, GW, bW, _⟩ := ok_Work (w := w) (base := base) T
  obtain ⟨t10, h10, k10⟩ := law10 (w := w) (base := base) (E := E) (H0 := H0) (outer := outer) T hr
  have hu := hu_of hr
  refine ⟨_, pss_cons (ps_expr (pe_meth (pv 6) T.cl_Slider T.me_Slider_work GW (hr.mono (by decide)) bW .nil pass0 (pa_cons pe_int pa_nil)))
    (pss_cons (ps_set (i := 11) sc_Law.nd rfl (.inl rfl) (pe_lst pa_nil))
    (pss_cons (ps_for PassesOwn.never rfl (pi_list (pe_fld (pv 6) rfl)) (pg_name (i := 12) sc_Law.nd rfl (.inl rfl))
      (pss_cons (ps_if (pt_val (pe_callB call_isi (by rfl) T.fr_isinstance (by decide +kernel) (pa_cons (pv 12) (pa_cons (pe_bltn (v := .ty "tuple") (by rfl) T.fr_tuple (by decide +kernel) rfl) pa_nil))))
        (pss_one (ps_set (i := 12) sc_Law.nd rfl (.inl rfl) (pe_tup (pa_cons pe_str (pa_cons (pe_dget hu (pe_fld (pv 6) rfl) (pe_ix ix_tup (pv 12) pe_int (fun _ _ => rfl)) (fun _ _ => rfl)) pa_nil))))) pss_nil)
      (pss_one (ps_expr (pe_bm PySem.F.plainAttrs_list PySem.F.slot_list_append PySem.F.type_list_append mt_append (pv 11) (pa_cons (pv 12) pa_nil))))))
    h10)), ?_⟩
  intro H Q c1 c2 r size pk nl nums v0 v1 v3 v4 v8 v9 v10 T2 sp em hnl hnn n1 n2 n3 hq
  have hz := T2.sz
  obtain ⟨dx, i1⟩ := T2.a3.ins
  refine ⟨_, rfl, r.sl, dx, _, rfl, i1, slF_no_work, r, size, 200, pk, rfl, T2.a3, T2.ok, by omega, by omega, fun r' H1 kk S1 O1 M1 hD k1 => ?_⟩
  have hmu : r.mu < 200 := by
    obtain ⟨bs, o, _⟩ := T2.ok.ord
    have h1 := o.wsum (by omega)
    have h2 : size * size ≤ 144 := by
      have : size * size ≤ 12 * 12 := Int.mul_le_mul (by omega) (by omega) (by omega) (by omega)
      omega
    unfold Sl.mu
    split <;> omega
  obtain ⟨T1, fp1, t1⟩ := T2.work sp em S1 O1 M1 k1
  have hDn := hD hmu
  have hmo := hDn.1
  obtain ⟨_, bsr, orr, hgr⟩ := id hDn
  have hsub : ∀ b ∈ r.mfp, b ∈ r.fp := fun b hb => by
    unfold Sl.mfp at hb
    unfold Sl.fp
    simp only [List.mem_cons, List.not_mem_nil, or_false] at hb ⊢
    rcases hb with z | z | z
    · exact .inl z
    · exact .inr (.inl z)
    · exact .inr (.inr (.inl z))
  have hnl1 : H1 nl = some (.lst (nums.map V.int)) := k1 _ _ hnl fun z => n3 (hsub _ z)
  have W : SW (.str "free") size r'.bl none r'.t r'.c r'.ws := by rw [← hmo]; exact O1.sw
  have ndB := S1.nums
  have vB : ∀ b ∈ r'.bl, ∀ v ∈ b.fs, VOk H1 v := fun b hb v hv => by
    obtain ⟨b1, hb1, _, e2⟩ := key_mem T1.ek hb
    exact T1.wf.val b1 hb1 v (by rw [e2]; exact hv)
  have rB : ∀ b ∈ r'.bl, ∀ v ∈ b.fs, ∀ k, tgt H1 v = some k → ∃ b' ∈ r'.bl, b'.num = k := fun b hb v hv k e => by
    obtain ⟨b1, hb1, _, e2⟩ := key_mem T1.ek hb
    have := T1.wf.ref b1 hb1 v (by rw [e2]; exact hv) k e
    have h3 : k ∈ r'.bl.map (·.num) := by rw [keys_nums T1.ek]; exact this
    obtain ⟨b', hb', e'⟩ := List.mem_map.mp h3
    exact ⟨b', hb', e'⟩
  refine ⟨Nat.zero_le _, fun wq hwq => ?_⟩
  have s0 := same_upd (o := .lst []) hwq
  obtain ⟨dx', i1'⟩ := S1.ins
  have esl : r'.sl = r.sl := M1.1
  refine ⟨_, rfl, r.sl, _, dx', _, _, rfl, by rw [← esl]; exact s0 _ _ i1', T.cl_Slider, T.na_Slider_words, slF_words, r'.wl, rfl, ⟨_, SqL.of (s0 _ _ S1.wls)⟩, ?_⟩
  refine for_list (K := K) (a := r'.wl) (xs := r'.ws) (fun i σ H3 => ∃ (v12 : Option V) (ws : List V), σ = [v0, v1, some (.ref c1.h), v3, v4, some (.ref c2.h), some (.ref r.sl), some (.ref nl), v8, v9, v10, some (.ref wq), v12, none, none, none] ∧ Same H1 H3 ∧ H3 wq = some (.lst ws) ∧ ws.length = i ∧ ∀ (j : Nat) x, ws[j]? = some x → CellIs H3 r'.bl r'.bl j x)
    ⟨none, [], rfl, s0, upd_same, rfl, fun j x h => by simp at h⟩ (fun i σ H3 _ ⟨_, _, _, s3, _⟩ => SqL.of (s3 _ _ S1.wls)) ?_ ?_
  · rintro i x σ H3 hx ⟨v12, ws, rfl, s3, e3, hl, hc⟩
    have hi : i < r'.ws.length := (List.getElem?_eq_some_iff.mp hx).1
    have hwl : (r'.ws.length : Int) = size := W.len
    have vB3 : ∀ b ∈ r'.bl, ∀ v ∈ b.fs, VOk H3 v := fun b hb v hv => ((vB b hb v hv).mono (Tp.of_same s3)).1
    -- what the append does
    have app : ∀ (y : V) (H4 : Hp), Same H3 H4 → CellIs H4 r'.bl r'.bl i y → tDrop (tBM K "list" rAppend (tVar 11) (tCons (tVar 12) tNil))
        { nx := fun σ H3 => ∃ (v12 : Option V) (ws : List V), σ = [v0, v1, some (.ref c1.h), v3, v4, some (.ref c2.h), some (.ref r.sl), some (.ref nl), v8, v9, v10, some (.ref wq), v12, none, none, none] ∧ Same H1 H3 ∧ H3 wq = some (.lst ws) ∧ ws.length = i + 1 ∧ ∀ (j : Nat) x, ws[j]? = some x → CellIs H3 r'.bl r'.bl j x, rt := Q }
        [v0, v1, some (.ref c1.h), v3, v4, some (.ref c2.h), some (.ref r.sl), some (.ref nl), v8, v9, v10, some (.ref wq), some y, none, none, none] H4 := fun y H4 s4 hy => by
      have e4 := s4 _ _ e3
      refine ⟨_, rfl, .inl ⟨rfl, _, SqL.of e4⟩, _, rfl, wq, ws, y, rfl, rfl, e4, small1000 (by omega), ?_⟩
      have t45 : Tp H4 (upd H4 wq (.lst (ws ++ [y]))) := fun a xs e => by
        rw [upd_ne fun z => by rw [z, e4] at e; cases e]; exact e
      have vB4 : ∀ b ∈ r'.bl, ∀ v ∈ b.fs, VOk H4 v := fun b hb v hv => ((vB3 b hb v hv).mono (Tp.of_same s4)).1
      refine ⟨_, ws ++ [y], rfl, fun b o e => by rw [upd_ne (ne_of_none e hwq)]; exact s4 _ _ (s3 _ _ e), upd_same, by rw [List.length_append]; simp only [List.length_cons, List.length_nil]; omega, fun j z hz => ?_⟩
      by_cases hj : j < ws.length
      · rw [List.getElem?_append_left hj] at hz
        exact ((hc j z hz).same vB3 (Tp.of_same s4)).same vB4 t45
      · rw [List.getElem?_append_right (by omega)] at hz
        have hj0 : j - ws.length = 0 := by
          cases hq0 : j - ws.length with
          | zero => rfl
          | succ n => rw [hq0] at hz; simp at hz
        rw [hj0] at hz
        have e1 : y = z := by simpa using hz
        have e2 : j = i := by omega
        subst e1; subst e2
        exact hy.same vB4 t45
    by_cases hb : ∃ b ∈ r'.bl, b.start ≤ (i : Int) ∧ (i : Int) < b.start + b.len
    · obtain ⟨b, hbm, b0, b1⟩ := hb
      have hlb : b.len = (b.fs.length : Int) := rfl
      have hi2 : ((i : Int) - b.start).toNat < b.fs.length := by omega
      have hv : b.fs[((i : Int) - b.start).toNat]? = some b.fs[((i : Int) - b.start).toNat] := List.getElem?_eq_getElem hi2
      have hat := W.at_ b hbm _ _ hv
      have hps : (pos none r'.t r'.c b ((i : Int) - b.start).toNat).toNat = i := by
        unfold pos; rw [if_neg (by simp)]; omega
      rw [hps, hx] at hat
      have ex : x = b.fs[((i : Int) - b.start).toNat] := Option.some.inj hat
      have hvm : x ∈ b.fs := by rw [ex]; exact List.getElem_mem hi2
      rw [← ex] at hv
      have cell : ∀ (y : V) (H4 : Hp), WordIs H4 r'.bl x y → CellIs H4 r'.bl r'.bl i y := fun y H4 hw => .inl ⟨b, hbm, _, x, hv, by omega, hw⟩
      have hx1 := vB b hbm x hvm
      have hx3 := hx1.mono (Tp.of_same s3)
      rcases hx3.1 with rfl | ⟨m, rfl⟩ | ⟨t, k, rfl, e⟩
      · refine ⟨_, rfl, _, _, _, _, false, rfl, .ty "tuple", .base .non, kit_ty (by decide +kernel), false, rfl, ?_⟩
        exact iteF (app .non H3 Same.refl (cell _ _ (.inl ⟨rfl, rfl⟩)))
      · refine ⟨_, rfl, _, _, _, _, false, rfl, .ty "tuple", .base (.int m), kit_ty (by decide +kernel), false, rfl, ?_⟩
        exact iteF (app _ H3 Same.refl (cell _ _ (.inl ⟨rfl, rfl⟩)))
      · refine ⟨_, rfl, _, _, _, _, true, rfl, .ty "tuple", .base (.tup e), kit_ty (by decide +kernel), true, rfl, ?_⟩
        refine iteT ?_
        obtain ⟨b', hb', eb'⟩ := rB b hbm (.ref t) hvm k (by rw [← hx3.2]; exact tgt_ref e)
        subst eb'
        refine ⟨_, rfl, r.sl, _, dx', _, _, rfl, by rw [← esl]; exact s3 _ _ i1', T.cl_Slider, T.na_Slider_starts, slF_starts, _, rfl, t, _, _, _, rfl, rfl, SqT.of e, atI_nat (j := 1) rfl, r'.sd, .int b'.start, rfl, by rw [← valV_sD ndB hb']; exact DGet.k (k := Sum.inl b'.num) (s3 _ _ S1.sts), (by show 2 ≤ sizeLine; decide), fun u hu' => ?_⟩
        have s4 := same_upd (o := .tup [.str "reference", .int b'.start]) hu'
        exact app _ _ s4 (cell _ _ (.inr ⟨b', u, tgt_ref (s4 _ _ e), hb', rfl, upd_same⟩))
    · have hfr := W.fre i (by omega) (fun b hbm z => hb ⟨b, hbm, z⟩) fun z => absurd rfl z
      rw [hx] at hfr
      have ex : x = .str "free" := Option.some.inj hfr
      subst ex
      refine ⟨_, rfl, _, _, _, _, false, rfl, .ty "tuple", .base (.str _), kit_ty (by decide +kernel), false, rfl, ?_⟩
      exact iteF (app _ H3 Same.refl (.inr ⟨fun b hbm z => hb ⟨b, hbm, z⟩, rfl⟩))
  · rintro σ H3 ⟨v12, ws, rfl, s3, e3, hl, hc⟩
    have hw0 : ∀ b o, H1 b = some o → b ≠ wq := fun b o e => ne_of_none e hwq
    have sp' : Sp3 c1.fp c2.fp r'.fp c1.m := by rw [fp1]; exact sp
    refine k10 H3 Q c1 c2 r' size pk wq nl nums v0 v1 v3 v4 _ v8 v9 v10 v12 none none none (T1.same s3) sp' em hDn ⟨ws, e3, by rw [hl]; exact W.len, hc⟩ (s3 _ _ hnl1) hnn (fun z => ?_) (fun z => ?_) n1 n2 hq
    · obtain ⟨o, e⟩ := T1.a1.some_ wq z
      exact hw0 _ _ e rfl
    · obtain ⟨o, e⟩ := T1.a2.some_ wq z
      exact hw0 _ _ e rfl
end
end K96
set_option Elab.async false
set_option linter.all false
set_option maxRecDepth 100000
set_option maxHeartbeats 1000000
namespace K96
open PySem PySem.Spec PyProof.Rows L2
theorem sp_cast {sp : Sp} {vs vs' : List V} {H : Hp} {Q : VK} {E : XK} (e : vs = vs') (h : sp vs' H Q E) : sp vs H Q E := e ▸ h
theorem Bx.tp {H H' : Hp} {bx p : Addr} (h : Bx H bx p) (k : Kp [bx] H H') : Tp H H' := Tp.of_kp k fun b hb xs e => by
  obtain ⟨_, _, e1, _⟩ := h
  have : b = bx := by simpa using hb
  rw [this, e1] at e; cases e
/-- apart from all three -/
def Off (c1 c2 : Hc) (r : Sl) (x : Addr) : Prop := x ∉ c1.fp ∧ x ∉ c2.fp ∧ x ∉ r.fp ∧ x ≠ c1.m
/-- the second loop's state -/
structure St2 (K : PySem.W.Frag) (c1 c2 : Hc) (r : Sl) (size : Int) (bx p nl : Addr) (nums : List Int) (H : Hp) (c1' c2' : Hc) (r' : Sl) (pk : List (Blk V)) (n : Nat) : Prop where
  two : Two K H c1' c2' r' size pk n
  fp1 : c1'.fp = c1.fp
  fp2 : c2'.fp = c2.fp
  fp3 : r'.fp = r.fp
  m1 : c1'.m = c1.m
  m2 : c2'.m = c2.m
  h1 : c1'.h = c1.h
  h2 : c2'.h = c2.h
  sl : r'.sl = r.sl
  nm : c1'.rc.blks.map (·.num) = nums
  box : Bx H bx p
  lst : H nl = some (.lst (nums.map V.int))
section
variable {K : PySem.W.Frag} {c1 c2 : Hc} {r : Sl} {size : Int} {bx p nl : Addr} {nums : List Int} {H H' : Hp} {c1' c2' : Hc} {r' : Sl} {pk : List (Blk V)} {n : Nat}
theorem St2.draw (S : St2 K c1 c2 r size bx p nl nums H c1' c2' r' pk n) (em : c2.m = c1.m) (ob : Off c1 c2 r bx) (hne : bx ≠ nl) (k : Kp [bx] H H') (hB : Bx H' bx p) : St2 K c1 c2 r size bx p nl nums H' c1' c2' r' pk n := by
  obtain ⟨a1, a2, a3, a4, a5, a6, a7, a8, a9, a10, a11, a12⟩ := S
  refine ⟨a1.frame k (a11.tp k) (fun b hb z => ?_) ?_ (fun b hb z => ?_) ?_ (fun b hb z => ?_), a2, a3, a4, a5, a6, a7, a8, a9, a10, hB, k _ _ a12 (by simp; exact Ne.symm hne)⟩
  · have : b = bx := by simpa using z
    exact ob.1 (by rw [← a2, ← this]; exact hb)
  · rw [a5]; simp; exact Ne.symm ob.2.2.2
  · have : b = bx := by simpa using z
    exact ob.2.1 (by rw [← a3, ← this]; exact hb)
  · rw [a6, em]; simp; exact Ne.symm ob.2.2.2
  · have : b = bx := by simpa using z
    exact ob.2.2.1 (by rw [← a4, ← this]; exact hb)
theorem St2.same (S : St2 K c1 c2 r size bx p nl nums H c1' c2' r' pk n) (k : Same H H') : St2 K c1 c2 r size bx p nl nums H' c1' c2' r' pk n := by
  obtain ⟨a1, a2, a3, a4, a5, a6, a7, a8, a9, a10, a11, a12⟩ := S
  exact ⟨a1.same k, a2, a3, a4, a5, a6, a7, a8, a9, a10, a11.same k, k _ _ a12⟩
end
section
variable {w : World} {K : PySem.W.Frag} {mg : Str → Option Value} {base : Heap}
theorem law6 (T : Top K mg) {cdv : Value} {A : Around} {outer : List Env} {s : Shared} {H0 : Hp} {E : XK} (hr : Room 9 (A.deeper (envOfC "law" (defScope s_law) s.heap.objs.size (He.ga K "law") cdv))) :
    ∃ t, PSs (XL w K mg base cdv A outer s H0 E) ((defBody s_law).drop 6) t ∧ ∀ (H : Hp) (Q : VK) (c1 c2 : Hc) (r : Sl) (size : Int) (pk : List (Blk V)) (bx p nl : Addr) (nums : List Int) (v0 v3 v4 : Option V),
      St2 K c1 c2 r size bx p nl nums H c1 c2 r pk 20 → Sp3 c1.fp c2.fp r.fp c1.m → c2.m = c1.m → Off c1 c2 r bx → Off c1 c2 r p → Off c1 c2 r nl → bx ≠ nl → (∀ H', Q (.bl true) H') →
      t { nx := fun _ H' => Q .non H', rt := Q } [v0, some (.ref bx), some (.ref c1.h), v3, v4, some (.ref c2.h), some (.ref r.sl), some (.ref nl), none, none, none, none, none, none, none, none] H := by
  obtain ⟨fdW, GW, bW, _⟩ := ok_Work (w := w) (base := base) T
  obtain ⟨fdS, GS, bS, _⟩ := ok_SlWrite (w := w) (base := base) T
  obtain ⟨fdM, GM, bM, _⟩ := ok_MWrite (w := w) (base := base) T
  obtain ⟨fdD, GD0, bD, kD⟩ := ok_Draw (w := w) (base := base) T
  have GD := GD0.mono (by decide : 1 ≤ 9)
  obtain ⟨t7, h7, k7⟩ := law7 (w := w) (base := base) (E := E) (H0 := H0) (outer := outer) T hr
  have hu := hu_of hr
  refine ⟨_, pss_cons (ps_for PassesOwn.never rfl (pi_range1 (by rfl) T.fr_range (pa_cons pe_int pa_nil)) (pg_name (i := 3) sc_Law.nd rfl (.inl rfl))
      (pss_cons (ps_expr (pe_meth (pv 6) T.cl_Slider T.me_Slider_work GW (hr.mono (by decide)) bW .nil pass0 (pa_cons (pe_call GD hr (by rfl) T.mg__law_draw kD bD .nil pass0 (pa_cons (pv 1) (pa_cons pe_int pa_nil))) pa_nil)))
      (pss_one (ps_if (pt_truth (pv 7) (by intro _; rfl))
        (pss_cons (ps_set (i := 8) sc_Law.nd rfl (.inl rfl) (pe_ix ix_list (pv 7) (pe_op op_mod (pe_callTy call_int1 (by rfl) T.fr_int (by decide +kernel) (pa_cons (pe_call GD hr (by rfl) T.mg__law_draw kD bD .nil pass0 (pa_cons (pv 1) (pa_cons pe_int pa_nil))) pa_nil)) (pe_callB call_len_seq (by rfl) T.fr_len PySem.boot_len (pa_cons (pv 7) pa_nil))) (fun _ _ => rfl)))
        (pss_cons (ps_set (i := 9) sc_Law.nd rfl (.inl rfl) (pe_op op_mod (pe_callTy call_int1 (by rfl) T.fr_int (by decide +kernel) (pa_cons (pe_call GD hr (by rfl) T.mg__law_draw kD bD .nil pass0 (pa_cons (pv 1) (pa_cons pe_int pa_nil))) pa_nil)) (pe_callB call_len_seq (by rfl) T.fr_len PySem.boot_len (pa_cons (pe_dget hu (pe_fld (pe_fld (pe_fld (pv 2) rfl) rfl) rfl) (pv 8) (fun _ _ => rfl)) pa_nil))))
        (pss_cons (ps_set (i := 10) sc_Law.nd rfl (.inl rfl) (pe_ix ix_list (pe_lst (pa_cons pe_non (pa_cons (pe_call GD hr (by rfl) T.mg__law_draw kD bD .nil pass0 (pa_cons (pv 1) (pa_cons pe_int pa_nil))) (pa_cons (pe_tup (pa_cons pe_str (pa_cons (pe_ix ix_list (pv 7) pe_int (fun _ _ => rfl)) pa_nil))) pa_nil)))) (pe_call GD hr (by rfl) T.mg__law_draw kD bD .nil pass0 (pa_cons (pv 1) (pa_cons pe_int pa_nil))) (fun _ _ => rfl)))
        (pss_cons (ps_expr (pe_meth (pv 6) T.cl_Slider T.me_Slider_write GS (hr.mono (by decide)) bS .nil pass0 (pa_cons (pv 8) (pa_cons (pv 9) (pa_cons (pv 10) pa_nil)))))
        (pss_cons (ps_expr (pe_meth (E := XF) (pv 2) T.cl_ManagedHeap T.me_ManagedHeap_write GM hr bM .nil (passes_call takes0 (fun _ _ _ _ h => h)) (pa_cons (pv 8) (pa_cons (pv 9) (pa_cons (pv 10) pa_nil)))))
        (pss_one (ps_expr (pe_meth (E := XF) (pv 5) T.cl_ManagedHeap T.me_ManagedHeap_write GM hr bM .nil (passes_call takes0 (fun _ _ _ _ h => h)) (pa_cons (pv 8) (pa_cons (pv 9) (pa_cons (pv 10) pa_nil)))))))))))
        pss_nil)))) h7, ?_⟩
  intro H Q c1 c2 r size pk bx p nl nums v0 v3 v4 S sp em ob op on hne hq
  refine ⟨20, rfl, by decide, by decide, ?_⟩
  refine for_range (lo := 0) (n := 20) (fun i σ H2 => ∃ (c1' c2' : Hc) (r' : Sl) (pk' : List (Blk V)) (v3 v8 v9 v10 : Option V), σ = [v0, some (.ref bx), some (.ref c1.h), v3, v4, some (.ref c2.h), some (.ref r.sl), some (.ref nl), v8, v9, v10, none, none, none, none, none] ∧ St2 K c1 c2 r size bx p nl nums H2 c1' c2' r' pk' (20 + i))
    ⟨c1, c2, r, pk, v3, none, none, none, rfl, S⟩ ?_ ?_
  · rintro i σ H2 hi ⟨c1', c2', r', pk', v3', v8, v9, v10, rfl, S2⟩
    have hz := S2.two.sz
    obtain ⟨dx, i1⟩ := S2.two.a3.ins
    rw [S2.sl] at i1
    -- work
    refine ⟨_, rfl, r.sl, dx, _, rfl, i1, slF_no_work, _, rfl, bx, p, 3, rfl, S2.box, by decide, fun d H3 _ _ hB3 k3 => ?_⟩
    have S3 := S2.draw em ob hne k3 hB3
    refine ⟨r', size, d, pk', by rw [S2.sl]; rfl, S3.two.a3, S3.two.ok, by omega, by omega, fun r4 H4 kk SA4 O4 M4 _ k4 => ?_⟩
    have spS : Sp3 c1'.fp c2'.fp r'.fp c1'.m := by rw [S2.fp1, S2.fp2, S2.fp3, S2.m1]; exact sp
    have emS : c2'.m = c1'.m := by rw [S2.m1, S2.m2]; exact em
    obtain ⟨T4, fp4, t4⟩ := S3.two.work spS emS SA4 O4 M4 k4
    have hsub : ∀ x, x ∉ r.fp → x ∉ r'.mfp := fun x hx z => hx (by
      rw [← S2.fp3]
      unfold Sl.mfp at z
      unfold Sl.fp
      simp only [List.mem_cons, List.not_mem_nil, or_false] at z ⊢
      rcases z with z | z | z
      · exact .inl z
      · exact .inr (.inl z)
      · exact .inr (.inr (.inl z)))
    have S4 : St2 K c1 c2 r size bx p nl nums H4 c1' c2' r4 pk' (20 + i) :=
      ⟨T4, S2.fp1, S2.fp2, fp4.trans S2.fp3, S2.m1, S2.m2, S2.h1, S2.h2, M4.1.trans S2.sl, S2.nm, hB3.frame k4 (hsub _ ob.2.2.1) (hsub _ op.2.2.1), k4 _ _ S3.lst (hsub _ on.2.2.1)⟩
    refine ⟨_, rfl, !(nums.map V.int).isEmpty, .inl ⟨_, SqL.of S4.lst, rfl⟩, ?_⟩
    by_cases hnn : nums = []
    · have he : (!(nums.map V.int).isEmpty) = false := by rw [hnn]; rfl
      rw [he]
      exact iteF ⟨c1', c2', r4, pk', _, v8, v9, v10, rfl, by have := S4; exact ⟨this.two.mono (by omega), this.fp1, this.fp2, this.fp3, this.m1, this.m2, this.h1, this.h2, this.sl, this.nm, this.box, this.lst⟩⟩
    have hn0 : 0 < nums.length := List.length_pos_iff.mpr hnn
    have hne1 : (!(nums.map V.int).isEmpty) = true := by
      cases nums with
      | nil => exact absurd rfl hnn
      | cons a b => rfl
    rw [hne1]
    refine iteT ?_
    -- number
    refine ⟨_, rfl, _, rfl, bx, p, 900, rfl, S4.box, by decide, fun d1 H5 _ _ hB5 k5 => ?_⟩
    have S5 := S4.draw em ob hne k5 hB5
    have hl1 : ((nums.map V.int).length : Int) = (nums.length : Int) := by rw [List.length_map]
    obtain ⟨ja, hja⟩ := Int.eq_ofNat_of_zero_le (Int.emod_nonneg d1 (b := (nums.length : Int)) (by omega))
    have hjl : ja < nums.length := by
      have := Int.emod_lt_of_pos d1 (b := (nums.length : Int)) (by omega)
      omega
    have hat1 : atI (nums.map V.int) (d1 % ((nums.map V.int).length : Int)) = some (.int nums[ja]) := by
      rw [hl1, hja]
      exact atI_nat (by rw [List.getElem?_map, List.getElem?_eq_getElem hjl]; rfl)
    refine .inl ⟨_, rfl, _, rfl, nl, _, rfl, .inl (SqL.of S5.lst), _, _, rfl, rfl, by show (0 : Int) < ((nums.map V.int).length : Int); omega, nl, _, _, _, rfl, rfl, SqL.of S5.lst, hat1, ?_⟩
    obtain ⟨num, enum⟩ : ∃ num, num = nums[ja] := ⟨_, rfl⟩
    have hnm : num ∈ nums := by rw [enum]; exact List.getElem_mem hjl
    rw [← enum]
    -- the block
    have hnb : num ∈ r4.bl.map (·.num) := by rw [keys_nums S5.two.ek, S5.nm]; exact hnm
    obtain ⟨b, hb, eb⟩ := List.mem_map.mp hnb
    obtain ⟨b1, hb1, eb1, ef1⟩ := key_mem S5.two.ek hb
    obtain ⟨q1, hq1, eq1⟩ := List.mem_map.mp hb1
    have hb2 : b1 ∈ c2'.rc.blks := by rw [S5.two.eb]; exact hb1
    have hln : b1.len = b.len := by show (b1.fs.length : Int) = (b.fs.length : Int); rw [ef1]
    obtain ⟨bso, oo⟩ := S5.two.ord
    have hb1len := (oo.mem hb1).2.1
    have hbds := oo.mem hb1
    have hlt := S5.two.wf.lt b1 hb1
    have hnb100 := S5.two.nb
    -- index
    refine ⟨_, rfl, bx, p, 900, rfl, S5.box, by decide, fun d2 H6 _ _ hB6 k6 => ?_⟩
    have S6 := S5.draw em ob hne k6 hB6
    obtain ⟨dh6, ih6⟩ := S6.two.a1.ins
    obtain ⟨dt6, it6⟩ := S6.two.a1.st.ins
    obtain ⟨ds6, is6⟩ := S6.two.a1.st.store.ins
    rw [S6.h1] at ih6
    have SS6 := S6.two.a1.st.store
    have nd6 : (c1'.rc.bks.map fun p => p.2.num).Nodup := by rw [← blks_nums]; exact SS6.nums
    have enq : q1.2.num = num := by rw [eq1, eb1, eb]
    refine .inl ⟨_, rfl, ?_⟩
    refine ⟨_, rfl, c1.h, _, dh6, _, _, rfl, ih6, T.cl_ManagedHeap, T.na_ManagedHeap_state, mhF_state, c1'.rc.st, _, dt6, _, _, rfl, it6, T.cl_State, T.na_State_store, stF_store, c1'.rc.so, _, ds6, _, _, rfl, is6, T.cl_Store, T.na_Store_objects, srF_objects, _, rfl, c1'.rc.od, .ref q1.1, rfl, by rw [← enq, ← valV_oD nd6 hq1]; exact DGet.k (k := Sum.inl q1.2.num) SS6.objs, ?_⟩
    have hqf : q1.2.fs.length = b.fs.length := by rw [eq1, ef1]
    have hb1l2 : 0 < (b.fs.length : Int) := by rw [hln] at hb1len; exact hb1len
    obtain ⟨ix, hix⟩ := Int.eq_ofNat_of_zero_le (Int.emod_nonneg d2 (b := (q1.2.fs.length : Int)) (by omega))
    have hixl : (ix : Int) < b.len := by
      have := Int.emod_lt_of_pos d2 (b := (q1.2.fs.length : Int)) (by omega)
      show (ix : Int) < (b.fs.length : Int)
      omega
    refine ⟨q1.1, _, rfl, .inl (SqL.of (SS6.lst q1 hq1)), _, _, rfl, rfl, by omega, ?_⟩
    have eix : (V.int (d2 % (q1.2.fs.length : Int))) = V.int (ix : Int) := by rw [hix]
    -- value
    refine ⟨_, rfl, bx, p, 1000, rfl, S6.box, by decide, fun d3 H7 _ _ hB7 k7' => ?_⟩
    have S7 := S6.draw em ob hne k7' hB7
    have hat0 : (nums.map V.int)[0]? = some (.int nums[0]) := by rw [List.getElem?_map, List.getElem?_eq_getElem hn0]; rfl
    refine ⟨_, rfl, nl, _, _, _, rfl, rfl, SqL.of S7.lst, atI_nat (j := 0) hat0, (by show 2 ≤ sizeLine; decide), fun tv htv => ?_⟩
    have s8 := same_upd (o := .tup [V.str "object", V.int nums[0]]) htv
    have S8 := S7.same s8
    have etv : upd H7 tv (.tup [V.str "object", V.int nums[0]]) tv = some (.tup [V.str "object", V.int nums[0]]) := upd_same
    refine ⟨(by show 3 ≤ sizeLine; decide), fun lv hlv => ?_⟩
    have s9 := same_upd (o := .lst [V.non, V.int d3, V.ref tv]) hlv
    have S9 := S8.same s9
    have etv9 := s9 _ _ etv
    have elv : upd (upd H7 tv (.tup [V.str "object", V.int nums[0]])) lv (.lst [V.non, V.int d3, V.ref tv]) lv = some (.lst [V.non, V.int d3, V.ref tv]) := upd_same
    refine ⟨_, rfl, bx, p, 3, rfl, S9.box, by decide, fun d4 H10 hd0 hd1 hB10 k10' => ?_⟩
    have S10 := S9.draw em ob hne k10' hB10
    have lvb : lv ≠ bx := fun z => by
      obtain ⟨_, _, e, _⟩ := S8.box
      rw [← z, hlv] at e; cases e
    have elv10 := k10' _ _ elv (by simp; exact lvb)
    have etv10 : H10 tv = some (.tup [V.str "object", V.int nums[0]]) := S9.box.tp k10' _ _ etv9
    obtain ⟨v, hatv, hv, ht⟩ : ∃ v, atI [V.non, V.int d3, V.ref tv] d4 = some v ∧ VOk H10 v ∧ ∀ k, tgt H10 v = some k → k ∈ nums := by
      have cs : d4 = ((0 : Nat) : Int) ∨ d4 = ((1 : Nat) : Int) ∨ d4 = ((2 : Nat) : Int) := by omega
      rcases cs with rfl | rfl | rfl
      · exact ⟨.non, atI_nat rfl, .inl rfl, fun k e => (nomatch e)⟩
      · exact ⟨.int d3, atI_nat rfl, .inr (.inl ⟨_, rfl⟩), fun k e => (nomatch e)⟩
      · refine ⟨.ref tv, atI_nat rfl, .inr (.inr ⟨tv, _, rfl, etv10⟩), fun k e => ?_⟩
        rw [tgt_ref etv10] at e
        have := Option.some.inj e
        rw [← this]; exact List.getElem_mem hn0
    refine ⟨lv, _, _, v, rfl, rfl, SqL.of elv10, hatv, ?_⟩
    -- the slider's write
    obtain ⟨dx10, ix10⟩ := S10.two.a3.ins
    rw [S10.sl] at ix10
    obtain ⟨bsx, ox, _⟩ := S10.two.ok.ord
    have hpr := S10.two.ok.sw.pos_range ox S10.two.a3.nums hb hixl
    refine ⟨_, rfl, r.sl, dx10, _, rfl, ix10, slF_no_write, _, rfl, _, rfl, _, rfl, r4, b, ix, v, ?_, S10.two.a3, hb, hixl, hpr.1, by rw [S10.two.ok.sw.len]; exact hpr.2, fun H11 S11 k11 => ?_⟩
    · rw [S10.sl, eb, ← eix]; rfl
    have hwl : r4.wl ∈ r4.fp := by unfold Sl.fp; simp
    have t11 : Tp H10 H11 := by
      refine Tp.of_kp k11 fun x hx => sl_notup S10.two.a3 x ?_
      have : x = r4.wl := by simpa using hx
      rw [this]; exact hwl
    have sp10 : Sp3 c1'.fp c2'.fp r4.fp c1'.m := by rw [S10.fp1, S10.fp2, S10.fp3, S10.m1]; exact sp
    have P1 : HeapAt K H11 c1' := S10.two.a1.frame k11 (fun x hx z => by
      have : x = r4.wl := by simpa using z
      exact sp10.n13 x hx (by rw [this]; exact hwl)) (by simp; intro z; exact sp10.m3 (by rw [z]; exact hwl))
    have P2 : HeapAt K H11 c2' := S10.two.a2.frame k11 (fun x hx z => by
      have : x = r4.wl := by simpa using z
      exact sp10.n23 x hx (by rw [this]; exact hwl)) (by rw [emS]; simp; intro z; exact sp10.m3 (by rw [z]; exact hwl))
    have hv11 := hv.mono t11
    have mem100 : ∀ j, j ∈ nums → j ∈ c1'.rc.blks.map (·.num) ∧ 0 ≤ j ∧ j < 100 := fun j hj => by
      have hj' : j ∈ c1'.rc.blks.map (·.num) := by rw [S10.nm]; exact hj
      refine ⟨hj', ?_⟩
      obtain ⟨x, hx, rfl⟩ := List.mem_map.mp hj'
      have := S10.two.wf.lt x hx
      have := S10.two.nb
      omega
    -- the heap's write
    obtain ⟨dh11, ih11⟩ := P1.ins
    rw [S10.h1] at ih11
    refine ⟨_, rfl, c1.h, dh11, _, rfl, ih11, mhF_no_write, _, rfl, _, rfl, _, rfl, ?_⟩
    refine sp_cast (vs' := [.ref c1'.h, .int b1.num, .int (ix : Int), v]) (by rw [S10.h1, eb1, eb, ← eix]; rfl) (w_ok P1 S10.two.f1 (by omega) hb1 (by rw [hln]; exact hixl) hlt.1 (by omega) (by omega) hv11.1 (fun j ej => mem100 j (ht j (by rw [← hv11.2]; exact ej))) fun H12 N12 => ?_)
    have N12' := N12
    obtain ⟨es1, evs1, p1, l1, l1', t12, k12⟩ := N12'
    have P22 : HeapAt K H12 c2' := P2.frame k12 (fun x hx z => sp10.n12 x z hx) (by rw [emS]; exact sp10.m1)
    have hv12 := hv11.1.mono t12
    -- the other one's write
    obtain ⟨dh12, ih12⟩ := P22.ins
    rw [S10.h2] at ih12
    refine ⟨_, rfl, c2.h, dh12, _, rfl, ih12, mhF_no_write, _, rfl, _, rfl, _, rfl, ?_⟩
    refine sp_cast (vs' := [.ref c2'.h, .int b1.num, .int (ix : Int), v]) (by rw [S10.h2, eb1, eb, ← eix]; rfl) (w_ok P22 S10.two.f2 (by omega) hb2 (by rw [hln]; exact hixl) hlt.1 (by omega) (by omega) hv12.1 (fun j ej => by
      have := mem100 j (ht j (by rw [← hv11.2, ← hv12.2]; exact ej))
      exact ⟨by rw [S10.two.eb]; exact this.1, this.2⟩) fun H13 N13 => ?_)
    rw [eb1] at N12 N13
    obtain ⟨d1', d2', T13, f1, f2, g1, g2, g3, g4, g5, t13, kall⟩ := S10.two.wr sp10 emS hb hixl hv (fun j ej => (mem100 j (ht j ej)).1) S11 k11 N12 N13
    have hk : ∀ x o, H10 x = some o → Off c1 c2 r x → H13 x = some o := fun x o e hx => kall x o e (by rw [S10.fp1]; exact hx.1) (by rw [S10.fp2]; exact hx.2.1) (by rw [S10.fp3]; exact hx.2.2.1)
    refine ⟨d1', d2', r4.wr b ix v, _, _, _, _, _, rfl, T13.mono (by omega), f1.trans S10.fp1, f2.trans S10.fp2, S10.fp3, g1.trans S10.m1, g2.trans S10.m2, g3.trans S10.h1, g4.trans S10.h2, S10.sl, g5.trans S10.nm, ?_, hk _ _ S10.lst on⟩
    obtain ⟨ns, a, e1, e2, e3⟩ := S10.box
    exact ⟨ns, a, hk _ _ e1 ob, hk _ _ e2 op, e3⟩
  · rintro σ H2 ⟨c1', c2', r', pk', v3', v8, v9, v10, rfl, S2⟩
    have sp' : Sp3 c1'.fp c2'.fp r'.fp c1'.m := by rw [S2.fp1, S2.fp2, S2.fp3, S2.m1]; exact sp
    have := k7 H2 Q c1' c2' r' size pk' nl nums v0 (some (.ref bx)) v3' v4 v8 v9 v10 (S2.two.mono (by decide)) sp' (by rw [S2.m1, S2.m2]; exact em) S2.lst (by rw [← S2.nm, List.length_map]) (by rw [S2.fp1]; exact on.1) (by rw [S2.fp2]; exact on.2.1) (by rw [S2.fp3]; exact on.2.2.1) hq
    rw [S2.h1, S2.h2, S2.sl] at this
    exact this
end
end K96
set_option Elab.async false
set_option linter.all false
set_option maxRecDepth 100000
set_option maxHeartbeats 1000000
namespace K96
open PySem PySem.Spec PyProof.Rows L2
theorem none_some {H : Hp} {b : Addr} {o : HO} (h : H b = none) (e : H b = some o) : False := by
  rw [h] at e; cases e
theorem SqL.same' {K : PySem.W.Frag} {H H' : Hp} {a : Addr} {xs : List V} (h : SqL K H a xs) (k : Same H H') : SqL K H' a xs := by
  rcases h with h | h
  · left
    rcases h with h | ⟨od, h⟩
    · exact .inl (k _ _ h)
    · exact .inr ⟨od, k _ _ h⟩
  · exact .inr h
section
variable {w : World} {K : PySem.W.Frag} {mg : Str → Option Value} {base : Heap}
/-! ### branch, slider, numbers -/
theorem law3 (T : Top K mg) {cdv : Value} {A : Around} {outer : List Env} {s : Shared} {H0 : Hp} {E : XK} (hr : Room 9 (A.deeper (envOfC "law" (defScope s_law) s.heap.objs.size (He.ga K "law") cdv))) :
    ∃ t, PSs (XL w K mg base cdv A outer s H0 E) ((defBody s_law).drop 3) t ∧ ∀ (H : Hp) (Q : VK) (c : Hc) (bx p : Addr) (v0 v3 v4 : Option V), Good K H c [bx, p] 20 → Bx H bx p → (∀ H', Q (.bl true) H') →
      t { nx := fun _ H' => Q .non H', rt := Q } [v0, some (.ref bx), some (.ref c.h), v3, v4, none, none, none, none, none, none, none, none, none, none, none] H := by
  obtain ⟨fdB, GB, bB, _⟩ := ok_Branch (w := w) (base := base) T
  obtain ⟨fdS, GS, bS, kS⟩ := ok_SlOf (w := w) (base := base) T
  obtain ⟨t6, h6, k6⟩ := law6 (w := w) (base := base) (E := E) (H0 := H0) (outer := outer) T hr
  refine ⟨_, pss_cons (ps_set (i := 5) sc_Law.nd rfl (.inl rfl) (pe_meth0 (pv 2) T.cl_ManagedHeap T.me_ManagedHeap_branch GB (hr.mono (by decide)) bB .nil pass0))
    (pss_cons (ps_set (i := 6) sc_Law.nd rfl (.inl rfl) (pe_call GS (hr.mono (by decide)) (by rfl) T.mg_slider_of kS bS .nil pass0 (pa_cons (pv 2) pa_nil)))
    (pss_cons (ps_set (i := 7) sc_Law.nd rfl (.inl rfl) (pe_callB (call_sortedDI rfl) (by rfl) T.fr_sorted (by decide +kernel) (pa_cons (pe_fld (pe_fld (pe_fld (pv 2) rfl) rfl) rfl) pa_nil)))
    h6)), ?_⟩
  intro H Q c bx p v0 v3 v4 G hB hq
  have hz := G.sz
  obtain ⟨dh, i1⟩ := G.heap.ins
  obtain ⟨pk, bs, o⟩ := G.wf.ord
  have few := G.few
  refine ⟨_, rfl, c.h, dh, _, rfl, i1, mhF_no_branch, c, rfl, G.heap, fun v hv => ?_, by omega, by omega, fun H1 c2 P2 em es2 el2 ev2 eb2 er2 en2 ec2 s1 fr2 => ?_⟩
  · obtain ⟨r, e, S, _⟩ := G.old v hv
    exact ⟨r, e, S⟩
  have P1 := G.heap.same s1
  refine ⟨_, rfl, c, pk, bs, rfl, P1, o, G.wf.asc, by omega, by omega, fun H2 r SA rb rm sw s2 fr3 => ?_⟩
  have s12 := s1.trans s2
  have P12 := G.heap.same s12
  obtain ⟨dh2, j1⟩ := P12.ins
  obtain ⟨dt2, j2⟩ := P12.st.ins
  obtain ⟨ds2, j3⟩ := P12.st.store.ins
  have hlen := G.wf.len
  refine ⟨_, rfl, c.h, _, dh2, _, _, rfl, j1, T.cl_ManagedHeap, T.na_ManagedHeap_state, mhF_state, c.rc.st, _, dt2, _, _, rfl, j2, T.cl_State, T.na_State_store, stF_store, c.rc.so, _, ds2, _, _, rfl, j3, T.cl_Store, T.na_Store_objects, srF_objects, ?_⟩
  refine ⟨c.rc.od, _, c.rc.bks.map fun p => p.2.num, rfl, .inl P12.st.store.objs, oD_keys _, by rw [List.length_map]; omega, fun ys nl hp hs hn => ?_⟩
  have e : ys = c.rc.blks.map (·.num) := perm_asc (by rw [blks_nums]; exact hp) hs G.wf.asc
  subst e
  have s3 := same_upd (o := .lst ((c.rc.blks.map (·.num)).map V.int)) hn
  have s13 := s12.trans s3
  have hn0 : H nl = none := s12.free hn
  have hn1 : H1 nl = none := s2.free hn
  have trk : ∀ b o, H b = some o → b ∉ c2.fp ∧ b ∉ r.fp ∧ b ≠ nl := fun b o e =>
    ⟨fun z => none_some (fr2 b z) e, fun z => none_some (fr3 b z) (s1 _ _ e), ne_of_none e hn0⟩
  obtain ⟨dm, hm⟩ := G.heap.man
  have obx : ∀ x ∈ [bx, p], Off c c2 r x := fun x hx => by
    obtain ⟨ob, eo, _⟩ := G.xs x hx
    obtain ⟨a1, a2, a3⟩ := trk _ _ eo
    exact ⟨fun z => G.sep x z hx, a1, a2, fun z => G.msep (by rw [← z]; exact hx)⟩
  have onl : Off c c2 r nl := by
    refine ⟨fun z => ?_, fun z => ?_, fun z => ?_, fun z => ?_⟩
    · obtain ⟨o', e⟩ := G.heap.some_ nl z
      exact none_some hn0 e
    · obtain ⟨o', e⟩ := P2.some_ nl z
      exact none_some hn1 e
    · obtain ⟨o', e⟩ := SA.some_ nl z
      exact none_some hn e
    · rw [z] at hn0
      exact none_some hn0 hm
  have hbn : bx ≠ nl := by
    obtain ⟨ob, eo, _⟩ := G.xs bx (by simp)
    exact (trk _ _ eo).2.2
  have nB := G.nb
  have S0 : St2 K c c2 r c.size bx p nl (c.rc.blks.map (·.num)) (upd H2 nl (.lst ((c.rc.blks.map (·.num)).map V.int))) c c2 r pk 20 := by
    refine ⟨⟨P12.same s3, (P2.same s2).same s3, SA.same s3, ⟨⟨bs, by rw [rb]; exact o, fun b _ z => by rw [rm] at z; cases z⟩, by rw [rm]; exact sw, fun b _ z => by rw [rm] at z; cases z⟩, G.wf.mono (Tp.of_same s13), ⟨bs, o⟩, eb2, er2, en2, by rw [rb], rfl, es2, hz, few, ⟨by omega, by rw [ev2]; exact few.2⟩, by omega⟩, rfl, rfl, rfl, rfl, rfl, rfl, rfl, rfl, rfl, hB.same s13, upd_same⟩
  refine k6 _ Q c c2 r c.size pk bx p nl _ v0 v3 v4 S0 ⟨fun b hb => ?_, fun b hb => ?_, fun b hb z => ?_, fun z => ?_, (trk _ _ hm).1, (trk _ _ hm).2.1⟩ em (obx bx (by simp)) (obx p (by simp)) onl hbn hq
  · obtain ⟨o', e⟩ := G.heap.some_ b hb
    exact (trk _ _ e).1
  · obtain ⟨o', e⟩ := G.heap.some_ b hb
    exact (trk _ _ e).2.1
  · obtain ⟨o', e⟩ := P2.some_ b hb
    rw [fr3 b z] at e; cases e
  · exact G.heap.mfp z
/-! ### the whole -/
theorem ev_word {H : Hp} {e : Addr} {m : Int} (h : EvOk H e m) : ∃ word rest, H e = some (.tup (.str word :: rest)) := by
  rcases h with ⟨n, e, _⟩ | ⟨k, i, v, e, _⟩ | ⟨k, e, _⟩ | ⟨k, e, _⟩ | ⟨k, e, _⟩ | e | e | ⟨n, e⟩ | e <;> exact ⟨_, _, e⟩
theorem ok_Law (T : Top K mg) {fd : FuncData} (F : FunD K "law" "law" (defArgs s_law) (defBody s_law) (defScope s_law) [] [] (He.ga K "law") fd)
    (sp : Sp) (hsp : ∀ vs H Q E, sp vs H Q E → ∃ (a : Addr) (ns : List Int), vs = [.ref a] ∧ SqL K H a (ns.map V.int) ∧ ∀ H', Q (.bl true) H') : FnOk Pg w K mg base CX0 10 (He.ga K "law") fd ["_law_script"] sp := by
  obtain ⟨fdX, GX, bX, kX⟩ := ok_LBox (w := w) (base := base) T
  obtain ⟨fdD, GD0, bD, kD⟩ := ok_Draw (w := w) (base := base) T
  obtain ⟨fdP, GP, bP, kP⟩ := ok_PH (w := w) (base := base) T
  obtain ⟨fdE, GE, bE, kE⟩ := ok_Deed (w := w) (base := base) T
  obtain ⟨fdC, GC, bC, kC⟩ := ok_LChange (w := w) (base := base) T
  refine F.ok sc_Law (fun vs H Q E h => ?_) fun cdv A outer s H vs Q E hr h => ?_
  · obtain ⟨a, ns, rfl, _⟩ := hsp _ _ _ _ h
    rfl
  obtain ⟨a, ns, rfl, hS, hq⟩ := hsp _ _ _ _ h
  obtain ⟨t3, h3, k3⟩ := law3 (w := w) (base := base) (E := E) (H0 := H) (outer := outer) T hr
  have GD := GD0.mono (by decide : 1 ≤ 9)
  suffices z : ∃ t, PSs (XL w K mg base cdv A outer s H E) (defBody s_law) t ∧ t { nx := fun _ H' => Q .non H', rt := Q } (start NL [.ref a]) H by
    obtain ⟨t, y1, y2⟩ := z
    exact ⟨t, y1.nox, y2⟩
  refine ⟨_, pss_cons (ps_set (i := 1) sc_Law.nd rfl (.inl rfl) (pe_call GX (hr.mono (by decide)) (by rfl) T.mg__law_box kX bX .nil pass0 (pa_cons (pv 0) (pa_cons pe_int (pa_cons pe_int pa_nil)))))
    (pss_cons (ps_set (i := 2) sc_Law.nd rfl (.inr rfl) (pe_call GP (hr.mono (by decide)) (by rfl) T.mg_policy_heap kP bP .nil pass0 (pa_cons (pe_op op_add pe_int (pe_call GD hr (by rfl) T.mg__law_draw kD bD .nil pass0 (pa_cons (pv 1) (pa_cons pe_int pa_nil)))) (pa_cons (pe_ix ix_list (pe_lst (pa_cons pe_str (pa_cons pe_str (pa_cons pe_str (pa_cons pe_str pa_nil))))) (pe_call GD hr (by rfl) T.mg__law_draw kD bD .nil pass0 (pa_cons (pv 1) (pa_cons pe_int pa_nil))) (fun _ _ => rfl)) pa_nil))))
    (pss_cons (ps_for PassesOwn.never rfl (pi_range1 (by rfl) T.fr_range (pa_cons pe_int pa_nil)) (pg_name (i := 3) sc_Law.nd rfl (.inl rfl))
      (pss_cons (ps_set (i := 4) sc_Law.nd rfl (.inl rfl) (pe_call GE (hr.mono (by decide)) (by rfl) T.mg__law_deed kE bE .nil pass0 (pa_cons (pv 1) (pa_cons pe_int pa_nil))))
      (pss_one (ps_if (pt_cmpR op_notIn_seq (pe_ix ix_tup (pv 4) pe_int (fun _ _ => rfl)) (pe_lst (pa_cons pe_str (pa_cons pe_str (pa_cons pe_str pa_nil)))) (by rfl))
        (pss_one (ps_expr (pe_call GC hr (by rfl) T.mg__law_change kC bC .nil pass0 (pa_cons (pv 2) (pa_cons (pv 4) pa_nil))))) pss_nil))))
    h3)), ?_⟩
  refine ⟨_, rfl, a, ns, 0, 22, rfl, hS, by decide, by decide, by decide, fun H' k => SqL.same' hS k, fun H1 bx p hB1 s1 nbx np => ?_⟩
  refine ⟨_, rfl, bx, p, 9, rfl, hB1, by decide, fun d H2 d0 d1 hB2 k2 => ⟨_, _, rfl, rfl, ?_⟩⟩
  refine ⟨(by show 4 ≤ sizeLine; decide), fun l hl => ?_⟩
  have s3 := same_upd (o := .lst [V.str "first", V.str "best", V.str "worst", V.str "next"]) hl
  have hB3 := hB2.same s3
  refine ⟨_, rfl, bx, p, 4, rfl, hB3, by decide, fun d2 H4 e0 e1 hB4 k4 => ?_⟩
  have hlb : l ≠ bx := fun z => by
    obtain ⟨_, _, e, _⟩ := hB2
    rw [← z, hl] at e; cases e
  have el4 := k4 _ _ (upd_same : upd H2 l (.lst [V.str "first", V.str "best", V.str "worst", V.str "next"]) l = _) (by simp; exact hlb)
  obtain ⟨pol, hpol⟩ : ∃ pol : Str, atI [V.str "first", V.str "best", V.str "worst", V.str "next"] d2 = some (.str pol) := by
    have cs : d2 = ((0 : Nat) : Int) ∨ d2 = ((1 : Nat) : Int) ∨ d2 = ((2 : Nat) : Int) ∨ d2 = ((3 : Nat) : Int) := by omega
    rcases cs with rfl | rfl | rfl | rfl
    · exact ⟨_, atI_nat rfl⟩
    · exact ⟨_, atI_nat rfl⟩
    · exact ⟨_, atI_nat rfl⟩
    · exact ⟨_, atI_nat rfl⟩
  refine ⟨l, _, _, _, rfl, rfl, SqL.of el4, hpol, ?_⟩
  refine ⟨4 + d, pol, rfl, fun H5 c P5 c1 c2 hemp s5 fr5 m5 => ?_⟩
  obtain ⟨m1, m2, m3, m4, m5', m6⟩ := hemp
  have hB5 := hB4.same s5
  have hX : ∀ {H' : Hp}, Bx H' bx p → ∀ b ∈ [bx, p], ∃ o, H' b = some o ∧ ∀ xs, o ≠ .tup xs := fun {H'} h b hb => by
    obtain ⟨ns, a, x1, x2, _⟩ := h
    rcases List.mem_cons.mp hb with z | z
    · rw [z]; exact ⟨_, x1, fun xs q => by cases q⟩
    · have z : b = p := by simpa using z
      rw [z]; exact ⟨_, x2, fun xs q => by cases q⟩
  have ebl : c.rc.toSc.blks = [] := by unfold Sc.blks; rw [m3]; rfl
  have nob : ∀ b, b ∈ c.rc.toSc.blks → False := fun b hb => by
    rw [ebl] at hb
    exact absurd hb (by simp)
  have nor : ∀ k, k ∈ c.rc.toSc.roots → False := fun k hk => by
    rw [m4] at hk
    exact absurd hk (by simp)
  have noe : ∀ v, v ∈ c.es → False := fun v hv => by
    rw [m1] at hv
    exact absurd hv (by simp)
  have W0 : Wf c.size H5 c.rc.toSc := by
    refine ⟨?_, fun b hb => (nob b hb).elim, ?_, ⟨[], [], ?_⟩, fun b hb => (nob b hb).elim, fun b hb => (nob b hb).elim, fun k hk => (nor k hk).elim, ?_⟩
    · rw [ebl]; exact List.Pairwise.nil
    · rw [m5']; decide
    · rw [ebl]
      exact ⟨List.Perm.refl _, by show (0 : Int) ≤ c.size; omega, rfl⟩
    · rw [m4]; exact List.Pairwise.nil
  have G0 : Good K H5 c [bx, p] 0 := by
    refine ⟨P5, W0, fun v hv => (noe v hv).elim, fun b hb z => ?_, fun z => ?_, ⟨by rw [m1]; exact Nat.le_refl _, by rw [m2]; exact Nat.le_refl _⟩, ⟨by omega, by omega⟩, by rw [m5']; decide, hX hB5⟩
    · obtain ⟨o, e, _⟩ := hX hB4 b z
      exact none_some (fr5 b hb) e
    · obtain ⟨o, e, _⟩ := hX hB4 _ z
      exact none_some m5 e
  -- the first loop
  refine ⟨20, rfl, by decide, by decide, ?_⟩
  refine for_range (lo := 0) (n := 20) (fun i σ H6 => ∃ (c' : Hc) (v3 v4 : Option V), σ = [some (.ref a), some (.ref bx), some (.ref c.h), v3, v4, none, none, none, none, none, none, none, none, none, none, none] ∧ Good K H6 c' [bx, p] i ∧ c'.h = c.h ∧ Bx H6 bx p)
    ⟨c, none, none, rfl, G0, rfl, hB5⟩ ?_ ?_
  · rintro i σ H6 hi ⟨c', v3, v4, rfl, G6, hh, hB6⟩
    refine ⟨_, rfl, bx, p, 6, rfl, hB6, by decide, fun e H7 hE hB7 k7 => ?_⟩
    have G7 := G6.frame (k7.mono fun b hb => by
      have : b = bx := by simpa using hb
      rw [this]; simp) (hX hB7)
    obtain ⟨word, rest, hw⟩ := ev_word hE
    refine ⟨_, rfl, e, _, _, .str word, rfl, rfl, SqT.of hw, atI_nat (j := 0) rfl, (by show 3 ≤ sizeLine; decide), fun l2 hl2 => ?_⟩
    have s8 := same_upd (o := .lst [V.str "compact", V.str "makeRoom", V.str "slide"]) hl2
    have G8 := G7.same s8
    have hB8 := hB7.same s8
    have hw8 := s8 _ _ hw
    refine ⟨l2, _, rfl, .inl (SqL.of upd_same), rfl, rfl, ?_⟩
    refine ⟨_, rfl, ?_⟩
    by_cases cv : inV (.str word) [V.str "compact", V.str "makeRoom", V.str "slide"] = true
    · rw [cv]
      exact iteF ⟨c', _, _, rfl, ⟨G8.heap, G8.wf, G8.old, G8.sep, G8.msep, ⟨Nat.le_succ_of_le G8.few.1, Nat.le_succ_of_le G8.few.2⟩, G8.sz, by have := G8.nb; omega, G8.xs⟩, hh, hB8⟩
    · have cv' : inV (.str word) [V.str "compact", V.str "makeRoom", V.str "slide"] = false := by simpa using cv
      rw [cv']
      refine iteT ?_
      have hE8 : EvOk (upd H7 l2 (.lst [V.str "compact", V.str "makeRoom", V.str "slide"])) e 6 := by
        rcases hE with ⟨n, x, r⟩ | ⟨k, i, v, x, k0, k1, i0, i1, hv, ht⟩ | ⟨k, x, r⟩ | ⟨k, x, r⟩ | ⟨k, x, r⟩ | x | x | ⟨n, x⟩ | x
        · exact .inl ⟨n, s8 _ _ x, r⟩
        · have hv8 := hv.mono (Tp.of_same s8)
          exact .inr (.inl ⟨k, i, v, s8 _ _ x, k0, k1, i0, i1, hv8.1, fun j ej => ht j (by rw [← hv8.2]; exact ej)⟩)
        · exact .inr (.inr (.inl ⟨k, s8 _ _ x, r⟩))
        · exact .inr (.inr (.inr (.inl ⟨k, s8 _ _ x, r⟩)))
        · exact .inr (.inr (.inr (.inr (.inl ⟨k, s8 _ _ x, r⟩))))
        · exact .inr (.inr (.inr (.inr (.inr (.inl (s8 _ _ x))))))
        · exact .inr (.inr (.inr (.inr (.inr (.inr (.inl (s8 _ _ x)))))))
        · exact .inr (.inr (.inr (.inr (.inr (.inr (.inr (.inl ⟨n, s8 _ _ x⟩)))))))
        · exact .inr (.inr (.inr (.inr (.inr (.inr (.inr (.inr (s8 _ _ x))))))))
      have hmv : ∀ xs, upd H7 l2 (.lst [V.str "compact", V.str "makeRoom", V.str "slide"]) e = some (.tup xs) → xs.head? ≠ some (.str "compact") ∧ xs.head? ≠ some (.str "makeRoom") ∧ xs.head? ≠ some (.str "slide") := fun xs q => by
        rw [hw8] at q
        injection q with q
        injection q with q
        subst q
        refine ⟨fun z => ?_, fun z => ?_, fun z => ?_⟩
        · injection z with z
          rw [z] at cv'
          exact absurd cv' (by decide +kernel)
        · injection z with z
          rw [z] at cv'
          exact absurd cv' (by decide +kernel)
        · injection z with z
          rw [z] at cv'
          exact absurd cv' (by decide +kernel)
      have nxt : ∀ H9 H10, Nx K (upd H7 l2 (.lst [V.str "compact", V.str "makeRoom", V.str "slide"])) c' [bx, p] i H9 → Same H9 H10 → ∃ (c' : Hc) (v3' v4' : Option V), [some (V.ref a), some (.ref bx), some (.ref c.h), some (.int (0 + (i : Int))), some (.ref e), none, none, none, none, none, none, none, none, none, none, none] = [some (.ref a), some (.ref bx), some (.ref c.h), v3', v4', none, none, none, none, none, none, none, none, none, none, none] ∧ Good K H10 c' [bx, p] (i + 1) ∧ c'.h = c.h ∧ Bx H10 bx p := fun H9 H10 hN s10 => by
        obtain ⟨c9, G9, q1, q2, k9⟩ := hN
        exact ⟨c9, _, _, rfl, G9.same s10, q1.trans hh, (hB8.frame k9 (fun z => G8.sep _ z (by simp)) (fun z => G8.sep _ z (by simp))).same s10⟩
      refine ⟨_, rfl, _, rfl, c', e, fun v H9 => Nx K (upd H7 l2 (.lst [V.str "compact", V.str "makeRoom", V.str "slide"])) c' [bx, p] i H9, fun H9 => Nx K (upd H7 l2 (.lst [V.str "compact", V.str "makeRoom", V.str "slide"])) c' [bx, p] i H9, by rw [hh]; rfl, G8.heap, fun Q' E' b1 b2 => ev_change G8 (by omega) hE8 hmv b1 b2, fun v H9 x H10 hN s10 => nxt H9 H10 hN s10, fun H9 x H10 hN s10 => nxt H9 H10 hN s10⟩
  · rintro σ H6 ⟨c', v3, v4, rfl, G6, hh, hB6⟩
    rw [← hh]
    exact k3 H6 Q c' bx p _ v3 v4 G6 hB6 hq
end
end K96
set_option Elab.async false
set_option linter.all false
set_option maxRecDepth 100000
set_option maxHeartbeats 0
/-! The head: what the top leaves, by one kernel run; a hook that looks at what the module's names reach. -/
namespace K96
open PySem PySem.Spec PyProof.Rows L2
def dictRefs (o : Obj) : List Addr := match o.data with
  | .dict es _ => es.toList.flatMap fun e => He.refV e.val
  | _ => []
def defRefs (o : Obj) : List Addr := match o.data with
  | .func fd => He.refV fd.code ++ He.refV fd.defaults ++ fd.closure.map (·.2)
  | .cls cd => [cd.ns]
  | _ => []
def isDef (o : Obj) : Bool := match o.data with
  | .func _ => true
  | .cls _ => true
  | _ => false
def via (f : Obj → List Addr) (g : Addr → Option Obj) (a : Addr) : List Addr := match g a with
  | some o => f o
  | none => []
def onlyDefs (g : Addr → Option Obj) (as : List Addr) : List Addr := as.filter fun a => match g a with
  | some o => isDef o
  | none => false
/-- the module's names; their classes' namespaces and code; the methods; their code -/
def asK (g : Addr → Option Obj) : List Addr :=
  let l1 := onlyDefs g (via dictRefs g mainGlobals)
  let l2 := l1.flatMap (via defRefs g)
  let l3 := onlyDefs g (l2.flatMap (via dictRefs g))
  let l4 := l3.flatMap (via defRefs g)
  mainGlobals :: cStatics :: (l1 ++ (l2 ++ (l3 ++ l4)))
def d_slider_of : He.DefD := ⟨("slider_of", none), "slider_of", "slider_of", defArgs s_slider_of, defBody s_slider_of, defScope s_slider_of, [], []⟩
def d_gaps : He.DefD := ⟨("gaps", none), "gaps", "gaps", defArgs s_gaps, defBody s_gaps, defScope s_gaps, [], []⟩
def d_canonical : He.DefD := ⟨("canonical", none), "canonical", "canonical", defArgs s_canonical, defBody s_canonical, defScope s_canonical, [], []⟩
def d_relocation_map : He.DefD := ⟨("relocation_map", none), "relocation_map", "relocation_map", defArgs s_relocation_map, defBody s_relocation_map, defScope s_relocation_map, [], []⟩
def d_slide_left : He.DefD := ⟨("slide_left", none), "slide_left", "slide_left", defArgs s_slide_left, defBody s_slide_left, defScope s_slide_left, [], []⟩
def d_places : He.DefD := ⟨("places", none), "places", "places", defArgs s_places, defBody s_places, defScope s_places, [], []⟩
def d_first_place : He.DefD := ⟨("first_place", none), "first_place", "first_place", defArgs s_first_place, defBody s_first_place, defScope s_first_place, [], []⟩
def d_place_block : He.DefD := ⟨("place_block", none), "place_block", "place_block", defArgs s_place_block, defBody s_place_block, defScope s_place_block, [.int 0], []⟩
def d_target_of : He.DefD := ⟨("target_of", none), "target_of", "target_of", defArgs s_target_of, defBody s_target_of, defScope s_target_of, [], []⟩
def d_policy_heap : He.DefD := ⟨("policy_heap", none), "policy_heap", "policy_heap", defArgs s_policy_heap, defBody s_policy_heap, defScope s_policy_heap, [], []⟩
def d__law_cell : He.DefD := ⟨("_law_cell", none), "_law_cell", "_law_cell", defArgs s__law_cell, defBody s__law_cell, defScope s__law_cell, [], []⟩
def d__law_row : He.DefD := ⟨("_law_row", none), "_law_row", "_law_row", defArgs s__law_row, defBody s__law_row, defScope s__law_row, [], []⟩
def d__law_box : He.DefD := ⟨("_law_box", none), "_law_box", "_law_box", defArgs s__law_box, defBody s__law_box, defScope s__law_box, [], []⟩
def d__law_draw : He.DefD := ⟨("_law_draw", none), "_law_draw", "_law_draw", defArgs s__law_draw, defBody s__law_draw, defScope s__law_draw, [], []⟩
def d__law_value : He.DefD := ⟨("_law_value", none), "_law_value", "_law_value", defArgs s__law_value, defBody s__law_value, defScope s__law_value, [], []⟩
def d__law_deed : He.DefD := ⟨("_law_deed", none), "_law_deed", "_law_deed", defArgs s__law_deed, defBody s__law_deed, defScope s__law_deed, [], []⟩
def d__law_change : He.DefD := ⟨("_law_change", none), "_law_change", "_law_change", defArgs s__law_change, defBody s__law_change, defScope s__law_change, [], []⟩
def d_law : He.DefD := ⟨("law", none), "law", "law", defArgs s_law, defBody s_law, defScope s_law, [], []⟩
def d_Slider___init__ : He.DefD := ⟨("Slider", some "__init__"), "__init__", "Slider.__init__", defArgs s_Slider___init__, defBody s_Slider___init__, defScope s_Slider___init__, [], []⟩
def d_Slider_layout : He.DefD := ⟨("Slider", some "layout"), "layout", "Slider.layout", defArgs s_Slider_layout, defBody s_Slider_layout, defScope s_Slider_layout, [], []⟩
def d_Slider_cell : He.DefD := ⟨("Slider", some "cell"), "cell", "Slider.cell", defArgs s_Slider_cell, defBody s_Slider_cell, defScope s_Slider_cell, [], []⟩
def d_Slider_write : He.DefD := ⟨("Slider", some "write"), "write", "Slider.write", defArgs s_Slider_write, defBody s_Slider_write, defScope s_Slider_write, [], []⟩
def d_Slider_begin : He.DefD := ⟨("Slider", some "begin"), "begin", "Slider.begin", defArgs s_Slider_begin, defBody s_Slider_begin, defScope s_Slider_begin, [], []⟩
def d_Slider_finish : He.DefD := ⟨("Slider", some "finish"), "finish", "Slider.finish", defArgs s_Slider_finish, defBody s_Slider_finish, defScope s_Slider_finish, [], []⟩
def d_Slider_step : He.DefD := ⟨("Slider", some "step"), "step", "Slider.step", defArgs s_Slider_step, defBody s_Slider_step, defScope s_Slider_step, [], []⟩
def d_Slider_work : He.DefD := ⟨("Slider", some "work"), "work", "Slider.work", defArgs s_Slider_work, defBody s_Slider_work, defScope s_Slider_work, [], []⟩
def d_Store___init__ : He.DefD := ⟨("Store", some "__init__"), "__init__", "Store.__init__", defArgs s_Store___init__, defBody s_Store___init__, defScope s_Store___init__, [], []⟩
def d_Store_copy : He.DefD := ⟨("Store", some "copy"), "copy", "Store.copy", defArgs s_Store_copy, defBody s_Store_copy, defScope s_Store_copy, [], []⟩
def d_Store_numbers : He.DefD := ⟨("Store", some "numbers"), "numbers", "Store.numbers", defArgs s_Store_numbers, defBody s_Store_numbers, defScope s_Store_numbers, [], []⟩
def d_Store_fields : He.DefD := ⟨("Store", some "fields"), "fields", "Store.fields", defArgs s_Store_fields, defBody s_Store_fields, defScope s_Store_fields, [], []⟩
def d_Store_make : He.DefD := ⟨("Store", some "make"), "make", "Store.make", defArgs s_Store_make, defBody s_Store_make, defScope s_Store_make, [], []⟩
def d_Store_read : He.DefD := ⟨("Store", some "read"), "read", "Store.read", defArgs s_Store_read, defBody s_Store_read, defScope s_Store_read, [], []⟩
def d_Store_write : He.DefD := ⟨("Store", some "write"), "write", "Store.write", defArgs s_Store_write, defBody s_Store_write, defScope s_Store_write, [], []⟩
def d_Store_is_referenced : He.DefD := ⟨("Store", some "is_referenced"), "is_referenced", "Store.is_referenced", defArgs s_Store_is_referenced, defBody s_Store_is_referenced, defScope s_Store_is_referenced, [], []⟩
def d_Store_release : He.DefD := ⟨("Store", some "release"), "release", "Store.release", defArgs s_Store_release, defBody s_Store_release, defScope s_Store_release, [], []⟩
def d_Store_add_root : He.DefD := ⟨("Store", some "add_root"), "add_root", "Store.add_root", defArgs s_Store_add_root, defBody s_Store_add_root, defScope s_Store_add_root, [], []⟩
def d_Store_remove_root : He.DefD := ⟨("Store", some "remove_root"), "remove_root", "Store.remove_root", defArgs s_Store_remove_root, defBody s_Store_remove_root, defScope s_Store_remove_root, [], []⟩
def d_Store_reachable : He.DefD := ⟨("Store", some "reachable"), "reachable", "Store.reachable", defArgs s_Store_reachable, defBody s_Store_reachable, defScope s_Store_reachable, [], []⟩
def d_Store_collect : He.DefD := ⟨("Store", some "collect"), "collect", "Store.collect", defArgs s_Store_collect, defBody s_Store_collect, defScope s_Store_collect, [], []⟩
def d_PolicyManager___init__ : He.DefD := ⟨("PolicyManager", some "__init__"), "__init__", "PolicyManager.__init__", defArgs s_PolicyManager___init__, defBody s_PolicyManager___init__, defScope s_PolicyManager___init__, [], []⟩
def d_PolicyManager_place : He.DefD := ⟨("PolicyManager", some "place"), "place", "PolicyManager.place", defArgs s_PolicyManager_place, defBody s_PolicyManager_place, defScope s_PolicyManager_place, [], []⟩
def d_State___init__ : He.DefD := ⟨("State", some "__init__"), "__init__", "State.__init__", defArgs s_State___init__, defBody s_State___init__, defScope s_State___init__, [], []⟩
def d_State_copy : He.DefD := ⟨("State", some "copy"), "copy", "State.copy", defArgs s_State_copy, defBody s_State_copy, defScope s_State_copy, [], []⟩
def d_ManagedHeap___init__ : He.DefD := ⟨("ManagedHeap", some "__init__"), "__init__", "ManagedHeap.__init__", defArgs s_ManagedHeap___init__, defBody s_ManagedHeap___init__, defScope s_ManagedHeap___init__, [], []⟩
def d_ManagedHeap_layout : He.DefD := ⟨("ManagedHeap", some "layout"), "layout", "ManagedHeap.layout", defArgs s_ManagedHeap_layout, defBody s_ManagedHeap_layout, defScope s_ManagedHeap_layout, [], []⟩
def d_ManagedHeap_number_at : He.DefD := ⟨("ManagedHeap", some "number_at"), "number_at", "ManagedHeap.number_at", defArgs s_ManagedHeap_number_at, defBody s_ManagedHeap_number_at, defScope s_ManagedHeap_number_at, [], []⟩
def d_ManagedHeap_word : He.DefD := ⟨("ManagedHeap", some "word"), "word", "ManagedHeap.word", defArgs s_ManagedHeap_word, defBody s_ManagedHeap_word, defScope s_ManagedHeap_word, [], []⟩
def d_ManagedHeap_words : He.DefD := ⟨("ManagedHeap", some "words"), "words", "ManagedHeap.words", defArgs s_ManagedHeap_words, defBody s_ManagedHeap_words, defScope s_ManagedHeap_words, [], []⟩
def d_ManagedHeap_relocate : He.DefD := ⟨("ManagedHeap", some "relocate"), "relocate", "ManagedHeap.relocate", defArgs s_ManagedHeap_relocate, defBody s_ManagedHeap_relocate, defScope s_ManagedHeap_relocate, [], []⟩
def d_ManagedHeap_moving : He.DefD := ⟨("ManagedHeap", some "moving"), "moving", "ManagedHeap.moving", defArgs s_ManagedHeap_moving, defBody s_ManagedHeap_moving, defScope s_ManagedHeap_moving, [], []⟩
def d_ManagedHeap_do_allocate : He.DefD := ⟨("ManagedHeap", some "do_allocate"), "do_allocate", "ManagedHeap.do_allocate", defArgs s_ManagedHeap_do_allocate, defBody s_ManagedHeap_do_allocate, defScope s_ManagedHeap_do_allocate, [], []⟩
def d_ManagedHeap_do_release : He.DefD := ⟨("ManagedHeap", some "do_release"), "do_release", "ManagedHeap.do_release", defArgs s_ManagedHeap_do_release, defBody s_ManagedHeap_do_release, defScope s_ManagedHeap_do_release, [], []⟩
def d_ManagedHeap_do_collect : He.DefD := ⟨("ManagedHeap", some "do_collect"), "do_collect", "ManagedHeap.do_collect", defArgs s_ManagedHeap_do_collect, defBody s_ManagedHeap_do_collect, defScope s_ManagedHeap_do_collect, [], []⟩
def d_ManagedHeap_do_compact : He.DefD := ⟨("ManagedHeap", some "do_compact"), "do_compact", "ManagedHeap.do_compact", defArgs s_ManagedHeap_do_compact, defBody s_ManagedHeap_do_compact, defScope s_ManagedHeap_do_compact, [], []⟩
def d_ManagedHeap_do_slide : He.DefD := ⟨("ManagedHeap", some "do_slide"), "do_slide", "ManagedHeap.do_slide", defArgs s_ManagedHeap_do_slide, defBody s_ManagedHeap_do_slide, defScope s_ManagedHeap_do_slide, [], []⟩
def d_ManagedHeap_perform : He.DefD := ⟨("ManagedHeap", some "perform"), "perform", "ManagedHeap.perform", defArgs s_ManagedHeap_perform, defBody s_ManagedHeap_perform, defScope s_ManagedHeap_perform, [], []⟩
def d_ManagedHeap_change : He.DefD := ⟨("ManagedHeap", some "change"), "change", "ManagedHeap.change", defArgs s_ManagedHeap_change, defBody s_ManagedHeap_change, defScope s_ManagedHeap_change, [], []⟩
def d_ManagedHeap_write : He.DefD := ⟨("ManagedHeap", some "write"), "write", "ManagedHeap.write", defArgs s_ManagedHeap_write, defBody s_ManagedHeap_write, defScope s_ManagedHeap_write, [], []⟩
def d_ManagedHeap_compact : He.DefD := ⟨("ManagedHeap", some "compact"), "compact", "ManagedHeap.compact", defArgs s_ManagedHeap_compact, defBody s_ManagedHeap_compact, defScope s_ManagedHeap_compact, [], []⟩
def d_ManagedHeap_slide : He.DefD := ⟨("ManagedHeap", some "slide"), "slide", "ManagedHeap.slide", defArgs s_ManagedHeap_slide, defBody s_ManagedHeap_slide, defScope s_ManagedHeap_slide, [], []⟩
def d_ManagedHeap_branch : He.DefD := ⟨("ManagedHeap", some "branch"), "branch", "ManagedHeap.branch", defArgs s_ManagedHeap_branch, defBody s_ManagedHeap_branch, defScope s_ManagedHeap_branch, [], []⟩
def fn : List He.DefD := [d_slider_of, d_gaps, d_canonical, d_relocation_map, d_slide_left, d_places, d_first_place, d_place_block, d_target_of, d_policy_heap, d__law_cell, d__law_row, d__law_box, d__law_draw, d__law_value, d__law_deed, d__law_change, d_law, d_Slider___init__, d_Slider_layout, d_Slider_cell, d_Slider_write, d_Slider_begin, d_Slider_finish, d_Slider_step, d_Slider_work, d_Store___init__, d_Store_copy, d_Store_numbers, d_Store_fields, d_Store_make, d_Store_read, d_Store_write, d_Store_is_referenced, d_Store_release, d_Store_add_root, d_Store_remove_root, d_Store_reachable, d_Store_collect, d_PolicyManager___init__, d_PolicyManager_place, d_State___init__, d_State_copy, d_ManagedHeap___init__, d_ManagedHeap_layout, d_ManagedHeap_number_at, d_ManagedHeap_word, d_ManagedHeap_words, d_ManagedHeap_relocate, d_ManagedHeap_moving, d_ManagedHeap_do_allocate, d_ManagedHeap_do_release, d_ManagedHeap_do_collect, d_ManagedHeap_do_compact, d_ManagedHeap_do_slide, d_ManagedHeap_perform, d_ManagedHeap_change, d_ManagedHeap_write, d_ManagedHeap_compact, d_ManagedHeap_slide, d_ManagedHeap_branch]
def fa : List He.Fa := [.glo "slider_of", .glo "gaps", .glo "canonical", .glo "relocation_map", .glo "slide_left", .glo "places", .glo "first_place", .glo "place_block",
  .glo "target_of", .glo "policy_heap", .glo "_law_cell", .glo "_law_row", .glo "_law_box", .glo "_law_draw", .glo "_law_value", .glo "_law_deed",
  .glo "_law_change", .glo "law", .glo "Slider", .glo "Store", .glo "PolicyManager", .glo "State", .glo "ManagedHeap", .glo "OutOfMemory",
  .glo "NotAllowed", .glo "NoRoom", .glo "NoSuchObject", .glo "NoSuchField", .glo "StillUsed", .glo "HeapgameError", .glo "StrategyDecides", .free "len",
  .free "sorted", .free "range", .free "isinstance", .free "tuple", .free "list", .free "dict", .free "set", .free "zip",
  .free "enumerate", .free "max", .free "int", .free "super", .cls "Slider", .mkr "Slider", .noat "Slider" "words", .noat "Slider" "starts",
  .noat "Slider" "lengths", .noat "Slider" "moving", .noat "Slider" "target", .noat "Slider" "copied", .meth "Slider" "layout", .meth "Slider" "cell", .meth "Slider" "write", .meth "Slider" "begin",
  .meth "Slider" "finish", .meth "Slider" "step", .meth "Slider" "work", .cls "Store", .mkr "Store", .noat "Store" "objects", .noat "Store" "roots", .noat "Store" "next_number",
  .meth "Store" "copy", .meth "Store" "numbers", .meth "Store" "fields", .meth "Store" "make", .meth "Store" "read", .meth "Store" "write", .meth "Store" "is_referenced", .meth "Store" "release",
  .meth "Store" "add_root", .meth "Store" "remove_root", .meth "Store" "reachable", .meth "Store" "collect", .cls "PolicyManager", .mkr "PolicyManager", .noat "PolicyManager" "size", .noat "PolicyManager" "policy",
  .noat "PolicyManager" "strategy", .meth "PolicyManager" "place", .cls "State", .mkr "State", .noat "State" "store", .noat "State" "starts", .noat "State" "cursor", .meth "State" "copy",
  .cls "ManagedHeap", .mkr "ManagedHeap", .noat "ManagedHeap" "manager", .noat "ManagedHeap" "state", .noat "ManagedHeap" "earlier", .noat "ManagedHeap" "events", .meth "ManagedHeap" "layout", .meth "ManagedHeap" "number_at",
  .meth "ManagedHeap" "word", .meth "ManagedHeap" "words", .meth "ManagedHeap" "relocate", .meth "ManagedHeap" "moving", .meth "ManagedHeap" "do_allocate", .meth "ManagedHeap" "do_release", .meth "ManagedHeap" "do_collect", .meth "ManagedHeap" "do_compact",
  .meth "ManagedHeap" "do_slide", .meth "ManagedHeap" "perform", .meth "ManagedHeap" "change", .meth "ManagedHeap" "write", .meth "ManagedHeap" "compact", .meth "ManagedHeap" "slide", .meth "ManagedHeap" "branch", .exm "NoSuchObject" "NoSuchObject" true,
  .exm "NoSuchObject" "HeapgameError" true, .exm "NoSuchField" "NoSuchObject" false, .exm "NoSuchField" "NoSuchField" true, .exm "NoSuchField" "HeapgameError" true, .exm "StillUsed" "NoSuchObject" false, .exm "StillUsed" "NoSuchField" false, .exm "StillUsed" "StillUsed" true, .exm "StillUsed" "HeapgameError" true,
  .exm "OutOfMemory" "NoSuchObject" false, .exm "OutOfMemory" "NoSuchField" false, .exm "OutOfMemory" "StillUsed" false, .exm "OutOfMemory" "OutOfMemory" true, .exm "OutOfMemory" "HeapgameError" true]
def xs : List (Str × Stmt × List Str) := [("NoSuchObject", s_NoSuchObject___init__, ["number"]), ("NoSuchField", s_NoSuchField___init__, ["index"]), ("StillUsed", s_StillUsed___init__, ["number", "reason"]), ("OutOfMemory", s_OutOfMemory___init__, ["length"])]
abbrev AlK : Type := He.AlD × (Bool × List XV)
def obsK (fa : List He.Fa) (fn : List He.DefD) (xs : List (Str × Stmt × List Str)) (g : Addr → Option Obj) : AlK :=
  (He.obsD fa fn (He.frG g (asK g)), (xs.all fun q => xB (He.frG g (asK g)) q.1 q.2.2, xs.map fun q => xObs (He.frG g (asK g)) q.1))
def valK (fn : List He.DefD) (xs : List (Str × Stmt × List Str)) : AlK := (He.valD fn, (true, xs.map fun q => xVal q.1 q.2.1))
def xsSay (xs : List (Str × Stmt × List Str)) (K : PySem.W.Frag) : Prop := (xs.all fun q => xB K q.1 q.2.2) = true ∧ (xs.map fun q => xObs K q.1) = xs.map fun q => xVal q.1 q.2.1
def hookK (fa : List He.Fa) (fn : List He.DefD) (xs : List (Str × Stmt × List Str)) : PySem.W.Hook where
  α := AlK
  obs := fun s => obsK fa fn xs s.heap.get?
  val := fun _ => valK fn xs
  says := fun _ h => ∃ K : PySem.W.Frag, K.In h ∧ He.SaysD fa fn K ∧ xsSay xs K
  of := fun _ _ e => ⟨_, He.frG_in, congrArg (fun z : AlK => z.1) e, congrArg (fun z : AlK => z.2.1) e, congrArg (fun z : AlK => z.2.2) e⟩
  keeps := fun _ _ _ ⟨K, hK, c⟩ k => ⟨K, PySem.W.Frag.In.keeps hK k, c⟩
theorem obsK_eq {fa : List He.Fa} {fn : List He.DefD} {xs : List (Str × Stmt × List Str)} {g : Addr → Option Obj} {s : Shared} (h : ∀ a, g a = s.heap.get? a) : obsK fa fn xs g = (hookK fa fn xs).obs s := by
  have e : g = s.heap.get? := funext h
  rw [e] <;> rfl
abbrev xsAll (K : PySem.W.Frag) : Prop := xsSay xs K
theorem xs_at {K : PySem.W.Frag} (e : xsAll K) (i : Nat) {q : Str × Stmt × List Str} (h : xs[i]? = some q := by rfl) : xObs K q.1 = xVal q.1 q.2.1 ∧ xB K q.1 q.2.2 = true := by
  obtain ⟨e1, e2⟩ := e
  have hq : q ∈ xs := List.mem_of_getElem? h
  refine ⟨?_, List.all_eq_true.mp e1 q hq⟩
  have e3 : (xs.map fun q => xObs K q.1)[i]? = (xs.map fun q => xVal q.1 q.2.1)[i]? := by rw [e2]
  rw [List.getElem?_map, List.getElem?_map, h] at e3
  exact Option.some.inj e3
theorem top_of {K : PySem.W.Frag} {h : Heap} {mg : Str → Option Value} (X : K.In h) (G : h.Ns mainGlobals mg) (c : He.SaysD fa fn K) (e : xsAll K) : Top K mg where
  mg_slider_of := He.glo_ok X G (c.fact 0)
  mg_gaps := He.glo_ok X G (c.fact 1)
  mg_canonical := He.glo_ok X G (c.fact 2)
  mg_relocation_map := He.glo_ok X G (c.fact 3)
  mg_slide_left := He.glo_ok X G (c.fact 4)
  mg_places := He.glo_ok X G (c.fact 5)
  mg_first_place := He.glo_ok X G (c.fact 6)
  mg_place_block := He.glo_ok X G (c.fact 7)
  mg_target_of := He.glo_ok X G (c.fact 8)
  mg_policy_heap := He.glo_ok X G (c.fact 9)
  mg__law_cell := He.glo_ok X G (c.fact 10)
  mg__law_row := He.glo_ok X G (c.fact 11)
  mg__law_box := He.glo_ok X G (c.fact 12)
  mg__law_draw := He.glo_ok X G (c.fact 13)
  mg__law_value := He.glo_ok X G (c.fact 14)
  mg__law_deed := He.glo_ok X G (c.fact 15)
  mg__law_change := He.glo_ok X G (c.fact 16)
  mg_law := He.glo_ok X G (c.fact 17)
  mg_Slider := He.glo_ok X G (c.fact 18)
  mg_Store := He.glo_ok X G (c.fact 19)
  mg_PolicyManager := He.glo_ok X G (c.fact 20)
  mg_State := He.glo_ok X G (c.fact 21)
  mg_ManagedHeap := He.glo_ok X G (c.fact 22)
  mg_OutOfMemory := He.glo_ok X G (c.fact 23)
  mg_NotAllowed := He.glo_ok X G (c.fact 24)
  mg_NoRoom := He.glo_ok X G (c.fact 25)
  mg_NoSuchObject := He.glo_ok X G (c.fact 26)
  mg_NoSuchField := He.glo_ok X G (c.fact 27)
  mg_StillUsed := He.glo_ok X G (c.fact 28)
  mg_HeapgameError := He.glo_ok X G (c.fact 29)
  mg_StrategyDecides := He.glo_ok X G (c.fact 30)
  fr_len := He.free_ok X G (c.fact 31)
  fr_sorted := He.free_ok X G (c.fact 32)
  fr_range := He.free_ok X G (c.fact 33)
  fr_isinstance := He.free_ok X G (c.fact 34)
  fr_tuple := He.free_ok X G (c.fact 35)
  fr_list := He.free_ok X G (c.fact 36)
  fr_dict := He.free_ok X G (c.fact 37)
  fr_set := He.free_ok X G (c.fact 38)
  fr_zip := He.free_ok X G (c.fact 39)
  fr_enumerate := He.free_ok X G (c.fact 40)
  fr_max := He.free_ok X G (c.fact 41)
  fr_int := He.free_ok X G (c.fact 42)
  fr_super := He.free_ok X G (c.fact 43)
  cl_Slider := He.cls_ok (c.fact 44)
  mk_Slider := He.mkr_ok (c.fact 45)
  na_Slider_words := He.noat_ok (c.fact 46)
  na_Slider_starts := He.noat_ok (c.fact 47)
  na_Slider_lengths := He.noat_ok (c.fact 48)
  na_Slider_moving := He.noat_ok (c.fact 49)
  na_Slider_target := He.noat_ok (c.fact 50)
  na_Slider_copied := He.noat_ok (c.fact 51)
  me_Slider_layout := He.meth_ok (c.fact 52)
  me_Slider_cell := He.meth_ok (c.fact 53)
  me_Slider_write := He.meth_ok (c.fact 54)
  me_Slider_begin := He.meth_ok (c.fact 55)
  me_Slider_finish := He.meth_ok (c.fact 56)
  me_Slider_step := He.meth_ok (c.fact 57)
  me_Slider_work := He.meth_ok (c.fact 58)
  cl_Store := He.cls_ok (c.fact 59)
  mk_Store := He.mkr_ok (c.fact 60)
  na_Store_objects := He.noat_ok (c.fact 61)
  na_Store_roots := He.noat_ok (c.fact 62)
  na_Store_next_number := He.noat_ok (c.fact 63)
  me_Store_copy := He.meth_ok (c.fact 64)
  me_Store_numbers := He.meth_ok (c.fact 65)
  me_Store_fields := He.meth_ok (c.fact 66)
  me_Store_make := He.meth_ok (c.fact 67)
  me_Store_read := He.meth_ok (c.fact 68)
  me_Store_write := He.meth_ok (c.fact 69)
  me_Store_is_referenced := He.meth_ok (c.fact 70)
  me_Store_release := He.meth_ok (c.fact 71)
  me_Store_add_root := He.meth_ok (c.fact 72)
  me_Store_remove_root := He.meth_ok (c.fact 73)
  me_Store_reachable := He.meth_ok (c.fact 74)
  me_Store_collect := He.meth_ok (c.fact 75)
  cl_PolicyManager := He.cls_ok (c.fact 76)
  mk_PolicyManager := He.mkr_ok (c.fact 77)
  na_PolicyManager_size := He.noat_ok (c.fact 78)
  na_PolicyManager_policy := He.noat_ok (c.fact 79)
  na_PolicyManager_strategy := He.noat_ok (c.fact 80)
  me_PolicyManager_place := He.meth_ok (c.fact 81)
  cl_State := He.cls_ok (c.fact 82)
  mk_State := He.mkr_ok (c.fact 83)
  na_State_store := He.noat_ok (c.fact 84)
  na_State_starts := He.noat_ok (c.fact 85)
  na_State_cursor := He.noat_ok (c.fact 86)
  me_State_copy := He.meth_ok (c.fact 87)
  cl_ManagedHeap := He.cls_ok (c.fact 88)
  mk_ManagedHeap := He.mkr_ok (c.fact 89)
  na_ManagedHeap_manager := He.noat_ok (c.fact 90)
  na_ManagedHeap_state := He.noat_ok (c.fact 91)
  na_ManagedHeap_earlier := He.noat_ok (c.fact 92)
  na_ManagedHeap_events := He.noat_ok (c.fact 93)
  me_ManagedHeap_layout := He.meth_ok (c.fact 94)
  me_ManagedHeap_number_at := He.meth_ok (c.fact 95)
  me_ManagedHeap_word := He.meth_ok (c.fact 96)
  me_ManagedHeap_words := He.meth_ok (c.fact 97)
  me_ManagedHeap_relocate := He.meth_ok (c.fact 98)
  me_ManagedHeap_moving := He.meth_ok (c.fact 99)
  me_ManagedHeap_do_allocate := He.meth_ok (c.fact 100)
  me_ManagedHeap_do_release := He.meth_ok (c.fact 101)
  me_ManagedHeap_do_collect := He.meth_ok (c.fact 102)
  me_ManagedHeap_do_compact := He.meth_ok (c.fact 103)
  me_ManagedHeap_do_slide := He.meth_ok (c.fact 104)
  me_ManagedHeap_perform := He.meth_ok (c.fact 105)
  me_ManagedHeap_change := He.meth_ok (c.fact 106)
  me_ManagedHeap_write := He.meth_ok (c.fact 107)
  me_ManagedHeap_compact := He.meth_ok (c.fact 108)
  me_ManagedHeap_slide := He.meth_ok (c.fact 109)
  me_ManagedHeap_branch := He.meth_ok (c.fact 110)
  ex_NoSuchObject_NoSuchObject := He.exm_ok (c.fact 111)
  ex_NoSuchObject_HeapgameError := He.exm_ok (c.fact 112)
  ex_NoSuchField_NoSuchObject := He.exm_ok (c.fact 113)
  ex_NoSuchField_NoSuchField := He.exm_ok (c.fact 114)
  ex_NoSuchField_HeapgameError := He.exm_ok (c.fact 115)
  ex_StillUsed_NoSuchObject := He.exm_ok (c.fact 116)
  ex_StillUsed_NoSuchField := He.exm_ok (c.fact 117)
  ex_StillUsed_StillUsed := He.exm_ok (c.fact 118)
  ex_StillUsed_HeapgameError := He.exm_ok (c.fact 119)
  ex_OutOfMemory_NoSuchObject := He.exm_ok (c.fact 120)
  ex_OutOfMemory_NoSuchField := He.exm_ok (c.fact 121)
  ex_OutOfMemory_StillUsed := He.exm_ok (c.fact 122)
  ex_OutOfMemory_OutOfMemory := He.exm_ok (c.fact 123)
  ex_OutOfMemory_HeapgameError := He.exm_ok (c.fact 124)
  d_slider_of := c.def_ 0
  d_gaps := c.def_ 1
  d_canonical := c.def_ 2
  d_relocation_map := c.def_ 3
  d_slide_left := c.def_ 4
  d_places := c.def_ 5
  d_first_place := c.def_ 6
  d_place_block := c.def_ 7
  d_target_of := c.def_ 8
  d_policy_heap := c.def_ 9
  d__law_cell := c.def_ 10
  d__law_row := c.def_ 11
  d__law_box := c.def_ 12
  d__law_draw := c.def_ 13
  d__law_value := c.def_ 14
  d__law_deed := c.def_ 15
  d__law_change := c.def_ 16
  d_law := c.def_ 17
  d_Slider___init__ := c.def_ 18
  d_Slider_layout := c.def_ 19
  d_Slider_cell := c.def_ 20
  d_Slider_write := c.def_ 21
  d_Slider_begin := c.def_ 22
  d_Slider_finish := c.def_ 23
  d_Slider_step := c.def_ 24
  d_Slider_work := c.def_ 25
  d_Store___init__ := c.def_ 26
  d_Store_copy := c.def_ 27
  d_Store_numbers := c.def_ 28
  d_Store_fields := c.def_ 29
  d_Store_make := c.def_ 30
  d_Store_read := c.def_ 31
  d_Store_write := c.def_ 32
  d_Store_is_referenced := c.def_ 33
  d_Store_release := c.def_ 34
  d_Store_add_root := c.def_ 35
  d_Store_remove_root := c.def_ 36
  d_Store_reachable := c.def_ 37
  d_Store_collect := c.def_ 38
  d_PolicyManager___init__ := c.def_ 39
  d_PolicyManager_place := c.def_ 40
  d_State___init__ := c.def_ 41
  d_State_copy := c.def_ 42
  d_ManagedHeap___init__ := c.def_ 43
  d_ManagedHeap_layout := c.def_ 44
  d_ManagedHeap_number_at := c.def_ 45
  d_ManagedHeap_word := c.def_ 46
  d_ManagedHeap_words := c.def_ 47
  d_ManagedHeap_relocate := c.def_ 48
  d_ManagedHeap_moving := c.def_ 49
  d_ManagedHeap_do_allocate := c.def_ 50
  d_ManagedHeap_do_release := c.def_ 51
  d_ManagedHeap_do_collect := c.def_ 52
  d_ManagedHeap_do_compact := c.def_ 53
  d_ManagedHeap_do_slide := c.def_ 54
  d_ManagedHeap_perform := c.def_ 55
  d_ManagedHeap_change := c.def_ 56
  d_ManagedHeap_write := c.def_ 57
  d_ManagedHeap_compact := c.def_ 58
  d_ManagedHeap_slide := c.def_ 59
  d_ManagedHeap_branch := c.def_ 60
  x_NoSuchObject := sx_ok X G (xs_at e 0)
  x_NoSuchField := sx_ok X G (xs_at e 1)
  x_StillUsed := sx_ok X G (xs_at e 2)
  x_OutOfMemory := sx_ok X G (xs_at e 3)
abbrev R : PySem.W.OpenRow := PySem.W.OpenLaw.row PySem.Challenge.rw_heapgame_k96_whole_slides_are_compaction
abbrev hk : PySem.W.Hook := hookK fa fn xs
def ob (s : PySem.W.SharedT) : AlK := obsK fa fn xs (HandSHeadRun.getT s)
theorem ob_eq (s : PySem.W.SharedT) : ob s = hk.obs s.abs := obsK_eq (HandSHeadRun.getT_eq s)
def looseN : List PySem.Str := (["_wall", "HeapgameError", "OutOfMemory", "NotAllowed", "NoRoom", "NoSuchObject", "NoSuchField", "StillUsed"] : List PySem.Str) ++ (["StrategyDecides", "Slider", "slider_of", "gaps", "canonical", "relocation_map", "slide_left", "lesser"] : List PySem.Str) ++ (["put_block", "put_room", "cheapest_room", "places", "first_place", "place_block", "target_of", "Store"] : List PySem.Str) ++ (["PolicyManager", "State", "ManagedHeap", "policy_heap", "_law_cell", "_law_row", "_law_box", "_law_draw"] : List PySem.Str) ++ (["_law_value", "_law_deed", "_law_change"] : List PySem.Str)
theorem run (w : World) : HandSHeadRun.RunEq R (PySem.W.view R.prog [44]) hk ob 8000 looseN w := by
  intro os
  kernel_rfl
def spLaw (K : PySem.W.Frag) : Sp := fun vs H Q _ => ∃ (a : Addr) (ns : List Int), vs = [.ref a] ∧ SqL K H a (ns.map V.int) ∧ ns.length ≤ 63 ∧ ∀ H', Q (.bl true) H'
end K96
open PySem PySem.W PySem.Calls PyProof.Rows
theorem K96.holds_of (k : Nat) (hr : L2.Room k callerA) (hlaw : ∀ (w : World) (K : PySem.W.Frag) (mg : Str → Option Value) (base : Heap), K96.Top K mg → ∀ fd, L2.FunD K "law" "law" (L2.defArgs K96.s_law) (L2.defBody K96.s_law) (L2.defScope K96.s_law) [] [] (He.ga K "law") fd → L2.FnOk K96.Pg w K mg base L2.CX0 k (He.ga K "law") fd ["_law_script"] (K96.spLaw K)) : PySem.Challenge.rw_heapgame_k96_whole_slides_are_compaction.Holds := by
  w_on; o_law
  refine HandSHeadRun.head_any (r := OpenLaw.row PySem.Challenge.rw_heapgame_k96_whole_slides_are_compaction) (q := view (OpenLaw.row PySem.Challenge.rw_heapgame_k96_whole_slides_are_compaction).prog [44]) (H := K96.hk) (ob := K96.ob) (M := 8000) (loose := K96.looseN) (d := HandSHeadRun.topDef (OpenLaw.row PySem.Challenge.rw_heapgame_k96_whole_slides_are_compaction).prog 44) (kwd := []) K96.ob_eq
    (by kernel_rfl) (fun s => by kernel_rfl) K96.run (by kernel_rfl) (by kernel_rfl) (by kernel_rfl) (by rfl) (by first | assumption | decide +kernel) (by decide +kernel) ⟨rfl, rfl, rfl, rfl, rfl, by decide +kernel⟩ ?hw ?hc
  case hw => w_witness2
  case hc =>
    refine L2.walk_ofE (l := PySem.Challenge.rw_heapgame_k96_whole_slides_are_compaction) (n := 63) (k := k) (x := "_law_script") (CX := L2.CX0) rfl (by decide) (by kernel_rfl) hr ?F (fun _ _ _ _ z => z)
    intro w mg fa h Y G hmg0
    obtain ⟨K, KX, c, e⟩ := Y
    have T : K96.Top K mg := K96.top_of KX G c e
    have hmg : mg ("law" : PySem.Str) = some (.ref fa) := by
      have e : (HandSHeadRun.topDef (OpenLaw.row PySem.Challenge.rw_heapgame_k96_whole_slides_are_compaction).prog 44).name = ("law" : PySem.Str) := by kernel_rfl
      rw [← e]
      exact hmg0
    have efa : fa = He.ga K "law" := by
      have z := T.mg_law.symm.trans hmg
      exact (Value.ref.inj (Option.some.inj z)).symm
    subst efa
    obtain ⟨fd, F⟩ := T.d_law
    have b := L2.FunD.bindsA (ps := ["_law_script"]) F fun _ _ _ _ _ _ us hl => match us, hl with | [_], _ => rfl
    refine ⟨K, fd, K96.spLaw K, KX, fun s v => b s [v] rfl, fun H a ns hl _ hS => ⟨a, ns, rfl, hS, hl, fun _ => rfl⟩, fun base _ _ => hlaw w K mg base T fd F⟩
theorem PySem.Challenge.cw_heapgame_k96_whole_slides_are_compaction_holds : PySem.Challenge.rw_heapgame_k96_whole_slides_are_compaction.Holds := by
  refine K96.holds_of 10 ⟨rfl, by decide, by decide⟩ fun w K mg base T fd F => ?_
  exact K96.ok_Law T F (K96.spLaw K) fun vs H Q E h => by
    obtain ⟨a, ns, e1, e2, _, e4⟩ := h
    exact ⟨a, ns, e1, e2, e4⟩
