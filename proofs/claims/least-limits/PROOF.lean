import PyProof.Rows.All
import Wide.All
import OpenK.AllK
import Wide.FinOn
import HandS.ForMost
import HandS.TupAny
import HandS.Zip
import HandS.Style
import KE.DataMinMax
import KE.KDictKeyed
import HandS.Star
import HandS.OwnIter
import HandS.IsInst
import HandS.Walk
import PySem.Challenge.RW_leastmoved_k50_whole_least_limits

section
set_option autoImplicit false
namespace LM

/-! lists of ints by place -/
def nth (l : List Int) (i : Nat) : Int := l.getD i 0
def addAt (l : List Int) (i : Nat) (d : Int) : List Int := l.set i (nth l i + d)
theorem addAt_length (l : List Int) (i : Nat) (d : Int) : (addAt l i d).length = l.length := by simp [addAt]
theorem nth_addAt {l : List Int} {i : Nat} (h : i < l.length) (d : Int) (j : Nat) : nth (addAt l i d) j = nth l j + if j = i then d else 0 := by
  unfold addAt nth
  by_cases e : j = i
  · subst e
    simp [List.getD_eq_getElem?_getD, h]
  · have e' : ¬ i = j := fun q => e q.symm
    simp [List.getD_eq_getElem?_getD, e, List.getElem?_set_ne e']
theorem nth_of_le {l : List Int} {i : Nat} (h : l.length ≤ i) : nth l i = 0 := by
  unfold nth; simp [List.getD_eq_getElem?_getD, h]
theorem nth_eq {l : List Int} {i : Nat} (h : i < l.length) : nth l i = l[i] := by
  unfold nth; simp [List.getD_eq_getElem?_getD, h]
theorem sum_addAt {l : List Int} {i : Nat} (h : i < l.length) (d : Int) : (addAt l i d).sum = l.sum + d := by
  unfold addAt
  induction l generalizing i with
  | nil => simp at h
  | cons a r ih =>
    cases i with
    | zero => simp [nth]; omega
    | succ i =>
      have h' : i < r.length := by simpa using h
      have := ih h'
      have e : nth (a :: r) (i + 1) = nth r i := by simp [nth, List.getD_eq_getElem?_getD]
      simp only [List.set_cons_succ, List.sum_cons, e]
      omega
theorem sum_nonneg {l : List Int} (h : ∀ i, i < l.length → 0 ≤ nth l i) : 0 ≤ l.sum := by
  induction l with
  | nil => simp
  | cons a r ih =>
    have h0 := h 0 (by simp)
    have := ih fun i hi => by
      have := h (i + 1) (by simpa using hi)
      simpa [nth, List.getD_eq_getElem?_getD] using this
    have e : nth (a :: r) 0 = a := by simp [nth]
    rw [e] at h0
    rw [List.sum_cons]; omega
theorem zero_of_sum {l : List Int} (h : ∀ i, i < l.length → 0 ≤ nth l i) (hs : l.sum = 0) : ∀ i, nth l i = 0 := by
  induction l with
  | nil => intro i; simp [nth]
  | cons a r ih =>
    have h0 := h 0 (by simp)
    have hr : ∀ i, i < r.length → 0 ≤ nth r i := fun i hi => by
      have := h (i + 1) (by simpa using hi)
      simpa [nth, List.getD_eq_getElem?_getD] using this
    have hn := sum_nonneg hr
    have e : nth (a :: r) 0 = a := by simp [nth]
    rw [e] at h0
    rw [List.sum_cons] at hs
    have ha : a = 0 := by omega
    have := ih hr (by omega)
    intro i
    cases i with
    | zero => rw [e, ha]
    | succ i => have := this i; simpa [nth, List.getD_eq_getElem?_getD] using this
theorem exists_pos_of_sum {l : List Int} (hs : 0 < l.sum) : ∃ i, i < l.length ∧ 0 < nth l i := by
  induction l with
  | nil => simp at hs
  | cons a r ih =>
    rw [List.sum_cons] at hs
    by_cases ha : 0 < a
    · exact ⟨0, by simp, by simpa [nth] using ha⟩
    · obtain ⟨i, h1, h2⟩ := ih (by omega)
      exact ⟨i + 1, by simpa using h1, by simpa [nth, List.getD_eq_getElem?_getD] using h2⟩

/-! the step: what is left to be decided -/
/-- the places with a positive number -/
def posOf (e : List Int) : List Nat := (List.range e.length).filter fun i => decide (0 < nth e i)
theorem mem_posOf {e : List Int} {i : Nat} : i ∈ posOf e ↔ i < e.length ∧ 0 < nth e i := by simp [posOf]
def rawOpts (w l e : List Int) (v : Nat) : List Nat := (if nth l v < nth w v then [v] else []) ++ (if 0 < nth l v then posOf e else [])
def srt (l : List Nat) : List Nat := l.mergeSort fun a b => decide (a ≤ b)
def opts (w l e : List Int) (v : Nat) (f : Bool) : List Nat := if f = true then srt (rawOpts w l e v) else [v]
theorem mem_opts {w l e : List Int} {v : Nat} {f : Bool} {o : Nat} : o ∈ opts w l e v f ↔ (f = false ∧ o = v) ∨ (f = true ∧ ((o = v ∧ nth l v < nth w v) ∨ (0 < nth l v ∧ o < e.length ∧ 0 < nth e o))) := by
  unfold opts srt rawOpts
  cases f with
  | false => simp
  | true =>
    simp only [if_true, List.mem_mergeSort, List.mem_append]
    constructor
    · rintro (h | h)
      · split at h
        · rename_i hc; simp at h; exact .inr ⟨trivial, .inl ⟨h, hc⟩⟩
        · simp at h
      · split at h
        · rename_i hc; exact .inr ⟨trivial, .inr ⟨hc, mem_posOf.mp h⟩⟩
        · simp at h
    · rintro (⟨h, _⟩ | ⟨_, ⟨rfl, h⟩ | ⟨h1, h2⟩⟩)
      · cases h
      · left; rw [if_pos h]; simp
      · right; rw [if_pos h1]; exact mem_posOf.mpr h2
def tkW (w : List Int) (v : Nat) (f : Bool) : List Int := addAt w v (-(if f = true then 1 else 0))
def tkL (l : List Int) (v o : Nat) : List Int := if o ≠ v then addAt l v (-1) else l
def tkE (e : List Int) (v o : Nat) : List Int := if o ≠ v then addAt e o (-1) else e

/-- the rows that can be chosen, in the order in which they are tried -/
def comps : (w l e : List Int) → List (Nat × Bool) → List (List Nat)
  | _, _, _, [] => [[]]
  | w, l, e, (v, f) :: r => (opts w l e v f).flatMap fun o => (comps (tkW w v f) (tkL l v o) (tkE e v o) r).map (o :: ·)

/-- how many free ones stand at v -/
def freeAt (ps : List (Nat × Bool)) (v : Nat) : Nat := ps.countP fun p => decide (p.1 = v) && p.2
def leaveC (qs : List ((Nat × Bool) × Nat)) (v : Nat) : Nat := qs.countP fun q => decide (q.1.1 = v) && !decide (q.2 = v)
def enterC (qs : List ((Nat × Bool) × Nat)) (v : Nat) : Nat := qs.countP fun q => decide (q.2 = v) && !decide (q.1.1 = v)

structure Bal (k : Nat) (w l e : List Int) (ps : List (Nat × Bool)) : Prop where
  wl : w.length = k
  ll : l.length = k
  el : e.length = k
  lt : ∀ p ∈ ps, p.1 < k
  wc : ∀ v, v < k → nth w v = freeAt ps v
  l0 : ∀ v, v < k → 0 ≤ nth l v
  lw : ∀ v, v < k → nth l v ≤ nth w v
  e0 : ∀ v, v < k → 0 ≤ nth e v
  su : l.sum = e.sum
  dj : ∀ v, v < k → nth l v = 0 ∨ nth e v = 0

structure Move (k : Nat) (l e : List Int) (ps : List (Nat × Bool)) (new : List Nat) : Prop where
  len : new.length = ps.length
  lt : ∀ x ∈ new, x < k
  free : ∀ q ∈ ps.zip new, q.2 = q.1.1 ∨ q.1.2 = true
  lv : ∀ v, v < k → (leaveC (ps.zip new) v : Int) = nth l v
  en : ∀ v, v < k → (enterC (ps.zip new) v : Int) = nth e v

theorem freeAt_cons (v : Nat) (f : Bool) (r : List (Nat × Bool)) (u : Nat) : freeAt ((v, f) :: r) u = freeAt r u + if v = u ∧ f = true then 1 else 0 := by
  unfold freeAt
  rw [List.countP_cons]
  congr 1
  by_cases h : v = u <;> cases f <;> simp [h]
theorem leaveC_cons (v : Nat) (f : Bool) (o : Nat) (qs : List ((Nat × Bool) × Nat)) (u : Nat) : leaveC (((v, f), o) :: qs) u = leaveC qs u + if v = u ∧ o ≠ v then 1 else 0 := by
  unfold leaveC
  rw [List.countP_cons]
  congr 1
  by_cases h : v = u
  · subst h; by_cases h2 : o = v <;> simp [h2]
  · simp [h]
theorem enterC_cons (v : Nat) (f : Bool) (o : Nat) (qs : List ((Nat × Bool) × Nat)) (u : Nat) : enterC (((v, f), o) :: qs) u = enterC qs u + if o = u ∧ o ≠ v then 1 else 0 := by
  unfold enterC
  rw [List.countP_cons]
  congr 1
  by_cases h : o = u
  · subst h
    by_cases h2 : o = v
    · simp [h2]
    · have : ¬ v = o := fun q => h2 q.symm
      simp [h2, this]
  · simp [h]

theorem nth_tkW {k : Nat} {w : List Int} {v : Nat} {f : Bool} (h : w.length = k) (hv : v < k) (u : Nat) : nth (tkW w v f) u = nth w u - if u = v ∧ f = true then 1 else 0 := by
  unfold tkW
  rw [nth_addAt (by omega)]
  by_cases e : u = v <;> cases f <;> simp [e] <;> omega
theorem nth_tkL {k : Nat} {l : List Int} {v o : Nat} (h : l.length = k) (hv : v < k) (u : Nat) : nth (tkL l v o) u = nth l u - if u = v ∧ o ≠ v then 1 else 0 := by
  unfold tkL
  by_cases e : o = v
  · simp [e]
  · rw [if_pos e, nth_addAt (by omega)]
    by_cases e2 : u = v
    · subst e2; simp [e]; omega
    · simp [e2]
theorem nth_tkE {k : Nat} {e : List Int} {v o : Nat} (h : e.length = k) (ho : o < k) (u : Nat) : nth (tkE e v o) u = nth e u - if u = o ∧ o ≠ v then 1 else 0 := by
  unfold tkE
  by_cases q : o = v
  · simp [q]
  · rw [if_pos q, nth_addAt (by omega)]
    by_cases e2 : u = o
    · subst e2; simp [q]; omega
    · simp [e2]

theorem Bal.opt_ne {k : Nat} {w l e : List Int} {v : Nat} {f : Bool} {r : List (Nat × Bool)} (B : Bal k w l e ((v, f) :: r)) : opts w l e v f ≠ [] := by
  have hv : v < k := B.lt (v, f) (by simp)
  cases f with
  | false => simp [opts]
  | true =>
    have hw := B.wc v hv
    rw [freeAt_cons] at hw
    simp only [and_self, if_true] at hw
    by_cases h : nth l v < nth w v
    · intro q
      have : v ∈ opts w l e v true := mem_opts.mpr (.inr ⟨rfl, .inl ⟨rfl, h⟩⟩)
      rw [q] at this; simp at this
    · have h1 : 0 < nth l v := by
        have := B.lw v hv
        omega
      have h2 : 0 < l.sum := by
        have := sum_nonneg (l := l) (fun i hi => B.l0 i (by rw [← B.ll]; exact hi))
        by_cases hz : l.sum = 0
        · have := zero_of_sum (l := l) (fun i hi => B.l0 i (by rw [← B.ll]; exact hi)) hz v
          omega
        · omega
      rw [B.su] at h2
      obtain ⟨i, hi, hp⟩ := exists_pos_of_sum h2
      intro q
      have : i ∈ opts w l e v true := mem_opts.mpr (.inr ⟨rfl, .inr ⟨h1, hi, hp⟩⟩)
      rw [q] at this; simp at this

theorem Bal.opt_lt {k : Nat} {w l e : List Int} {v : Nat} {f : Bool} {r : List (Nat × Bool)} (B : Bal k w l e ((v, f) :: r)) {o : Nat} (ho : o ∈ opts w l e v f) : o < k := by
  have hv : v < k := B.lt (v, f) (by simp)
  rcases mem_opts.mp ho with ⟨_, rfl⟩ | ⟨_, ⟨rfl, _⟩ | ⟨_, h, _⟩⟩
  · exact hv
  · exact hv
  · rw [B.el] at h; exact h

theorem Bal.next {k : Nat} {w l e : List Int} {v : Nat} {f : Bool} {r : List (Nat × Bool)} (B : Bal k w l e ((v, f) :: r)) {o : Nat} (ho : o ∈ opts w l e v f) : Bal k (tkW w v f) (tkL l v o) (tkE e v o) r := by
  have hv : v < k := B.lt (v, f) (by simp)
  have hok : o < k := B.opt_lt ho
  have hw := B.wc v hv
  rw [freeAt_cons] at hw
  have hl0 := B.l0 v hv
  have hlw := B.lw v hv
  have hmem := mem_opts.mp ho
  have mv : o ≠ v → f = true ∧ 0 < nth l v ∧ 0 < nth e o := fun hne => by
    rcases hmem with ⟨_, rfl⟩ | ⟨h, ⟨rfl, _⟩ | ⟨h1, _, h2⟩⟩
    · exact absurd rfl hne
    · exact absurd rfl hne
    · exact ⟨h, h1, h2⟩
  have st : o = v → f = true → nth l v < nth w v := fun he hf => by
    subst he
    rcases hmem with ⟨h, _⟩ | ⟨_, ⟨_, h⟩ | ⟨h1, _, h2⟩⟩
    · rw [hf] at h; cases h
    · exact h
    · have := B.dj o hv
      omega
  refine ⟨by simp [tkW, addAt_length, B.wl], ?_, ?_, fun p hp => B.lt p (by simp [hp]), fun u hu => ?_, fun u hu => ?_, fun u hu => ?_, fun u hu => ?_, ?_, fun u hu => ?_⟩
  · unfold tkL; split <;> simp [addAt_length, B.ll]
  · unfold tkE; split <;> simp [addAt_length, B.el]
  · rw [nth_tkW B.wl hv, B.wc u hu, freeAt_cons]
    by_cases h : v = u
    · subst h; cases f <;> simp <;> omega
    · have : ¬ u = v := fun q => h q.symm
      simp [h, this]
  · rw [nth_tkL B.ll hv]
    have := B.l0 u hu
    by_cases h : u = v ∧ o ≠ v
    · rw [if_pos h]; obtain ⟨rfl, hne⟩ := h; have := (mv hne).2.1; omega
    · rw [if_neg h]; omega
  · rw [nth_tkL B.ll hv, nth_tkW B.wl hv]
    have := B.lw u hu
    by_cases h : u = v
    · subst h
      by_cases hne : o = u
      · have := st hne
        cases f with
        | true => have := this rfl; simp [hne]; omega
        | false => simp [hne]; omega
      · have := (mv hne).1
        simp [hne, this]; omega
    · simp [h]; omega
  · rw [nth_tkE B.el hok]
    have := B.e0 u hu
    by_cases h : u = o ∧ o ≠ v
    · rw [if_pos h]; obtain ⟨rfl, hne⟩ := h; have := (mv hne).2.2; omega
    · rw [if_neg h]; omega
  · unfold tkL tkE
    by_cases h : o = v
    · simp [h, B.su]
    · rw [if_pos h, if_pos h, sum_addAt (by rw [B.ll]; exact hv), sum_addAt (by rw [B.el]; exact hok), B.su]
  · rw [nth_tkL B.ll hv, nth_tkE B.el hok]
    have := B.dj u hu
    have h1 := B.l0 u hu
    have h2 := B.e0 u hu
    by_cases hne : o = v
    · simp [hne]; omega
    · obtain ⟨_, m1, m2⟩ := mv hne
      by_cases hu1 : u = v
      · subst hu1
        have : ¬ u = o := fun q => hne q.symm
        simp [this, hne]; omega
      · simp [hu1, hne]
        by_cases hu2 : u = o
        · subst hu2; simp; omega
        · simp [hu2]; omega

theorem comps_ne {k : Nat} : ∀ {ps : List (Nat × Bool)} {w l e : List Int}, Bal k w l e ps → comps w l e ps ≠ []
  | [], _, _, _, _ => by simp [comps]
  | (v, f) :: r, w, l, e, B => by
    intro h
    have ho := B.opt_ne
    cases q : opts w l e v f with
    | nil => exact ho q
    | cons o rest =>
      have hm : o ∈ opts w l e v f := by rw [q]; simp
      have := comps_ne (B.next hm)
      rw [comps, q, List.flatMap_cons, List.append_eq_nil_iff, List.map_eq_nil_iff] at h
      exact this h.1

theorem Move.of_mem {k : Nat} : ∀ {ps : List (Nat × Bool)} {w l e : List Int} {new : List Nat}, Bal k w l e ps → new ∈ comps w l e ps → Move k l e ps new
  | [], w, l, e, new, B, h => by
    have hn : new = [] := by simpa [comps] using h
    subst hn
    have hw : ∀ v, v < k → nth w v = 0 := fun v hv => by rw [B.wc v hv]; simp [freeAt]
    have hl : ∀ v, v < k → nth l v = 0 := fun v hv => by
      have := B.l0 v hv; have := B.lw v hv; have := hw v hv; omega
    have hls : l.sum = 0 := by
      by_cases hz : 0 < l.sum
      · obtain ⟨i, h1, h2⟩ := exists_pos_of_sum hz
        have := hl i (by rw [← B.ll]; exact h1)
        omega
      · have := sum_nonneg (l := l) (fun i hi => B.l0 i (by rw [← B.ll]; exact hi))
        omega
    have he := zero_of_sum (l := e) (fun i hi => B.e0 i (by rw [← B.el]; exact hi)) (by rw [← B.su]; exact hls)
    exact ⟨rfl, by simp, by simp, fun v hv => by simp [leaveC, hl v hv], fun v hv => by simp [enterC, he v]⟩
  | (v, f) :: r, w, l, e, new, B, h => by
    rw [comps, List.mem_flatMap] at h
    obtain ⟨o, ho, h⟩ := h
    rw [List.mem_map] at h
    obtain ⟨new', h, rfl⟩ := h
    have B' := B.next ho
    have M := Move.of_mem B' h
    have hv : v < k := B.lt (v, f) (by simp)
    have hok := B.opt_lt ho
    refine ⟨by simp [M.len], fun x hx => ?_, fun q hq => ?_, fun u hu => ?_, fun u hu => ?_⟩
    · rcases List.mem_cons.mp hx with rfl | hx
      · exact hok
      · exact M.lt x hx
    · rw [List.zip_cons_cons] at hq
      rcases List.mem_cons.mp hq with rfl | hq
      · rcases mem_opts.mp ho with ⟨_, h⟩ | ⟨h, _⟩
        · exact .inl h
        · exact .inr h
      · exact M.free q hq
    · rw [List.zip_cons_cons, leaveC_cons, Int.natCast_add, M.lv u hu, nth_tkL B.ll hv]
      by_cases h1 : u = v
      · subst h1; by_cases h2 : o = u <;> simp [h2]
      · have : ¬ v = u := fun q => h1 q.symm
        simp [h1, this]
    · rw [List.zip_cons_cons, enterC_cons, Int.natCast_add, M.en u hu, nth_tkE B.el hok]
      by_cases h1 : u = o
      · subst h1; by_cases h2 : u = v <;> simp [h2]
      · have : ¬ o = u := fun q => h1 q.symm
        simp [h1, this]

theorem Move.mem {k : Nat} : ∀ {ps : List (Nat × Bool)} {w l e : List Int} {new : List Nat}, Bal k w l e ps → Move k l e ps new → new ∈ comps w l e ps
  | [], w, l, e, new, B, M => by
    have := M.len
    have hn : new = [] := by cases new with
      | nil => rfl
      | cons a b => simp at this
    subst hn; simp [comps]
  | (v, f) :: r, w, l, e, [], B, M => by have := M.len; simp at this
  | (v, f) :: r, w, l, e, o :: new, B, M => by
    have hv : v < k := B.lt (v, f) (by simp)
    have hok : o < k := M.lt o (by simp)
    have hfr := M.free ((v, f), o) (by simp)
    have hlv := M.lv v hv
    have hen := M.en o hok
    rw [List.zip_cons_cons, leaveC_cons] at hlv
    rw [List.zip_cons_cons, enterC_cons] at hen
    have hw := B.wc v hv
    rw [freeAt_cons] at hw
    -- those that leave v are free ones
    have hle : ∀ (ps : List (Nat × Bool)) (nw : List Nat), (∀ q ∈ ps.zip nw, q.2 = q.1.1 ∨ q.1.2 = true) → leaveC (ps.zip nw) v ≤ freeAt ps v := by
      intro ps
      induction ps with
      | nil => intro nw _; simp [leaveC]
      | cons p ps ih =>
        intro nw hq
        cases nw with
        | nil => simp [leaveC]
        | cons x nw =>
          obtain ⟨pv, pf⟩ := p
          rw [List.zip_cons_cons, leaveC_cons, freeAt_cons]
          have h1 := ih nw fun q hm => hq q (by rw [List.zip_cons_cons]; simp [hm])
          have h2 := hq ((pv, pf), x) (by simp)
          by_cases hc : pv = v ∧ x ≠ pv
          · have : pf = true := by rcases h2 with h2 | h2; exact absurd h2 hc.2; exact h2
            rw [if_pos hc, if_pos ⟨hc.1, this⟩]; omega
          · rw [if_neg hc]; omega
    have hle' := hle r new fun q hm => M.free q (by rw [List.zip_cons_cons]; simp [hm])
    have ho : o ∈ opts w l e v f := by
      refine mem_opts.mpr ?_
      cases f with
      | false =>
        rcases hfr with h | h
        · exact .inl ⟨rfl, h⟩
        · cases h
      | true =>
        refine .inr ⟨rfl, ?_⟩
        by_cases h : o = v
        · refine .inl ⟨h, ?_⟩
          simp [h] at hlv
          simp at hw
          omega
        · refine .inr ⟨?_, by rw [B.el]; exact hok, ?_⟩
          · simp [h] at hlv; omega
          · simp [h] at hen; omega
    rw [comps, List.mem_flatMap]
    refine ⟨o, ho, List.mem_map.mpr ⟨new, Move.mem (B.next ho) ⟨?_, fun x hx => M.lt x (by simp [hx]), fun q hq => M.free q (by rw [List.zip_cons_cons]; simp [hq]), fun u hu => ?_, fun u hu => ?_⟩, rfl⟩⟩
    · have := M.len; simpa using this
    · have := M.lv u hu
      rw [List.zip_cons_cons, leaveC_cons] at this
      rw [nth_tkL B.ll hv, ← this]
      by_cases h1 : u = v
      · subst h1; by_cases h2 : o = u <;> simp [h2]
      · have : ¬ v = u := fun q => h1 q.symm
        simp [h1, this]
    · have := M.en u hu
      rw [List.zip_cons_cons, enterC_cons] at this
      rw [nth_tkE B.el hok, ← this]
      by_cases h1 : u = o
      · subst h1; by_cases h2 : u = v <;> simp [h2]
      · have : ¬ o = u := fun q => h1 q.symm
        simp [h1, this]
end LM
end

section
set_option autoImplicit false
namespace LM

/-! shares, waiting, the search -/
def sh (a : List Nat) (v : Nat) : Nat := a.getD v 0
def decs (a b : List Nat) : List Int := List.zipWith (fun x y => ((x - y : Nat) : Int)) a b
theorem decs_length {a b : List Nat} {k : Nat} (ha : a.length = k) (hb : b.length = k) : (decs a b).length = k := by simp [decs, ha, hb]
theorem nth_decs {a b : List Nat} {k : Nat} (ha : a.length = k) (hb : b.length = k) (v : Nat) : nth (decs a b) v = ((sh a v - sh b v : Nat) : Int) := by
  unfold nth sh decs
  by_cases h : v < k
  · have h1 : v < a.length := by omega
    have h2 : v < b.length := by omega
    simp only [List.getD_eq_getElem?_getD, List.getElem?_zipWith, List.getElem?_eq_getElem h1, List.getElem?_eq_getElem h2, Option.getD_some]
  · have h1 : a.length ≤ v := by omega
    have h2 : b.length ≤ v := by omega
    simp [List.getD_eq_getElem?_getD, List.getElem?_zipWith, List.getElem?_eq_none h1, List.getElem?_eq_none h2]

def waits (k : Nat) (ps : List (Nat × Bool)) : List Int := ps.foldl (fun w p => addAt w p.1 (if p.2 = true then 1 else 0)) (List.replicate k 0)
theorem waits_aux : ∀ (ps : List (Nat × Bool)) (w : List Int), (∀ p ∈ ps, p.1 < w.length) →
    (ps.foldl (fun w p => addAt w p.1 (if p.2 = true then 1 else 0)) w).length = w.length ∧ ∀ v, nth (ps.foldl (fun w p => addAt w p.1 (if p.2 = true then 1 else 0)) w) v = nth w v + freeAt ps v
  | [], w, _ => by simp [freeAt]
  | (v, f) :: r, w, h => by
    have hv : v < w.length := h (v, f) (by simp)
    obtain ⟨h1, h2⟩ := waits_aux r (addAt w v (if f = true then 1 else 0)) fun p hp => by rw [addAt_length]; exact h p (by simp [hp])
    rw [List.foldl_cons]
    refine ⟨by rw [h1, addAt_length], fun u => ?_⟩
    rw [h2, nth_addAt hv, freeAt_cons]
    by_cases e : u = v
    · subst e; cases f <;> simp <;> omega
    · have : ¬ v = u := fun q => e q.symm
      simp [e, this]
theorem waits_length {k : Nat} {ps : List (Nat × Bool)} (h : ∀ p ∈ ps, p.1 < k) : (waits k ps).length = k := by
  have := (waits_aux ps (List.replicate k 0) (by simpa using h)).1
  simpa [waits] using this
theorem nth_replicate0 (k v : Nat) : nth (List.replicate k 0) v = 0 := by
  unfold nth
  by_cases h : v < k <;> simp [List.getD_eq_getElem?_getD, List.getElem?_replicate, h]
theorem nth_waits {k : Nat} {ps : List (Nat × Bool)} (h : ∀ p ∈ ps, p.1 < k) (v : Nat) : nth (waits k ps) v = freeAt ps v := by
  have := (waits_aux ps (List.replicate k 0) (by simpa using h)).2 v
  rw [nth_replicate0] at this
  simpa [waits] using this

def frees (L : Nat) (cnt : List Nat) : List Bool := cnt.map fun c => decide (c < L)
def bump (cnt row new : List Nat) : List Nat := List.zipWith (· + ·) cnt (List.zipWith (fun x y => if x = y then 0 else 1) row new)
def enough (w l : List Int) : Bool := (List.zipWith (fun a b => decide (b ≤ a)) w l).all id
/-- the first rows behind `row`, in the order of the search -/
def search (L : Nat) : List Nat → List (List Nat) → List Nat → List Nat → Option (List (List Nat))
  | _, [], _, _ => some []
  | a, b :: r, row, cnt =>
    if enough (waits a.length (row.zip (frees L cnt))) (decs a b) = true then
      (comps (waits a.length (row.zip (frees L cnt))) (decs a b) (decs b a) (row.zip (frees L cnt))).findSome? fun new => (search L b r new (bump cnt row new)).map (new :: ·)
    else none

structure RowOk (k n : Nat) (a row : List Nat) : Prop where
  al : a.length = k
  len : row.length = n
  lt : ∀ x ∈ row, x < k
  cnt : ∀ v, v < k → row.count v = sh a v
theorem sum_sh : ∀ (a : List Nat), a.sum = ((List.range a.length).map (sh a)).sum := by
  intro a
  congr 1
  refine List.ext_getElem (by simp) fun i h1 h2 => ?_
  simp [sh, List.getD_eq_getElem?_getD, h1]
theorem sum_map_add {α : Type} (f g : α → Nat) : ∀ l : List α, (l.map fun x => f x + g x).sum = (l.map f).sum + (l.map g).sum
  | [] => rfl
  | a :: r => by simp only [List.map_cons, List.sum_cons]; have := sum_map_add f g r; omega
theorem sum_indicator (k x : Nat) (h : x < k) : ((List.range k).map fun v => if x = v then 1 else 0).sum = 1 := by
  induction k with
  | zero => omega
  | succ k ih =>
    rw [List.range_succ, List.map_append, List.sum_append]
    by_cases e : x = k
    · have : (List.map (fun v => if x = v then 1 else 0) (List.range k)) = List.replicate k 0 := by
        refine List.ext_getElem (by simp) fun i h1 h2 => ?_
        simp at h1
        have : ¬ x = i := by omega
        simp [this]
      rw [this]; simp [e]
    · rw [ih (by omega)]; simp [e]
theorem sum_map_zero {α : Type} : ∀ l : List α, (l.map fun _ => 0).sum = 0
  | [] => rfl
  | _ :: r => by simp [List.map_cons, sum_map_zero r]
theorem countP_split {α : Type} (p : α → Bool) (f : α → Nat) (k : Nat) : ∀ l : List α, (∀ x ∈ l, p x = true → f x < k) → l.countP p = ((List.range k).map fun v => l.countP fun x => decide (f x = v) && p x).sum
  | [], _ => by simp [sum_map_zero]
  | a :: r, h => by
    have ih := countP_split p f k r fun x hx => h x (by simp [hx])
    have e : ((List.range k).map fun v => (a :: r).countP fun x => decide (f x = v) && p x) = (List.range k).map fun v => (r.countP fun x => decide (f x = v) && p x) + (if f a = v ∧ p a = true then 1 else 0) := by
      refine List.map_congr_left fun v _ => ?_
      rw [List.countP_cons]
      congr 1
      by_cases h1 : f a = v <;> cases h2 : p a <;> simp [h1]
    rw [e, sum_map_add, ← ih, List.countP_cons]
    congr 1
    by_cases hp : p a = true
    · simp only [hp, and_true, if_true]
      exact (sum_indicator k (f a) (h a (by simp) hp)).symm
    · simp [hp, sum_map_zero]
theorem RowOk.sum {k n : Nat} {a row : List Nat} (R : RowOk k n a row) : a.sum = n := by
  have := countP_split (fun _ => true) (fun x => x) k row fun x hx _ => R.lt x hx
  rw [List.countP_true] at this
  rw [sum_sh, ← R.len, this, R.al]
  congr 1
  refine List.map_congr_left fun v hv => ?_
  rw [← R.cnt v (by simpa using hv)]
  unfold List.count
  refine List.countP_congr fun x _ => ?_
  simp
theorem sum_natCast : ∀ l : List Nat, ((l.sum : Nat) : Int) = (l.map fun (x : Nat) => (x : Int)).sum
  | [] => rfl
  | a :: r => by rw [List.sum_cons, List.map_cons, List.sum_cons, ← sum_natCast r]; simp
theorem decs_sum_eq : ∀ {a b : List Nat}, a.length = b.length → (decs a b).sum + (b.sum : Int) = (decs b a).sum + (a.sum : Int)
  | [], [], _ => by simp [decs]
  | x :: a, y :: b, h => by
    have := decs_sum_eq (a := a) (b := b) (by simpa using h)
    simp only [decs, List.zipWith_cons_cons, List.sum_cons] at this ⊢
    omega
  | [], _ :: _, h => by simp at h
  | _ :: _, [], h => by simp at h

theorem mem_zip_lt {k : Nat} {row : List Nat} (h : ∀ x ∈ row, x < k) (fs : List Bool) : ∀ p ∈ row.zip fs, p.1 < k := fun p hp => h p.1 (List.of_mem_zip (a := p.1) (b := p.2) hp).1
theorem enough_iff {w l : List Int} {k : Nat} (hw : w.length = k) (hl : l.length = k) : enough w l = true ↔ ∀ v, v < k → nth l v ≤ nth w v := by
  unfold enough
  rw [List.all_eq_true]
  constructor
  · intro h v hv
    have h1 : v < w.length := by omega
    have h2 : v < l.length := by omega
    have := h (decide (l[v] ≤ w[v])) (by
      refine List.mem_iff_getElem.mpr ⟨v, by rw [List.length_zipWith]; omega, by simp⟩)
    simp at this
    rw [nth_eq h1, nth_eq h2]; exact this
  · intro h x hx
    obtain ⟨v, hv, rfl⟩ := List.mem_iff_getElem.mp hx
    rw [List.length_zipWith] at hv
    have := h v (by omega)
    rw [nth_eq (by omega), nth_eq (by omega)] at this
    simp [this]

theorem bal_of {k n : Nat} {a b row : List Nat} {fs : List Bool} (R : RowOk k n a row) (hb : b.length = k) (hs : b.sum = n)
    (he : enough (waits k (row.zip fs)) (decs a b) = true) : Bal k (waits k (row.zip fs)) (decs a b) (decs b a) (row.zip fs) := by
  have hlt := mem_zip_lt R.lt fs
  refine ⟨waits_length hlt, decs_length R.al hb, decs_length hb R.al, hlt, fun v _ => nth_waits hlt v, fun v _ => ?_, (enough_iff (waits_length hlt) (decs_length R.al hb)).mp he, fun v _ => ?_, ?_, fun v _ => ?_⟩
  · rw [nth_decs R.al hb]; omega
  · rw [nth_decs hb R.al]; omega
  · have := decs_sum_eq (a := a) (b := b) (by rw [R.al, hb])
    have := R.sum
    omega
  · rw [nth_decs R.al hb, nth_decs hb R.al]; omega

theorem leave_le_free (v : Nat) : ∀ (ps : List (Nat × Bool)) (nw : List Nat), (∀ q ∈ ps.zip nw, q.2 = q.1.1 ∨ q.1.2 = true) → leaveC (ps.zip nw) v ≤ freeAt ps v := by
  intro ps
  induction ps with
  | nil => intro nw _; simp [leaveC]
  | cons p ps ih =>
    intro nw hq
    cases nw with
    | nil => simp [leaveC]
    | cons x nw =>
      obtain ⟨pv, pf⟩ := p
      rw [List.zip_cons_cons, leaveC_cons, freeAt_cons]
      have h1 := ih nw fun q hm => hq q (by rw [List.zip_cons_cons]; simp [hm])
      have h2 := hq ((pv, pf), x) (by simp)
      by_cases hc : pv = v ∧ x ≠ pv
      · have : pf = true := by rcases h2 with h2 | h2; exact absurd h2 hc.2; exact h2
        rw [if_pos hc, if_pos ⟨hc.1, this⟩]; omega
      · rw [if_neg hc]; omega
theorem Move.enough {k n : Nat} {a b row new : List Nat} {fs : List Bool} (R : RowOk k n a row) (hb : b.length = k) (M : Move k (decs a b) (decs b a) (row.zip fs) new) :
    enough (waits k (row.zip fs)) (decs a b) = true := by
  have hlt := mem_zip_lt R.lt fs
  refine (enough_iff (waits_length hlt) (decs_length R.al hb)).mpr fun v hv => ?_
  rw [← M.lv v hv, nth_waits hlt]
  have := leave_le_free v _ _ M.free
  omega

/-- what a row counts behind a move -/
theorem count_move (v : Nat) : ∀ (row : List Nat) (fs : List Bool) (new : List Nat), fs.length = row.length → new.length = row.length →
    new.count v + leaveC ((row.zip fs).zip new) v = row.count v + enterC ((row.zip fs).zip new) v
  | [], _, new, _, h2 => by
    have : new = [] := by cases new with
      | nil => rfl
      | cons a b => simp at h2
    subst this; simp [leaveC, enterC]
  | x :: row, [], _, h1, _ => by simp at h1
  | x :: row, _ :: _, [], _, h2 => by simp at h2
  | x :: row, f :: fs, y :: new, h1, h2 => by
    have ih := count_move v row fs new (by simpa using h1) (by simpa using h2)
    rw [List.zip_cons_cons, List.zip_cons_cons, leaveC_cons, enterC_cons, List.count_cons, List.count_cons]
    by_cases e : y = x
    · subst e; simp; omega
    · by_cases hx : x = v
      · subst hx; simp [e]; omega
      · by_cases hy : y = v
        · subst hy; simp [hx, e]; omega
        · simp [hx, hy]; omega
theorem Move.rowOk {k n : Nat} {a b row new : List Nat} {fs : List Bool} (R : RowOk k n a row) (hb : b.length = k) (hf : fs.length = n) (M : Move k (decs a b) (decs b a) (row.zip fs) new) : RowOk k n b new := by
  have hl : new.length = n := by rw [M.len]; simp [R.len, hf]
  refine ⟨hb, hl, M.lt, fun v hv => ?_⟩
  have h := count_move v row fs new (by rw [hf, R.len]) (by rw [hl, R.len])
  have h1 := M.lv v hv
  have h2 := M.en v hv
  rw [nth_decs R.al hb] at h1
  rw [nth_decs hb R.al] at h2
  rw [R.cnt v hv] at h
  omega
theorem frees_length (L : Nat) (cnt : List Nat) : (frees L cnt).length = cnt.length := by simp [frees]
theorem bump_length {cnt row new : List Nat} {n : Nat} (h1 : cnt.length = n) (h2 : row.length = n) (h3 : new.length = n) : (bump cnt row new).length = n := by simp [bump, h1, h2, h3]

/-- rows that go on behind row, within the limit -/
def Chain (k L : Nat) : List Nat → List (List Nat) → List Nat → List Nat → List (List Nat) → Prop
  | _, [], _, _, rows => rows = []
  | _, _ :: _, _, _, [] => False
  | a, b :: r, row, cnt, new :: rows => Move k (decs a b) (decs b a) (row.zip (frees L cnt)) new ∧ Chain k L b r new (bump cnt row new) rows

structure Alike (k n : Nat) (al : List (List Nat)) : Prop where
  all : ∀ a ∈ al, a.length = k ∧ a.sum = n
theorem Alike.tail {k n : Nat} {b : List Nat} {r : List (List Nat)} (A : Alike k n (b :: r)) : Alike k n r := ⟨fun a ha => A.all a (by simp [ha])⟩

theorem search_sound {k n L : Nat} : ∀ {r : List (List Nat)} {a row cnt : List Nat} {rows : List (List Nat)}, Alike k n r → RowOk k n a row → cnt.length = n → search L a r row cnt = some rows → Chain k L a r row cnt rows
  | [], a, row, cnt, rows, _, _, _, h => by
    have : [] = rows := by simpa [search] using h
    subst this; rfl
  | b :: r, a, row, cnt, rows, A, R, hc, h => by
    rw [search, R.al] at h
    obtain ⟨hbl, hbs⟩ := A.all b (by simp)
    split at h
    · rename_i he
      obtain ⟨new, hm, hn⟩ := List.exists_of_findSome?_eq_some h
      have B := bal_of R hbl hbs he
      have M := Move.of_mem B hm
      have hfl : (frees L cnt).length = n := by rw [frees_length, hc]
      have R' := M.rowOk R hbl hfl
      rw [Option.map_eq_some_iff] at hn
      obtain ⟨rows', hn, rfl⟩ := hn
      exact ⟨M, search_sound A.tail R' (bump_length hc R.len R'.len) hn⟩
    · cases h
theorem search_complete {k n L : Nat} : ∀ {r : List (List Nat)} {a row cnt : List Nat} {rows : List (List Nat)}, Alike k n r → RowOk k n a row → cnt.length = n → Chain k L a r row cnt rows → search L a r row cnt ≠ none
  | [], a, row, cnt, rows, _, _, _, _ => by simp [search]
  | b :: r, a, row, cnt, [], _, _, _, h => h.elim
  | b :: r, a, row, cnt, new :: rows, A, R, hc, h => by
    obtain ⟨M, h⟩ := h
    obtain ⟨hbl, hbs⟩ := A.all b (by simp)
    have he := M.enough R hbl
    have hfl : (frees L cnt).length = n := by rw [frees_length, hc]
    have R' := M.rowOk R hbl hfl
    have ih := search_complete A.tail R' (bump_length hc R.len R'.len) h
    rw [search, R.al, if_pos he]
    intro hn
    rw [List.findSome?_eq_none_iff] at hn
    have := hn new (Move.mem (bal_of R hbl hbs he) M)
    rw [Option.map_eq_none_iff] at this
    exact ih this
end LM
end

section
set_option autoImplicit false
namespace LM

/-! buckets: what each has now, how often it changed, what comes -/
abbrev Bk := Nat × Nat × List Nat
def hd (b : Bk) : Nat := b.2.2.headD b.1
def stepB (b : Bk) : Bk := (hd b, b.2.1 + (if b.1 = hd b then 0 else 1), b.2.2.tail)
def chg : List Nat → Nat
  | x :: y :: r => (if x = y then 0 else 1) + chg (y :: r)
  | _ => 0
def path (b : Bk) : List Nat := b.1 :: b.2.2
def tot (b : Bk) : Nat := b.2.1 + chg (path b)
theorem tot_step {b : Bk} (h : b.2.2 ≠ []) : tot (stepB b) = tot b := by
  obtain ⟨c, n, f⟩ := b
  cases f with
  | nil => exact absurd rfl h
  | cons x f => simp [tot, stepB, path, hd, chg]; omega
theorem path_step {b : Bk} (h : b.2.2 ≠ []) : path (stepB b) = (path b).tail := by
  obtain ⟨c, n, f⟩ := b
  cases f with
  | nil => exact absurd rfl h
  | cons x f => rfl
def lvB (B : List Bk) (v : Nat) : Nat := B.countP fun b => decide (b.1 = v) && !decide (hd b = v)
def enB (B : List Bk) (v : Nat) : Nat := B.countP fun b => decide (hd b = v) && !decide (b.1 = v)
def GoodB (k : Nat) : List Nat → List (List Nat) → List Bk → Prop
  | _, [], B => ∀ b ∈ B, b.2.2 = []
  | a, c :: r, B => (∀ b ∈ B, b.2.2 ≠ [] ∧ hd b < k) ∧ (∀ v, v < k → lvB B v = sh a v - sh c v) ∧ (∀ v, v < k → enB B v = sh c v - sh a v) ∧ GoodB k c r (B.map stepB)
theorem GoodB.perm {k : Nat} : ∀ {r : List (List Nat)} {a : List Nat} {B B' : List Bk}, GoodB k a r B → B'.Perm B → GoodB k a r B'
  | [], _, _, _, h, p => fun b hb => h b (p.mem_iff.mp hb)
  | _ :: _, _, _, _, ⟨h1, h2, h3, h4⟩, p => ⟨fun b hb => h1 b (p.mem_iff.mp hb), fun v hv => by rw [← h2 v hv]; exact p.countP_eq _, fun v hv => by rw [← h3 v hv]; exact p.countP_eq _, h4.perm (p.map _)⟩

theorem zipWith_maps {α β γ δ : Type} (f : β → γ → δ) (g : α → β) (h : α → γ) : ∀ l : List α, List.zipWith f (l.map g) (l.map h) = l.map fun x => f (g x) (h x)
  | [] => rfl
  | a :: r => by simp [zipWith_maps f g h r]
theorem zip_maps {α β γ : Type} (g : α → β) (h : α → γ) : ∀ l : List α, (l.map g).zip (l.map h) = l.map fun x => (g x, h x)
  | [] => rfl
  | a :: r => by simp [zip_maps g h r]

/-- what each bucket has changed in the end -/
def finalC : List Nat → List Nat → List (List Nat) → List Nat
  | cnt, _, [] => cnt
  | cnt, row, new :: rows => finalC (bump cnt row new) new rows

theorem chain_of_good {k n L : Nat} : ∀ {r : List (List Nat)} {a : List Nat} {B : List Bk}, Alike k n r → a.length = k → GoodB k a r B → (∀ b ∈ B, tot b ≤ L) → ∃ rows, Chain k L a r (B.map (·.1)) (B.map (·.2.1)) rows
  | [], _, _, _, _, _, _ => ⟨[], rfl⟩
  | c :: r, a, B, A, ha, ⟨h1, h2, h3, h4⟩, hL => by
    obtain ⟨hcl, hcs⟩ := A.all c (by simp)
    obtain ⟨rows, ih⟩ := chain_of_good A.tail hcl h4 fun b hb => by
      obtain ⟨b', hb', rfl⟩ := List.mem_map.mp hb
      rw [tot_step (h1 b' hb').1]
      exact hL b' hb'
    have e1 : (B.map stepB).map (·.1) = B.map hd := by simp [stepB]
    have e2 : (B.map stepB).map (·.2.1) = bump (B.map (·.2.1)) (B.map (·.1)) (B.map hd) := by
      unfold bump
      rw [zipWith_maps, zipWith_maps]
      simp [stepB]
    rw [e1, e2] at ih
    have ez : ((B.map (·.1)).zip (frees L (B.map (·.2.1)))).zip (B.map hd) = B.map fun b => ((b.1, decide (b.2.1 < L)), hd b) := by
      unfold frees
      rw [List.map_map, zip_maps, zip_maps]
      rfl
    refine ⟨B.map hd :: rows, ⟨by simp [frees], fun x hx => ?_, fun q hq => ?_, fun v hv => ?_, fun v hv => ?_⟩, ih⟩
    · obtain ⟨b, hb, rfl⟩ := List.mem_map.mp hx
      exact (h1 b hb).2
    · rw [ez] at hq
      obtain ⟨b, hb, rfl⟩ := List.mem_map.mp hq
      by_cases e : hd b = b.1
      · exact .inl e
      · refine .inr (decide_eq_true ?_)
        have ht := hL b hb
        obtain ⟨c', n', f⟩ := b
        cases f with
        | nil => exact absurd rfl (h1 _ hb).1
        | cons x f =>
          have e' : ¬ c' = x := fun z => e (by simp [hd, z])
          simp [tot, path, chg, e'] at ht
          show n' < L
          omega
    · rw [ez, nth_decs ha hcl, ← h2 v hv]
      unfold leaveC lvB
      rw [List.countP_map]
      congr 1
    · rw [ez, nth_decs hcl ha, ← h3 v hv]
      unfold enterC enB
      rw [List.countP_map]
      congr 1

/-- the buckets of a row, their counts and what comes of them -/
def glue : List Nat → List Nat → List Bk → List Bk
  | x :: row, c :: cnt, b :: B => (x, c, b.1 :: b.2.2) :: glue row cnt B
  | _, _, _ => []
theorem glue_ok : ∀ {row cnt : List Nat} {B : List Bk}, row.length = B.length → cnt.length = B.length → B.map (·.2.1) = bump cnt row (B.map (·.1)) →
    (glue row cnt B).map (·.1) = row ∧ (glue row cnt B).map (·.2.1) = cnt ∧ (glue row cnt B).map stepB = B ∧ (glue row cnt B).map hd = B.map (·.1) ∧ ∀ b ∈ glue row cnt B, b.2.2 ≠ []
  | [], [], [], _, _, _ => by simp [glue]
  | [], c :: cnt, [], _, h, _ => by simp at h
  | x :: row, _, [], h, _, _ => by simp at h
  | [], _, b :: B, h, _, _ => by simp at h
  | x :: row, [], b :: B, _, h, _ => by simp at h
  | x :: row, c :: cnt, b :: B, h1, h2, h3 => by
    have h3' : b.2.1 = c + (if x = b.1 then 0 else 1) ∧ B.map (·.2.1) = bump cnt row (B.map (·.1)) := by
      simpa [bump] using h3
    obtain ⟨i1, i2, i3, i4, i5⟩ := glue_ok (row := row) (cnt := cnt) (B := B) (by simpa using h1) (by simpa using h2) h3'.2
    obtain ⟨y, m, f⟩ := b
    have e : stepB (x, c, y :: f) = (y, m, f) := by
      have := h3'.1
      simp at this
      simp [stepB, hd, this]
    refine ⟨by simp [glue, i1], by simp [glue, i2], by simp [glue, i3, e], by simp [glue, i4, hd], fun b hb => ?_⟩
    rw [glue] at hb
    rcases List.mem_cons.mp hb with rfl | hb
    · simp
    · exact i5 b hb
theorem bump_le {L : Nat} : ∀ {row cnt new : List Nat}, (∀ c ∈ cnt, c ≤ L) → (∀ q ∈ (row.zip (frees L cnt)).zip new, q.2 = q.1.1 ∨ q.1.2 = true) → ∀ c ∈ bump cnt row new, c ≤ L
  | [], cnt, new, _, _ => by simp [bump]
  | x :: row, [], new, _, _ => by simp [bump]
  | x :: row, c :: cnt, [], _, _ => by simp [bump]
  | x :: row, c :: cnt, y :: new, h, hq => by
    intro z hz
    have e : bump (c :: cnt) (x :: row) (y :: new) = (c + if x = y then 0 else 1) :: bump cnt row new := by simp [bump]
    rw [e] at hz
    rcases List.mem_cons.mp hz with rfl | hz
    · have h1 := h c (by simp)
      have h2 := hq ((x, decide (c < L)), y) (by simp [frees])
      by_cases e : x = y
      · simp [e]; exact h1
      · rcases h2 with h2 | h2
        · exact absurd h2.symm e
        · have : c < L := of_decide_eq_true h2
          simp [e]; omega
    · exact bump_le (fun c hc => h c (by simp [hc])) (fun q hm => hq q (by simp only [frees, List.map_cons, List.zip_cons_cons]; exact List.mem_cons_of_mem _ hm)) z hz

theorem good_of_chain {k n L : Nat} : ∀ {r : List (List Nat)} {a row cnt : List Nat} {rows : List (List Nat)}, Alike k n r → RowOk k n a row → cnt.length = n → Chain k L a r row cnt rows →
    ∃ B : List Bk, B.map (·.1) = row ∧ B.map (·.2.1) = cnt ∧ GoodB k a r B ∧ ((∀ c ∈ cnt, c ≤ L) → ∀ b ∈ B, tot b ≤ L) ∧ B.map tot = finalC cnt row rows
  | [], a, row, cnt, rows, _, R, hc, h => by
    have e : rows = [] := h
    subst e
    refine ⟨(row.zip cnt).map fun p => (p.1, p.2, []), ?_, ?_, ?_, ?_, ?_⟩
    · rw [List.map_map]; exact List.map_fst_zip (by rw [hc, R.len]; exact Nat.le_refl _)
    · rw [List.map_map]; exact List.map_snd_zip (by rw [hc, R.len]; exact Nat.le_refl _)
    · intro b hb
      obtain ⟨p, _, rfl⟩ := List.mem_map.mp hb
      rfl
    · intro hL b hb
      obtain ⟨p, hp, rfl⟩ := List.mem_map.mp hb
      have := hL p.2 (List.of_mem_zip (a := p.1) (b := p.2) hp).2
      simpa [tot, path, chg] using this
    · rw [List.map_map]
      show _ = cnt
      refine Eq.trans ?_ (List.map_snd_zip (l₁ := row) (l₂ := cnt) (by rw [hc, R.len]; exact Nat.le_refl _))
      refine List.map_congr_left fun p _ => ?_
      simp [tot, path, chg]
  | c :: r, a, row, cnt, [], _, _, _, h => h.elim
  | c :: r, a, row, cnt, new :: rows, A, R, hc, ⟨M, h⟩ => by
    obtain ⟨hcl, hcs⟩ := A.all c (by simp)
    have hfl : (frees L cnt).length = n := by rw [frees_length, hc]
    have R' := M.rowOk R hcl hfl
    obtain ⟨B, b1, b2, b3, b4, b5⟩ := good_of_chain A.tail R' (bump_length hc R.len R'.len) h
    have hBl : B.length = n := by rw [← R'.len, ← b1, List.length_map]
    obtain ⟨g1, g2, g3, g4, g5⟩ := glue_ok (row := row) (cnt := cnt) (B := B) (by rw [hBl, R.len]) (by rw [hBl, hc]) (by rw [b2, b1])
    rw [b1] at g4
    have ez : (row.zip (frees L cnt)).zip new = (glue row cnt B).map fun b => ((b.1, decide (b.2.1 < L)), hd b) := by
      have q : ∀ G : List Bk, ((G.map (·.1)).zip (frees L (G.map (·.2.1)))).zip (G.map hd) = G.map fun b => ((b.1, decide (b.2.1 < L)), hd b) := fun G => by
        unfold frees
        rw [List.map_map, zip_maps, zip_maps]
        rfl
      have q' := q (glue row cnt B)
      rw [g1, g2, g4] at q'
      exact q'
    have hl := M.lv
    have he := M.en
    rw [ez] at hl he
    refine ⟨glue row cnt B, g1, g2, ⟨fun b hb => ⟨g5 b hb, ?_⟩, fun v hv => ?_, fun v hv => ?_, by rw [g3]; exact b3⟩, fun hL b hb => ?_, ?_⟩
    · exact M.lt _ (by rw [← g4]; exact List.mem_map_of_mem hb)
    · have := hl v hv
      rw [nth_decs R.al hcl] at this
      unfold leaveC at this
      rw [List.countP_map] at this
      rw [← Int.ofNat_inj.mp this]
      rfl
    · have := he v hv
      rw [nth_decs hcl R.al] at this
      unfold enterC at this
      rw [List.countP_map] at this
      rw [← Int.ofNat_inj.mp this]
      rfl
    · have := b4 (bump_le hL M.free) (stepB b) (by rw [← g3]; exact List.mem_map_of_mem hb)
      rwa [tot_step (g5 b hb)] at this
    · show _ = finalC (bump cnt row new) new rows
      rw [← b5]
      conv => rhs; rw [← g3]
      rw [List.map_map]
      exact List.map_congr_left fun b hb => (tot_step (g5 b hb)).symm
end LM
end

section
set_option autoImplicit false
namespace LM

/-! paths: a history told bucket by bucket -/
structure PH (k n : Nat) (As : List (List Nat)) (L : Nat) (P : List (List Nat)) : Prop where
  num : P.length = n
  len : ∀ p ∈ P, p.length = As.length
  lt : ∀ p ∈ P, ∀ x ∈ p, x < k
  ch : ∀ p ∈ P, chg p ≤ L
  at_ : ∀ s, s < As.length → ∀ v, v < k → (P.countP fun p => decide (p.getD s 0 = v)) = sh (As.getD s []) v
  lv : ∀ s, s + 1 < As.length → ∀ v, v < k → (P.countP fun p => decide (p.getD s 0 = v) && !decide (p.getD (s + 1) 0 = v)) = sh (As.getD s []) v - sh (As.getD (s + 1) []) v
  en : ∀ s, s + 1 < As.length → ∀ v, v < k → (P.countP fun p => decide (p.getD (s + 1) 0 = v) && !decide (p.getD s 0 = v)) = sh (As.getD (s + 1) []) v - sh (As.getD s []) v

theorem chg_snoc (x y : Nat) : ∀ l : List Nat, chg (l ++ [x, y]) = chg (l ++ [x]) + (if x = y then 0 else 1)
  | [] => by simp [chg]
  | [a] => by simp [chg]
  | a :: b :: l => by
    have := chg_snoc x y (b :: l)
    simp only [List.cons_append, chg] at this ⊢
    omega
theorem chg_reverse : ∀ p : List Nat, chg p.reverse = chg p
  | [] => rfl
  | [a] => rfl
  | a :: b :: r => by
    have ih := chg_reverse (b :: r)
    rw [List.reverse_cons, List.reverse_cons, List.append_assoc]
    show chg (r.reverse ++ [b, a]) = _
    rw [chg_snoc, ← List.reverse_cons, ih]
    simp only [chg]
    by_cases e : a = b
    · simp [e]
    · have : ¬ b = a := fun q => e q.symm
      simp [e, this]; omega
theorem getD_reverse {α : Type} (p : List α) (d : α) (s : Nat) (h : s < p.length) : p.reverse.getD s d = p.getD (p.length - 1 - s) d := by
  rw [List.getD_eq_getElem?_getD, List.getD_eq_getElem?_getD, List.getElem?_reverse h]
theorem countP_map_congr {α β : Type} {p : β → Bool} {q : α → Bool} {f : α → β} {l : List α} (h : ∀ x ∈ l, p (f x) = q x) : (l.map f).countP p = l.countP q := by
  rw [List.countP_map]
  refine List.countP_congr fun x hx => ?_
  simp only [Function.comp, h x hx]
theorem PH.rev {k n L : Nat} {As : List (List Nat)} {P : List (List Nat)} (h : PH k n As L P) : PH k n As.reverse L (P.map List.reverse) := by
  have key : ∀ p ∈ P, ∀ s, s < As.length → p.reverse.getD s 0 = p.getD (As.length - 1 - s) 0 := fun p hp s hs => by
    have := h.len p hp
    rw [getD_reverse p 0 s (by omega), this]
  have keyA : ∀ s, s < As.length → As.reverse.getD s [] = As.getD (As.length - 1 - s) [] := fun s hs => getD_reverse As [] s hs
  refine ⟨by simp [h.num], fun p hp => ?_, fun p hp x hx => ?_, fun p hp => ?_, fun s hs v hv => ?_, fun s hs v hv => ?_, fun s hs v hv => ?_⟩
  · obtain ⟨q, hq, rfl⟩ := List.mem_map.mp hp
    simp [h.len q hq]
  · obtain ⟨q, hq, rfl⟩ := List.mem_map.mp hp
    exact h.lt q hq x (by simpa using hx)
  · obtain ⟨q, hq, rfl⟩ := List.mem_map.mp hp
    rw [chg_reverse]; exact h.ch q hq
  · rw [List.length_reverse] at hs
    rw [keyA s hs, ← h.at_ (As.length - 1 - s) (by omega) v hv]
    exact countP_map_congr fun p hp => by rw [key p hp s hs]
  · rw [List.length_reverse] at hs
    have e : As.length - 1 - s = (As.length - 1 - (s + 1)) + 1 := by omega
    rw [keyA s (by omega), keyA (s + 1) hs, e, ← h.en (As.length - 1 - (s + 1)) (by omega) v hv]
    exact countP_map_congr fun p hp => by rw [key p hp s (by omega), key p hp (s + 1) hs, e]
  · rw [List.length_reverse] at hs
    have e : As.length - 1 - s = (As.length - 1 - (s + 1)) + 1 := by omega
    rw [keyA s (by omega), keyA (s + 1) hs, e, ← h.lv (As.length - 1 - (s + 1)) (by omega) v hv]
    exact countP_map_congr fun p hp => by rw [key p hp s (by omega), key p hp (s + 1) hs, e]

/-! the first row -/
def sorted1 : Nat → List Nat → List Nat
  | _, [] => []
  | i, a :: r => List.replicate a i ++ sorted1 (i + 1) r
def sortedA (a : List Nat) : List Nat := sorted1 0 a
theorem sorted1_length : ∀ (a : List Nat) (i : Nat), (sorted1 i a).length = a.sum
  | [], _ => rfl
  | x :: a, i => by simp [sorted1, sorted1_length a]
theorem mem_sorted1 : ∀ (a : List Nat) (i x : Nat), x ∈ sorted1 i a → i ≤ x ∧ x < i + a.length
  | [], _, _, h => by simp [sorted1] at h
  | y :: a, i, x, h => by
    rw [sorted1, List.mem_append] at h
    rcases h with h | h
    · have := List.eq_of_mem_replicate h
      simp; omega
    · have := mem_sorted1 a (i + 1) x h
      simp; omega
theorem count_sorted1 : ∀ (a : List Nat) (i v : Nat), (sorted1 i a).count (i + v) = sh a v
  | [], i, v => by simp [sorted1, sh]
  | y :: a, i, 0 => by
    rw [sorted1, List.count_append, List.count_replicate]
    have h0 : (sorted1 (i + 1) a).count (i + 0) = 0 := List.count_eq_zero.mpr fun h => by
      have := mem_sorted1 a (i + 1) _ h
      omega
    rw [h0]; simp [sh]
  | y :: a, i, v + 1 => by
    have ih := count_sorted1 a (i + 1) v
    rw [sorted1, List.count_append, List.count_replicate]
    have e : i + (v + 1) = i + 1 + v := by omega
    rw [e, ih]
    have : ¬ (i = i + 1 + v) := by omega
    simp [this, sh]
theorem sortedA_ok {k n : Nat} {a : List Nat} (h1 : a.length = k) (h2 : a.sum = n) : RowOk k n a (sortedA a) :=
  ⟨h1, by rw [← h2]; exact sorted1_length a 0, fun x hx => by have := mem_sorted1 a 0 x hx; omega, fun v _ => by have := count_sorted1 a 0 v; simpa [sortedA] using this⟩
theorem rowOk_perm {k n : Nat} {a r1 r2 : List Nat} (h1 : RowOk k n a r1) (h2 : RowOk k n a r2) : r1.Perm r2 := by
  refine List.perm_iff_count.mpr fun v => ?_
  by_cases hv : v < k
  · rw [h1.cnt v hv, h2.cnt v hv]
  · rw [List.count_eq_zero.mpr fun h => hv (h1.lt v h), List.count_eq_zero.mpr fun h => hv (h2.lt v h)]
theorem perm_map_ex {α β : Type} {f : α → β} {l1 l2 : List β} (p : l1.Perm l2) : ∀ l : List α, l.map f = l2 → ∃ l' : List α, l'.Perm l ∧ l'.map f = l1 := by
  induction p with
  | nil => intro l h; exact ⟨l, .refl _, h⟩
  | cons x p ih =>
    intro l h
    cases l with
    | nil => simp at h
    | cons a l =>
      rw [List.map_cons] at h
      injection h with h1 h2
      obtain ⟨l', p', e⟩ := ih l h2
      exact ⟨a :: l', p'.cons a, by simp [e, h1]⟩
  | swap x y l0 =>
    intro l h
    match l, h with
    | a :: b :: l, h =>
      simp only [List.map_cons, List.cons.injEq] at h
      exact ⟨b :: a :: l, .swap a b l, by simp [h]⟩
  | trans p q ih1 ih2 =>
    intro l h
    obtain ⟨l', p', e⟩ := ih2 l h
    obtain ⟨l'', p'', e'⟩ := ih1 l' e
    exact ⟨l'', p''.trans p', e'⟩

/-! buckets and paths -/
theorem rowOk_hd {k n : Nat} {a c : List Nat} {B : List Bk} (R : RowOk k n a (B.map (·.1))) (hc : c.length = k) (h1 : ∀ b ∈ B, b.2.2 ≠ [] ∧ hd b < k) (h2 : ∀ v, v < k → lvB B v = sh a v - sh c v) (h3 : ∀ v, v < k → enB B v = sh c v - sh a v) : RowOk k n c (B.map hd) := by
  refine ⟨hc, by have := R.len; simpa using this, fun x hx => ?_, fun v hv => ?_⟩
  · obtain ⟨b, hb, rfl⟩ := List.mem_map.mp hx
    exact (h1 b hb).2
  · have e : ∀ B : List Bk, (B.map hd).count v + lvB B v = (B.map (·.1)).count v + enB B v := by
      intro B
      induction B with
      | nil => simp [lvB, enB]
      | cons b B ih =>
        simp only [List.map_cons, List.count_cons, lvB, enB, List.countP_cons] at ih ⊢
        by_cases q1 : b.1 = v <;> by_cases q2 : hd b = v <;> simp [q1, q2] <;> omega
    have := e B
    have := h2 v hv
    have := h3 v hv
    have := R.cnt v hv
    omega
theorem ph_of_good {k n : Nat} : ∀ {r : List (List Nat)} {a : List Nat} {B : List Bk} {L : Nat}, Alike k n r → RowOk k n a (B.map (·.1)) → GoodB k a r B → (∀ b ∈ B, chg (path b) ≤ L) → PH k n (a :: r) L (B.map path)
  | [], a, B, L, A, R, G, hL => by
    have e : ∀ b ∈ B, path b = [b.1] := fun b hb => by rw [path, G b hb]
    refine ⟨by have := R.len; simpa using this, fun p hp => ?_, fun p hp x hx => ?_, fun p hp => ?_, fun s hs v hv => ?_, fun s hs => by simp at hs, fun s hs => by simp at hs⟩
    · obtain ⟨b, hb, rfl⟩ := List.mem_map.mp hp
      simp [e b hb]
    · obtain ⟨b, hb, rfl⟩ := List.mem_map.mp hp
      rw [e b hb] at hx
      have : x = b.1 := by simpa using hx
      subst this
      exact R.lt _ (List.mem_map_of_mem hb)
    · obtain ⟨b, hb, rfl⟩ := List.mem_map.mp hp
      exact hL b hb
    · have : s = 0 := by simp at hs; omega
      subst this
      have h := R.cnt v hv
      show _ = sh a v
      rw [← h, List.count, List.countP_map, List.countP_map]
      refine List.countP_congr fun b _ => ?_
      simp [path]
  | c :: r, a, B, L, A, R, ⟨h1, h2, h3, h4⟩, hL => by
    obtain ⟨hcl, hcs⟩ := A.all c (by simp)
    have R' := rowOk_hd R hcl h1 h2 h3
    have e1 : (B.map stepB).map (·.1) = B.map hd := by simp [stepB]
    have ih := ph_of_good (L := L) A.tail (by rw [e1]; exact R') h4 fun b hb => by
      obtain ⟨b', hb', rfl⟩ := List.mem_map.mp hb
      have t := tot_step (h1 b' hb').1
      have := hL b' hb'
      have hn := (h1 b' hb').1
      rw [path_step hn]
      obtain ⟨c', n', f⟩ := b'
      cases f with
      | nil => exact absurd rfl hn
      | cons x f => simp [path, chg] at this ⊢; omega
    have ep : (B.map stepB).map path = B.map fun b => (path b).tail := by
      rw [List.map_map]
      exact List.map_congr_left fun b hb => path_step (h1 b hb).1
    rw [ep] at ih
    have g0 : ∀ b : Bk, (path b).getD 0 0 = b.1 := fun b => rfl
    have g1 : ∀ b ∈ B, (path b).getD 1 0 = hd b := fun b hb => by
      have hn := (h1 b hb).1
      obtain ⟨c', n', f⟩ := b
      cases f with
      | nil => exact absurd rfl hn
      | cons x f => rfl
    have gs : ∀ (b : Bk) (s : Nat), (path b).getD (s + 1) 0 = (path b).tail.getD s 0 := fun b s => by
      unfold path; simp [List.getD_eq_getElem?_getD]
    refine ⟨by have := R.len; simpa using this, fun p hp => ?_, fun p hp x hx => ?_, fun p hp => ?_, fun s hs v hv => ?_, fun s hs v hv => ?_, fun s hs v hv => ?_⟩
    · obtain ⟨b, hb, rfl⟩ := List.mem_map.mp hp
      have := ih.len (path b).tail (List.mem_map.mpr ⟨b, hb, rfl⟩)
      unfold path at this ⊢
      simp at this ⊢; omega
    · obtain ⟨b, hb, rfl⟩ := List.mem_map.mp hp
      unfold path at hx
      rcases List.mem_cons.mp hx with rfl | hx
      · exact R.lt _ (List.mem_map_of_mem hb)
      · exact ih.lt (path b).tail (List.mem_map.mpr ⟨b, hb, rfl⟩) x hx
    · obtain ⟨b, hb, rfl⟩ := List.mem_map.mp hp
      exact hL b hb
    · cases s with
      | zero =>
        have h := R.cnt v hv
        show _ = sh a v
        rw [← h, List.count, List.countP_map, List.countP_map]
        refine List.countP_congr fun b _ => ?_
        simp [path]
      | succ s =>
        have := ih.at_ s (by simpa using hs) v hv
        show _ = sh ((c :: r).getD s []) v
        rw [← this, List.countP_map, List.countP_map]
        refine List.countP_congr fun b _ => ?_
        simp only [Function.comp, gs]
    · cases s with
      | zero =>
        show _ = sh a v - sh c v
        rw [← h2 v hv]
        unfold lvB
        exact countP_map_congr fun b hb => by rw [g0, g1 b hb]
      | succ s =>
        have := ih.lv s (by simpa using hs) v hv
        show _ = sh ((c :: r).getD s []) v - sh ((c :: r).getD (s + 1) []) v
        rw [← this, List.countP_map, List.countP_map]
        refine List.countP_congr fun b _ => ?_
        simp only [Function.comp, gs]
    · cases s with
      | zero =>
        show _ = sh c v - sh a v
        rw [← h3 v hv]
        unfold enB
        exact countP_map_congr fun b hb => by rw [g0, g1 b hb]
      | succ s =>
        have := ih.en s (by simpa using hs) v hv
        show _ = sh ((c :: r).getD (s + 1) []) v - sh ((c :: r).getD s []) v
        rw [← this, List.countP_map, List.countP_map]
        refine List.countP_congr fun b _ => ?_
        simp only [Function.comp, gs]

/-- a path as a bucket -/
def bk (m : Nat) (p : List Nat) : Bk := (p.headD 0, m, p.tail)
theorem good_of_paths {k n : Nat} : ∀ {r : List (List Nat)} {a : List Nat} {B : List Bk}, (∀ b ∈ B, b.2.2.length = r.length ∧ ∀ x ∈ b.2.2, x < k) →
    (∀ s, s < r.length → ∀ v, v < k → (B.countP fun b => decide ((path b).getD s 0 = v) && !decide ((path b).getD (s + 1) 0 = v)) = sh ((a :: r).getD s []) v - sh ((a :: r).getD (s + 1) []) v) →
    (∀ s, s < r.length → ∀ v, v < k → (B.countP fun b => decide ((path b).getD (s + 1) 0 = v) && !decide ((path b).getD s 0 = v)) = sh ((a :: r).getD (s + 1) []) v - sh ((a :: r).getD s []) v) → GoodB k a r B
  | [], a, B, h, _, _ => fun b hb => List.length_eq_zero_iff.mp (h b hb).1
  | c :: r, a, B, h, h2, h3 => by
    have hne : ∀ b ∈ B, b.2.2 ≠ [] := fun b hb e => by have := (h b hb).1; rw [e] at this; simp at this
    have g0 : ∀ b : Bk, (path b).getD 0 0 = b.1 := fun b => rfl
    have g1 : ∀ b ∈ B, (path b).getD 1 0 = hd b := fun b hb => by
      have hn := hne b hb
      obtain ⟨c', n', f⟩ := b
      cases f with
      | nil => exact absurd rfl hn
      | cons x f => rfl
    have gs : ∀ b ∈ B, ∀ s : Nat, (path (stepB b)).getD s 0 = (path b).getD (s + 1) 0 := fun b hb s => by
      rw [path_step (hne b hb)]; unfold path; simp [List.getD_eq_getElem?_getD]
    refine ⟨fun b hb => ⟨hne b hb, ?_⟩, fun v hv => ?_, fun v hv => ?_, good_of_paths (n := n) (fun b hb => ?_) (fun s hs v hv => ?_) (fun s hs v hv => ?_)⟩
    · have hn := hne b hb
      have hx := (h b hb).2
      obtain ⟨c', n', f⟩ := b
      cases f with
      | nil => exact absurd rfl hn
      | cons x f => exact hx x (by simp)
    · have := h2 0 (by simp) v hv
      refine Eq.trans ?_ this
      unfold lvB
      refine List.countP_congr fun b hb => ?_
      simp only [g0, g1 b hb]
    · have := h3 0 (by simp) v hv
      refine Eq.trans ?_ this
      unfold enB
      refine List.countP_congr fun b hb => ?_
      simp only [g0, g1 b hb]
    · obtain ⟨b', hb', rfl⟩ := List.mem_map.mp hb
      have hx := h b' hb'
      refine ⟨?_, fun x hx' => hx.2 x (List.mem_of_mem_tail hx')⟩
      have := hx.1
      simp [stepB] at this ⊢; omega
    · refine Eq.trans ?_ (h2 (s + 1) (by simpa using hs) v hv)
      exact countP_map_congr fun b hb => by rw [gs b hb, gs b hb]
    · refine Eq.trans ?_ (h3 (s + 1) (by simpa using hs) v hv)
      exact countP_map_congr fun b hb => by rw [gs b hb, gs b hb]

/-! the search from the first row -/
def S (L : Nat) (a : List Nat) (r : List (List Nat)) : Option (List (List Nat)) := search L a r (sortedA a) (List.replicate a.sum 0)
theorem S_of_ph {k n L : Nat} {a : List Nat} {r : List (List Nat)} {P : List (List Nat)} (A : Alike k n (a :: r)) (h : PH k n (a :: r) L P) : S L a r ≠ none := by
  obtain ⟨hal, has⟩ := A.all a (by simp)
  have hp : ∀ p ∈ P, path (bk 0 p) = p := fun p hp => by
    have := h.len p hp
    cases p with
    | nil => simp at this
    | cons x p => rfl
  have R0 : RowOk k n a (P.map fun p => (bk 0 p).1) := by
    refine ⟨hal, by simp [h.num], fun x hx => ?_, fun v hv => ?_⟩
    · obtain ⟨p, hp', rfl⟩ := List.mem_map.mp hx
      refine h.lt p hp' _ ?_
      have e := hp p hp'
      conv => lhs; rw [← e]
      exact List.mem_cons_self
    · have := h.at_ 0 (by simp) v hv
      refine Eq.trans ?_ this
      rw [List.count]
      refine countP_map_congr fun p hp' => ?_
      cases p with
      | nil => have := h.len _ hp'; simp at this
      | cons x p => rfl
  have G0 : GoodB k a r (P.map (bk 0)) := by
    refine good_of_paths (n := n) (fun b hb => ?_) (fun s hs v hv => ?_) (fun s hs v hv => ?_)
    · obtain ⟨p, hp', rfl⟩ := List.mem_map.mp hb
      refine ⟨by have := h.len p hp'; simp [bk] at this ⊢; omega, fun x hx => h.lt p hp' x (List.mem_of_mem_tail hx)⟩
    · rw [← h.lv s (by simpa using hs) v hv]
      exact countP_map_congr fun p hp' => by rw [hp p hp']
    · rw [← h.en s (by simpa using hs) v hv]
      exact countP_map_congr fun p hp' => by rw [hp p hp']
  have R1 := sortedA_ok hal has
  obtain ⟨B, pB, eB⟩ := perm_map_ex (f := fun b : Bk => b.1) (rowOk_perm R1 R0) (P.map (bk 0)) (by rw [List.map_map]; rfl)
  have G1 := G0.perm pB
  have hm : ∀ b ∈ B, b.2.1 = 0 ∧ chg (path b) ≤ L := fun b hb => by
    obtain ⟨p, hp', rfl⟩ := List.mem_map.mp (pB.mem_iff.mp hb)
    exact ⟨rfl, by rw [hp p hp']; exact h.ch p hp'⟩
  obtain ⟨rows, hc⟩ := chain_of_good (L := L) A.tail hal G1 fun b hb => by
    obtain ⟨e1, e2⟩ := hm b hb
    unfold tot; omega
  have ec : B.map (·.2.1) = List.replicate a.sum 0 := by
    refine List.eq_replicate_iff.mpr ⟨?_, fun x hx => ?_⟩
    · rw [List.length_map, ← List.length_map (f := fun b : Bk => b.1), eB, R1.len, has]
    · obtain ⟨b, hb, rfl⟩ := List.mem_map.mp hx
      exact (hm b hb).1
  rw [eB, ec] at hc
  exact search_complete A.tail R1 (by simp [has]) hc
theorem S_some {k n L : Nat} {a : List Nat} {r rows : List (List Nat)} (A : Alike k n (a :: r)) (h : S L a r = some rows) :
    Chain k L a r (sortedA a) (List.replicate a.sum 0) rows ∧ ∃ B : List Bk, B.map (·.1) = sortedA a ∧ GoodB k a r B ∧ (∀ b ∈ B, b.2.1 = 0 ∧ chg (path b) ≤ L) ∧ B.map (fun b => chg (path b)) = finalC (List.replicate a.sum 0) (sortedA a) rows := by
  obtain ⟨hal, has⟩ := A.all a (by simp)
  have R := sortedA_ok hal has
  have C := search_sound A.tail R (by simp [has]) h
  refine ⟨C, ?_⟩
  obtain ⟨B, b1, b2, b3, b4, b5⟩ := good_of_chain A.tail R (by simp [has]) C
  have hz : ∀ b ∈ B, b.2.1 = 0 := fun b hb => by
    have : b.2.1 ∈ B.map (·.2.1) := List.mem_map_of_mem hb
    rw [b2] at this
    exact List.eq_of_mem_replicate this
  have hL := b4 fun c hc => by rw [List.eq_of_mem_replicate hc]; exact Nat.zero_le _
  refine ⟨B, b1, b3, fun b hb => ⟨hz b hb, ?_⟩, ?_⟩
  · have := hL b hb
    unfold tot at this; omega
  · rw [← b5]
    refine List.map_congr_left fun b hb => ?_
    unfold tot; rw [hz b hb]; omega
theorem ph_of_S {k n L L' : Nat} {a : List Nat} {r rows : List (List Nat)} (A : Alike k n (a :: r)) (h : S L a r = some rows) (hm : ∀ c ∈ finalC (List.replicate a.sum 0) (sortedA a) rows, c ≤ L') : ∃ P, PH k n (a :: r) L' P := by
  obtain ⟨hal, has⟩ := A.all a (by simp)
  obtain ⟨_, B, b1, b2, b3, b4⟩ := S_some A h
  refine ⟨B.map path, ph_of_good A.tail (by rw [b1]; exact sortedA_ok hal has) b2 fun b hb => ?_⟩
  exact hm _ (by rw [← b4]; exact List.mem_map.mpr ⟨b, hb, rfl⟩)
/-- within the limit -/
theorem S_le {k n L : Nat} {a : List Nat} {r rows : List (List Nat)} (A : Alike k n (a :: r)) (h : S L a r = some rows) : ∀ c ∈ finalC (List.replicate a.sum 0) (sortedA a) rows, c ≤ L := by
  obtain ⟨_, B, b1, b2, b3, b4⟩ := S_some A h
  intro c hc
  rw [← b4] at hc
  obtain ⟨b, hb, rfl⟩ := List.mem_map.mp hc
  exact (b3 b hb).2
/-- a history whose buckets change at most L' times: there is one within L' -/
theorem S_lower {k n L L' : Nat} {a : List Nat} {r rows : List (List Nat)} (A : Alike k n (a :: r)) (h : S L a r = some rows) (hm : ∀ c ∈ finalC (List.replicate a.sum 0) (sortedA a) rows, c ≤ L') : S L' a r ≠ none := by
  obtain ⟨P, hP⟩ := ph_of_S A h hm
  exact S_of_ph A hP
theorem S_mono {k n L L' : Nat} {a : List Nat} {r : List (List Nat)} (A : Alike k n (a :: r)) (h : S L a r ≠ none) (hl : L ≤ L') : S L' a r ≠ none := by
  obtain ⟨rows, e⟩ := Option.ne_none_iff_exists'.mp h
  exact S_lower A e fun c hc => Nat.le_trans (S_le A e c hc) hl
/-- the way back -/
theorem S_rev {k n L : Nat} {a b : List Nat} {r q : List (List Nat)} (A : Alike k n (a :: r)) (hq : (a :: r).reverse = b :: q) (h : S L a r ≠ none) : S L b q ≠ none := by
  obtain ⟨rows, e⟩ := Option.ne_none_iff_exists'.mp h
  obtain ⟨P, hP⟩ := ph_of_S A e (S_le A e)
  have h' := hP.rev
  rw [hq] at h'
  refine S_of_ph (k := k) (n := n) ⟨fun x hx => A.all x ?_⟩ h'
  rw [← hq] at hx
  exact List.mem_reverse.mp hx
end LM
end

section
set_option autoImplicit false
namespace LM

def transf (a b : List Nat) : Nat := (List.zipWith (fun x y => x - y) a b).sum
def totalA : List Nat → List (List Nat) → Nat
  | _, [] => 0
  | a, b :: r => transf a b + totalA b r
def decV (v : Nat) : List Nat → List (List Nat) → Nat
  | _, [] => 0
  | a, b :: r => (sh a v - sh b v) + decV v b r

theorem transf_eq : ∀ {a b : List Nat} {k : Nat}, a.length = k → b.length = k → transf a b = ((List.range k).map fun v => sh a v - sh b v).sum := by
  intro a b k ha hb
  unfold transf
  congr 1
  refine List.ext_getElem (by simp [ha, hb]) fun i h1 h2 => ?_
  have h3 : i < a.length := by simp at h2; omega
  have h4 : i < b.length := by simp at h2; omega
  simp [sh, List.getD_eq_getElem?_getD, h3, h4]
theorem sum_chg {k n : Nat} : ∀ {r : List (List Nat)} {a : List Nat} {B : List Bk}, Alike k n r → RowOk k n a (B.map (·.1)) → GoodB k a r B → (B.map fun b => chg (path b)).sum = totalA a r
  | [], a, B, _, _, G => by
    have : (B.map fun b => chg (path b)) = B.map fun _ => 0 := List.map_congr_left fun b hb => by rw [path, G b hb]; rfl
    rw [this, sum_map_zero]; rfl
  | c :: r, a, B, A, R, ⟨h1, h2, h3, h4⟩ => by
    obtain ⟨hcl, hcs⟩ := A.all c (by simp)
    have R' := rowOk_hd R hcl h1 h2 h3
    have e1 : (B.map stepB).map (·.1) = B.map hd := by simp [stepB]
    have ih := sum_chg (B := B.map stepB) A.tail (by rw [e1]; exact R') h4
    rw [List.map_map] at ih
    have e : (B.map fun b => chg (path b)) = B.map fun b => (if b.1 = hd b then 0 else 1) + (fun b => chg (path (stepB b))) b := by
      refine List.map_congr_left fun b hb => ?_
      have hn := (h1 b hb).1
      obtain ⟨c', n', f⟩ := b
      cases f with
      | nil => exact absurd rfl hn
      | cons x f => simp [path, chg, stepB, hd]
    have e2 : (B.map fun b => if b.1 = hd b then 0 else 1).sum = transf a c := by
      have q : ∀ B : List Bk, (B.map fun b => if b.1 = hd b then 0 else 1).sum = B.countP fun b => !decide (b.1 = hd b) := by
        intro B
        induction B with
        | nil => rfl
        | cons b B ih =>
          rw [List.map_cons, List.sum_cons, List.countP_cons, ih]
          by_cases e : b.1 = hd b <;> simp [e]; omega
      rw [q, countP_split (fun b : Bk => !decide (b.1 = hd b)) (·.1) k B fun b hb _ => R.lt _ (List.mem_map_of_mem hb), transf_eq R.al hcl]
      congr 1
      refine List.map_congr_left fun v hv => ?_
      rw [← h2 v (by simpa using hv)]
      unfold lvB
      refine List.countP_congr fun b _ => ?_
      by_cases e : b.1 = v
      · subst e
        by_cases e2 : b.1 = hd b
        · simp [← e2]
        · have : ¬ hd b = b.1 := fun q => e2 q.symm
          simp [e2, this]
      · simp [e]
    rw [e, sum_map_add, e2]
    show _ + (B.map fun b => chg (path (stepB b))).sum = transf a c + totalA c r
    rw [show (B.map fun b => chg (path (stepB b))).sum = totalA c r from ih]

/-- how often a path leaves v -/
def lvP (v : Nat) : List Nat → Nat
  | x :: y :: r => (if x = v ∧ y ≠ v then 1 else 0) + lvP v (y :: r)
  | _ => 0
theorem lvP_le (v : Nat) : ∀ p : List Nat, lvP v p ≤ chg p
  | [] => by simp [lvP]
  | [a] => by simp [lvP]
  | x :: y :: r => by
    have := lvP_le v (y :: r)
    simp only [lvP, chg]
    by_cases h : x = v ∧ y ≠ v
    · have : ¬ x = y := fun q => h.2 (by rw [← q]; exact h.1)
      rw [if_pos h, if_neg this]; omega
    · rw [if_neg h]; omega
theorem lvP_one (v : Nat) : ∀ (x : Nat) (r : List Nat), chg (x :: r) ≤ 1 → lvP v (x :: r) ≤ if x = v then 1 else 0
  | x, [], _ => by simp [lvP]
  | x, y :: r, h => by
    simp only [chg] at h
    simp only [lvP]
    by_cases e : x = y
    · subst e
      have := lvP_one v x r (by omega)
      have h2 : ¬ (x = v ∧ x ≠ v) := fun q => q.2 q.1
      rw [if_neg h2]; omega
    · rw [if_neg e] at h
      have := lvP_le v (y :: r)
      by_cases h2 : x = v
      · rw [if_pos h2]; split <;> omega
      · rw [if_neg h2]
        have h3 : ¬ (x = v ∧ y ≠ v) := fun q => h2 q.1
        rw [if_neg h3]; omega
theorem sum_lvP {k n : Nat} {v : Nat} (hv : v < k) : ∀ {r : List (List Nat)} {a : List Nat} {B : List Bk}, Alike k n r → RowOk k n a (B.map (·.1)) → GoodB k a r B → (B.map fun b => lvP v (path b)).sum = decV v a r
  | [], a, B, _, _, G => by
    have : (B.map fun b => lvP v (path b)) = B.map fun _ => 0 := List.map_congr_left fun b hb => by rw [path, G b hb]; rfl
    rw [this, sum_map_zero]; rfl
  | c :: r, a, B, A, R, ⟨h1, h2, h3, h4⟩ => by
    obtain ⟨hcl, hcs⟩ := A.all c (by simp)
    have R' := rowOk_hd R hcl h1 h2 h3
    have e1 : (B.map stepB).map (·.1) = B.map hd := by simp [stepB]
    have ih := sum_lvP hv (B := B.map stepB) A.tail (by rw [e1]; exact R') h4
    rw [List.map_map] at ih
    have e : (B.map fun b => lvP v (path b)) = B.map fun b => (if b.1 = v ∧ hd b ≠ v then 1 else 0) + (fun b => lvP v (path (stepB b))) b := by
      refine List.map_congr_left fun b hb => ?_
      have hn := (h1 b hb).1
      obtain ⟨c', n', f⟩ := b
      cases f with
      | nil => exact absurd rfl hn
      | cons x f => simp [path, lvP, stepB, hd]
    have e2 : (B.map fun b => if b.1 = v ∧ hd b ≠ v then 1 else 0).sum = sh a v - sh c v := by
      rw [← h2 v hv]
      unfold lvB
      clear h1 h2 h3 h4 R R' e1 ih e
      induction B with
      | nil => rfl
      | cons b B ih =>
        rw [List.map_cons, List.sum_cons, List.countP_cons, ih]
        by_cases q1 : b.1 = v <;> by_cases q2 : hd b = v <;> simp [q1, q2] <;> omega
    rw [e, sum_map_add, e2]
    show _ + (B.map fun b => lvP v (path (stepB b))).sum = (sh a v - sh c v) + decV v c r
    rw [show (B.map fun b => lvP v (path (stepB b))).sum = decV v c r from ih]
theorem sum_le_sum {α : Type} {f g : α → Nat} : ∀ {l : List α}, (∀ x ∈ l, f x ≤ g x) → (l.map f).sum ≤ (l.map g).sum
  | [], _ => Nat.le_refl _
  | a :: r, h => by
    have := sum_le_sum (l := r) fun x hx => h x (by simp [hx])
    have := h a (by simp)
    simp only [List.map_cons, List.sum_cons]; omega
theorem sum_const {α : Type} (c : Nat) : ∀ l : List α, (l.map fun _ => c).sum = l.length * c
  | [] => by simp
  | a :: r => by rw [List.map_cons, List.sum_cons, sum_const c r, List.length_cons, Nat.add_mul]; omega

section
variable {k n L : Nat} {a : List Nat} {r : List (List Nat)}
/-- the limit times the buckets is at least the total -/
theorem total_le (A : Alike k n (a :: r)) (h : S L a r ≠ none) : totalA a r ≤ L * n := by
  obtain ⟨hal, has⟩ := A.all a (by simp)
  obtain ⟨rows, e⟩ := Option.ne_none_iff_exists'.mp h
  obtain ⟨_, B, b1, b2, b3, b4⟩ := S_some A e
  have R := sortedA_ok hal has
  have hs := sum_chg (B := B) A.tail (by rw [b1]; exact R) b2
  have h1 := sum_le_sum (l := B) (f := fun b => chg (path b)) (g := fun _ => L) fun b hb => (b3 b hb).2
  rw [sum_const] at h1
  have hl : B.length = n := by rw [← R.len, ← b1, List.length_map]
  rw [hs, hl] at h1
  rw [Nat.mul_comm]; exact h1
/-- a calm history: nothing is overdrawn -/
theorem dec_le (A : Alike k n (a :: r)) (h : S 1 a r ≠ none) : ∀ v, v < k → decV v a r ≤ sh a v := by
  intro v hv
  obtain ⟨hal, has⟩ := A.all a (by simp)
  obtain ⟨rows, e⟩ := Option.ne_none_iff_exists'.mp h
  obtain ⟨_, B, b1, b2, b3, b4⟩ := S_some A e
  have R := sortedA_ok hal has
  have hs := sum_lvP hv (B := B) A.tail (by rw [b1]; exact R) b2
  have h1 := sum_le_sum (l := B) (f := fun b => lvP v (path b)) (g := fun b => if b.1 = v then 1 else 0) fun b hb => lvP_one v _ _ (b3 b hb).2
  rw [hs] at h1
  have h2 : (B.map fun b => if b.1 = v then 1 else 0).sum = (B.map (·.1)).count v := by
    clear h1 hs b3 b4 b2 b1
    induction B with
    | nil => rfl
    | cons b B ih =>
      rw [List.map_cons, List.sum_cons, List.map_cons, List.count_cons, ih]
      by_cases q : b.1 = v <;> simp [q]; omega
  rw [h2, b1, R.cnt v hv] at h1
  exact h1
end

/-! some history -/
theorem freeAt_all (v : Nat) : ∀ (row : List Nat) (fs : List Bool), fs.length = row.length → (∀ f ∈ fs, f = true) → freeAt (row.zip fs) v = row.count v
  | [], _, _, _ => by simp [freeAt]
  | x :: row, [], h, _ => by simp at h
  | x :: row, f :: fs, h, hf => by
    have := freeAt_all v row fs (by simpa using h) fun f hm => hf f (by simp [hm])
    rw [List.zip_cons_cons, freeAt_cons, List.count_cons, this]
    have := hf f (by simp)
    by_cases e : x = v <;> simp [e, this]
theorem bump_succ : ∀ {row cnt new : List Nat}, ∀ c ∈ bump cnt row new, ∃ d ∈ cnt, c ≤ d + 1
  | [], cnt, new => by simp [bump]
  | x :: row, [], new => by simp [bump]
  | x :: row, c :: cnt, [] => by simp [bump]
  | x :: row, c :: cnt, y :: new => by
    intro z hz
    have e : bump (c :: cnt) (x :: row) (y :: new) = (c + if x = y then 0 else 1) :: bump cnt row new := by simp [bump]
    rw [e] at hz
    rcases List.mem_cons.mp hz with rfl | hz
    · exact ⟨c, by simp, by split <;> omega⟩
    · obtain ⟨d, hd, hle⟩ := bump_succ z hz
      exact ⟨d, by simp [hd], hle⟩
theorem chain_ex {k n L : Nat} : ∀ {r : List (List Nat)} {a row cnt : List Nat}, Alike k n r → RowOk k n a row → cnt.length = n → (∀ c ∈ cnt, c + r.length ≤ L) → ∃ rows, Chain k L a r row cnt rows
  | [], _, _, _, _, _, _, _ => ⟨[], rfl⟩
  | b :: r, a, row, cnt, A, R, hc, hL => by
    obtain ⟨hbl, hbs⟩ := A.all b (by simp)
    have hfl : (frees L cnt).length = n := by rw [frees_length, hc]
    have hall : ∀ f ∈ frees L cnt, f = true := fun f hf => by
      obtain ⟨c, hcm, rfl⟩ := List.mem_map.mp hf
      have := hL c hcm
      simp at this
      exact decide_eq_true (by omega)
    have hlt := mem_zip_lt R.lt (frees L cnt)
    have he : enough (waits k (row.zip (frees L cnt))) (decs a b) = true := (enough_iff (waits_length hlt) (decs_length R.al hbl)).mpr fun v hv => by
      rw [nth_waits hlt, nth_decs R.al hbl, freeAt_all v row _ (by rw [hfl, R.len]) hall, R.cnt v hv]
      omega
    have B := bal_of R hbl hbs he
    obtain ⟨new, hm⟩ := List.exists_mem_of_ne_nil _ (comps_ne B)
    have M := Move.of_mem B hm
    have R' := M.rowOk R hbl hfl
    obtain ⟨rows, h⟩ := chain_ex (L := L) A.tail R' (bump_length hc R.len R'.len) fun c hcm => by
      obtain ⟨d, hd, hle⟩ := bump_succ c hcm
      have := hL d hd
      simp at this; omega
    exact ⟨new :: rows, M, h⟩
theorem S_ex {k n : Nat} {a : List Nat} {r : List (List Nat)} (A : Alike k n (a :: r)) : S r.length a r ≠ none := by
  obtain ⟨hal, has⟩ := A.all a (by simp)
  have R := sortedA_ok hal has
  obtain ⟨rows, h⟩ := chain_ex (L := r.length) A.tail R (cnt := List.replicate a.sum 0) (by simp [has]) fun c hc => by rw [List.eq_of_mem_replicate hc]; omega
  exact search_complete A.tail R (by simp [has]) h

/-! nothing moves -/
theorem stay_counts (v : Nat) : ∀ (row : List Nat) (fs : List Bool), leaveC ((row.zip fs).zip row) v = 0 ∧ enterC ((row.zip fs).zip row) v = 0
  | [], _ => by simp [leaveC, enterC]
  | x :: row, [] => by simp [leaveC, enterC]
  | x :: row, f :: fs => by
    have := stay_counts v row fs
    rw [List.zip_cons_cons, List.zip_cons_cons, leaveC_cons, enterC_cons]
    simp [this]
theorem stay_free : ∀ (row : List Nat) (fs : List Bool), ∀ q ∈ (row.zip fs).zip row, q.2 = q.1.1
  | [], _ => by simp
  | x :: row, [] => by simp
  | x :: row, f :: fs => by
    intro q hq
    rw [List.zip_cons_cons, List.zip_cons_cons] at hq
    rcases List.mem_cons.mp hq with rfl | hq
    · rfl
    · exact stay_free row fs q hq
theorem bump_stay : ∀ (cnt row : List Nat), cnt.length = row.length → bump cnt row row = cnt
  | [], [], _ => rfl
  | [], _ :: _, h => by simp at h
  | _ :: _, [], h => by simp at h
  | c :: cnt, x :: row, h => by
    have := bump_stay cnt row (by simpa using h)
    have e : bump (c :: cnt) (x :: row) (x :: row) = (c + if x = x then 0 else 1) :: bump cnt row row := by simp [bump]
    rw [e, this]; simp
theorem transf_zero {a b : List Nat} {k : Nat} (ha : a.length = k) (hb : b.length = k) (hs : a.sum = b.sum) (h : transf a b = 0) : ∀ v, sh a v - sh b v = 0 ∧ sh b v - sh a v = 0 := by
  have h1 := decs_sum_eq (a := a) (b := b) (by rw [ha, hb])
  have e1 : (decs a b).sum = ((transf a b : Nat) : Int) := by
    unfold decs transf
    rw [sum_natCast, List.map_zipWith]
  have h2 : (decs b a).sum = 0 := by rw [e1, h] at h1; omega
  have z1 := zero_of_sum (l := decs a b) (fun i _ => by rw [nth_decs ha hb]; omega) (by rw [e1, h]; rfl)
  have z2 := zero_of_sum (l := decs b a) (fun i _ => by rw [nth_decs hb ha]; omega) h2
  intro v
  have q1 := z1 v
  have q2 := z2 v
  rw [nth_decs ha hb] at q1
  rw [nth_decs hb ha] at q2
  omega
theorem chain_zero {k n L : Nat} : ∀ {r : List (List Nat)} {a row cnt : List Nat}, Alike k n r → RowOk k n a row → cnt.length = n → totalA a r = 0 → ∃ rows, Chain k L a r row cnt rows
  | [], _, _, _, _, _, _, _ => ⟨[], rfl⟩
  | b :: r, a, row, cnt, A, R, hc, ht => by
    obtain ⟨hbl, hbs⟩ := A.all b (by simp)
    have hfl : (frees L cnt).length = n := by rw [frees_length, hc]
    have h0 : transf a b = 0 ∧ totalA b r = 0 := by
      have : transf a b + totalA b r = 0 := ht
      omega
    have hz := transf_zero R.al hbl (by rw [R.sum, hbs]) h0.1
    have M : Move k (decs a b) (decs b a) (row.zip (frees L cnt)) row := by
      refine ⟨by simp [hfl, R.len], R.lt, fun q hq => .inl (stay_free row _ q hq), fun v hv => ?_, fun v hv => ?_⟩
      · rw [(stay_counts v row _).1, nth_decs R.al hbl, (hz v).1]
      · rw [(stay_counts v row _).2, nth_decs hbl R.al, (hz v).2]
    have R' := M.rowOk R hbl hfl
    obtain ⟨rows, h⟩ := chain_zero (L := L) A.tail R' hc h0.2
    exact ⟨row :: rows, M, by rw [bump_stay cnt row (by rw [hc, R.len])]; exact h⟩
theorem S_zero {k n : Nat} {a : List Nat} {r : List (List Nat)} (A : Alike k n (a :: r)) (h : totalA a r = 0) : S 0 a r ≠ none := by
  obtain ⟨hal, has⟩ := A.all a (by simp)
  have R := sortedA_ok hal has
  obtain ⟨rows, h⟩ := chain_zero (L := 0) A.tail R (cnt := List.replicate a.sum 0) (by simp [has]) h
  exact search_complete A.tail R (by simp [has]) h

/-! the calm history -/
def calmRow : (w l e : List Int) → List (Nat × Bool) → List Nat
  | _, _, _, [] => []
  | w, l, e, (v, f) :: r => (opts w l e v f).headD 0 :: calmRow (tkW w v f) (tkL l v ((opts w l e v f).headD 0)) (tkE e v ((opts w l e v f).headD 0)) r
theorem headD_mem {α : Type} {l : List α} (h : l ≠ []) (d : α) : l.headD d ∈ l := by
  cases l with
  | nil => exact absurd rfl h
  | cons a r => simp
theorem calmRow_mem {k : Nat} : ∀ {ps : List (Nat × Bool)} {w l e : List Int}, Bal k w l e ps → calmRow w l e ps ∈ comps w l e ps
  | [], _, _, _, _ => by simp [calmRow, comps]
  | (v, f) :: r, w, l, e, B => by
    have ho := headD_mem B.opt_ne 0
    rw [comps, calmRow, List.mem_flatMap]
    exact ⟨_, ho, List.mem_map.mpr ⟨_, calmRow_mem (B.next ho), rfl⟩⟩
def stepRow (a b row cnt : List Nat) : List Nat := calmRow (waits a.length (row.zip (frees 1 cnt))) (decs a b) (decs b a) (row.zip (frees 1 cnt))
/-- what the calm history keeps: enough buckets that never moved -/
structure CalmInv (k n : Nat) (a : List Nat) (r : List (List Nat)) (row cnt : List Nat) : Prop where
  al : Alike k n r
  ok : RowOk k n a row
  len : cnt.length = n
  le : ∀ v, v < k → decV v a r ≤ freeAt (row.zip (frees 1 cnt)) v
theorem calm_free (v : Nat) : ∀ (row cnt new : List Nat), cnt.length = row.length → new.length = row.length → (∀ q ∈ (row.zip (frees 1 cnt)).zip new, q.2 = q.1.1 ∨ q.1.2 = true) →
    freeAt (new.zip (frees 1 (bump cnt row new))) v + leaveC ((row.zip (frees 1 cnt)).zip new) v = freeAt (row.zip (frees 1 cnt)) v
  | [], cnt, new, _, h2, _ => by
    have : new = [] := by cases new with
      | nil => rfl
      | cons a b => simp at h2
    subst this; simp [freeAt, leaveC]
  | x :: row, [], _, h1, _, _ => by simp at h1
  | x :: row, _ :: _, [], _, h2, _ => by simp at h2
  | x :: row, c :: cnt, y :: new, h1, h2, hq => by
    have ih := calm_free v row cnt new (by simpa using h1) (by simpa using h2) fun q hm => hq q (by simp only [frees, List.map_cons, List.zip_cons_cons]; exact List.mem_cons_of_mem _ hm)
    have e : bump (c :: cnt) (x :: row) (y :: new) = (c + if x = y then 0 else 1) :: bump cnt row new := by simp [bump]
    have h0 := hq ((x, decide (c < 1)), y) (by simp [frees])
    have ef : ∀ (c : Nat) (l : List Nat), frees 1 (c :: l) = decide (c < 1) :: frees 1 l := fun _ _ => rfl
    rw [e, ef, ef, List.zip_cons_cons, List.zip_cons_cons, List.zip_cons_cons, freeAt_cons, freeAt_cons, leaveC_cons]
    by_cases e1 : x = y
    · subst e1
      simp; omega
    · have hc : c < 1 := by
        rcases h0 with h0 | h0
        · exact absurd h0.symm e1
        · exact of_decide_eq_true h0
      have hc0 : c = 0 := by omega
      subst hc0
      have e2 : ¬ y = x := fun q => e1 q.symm
      by_cases hx : x = v
      · subst hx; simp [e1, e2]; omega
      · simp [e1, hx]; omega
theorem CalmInv.enough {k n : Nat} {a b : List Nat} {r : List (List Nat)} {row cnt : List Nat} (C : CalmInv k n a (b :: r) row cnt) : enough (waits k (row.zip (frees 1 cnt))) (decs a b) = true := by
  obtain ⟨hbl, hbs⟩ := C.al.all b (by simp)
  have hlt := mem_zip_lt C.ok.lt (frees 1 cnt)
  refine (enough_iff (waits_length hlt) (decs_length C.ok.al hbl)).mpr fun v hv => ?_
  rw [nth_waits hlt, nth_decs C.ok.al hbl]
  have := C.le v hv
  have e : decV v a (b :: r) = (sh a v - sh b v) + decV v b r := rfl
  omega
theorem CalmInv.bal {k n : Nat} {a b : List Nat} {r : List (List Nat)} {row cnt : List Nat} (C : CalmInv k n a (b :: r) row cnt) : Bal k (waits k (row.zip (frees 1 cnt))) (decs a b) (decs b a) (row.zip (frees 1 cnt)) := by
  obtain ⟨hbl, hbs⟩ := C.al.all b (by simp)
  exact bal_of C.ok hbl hbs C.enough
theorem CalmInv.move {k n : Nat} {a b : List Nat} {r : List (List Nat)} {row cnt : List Nat} (C : CalmInv k n a (b :: r) row cnt) : Move k (decs a b) (decs b a) (row.zip (frees 1 cnt)) (stepRow a b row cnt) := by
  have B := C.bal
  unfold stepRow
  rw [C.ok.al]
  exact Move.of_mem B (calmRow_mem B)
theorem CalmInv.next {k n : Nat} {a b : List Nat} {r : List (List Nat)} {row cnt : List Nat} (C : CalmInv k n a (b :: r) row cnt) : CalmInv k n b r (stepRow a b row cnt) (bump cnt row (stepRow a b row cnt)) := by
  obtain ⟨hbl, hbs⟩ := C.al.all b (by simp)
  have M := C.move
  have R' := M.rowOk C.ok hbl (by rw [frees_length, C.len])
  refine ⟨C.al.tail, R', bump_length C.len C.ok.len R'.len, fun v hv => ?_⟩
  have h := calm_free v row cnt (stepRow a b row cnt) (by rw [C.len, C.ok.len]) (by rw [R'.len, C.ok.len]) M.free
  have hl := M.lv v hv
  rw [nth_decs C.ok.al hbl] at hl
  have := C.le v hv
  have e : decV v a (b :: r) = (sh a v - sh b v) + decV v b r := rfl
  omega
theorem CalmInv.chain {k n : Nat} : ∀ {r : List (List Nat)} {a row cnt : List Nat}, CalmInv k n a r row cnt → ∃ rows, Chain k 1 a r row cnt rows
  | [], _, _, _, _ => ⟨[], rfl⟩
  | b :: r, a, row, cnt, C => by
    obtain ⟨rows, h⟩ := C.next.chain
    exact ⟨_ :: rows, C.move, h⟩
theorem CalmInv.start {k n : Nat} {a : List Nat} {r : List (List Nat)} (A : Alike k n (a :: r)) (h : ∀ v, v < k → decV v a r ≤ sh a v) : CalmInv k n a r (sortedA a) (List.replicate a.sum 0) := by
  obtain ⟨hal, has⟩ := A.all a (by simp)
  have R := sortedA_ok hal has
  refine ⟨A.tail, R, by simp [has], fun v hv => ?_⟩
  rw [freeAt_all v _ _ (by rw [frees_length, R.len]; simp [has]) fun f hf => ?_, R.cnt v hv]
  · exact h v hv
  · obtain ⟨c, hc, rfl⟩ := List.mem_map.mp hf
    rw [List.eq_of_mem_replicate hc]; rfl
theorem S_calm {k n : Nat} {a : List Nat} {r : List (List Nat)} (A : Alike k n (a :: r)) (h : ∀ v, v < k → decV v a r ≤ sh a v) : S 1 a r ≠ none := by
  obtain ⟨hal, has⟩ := A.all a (by simp)
  have R := sortedA_ok hal has
  obtain ⟨rows, h⟩ := (CalmInv.start A h).chain
  exact search_complete A.tail R (by simp [has]) h

/-! the least limit -/
structure Least (L : Nat) (a : List Nat) (r rows : List (List Nat)) : Prop where
  at_ : S L a r = some rows
  no : ∀ L', L' < L → S L' a r = none
theorem Least.le {L L' : Nat} {a : List Nat} {r rows : List (List Nat)} (h : Least L a r rows) (h' : S L' a r ≠ none) : L ≤ L' := by
  by_cases q : L' < L
  · exact absurd (h.no L' q) h'
  · omega
theorem Least.ne {L : Nat} {a : List Nat} {r rows : List (List Nat)} (h : Least L a r rows) : S L a r ≠ none := by rw [h.at_]; simp
section
variable {k n L : Nat} {a : List Nat} {r rows : List (List Nat)}
def maxOf (l : List Nat) : Nat := l.foldl max 0
theorem Least.max_eq (A : Alike k n (a :: r)) (h : Least L a r rows) : (∀ c ∈ finalC (List.replicate a.sum 0) (sortedA a) rows, c ≤ L) ∧ (L = 0 ∨ ∃ c ∈ finalC (List.replicate a.sum 0) (sortedA a) rows, c = L) := by
  refine ⟨S_le A h.at_, ?_⟩
  by_cases h0 : L = 0
  · exact .inl h0
  · refine .inr ?_
    by_cases hx : ∃ c ∈ finalC (List.replicate a.sum 0) (sortedA a) rows, c = L
    · exact hx
    · have : S (L - 1) a r ≠ none := S_lower A h.at_ fun c hc => by
        have h1 := S_le A h.at_ c hc
        have h2 : c ≠ L := fun q => hx ⟨c, hc, q⟩
        omega
      exact absurd (h.no (L - 1) (by omega)) this
theorem Least.total (A : Alike k n (a :: r)) (h : Least L a r rows) : totalA a r ≤ L * n := total_le A h.ne
theorem Least.lt (A : Alike k n (a :: r)) (h : Least L a r rows) : L ≤ r.length := h.le (S_ex A)
theorem Least.zero (A : Alike k n (a :: r)) (h : Least L a r rows) : L = 0 ↔ totalA a r = 0 := by
  constructor
  · intro e
    have := h.total A
    rw [e, Nat.zero_mul] at this
    omega
  · intro e
    have := h.le (S_zero A e)
    omega
theorem Least.calm (A : Alike k n (a :: r)) (h : Least L a r rows) : L ≤ 1 ↔ ∀ v, v < k → decV v a r ≤ sh a v := by
  constructor
  · intro e
    exact dec_le A (S_mono A h.ne e)
  · intro e
    exact h.le (S_calm A e)
theorem Least.rev {b : List Nat} {q rows' : List (List Nat)} {L' : Nat} (A : Alike k n (a :: r)) (hq : (a :: r).reverse = b :: q) (h : Least L a r rows) (h' : Least L' b q rows') : L' = L := by
  have A' : Alike k n (b :: q) := ⟨fun x hx => A.all x (by rw [← hq] at hx; exact List.mem_reverse.mp hx)⟩
  have hq' : (b :: q).reverse = a :: r := by rw [← hq, List.reverse_reverse]
  have h1 := h'.le (S_rev A hq h.ne)
  have h2 := h.le (S_rev A' hq' h'.ne)
  omega
end
end LM
end

section
set_option autoImplicit false
namespace LM
/-! sums along a series -/
def pairSum (g : List Nat → List Nat → Nat) : List Nat → List (List Nat) → Nat
  | _, [] => 0
  | a, b :: r => g a b + pairSum g b r
def rowAt (l : List (List Nat)) (i : Nat) : List Nat := l.getD i []
theorem rowAt_eq {l : List (List Nat)} {i : Nat} (h : i < l.length) : rowAt l i = l[i] := by simp [rowAt, List.getD_eq_getElem?_getD, h]
theorem rowAt_get {l : List (List Nat)} {i : Nat} (h : i < l.length) : l[i]? = some (rowAt l i) := by rw [rowAt_eq h]; simp [h]
theorem rowAt_of {l : List (List Nat)} {i : Nat} {r : List Nat} (h : l[i]? = some r) : rowAt l i = r := by simp [rowAt, List.getD_eq_getElem?_getD, h]
theorem sum_range_succ' (f : Nat → Nat) (n : Nat) : ((List.range (n + 1)).map f).sum = f 0 + ((List.range n).map fun j => f (j + 1)).sum := by
  rw [List.range_succ_eq_map, List.map_cons, List.sum_cons, List.map_map]; rfl
theorem pairSum_range (g : List Nat → List Nat → Nat) : ∀ (r : List (List Nat)) (a : List Nat), pairSum g a r = ((List.range r.length).map fun j => g (rowAt (a :: r) j) (rowAt (a :: r) (j + 1))).sum
  | [], _ => rfl
  | b :: r, a => by
    rw [pairSum, pairSum_range g r b, List.length_cons, sum_range_succ']
    rfl
theorem totalA_pair : ∀ (r : List (List Nat)) (a : List Nat), totalA a r = pairSum transf a r
  | [], _ => rfl
  | b :: r, a => by rw [totalA, pairSum, totalA_pair r b]
theorem decV_pair (v : Nat) : ∀ (r : List (List Nat)) (a : List Nat), decV v a r = pairSum (fun a b => sh a v - sh b v) a r
  | [], _ => rfl
  | b :: r, a => by rw [decV, pairSum, decV_pair v r b]
/-- the decreases so far -/
def decUp (v : Nat) (l : List (List Nat)) (i : Nat) : Nat := ((List.range i).map fun j => sh (rowAt l j) v - sh (rowAt l (j + 1)) v).sum
theorem decUp_succ (v : Nat) (l : List (List Nat)) (i : Nat) : decUp v l (i + 1) = decUp v l i + (sh (rowAt l i) v - sh (rowAt l (i + 1)) v) := by
  unfold decUp
  rw [List.range_succ, List.map_append, List.sum_append]; simp
theorem decUp_all (v : Nat) (a : List Nat) (r : List (List Nat)) : decUp v (a :: r) r.length = decV v a r := by
  rw [decV_pair, pairSum_range]; rfl
/-! the first assignment -/
def sortUp (a : List Nat) (i : Nat) : List Nat := ((List.range i).map fun v => List.replicate (sh a v) v).flatten
theorem sortUp_succ (a : List Nat) (i : Nat) : sortUp a (i + 1) = sortUp a i ++ List.replicate (sh a i) i := by
  unfold sortUp
  rw [List.range_succ, List.map_append, List.flatten_append]; simp
theorem sorted1_up : ∀ (a : List Nat) (j : Nat), sorted1 j a = ((List.range a.length).map fun v => List.replicate (sh a v) (j + v)).flatten
  | [], _ => rfl
  | c :: r, j => by
    rw [sorted1, sorted1_up r (j + 1), List.length_cons, List.range_succ_eq_map, List.map_cons, List.flatten_cons, List.map_map]
    congr 1
    congr 1
    refine List.map_congr_left fun v _ => ?_
    show List.replicate (sh r v) (j + 1 + v) = List.replicate (sh (c :: r) (v + 1)) (j + (v + 1))
    have : j + 1 + v = j + (v + 1) := by omega
    rw [this]; rfl
theorem sortUp_all (a : List Nat) : sortUp a a.length = sortedA a := by
  unfold sortUp sortedA
  rw [sorted1_up]; simp
/-! changes by column -/
theorem sh_bump {cnt row new : List Nat} {n i : Nat} (h1 : cnt.length = n) (h2 : row.length = n) (h3 : new.length = n) (hi : i < n) : sh (bump cnt row new) i = sh cnt i + (if sh row i = sh new i then 0 else 1) := by
  have b1 : i < cnt.length := by omega
  have b2 : i < row.length := by omega
  have b3 : i < new.length := by omega
  simp [sh, bump, List.getD_eq_getElem?_getD, List.getElem?_zipWith, b1, b2, b3]
theorem finalC_length {n : Nat} : ∀ {rows : List (List Nat)} {cnt row : List Nat}, cnt.length = n → row.length = n → (∀ r ∈ rows, r.length = n) → (finalC cnt row rows).length = n
  | [], cnt, row, h, _, _ => h
  | new :: rows, cnt, row, h1, h2, h3 => by
    have hn := h3 new (by simp)
    exact finalC_length (rows := rows) (cnt := bump cnt row new) (row := new) (bump_length h1 h2 hn) hn fun r hr => h3 r (by simp [hr])
theorem finalC_col {n i : Nat} (hi : i < n) : ∀ {rows : List (List Nat)} {cnt row : List Nat}, cnt.length = n → row.length = n → (∀ r ∈ rows, r.length = n) → sh (finalC cnt row rows) i = sh cnt i + chg (sh row i :: rows.map fun r => sh r i)
  | [], cnt, row, _, _, _ => rfl
  | new :: rows, cnt, row, h1, h2, h3 => by
    have hn := h3 new (by simp)
    rw [finalC, finalC_col hi (bump_length h1 h2 hn) hn fun r hr => h3 r (by simp [hr]), sh_bump h1 h2 hn hi, List.map_cons, chg]
    omega
theorem sh_replicate0 (n i : Nat) : sh (List.replicate n 0) i = 0 := by
  unfold sh
  rw [List.getD_eq_getElem?_getD, List.getElem?_replicate]; split <;> rfl
theorem chg_range : ∀ (l : List Nat), chg l = ((List.range (l.length - 1)).map fun j => if l.getD j 0 = l.getD (j + 1) 0 then 0 else 1).sum
  | [] => rfl
  | [_] => rfl
  | x :: y :: r => by
    have ih := chg_range (y :: r)
    rw [chg, ih]
    have e : (x :: y :: r).length - 1 = ((y :: r).length - 1) + 1 := by simp
    rw [e, sum_range_succ']
    rfl
/-- the changes of all buckets -/
def chgs (n : Nat) (tbl : List (List Nat)) : List Nat := (List.range n).map fun i => chg (tbl.map fun r => sh r i)
theorem chgs_final {n : Nat} {row : List Nat} {rows : List (List Nat)} (h : ∀ r ∈ row :: rows, r.length = n) : chgs n (row :: rows) = finalC (List.replicate n 0) row rows := by
  have h1 := h row (by simp)
  have h2 : ∀ r ∈ rows, r.length = n := fun r hr => h r (by simp [hr])
  have hl := finalC_length (n := n) (rows := rows) (cnt := List.replicate n 0) (by simp) h1 h2
  refine List.ext_getElem (by simp [chgs, hl]) fun i g1 g2 => ?_
  have hi : i < n := by simpa [chgs] using g1
  have := finalC_col hi (rows := rows) (cnt := List.replicate n 0) (by simp) h1 h2
  rw [sh_replicate0] at this
  simp only [chgs, List.getElem_map, List.getElem_range, List.map_cons]
  rw [sh, List.getD_eq_getElem?_getD, List.getElem?_eq_getElem g2, Option.getD_some] at this
  rw [this]; omega
/-! a move is fair -/
theorem leaveC_pos {v : Nat} : ∀ {ps : List (Nat × Bool)} {new : List Nat} {i : Nat} {p : Nat × Bool} {x : Nat}, ps[i]? = some p → new[i]? = some x → p.1 = v → x ≠ v → 0 < leaveC (ps.zip new) v := by
  intro ps new i p x h1 h2 h3 h4
  have : (p, x) ∈ ps.zip new := List.mem_of_getElem? (i := i) (by simp [List.getElem?_zip_eq_some, h1, h2])
  exact List.countP_pos_iff.mpr ⟨_, this, by simp [h3, h4]⟩
theorem enterC_pos {v : Nat} : ∀ {ps : List (Nat × Bool)} {new : List Nat} {i : Nat} {p : Nat × Bool} {x : Nat}, ps[i]? = some p → new[i]? = some x → x = v → p.1 ≠ v → 0 < enterC (ps.zip new) v := by
  intro ps new i p x h1 h2 h3 h4
  have : (p, x) ∈ ps.zip new := List.mem_of_getElem? (i := i) (by simp [List.getElem?_zip_eq_some, h1, h2])
  exact List.countP_pos_iff.mpr ⟨_, this, by simp [h3, h4]⟩
theorem Move.fair {k n : Nat} {a b row new : List Nat} {fs : List Bool} (R : RowOk k n a row) (hb : b.length = k) (hf : fs.length = n) (M : Move k (decs a b) (decs b a) (row.zip fs) new) {i : Nat} (hi : i < n) :
    sh row i < k ∧ sh new i < k ∧ (sh row i ≠ sh new i → sh b (sh row i) < sh a (sh row i) ∧ sh a (sh new i) < sh b (sh new i)) := by
  have R' := M.rowOk R hb hf
  have i1 : i < row.length := by rw [R.len]; exact hi
  have i2 : i < fs.length := by omega
  have i3 : i < new.length := by rw [R'.len]; exact hi
  have e1 : sh row i = row[i] := by simp [sh, List.getD_eq_getElem?_getD, i1]
  have e2 : sh new i = new[i] := by simp [sh, List.getD_eq_getElem?_getD, i3]
  have z : (row.zip fs)[i]? = some (row[i], fs[i]) := by simp [List.getElem?_zip_eq_some, i1, i2]
  have k1 : sh row i < k := by rw [e1]; exact R.lt _ (List.getElem_mem i1)
  have k2 : sh new i < k := by rw [e2]; exact R'.lt _ (List.getElem_mem i3)
  refine ⟨k1, k2, fun hne => ⟨?_, ?_⟩⟩
  · have h1 := leaveC_pos (v := sh row i) z (List.getElem?_eq_getElem i3) e1.symm (by rw [← e2]; exact fun q => hne q.symm)
    have h2 := M.lv _ k1
    rw [nth_decs R.al hb] at h2
    omega
  · have h1 := enterC_pos (v := sh new i) z (List.getElem?_eq_getElem i3) e2.symm (by show row[i] ≠ _; rw [← e1]; exact hne)
    have h2 := M.en _ k2
    rw [nth_decs hb R.al] at h2
    omega
/-- what a chain's rows are -/
structure Tbl (k n : Nat) (as rows : List (List Nat)) : Prop where
  len : rows.length = as.length
  ok : ∀ i, i < as.length → RowOk k n (rowAt as i) (rowAt rows i)
  fair : ∀ i, i + 1 < as.length → ∀ j, j < n → sh (rowAt rows i) j < k ∧ sh (rowAt rows (i + 1)) j < k ∧ (sh (rowAt rows i) j ≠ sh (rowAt rows (i + 1)) j →
    sh (rowAt as (i + 1)) (sh (rowAt rows i) j) < sh (rowAt as i) (sh (rowAt rows i) j) ∧ sh (rowAt as i) (sh (rowAt rows (i + 1)) j) < sh (rowAt as (i + 1)) (sh (rowAt rows (i + 1)) j))
theorem Tbl.of_chain {k n L : Nat} : ∀ {r : List (List Nat)} {a row cnt : List Nat} {rows : List (List Nat)}, Alike k n r → RowOk k n a row → cnt.length = n → Chain k L a r row cnt rows → Tbl k n (a :: r) (row :: rows)
  | [], a, row, cnt, rows, A, R, hc, h => by
    have e : rows = [] := h
    subst e
    refine ⟨rfl, fun i hi => ?_, fun i hi => ?_⟩
    · have : i = 0 := by simpa using hi
      subst this; exact R
    · simp at hi
  | b :: r, a, row, cnt, [], _, _, _, h => h.elim
  | b :: r, a, row, cnt, new :: rows, A, R, hc, ⟨M, h⟩ => by
    obtain ⟨hbl, hbs⟩ := A.all b (by simp)
    have hfl : (frees L cnt).length = n := by rw [frees_length, hc]
    have R' := M.rowOk R hbl hfl
    have T := Tbl.of_chain A.tail R' (bump_length hc R.len R'.len) h
    refine ⟨by have := T.len; simpa using this, fun i hi => ?_, fun i hi j hj => ?_⟩
    · cases i with
      | zero => exact R
      | succ i => exact T.ok i (by simpa using hi)
    · cases i with
      | zero => exact M.fair R hbl hfl hj
      | succ i => exact T.fair i (by simpa using hi) j hj
end LM
end

section
set_option Elab.async false
set_option linter.all false
set_option maxRecDepth 100000
namespace LX
open PySem PySem.Spec PyProof.Rows L2
section
variable {prog : Program} {w : World} {A : Around} {E : Value → Shared → Prop} {s : Shared} {l : Addr}
theorem sum_tupRaw {its : List Value} {ns : List Int} {Q : Value → Shared → Prop} (hh : A.handled = none) (hl : s.heap.IsTuple l its.toArray) (hi : IntsAre its ns)
    (h : ∀ h' tk t', (∀ b o, s.heap.get? b = some o → h'.get? b = some o) → Q (.int ns.sum t') { s with heap := h', toks := tk }) : wpAny (model prog w) A (call (.builtin "sum") [.ref l]) Q E s := by
  obtain ⟨xs, e⟩ := hi.allInts.items
  have hn : numsOf (intItems xs).toList = ns := by rw [← e]; exact hi.numsOf
  rw [nums_intItems] at hn
  rw [e] at hl
  have hlt : l < s.heap.objs.size := by obtain ⟨_, e, _⟩ := hl; exact Heap.lt_size e
  refine call_sum_walkG (wpAny_pyIter_tuple hl ?_)
  refine ⟨_, _, _, _, _, _, numAt xs, rfl, Walks.tuple (A := A.in1) hh s.heap.objs.size l (Nat.ne_of_lt hlt) (intItems xs), ⟨⟨_, Heap.get?_push_size _ rfl, rfl, rfl⟩, hl.push _⟩, fun b hb => ?_, (fun _ _ => intItems_at), fun h' tk t' hk => ?_⟩
  · show b < (s.heap.push _).objs.size
    rw [Heap.size_push]
    rcases List.mem_cons.mp hb with rfl | hb
    · exact Nat.lt_succ_self _
    · rcases List.mem_cons.mp hb with rfl | hb
      · exact Nat.lt_succ_of_lt hlt
      · cases hb
  · have := h h' tk t' fun b o e => hk b o (by simp only [List.mem_singleton]; exact Nat.ne_of_lt (Heap.lt_size e)) (Heap.get?_push_of_some _ e)
    rw [preSum_eq, List.take_of_length_le (by simp [intItems]), hn]; exact this
theorem max_tupRaw {its : List Value} {ns : List Int} {Q : Value → Shared → Prop} (hh : A.handled = none) (hl : s.heap.IsTuple l its.toArray) (hi : IntsAre its ns) (hne : 0 < ns.length)
    (h : ∀ h' tk M t', (∀ b o, s.heap.get? b = some o → h'.get? b = some o) → M ∈ ns → (∀ a, a ∈ ns → a ≤ M) → Q (.int M t') { s with heap := h', toks := tk }) : wpAny (model prog w) A (call (.builtin "max") [.ref l]) Q E s := by
  obtain ⟨xs, e⟩ := hi.allInts.items
  have hn : numsOf (intItems xs).toList = ns := by rw [← e]; exact hi.numsOf
  rw [nums_intItems] at hn
  subst hn
  rw [e] at hl
  have hsz : 0 < xs.size := by simpa using hne
  have hlt : l < s.heap.objs.size := by obtain ⟨_, e, _⟩ := hl; exact Heap.lt_size e
  refine call_max_walk (wpAny_pyIter_tuple hl ?_)
  refine ⟨_, _, _, _, _, _, _, rfl, Walks.tuple (A := A.in1) hh s.heap.objs.size l (Nat.ne_of_lt hlt) (intItems xs), ⟨⟨_, Heap.get?_push_size _ rfl, rfl, rfl⟩, hl.push _⟩, fun b hb => ?_, by simpa [intItems] using hsz, CmpOf.ints_gt (numAt xs) (fun _ _ => intItems_at), fun v h' tk hP hk => ?_⟩
  · show b < (s.heap.push _).objs.size
    rw [Heap.size_push]
    rcases List.mem_cons.mp hb with rfl | hb
    · exact Nat.lt_succ_self _
    · rcases List.mem_cons.mp hb with rfl | hb
      · exact Nat.lt_succ_of_lt hlt
      · cases hb
  · have hv : (intItems xs)[argBest (fun i j => decide (numAt xs i > numAt xs j)) (xs.size - 1)]? = some v := by simpa [intItems] using hP
    obtain ⟨t, rfl⟩ := intItems_at hv
    obtain ⟨h1, h2⟩ := argBest_gt (numAt xs) (xs.size - 1)
    refine h h' tk _ t (fun b o e => hk b o (by simp only [List.mem_singleton]; exact Nat.ne_of_lt (Heap.lt_size e)) (Heap.get?_push_of_some _ e)) ?_ fun a ha => ?_
    · rw [numAt_eq]; exact PySem.getD_mem (by rw [List.length_map, Array.length_toList]; omega)
    · obtain ⟨j, hj, rfl⟩ := mem_getD ha
      rw [List.length_map, Array.length_toList] at hj
      rw [← numAt_eq]; exact h2 j (by omega)
end
section
variable {X : Cx}
/-- sum(t), max(t) of a tuple of ints -/
def rSumT (K : PySem.W.Frag) : List V → Hp → VK → Prop := fun vs H Q => ∃ (a : Addr) (ns : List Int), vs = [V.ref a] ∧ SqT K H a (ns.map V.int) ∧ Q (.int ns.sum) H
def rMaxT (K : PySem.W.Frag) : List V → Hp → VK → Prop := fun vs H Q => ∃ (a : Addr) (ns : List Int), vs = [V.ref a] ∧ SqT K H a (ns.map V.int) ∧ 0 < ns.length ∧ ∀ m, m ∈ ns → (∀ y, y ∈ ns → y ≤ m) → Q (.int m) H
theorem cr_sumT (hc : X.calm = true) : CallR X (.builtin "sum") (rSumT X.K) := by
  intro pins s σ H vs us Q I r h
  obtain ⟨a, ns, rfl, hs, q⟩ := h
  obtain ⟨its, rv, hl, _⟩ := I.tuple hs
  rw [Vals.ref1 r]
  exact sum_tupRaw (I.ok.hd hc) (show s.heap.IsTuple a its.toArray from hl) rv.ints fun h' tk t' hk => ⟨.int _, H, I.kept hk, ⟨_, rfl⟩, q⟩
theorem cr_maxT (hc : X.calm = true) : CallR X (.builtin "max") (rMaxT X.K) := by
  intro pins s σ H vs us Q I r h
  obtain ⟨a, ns, rfl, hs, hne, q⟩ := h
  obtain ⟨its, rv, hl, _⟩ := I.tuple hs
  rw [Vals.ref1 r]
  exact max_tupRaw (I.ok.hd hc) (show s.heap.IsTuple a its.toArray from hl) rv.ints hne fun h' tk m t' hk h1 h2 => ⟨.int _, H, I.kept hk, ⟨_, rfl⟩, q m h1 h2⟩
/-- t.count(y), flat items -/
def rCountT (K : PySem.W.Frag) : V → List V → Hp → VK → Prop := fun x xs H Q => ∃ (a : Addr) (ys : List V) (y : V), x = V.ref a ∧ xs = [y] ∧ SqT K H a ys ∧ flatV y = true ∧ ys.all flatV = true ∧ Q (.int ((ys.countP fun z => eqV z y : Nat) : Int)) H
theorem countP_vals {y : V} : ∀ {ys : List V} {us : List Value}, Vals ys us → ys.all flatV = true → us.countP (eqU y) = ys.countP fun z => eqV z y
  | _, _, .nil, _ => rfl
  | _, _, .cons r t, f => by
    rw [List.all_cons, Bool.and_eq_true] at f
    rw [List.countP_cons, List.countP_cons, countP_vals t f.2, eqU_of r f.1]
theorem mt_tcount : MtR X "tuple.count" (rCountT X.K) := by
  intro pins s σ H x xs v us Q I rx rxs h
  obtain ⟨a, ys, y, rfl, rfl, hs, fy, fys, q⟩ := h
  cases rx
  cases rxs with
  | cons ry rt =>
    rename_i uy ut
    cases rt
    obtain ⟨its, rv, ⟨⟨cls, dd, data, sl⟩, ho, hc, n, hd⟩, hlen⟩ := I.tuple hs
    simp only at hc hd
    subst hc hd
    refine call_meets PySem.F.slot_tuple_count ⟨_, ho, rfl⟩ PySem.F.entry_tuple_count (PySem.F.args_tuple_count_2 _ _)
      (SeqAt.tuple_countAt a its.toArray n dd sl uy (eqU y)) ⟨ho, fun u' hu' => mem_eqAt ry fy rv fys u' (by simpa using hu'), ?_⟩
    have e : its.toArray.toList.countP (eqU y) = ys.countP fun z => eqV z y := countP_vals rv fys
    rw [e]
    exact ⟨.int _, H, I.tok _, ⟨_, rfl⟩, q⟩
/-- xs[i] by values -/
def rGetL (K : PySem.W.Frag) : V → V → Hp → VK → Prop := fun o i H Q => ∃ p xs k v, o = .ref p ∧ i = .int k ∧ SqL K H p xs ∧ 0 ≤ k ∧ xs[k.toNat]? = some v ∧ Q v H
theorem get_list : PGet X (rGetL X.K) := by
  intro pins s σ H o i ov iv Q I ro ri h
  obtain ⟨p, xs, k, v, rfl, rfl, hq, h0, hv, q⟩ := h
  cases ro
  obtain ⟨t, rfl⟩ := ri
  obtain ⟨its, r, pl, hz⟩ := I.list hq
  obtain ⟨u, hu, ru⟩ := r.get hv
  have hl := (List.getElem?_eq_some_iff.mp hv).1
  have hn := line63
  exact wpAny_getItem_list pl.isList h0 (by omega) (by simpa using hu) ⟨v, H, I, ru, q⟩
end
end LX
end

section
set_option Elab.async false
set_option linter.all false
set_option maxRecDepth 100000
namespace LX
open PySem PySem.Spec PyProof.Rows L2
section
variable {prog : Program} {w : World} {A : Around} {E : Value → Shared → Prop} {s : Shared}
theorem sliceApplied_back {sl : Addr} {t : Tok} {n : Nat} {Q : Int × Int × Nat → Shared → Prop} (hs : s.heap.IsSliceOf sl .none .none (.int (-1) t))
    (h : Q ((n : Int) - 1, -1, n) s) : wpAny (model prog w) A (Builtin.Slice.sliceApplied (.ref sl) (pure (n : Int))) Q E s := by
  obtain ⟨os, hos, hcs, hds⟩ := id hs
  unfold Builtin.Slice.sliceApplied Builtin.Slice.sliceFields
  refine wpAny_bind (wpAny_bind (wpAny_field hos hds (x := .none) rfl (wpAny_bind (wpAny_field hos hds (x := .none) rfl (wpAny_bind (wpAny_field hos hds (x := .int (-1) t) rfl (wpAny_pure ?_)))))))
  refine wpAny_bind (slicePart_int ?_)
  show wpAny _ _ (if ((-1 : Int) == 0) = true then _ else _) _ _ s
  rw [if_neg (by decide)]
  refine wpAny_bind (slicePart_none (wpAny_bind (slicePart_none (wpAny_bind (wpAny_pure ?_)))))
  have e1 : Builtin.Slice.sliceAdjust none none (-1) (n : Int) = ((n : Int) - 1, -1) := rfl
  have e2 : Builtin.Slice.slicePlaces ((n : Int) - 1) (-1) (-1) = n := by
    unfold Builtin.Slice.slicePlaces
    have h1 : ¬ ((-1 : Int) > 0) := by omega
    simp only [h1, if_false]
    by_cases h2 : (n : Int) - 1 > -1
    · simp only [h2, if_true]
      have : ((n : Int) - 1 - -1 - 1) / (- -1) = (n : Int) - 1 := by
        rw [show (- -1 : Int) = 1 by decide, Int.ediv_one]; omega
      rw [this]; omega
    · simp only [h2, if_false]; omega
  show wpAny _ _ (match Builtin.Slice.sliceAdjust none none (-1) (n : Int) with | (lo, hi) => pure (lo, (-1 : Int), Builtin.Slice.slicePlaces lo hi (-1))) _ _ s
  rw [e1]
  show wpAny _ _ (pure ((n : Int) - 1, (-1 : Int), Builtin.Slice.slicePlaces ((n : Int) - 1) (-1) (-1))) _ _ s
  rw [e2]
  exact wpAny_pure h
theorem fm_congr {α β : Type} {f g : α → Option β} : ∀ {l : List α}, (∀ x ∈ l, f x = g x) → l.filterMap f = l.filterMap g
  | [], _ => rfl
  | a :: r, h => by
    rw [List.filterMap_cons, List.filterMap_cons, h a (by simp), fm_congr fun x hx => h x (by simp [hx])]
theorem pick_back (xs : Array Value) : ((List.range xs.size).filterMap fun (m : Nat) => xs[(((xs.size : Nat) : Int) - 1 + (m : Int) * (-1)).toNat]?).toArray = xs.toList.reverse.toArray := by
  congr 1
  have e : ((List.range xs.size).filterMap fun (m : Nat) => xs[(((xs.size : Nat) : Int) - 1 + (m : Int) * (-1)).toNat]?) = ((List.range xs.size).map (fun k => xs.size - 1 - k)).filterMap (xs[·]?) := by
    rw [List.filterMap_map]
    refine fm_congr fun m hm => ?_
    have := List.mem_range.mp hm
    have e2 : (((xs.size : Nat) : Int) - 1 + (m : Int) * (-1)).toNat = xs.size - 1 - m := by omega
    simp only [Function.comp, e2]
  rw [e, PySem.W.krv_range, List.filterMap_reverse, PySem.W.krv_all]
theorem getItem_tuple_back {a sl : Addr} {items : Array Value} {t : Tok} {Q : Value → Shared → Prop} (ht : IsTup s.heap a items) (hs : s.heap.IsSliceOf sl .none .none (.int (-1) t))
    (h : Q (.ref s.heap.objs.size) { s with heap := s.heap.push { cls := .type "tuple", data := .seq items.toList.reverse.toArray } })
    (hsz : items.size ≤ sizeLine) : wpAny (model prog w) A (getItem (.ref a) (.ref sl)) Q E s := by
  have htake : sizeOk (.seq items.toList.reverse.toArray) := by
    show items.toList.reverse.toArray.size ≤ sizeLine
    simpa using hsz
  obtain ⟨os, hos, hcs, hds⟩ := id hs
  have hTs : s.TypeIs (.ref sl) "slice" := ⟨os, hos, hcs⟩
  unfold getItem
  try with_reducible refine wpAny_holding ?_
  first | refine wpAny_bind (wpAny_pure ?_) | skip
  refine wpAny_bind (wpAny_sequenceKey ht.typeIs (by decide) ?_)
  refine wpAny_bind (wpAny_callSpecial?_slot (name := Str.ofString "__getitem__") ht.typeIs PyProof.Rows.slot_tuple_getitem
    (wpAny_call_entry PyProof.Rows.slot_tuple_getitem ht.typeIs entry_tuple_getitem ?_ (args_tuple_getitem _ _)))
  show wpAny _ _ (Builtin.Tuple.tupleItemsOf (.ref a) >>= _) _ _ s
  refine wpAny_bind (tupleItemsOf_ ht ?_)
  refine wpAny_bind (wpAny_typeOf hTs ?_)
  rw [if_pos (by decide)]
  refine wpAny_bind (sliceApplied_back hs ?_)
  have hno : ¬ ((((items.size : Nat) : Int) - 1 == 0 && (-1 : Int) == 1 && items.size == items.size) = true) := by
    intro q
    rw [Bool.and_eq_true, Bool.and_eq_true] at q
    exact absurd q.1.2 (by decide)
  show wpAny _ _ (if (((items.size : Nat) : Int) - 1 == 0 && (-1 : Int) == 1 && items.size == items.size) = true then _ else _) _ _ s
  rw [if_neg hno, pick_back]
  first
    | exact wpAny_bind (m := Builtin.Tuple.tupleExact _) (wpAny_newObj_type (wpAny_pure ⟨_, rfl, wpAny_pure h⟩) htake)
    | exact wpAny_bind (m := Builtin.Tuple.tupleExact _) (wpAny_newObj_type (wpAny_bind (wpAny_pure (wpAny_pure ⟨_, rfl, wpAny_pure h⟩))) htake)
    | exact wpAny_bind (wpAny_bind (m := Builtin.Tuple.tupleExact _) (wpAny_newObj_type (wpAny_pure (wpAny_pure ⟨_, rfl, wpAny_pure h⟩)) htake))
    | exact wpAny_bind (wpAny_bind (m := Builtin.Tuple.tupleExact _) (wpAny_newObj_type (wpAny_pure ⟨_, rfl, wpAny_pure h⟩) htake))
end
section
variable {X : Cx}
/-- t[::-1] -/
def tRevT (K : PySem.W.Frag) (te : TE) : TE := fun σ H Q => te σ H fun x H1 => ∃ a xs, x = .ref a ∧ SqT K H1 a xs ∧ ∀ p, H1 p = none → Q (.ref p) (upd H1 p (.tup xs.reverse))
theorem pe_revT {e : Expr} {te : TE} {k : Nat} {p1 p2 p3 pos : Pos} (he : PE X e te) : PE X (.Subscript e (.Slice none none (some (.UnaryOp .USub (.Constant (.int 1) k p1) p2)) p3) pos) (tRevT X.K te) := by
  refine ⟨fun pins s σ H Q I h => ?_⟩
  refine Subscript_ (thn (he.run pins s σ H _ I h) fun v s1 ⟨x, H1, I1, r1, q1⟩ => ?_)
  obtain ⟨a, xs, ex, hx, q⟩ := q1
  subst ex
  cases r1
  have hst : PO X (some (.UnaryOp .USub (.Constant (.int 1) k p1) p2)) (tPart (tUn (rU fun i => .int (-i)) (tC (.int 1)))) := po_some (pe_un un_neg pe_int)
  refine wpAny_Slice (thn (po_none.run pins s1 σ H1 (fun o H2 => o = none ∧ H2 = H1) I1 ⟨rfl, rfl⟩) fun vl s2 ⟨l, H2, I2, pl, el, e2⟩ => ?_)
  subst el e2
  refine thn (po_none.run pins s2 σ H2 (fun o H3 => o = none ∧ H3 = H2) I2 ⟨rfl, rfl⟩) fun vu s3 ⟨u, H3, I3, pu, eu, e3⟩ => ?_
  subst eu e3
  refine thn (hst.run pins s3 σ H3 (fun o H4 => o = some (-1) ∧ H4 = H3) I3 ⟨1, rfl, -1, rfl, rfl, rfl⟩) fun vs s4 ⟨o, H4, I4, ps, eo, e4⟩ => ?_
  subst eo e4
  have I5 : Inv X pins σ H4 { s4 with heap := s4.heap.push { cls := .type "slice", data := .fields #[vl, vu, vs] } } := I4.kept (t' := s4.toks) fun b ob q => Heap.get?_push_of_some _ q
  obtain ⟨its, r, ht, hz⟩ := I5.tuple hx
  have hlen := r.length
  cases pl
  cases pu
  cases ps
  show wpAny (model X.prog X.w) X.A (subscriptTail e (.Slice none none (some (.UnaryOp .USub (.Constant (.int 1) k p1) p2)) p3) (.ref a) (.ref s4.heap.objs.size)) (EP X pins σ Q) X.xe _
  refine tail_any (ops := [.ref a, .ref s4.heap.objs.size]) ht.typeIs PyProof.Rows.slot_tuple_getitem.lookup ?_ (by with_unfolding_all rfl)
  refine getItem_tuple_back ht (Heap.IsSliceOf.new _ _ _ _) ?_ (by rw [List.size_toArray]; omega)
  refine ⟨.ref _, _, I5.laid (t' := s4.toks) (o := .tup xs.reverse) (fun b ob q => Heap.get?_push_of_some _ q) (Nat.le_refl _) ?_, rfl, q _ (I5.hok.fresh (Nat.le_refl _))⟩
  exact ⟨by rw [List.length_reverse]; exact hz, _, r.reverse, IsTup.new _ _⟩
end
end LX
end

section
set_option Elab.async false
set_option linter.all false
set_option maxRecDepth 100000
namespace LX
open PySem PySem.Spec PyProof.Rows L2
/-! a dict whose keys are (int, tuple of ints, tuple of ints) -/
def nvs (l : List Nat) : List V := l.map fun (x : Nat) => V.int x
def kInts (l : List Nat) : NestedKey := .tup (l.map fun (x : Nat) => .num x)
def key3 (i : Nat) (row cnt : List Nat) : NestedKey := .tup [.num i, kInts row, kInts cnt]
theorem kInts_inj {l m : List Nat} (h : kInts l = kInts m) : l = m := by
  unfold kInts at h
  injection h with h
  exact List.map_inj_right (fun x y e => by injection e with e; exact Int.ofNat_inj.mp e) |>.mp h
theorem key3_inj {i j : Nat} {r1 r2 c1 c2 : List Nat} (h : key3 i r1 c1 = key3 j r2 c2) : i = j ∧ r1 = r2 ∧ c1 = c2 := by
  unfold key3 at h
  injection h with h
  injection h with h1 h
  injection h with h2 h
  injection h with h3 h
  injection h1 with h1
  exact ⟨Int.ofNat_inj.mp h1, kInts_inj h2, kInts_inj h3⟩
theorem kInts_depth (l : List Nat) : (kInts l).depth ≤ 1 := by
  unfold kInts
  rw [NestedKey.depth]
  have : NestedKey.depthAll (l.map fun (x : Nat) => NestedKey.num x) = 0 := by
    induction l with
    | nil => rfl
    | cons a r ih => rw [List.map_cons, NestedKey.depthAll, ih]; rfl
  omega
theorem key3_depth (i : Nat) (r c : List Nat) : (key3 i r c).depth ≤ 8 := by
  have h1 := kInts_depth r
  have h2 := kInts_depth c
  unfold key3
  rw [NestedKey.depth, NestedKey.depthAll, NestedKey.depthAll, NestedKey.depthAll, NestedKey.depthAll]
  have : (NestedKey.num (i : Int)).depth = 0 := rfl
  omega
def nestHO (P : Program) (w : World) (d : Addr) (xs : List (NestedKey × Addr × Value)) : HO := .ext fun h => (d == sysModules) = false ∧
  ∃ o es ep, h.get? d = some o ∧ o.ExactDict ∧ o.data = .dict es ep ∧ es.toList = xs.map (entryOfKey (nestedKind P w)) ∧ (xs.map (·.1)).Nodup
def KeyH (H : Hp) (k : NestedKey) (a : Addr) : Prop := ∃ (i : Nat) (row cnt : List Nat) (r1 r2 : Addr), k = key3 i row cnt ∧ Rd H a (.tup [.int i, .ref r1, .ref r2]) ∧ Rd H r1 (.tup (nvs row)) ∧ Rd H r2 (.tup (nvs cnt))
theorem KeyH.stay {H H' : Hp} {k : NestedKey} {a : Addr} (h : KeyH H k a) (ht : ∀ b xs, Rd H b (.tup xs) → Rd H' b (.tup xs)) : KeyH H' k a := by
  obtain ⟨i, row, cnt, r1, r2, e, h1, h2, h3⟩ := h
  exact ⟨i, row, cnt, r1, r2, e, ht _ _ h1, ht _ _ h2, ht _ _ h3⟩
/-- at d stands a dict with these entries -/
structure NestAt (P : Program) (w : World) (H : Hp) (d : Addr) (xs : List (NestedKey × Addr × Value)) : Prop where
  at_ : H d = some (nestHO P w d xs)
  keys : ∀ x ∈ xs, KeyH H x.1 x.2.1
section
variable {P : Program} {w : World} {H : Hp} {h : Heap}
theorem nums_all {l : List Nat} : ∀ {us : List Value}, Vals (nvs l) us → NestedAll h (l.map fun (x : Nat) => NestedKey.num x) us := by
  induction l with
  | nil => intro us r; cases r; exact .nil
  | cons a r ih =>
    intro us q
    cases q with
    | cons q1 q2 =>
      obtain ⟨t, rfl⟩ := q1
      exact .cons (.int _ _) (ih q2)
theorem KeyH.is {k : NestedKey} {a : Addr} (ok : HOk P w H h) (hk : KeyH H k a) : (nestedKind P w).is h k a := by
  obtain ⟨i, row, cnt, r1, r2, rfl, h1, h2, h3⟩ := hk
  refine ⟨?_, key3_depth i row cnt⟩
  obtain ⟨_, its, rv, o, ho, hc, n, hd⟩ := h1.ok ok
  obtain ⟨_, its1, rv1, o1, ho1, hc1, n1, hd1⟩ := h2.ok ok
  obtain ⟨_, its2, rv2, o2, ho2, hc2, n2, hd2⟩ := h3.ok ok
  cases rv with
  | cons q1 q =>
    cases q with
    | cons q2 q =>
      cases q with
      | cons q3 q =>
        cases q
        obtain ⟨t, rfl⟩ := q1
        cases q2
        cases q3
        refine .tup ho hc hd (.cons (.int _ _) (.cons ?_ (.cons ?_ .nil)))
        · exact .tup ho1 hc1 hd1 (by simpa using nums_all rv1)
        · exact .tup ho2 hc2 hd2 (by simpa using nums_all rv2)
theorem NestAt.dict {d : Addr} {xs : List (NestedKey × Addr × Value)} (ok : HOk P w H h) (hn : NestAt P w H d xs) : (d == sysModules) = false ∧ h.DictOfH (nestedKind P w) d xs := by
  obtain ⟨⟨hd, o, es, ep, h1, h2, h3, h4, h5⟩, _, _⟩ := ok d _ hn.at_
  exact ⟨hd, o, es, ep, h1, h2, h3, h4, fun x hx => (hn.keys x hx).is ok, h5⟩
theorem nest_ok {d : Addr} {xs : List (NestedKey × Addr × Value)} (hs : (d == sysModules) = false) (hx : h.DictOfH (nestedKind P w) d xs) : ObjOk P w H h d (nestHO P w d xs) := by
  obtain ⟨o, es, ep, h1, h2, h3, h4, h5, h6⟩ := hx
  refine ⟨⟨hs, o, es, ep, h1, h2, h3, h4, h6⟩, ⟨o, h1⟩, fun ha hb q k => ?_⟩
  obtain ⟨q0, o', es', ep', q1, q2, q3, q4, q5⟩ := q
  exact ⟨q0, o', es', ep', k _ q1, q2, q3, q4, q5⟩
end
section
variable {X : Cx}
/-- {} -/
def tDNewN (P : Program) (w : World) : TE := fun _ H Q => ∀ p, H p = none → Q (.ref p) (upd H p (nestHO P w p []))
theorem pe_dnewN {pos : Pos} : PE X (.Dict [] [] pos) (tDNewN X.prog X.w) := ⟨fun pins s σ H Q I h =>
  wpAny_Dict_empty ⟨.ref s.heap.objs.size, _, I.laid (a := s.heap.objs.size) (o := nestHO X.prog X.w s.heap.objs.size []) (t' := s.toks) (fun _ _ q => Heap.get?_push_of_some _ q) (Nat.le_refl _)
    (nest_ok (beq_eq_false_iff_ne.mpr (Ne.symm (Nat.ne_of_lt I.big))) (Heap.DictOfH.new s.heap)), rfl, h _ (I.hok.fresh (Nat.le_refl _))⟩⟩
/-- k in d -/
def rInN (P : Program) (w : World) : R2 := fun x y H Q => ∃ d a k xs, y = .ref d ∧ x = .ref a ∧ NestAt P w H d xs ∧ KeyH H k a ∧ Q (.bl (atKey xs k).isSome) H
theorem op_inN (hu : X.A.units + 64 < cLine) : OpR X (compareOp .In) (rInN X.prog X.w) := by
  intro pins s σ H x y v u Q I rx ry h
  obtain ⟨d, a, k, xs, rfl, rfl, hn, hk, q⟩ := h
  cases rx
  cases ry
  obtain ⟨hd, hx⟩ := hn.dict I.hok
  exact wpAny_in_heap (knd := nestedKind X.prog X.w) (by show X.A.units + 1 + 8 < cLine; omega) (hk.is I.hok) hd hx ⟨.bl _, H, I.tok _, rfl, q⟩
/-- d[k] = True -/
def rSetN (P : Program) (w : World) : V → V → V → Hp → (Hp → Prop) → Prop := fun o i v H Q => ∃ d a k xs, o = .ref d ∧ i = .ref a ∧ v = .bl true ∧ NestAt P w H d xs ∧ KeyH H k a ∧ xs.length ≤ sizeLine ∧ Q (upd H d (nestHO P w d (storedH xs k a (.bool true))))
theorem set_nest (hu : X.A.units + 64 < cLine) : PSet X (rSetN X.prog X.w) := by
  intro pins s σ H o i v ov iv u Q I ro ri rv h
  obtain ⟨d, a, k, xs, rfl, rfl, rfl, hn, hk, hz, q⟩ := h
  cases ro
  cases ri
  cases rv
  obtain ⟨hd, hx⟩ := hn.dict I.hok
  refine wpAny_setItem_heap (knd := nestedKind X.prog X.w) (by show X.A.units + 1 + 8 < cLine; omega) (hk.is I.hok) hx (fun h' hx' sb => ?_) hz
  obtain ⟨ob, _, _, hob, _⟩ := id hx'
  exact ⟨_, I.write (x := d) (e := d) (by rw [hn.at_]; trivial) (.inl rfl) (fun b o hb e => (sb.2 b hb).trans e) ⟨ob, hob⟩ (nest_ok hd hx'), q⟩
end
end LX
end

section
set_option Elab.async false
set_option linter.all false
set_option maxRecDepth 100000
set_option maxHeartbeats 1000000
namespace LX
open PySem PySem.Spec PyProof.Rows L2
/-! zip of any number of lists and tuples, at the library's level -/
/-- an iterator at q.1 over the list (q.2.2) or tuple at q.2.1, at place i -/
def IterAt (h : Heap) (q : Addr × Addr × Bool) (i : Nat) : Prop := if q.2.2 = true then h.IsListIter q.1 q.2.1 i else h.IsTupleIter q.1 q.2.1 i
def SrcAt (h : Heap) (l : Addr) (b : Bool) (xs : Array Value) : Prop := if b = true then h.IsList l xs else h.IsTuple l xs
theorem IterAt.keep {h h' : Heap} {q : Addr × Addr × Bool} {i : Nat} (x : IterAt h q i) (k : ∀ o, h.get? q.1 = some o → h'.get? q.1 = some o) : IterAt h' q i := by
  obtain ⟨it, l, b⟩ := q
  cases b with
  | true => exact Heap.IsListIter.at (show h.IsListIter it l i from x) k
  | false => exact Heap.IsTupleIter.at (show h.IsTupleIter it l i from x) k
theorem IterAt.obj {h : Heap} {q : Addr × Addr × Bool} {i : Nat} (x : IterAt h q i) : ∃ o, h.get? q.1 = some o ∧ ∀ v, o.data ≠ .cell v := by
  obtain ⟨it, l, b⟩ := q
  cases b with
  | true => obtain ⟨o, e, c, d⟩ := (show h.IsListIter it l i from x); exact ⟨o, e, fun v z => by rw [d] at z; cases z⟩
  | false => obtain ⟨o, e, c, d⟩ := (show h.IsTupleIter it l i from x); exact ⟨o, e, fun v z => by rw [d] at z; cases z⟩
theorem SrcAt.keep {h h' : Heap} {l : Addr} {b : Bool} {xs : Array Value} (x : SrcAt h l b xs) (k : ∀ o, h.get? l = some o → h'.get? l = some o) : SrcAt h' l b xs := by
  cases b with
  | true => exact Heap.IsList.at (show h.IsList l xs from x) k
  | false => exact Heap.IsTuple.at (show h.IsTuple l xs from x) k
abbrev Sr := Addr × Addr × Bool
abbrev IsZ (h : Heap) (z TI TO : Addr) (f0 : Value) (f1 : Bool) : Prop :=
  h.get? z = some { cls := .type "zip", dict := none, data := .fields #[f0, .bool f1, .bool false, .ref TI, .ref TO], slots := #[] }
abbrev IsT (h : Heap) (T : Addr) (xs : Array Value) : Prop := h.get? T = some { cls := .type "tuple", data := .seq xs }
structure ZApart (z TI TO : Addr) (src : List Sr) : Prop where
  zTI : z ≠ TI
  zTO : z ≠ TO
  TITO : TI ≠ TO
  it : ∀ q ∈ src, q.1 ≠ z ∧ q.1 ≠ TI ∧ q.1 ≠ TO
  nd : (src.map (·.1)).Nodup
  ls : ∀ q ∈ src, q.2.1 ≠ z ∧ q.2.1 ≠ TO ∧ ∀ q' ∈ src, q.2.1 ≠ q'.1
section
variable {prog : Program} {w : World} {A : Around} {E : Value → Shared → Prop} {s : Shared}
theorem nextOf_item {q : Sr} {i : Nat} {xs : Array Value} {x : Value} {Q : Value → Shared → Prop} (hit : IterAt s.heap q i) (hl : SrcAt s.heap q.2.1 q.2.2 xs) (hx : xs[i]? = some x)
    (hQ : ∀ h', IterAt h' q (i + 1) → Heap.SameBut q.1 s.heap h' → Q x { s with heap := h' }) : wpAny (model prog w) A (Builtin.SmallTypes.nextOf (.ref q.1)) Q E s := by
  obtain ⟨it, l, b⟩ := q
  cases b with
  | true => exact wpAny_nextOf_list_item (show s.heap.IsListIter it l i from hit) (show s.heap.IsList l xs from hl) hx fun h' a b => hQ h' a b
  | false => exact RZ.nextOf_tuple_item (show s.heap.IsTupleIter it l i from hit) (show s.heap.IsTuple l xs from hl) hx fun h' a b => hQ h' a b
theorem nextOf_end {q : Sr} {i : Nat} {xs : Array Value} {Q : Value → Shared → Prop} (hh : A.handled = none) (hit : IterAt s.heap q i) (hl : SrcAt s.heap q.2.1 q.2.2 xs) (hx : xs[i]? = none)
    (hE : ∀ h' e, Heap.ExtBut q.1 s.heap h' → (∃ o, h'.get? e = some o ∧ o.cls = .type "StopIteration") → E (.ref e) { s with heap := h' }) : wpAny (model prog w) A (Builtin.SmallTypes.nextOf (.ref q.1)) Q E s := by
  obtain ⟨it, l, b⟩ := q
  cases b with
  | true => exact wpAny_nextOf_list_end hh (show s.heap.IsListIter it l i from hit) (show s.heap.IsList l xs from hl) hx hE
  | false => exact RZ.nextOf_tuple_end hh (show s.heap.IsTupleIter it l i from hit) (show s.heap.IsTuple l xs from hl) hx hE
theorem alive_any {a : Addr} {Q : Option Obj → Shared → Prop} (h : Q (s.heap.get? a) s) : wpAny (model prog w) A (loadIfAlive a) Q E s := fun _ _ _ => h
/-- whether the tuple may be used again -/
theorem owned_any {z TI TO : Addr} {f0 : Value} {f1 : Bool} {Q : Bool → Shared → Prop} (hz : IsZ s.heap z TI TO f0 f1) (hf : f0 = .none ∨ ∃ T : Addr, f0 = rawInt T)
    (h1 : Q true s) (h2 : ∀ h', IsZ h' z TI TO f0 true → Heap.SameBut z s.heap h' → Q false { s with heap := h' }) : wpAny (model prog w) A (Builtin.SmallTypes.ownedTupleIsFree (.ref z)) Q E s := by
  unfold Builtin.SmallTypes.ownedTupleIsFree
  rcases hf with rfl | ⟨T, rfl⟩
  · exact wpAny_bind (wpAny_field hz rfl (x := .none) rfl (wpAny_pure h1))
  · refine wpAny_bind (wpAny_field hz rfl (x := rawInt T) rfl ?_)
    show wpAny _ _ (loadIfAlive ((T : Int).toNat) >>= _) _ _ _
    rw [Int.toNat_natCast]
    refine wpAny_bind (alive_any ?_)
    cases s.heap.get? T with
    | none => exact wpAny_pure h1
    | some oT =>
      simp only [Option.isNone_some, Bool.false_eq_true, if_false]
      refine wpAny_bind (wpAny_field hz rfl (x := .bool f1) rfl ?_)
      cases f1 with
      | true =>
        rw [if_neg (show ¬ ((Value.bool true != Value.bool true) = true) from Bool.false_ne_true)]
        exact wpAny_pure (h2 s.heap hz (Heap.SameBut.refl _ _))
      | false =>
        rw [if_pos (show (Value.bool false != Value.bool true) = true from rfl)]
        exact wpAny_bind (wpAny_setField_rec hz (by simp) fun h₁ hz₁ hs₁ => wpAny_pure (h2 h₁ hz₁ hs₁))
theorem updateSeq_T {T : Addr} {xs : Array Value} {x : Value} {k : Nat} {Q : Unit → Shared → Prop} (hT : IsT s.heap T xs) (hz : xs.size ≤ 1000)
    (h : ∀ h', IsT h' T (xs.setIfInBounds k x) → Heap.SameBut T s.heap h' → Q () { s with heap := h' }) : wpAny (model prog w) A (updateSeq T (·.setIfInBounds k x)) Q E s := by
  refine wpAny_updateSeq hT rfl (h _ ?_ (Heap.SameBut.update ..)) (by rw [sizeLine_eq]; omega) (by simp; rw [sizeLine_eq]; omega)
  show (s.heap.update T (Obj.mapSeq (·.setIfInBounds k x))).get? T = _
  rw [Heap.get?_update_self _ hT rfl]
  simp [Obj.mapSeq]
/-- where a walk through the iterators stands: those of dn have turned -/
structure Mid (h0 h : Heap) (z TO : Addr) (dn td : List Sr) (i : Nat) (cont : Sr → Array Value) : Prop where
  size : h.objs.size = h0.objs.size
  d : ∀ q ∈ dn, IterAt h q (i + 1)
  t : ∀ q ∈ td, IterAt h q i ∧ SrcAt h q.2.1 q.2.2 (cont q)
  keep : ∀ c o, c ≠ z → c ≠ TO → (∀ q ∈ dn, c ≠ q.1) → h0.get? c = some o → h.get? c = some o

theorem zipN_item {z TI TO : Addr} {src : List Sr} {i : Nat} {cont : Sr → Array Value} {x : Sr → Value} {kept : Array Value} {f0 : Value} {f1 : Bool} {Q : Value → Shared → Prop} (D : ZApart z TI TO src)
    (hz : IsZ s.heap z TI TO f0 f1) (hf : f0 = .none ∨ ∃ T : Addr, f0 = rawInt T) (hTI : IsT s.heap TI (src.map fun q => Value.ref q.1).toArray) (hTO : IsT s.heap TO kept) (hks : kept.size = src.length) (hn : src.length ≤ 1000) (hn0 : src ≠ [])
    (hs : ∀ q ∈ src, IterAt s.heap q i ∧ SrcAt s.heap q.2.1 q.2.2 (cont q)) (hx : ∀ q ∈ src, (cont q)[i]? = some (x q))
    (hQ : ∀ h' f0' f1' kept', IsZ h' z TI TO f0' f1' → (f0' = .none ∨ ∃ T : Addr, f0' = rawInt T) → IsT h' TO kept' → kept'.size = src.length → (∀ q ∈ src, IterAt h' q (i + 1)) → IsT h' s.heap.objs.size (src.map x).toArray → h'.objs.size = s.heap.objs.size + 1 →
      (∀ c o, c ≠ z → c ≠ TO → (∀ q ∈ src, c ≠ q.1) → s.heap.get? c = some o → h'.get? c = some o) → Q (.ref s.heap.objs.size) { s with heap := h' }) :
    wpAny (model prog w) A (Builtin.«zip.__next__» ⟨[.ref z], []⟩) (fun fin s' => ∃ v, fin = .done (.ret v) ∧ Q v s') E s := by
  show wpAny _ _ (field (.ref z) 2 >>= _) _ _ _
  refine wpAny_bind (wpAny_field hz rfl (x := .bool false) rfl ?_)
  show wpAny _ _ (field (.ref z) 3 >>= _) _ _ _
  refine wpAny_bind (wpAny_field hz rfl (x := .ref TI) rfl ?_)
  refine wpAny_bind (wpAny_seqItems hTI rfl ?_)
  have hne : (src.map fun q => Value.ref q.1).toArray.isEmpty = false := by
    cases src with
    | nil => exact absurd rfl hn0
    | cons a b => rfl
  simp only [hne, Bool.false_eq_true, if_false]
  refine wpAny_bind (owned_any hz hf ?_ fun h₁ hz₁ hs₁ => ?_)
  · simp only [if_true]
    refine wpAny_bind (wpAny_rule ?_)
    refine wpAny_bind (wpAny_field hz rfl (x := .ref TO) rfl ?_)
    refine wpAny_bind (wpAny_setField_rec hz (by simp) fun h₁ hz₁ hs₁ => ?_)
    replace hz₁ : IsZ h₁ z TI TO .ellipsis f1 := hz₁
    refine wpAny_bind ?_
    have hz1 : h₁.objs.size = s.heap.objs.size := hs₁.1
    have kp1 : ∀ c o, c ≠ z → s.heap.get? c = some o → h₁.get? c = some o := fun c o hc e => hs₁.extBut _ _ hc e
    have M0 : Mid s.heap h₁ z TO [] src i cont := ⟨hz1, (fun q hq => absurd hq (List.not_mem_nil)), fun q hq => ⟨(hs q hq).1.keep fun o e => kp1 _ o (D.it q hq).1 e, (hs q hq).2.keep fun o e => kp1 _ o (D.ls q hq).1 e⟩, fun c o h1 _ _ e => kp1 c o h1 e⟩
    refine wpAny_forIn_list _ (fun rest b s' => b.1 = none ∧ ∃ dn td h kept1, src = dn ++ td ∧ rest = (td.map fun q => Value.ref q.1).zipIdx dn.length ∧ s' = { s with heap := h } ∧ IsZ h z TI TO .ellipsis f1 ∧ IsT h TO kept1 ∧ kept1.toList = dn.map x ++ kept.toList.drop dn.length ∧ Mid s.heap h z TO dn td i cont) _ ?turn ?fin _ _
      ⟨rfl, [], src, h₁, kept, rfl, rfl, rfl, hz₁, kp1 _ _ (Ne.symm D.zTO) hTO, by simp, M0⟩
    case turn =>
      rintro y rest b s' ⟨hb, dn, td, h, k1, e, er, rfl, hzh, hTh, hk1, M⟩
      cases td with
      | nil => simp at er
      | cons q td =>
        rw [List.map_cons, List.zipIdx_cons] at er
        injection er with e1 e2
        subst e1 e2
        have hq : q ∈ src := by rw [e]; simp
        obtain ⟨t1, t2⟩ := M.t q (by simp)
        obtain ⟨q1, q2, q3⟩ := D.it q hq
        have nd := D.nd
        rw [e, List.map_append, List.map_cons] at nd
        obtain ⟨_, nd2, nd3⟩ := List.nodup_append.mp nd
        have hdn : ∀ p ∈ dn, p.1 ≠ q.1 := fun p hp => nd3 p.1 (List.mem_map_of_mem hp) q.1 (by simp)
        have htd : ∀ p ∈ td, p.1 ≠ q.1 := fun p hp z => by
          have := (List.nodup_cons.mp nd2).1
          exact this (by rw [← z]; exact List.mem_map_of_mem hp)
        have hlen : k1.size = src.length := by
          have : k1.toList.length = src.length := by
            have hkt : kept.toList.length = src.length := by simpa using hks
            have he : src.length = dn.length + (td.length + 1) := by rw [e]; simp
            rw [hk1, List.length_append, List.length_map, List.length_drop]; omega
          simpa using this
        refine wpAny_bind (wpAny_onRaise ?_)
        show wpAny _ _ (Builtin.SmallTypes.nextOf (.ref q.1) >>= _) _ _ _
        refine wpAny_bind (nextOf_item (s := { s with heap := h }) t1 t2 (hx q hq) fun h2 hit hsb => wpAny_pure ?_)
        have hT2 : IsT h2 TO k1 := hsb.extBut _ _ (Ne.symm q3) hTh
        refine wpAny_bind (wpAny_seqItems (s := { s with heap := h2 }) hT2 rfl ?_)
        refine wpAny_bind (updateSeq_T (s := { s with heap := h2 }) hT2 (by rw [hlen]; exact hn) fun h3 hT3 hs3 => ?_)
        refine wpAny_bind (wpAny_letGo (wpAny_pure ?_))
        have up : ∀ c o, c ≠ q.1 → c ≠ TO → h.get? c = some o → h3.get? c = some o := fun c o h1 h2 e => hs3.extBut _ _ h2 (hsb.extBut _ _ h1 e)
        refine ⟨rfl, dn ++ [q], td, h3, _, by rw [e]; simp, by simp, rfl, up _ _ (Ne.symm q1) D.zTO hzh, hT3, ?_, ⟨?_, fun p hp => ?_, fun p hp => ?_, fun c o c1 c2 c3 e => ?_⟩⟩
        · rw [Array.toList_setIfInBounds, hk1, List.length_append, List.map_append, List.length_singleton, List.map_cons, List.map_nil]
          have hkt : kept.toList.length = src.length := by simpa using hks
          have he : src.length = dn.length + (td.length + 1) := by rw [e]; simp
          have hl : dn.length < kept.toList.length := by omega
          rw [List.set_append_right _ _ (by simp), List.length_map, Nat.sub_self, List.drop_eq_getElem_cons hl, List.set_cons_zero]
          simp
        · rw [hs3.1, hsb.1]; exact M.size
        · rcases List.mem_append.mp hp with hp | hp
          · exact (M.d p hp).keep fun o e' => up _ o (hdn p hp) (D.it p (by rw [e]; simp [hp])).2.2 e'
          · have : p = q := by simpa using hp
            subst this
            exact hit.keep fun o e' => hs3.extBut _ _ q3 e'
        · have hp' : p ∈ src := by rw [e]; simp [hp]
          obtain ⟨m1, m2⟩ := M.t p (by simp [hp])
          exact ⟨m1.keep fun o e' => up _ o (htd p hp) (D.it p hp').2.2 e', m2.keep fun o e' => up _ o ((D.ls p hp').2.2 q hq) (D.ls p hp').2.1 e'⟩
        · exact up c o (c3 q (by simp)) c2 (M.keep c o c1 c2 (fun p hp => c3 p (by simp [hp])) e)
    case fin =>
      rintro b s' ⟨hb, dn, td, h, k1, e, er, rfl, hzh, hTh, hk1, M⟩
      have htd : td = [] := by
        cases td with
        | nil => rfl
        | cons q td => simp [List.zipIdx_cons] at er
      subst htd
      rw [List.append_nil] at e
      subst e
      have hk2 : k1 = (src.map x).toArray := by
        apply Array.ext'
        rw [hk1, List.drop_eq_nil_of_le (by rw [Array.length_toList, hks]; exact Nat.le_refl _)]
        simp
      simp only [hb]
      refine wpAny_bind (wpAny_seqItems (s := { s with heap := h }) hTh rfl ?_)
      have hkl : k1.toList = src.map x := by rw [hk2]
      show wpAny _ _ (newTuple k1.toList >>= _) _ _ _
      rw [hkl]
      refine wpAny_bind (wpAny_newTuple (s := { s with heap := h }) ?_ (by rw [List.length_map, sizeLine_eq]; omega))
      have hsz : h.objs.size = s.heap.objs.size := M.size
      have hzlt : z < h.objs.size := Heap.lt_size hzh
      have hTOlt : TO < h.objs.size := Heap.lt_size hTh
      show wpAny _ _ (Builtin.SmallTypes.ownedTupleHandOut (.ref z) (.ref h.objs.size) >>= _) _ _ _
      refine wpAny_bind ?_
      unfold Builtin.SmallTypes.ownedTupleHandOut
      have hz6 : IsZ (h.push { cls := .type "tuple", data := .seq (src.map x).toArray }) z TI TO .ellipsis f1 := Heap.get?_push_of_some _ hzh
      refine wpAny_bind (wpAny_setField_rec hz6 (by simp) fun h7 hz7 hs7 => ?_)
      replace hz7 : IsZ h7 z TI TO (rawInt h.objs.size) f1 := hz7
      refine wpAny_setField_rec hz7 (by simp) fun h8 hz8 hs8 => ?_
      replace hz8 : IsZ h8 z TI TO (rawInt h.objs.size) false := hz8
      have up : ∀ c o, c ≠ z → h.get? c = some o → h8.get? c = some o := fun c o c1 e => hs8.extBut _ _ c1 (hs7.extBut _ _ c1 (Heap.get?_push_of_some _ e))
      have hT8 : IsT h8 h.objs.size (src.map x).toArray := hs8.extBut _ _ (Nat.ne_of_gt hzlt) (hs7.extBut _ _ (Nat.ne_of_gt hzlt) (Heap.get?_push_size _ rfl))
      have hz9 : h8.objs.size = h.objs.size + 1 := by rw [hs8.1, hs7.1, Heap.size_push]
      rw [hsz] at hT8 hz9
      refine wpAny_pure ⟨_, rfl, ?_⟩
      show Q (.ref h.objs.size) _
      rw [hsz]
      exact hQ h8 _ false k1 hz8 (.inr ⟨_, rfl⟩) (up _ _ (Ne.symm D.zTO) hTh) (by rw [hk2]; simp) (fun q hq => (M.d q hq).keep fun o e => up _ o (D.it q hq).1 e) hT8 hz9 fun c o c1 c2 c3 e => up c o c1 (M.keep c o c1 c2 c3 e)
  · simp only [Bool.false_eq_true, if_false]
    refine wpAny_bind ?_
    have hz1 : h₁.objs.size = s.heap.objs.size := hs₁.1
    have kp1 : ∀ c o, c ≠ z → s.heap.get? c = some o → h₁.get? c = some o := fun c o hc e => hs₁.extBut _ _ hc e
    have M0 : Mid s.heap h₁ z z [] src i cont := ⟨hz1, (fun q hq => absurd hq (List.not_mem_nil)), fun q hq => ⟨(hs q hq).1.keep fun o e => kp1 _ o (D.it q hq).1 e, (hs q hq).2.keep fun o e => kp1 _ o (D.ls q hq).1 e⟩, fun c o h1 _ _ e => kp1 c o h1 e⟩
    rw [← Array.forIn_toList]
    refine wpAny_forIn_list _ (fun rest b s' => b.1 = none ∧ ∃ dn td h, src = dn ++ td ∧ rest = (td.map fun q => Value.ref q.1) ∧ b.2 = (dn.map x).toArray ∧ s' = { s with heap := h } ∧ IsZ h z TI TO f0 true ∧ Mid s.heap h z z dn td i cont) _ ?turn ?fin _ _
      ⟨rfl, [], src, h₁, rfl, rfl, rfl, rfl, hz₁, M0⟩
    case turn =>
      rintro y rest b s' ⟨hb, dn, td, h, e, er, hb2, rfl, hzh, M⟩
      cases td with
      | nil => simp at er
      | cons q td =>
        rw [List.map_cons] at er
        injection er with e1 e2
        subst e1 e2
        have hq : q ∈ src := by rw [e]; simp
        obtain ⟨t1, t2⟩ := M.t q (by simp)
        obtain ⟨q1, q2, q3⟩ := D.it q hq
        have nd := D.nd
        rw [e, List.map_append, List.map_cons] at nd
        obtain ⟨_, nd2, nd3⟩ := List.nodup_append.mp nd
        have hdn : ∀ p ∈ dn, p.1 ≠ q.1 := fun p hp => nd3 p.1 (List.mem_map_of_mem hp) q.1 (by simp)
        have htd : ∀ p ∈ td, p.1 ≠ q.1 := fun p hp z => by
          have := (List.nodup_cons.mp nd2).1
          exact this (by rw [← z]; exact List.mem_map_of_mem hp)
        refine wpAny_bind (wpAny_holding ?_)
        show wpAny _ _ (Builtin.SmallTypes.nextOf (.ref q.1) >>= _) _ _ _
        refine wpAny_bind (nextOf_item (s := { s with heap := h }) t1 t2 (hx q hq) fun h2 hit hsb => wpAny_pure (wpAny_pure ?_))
        refine ⟨rfl, dn ++ [q], td, h2, by rw [e]; simp, rfl, by simp [hb2], rfl, hsb.extBut _ _ (Ne.symm q1) hzh, ⟨?_, fun p hp => ?_, fun p hp => ?_, fun c o c1 c2 c3 e => ?_⟩⟩
        · rw [hsb.1]; exact M.size
        · rcases List.mem_append.mp hp with hp | hp
          · exact (M.d p hp).keep fun o e' => hsb.extBut _ o (hdn p hp) e'
          · have : p = q := by simpa using hp
            subst this
            exact hit
        · have hp' : p ∈ src := by rw [e]; simp [hp]
          obtain ⟨m1, m2⟩ := M.t p (by simp [hp])
          exact ⟨m1.keep fun o e' => hsb.extBut _ o (htd p hp) e', m2.keep fun o e' => hsb.extBut _ o ((D.ls p hp').2.2 q hq) e'⟩
        · exact hsb.extBut c o (c3 q (by simp)) (M.keep c o c1 c2 (fun p hp => c3 p (by simp [hp])) e)
    case fin =>
      rintro b s' ⟨hb, dn, td, h, e, er, hb2, rfl, hzh, M⟩
      have htd : td = [] := by
        cases td with
        | nil => rfl
        | cons q td => simp at er
      subst htd
      rw [List.append_nil] at e
      subst e
      simp only [hb, hb2]
      have hsz : h.objs.size = s.heap.objs.size := M.size
      refine wpAny_bind (wpAny_newTuple (s := { s with heap := h }) ?_ (by simp; rw [sizeLine_eq]; omega))
      have hzlt : z < h.objs.size := Heap.lt_size hzh
      have up : ∀ c o, h.get? c = some o → (h.push { cls := .type "tuple", data := .seq (src.map x).toArray }).get? c = some o := fun c o e => Heap.get?_push_of_some _ e
      have hTOne : ∀ q ∈ src, TO ≠ q.1 := fun q hq => Ne.symm (D.it q hq).2.2
      have hT8 : IsT (h.push { cls := .type "tuple", data := .seq (src.map x).toArray }) h.objs.size (src.map x).toArray := Heap.get?_push_size _ rfl
      have hz9 : (h.push { cls := .type "tuple", data := .seq (src.map x).toArray }).objs.size = h.objs.size + 1 := Heap.size_push ..
      rw [hsz] at hT8 hz9
      refine wpAny_pure ⟨_, rfl, ?_⟩
      show Q (.ref h.objs.size) _
      rw [hsz]
      exact hQ _ f0 true kept (up _ _ hzh) hf (up _ _ (M.keep _ _ (Ne.symm D.zTO) (Ne.symm D.zTO) hTOne hTO)) hks (fun q hq => (M.d q hq).keep fun o e => up _ o e) hT8 hz9 fun c o c1 c2 c3 e => up c o (M.keep c o c1 c1 c3 e)
end
end LX
end

section
set_option Elab.async false
set_option linter.all false
set_option maxRecDepth 100000
set_option maxHeartbeats 1000000
namespace LX
open PySem PySem.Spec PyProof.Rows L2
section
variable {prog : Program} {w : World} {A : Around} {E : Value → Shared → Prop} {s : Shared}
/-- the part of Mid that does not ask the sources of what is done -/
theorem zipN_end {z TI TO : Addr} {src : List Sr} {i : Nat} {cont : Sr → Array Value} {kept : Array Value} {f0 : Value} {f1 : Bool} {Q : Fin → Shared → Prop} (hh : A.handled = none) (D : ZApart z TI TO src)
    (hz : IsZ s.heap z TI TO f0 f1) (hf : f0 = .none ∨ ∃ T : Addr, f0 = rawInt T) (hTI : IsT s.heap TI (src.map fun q => Value.ref q.1).toArray) (hTO : IsT s.heap TO kept) (hks : kept.size = src.length) (hn : src.length ≤ 1000)
    (hs : ∀ q ∈ src, IterAt s.heap q i ∧ SrcAt s.heap q.2.1 q.2.2 (cont q)) (hend : ∃ q ∈ src, (cont q)[i]? = none)
    (hE : ∀ h' e, (∀ c o, c ≠ z → c ≠ TO → (∀ q ∈ src, c ≠ q.1) → s.heap.get? c = some o → h'.get? c = some o) → (∃ o, h'.get? e = some o ∧ o.cls = .type "StopIteration") → E (.ref e) { s with heap := h' }) :
    wpAny (model prog w) A (Builtin.«zip.__next__» ⟨[.ref z], []⟩) Q E s := by
  show wpAny _ _ (field (.ref z) 2 >>= _) _ _ _
  refine wpAny_bind (wpAny_field hz rfl (x := .bool false) rfl ?_)
  show wpAny _ _ (field (.ref z) 3 >>= _) _ _ _
  refine wpAny_bind (wpAny_field hz rfl (x := .ref TI) rfl ?_)
  refine wpAny_bind (wpAny_seqItems hTI rfl ?_)
  have hne : (src.map fun q => Value.ref q.1).toArray.isEmpty = false := by
    cases src with
    | nil => obtain ⟨_, hq, _⟩ := hend; simp at hq
    | cons a b => rfl
  simp only [hne, Bool.false_eq_true, if_false]
  refine wpAny_bind (owned_any hz hf ?_ fun h₁ hz₁ hs₁ => ?_)
  · simp only [if_true]
    refine wpAny_bind (wpAny_rule ?_)
    refine wpAny_bind (wpAny_field hz rfl (x := .ref TO) rfl ?_)
    refine wpAny_bind (wpAny_setField_rec hz (by simp) fun h₁ hz₁ hs₁ => ?_)
    replace hz₁ : IsZ h₁ z TI TO .ellipsis f1 := hz₁
    refine wpAny_bind ?_
    have hz1 : h₁.objs.size = s.heap.objs.size := hs₁.1
    have kp1 : ∀ c o, c ≠ z → s.heap.get? c = some o → h₁.get? c = some o := fun c o hc e => hs₁.extBut _ _ hc e
    have M0 : Mid s.heap h₁ z TO [] src i cont := ⟨hz1, (fun q hq => absurd hq (List.not_mem_nil)), fun q hq => ⟨(hs q hq).1.keep fun o e => kp1 _ o (D.it q hq).1 e, (hs q hq).2.keep fun o e => kp1 _ o (D.ls q hq).1 e⟩, fun c o h1 _ _ e => kp1 c o h1 e⟩
    refine wpAny_forIn_list _ (fun rest b s' => b.1 = none ∧ ∃ dn td h kept1, src = dn ++ td ∧ rest = (td.map fun q => Value.ref q.1).zipIdx dn.length ∧ s' = { s with heap := h } ∧ IsZ h z TI TO .ellipsis f1 ∧ IsT h TO kept1 ∧ kept1.size = src.length ∧ Mid s.heap h z TO dn td i cont ∧ ∃ q ∈ td, (cont q)[i]? = none) _ ?turn ?fin _ _
      ⟨rfl, [], src, h₁, kept, rfl, rfl, rfl, hz₁, kp1 _ _ (Ne.symm D.zTO) hTO, hks, M0, hend⟩
    case turn =>
      rintro y rest b s' ⟨hb, dn, td, h, k1, e, er, rfl, hzh, hTh, hlen, M, hex⟩
      cases td with
      | nil => simp at er
      | cons q td =>
        rw [List.map_cons, List.zipIdx_cons] at er
        injection er with e1 e2
        subst e1 e2
        have hq : q ∈ src := by rw [e]; simp
        obtain ⟨t1, t2⟩ := M.t q (by simp)
        obtain ⟨q1, q2, q3⟩ := D.it q hq
        have nd := D.nd
        rw [e, List.map_append, List.map_cons] at nd
        obtain ⟨_, nd2, nd3⟩ := List.nodup_append.mp nd
        have hdn : ∀ p ∈ dn, p.1 ≠ q.1 := fun p hp => nd3 p.1 (List.mem_map_of_mem hp) q.1 (by simp)
        have htd : ∀ p ∈ td, p.1 ≠ q.1 := fun p hp z => by
          have := (List.nodup_cons.mp nd2).1
          exact this (by rw [← z]; exact List.mem_map_of_mem hp)
        refine wpAny_bind (wpAny_onRaise ?_)
        show wpAny _ _ (Builtin.SmallTypes.nextOf (.ref q.1) >>= _) _ _ _
        cases hx : (cont q)[i]? with
        | none =>
          refine wpAny_bind (nextOf_end (s := { s with heap := h }) hh t1 t2 hx fun h2 e' hs2 he => ?_)
          obtain ⟨oe, hoe, hce⟩ := he
          have hz2 : IsZ h2 z TI TO .ellipsis f1 := hs2 _ _ (Ne.symm q1) hzh
          have hez : e' ≠ z := fun x => by subst x; rw [hz2] at hoe; cases hoe; simp at hce
          refine wpAny_setField_rec (s := { s with heap := h2 }) hz2 (by simp) fun h3 _ hs3 => hE h3 e' (fun c o c1 c2 c3 x => ?_) ⟨oe, hs3.extBut _ _ hez hoe, hce⟩
          exact hs3.extBut _ _ c1 (hs2 _ _ (c3 q hq) (M.keep c o c1 c2 (fun p hp => c3 p (by rw [e]; simp [hp])) x))
        | some xq =>
          refine wpAny_bind (nextOf_item (s := { s with heap := h }) t1 t2 hx fun h2 hit hsb => wpAny_pure ?_)
          have hT2 : IsT h2 TO k1 := hsb.extBut _ _ (Ne.symm q3) hTh
          refine wpAny_bind (wpAny_seqItems (s := { s with heap := h2 }) hT2 rfl ?_)
          refine wpAny_bind (updateSeq_T (s := { s with heap := h2 }) hT2 (by rw [hlen]; exact hn) fun h3 hT3 hs3 => ?_)
          refine wpAny_bind (wpAny_letGo (wpAny_pure ?_))
          have up : ∀ c o, c ≠ q.1 → c ≠ TO → h.get? c = some o → h3.get? c = some o := fun c o h1 h2 e => hs3.extBut _ _ h2 (hsb.extBut _ _ h1 e)
          refine ⟨rfl, dn ++ [q], td, h3, _, by rw [e]; simp, by simp, rfl, up _ _ (Ne.symm q1) D.zTO hzh, hT3, by simpa using hlen, ⟨?_, fun p hp => ?_, fun p hp => ?_, fun c o c1 c2 c3 e => ?_⟩, ?_⟩
          · rw [hs3.1, hsb.1]; exact M.size
          · rcases List.mem_append.mp hp with hp | hp
            · exact (M.d p hp).keep fun o e' => up _ o (hdn p hp) (D.it p (by rw [e]; simp [hp])).2.2 e'
            · have : p = q := by simpa using hp
              subst this
              exact hit.keep fun o e' => hs3.extBut _ _ q3 e'
          · have hp' : p ∈ src := by rw [e]; simp [hp]
            obtain ⟨m1, m2⟩ := M.t p (by simp [hp])
            exact ⟨m1.keep fun o e' => up _ o (htd p hp) (D.it p hp').2.2 e', m2.keep fun o e' => up _ o ((D.ls p hp').2.2 q hq) (D.ls p hp').2.1 e'⟩
          · exact up c o (c3 q (by simp)) c2 (M.keep c o c1 c2 (fun p hp => c3 p (by simp [hp])) e)
          · obtain ⟨p, hp, hpn⟩ := hex
            rcases List.mem_cons.mp hp with rfl | hp
            · rw [hx] at hpn; cases hpn
            · exact ⟨p, hp, hpn⟩
    case fin =>
      rintro b s' ⟨hb, dn, td, h, k1, e, er, rfl, hzh, hTh, hk1, M, hex⟩
      have htd : td = [] := by
        cases td with
        | nil => rfl
        | cons q td => simp [List.zipIdx_cons] at er
      subst htd
      obtain ⟨p, hp, _⟩ := hex
      simp at hp
  · simp only [Bool.false_eq_true, if_false]
    refine wpAny_bind ?_
    have hz1 : h₁.objs.size = s.heap.objs.size := hs₁.1
    have kp1 : ∀ c o, c ≠ z → s.heap.get? c = some o → h₁.get? c = some o := fun c o hc e => hs₁.extBut _ _ hc e
    have M0 : Mid s.heap h₁ z z [] src i cont := ⟨hz1, (fun q hq => absurd hq (List.not_mem_nil)), fun q hq => ⟨(hs q hq).1.keep fun o e => kp1 _ o (D.it q hq).1 e, (hs q hq).2.keep fun o e => kp1 _ o (D.ls q hq).1 e⟩, fun c o h1 _ _ e => kp1 c o h1 e⟩
    rw [← Array.forIn_toList]
    refine wpAny_forIn_list _ (fun rest b s' => b.1 = none ∧ ∃ dn td h, src = dn ++ td ∧ rest = (td.map fun q => Value.ref q.1) ∧ s' = { s with heap := h } ∧ Mid s.heap h z z dn td i cont ∧ ∃ q ∈ td, (cont q)[i]? = none) _ ?turn ?fin _ _
      ⟨rfl, [], src, h₁, rfl, rfl, rfl, M0, hend⟩
    case turn =>
      rintro y rest b s' ⟨hb, dn, td, h, e, er, rfl, M, hex⟩
      cases td with
      | nil => simp at er
      | cons q td =>
        rw [List.map_cons] at er
        injection er with e1 e2
        subst e1 e2
        have hq : q ∈ src := by rw [e]; simp
        obtain ⟨t1, t2⟩ := M.t q (by simp)
        have nd := D.nd
        rw [e, List.map_append, List.map_cons] at nd
        obtain ⟨_, nd2, nd3⟩ := List.nodup_append.mp nd
        have hdn : ∀ p ∈ dn, p.1 ≠ q.1 := fun p hp => nd3 p.1 (List.mem_map_of_mem hp) q.1 (by simp)
        have htd : ∀ p ∈ td, p.1 ≠ q.1 := fun p hp z => by
          have := (List.nodup_cons.mp nd2).1
          exact this (by rw [← z]; exact List.mem_map_of_mem hp)
        refine wpAny_bind (wpAny_holding ?_)
        show wpAny _ _ (Builtin.SmallTypes.nextOf (.ref q.1) >>= _) _ _ _
        cases hx : (cont q)[i]? with
        | none =>
          refine wpAny_bind (nextOf_end (s := { s with heap := h }) hh t1 t2 hx fun h2 e' hs2 he => ?_)
          exact hE h2 e' (fun c o c1 c2 c3 x => hs2 _ _ (c3 q hq) (M.keep c o c1 c1 (fun p hp => c3 p (by rw [e]; simp [hp])) x)) he
        | some xq =>
          refine wpAny_bind (nextOf_item (s := { s with heap := h }) t1 t2 hx fun h2 hit hsb => wpAny_pure (wpAny_pure ?_))
          refine ⟨rfl, dn ++ [q], td, h2, by rw [e]; simp, rfl, rfl, ⟨?_, fun p hp => ?_, fun p hp => ?_, fun c o c1 c2 c3 e => ?_⟩, ?_⟩
          · rw [hsb.1]; exact M.size
          · rcases List.mem_append.mp hp with hp | hp
            · exact (M.d p hp).keep fun o e' => hsb.extBut _ o (hdn p hp) e'
            · have : p = q := by simpa using hp
              subst this
              exact hit
          · have hp' : p ∈ src := by rw [e]; simp [hp]
            obtain ⟨m1, m2⟩ := M.t p (by simp [hp])
            exact ⟨m1.keep fun o e' => hsb.extBut _ o (htd p hp) e', m2.keep fun o e' => hsb.extBut _ o ((D.ls p hp').2.2 q hq) e'⟩
          · exact hsb.extBut c o (c3 q (by simp)) (M.keep c o c1 c2 (fun p hp => c3 p (by simp [hp])) e)
          · obtain ⟨p, hp, hpn⟩ := hex
            rcases List.mem_cons.mp hp with rfl | hp
            · rw [hx] at hpn; cases hpn
            · exact ⟨p, hp, hpn⟩
    case fin =>
      rintro b s' ⟨hb, dn, td, h, e, er, rfl, M, hex⟩
      have htd : td = [] := by
        cases td with
        | nil => rfl
        | cons q td => simp at er
      subst htd
      obtain ⟨p, hp, _⟩ := hex
      simp at hp

theorem pyNext_zipN_item {z TI TO : Addr} {src : List Sr} {i : Nat} {cont : Sr → Array Value} {x : Sr → Value} {kept : Array Value} {f0 : Value} {f1 : Bool} {Q : Option Value → Shared → Prop} (D : ZApart z TI TO src)
    (hz : IsZ s.heap z TI TO f0 f1) (hf : f0 = .none ∨ ∃ T : Addr, f0 = rawInt T) (hTI : IsT s.heap TI (src.map fun q => Value.ref q.1).toArray) (hTO : IsT s.heap TO kept) (hks : kept.size = src.length) (hn : src.length ≤ 1000) (hn0 : src ≠ [])
    (hs : ∀ q ∈ src, IterAt s.heap q i ∧ SrcAt s.heap q.2.1 q.2.2 (cont q)) (hx : ∀ q ∈ src, (cont q)[i]? = some (x q))
    (hQ : ∀ h' f0' f1' kept', IsZ h' z TI TO f0' f1' → (f0' = .none ∨ ∃ T : Addr, f0' = rawInt T) → IsT h' TO kept' → kept'.size = src.length → (∀ q ∈ src, IterAt h' q (i + 1)) → IsT h' s.heap.objs.size (src.map x).toArray → h'.objs.size = s.heap.objs.size + 1 →
      (∀ c o, c ≠ z → c ≠ TO → (∀ q ∈ src, c ≠ q.1) → s.heap.get? c = some o → h'.get? c = some o) → Q (some (.ref s.heap.objs.size)) { s with heap := h' }) :
    wpAny (model prog w) A (pyNext (.ref z)) Q E s := by
  have hT : s.TypeIs (.ref z) "zip" := ⟨_, hz, rfl⟩
  unfold pyNext
  exact wpAny_bind (wpAny_attempt (wpAny_callSpecial?_slot (name := Str.ofString "__next__") hT F.slot_zip_next
    (wpAny_call_entry F.slot_zip_next hT F.entry_zip_next
      (zipN_item D hz hf hTI hTO hks hn hn0 hs hx fun h' a1 a2 a3 a4 a5 a6 a7 a8 a9 a10 a11 => wpAny_pure (hQ h' a1 a2 a3 a4 a5 a6 a7 a8 a9 a10 a11)) (F.args_zip_next_1 _))))
theorem pyNext_zipN_end {z TI TO : Addr} {src : List Sr} {i : Nat} {cont : Sr → Array Value} {kept : Array Value} {f0 : Value} {f1 : Bool} {Q : Option Value → Shared → Prop} (hh : A.handled = none) (D : ZApart z TI TO src)
    (hz : IsZ s.heap z TI TO f0 f1) (hf : f0 = .none ∨ ∃ T : Addr, f0 = rawInt T) (hTI : IsT s.heap TI (src.map fun q => Value.ref q.1).toArray) (hTO : IsT s.heap TO kept) (hks : kept.size = src.length) (hn : src.length ≤ 1000)
    (hs : ∀ q ∈ src, IterAt s.heap q i ∧ SrcAt s.heap q.2.1 q.2.2 (cont q)) (hend : ∃ q ∈ src, (cont q)[i]? = none)
    (hQ : ∀ h', (∀ c o, c ≠ z → c ≠ TO → (∀ q ∈ src, c ≠ q.1) → s.heap.get? c = some o → h'.get? c = some o) → Q none { s with heap := h' }) : wpAny (model prog w) A (pyNext (.ref z)) Q E s := by
  have hT : s.TypeIs (.ref z) "zip" := ⟨_, hz, rfl⟩
  unfold pyNext
  refine wpAny_bind (wpAny_attempt (wpAny_callSpecial?_slot (name := Str.ofString "__next__") hT F.slot_zip_next
    (wpAny_call_entry F.slot_zip_next hT F.entry_zip_next (zipN_end hh D hz hf hTI hTO hks hn hs hend fun h' e hk he => ?_) (F.args_zip_next_1 _))))
  obtain ⟨o, ho, hc⟩ := he
  refine wpAny_bind (wpAny_isInstance (T := "StopIteration") (b := true) ⟨o, ho, hc⟩ isSubtype_stop ?_)
  exact wpAny_pure (hQ _ hk)
/-- the step ahead of the store -/
theorem letGo_zipN {tg : Expr} {z TI TO T : Addr} {f0 : Value} {f1 : Bool} {Q : Unit → Shared → Prop} (hz : IsZ s.heap z TI TO f0 f1) (hf : f0 = .none ∨ ∃ T : Addr, f0 = rawInt T)
    (hQ : ∀ h' f0', IsZ h' z TI TO f0' f1 → (f0' = .none ∨ ∃ T : Addr, f0' = rawInt T) → Heap.SameBut z s.heap h' → Q () { s with heap := h' }) : wpAny (model prog w) A (letOwnedTupleGo tg (.ref z) (.ref T)) Q E s := by
  have stay : Q () s := hQ s.heap f0 hz hf (Heap.SameBut.refl _ _)
  have go : ∀ b : Bool, wpAny (model prog w) A (if b = true then do rule "for.unpacks-the-owned-tuple"; updateField z 0 .none else pure ()) Q E s := fun b => by
    cases b with
    | false => rw [if_neg Bool.false_ne_true]; exact wpAny_pure stay
    | true =>
      rw [if_pos rfl]
      refine wpAny_bind (wpAny_rule ?_)
      show wpAny _ _ (setField (.ref z) 0 .none) Q E s
      exact wpAny_setField_rec hz (by simp) fun h' hz' hs' => hQ h' .none hz' (.inl rfl) hs'
  unfold letOwnedTupleGo
  cases tg <;> first
    | exact wpAny_pure stay
    | (refine wpAny_bind (wpAny_load hz ?_)
       exact go _)
end
end LX
end

section
set_option Elab.async false
set_option linter.all false
set_option maxRecDepth 100000
set_option maxHeartbeats 1000000
namespace LX
open PySem PySem.Spec PyProof.Rows L2
theorem typeCall_zip (vs : List Value) : checkTypeCall "zip" ⟨vs, []⟩ = pure () := by kernel_rfl
theorem newCall_zip1 (a : Value) : checkBuiltinCall "zip.__new__" ⟨[.type "zip", a], []⟩ = pure () := by kernel_rfl
theorem newCall_zip2 (a b : Value) : checkBuiltinCall "zip.__new__" ⟨[.type "zip", a, b], []⟩ = pure () := by kernel_rfl
theorem newCall_zip3 (a b c : Value) : checkBuiltinCall "zip.__new__" ⟨[.type "zip", a, b, c], []⟩ = pure () := by kernel_rfl
theorem newCall_zip4 (a b c d : Value) : checkBuiltinCall "zip.__new__" ⟨[.type "zip", a, b, c, d], []⟩ = pure () := by kernel_rfl
theorem newCall_zip5 (a b c d e : Value) : checkBuiltinCall "zip.__new__" ⟨[.type "zip", a, b, c, d, e], []⟩ = pure () := by kernel_rfl
theorem newCall_zip6 (a b c d e f : Value) : checkBuiltinCall "zip.__new__" ⟨[.type "zip", a, b, c, d, e, f], []⟩ = pure () := by kernel_rfl
theorem newCall_zip : ∀ (vs : List Value), vs ≠ [] → vs.length ≤ 6 → checkBuiltinCall "zip.__new__" ⟨.type "zip" :: vs, []⟩ = pure ()
  | [], h, _ => absurd rfl h
  | [a], _, _ => newCall_zip1 a
  | [a, b], _, _ => newCall_zip2 a b
  | [a, b, c], _, _ => newCall_zip3 a b c
  | [a, b, c, d], _, _ => newCall_zip4 a b c d
  | [a, b, c, d, e], _, _ => newCall_zip5 a b c d e
  | [a, b, c, d, e, f], _, _ => newCall_zip6 a b c d e f
  | _ :: _ :: _ :: _ :: _ :: _ :: _ :: _, _, h => by simp at h
theorem args_object_init (a : Value) (vs : List Value) : argsOk "object.__init__" ⟨a :: vs, []⟩ := by
  unfold argsOk; rw [signature?_of (id := "object.__init__") (n := ['_', '_', 't', 'i', 'n', 'i', '_', '_']) (o := ['t', 'c', 'e', 'j', 'b', 'o']) (by kernel_rfl) F.owner_object]; kernel_rfl
def mkSrc : Nat → List (Addr × Bool) → List Sr
  | _, [] => []
  | n, p :: r => (n, p.1, p.2) :: mkSrc (n + 1) r
theorem mkSrc_length : ∀ (as : List (Addr × Bool)) (n : Nat), (mkSrc n as).length = as.length
  | [], _ => rfl
  | _ :: r, n => by simp [mkSrc, mkSrc_length r]
theorem mem_mkSrc : ∀ {as : List (Addr × Bool)} {n : Nat} {q : Sr}, q ∈ mkSrc n as → n ≤ q.1 ∧ q.1 < n + as.length ∧ (q.2.1, q.2.2) ∈ as
  | [], _, _, h => by simp [mkSrc] at h
  | p :: r, n, q, h => by
    rw [mkSrc] at h
    rcases List.mem_cons.mp h with rfl | h
    · simp
    · obtain ⟨h1, h2, h3⟩ := mem_mkSrc h
      exact ⟨Nat.le_trans (Nat.le_succ n) h1, by rw [List.length_cons]; exact Nat.lt_of_lt_of_eq h2 (by omega), by simp [h3]⟩
theorem mkSrc_nd : ∀ (as : List (Addr × Bool)) (n : Nat), ((mkSrc n as).map (·.1)).Nodup
  | [], _ => List.nodup_nil
  | p :: r, n => by
    rw [mkSrc, List.map_cons]
    refine List.nodup_cons.mpr ⟨fun h => ?_, mkSrc_nd r (n + 1)⟩
    obtain ⟨q, hq, e⟩ := List.mem_map.mp h
    have h1 := (mem_mkSrc hq).1
    have e' : q.1 = n := e
    rw [e'] at h1
    exact absurd h1 (Nat.not_succ_le_self n)
theorem mkSrc_snoc : ∀ (as : List (Addr × Bool)) (p : Addr × Bool) (n : Nat), mkSrc n (as ++ [p]) = mkSrc n as ++ [(n + as.length, p.1, p.2)]
  | [], p, n => rfl
  | a :: r, p, n => by
    rw [List.cons_append, mkSrc, mkSrc_snoc r p (n + 1), mkSrc, List.cons_append, List.length_cons]
    have : n + 1 + r.length = n + (r.length + 1) := by omega
    rw [this]
theorem mkSrc_get : ∀ (as : List (Addr × Bool)) (n j : Nat), (mkSrc n as)[j]? = (as[j]?).map fun p => (n + j, p.1, p.2)
  | [], _, _ => by simp [mkSrc]
  | a :: r, n, 0 => by simp [mkSrc]
  | a :: r, n, j + 1 => by
    rw [mkSrc, List.getElem?_cons_succ, List.getElem?_cons_succ, mkSrc_get r (n + 1) j]
    have : n + 1 + j = n + (j + 1) := by omega
    rw [this]
section
variable {prog : Program} {w : World} {A : Around} {E : Value → Shared → Prop} {s : Shared}
theorem newClass_zip {vs : List Value} {Q : Value × List Value → Shared → Prop} (h : Q (.type "zip", vs) s) : wpAny (model prog w) A (Builtin.SmallTypes.newClass "zip" ⟨.type "zip" :: vs, []⟩) Q E s := by
  have hsub := sub_zip
  unfold Builtin.SmallTypes.newClass
  simp only
  repeat (any_goals (first | assumption | wp_step))
theorem pyIter_src {p : Addr × Bool} {its : Array Value} {Q : Value → Shared → Prop} (hl : SrcAt s.heap p.1 p.2 its)
    (h : ∀ h', IterAt h' (s.heap.objs.size, p.1, p.2) 0 → h'.objs.size = s.heap.objs.size + 1 → (∀ c o, s.heap.get? c = some o → h'.get? c = some o) → Q (.ref s.heap.objs.size) { s with heap := h' }) : wpAny (model prog w) A (pyIter (.ref p.1)) Q E s := by
  obtain ⟨l, b⟩ := p
  cases b with
  | true => exact wpAny_pyIter_list (show s.heap.IsList l its from hl) (h _ ⟨_, Heap.get?_push_size _ rfl, rfl, rfl⟩ (Heap.size_push ..) fun c o e => Heap.get?_push_of_some _ e)
  | false => exact wpAny_pyIter_tuple (show s.heap.IsTuple l its from hl) (h _ ⟨_, Heap.get?_push_size _ rfl, rfl, rfl⟩ (Heap.size_push ..) fun c o e => Heap.get?_push_of_some _ e)
theorem iterAll_src {as : List (Addr × Bool)} {Q : List Value → Shared → Prop} (hs : ∀ p ∈ as, ∃ its, SrcAt s.heap p.1 p.2 its)
    (h : ∀ h', (∀ q ∈ mkSrc s.heap.objs.size as, IterAt h' q 0) → h'.objs.size = s.heap.objs.size + as.length → (∀ c o, s.heap.get? c = some o → h'.get? c = some o) → Q ((mkSrc s.heap.objs.size as).map fun q => .ref q.1) { s with heap := h' }) :
    wpAny (model prog w) A (Builtin.SmallTypes.iterAll (as.map fun p => Value.ref p.1)) Q E s := by
  unfold Builtin.SmallTypes.iterAll
  refine wpAny_bind ?_
  refine wpAny_forIn_list _ (fun rest b s' => ∃ dn td h, as = dn ++ td ∧ rest = (td.map fun p => Value.ref p.1) ∧ b = ((mkSrc s.heap.objs.size dn).map fun q => Value.ref q.1).toArray ∧ s' = { s with heap := h } ∧
    (∀ q ∈ mkSrc s.heap.objs.size dn, IterAt h q 0) ∧ h.objs.size = s.heap.objs.size + dn.length ∧ ∀ c o, s.heap.get? c = some o → h.get? c = some o) _ ?turn ?fin _ _
    ⟨[], as, s.heap, rfl, rfl, rfl, rfl, (fun q hq => absurd hq (List.not_mem_nil)), rfl, fun _ _ e => e⟩
  case turn =>
    rintro y rest b s' ⟨dn, td, h1, e, er, rfl, rfl, hi, hz, hk⟩
    cases td with
    | nil => simp at er
    | cons p td =>
      rw [List.map_cons] at er
      injection er with e1 e2
      subst e1 e2
      obtain ⟨its, hp⟩ := hs p (by rw [e]; simp)
      refine wpAny_bind (wpAny_holding ?_)
      refine pyIter_src (s := { s with heap := h1 }) (hp.keep fun o e => hk _ o e) fun h2 i2 z2 k2 => wpAny_pure ?_
      have hz' : h1.objs.size = s.heap.objs.size + dn.length := hz
      refine ⟨dn ++ [p], td, h2, by rw [e]; simp, rfl, ?_, rfl, fun q hq => ?_, ?_, fun c o e => k2 c o (hk c o e)⟩
      · rw [mkSrc_snoc]
        show (Array.push _ (Value.ref h1.objs.size)) = _
        rw [hz']
        simp
      · rw [mkSrc_snoc] at hq
        rcases List.mem_append.mp hq with hq | hq
        · exact (hi q hq).keep fun o e => k2 _ o e
        · have : q = (s.heap.objs.size + dn.length, p.1, p.2) := by simpa using hq
          rw [this, ← hz']
          exact i2
      · have z3 : h2.objs.size = h1.objs.size + 1 := z2
        rw [z3, hz', List.length_append, List.length_singleton]; omega
  case fin =>
    rintro b s' ⟨dn, td, h1, e, er, rfl, rfl, hi, hz, hk⟩
    have htd : td = [] := by
      cases td with
      | nil => rfl
      | cons p td => simp at er
    subst htd
    rw [List.append_nil] at e
    subst e
    exact wpAny_pure (h h1 hi hz hk)
theorem zip_new {as : List (Addr × Bool)} {Q : Value → Shared → Prop} (hs : ∀ p ∈ as, ∃ its, SrcAt s.heap p.1 p.2 its) (hn : as.length ≤ 1000)
    (h : ∀ h', IsZ h' (s.heap.objs.size + as.length + 2) (s.heap.objs.size + as.length) (s.heap.objs.size + as.length + 1) .none false → IsT h' (s.heap.objs.size + as.length) ((mkSrc s.heap.objs.size as).map fun q => Value.ref q.1).toArray →
      IsT h' (s.heap.objs.size + as.length + 1) (List.replicate as.length Value.none).toArray → (∀ q ∈ mkSrc s.heap.objs.size as, IterAt h' q 0) → (∀ c o, s.heap.get? c = some o → h'.get? c = some o) → Q (.ref (s.heap.objs.size + as.length + 2)) { s with heap := h' }) :
    wpAny (model prog w) A (Builtin.«zip.__new__» ⟨.type "zip" :: as.map fun p => Value.ref p.1, []⟩) (fun fin s' => ∃ v, fin = .done (.ret v) ∧ Q v s') E s := by
  unfold Builtin.«zip.__new__»
  refine wpAny_bind (newClass_zip ?_)
  show wpAny _ _ (Builtin.SmallTypes.iterAll (as.map fun p => Value.ref p.1) >>= _) _ _ _
  refine wpAny_bind (iterAll_src hs fun h1 hi hz hk => ?_)
  have hl : ((mkSrc s.heap.objs.size as).map fun q => Value.ref q.1).length ≤ sizeLine := by rw [List.length_map, mkSrc_length, sizeLine_eq]; omega
  have e0 : (((mkSrc s.heap.objs.size as).map fun q => Value.ref q.1).map fun _ => Value.none) = List.replicate as.length Value.none := by
    rw [List.map_map]
    refine List.eq_replicate_iff.mpr ⟨by rw [List.length_map, mkSrc_length], fun b hb => ?_⟩
    obtain ⟨_, _, rfl⟩ := List.mem_map.mp hb
    rfl
  have hz1 : h1.objs.size = s.heap.objs.size + as.length := hz
  generalize hH2 : h1.push { cls := .type "tuple", data := .seq ((mkSrc s.heap.objs.size as).map fun q => Value.ref q.1).toArray } = h2
  generalize hH3 : h2.push { cls := .type "tuple", data := .seq (List.replicate as.length Value.none).toArray } = h3
  have z2 : h2.objs.size = s.heap.objs.size + as.length + 1 := by rw [← hH2, Heap.size_push, hz1]
  have z3 : h3.objs.size = s.heap.objs.size + as.length + 2 := by rw [← hH3, Heap.size_push, z2]
  refine wpAny_bind (wpAny_newTuple (s := { s with heap := h1 }) ?_ hl)
  show wpAny _ _ _ _ _ { s with heap := h1.push _ }
  rw [hH2]
  refine wpAny_bind ?_
  rw [e0]
  refine wpAny_newTuple (s := { s with heap := h2 }) ?_ (by rw [List.length_replicate, sizeLine_eq]; omega)
  show wpAny _ _ _ _ _ { s with heap := h2.push _ }
  rw [hH3]
  refine wpAny_bind ?_
  unfold Builtin.SmallTypes.newRecord
  refine wpAny_newObj_type (s := { s with heap := h3 }) (wpAny_pure ⟨_, rfl, ?_⟩) (by simp only [sizeOk, Builtin.SmallTypes.ownedTupleFields, List.size_toArray, List.length_append, List.length_cons, List.length_nil, sizeLine_eq]; omega)
  show Q (.ref h3.objs.size) { s with heap := h3.push { cls := .type "zip", data := .fields #[.none, .bool false, .bool false, .ref h1.objs.size, .ref h2.objs.size] } }
  have k12 : ∀ c o, h1.get? c = some o → h2.get? c = some o := fun c o e => by rw [← hH2]; exact Heap.get?_push_of_some _ e
  have k23 : ∀ c o, h2.get? c = some o → h3.get? c = some o := fun c o e => by rw [← hH3]; exact Heap.get?_push_of_some _ e
  have g2 : IsT h2 h1.objs.size ((mkSrc s.heap.objs.size as).map fun q => Value.ref q.1).toArray := by rw [← hH2]; exact Heap.get?_push_size _ rfl
  have g3 : IsT h3 h2.objs.size (List.replicate as.length Value.none).toArray := by rw [← hH3]; exact Heap.get?_push_size _ rfl
  have g4 : IsZ (h3.push { cls := .type "zip", data := .fields #[.none, .bool false, .bool false, .ref h1.objs.size, .ref h2.objs.size] }) h3.objs.size h1.objs.size h2.objs.size .none false := Heap.get?_push_size _ rfl
  generalize hH4 : h3.push { cls := .type "zip", data := .fields #[.none, .bool false, .bool false, .ref h1.objs.size, .ref h2.objs.size] } = h4 at g4
  have k34 : ∀ c o, h3.get? c = some o → h4.get? c = some o := fun c o e => by rw [← hH4]; exact Heap.get?_push_of_some _ e
  have G2 := k34 _ _ (k23 _ _ g2)
  have G3 := k34 _ _ g3
  rw [hz1] at g4 G2
  rw [z2] at g4 G3
  rw [z3] at g4 ⊢
  exact h h4 g4 G2 G3 (fun q hq => (hi q hq).keep fun o e => k34 _ _ (k23 _ _ (k12 _ _ e))) fun c o e => k34 _ _ (k23 _ _ (k12 _ _ (hk c o e)))
/-- zip(..) of lists and tuples -/
theorem call_zipN {as : List (Addr × Bool)} {Q : Value → Shared → Prop} (hs : ∀ p ∈ as, ∃ its, SrcAt s.heap p.1 p.2 its) (hn0 : as ≠ []) (hn : as.length ≤ 6)
    (h : ∀ h', IsZ h' (s.heap.objs.size + as.length + 2) (s.heap.objs.size + as.length) (s.heap.objs.size + as.length + 1) .none false → IsT h' (s.heap.objs.size + as.length) ((mkSrc s.heap.objs.size as).map fun q => Value.ref q.1).toArray →
      IsT h' (s.heap.objs.size + as.length + 1) (List.replicate as.length Value.none).toArray → (∀ q ∈ mkSrc s.heap.objs.size as, IterAt h' q 0) → (∀ c o, s.heap.get? c = some o → h'.get? c = some o) → Q (.ref (s.heap.objs.size + as.length + 2)) { s with heap := h' }) :
    wpAny (model prog w) A (call (.type "zip") (as.map fun p => Value.ref p.1)) Q E s := by
  refine callType_new (S := fun A R s0 => s0 = s ∧ ∀ h', IsZ h' (s.heap.objs.size + as.length + 2) (s.heap.objs.size + as.length) (s.heap.objs.size + as.length + 1) .none false → IsT h' (s.heap.objs.size + as.length) ((mkSrc s.heap.objs.size as).map fun q => Value.ref q.1).toArray →
      IsT h' (s.heap.objs.size + as.length + 1) (List.replicate as.length Value.none).toArray → (∀ q ∈ mkSrc s.heap.objs.size as, IterAt h' q 0) → (∀ c o, s.heap.get? c = some o → h'.get? c = some o) → R (.ok (.ret (.ref (s.heap.objs.size + as.length + 2)))) { s with heap := h' })
    F.called_zip (by decide) (typeCall_zip _) (newCall_zip _ (by simpa using hn0) (by simpa using hn)) (fun obj => args_object_init obj _) F.entry_zip_new (.of_wp fun prog w A R s0 hS => ?_) ⟨rfl, fun h' a b c d e => ⟨⟨_, a, rfl⟩, h h' a b c d e⟩⟩
  obtain ⟨rfl, hR⟩ := hS
  exact zip_new hs (by omega) hR
end
end LX
end

section
set_option Elab.async false
set_option linter.all false
set_option maxRecDepth 100000
set_option maxHeartbeats 1000000
namespace LX
open PySem PySem.Spec PyProof.Rows L2
/-- a list (b) or a tuple at a -/
def Sq (K : PySem.W.Frag) (H : Hp) (p : Addr × Bool) (xs : List V) : Prop := if p.2 = true then SqL K H p.1 xs else SqT K H p.1 xs
theorem Sq.l {K : PySem.W.Frag} {H : Hp} {a : Addr} {xs : List V} (h : SqL K H a xs) : Sq K H (a, true) xs := h
theorem Sq.t {K : PySem.W.Frag} {H : Hp} {a : Addr} {xs : List V} (h : SqT K H a xs) : Sq K H (a, false) xs := h
section
variable {X : Cx} {pins : List (Addr × Obj)} {σ : L2.St} {H : Hp} {s : Shared}
theorem sq_src (I : Inv X pins σ H s) {p : Addr × Bool} {xs : List V} (h : Sq X.K H p xs) : ∃ its : List Value, Vals xs its ∧ SrcAt s.heap p.1 p.2 its.toArray ∧ xs.length ≤ sizeLine := by
  obtain ⟨a, b⟩ := p
  cases b with
  | true => obtain ⟨its, r, pl, hz⟩ := I.list (show SqL X.K H a xs from h); exact ⟨its, r, pl.isList, hz⟩
  | false => obtain ⟨its, r, pl, hz⟩ := I.tuple (show SqT X.K H a xs from h); exact ⟨its, r, pl, hz⟩
theorem sq_inj (I : Inv X pins σ H s) {p : Addr × Bool} {xs ys : List V} (h : Sq X.K H p xs) (h' : Sq X.K H p ys) : xs = ys := by
  obtain ⟨a, b⟩ := p
  cases b with
  | true => exact I.list_inj (show SqL X.K H a xs from h) h'
  | false => exact I.tuple_inj (show SqT X.K H a xs from h) h'
end
theorem choose_on {α β : Type} [Inhabited β] {P : α → β → Prop} {l : List α} (h : ∀ q ∈ l, ∃ c, P q c) : ∃ f : α → β, ∀ q ∈ l, P q (f q) := by
  classical
  exact ⟨fun q => if hq : q ∈ l then (h q hq).choose else default, fun q hq => by
    simp only [hq, dif_pos]
    exact (h q hq).choose_spec⟩
/-- the sources as they stand at each turn, the items in new tuples -/
def ItzN (K : PySem.W.Frag) (as : List (Addr × Bool)) : It :=
  ⟨fun i H => ∀ p ∈ as, ∃ xs x, Sq K H p xs ∧ xs[i]? = some x,
    fun i H v H' => ∃ (T : Addr) (ys : List V), v = .ref T ∧ H T = none ∧ H' = upd H T (.tup ys) ∧ ys.length = as.length ∧ ∀ (j : Nat) (p : Addr × Bool), as[j]? = some p → ∀ xs : List V, Sq K H p xs → ∃ y : V, xs[i]? = some y ∧ ys[j]? = some y,
    fun i H => (∀ p ∈ as, ∃ xs, Sq K H p xs) ∧ ∃ p ∈ as, ∃ xs, Sq K H p xs ∧ xs.length ≤ i⟩
/-- where the zip stands: the iterators at i -/
def ZTn (z TI TO : Addr) (src : List Sr) (i : Nat) (h : Heap) : Prop :=
  ∃ f0 f1 kept, IsZ h z TI TO f0 f1 ∧ (f0 = .none ∨ ∃ T : Addr, f0 = rawInt T) ∧ IsT h TI (src.map fun q => Value.ref q.1).toArray ∧ IsT h TO kept ∧ kept.size = src.length ∧ ∀ q ∈ src, IterAt h q i
def zfp (z TI TO : Addr) (src : List Sr) : List Addr := z :: TI :: TO :: src.map (·.1)
theorem mem_zfp {z TI TO c : Addr} {src : List Sr} : c ∈ zfp z TI TO src ↔ c = z ∨ c = TI ∨ c = TO ∨ ∃ q ∈ src, c = q.1 := by
  unfold zfp
  simp only [List.mem_cons, List.mem_map]
  constructor
  · rintro (h | h | h | ⟨q, h, e⟩)
    · exact .inl h
    · exact .inr (.inl h)
    · exact .inr (.inr (.inl h))
    · exact .inr (.inr (.inr ⟨q, h, e.symm⟩))
  · rintro (h | h | h | ⟨q, h, e⟩)
    · exact .inl h
    · exact .inr (.inl h)
    · exact .inr (.inr (.inl h))
    · exact .inr (.inr (.inr ⟨q, h, e.symm⟩))
/-- the cells of a zip made at N over as -/
theorem zapart {N : Nat} {as : List (Addr × Bool)} (h : ∀ p ∈ as, p.1 < N) : ZApart (N + as.length + 2) (N + as.length) (N + as.length + 1) (mkSrc N as) := by
  refine ⟨(show (N + as.length + 2 : Nat) ≠ N + as.length by omega), (show (N + as.length + 2 : Nat) ≠ N + as.length + 1 by omega), (show (N + as.length : Nat) ≠ N + as.length + 1 by omega), fun q hq => ?_, mkSrc_nd as N, fun q hq => ?_⟩
  · obtain ⟨h1, h2, h3⟩ := mem_mkSrc hq
    have h2' : q.1 < N + as.length := h2
    exact ⟨Nat.ne_of_lt (Nat.lt_of_lt_of_le h2' (by omega)), Nat.ne_of_lt h2', Nat.ne_of_lt (Nat.lt_of_lt_of_le h2' (by omega))⟩
  · obtain ⟨h1, h2, h3⟩ := mem_mkSrc hq
    have hl : q.2.1 < N := h _ h3
    refine ⟨Nat.ne_of_lt (Nat.lt_of_lt_of_le hl (by omega)), Nat.ne_of_lt (Nat.lt_of_lt_of_le hl (by omega)), fun q' hq' => ?_⟩
    exact Nat.ne_of_lt (Nat.lt_of_lt_of_le hl (mem_mkSrc hq').1)
theorem ZTn.keep {z TI TO : Addr} {src : List Sr} {i : Nat} {h h' : Heap} (t : ZTn z TI TO src i h) (k : ∀ b ∈ zfp z TI TO src, ∀ o, h.get? b = some o → h'.get? b = some o) : ZTn z TI TO src i h' := by
  obtain ⟨f0, f1, kept, hz, hf, hTI, hTO, hks, hi⟩ := t
  exact ⟨f0, f1, kept, k z (mem_zfp.mpr (.inl rfl)) _ hz, hf, k TI (mem_zfp.mpr (.inr (.inl rfl))) _ hTI, k TO (mem_zfp.mpr (.inr (.inr (.inl rfl)))) _ hTO, hks, fun q hq => (hi q hq).keep fun o e => k q.1 (mem_zfp.mpr (.inr (.inr (.inr ⟨q, hq, rfl⟩)))) o e⟩
theorem ZTn.obj {z TI TO : Addr} {src : List Sr} {i : Nat} {h : Heap} (t : ZTn z TI TO src i h) : ∀ b ∈ zfp z TI TO src, ∃ o, h.get? b = some o ∧ ∀ v, o.data ≠ .cell v := by
  obtain ⟨f0, f1, kept, hz, hf, hTI, hTO, hks, hi⟩ := t
  intro b hb
  rcases mem_zfp.mp hb with rfl | rfl | rfl | ⟨q, hq, rfl⟩
  · exact ⟨_, hz, fun v q => nomatch q⟩
  · exact ⟨_, hTI, fun v q => nomatch q⟩
  · exact ⟨_, hTO, fun v q => nomatch q⟩
  · exact (hi q hq).obj
section
variable {X : Cx} {pins : List (Addr × Obj)} {σ : L2.St} {H : Hp} {s : Shared}
/-- one turn ahead of the store -/
theorem zip_turn {as : List (Addr × Bool)} {N i : Nat} {A : Around} {E : Value → Shared → Prop} {Q : Option Value → Shared → Prop} (hN : ∀ p ∈ as, p.1 < N) (h0 : as ≠ []) (hl : as.length ≤ 1000) (I : Inv X pins σ H s)
    (hf : ∀ b ∈ zfp (N + as.length + 2) (N + as.length) (N + as.length + 1) (mkSrc N as), FpOk X pins H b) (t : ZTn (N + as.length + 2) (N + as.length) (N + as.length + 1) (mkSrc N as) i s.heap) (hg : (ItzN X.K as).go i H)
    (hQ : ∀ s' T ys, Inv X pins σ (upd H T (.tup ys)) s' → (ItzN X.K as).yld i H (.ref T) (upd H T (.tup ys)) → ZTn (N + as.length + 2) (N + as.length) (N + as.length + 1) (mkSrc N as) (i + 1) s'.heap → s.heap.objs.size ≤ T → Q (some (.ref T)) s') :
    wpAny (model X.prog X.w) A (pyNext (.ref (N + as.length + 2))) Q E s := by
  obtain ⟨f0, f1, kept, hz, hff, hTI, hTO, hks, hi⟩ := t
  have D := zapart hN
  -- the sources' items
  have h1 : ∀ q ∈ mkSrc N as, ∃ c : List V × List Value, Sq X.K H (q.2.1, q.2.2) c.1 ∧ Vals c.1 c.2 ∧ SrcAt s.heap q.2.1 q.2.2 c.2.toArray ∧ ∃ x, c.1[i]? = some x := fun q hq => by
    obtain ⟨xs, x, hsq, hx⟩ := (show ∀ p ∈ as, ∃ (xs : List V) (x : V), Sq X.K H p xs ∧ xs[i]? = some x from hg) _ (mem_mkSrc hq).2.2
    obtain ⟨its, r, hs, _⟩ := sq_src I hsq
    exact ⟨(xs, its), hsq, r, hs, x, hx⟩
  obtain ⟨c, hc⟩ := choose_on h1
  have h2 : ∀ q ∈ mkSrc N as, ∃ y : V × Value, (c q).1[i]? = some y.1 ∧ (c q).2[i]? = some y.2 ∧ RelV y.1 y.2 := fun q hq => by
    obtain ⟨_, r, _, x, hx⟩ := hc q hq
    obtain ⟨u, hu, ru⟩ := r.get hx
    exact ⟨(x, u), hx, hu, ru⟩
  obtain ⟨y, hy⟩ := @choose_on Sr (V × Value) ⟨(V.non, Value.none)⟩ _ _ h2
  refine pyNext_zipN_item (cont := fun q => (c q).2.toArray) (x := fun q => (y q).2) D hz hff hTI hTO hks (by rw [mkSrc_length]; exact hl) (by intro e; exact h0 (List.length_eq_zero_iff.mp (by rw [← mkSrc_length as N, e]; rfl)))
    (fun q hq => ⟨hi q hq, (hc q hq).2.2.1⟩) (fun q hq => by simpa using (hy q hq).2.1) fun h' f0' f1' kept' z' ff' TO' ks' it' hT hsz hk => ?_
  have hvals : Vals ((mkSrc N as).map fun q => (y q).1) ((mkSrc N as).map fun q => (y q).2) := by
    have : ∀ l : List Sr, (∀ q ∈ l, RelV (y q).1 (y q).2) → Vals (l.map fun q => (y q).1) (l.map fun q => (y q).2) := by
      intro l
      induction l with
      | nil => intro _; exact .nil
      | cons a r ih => intro h; exact .cons (h a (by simp)) (ih fun q hq => h q (by simp [hq]))
    exact this _ fun q hq => (hy q hq).2.2
  have new : ObjOk X.prog X.w (upd H s.heap.objs.size (.tup ((mkSrc N as).map fun q => (y q).1))) h' s.heap.objs.size (.tup ((mkSrc N as).map fun q => (y q).1)) :=
    ⟨by rw [List.length_map, mkSrc_length, sizeLine_eq]; omega, _, hvals, ⟨_, hT, rfl, _, rfl⟩⟩
  have I1 := I.turnedNew (t' := s.toks) (ch := zfp (N + as.length + 2) (N + as.length) (N + as.length + 1) (mkSrc N as)) (fun b o hb e => hk b o (fun z => hb (mem_zfp.mpr (.inl z))) (fun z => hb (mem_zfp.mpr (.inr (.inr (.inl z))))) (fun q hq z => hb (mem_zfp.mpr (.inr (.inr (.inr ⟨q, hq, z⟩))))) e) hf (Nat.le_refl _) new
  refine hQ _ _ _ I1 ⟨_, _, rfl, I.hok.fresh (Nat.le_refl _), rfl, by rw [List.length_map, mkSrc_length], fun j p hj xs hxs => ?_⟩ ⟨f0', f1', kept', z', ff', ?_, TO', ks', it'⟩ (Nat.le_refl _)
  · have hm : (mkSrc N as)[j]? = some (N + j, p.1, p.2) := by rw [mkSrc_get, hj]; rfl
    have hq : (N + j, p.1, p.2) ∈ mkSrc N as := List.mem_of_getElem? hm
    have e : xs = (c (N + j, p.1, p.2)).1 := sq_inj I hxs (hc _ hq).1
    exact ⟨_, by rw [e]; exact (hy _ hq).1, by rw [List.getElem?_map, hm]; rfl⟩
  · exact hk _ _ (Ne.symm D.zTI) D.TITO (fun q hq => Ne.symm (D.it q hq).2.1) hTI
theorem zip_stop {as : List (Addr × Bool)} {N i : Nat} {A : Around} {E : Value → Shared → Prop} {Q : Option Value → Shared → Prop} (hh : A.handled = none) (hN : ∀ p ∈ as, p.1 < N) (hl : as.length ≤ 1000) (I : Inv X pins σ H s)
    (hf : ∀ b ∈ zfp (N + as.length + 2) (N + as.length) (N + as.length + 1) (mkSrc N as), FpOk X pins H b) (t : ZTn (N + as.length + 2) (N + as.length) (N + as.length + 1) (mkSrc N as) i s.heap) (hg : (ItzN X.K as).stop i H)
    (hQ : ∀ s', Inv X pins σ H s' → Q none s') :
    wpAny (model X.prog X.w) A (pyNext (.ref (N + as.length + 2))) Q E s := by
  obtain ⟨f0, f1, kept, hz, hff, hTI, hTO, hks, hi⟩ := t
  have D := zapart hN
  have hg : (∀ p ∈ as, ∃ xs : List V, Sq X.K H p xs) ∧ ∃ p ∈ as, ∃ xs : List V, Sq X.K H p xs ∧ xs.length ≤ i := hg
  have h1 : ∀ q ∈ mkSrc N as, ∃ c : List V × List Value, Sq X.K H (q.2.1, q.2.2) c.1 ∧ Vals c.1 c.2 ∧ SrcAt s.heap q.2.1 q.2.2 c.2.toArray := fun q hq => by
    obtain ⟨xs, hsq⟩ := hg.1 _ (mem_mkSrc hq).2.2
    obtain ⟨its, r, hs, _⟩ := sq_src I hsq
    exact ⟨(xs, its), hsq, r, hs⟩
  obtain ⟨c, hc⟩ := choose_on h1
  obtain ⟨_, p, hp, xs, hxs, hle⟩ := hg
  obtain ⟨j, hj⟩ := List.mem_iff_getElem?.mp hp
  have hm : (mkSrc N as)[j]? = some (N + j, p.1, p.2) := by rw [mkSrc_get, hj]; rfl
  have hq : (N + j, p.1, p.2) ∈ mkSrc N as := List.mem_of_getElem? hm
  have e : xs = (c (N + j, p.1, p.2)).1 := sq_inj I hxs (hc _ hq).1
  have hlen := (hc _ hq).2.1.length
  refine pyNext_zipN_end (cont := fun q => (c q).2.toArray) hh D hz hff hTI hTO hks (by rw [mkSrc_length]; exact hl) (fun q hq => ⟨hi q hq, (hc q hq).2.2⟩) ⟨_, hq, by simp; rw [← hlen, ← e]; exact hle⟩ fun h' hk => ?_
  exact hQ _ (I.turnedL (t' := s.toks) (ch := zfp (N + as.length + 2) (N + as.length) (N + as.length + 1) (mkSrc N as)) (fun b o hb e => hk b o (fun z => hb (mem_zfp.mpr (.inl z))) (fun z => hb (mem_zfp.mpr (.inr (.inr (.inl z))))) (fun q hq z => hb (mem_zfp.mpr (.inr (.inr (.inr ⟨q, hq, z⟩))))) e) hf)
end
theorem turn_zipN {P : Program} {w : World} {K : PySem.W.Frag} {tg : Expr} {as : List (Addr × Bool)} {N : Nat} (hN : ∀ p ∈ as, p.1 < N) (h0 : as ≠ []) (hl : as.length ≤ 1000) :
    Turn P w K tg (ItzN K as) (zfp (N + as.length + 2) (N + as.length) (N + as.length + 1) (mkSrc N as)) (N + as.length + 2) (ZTn (N + as.length + 2) (N + as.length) (N + as.length + 1) (mkSrc N as)) where
  mem := mem_zfp.mpr (.inl rfl)
  obj := fun i h st b hb => st.obj b hb
  keep := fun i h h' st k => st.keep k
  item := by
    intro X hP hw hK hc i pins s σ H E I hf st hg
    subst hP hw hK
    refine zip_turn hN h0 hl I hf st hg fun s' T ys I' y st' hT => ⟨_, rfl, ?_⟩
    obtain ⟨f0, f1, kept, hz, hff, hTI, hTO, hks, hi⟩ := id st'
    refine letGo_zipN hz hff fun h2 f0' z2 ff2 sb => ?_
    have D := zapart hN
    have hzT : ∀ b ∈ zfp (N + as.length + 2) (N + as.length) (N + as.length + 1) (mkSrc N as), b ≠ T := fun b hb z => by
      obtain ⟨o, e, _⟩ := st.obj b hb
      exact absurd (Heap.lt_size e) (by rw [z]; exact Nat.not_lt.mpr hT)
    have hf' : ∀ b ∈ zfp (N + as.length + 2) (N + as.length) (N + as.length + 1) (mkSrc N as), FpOk X pins (upd H T (.tup ys)) b := fun b hb => ⟨by rw [upd_ne (hzT b hb)]; exact (hf b hb).1, (hf b hb).2⟩
    have I2 : Inv X pins σ (upd H T (.tup ys)) { s' with heap := h2 } := I'.turnedL (t' := s'.toks) (ch := zfp (N + as.length + 2) (N + as.length) (N + as.length + 1) (mkSrc N as)) (fun c o hb q => sb.extBut c o (fun q' => hb (mem_zfp.mpr (.inl q'))) q) hf'
    refine ⟨.ref T, _, I2, rfl, y, ⟨f0', f1, kept, z2, ff2, sb.extBut _ _ (Ne.symm D.zTI) hTI, sb.extBut _ _ (Ne.symm D.zTO) hTO, hks, fun q hq => (hi q hq).keep fun o e => sb.extBut _ o (D.it q hq).1 e⟩, fun b hb => (hf' b hb).1⟩
  done := by
    intro X hP hw hK hc i pins s σ H E I hf st hg
    subst hP hw hK
    exact zip_stop (I.ok.hd hc) hN hl I hf st hg fun s' I' => ⟨rfl, I'⟩
  self := fun A i s Q E st h => by
    obtain ⟨f0, f1, kept, hz, _⟩ := st
    have hT : s.TypeIs (.ref (N + as.length + 2)) "zip" := ⟨_, hz, rfl⟩
    refine wpAny_pyIter_slot hT F.slot_zip_iter (wpAny_call_entry F.slot_zip_iter hT F.entry_zip_iter ?_ (F.args_zip_iter_1 _))
    show wpAny _ _ (ret (.ref (N + as.length + 2))) _ _ s
    exact wpAny_pure ⟨_, rfl, "zip", _, hT, F.slot_zip_next.lookup, h⟩
section
variable {X : Cx}
/-- a zip is made -/
theorem zip_made {pins : List (Addr × Obj)} {σ : L2.St} {H : Hp} {s : Shared} {vs : List V} {us : List Value} {as : List (Addr × Bool)} {A : Around} {E : Value → Shared → Prop} {Q : Value → Shared → Prop} (I : Inv X pins σ H s) (r : Vals vs us) (hv : vs = as.map fun p => V.ref p.1)
    (h0 : as ≠ []) (hn : as.length ≤ 6) (hs : ∀ p ∈ as, ∃ xs, Sq X.K H p xs)
    (hQ : ∀ s' N, N = s.heap.objs.size → (∀ p ∈ as, p.1 < N) → Inv X pins σ H s' → ZTn (N + as.length + 2) (N + as.length) (N + as.length + 1) (mkSrc N as) 0 s'.heap → (∀ b ∈ zfp (N + as.length + 2) (N + as.length) (N + as.length + 1) (mkSrc N as), FpOk X pins H b) → Q (.ref (N + as.length + 2)) s') :
    wpAny (model X.prog X.w) A (call (.type "zip") us) Q E s := by
  have hu : us = as.map fun p => Value.ref p.1 := by
    subst hv
    clear hs h0 hn hQ
    induction as generalizing us with
    | nil => cases r; rfl
    | cons p as ih =>
      cases r with
      | cons q r =>
        cases q
        rw [ih r]; rfl
  subst hu
  have hs' : ∀ p ∈ as, ∃ its, SrcAt s.heap p.1 p.2 its := fun p hp => by
    obtain ⟨xs, hx⟩ := hs p hp
    obtain ⟨its, _, h, _⟩ := sq_src I hx
    exact ⟨_, h⟩
  have hlt : ∀ p ∈ as, p.1 < s.heap.objs.size := fun p hp => by
    obtain ⟨its, h⟩ := hs' p hp
    obtain ⟨a, b⟩ := p
    cases b with
    | true => obtain ⟨o, e, _⟩ := (show s.heap.IsList a its from h); exact Heap.lt_size e
    | false => obtain ⟨o, e, _⟩ := (show s.heap.IsTuple a its from h); exact Heap.lt_size e
  refine call_zipN hs' h0 hn fun h' g1 g2 g3 g4 k => ?_
  refine hQ _ s.heap.objs.size rfl hlt (I.kept (t' := s.toks) k) ⟨_, _, _, g1, .inl rfl, g2, g3, by simp [mkSrc_length], g4⟩ fun b hb => ?_
  have hle : s.heap.objs.size ≤ b := by
    rcases mem_zfp.mp hb with rfl | rfl | rfl | ⟨q, hq, rfl⟩
    · show s.heap.objs.size ≤ s.heap.objs.size + as.length + 2; omega
    · show s.heap.objs.size ≤ s.heap.objs.size + as.length; omega
    · show s.heap.objs.size ≤ s.heap.objs.size + as.length + 1; omega
    · exact (mem_mkSrc hq).1
  exact I.fpOk hle (I.hok.fresh hle)
/-- what is asked of zip's arguments -/
def iZipN (K : PySem.W.Frag) (ta : TA) : TI := fun σ H R => ta σ H fun vs H1 => ∃ as : List (Addr × Bool), vs = (as.map fun p => V.ref p.1) ∧ as ≠ [] ∧ as.length ≤ 6 ∧ (∀ p ∈ as, ∃ xs, Sq K H1 p xs) ∧ R (ItzN K as) H1
theorem zip_it {pins : List (Addr × Obj)} {σ : L2.St} {H : Hp} {s : Shared} {vs : List V} {us : List Value} {tg : Expr} {R : It → Hp → Prop} {E : Value → Shared → Prop} (I : Inv X pins σ H s) (r : Vals vs us)
    (h : ∃ as : List (Addr × Bool), vs = (as.map fun p => V.ref p.1) ∧ as ≠ [] ∧ as.length ≤ 6 ∧ (∀ p ∈ as, ∃ xs, Sq X.K H p xs) ∧ R (ItzN X.K as) H) :
    wpAny (model X.prog X.w) X.A (call (.type "zip") us) (fun v s1 => wpAny (model X.prog X.w) X.A (pyIter v) (PIE X pins σ tg R) E s1) E s := by
  obtain ⟨as, hv, h0, hn, hs, q⟩ := h
  refine zip_made I r hv h0 hn hs fun s' N hN hlt I' st fp => ?_
  have T := turn_zipN (P := X.prog) (w := X.w) (K := X.K) (tg := tg) hlt h0 (by omega)
  exact T.self X.A 0 s' _ _ st ⟨_, _, _, _, H, rfl, I', T, st, fp, q⟩
theorem pi_zipN {tg e : Expr} {es : List Expr} {ta : TA} {p pos : Pos} (hg : Gl X "zip") (hm : X.mg "zip" = none) (ha : PA X (e :: es) ta)
    (hs : starEach (e :: es) X.env = (false, eval e X.env) :: starEach es X.env := by rfl) (hpl : (backTo pos (starEach es X.env)).any (·.1) = false := by rfl) :
    PI X tg (.Call (.Name "zip" p) (e :: es) [] pos) (iZipN X.K ta) := by
  refine ⟨fun pins s σ H R I h => ?_⟩
  refine Call_ (ld_blt I hg hm PyProof.Rows.boot_zip (PyProof.Rows.callWith_type1 (thn (ha.run pos pins s σ H _ I h) fun us s1 ⟨vs, H1, I1, r1, q1⟩ => ?_) hs hpl))
  exact zip_it I1 r1 q1
theorem callWith_typeS {M : Model} {A : Around} {E : Value → Shared → Prop} {s : Shared} {T : String} {e : Expr} {env : Env} {p pos : Pos} {Q : Value → Shared → Prop}
    (h : wpAny M A (eval e env) (fun v s₁ => PySem.W.StarOf M A E v (fun vs s₂ => wpAny M A (call (.type T) vs) Q E s₂) s₁) E s)
    (he : starEach [.Starred e p] env = [(true, eval e env)] := by rfl) :
    wpAny M A (callWith pos (.type T) [] (backTo pos (starEach [.Starred e p] env)) []) Q E s := by
  rw [he]
  refine PySem.W.ks_call (P := fun _ => True) rfl (fun h _ => ⟨.machine, .inr (.inl rfl), .now⟩) (PySem.W.ks_lone (wpAny_mono h (fun v s1 h1 => ?_) fun _ _ x => x))
  unfold PySem.W.StarOf at h1 ⊢
  exact wpAny_mono h1 (fun b s2 h2 => ⟨h2.1, wpAny_mono h2.2 (fun vs s3 h3 => ⟨trivial, h3⟩) fun _ _ x => x⟩) fun _ _ x => x
/-- zip(*rows), rows a list or a tuple of addresses of lists and tuples -/
def iZipStar (K : PySem.W.Frag) (te : TE) : TI := fun σ H R => te σ H fun x H1 => ∃ a xs, x = V.ref a ∧ (SqT K H1 a xs ∨ SqL K H1 a xs) ∧ ∃ as : List (Addr × Bool), xs = (as.map fun p => V.ref p.1) ∧ as ≠ [] ∧ as.length ≤ 6 ∧ (∀ p ∈ as, ∃ ys, Sq K H1 p ys) ∧ R (ItzN K as) H1
theorem pi_zipStar {tg e : Expr} {te : TE} {p p2 pos : Pos} (hg : Gl X "zip") (hm : X.mg "zip" = none) (he : PE X e te)
    (hst : starEach [.Starred e p2] X.env = [(true, eval e X.env)] := by rfl) : PI X tg (.Call (.Name "zip" p) [.Starred e p2] [] pos) (iZipStar X.K te) := by
  refine ⟨fun pins s σ H R I h => ?_⟩
  refine Call_ (ld_blt I hg hm PyProof.Rows.boot_zip (callWith_typeS (thn (he.run pins s σ H _ I h) fun v s1 ⟨x, H1, I1, r1, a, xs, ex, hxs, q1⟩ => ?_) hst))
  subst ex
  cases r1
  exact StX.star_any I1 hxs fun us s2 I2 rv => zip_it I2 rv q1
end
end LX
end

section
set_option Elab.async false
set_option linter.all false
set_option maxRecDepth 100000
set_option maxHeartbeats 1000000
namespace LX
open PySem PySem.Spec PyProof.Rows L2
theorem zip_no_len : typeLookup (.type "zip") "__len__" = pure none := am_miss_of_fast (by decide +kernel)
theorem zip_no_hint : typeLookup (.type "zip") "__length_hint__" = pure none := am_miss_of_fast (by decide +kernel)
theorem zip_hint {M : Model} {A : Around} {E : Value → Shared → Prop} {s : Shared} {z : Addr} {Q : Bool → Shared → Prop} (hT : s.TypeIs (.ref z) "zip") (h : Q true s) : wpAny M A (Builtin.List.listLengthHint (.ref z)) Q E s := by
  unfold Builtin.List.listLengthHint
  refine wpAny_bind (wpAny_specialOf hT zip_no_len ?_)
  refine PySem.W.KFB.if_not rfl ?_
  refine PySem.W.KFB.if_not rfl ?_
  refine wpAny_bind (wpAny_specialOf hT zip_no_hint ?_)
  exact wpAny_pure h
/-- what the list holds behind i turns -/
structure ZL (H1 H : Hp) (q : Addr) (xs ys : List V) (i : Nat) (ps : List Addr) : Prop where
  same : Same H1 H
  lst : H q = some (.lst (ps.map V.ref))
  len : ps.length = i
  new : ∀ p ∈ ps, H1 p = none
  prs : ∀ (j : Nat) (p : Addr), ps[j]? = some p → ∃ x y, xs[j]? = some x ∧ ys[j]? = some y ∧ H p = some (.tup [x, y])
section
variable {X : Cx} {pins : List (Addr × Obj)} {σ : L2.St} {H H1 : Hp} {s : Shared}
theorem zl_loop {a b q N : Addr} {xs ys : List V} {Rs : Result → Shared → Prop} {A1 : Around} (hh : A1.handled = none) (hN : ∀ p ∈ [(a, false), (b, false)], p.1 < N) (hq : H1 q = none) (hle : min xs.length ys.length ≤ 1000) (ha : H1 a = some (.tup xs)) (hb : H1 b = some (.tup ys))
    (hdone : ∀ ps H s, Inv X pins σ H s → ZL H1 H q xs ys (min xs.length ys.length) ps → Rs (.ok (.ret .none)) s) :
    ∀ (m i : Nat) (ps : List Addr) (H : Hp) (s : Shared), i + m = min xs.length ys.length → Inv X pins σ H s → ZL H1 H q xs ys i ps → ZTn (N + 2 + 2) (N + 2) (N + 2 + 1) (mkSrc N [(a, false), (b, false)]) i s.heap →
      (∀ c ∈ zfp (N + 2 + 2) (N + 2) (N + 2 + 1) (mkSrc N [(a, false), (b, false)]), FpOk X pins H c) → codeAny (model X.prog X.w) A1 (.builtin "list.extend.loop" ⟨[.ref q, .ref (N + 2 + 2), .none], []⟩) Rs s := by
  intro m
  induction m with
  | zero =>
    intro i ps H s hi I Z t f
    refine codeAny_builtin PySem.F.entry_extend_loop ?_
    rw [Around.under_plainId PySem.F.plain_extend_loop _]
    show wpAny _ A1.in1 (pyNext (.ref (N + 2 + 2)) >>= _) _ _ s
    have ha' := Z.same _ _ ha
    have hb' := Z.same _ _ hb
    have stop : (ItzN X.K [(a, false), (b, false)]).stop i H := by
      refine ⟨fun p hp => ?_, ?_⟩
      · rcases List.mem_cons.mp hp with rfl | hp
        · exact ⟨xs, SqT.of ha'⟩
        · have : p = (b, false) := by simpa using hp
          subst this
          exact ⟨ys, SqT.of hb'⟩
      · by_cases hc : xs.length ≤ i
        · exact ⟨(a, false), by simp, xs, SqT.of ha', hc⟩
        · exact ⟨(b, false), by simp, ys, SqT.of hb', by omega⟩
    refine wpAny_bind (zip_stop (as := [(a, false), (b, false)]) (A := A1.in1) (by exact hh) hN (by simp) I f t stop fun s' I' => wpAny_pure ?_)
    have hi' : i = min xs.length ys.length := by omega
    subst hi'
    exact hdone ps H s' I' Z
  | succ m ih =>
    intro i ps H s hi I Z t f
    refine codeAny_builtin PySem.F.entry_extend_loop ?_
    rw [Around.under_plainId PySem.F.plain_extend_loop _]
    show wpAny _ A1.in1 (pyNext (.ref (N + 2 + 2)) >>= _) _ _ s
    have ha' := Z.same _ _ ha
    have hb' := Z.same _ _ hb
    have hx : i < xs.length := by omega
    have hy : i < ys.length := by omega
    have go : (ItzN X.K [(a, false), (b, false)]).go i H := fun p hp => by
      rcases List.mem_cons.mp hp with rfl | hp
      · exact ⟨xs, xs[i], SqT.of ha', List.getElem?_eq_getElem hx⟩
      · have : p = (b, false) := by simpa using hp
        subst this
        exact ⟨ys, ys[i], SqT.of hb', List.getElem?_eq_getElem hy⟩
    refine wpAny_bind (zip_turn (as := [(a, false), (b, false)]) (A := A1.in1) hN (by simp) (by simp) I f t go fun s' T zs I' y t' hT => ?_)
    obtain ⟨T', zs', eT, hTn, eH, hzl, hz⟩ := y
    have eT' : T = T' := V.ref.inj eT
    subst eT'
    have ez : zs = zs' := by
      have e := congrFun eH T
      rw [upd_same, upd_same] at e
      injection Option.some.inj e
    subst ez
    obtain ⟨x, hx1, hz0⟩ := hz 0 _ rfl xs (SqT.of ha')
    obtain ⟨w, hy1, hz1⟩ := hz 1 _ rfl ys (SqT.of hb')
    have hzs : zs = [x, w] := by
      match zs, hzl, hz0, hz1 with
      | [u, v], _, h0, h1 =>
        have e0 : u = x := by simpa using h0
        have e1 : v = w := by simpa using h1
        rw [e0, e1]
    subst hzs
    have hqT : q ≠ T := ne_of_none Z.lst hTn
    have hq' : upd H T (.tup [x, w]) q = some (.lst (ps.map V.ref)) := by rw [upd_ne hqT]; exact Z.lst
    have hlen : (ps.map V.ref).length < sizeLine := by rw [List.length_map, Z.len, sizeLine_eq]; omega
    show wpAny _ A1.in1 (updateSeq q (·.push (Value.ref T)) >>= _) _ _ _
    obtain ⟨_, its, k, r2, hl, e⟩ := I'.lstM hq'
    refine wpAny_bind (wpAny_updateSeq e rfl (wpAny_pure ⟨plainId_quiet PySem.F.plain_extend_loop _, ?_⟩) (by rw [List.size_toArray]; omega) (by show (its.toArray.push (Value.ref T)).size ≤ sizeLine + 1; rw [Array.size_push, List.size_toArray]; omega))
    have I2 := I'.lset (f := (·.push (Value.ref T))) (its' := its ++ [Value.ref T]) (t' := s'.toks) hq' e (by simp) (r2.append (.cons (show RelV (V.ref T) (Value.ref T) from rfl) .nil)) (by rw [List.length_append, List.length_singleton]; omega)
    have hTq : T ≠ q := Ne.symm hqT
    have sm : Same H1 (upd (upd H T (.tup [x, w])) q (.lst (ps.map V.ref ++ [V.ref T]))) := fun c o e => by
      rw [upd_ne (ne_of_none e hq), upd_ne (ne_of_none (Z.same _ _ e) hTn)]
      exact Z.same _ _ e
    refine ih (i + 1) (ps ++ [T]) _ _ (by omega) I2 ⟨sm, by rw [upd_same]; simp, by rw [List.length_append, Z.len]; rfl, fun p hp => ?_, fun j p hj => ?_⟩ (t'.keep fun c hc o e' => ?_) fun c hc => ?_
    · rcases List.mem_append.mp hp with hp | hp
      · exact Z.new p hp
      · have : p = T := by simpa using hp
        subst this
        exact Z.same.free hTn
    · rcases Nat.lt_trichotomy j ps.length with h | h | h
      · rw [List.getElem?_append_left h] at hj
        obtain ⟨x', y', h1, h2, h3⟩ := Z.prs j p hj
        exact ⟨x', y', h1, h2, by rw [upd_ne (ne_of h3 Z.lst (by intro z; cases z)), upd_ne (ne_of_none h3 hTn)]; exact h3⟩
      · subst h
        have : T = p := by simpa using hj
        subst this
        rw [Z.len]
        exact ⟨x, w, hx1, hy1, by rw [upd_ne hTq, upd_same]⟩
      · rw [List.getElem?_eq_none (by rw [List.length_append, List.length_singleton]; omega)] at hj
        cases hj
    · have hcq : c ≠ q := fun z => by
        have := (f c hc).1
        rw [z, Z.lst] at this
        cases this
      exact (Heap.get?_update_other _ _ (Ne.symm hcq)).trans e'
    · have hcq : c ≠ q := fun z => by
        have := (f c hc).1
        rw [z, Z.lst] at this
        cases this
      have hcT : c ≠ T := fun z => by
        obtain ⟨o, e', _⟩ := t.obj c hc
        exact absurd (Heap.lt_size e') (by rw [z]; exact Nat.not_lt.mpr hT)
      exact ⟨by rw [upd_ne hcq, upd_ne hcT]; exact (f c hc).1, (f c hc).2⟩
end
section
variable {X : Cx}
/-- list(zip(t, u)) of two tuples -/
def tListZip (ta : TA) : TE := fun σ H Q => ta σ H fun vs H1 => ∃ (a b : Addr) (xs ys : List V), vs = [.ref a, .ref b] ∧ H1 a = some (.tup xs) ∧ H1 b = some (.tup ys) ∧ min xs.length ys.length ≤ 1000 ∧
  ∀ (q : Addr) (ps : List Addr) (H' : Hp), H1 q = none → ZL H1 H' q xs ys (min xs.length ys.length) ps → Q (.ref q) H'
theorem pe_listZip {e1 e2 : Expr} {ta : TA} {p1 p2 pos1 pos2 : Pos} (hgl : Gl X "list") (hml : X.mg "list" = none) (hgz : Gl X "zip") (hmz : X.mg "zip" = none) (ha : PA X [e1, e2] ta) (hc : X.calm = true := by rfl)
    (hs : starEach [e1, e2] X.env = (false, eval e1 X.env) :: starEach [e2] X.env := by rfl) (hpl : (backTo pos2 (starEach [e2] X.env)).any (·.1) = false := by rfl)
    (na : starEach [.Call (.Name "zip" p2) [e1, e2] [] pos2] X.env = (false, eval (.Call (.Name "zip" p2) [e1, e2] [] pos2) X.env) :: starEach [] X.env := by rfl) :
    PE X (.Call (.Name "list" p1) [.Call (.Name "zip" p2) [e1, e2] [] pos2] [] pos1) (tListZip ta) := by
  refine ⟨fun pins s σ H Q I h => ?_⟩
  refine Call_ (ld_blt I hgl hml PyProof.Rows.boot_list ?_)
  refine PyProof.Rows.callWith_type1 (PyProof.Rows.args_cons ?_ na) na rfl
  refine Call_ (ld_blt I hgz hmz PyProof.Rows.boot_zip (PyProof.Rows.callWith_type1 (thn (ha.run pos2 pins s σ H _ I h) fun us s1 ⟨vs, H1, I1, r1, q1⟩ => ?_) hs hpl))
  obtain ⟨a, b, xs, ys, rfl, hA, hB, hle, q⟩ := q1
  refine zip_made (as := [(a, false), (b, false)]) I1 r1 rfl (by simp) (by simp) (fun p hp => ?_) fun s2 N hN hlt I2 st fp => PyProof.Rows.args_nil ?_
  · rcases List.mem_cons.mp hp with rfl | hp
    · exact ⟨xs, SqT.of hA⟩
    · have : p = (b, false) := by simpa using hp
      subst this
      exact ⟨ys, SqT.of hB⟩
  · show wpAny _ _ (call (.type "list") [.ref (N + 2 + 2)]) _ _ s2
    obtain ⟨f0, f1, kept, hz, _⟩ := id st
    have hzl : N + 2 + 2 < s2.heap.objs.size := Heap.lt_size hz
    refine callType_codes (Q₁ := fun obj s₁ => obj = .ref s2.heap.objs.size ∧ s₁ = { s2 with heap := s2.heap.push { cls := .type "list", data := .seq #[] } }) PySem.F.called_list (PySem.F.typeCall_list_1 _) PySem.F.entry_list_init
      (code_list_new _ ⟨rfl, rfl⟩) fun obj s₁ h₁ => ?_
    obtain ⟨rfl, rfl⟩ := h₁
    have hS : (s2.heap.push { cls := .type "list", data := .seq #[] }).get? s2.heap.objs.size = some { cls := .type "list", data := .seq #[] } := Heap.get?_push_size _ rfl
    refine ⟨⟨_, hS, rfl⟩, PySem.F.args_list_init_2 _ _, ?_⟩
    have fr : H1 s2.heap.objs.size = none := I2.hok.fresh (Nat.le_refl _)
    have I3 : Inv X pins σ (upd H1 s2.heap.objs.size (.lst [])) { s2 with heap := s2.heap.push { cls := .type "list", data := .seq #[] } } := I2.lnew (its := []) (t' := s2.toks) .nil (Nat.zero_le _)
    show wpAny _ _ (do let old ← Builtin.List.listItems (.ref s2.heap.objs.size); Builtin.List.listUpdate (.ref s2.heap.objs.size) (fun _ => #[]); letGo old.toList.reverse; Builtin.List.listExtendWith (.ref s2.heap.objs.size) (.ref (N + 2 + 2)) .none) _ _ _
    refine wpAny_bind ?_
    unfold Builtin.List.listItems
    refine wpAny_bind (wpAny_seqItems hS rfl (wpAny_pure ?_))
    show wpAny _ _ (updateSeq s2.heap.objs.size (fun _ => #[]) >>= fun _ => letGo (#[] : Array Value).toList.reverse >>= fun _ => Builtin.List.listExtendWith (.ref s2.heap.objs.size) (.ref (N + 2 + 2)) .none) _ _ _
    refine wpAny_bind (wpAny_updateSeq hS rfl ?_)
    have I4 := I3.lset (f := fun _ => #[]) (its := []) (its' := []) (ys := []) (t' := s2.toks) upd_same hS rfl .nil (Nat.zero_le _)
    rw [upd_upd] at I4
    refine wpAny_bind (wpAny_letGo ?_)
    have nq : ∀ c ∈ zfp (N + 2 + 2) (N + 2) (N + 2 + 1) (mkSrc N [(a, false), (b, false)]), c ≠ s2.heap.objs.size := fun c hc => by
      obtain ⟨o, e, _⟩ := st.obj c hc
      exact Nat.ne_of_lt (Heap.lt_size e)
    have st4 := st.keep (h' := (s2.heap.push { cls := .type "list", data := .seq #[] }).update s2.heap.objs.size (Obj.mapSeq fun _ => #[])) fun c hc o e => (Heap.get?_update_other _ _ (Ne.symm (nq c hc))).trans (Heap.get?_push_of_some _ e)
    have fp4 : ∀ c ∈ zfp (N + 2 + 2) (N + 2) (N + 2 + 1) (mkSrc N [(a, false), (b, false)]), FpOk X pins (upd H1 s2.heap.objs.size (.lst [])) c := fun c hc => ⟨by rw [upd_ne (nq c hc)]; exact (fp c hc).1, (fp c hc).2⟩
    have hS5 := Heap.get?_update_self (Obj.mapSeq (fun _ => (#[] : Array Value))) hS rfl
    generalize hs5 : ({ s2 with heap := (s2.heap.push { cls := .type "list", data := .seq #[] }).update s2.heap.objs.size (Obj.mapSeq fun _ => #[]) } : Shared) = s5 at I4 ⊢
    have hs5h : s5.heap = (s2.heap.push { cls := .type "list", data := .seq #[] }).update s2.heap.objs.size (Obj.mapSeq fun _ => #[]) := by rw [← hs5]
    rw [← hs5h] at st4 hS5
    have hS6 : s5.heap.get? s2.heap.objs.size = some { cls := .type "list", data := .seq #[] } := hS5
    have Z0 : ZL H1 (upd H1 s2.heap.objs.size (.lst [])) s2.heap.objs.size xs ys 0 [] := ⟨fun c o e => by rw [upd_ne (ne_of_none e fr)]; exact e, upd_same, rfl, (fun _ hp => absurd hp (List.not_mem_nil)), fun j p hj => by simp at hj⟩
    obtain ⟨g0, g1, gk, gz, _⟩ := id st4
    have hTz : s5.TypeIs (.ref (N + 2 + 2)) "zip" := ⟨_, gz, rfl⟩
    unfold Builtin.List.listExtendWith
    refine wpAny_bind (wpAny_typeOf (T := "zip") hTz ?_)
    have h1 : Builtin.List.listSameRef (.ref s2.heap.objs.size) (.ref (N + 2 + 2)) = false := by
      have : s2.heap.objs.size ≠ N + 2 + 2 := Nat.ne_of_gt hzl
      simp [Builtin.List.listSameRef, this]
    have h2 : (Value.type "zip" == Value.type "list") = false := by decide
    have h3 : (Value.type "zip" == Value.type "tuple") = false := by decide
    simp only [h1, h2, h3, Bool.or_false, Bool.false_eq_true, if_false]
    have T := turn_zipN (P := X.prog) (w := X.w) (K := X.K) (tg := .Name "x" ⟨0, 0, 0, 0⟩) hlt (by simp) (by simp : ([(a, false), (b, false)] : List (Addr × Bool)).length ≤ 1000)
    refine wpAny_bind (T.self _ 0 s5 _ _ st4 ?_)
    refine wpAny_bind (wpAny_holding (zip_hint hTz ?_))
    have key : ∀ s6, Inv X pins σ (upd H1 s2.heap.objs.size (.lst [])) s6 → ZTn (N + 2 + 2) (N + 2) (N + 2 + 1) (mkSrc N [(a, false), (b, false)]) 0 s6.heap →
        codeAny (model X.prog X.w) X.A.in1 (.builtin "list.extend.loop" ⟨[.ref s2.heap.objs.size, .ref (N + 2 + 2), .none], []⟩) (wants (fun r s₂ => r = .none ∧ EP X pins σ Q (.ref s2.heap.objs.size) s₂) X.xe) s6 := fun s6 I6 st6 =>
      zl_loop (Rs := wants (fun r s₂ => r = .none ∧ EP X pins σ Q (.ref s2.heap.objs.size) s₂) X.xe) (by exact I1.ok.hd hc) hlt fr hle hA hB (fun ps H' s' I' Z => ⟨rfl, .ref s2.heap.objs.size, H', I', rfl, q _ ps H' fr Z⟩) (min xs.length ys.length) 0 [] _ s6 (by omega) I6 Z0 st6 fp4
    refine wpAny_ite_split (fun _ => ?_) (fun _ => wpAny_pure ⟨plainId_quiet PySem.F.plain_extend_loop _, key s5 I4 st4⟩)
    refine wpAny_bind (wpAny_rule ?_)
    refine wpAny_bind ?_
    show wpAny _ _ (updateSeq s2.heap.objs.size (·.push .none) >>= fun _ => updateSeq s2.heap.objs.size (·.pop)) _ _ _
    refine wpAny_bind (wpAny_updateSeq hS6 rfl ?_)
    have I7 := I4.lset (f := (·.push Value.none)) (its := []) (its' := [Value.none]) (ys := [.non]) (t' := s5.toks) upd_same hS6 (by simp) (.cons rfl .nil) (by rw [List.length_singleton, sizeLine_eq]; decide)
    obtain ⟨_, its7, k7, r7, _, e7⟩ := I7.lstM upd_same
    obtain ⟨u7, rfl, _⟩ := r7.one
    refine wpAny_updateSeq e7 rfl ?_ (by show 1 ≤ sizeLine; rw [sizeLine_eq]; decide) (by show 0 ≤ sizeLine + 1; exact Nat.zero_le _)
    refine wpAny_pure ⟨plainId_quiet PySem.F.plain_extend_loop _, key _ ?_ ?_⟩
    · have I8 := I7.lset (f := (·.pop)) (its := [u7]) (its' := []) (ys := []) (t' := s5.toks) upd_same e7 (by rfl) .nil (Nat.zero_le _)
      rw [upd_upd, upd_upd] at I8
      exact I8
    · exact st4.keep fun c hc o e => (Heap.get?_update_other _ _ (Ne.symm (nq c hc))).trans ((Heap.get?_update_other _ _ (Ne.symm (nq c hc))).trans e)
end
end LX
end

section
set_option Elab.async false
set_option linter.all false
set_option maxRecDepth 100000
set_option maxHeartbeats 1000000
namespace LX
open PySem PySem.Spec PyProof.Rows L2
open PySem.AutoSeq1 (wpAny_loadPart')
/-! enumerate(t), t a tuple -/
theorem enumT_new (l : Addr) (items : Array Value) (n : Nat) (dct : Option Addr) (sl : Array (Option Value)) :
    Meets (Builtin.«enumerate.__new__» ⟨[.type "enumerate", .ref l], []⟩) (fun _ R s => s.heap.get? l = some { cls := .type "tuple", dict := dct, data := .seq items n, slots := sl } ∧
      R (.ok (.ret (.ref (s.heap.push { cls := .type "tuple_iterator", data := .fields #[.ref l, .int 0 0] }).objs.size)))
        { s with heap := (s.heap.push { cls := .type "tuple_iterator", data := .fields #[.ref l, .int 0 0] }).push { cls := .type "enumerate", data := .fields #[.none, .bool false, .ref s.heap.objs.size, rawInt 0, .none, .none] } }) :=
  .of_wp fun prog w A R s h => by
    obtain ⟨hp, g, d, tk, os⟩ := s; obtain ⟨hl, h⟩ := h
    have hsub := sub_enumerate
    have hT : Heap.IsTuple (Shared.heap ⟨hp, g, d, tk, os⟩) l items := ⟨_, hl, rfl, n, rfl⟩
    wp_walk using wpAny_loadPart' hl
    refine wpAny_stack_any fun st => wpAny_pure ?_
    split
    · rename_i c _ _ _ _ _
      cases (c == Value.type "enumerate")
      · wp_walk using wpAny_loadPart' hl, wpAny_pyIter_tuple hT
        exact ⟨_, rfl, h⟩
      · wp_walk using wpAny_loadPart' hl, wpAny_pyIter_tuple hT
        exact ⟨_, rfl, h⟩
    · wp_walk using wpAny_loadPart' hl, wpAny_pyIter_tuple hT
      exact ⟨_, rfl, h⟩
section
variable {prog : Program} {w : World} {A : Around} {E : Value → Shared → Prop} {s : Shared}
theorem call_enumT {l : Addr} {items : Array Value} {Q : Value → Shared → Prop} (hL : s.heap.IsTuple l items)
    (h : ∀ h', IsEnum h' (s.heap.objs.size + 1) s.heap.objs.size 0 .none → h'.IsTupleIter s.heap.objs.size l 0 → (∀ b o, s.heap.get? b = some o → h'.get? b = some o) → Q (.ref (s.heap.objs.size + 1)) { s with heap := h' }) :
    wpAny (model prog w) A (call (.type "enumerate") [.ref l]) Q E s := by
  obtain ⟨⟨c, dct, dt, sl⟩, hl, hc, n, hd⟩ := hL
  simp only at hc hd
  subst hc hd
  refine callType_new F.called_enumerate (by decide) (F.typeCall_enumerate_1 _) (F.newCall_enumerate_1 _) (fun obj => F.args_object_init_2 obj _) F.entry_enumerate_new
    (enumT_new l items n dct sl) ⟨hl, ?_⟩
  generalize hH1 : s.heap.push { cls := .type "tuple_iterator", data := .fields #[.ref l, .int 0 0] } = h1
  have hz : h1.objs.size = s.heap.objs.size + 1 := by rw [← hH1]; exact Heap.size_push ..
  have g1 : h1.get? s.heap.objs.size = some { cls := .type "tuple_iterator", data := .fields #[.ref l, .int 0 0] } := by rw [← hH1]; exact Heap.get?_push_size _ rfl
  have k1 : ∀ b o, s.heap.get? b = some o → h1.get? b = some o := fun b o e => by rw [← hH1]; exact Heap.get?_push_of_some _ e
  have g2 := Heap.get?_push_size h1 (o := { cls := .type "enumerate", data := .fields #[.none, .bool false, .ref s.heap.objs.size, rawInt 0, .none, .none] }) rfl
  show _ ∧ _
  rw [hz] at g2 ⊢
  exact ⟨⟨_, g2, rfl⟩, h _ g2 ⟨_, Heap.get?_push_of_some _ g1, rfl, rfl⟩ fun b o x => Heap.get?_push_of_some _ (k1 b o x)⟩
theorem enumT_item {e it l : Addr} {i : Nat} {items : Array Value} {x old : Value} {Q : Value → Shared → Prop}
    (he : IsEnum s.heap e it i old) (hit : s.heap.IsTupleIter it l i) (hl : s.heap.IsTuple l items) (hx : items[i]? = some x) (hne : e ≠ it)
    (hQ : ∀ h', IsEnumOut h' e it ((i : Int) + 1) x s.heap.objs.size → h'.IsTupleIter it l (i + 1) → IsT h' s.heap.objs.size #[.int i s.toks, x] → h'.objs.size = s.heap.objs.size + 1 →
      (∀ b o, b ≠ e → b ≠ it → s.heap.get? b = some o → h'.get? b = some o) → Q (.ref s.heap.objs.size) { s with heap := h', toks := s.toks + 1 }) :
    wpAny (model prog w) A (Builtin.«enumerate.__next__» ⟨[.ref e], []⟩) (fun fin s' => ∃ v, fin = .done (.ret v) ∧ Q v s') E s := by
  obtain ⟨hp, g, d, tk, os⟩ := s
  show wpAny _ _ (field (.ref e) 2 >>= _) _ _ _
  refine wpAny_bind (wpAny_field he rfl (x := .ref it) rfl ?_)
  refine wpAny_bind (RZ.nextOf_tuple_item hit hl hx fun h₁ hit₁ hs₁ => ?_)
  replace hs₁ : Heap.SameBut it hp h₁ := hs₁
  have he₁ : IsEnum h₁ e it i old := (hs₁.2 e hne).trans he
  show wpAny _ _ (field (.ref e) 3 >>= _) _ _ ⟨h₁, g, d, tk, os⟩
  refine wpAny_bind (wpAny_field he₁ rfl (x := rawInt i) rfl ?_)
  show wpAny _ _ (field (.ref e) 4 >>= _) _ _ ⟨h₁, g, d, tk, os⟩
  refine wpAny_bind (wpAny_field he₁ rfl (x := .none) rfl ?_)
  show wpAny _ _ (mkInt i >>= _) _ _ ⟨h₁, g, d, tk, os⟩
  refine wpAny_bind (wpAny_mkInt ?_)
  show wpAny _ _ (setField (.ref e) 3 (rawInt ((i : Int) + 1)) >>= _) _ _ ⟨h₁, g, d, tk + 1, os⟩
  refine wpAny_bind (wpAny_setField_rec he₁ (by simp) fun h₂ he₂ hs₂ => ?_)
  replace hs₂ : Heap.SameBut e h₁ h₂ := hs₂
  replace he₂ : IsEnum h₂ e it ((i : Int) + 1) old := he₂
  show wpAny _ _ (setField (.ref e) 4 .none >>= _) _ _ ⟨h₂, g, d, tk + 1, os⟩
  refine wpAny_bind (wpAny_setField_rec he₂ (by simp) fun h₃ he₃ hs₃ => ?_)
  replace hs₃ : Heap.SameBut e h₂ h₃ := hs₃
  replace he₃ : IsEnum h₃ e it ((i : Int) + 1) old := he₃
  show wpAny _ _ (newTuple [.int i tk, x] >>= _) _ _ ⟨h₃, g, d, tk + 1, os⟩
  refine wpAny_bind (wpAny_newTuple ?_)
  have he₄ : IsEnum (h₃.push { cls := .type "tuple", data := .seq #[.int i tk, x] }) e it ((i : Int) + 1) old := Heap.get?_push_of_some _ he₃
  generalize hh₄ : h₃.push { cls := .type "tuple", data := .seq #[.int i tk, x] } = h₄ at he₄
  have hsz : h₃.objs.size = hp.objs.size := by rw [hs₃.1, hs₂.1, hs₁.1]
  have hel : e < hp.objs.size := Heap.lt_size he
  have ht₄ : IsT h₄ hp.objs.size #[.int i tk, x] := by rw [← hh₄, ← hsz]; exact Heap.get?_push_size _ rfl
  have hz₄ : h₄.objs.size = hp.objs.size + 1 := by rw [← hh₄, Heap.size_push, hsz]
  have hk₄ : ∀ b o, b ≠ e → b ≠ it → hp.get? b = some o → h₄.get? b = some o := fun b o hbe hbi hb => by
    rw [← hh₄]; exact Heap.get?_push_of_some _ (hs₃.extBut b o hbe (hs₂.extBut b o hbe (hs₁.extBut b o hbi hb)))
  have hit₄ : h₄.IsTupleIter it l (i + 1) := hit₁.at fun o z => by
    rw [← hh₄]; exact Heap.get?_push_of_some _ (hs₃.extBut _ _ (Ne.symm hne) (hs₂.extBut _ _ (Ne.symm hne) z))
  show wpAny _ _ (Builtin.SmallTypes.ownedTupleIsFree (.ref e) >>= _) _ _ ⟨h₄, g, d, tk + 1, os⟩
  rw [hsz]
  clear hh₄ he₃ hs₃ he₂ hs₂ he₁ hs₁ hit₁ hsz h₃ h₂ h₁
  refine wpAny_bind ?_
  unfold Builtin.SmallTypes.ownedTupleIsFree
  refine wpAny_bind (wpAny_field he₄ rfl (x := .none) rfl (wpAny_pure ?_))
  simp only [if_true]
  refine wpAny_bind (wpAny_rule ?_)
  refine wpAny_bind (wpAny_field he₄ rfl (x := old) rfl ?_)
  refine wpAny_bind (wpAny_setField_rec he₄ (by simp) fun h₅ he₅ hs₅ => ?_)
  replace hs₅ : Heap.SameBut e h₄ h₅ := hs₅
  replace he₅ : IsEnum h₅ e it ((i : Int) + 1) x := he₅
  show wpAny _ _ (Builtin.SmallTypes.ownedTupleHandOut (.ref e) (.ref hp.objs.size) >>= _) _ _ ⟨h₅, g, d, tk + 1, os⟩
  refine wpAny_bind ?_
  unfold Builtin.SmallTypes.ownedTupleHandOut
  refine wpAny_bind (wpAny_setField_rec he₅ (by simp) fun h₆ he₆ hs₆ => ?_)
  replace hs₆ : Heap.SameBut e h₅ h₆ := hs₆
  replace he₆ : IsEnumOut h₆ e it ((i : Int) + 1) x hp.objs.size := he₆
  refine wpAny_setField_rec he₆ (by simp) fun h₇ he₇ hs₇ => ?_
  replace hs₇ : Heap.SameBut e h₆ h₇ := hs₇
  replace he₇ : IsEnumOut h₇ e it ((i : Int) + 1) x hp.objs.size := he₇
  have up : ∀ b o, b ≠ e → h₄.get? b = some o → h₇.get? b = some o := fun b o hb z => hs₇.extBut b o hb (hs₆.extBut b o hb (hs₅.extBut b o hb z))
  refine wpAny_bind (wpAny_letGo (wpAny_pure ⟨_, rfl, hQ h₇ he₇ (hit₄.at fun o z => up _ o (Ne.symm hne) z) (up _ _ (Nat.ne_of_gt hel) ht₄) ?_ fun b o hbe hbi hb => up b o hbe (hk₄ b o hbe hbi hb)⟩))
  rw [hs₇.1, hs₆.1, hs₅.1, hz₄]
theorem pyNext_enumT_item {e it l : Addr} {i : Nat} {items : Array Value} {x old : Value} {Q : Option Value → Shared → Prop}
    (he : IsEnum s.heap e it i old) (hit : s.heap.IsTupleIter it l i) (hl : s.heap.IsTuple l items) (hx : items[i]? = some x) (hne : e ≠ it)
    (hQ : ∀ h', IsEnumOut h' e it ((i : Int) + 1) x s.heap.objs.size → h'.IsTupleIter it l (i + 1) → IsT h' s.heap.objs.size #[.int i s.toks, x] → h'.objs.size = s.heap.objs.size + 1 →
      (∀ b o, b ≠ e → b ≠ it → s.heap.get? b = some o → h'.get? b = some o) → Q (some (.ref s.heap.objs.size)) { s with heap := h', toks := s.toks + 1 }) :
    wpAny (model prog w) A (pyNext (.ref e)) Q E s := by
  have hT : s.TypeIs (.ref e) "enumerate" := ⟨_, he, rfl⟩
  unfold pyNext
  exact wpAny_bind (wpAny_attempt (wpAny_callSpecial?_slot (name := Str.ofString "__next__") hT F.slot_enumerate_next
    (wpAny_call_entry F.slot_enumerate_next hT F.entry_enumerate_next
      (enumT_item he hit hl hx hne fun h' a b c d k => wpAny_pure (hQ h' a b c d k)) (F.args_enumerate_next_1 _))))
theorem pyNext_enumT_end {e it l : Addr} {i : Nat} {items : Array Value} {old : Value} {Q : Option Value → Shared → Prop} (hh : A.handled = none)
    (he : IsEnum s.heap e it i old) (hit : s.heap.IsTupleIter it l i) (hl : s.heap.IsTuple l items) (hx : items[i]? = none)
    (hQ : ∀ h', Heap.ExtBut it s.heap h' → Q none { s with heap := h' }) : wpAny (model prog w) A (pyNext (.ref e)) Q E s := by
  have hT : s.TypeIs (.ref e) "enumerate" := ⟨_, he, rfl⟩
  unfold pyNext
  refine wpAny_bind (wpAny_attempt (wpAny_callSpecial?_slot (name := Str.ofString "__next__") hT F.slot_enumerate_next
    (wpAny_call_entry F.slot_enumerate_next hT F.entry_enumerate_next ?_ (F.args_enumerate_next_1 _))))
  show wpAny _ _ (field (.ref e) 2 >>= _) _ _ _
  refine wpAny_bind (wpAny_field he rfl (x := .ref it) rfl ?_)
  refine wpAny_bind (RZ.nextOf_tuple_end hh hit hl hx fun h' x he' hx' => ?_)
  obtain ⟨o, ho, hc⟩ := hx'
  refine wpAny_bind (wpAny_isInstance (T := "StopIteration") (b := true) ⟨o, ho, hc⟩ isSubtype_stop ?_)
  exact wpAny_pure (hQ _ he')
end
/-- the tuple at a, each item in a new pair with its place -/
def IteT (K : PySem.W.Frag) (a : Addr) : It :=
  ⟨fun i H => ∃ (xs : List V) (x : V), SqT K H a xs ∧ xs[i]? = some x, fun i H v H' => ∃ T x, v = .ref T ∧ H T = none ∧ H' = upd H T (.tup [.int (i : Nat), x]) ∧ ∀ xs, SqT K H a xs → xs[i]? = some x, fun i H => ∃ xs : List V, SqT K H a xs ∧ xs.length ≤ i⟩
theorem turn_enumT {P : Program} {w : World} {K : PySem.W.Frag} {elts : List Expr} {kk : Nat} {tpos : Pos} (a e it : Addr) :
    Turn P w K (.Tuple elts kk tpos) (IteT K a) [e, it] e (fun i h => (∃ old, IsEnum h e it ((i : Nat) : Int) old) ∧ h.IsTupleIter it a i ∧ e ≠ it) where
  mem := by simp
  obj := fun i h st b hb => by
    obtain ⟨⟨old, he⟩, ⟨o, ho, hc, hd⟩, _⟩ := st
    rcases (show b = e ∨ b = it by simpa using hb) with z | z
    · rw [z]; exact ⟨_, he, fun v q => nomatch q⟩
    · rw [z]; exact ⟨o, ho, fun v q => by rw [hd] at q; cases q⟩
  keep := fun i h h' st k => let ⟨⟨old, he⟩, hi, hne⟩ := st; ⟨⟨old, k e (by simp) _ he⟩, hi.at fun o q => k it (by simp) o q, hne⟩
  item := by
    intro X hP hw hK hc i pins s σ H E I hf st hg
    subst hP hw hK
    obtain ⟨⟨old, he⟩, hit, hne⟩ := st
    obtain ⟨xs, x, hq, hx⟩ := hg
    obtain ⟨its, rv, p, hz⟩ := I.tuple hq
    obtain ⟨u, hu, ru⟩ := rv.get hx
    have hel : e < s.heap.objs.size := Heap.lt_size he
    have hil : it < s.heap.objs.size := by obtain ⟨_, q, _⟩ := hit; exact Heap.lt_size q
    refine pyNext_enumT_item he hit (show s.heap.IsTuple a its.toArray from p) (x := u) (by simpa using hu) hne fun h' ho hit' hT hsz hk => ?_
    refine ⟨_, rfl, wpAny_letOwnedTupleGo_enum (s := { s with heap := h', toks := s.toks + 1 }) ho fun h'' he' sb => ?_⟩
    have hT2 : IsT h'' s.heap.objs.size #[.int i s.toks, u] := (sb.2 _ (Nat.ne_of_gt hel)).trans hT
    have new : ObjOk X.prog X.w (upd H s.heap.objs.size (.tup [.int (i : Nat), x])) h'' s.heap.objs.size (.tup [.int (i : Nat), x]) :=
      ⟨by show 2 ≤ sizeLine; decide, [.int i s.toks, u], .cons ⟨_, rfl⟩ (.cons ru .nil), ⟨_, hT2, rfl, _, rfl⟩⟩
    have I1 : Inv X pins σ (upd H s.heap.objs.size (.tup [.int (i : Nat), x])) { s with heap := h'', toks := s.toks + 1 } :=
      I.turnedNew (ch := [e, it]) (fun b ob hb q => (sb.2 b (fun z => hb (by simp [z]))).trans (hk b ob (fun z => hb (by simp [z])) (fun z => hb (by simp [z])) q)) hf (Nat.le_refl _) new
    refine ⟨.ref s.heap.objs.size, _, I1, rfl, ⟨_, x, rfl, I.hok.fresh (Nat.le_refl _), rfl, fun ys hy => by rw [I.tuple_inj hy hq]; exact hx⟩, ⟨⟨u, ?_⟩, hit'.at fun o q => (sb.2 it (Ne.symm hne)).trans q, hne⟩, fun b hb => ?_⟩
    · have e1 : ((i + 1 : Nat) : Int) = (i : Int) + 1 := by omega
      rw [e1]; exact he'
    · have hb' : b < s.heap.objs.size := by
        rcases (show b = e ∨ b = it by simpa using hb) with z | z
        · rw [z]; exact hel
        · rw [z]; exact hil
      rw [upd_ne (Nat.ne_of_lt hb')]
      exact (hf b hb).1
  done := by
    intro X hP hw hK hc i pins s σ H E I hf st hg
    subst hP hw hK
    obtain ⟨⟨old, he⟩, hit, hne⟩ := st
    obtain ⟨xs, hq, hx⟩ := hg
    obtain ⟨its, rv, p, hz⟩ := I.tuple hq
    obtain ⟨f0, f1, f2, f3, f4, f5⟩ := hf it (by simp)
    have hl := rv.length
    exact pyNext_enumT_end (I.ok.hd hc) he hit (show s.heap.IsTuple a its.toArray from p) (by simp; omega) fun h' eb => ⟨rfl, I.turned (t' := s.toks) (fun b o hb q => eb b o hb q) f0 f1 f3 f4 f5⟩
  self := fun A i s Q E st h => let ⟨⟨_, he⟩, _⟩ := st; wpAny_pyIter_enum he h
def iEnumT (K : PySem.W.Frag) (ta : TA) : TI := fun σ H R => ta σ H fun vs H1 => ∃ a xs, vs = [.ref a] ∧ SqT K H1 a xs ∧ R (IteT K a) H1
theorem pi_enumT {X : Cx} {e : Expr} {ta : TA} {p pos tpos : Pos} {elts : List Expr} {kk : Nat} (hg : Gl X "enumerate") (hm : X.mg "enumerate" = none) (ha : PA X [e] ta) (hs : starEach [e] X.env = [(false, eval e X.env)] := by rfl) :
    PI X (.Tuple elts kk tpos) (.Call (.Name "enumerate" p) [e] [] pos) (iEnumT X.K ta) := by
  refine ⟨fun pins s σ H R I h => ?_⟩
  refine Call_ (ld_blt I hg hm boot_enumerate (PyProof.Rows.callWith_type1 (thn (ha.run pos pins s σ H _ I h) fun us s1 ⟨vs, H1, I1, r1, q1⟩ => ?_) hs rfl))
  obtain ⟨a, xs, ex, hq, q⟩ := q1
  subst ex
  cases r1 with
  | cons r rr =>
    cases rr
    cases r
    obtain ⟨its, rv, p', hz⟩ := I1.tuple hq
    refine call_enumT (show s1.heap.IsTuple a its.toArray from p') fun h' he hit hk => wpAny_pyIter_enum he ?_
    have I2 : Inv X pins σ H1 { s1 with heap := h' } := I1.kept (t' := s1.toks) hk
    refine ⟨s1.heap.objs.size + 1, [s1.heap.objs.size + 1, s1.heap.objs.size], _, _, H1, rfl, I2, turn_enumT a (s1.heap.objs.size + 1) s1.heap.objs.size, ⟨⟨.none, he⟩, hit, Nat.succ_ne_self _⟩, fun b hb => ?_, q⟩
    have hle : s1.heap.objs.size ≤ b := by
      rcases (show b = s1.heap.objs.size + 1 ∨ b = s1.heap.objs.size by simpa using hb) with z | z
      · rw [z]; exact Nat.le_add_right _ _
      · rw [z]; exact Nat.le_refl _
    exact I1.fpOk hle (I1.hok.fresh hle)
end LX
end

section
set_option Elab.async false
set_option linter.all false
set_option autoImplicit false
set_option maxRecDepth 100000
namespace LX
open PySem PySem.Spec PyProof.Rows L2
/-- a tuple that is known to have no dict of its own -/
def Tup0 (H : Hp) (a : Addr) (xs : List V) : Prop := ∃ o : Obj, o.dict = none ∧ H a = some (.frz o (.tup xs))
theorem Tup0.rd {H : Hp} {a : Addr} {xs : List V} (h : Tup0 H a xs) : Rd H a (.tup xs) := let ⟨o, _, e⟩ := h; .inr ⟨o, e⟩
theorem Tup0.sq {K : PySem.W.Frag} {H : Hp} {a : Addr} {xs : List V} (h : Tup0 H a xs) : SqT K H a xs := .inl h.rd
section
variable {X : Cx}
/-- tuple(list): the new tuple, known to have no dict -/
theorem call_tupleF : CallR X (.type "tuple") (fun xs H Q => ∃ p ys, xs = [.ref p] ∧ SqL X.K H p ys ∧ ∀ l o, H l = none → o.dict = none → Q (.ref l) (upd H l (.frz o (.tup ys)))) := by
  intro pins s σ H xs us Q I r h
  obtain ⟨p, ys, rfl, hq, q⟩ := h
  obtain ⟨u, rfl, rx⟩ := vals1 r
  cases rx
  obtain ⟨its, r', pl, hz⟩ := I.list hq
  have hlen := r'.length
  refine call_tuple_list pl.isList (fun h' kp => ?_) (by simp only [List.size_toArray] <;> omega)
  have I1 : Inv X pins σ H { s with heap := h' } := I.kept (t' := s.toks) kp
  have I2 : Inv X pins σ (upd H h'.objs.size (.frz { cls := .type "tuple", data := .seq its.toArray } (.tup ys))) { s with heap := h'.push { cls := .type "tuple", data := .seq its.toArray } } :=
    I1.laid (t' := s.toks) (fun b o e => Heap.get?_push_of_some _ e) (Nat.le_refl _) (show ObjOk X.prog X.w _ _ _ (.frz _ (.tup ys)) from ⟨Heap.get?_push_size _ rfl, hz, its, r', IsTup.new _ _⟩)
  exact ⟨.ref h'.objs.size, _, I2, rfl, q _ _ (I1.hok.fresh (Nat.le_refl _)) rfl⟩
/-- a method of such a tuple -/
def tBMF (r : V → List V → Hp → VK → Prop) (to : TE) (t : TA) : TE := fun σ H Q => to σ H fun x H1 => (∃ a xs, x = .ref a ∧ Tup0 H1 a xs) ∧ t σ H1 fun vs H2 => r x vs H2 Q
variable {o e : Expr} {es : List Expr} {to : TE} {t : TA} {name : Str} {apos cpos : Pos} {id : String} {r : V → List V → Hp → VK → Prop}
theorem pe_bmF (slot : Slot "tuple" name id) (hty : typeOf (.builtin id) = pure (.type "method_descriptor")) (hm : MtR X id r) (ho : PE X o to) (ha : PA X (e :: es) t)
    (hbase : attributeBase o name X.env (eval o X.env) = eval o X.env := by rfl)
    (hfew : ((backTo cpos (starEach (e :: es) X.env)).all (fun x => !x.1) && (backToKw cpos (keywordEach [] X.env)).all (fun x => x.1.isSome)
      && decide ((e :: es).length + ([] : List Keyword).length + (if ([] : List Keyword).isEmpty then 0 else 1) < 30)) = true := by rfl)
    (hline : (apos.endLine == cpos.line) = true := by rfl) (hs : starEach (e :: es) X.env = (false, eval e X.env) :: starEach es X.env := by rfl) (hplain : (backTo cpos (starEach es X.env)).any (·.1) = false := by rfl) :
    PE X (.Call (.Attribute o name apos) (e :: es) [] cpos) (tBMF r to t) := by
  refine ⟨fun pins s σ H Q I h => ?_⟩
  refine wpAny_Call_method_late hbase hfew hline rfl (thn (ho.run pins s σ H _ I h) fun v s1 ⟨x, H1, I1, r1, ⟨a, xs, ex, ob, hd, hx⟩, q1⟩ => ?_)
  subst ex
  cases (show v = Value.ref a from r1)
  obtain ⟨g, _, its, rv, o1, h1, h2, n, h3⟩ := (show ObjOk X.prog X.w H1 s1.heap a (.frz ob (.tup xs)) from I1.hok a _ hx)
  have e1 : o1 = ob := Option.some.inj (h1.symm.trans g)
  subst e1
  refine ⟨"tuple", id, PySem.F.plainAttrs_tuple, slot, hty, ⟨o1, g, h2⟩, fun b eb => by cases eb; exact ⟨o1, g, hd⟩, ?_⟩
  have hA := ha.run cpos pins s1 σ H1 _ I1 q1
  rw [hs] at hA ⊢
  refine Calls.callWith_builtin (by show (false || (backTo cpos (starEach es X.env)).any (·.1)) = false; rw [hplain] <;> rfl) (Calls.evalArgs_plain ?_)
  exact thn hA fun us s2 ⟨vs, H2, I2, r2, q2⟩ => hm pins s2 σ H2 _ vs _ us Q I2 r1 r2 q2
end
end LX
end

section
set_option Elab.async false
set_option linter.all false
set_option autoImplicit false
set_option maxRecDepth 100000
namespace LW
open PySem L2 LM LX
/-! ### the text by places -/
def top (i : Nat) : Stmt := PySem.Challenge.pw_leastmoved_k50_whole_least_limits.main.body.getD i (.Pass ⟨0, 0, 0, 0⟩)
/-- a def that stands in the module's names and keeps its promise -/
structure Ok (P : Program) (w : World) (K : PySem.W.Frag) (mg : Str → Option Value) (base : Heap) (x : Str) (ps : List Str) (k : Nat) (sp : Sp) : Prop where
  ex : ∃ f fd, FnOk P w K mg base CX0 k f fd ps sp ∧ mg x = some (.ref f) ∧ PySem.W.keepIn K (.ref f) = true ∧ Binds K fd ps []
theorem pe_ok {X : Cx} {x : Str} {ps : List Str} {k : Nat} {sp : Sp} {e : Expr} {es : List Expr} {p pos : Pos} {t : TA} (O : Ok X.prog X.w X.K X.mg X.base x ps k sp) (hr : Room k X.A) (hg : Gl X x) (ha : PA X (e :: es) t)
    (hdb : (x == ("__debug__" : Str)) = false := by decide) (he : starEach (e :: es) X.env = (false, eval e X.env) :: starEach es X.env := by rfl) (hpl : (backTo pos (starEach es X.env)).any (·.1) = false := by rfl) :
    PE X (.Call (.Name x p) (e :: es) [] pos) (tCall sp [] E0 t) := by
  obtain ⟨f, fd, G, m, kp, b⟩ := O.ex
  exact pe_call G hr hg m kp b .nil pass0 ha hdb he hpl
/-- the names of built-ins -/
structure Nm (mg : Str → Option Value) : Prop where
  isi : mg "isinstance" = none
  int : mg "int" = none
  bool : mg "bool" = none
  str : mg "str" = none
  tup : mg "tuple" = none
  lst : mg "list" = none
  len : mg "len" = none
  all : mg "all" = none
  any : mg "any" = none
  sum : mg "sum" = none
  zip : mg "zip" = none
  rng : mg "range" = none
  enu : mg "enumerate" = none
  srt : mg "sorted" = none
  max : mg "max" = none
  abs : mg "abs" = none
/-! ### heaps -/
theorem same_new {H : Hp} {p : Addr} (h : H p = none) (o : HO) : Same H (upd H p o) := fun b u q => by rw [upd_ne (ne_of_none q h)]; exact q
theorem same_put {H H' : Hp} {p : Addr} (h : H p = none) (s : Same H H') (o : HO) : Same H (upd H' p o) := fun b u q => by rw [upd_ne (ne_of_none q h)]; exact s _ _ q
theorem small {n : Nat} (h : n ≤ 1000) : n ≤ sizeLine := Nat.le_of_lt (small1000 h)
/-- a tuple of whole numbers -/
def Tn (H : Hp) (a : Addr) (ns : List Nat) : Prop := Tup0 H a (nvs ns)
theorem Tn.same {H H' : Hp} {a : Addr} {ns : List Nat} (h : Tn H a ns) (s : Same H H') : Tn H' a ns := let ⟨o, h1, h2⟩ := h; ⟨o, h1, s _ _ h2⟩
theorem Tn.sq {K : PySem.W.Frag} {H : Hp} {a : Addr} {ns : List Nat} (h : Tn H a ns) : SqT K H a (nvs ns) := Tup0.sq h
theorem Tn.ty {K : PySem.W.Frag} {H : Hp} {a : Addr} {ns : List Nat} (h : Tn H a ns) : TyX K H (.ref a) (.type "tuple") := let ⟨_, _, h2⟩ := h; .fTuple h2
theorem Tn.new {H : Hp} {a : Addr} {o : Obj} {ns : List Nat} (h : o.dict = none) : Tn (upd H a (.frz o (.tup (nvs ns)))) a ns := ⟨o, h, upd_same⟩
/-- tuples of whole numbers -/
structure Rs (H : Hp) (as : List Addr) (rows : List (List Nat)) : Prop where
  len : as.length = rows.length
  at_ : ∀ (i : Nat) (a : Addr), as[i]? = some a → ∃ r, rows[i]? = some r ∧ Tn H a r
theorem Rs.same {H H' : Hp} {as : List Addr} {rows : List (List Nat)} (h : Rs H as rows) (s : Same H H') : Rs H' as rows := ⟨h.len, fun i a e => let ⟨r, h1, h2⟩ := h.at_ i a e; ⟨r, h1, h2.same s⟩⟩
theorem Rs.get {H : Hp} {as : List Addr} {rows : List (List Nat)} (h : Rs H as rows) {i : Nat} (hi : i < rows.length) : ∃ a, as[i]? = some a ∧ Tn H a (rows[i]) := by
  have hi' : i < as.length := by rw [h.len]; exact hi
  obtain ⟨r, h1, h2⟩ := h.at_ i as[i] (List.getElem?_eq_getElem hi')
  rw [List.getElem?_eq_getElem hi] at h1
  cases h1
  exact ⟨_, List.getElem?_eq_getElem hi', h2⟩
theorem Rs.get' {H : Hp} {as : List Addr} {rows : List (List Nat)} (h : Rs H as rows) {i : Nat} {r : List Nat} (hr : rows[i]? = some r) : ∃ a, as[i]? = some a ∧ Tn H a r := by
  obtain ⟨hi, e⟩ := List.getElem?_eq_some_iff.mp hr
  obtain ⟨a, h1, h2⟩ := h.get hi
  exact ⟨a, h1, by rw [← e]; exact h2⟩
theorem Rs.nil {H : Hp} : Rs H [] [] := ⟨rfl, fun i a e => by simp at e⟩
theorem Rs.snoc {H : Hp} {as : List Addr} {rows : List (List Nat)} {a : Addr} {r : List Nat} (h : Rs H as rows) (h' : Tn H a r) : Rs H (as ++ [a]) (rows ++ [r]) := by
  refine ⟨by simp [h.len], fun i b e => ?_⟩
  by_cases hi : i < as.length
  · rw [List.getElem?_append_left hi] at e
    obtain ⟨r', h1, h2⟩ := h.at_ i b e
    exact ⟨r', by rw [List.getElem?_append_left (by rw [← h.len]; exact hi)]; exact h1, h2⟩
  · have hi2 : i < (as ++ [a]).length := (List.getElem?_eq_some_iff.mp e).1
    have hi3 : i = as.length := by simp at hi2; omega
    subst hi3
    simp at e
    subst e
    exact ⟨r, by rw [h.len]; simp, h'⟩
theorem Rs.cons {H : Hp} {as : List Addr} {rows : List (List Nat)} {a : Addr} {r : List Nat} (h' : Tn H a r) (h : Rs H as rows) : Rs H (a :: as) (r :: rows) := by
  refine ⟨by simp [h.len], fun i b e => ?_⟩
  cases i with
  | zero => simp at e; subst e; exact ⟨r, rfl, h'⟩
  | succ i => exact h.at_ i b (by simpa using e)
theorem Rs.uncons {H : Hp} {as : List Addr} {rows : List (List Nat)} {r : List Nat} (h : Rs H as (r :: rows)) : ∃ a as', as = a :: as' ∧ Tn H a r ∧ Rs H as' rows := by
  cases as with
  | nil => have := h.len; simp at this
  | cons a as' =>
    obtain ⟨r', h1, h2⟩ := h.at_ 0 a rfl
    have : r = r' := by simpa using h1
    subst this
    exact ⟨a, as', rfl, h2, ⟨by have := h.len; simpa using this, fun i b e => h.at_ (i + 1) b (by simpa using e)⟩⟩
def rfs (as : List Addr) : List V := as.map V.ref
theorem rfs_length (as : List Addr) : (rfs as).length = as.length := by simp [rfs]
theorem rfs_get {as : List Addr} {i : Nat} {a : Addr} (h : as[i]? = some a) : (rfs as)[i]? = some (.ref a) := by simp [rfs, h]
/-- a tuple of tuples of whole numbers -/
def Tt (H : Hp) (a : Addr) (rows : List (List Nat)) : Prop := ∃ as, H a = some (.tup (rfs as)) ∧ Rs H as rows
theorem Tt.same {H H' : Hp} {a : Addr} {rows : List (List Nat)} (h : Tt H a rows) (s : Same H H') : Tt H' a rows := by
  obtain ⟨as, h1, h2⟩ := h
  exact ⟨as, s _ _ h1, h2.same s⟩
theorem nvs_length (ns : List Nat) : (nvs ns).length = ns.length := by simp [nvs]
theorem nvs_get {ns : List Nat} {i : Nat} (h : i < ns.length) : (nvs ns)[i]? = some (.int (ns[i] : Nat)) := by simp [nvs, h]
theorem nvs_get' {ns : List Nat} {i : Nat} {x : Nat} (h : ns[i]? = some x) : (nvs ns)[i]? = some (.int x) := by simp [nvs, h]
theorem nvs_sh {ns : List Nat} {i : Nat} (h : i < ns.length) : (nvs ns)[i]? = some (.int (sh ns i)) := by rw [nvs_get h]; simp [sh, List.getD_eq_getElem?_getD, h]
theorem nvs_at {ns : List Nat} {i : Nat} (h : i < ns.length) : atI (nvs ns) (i : Nat) = some (.int (sh ns i)) := atI_nat (nvs_sh h)
theorem ivs_get {l : List Int} {i : Nat} (h : i < l.length) : (l.map V.int)[i]? = some (.int (nth l i)) := by rw [nth_eq h]; simp [h]
theorem ivs_at {l : List Int} {i : Nat} (h : i < l.length) : atI (l.map V.int) (i : Nat) = some (.int (nth l i)) := atI_nat (ivs_get h)
theorem get_of_mem_range {α : Type} {n i : Nat} (h : i < n) (f : Nat → α) : ((List.range n).map f)[i]? = some (f i) := by simp [h]
/-! ### a pure comprehension: the list of f 0, f 1, .. -/
section
variable {J : It} {n : Nat} {G : Hp → Prop} {Y : Nat → Hp → V → Hp → Prop}
theorem lc_map {g : TG} {te : TE} {vs : List Nat} {σ : L2.St} {H1 : Hp} {D : Addr} {Qd : Hp → Prop} (w : Walk J n G Y) (f : Nat → V) (hD : H1 D = none) (hn : n ≤ 1000) (hG : ∀ H, Same H1 H → G H) (hY : ∀ i H x H', i < n → G H → Y i H x H' → Same H H')
    (hs : ∀ i x H H' (R : V → Hp → Prop), i < n → Same H1 H → Y i H x H' → Same H1 H' → (∀ y H3, Same H' H3 → y = f i → R y H3) → g x (wipe σ vs) H' fun σ2 H2 => wipe σ2 vs = wipe σ vs ∧ te σ2 H2 R)
    (hd : ∀ H, Same H1 H → H D = some (.lst ((List.range n).map f)) → Qd H) :
    ∃ W : Nat → Nat → Hp → Prop, (∃ m, W 0 m (upd H1 D (.lst []))) ∧ ∀ i m H, W i m H →
      (J.stop i H ∧ Qd H) ∨ (J.go i H ∧ ∃ Nx : Hp → Prop, (∀ H', Nx H' → ∃ m', m' < m ∧ W (i + 1) m' H') ∧ ∀ x H', J.yld i H x H' → g x (wipe σ vs) H' fun σ2 H2 => wipe σ2 vs = wipe σ vs ∧ tYes σ2 H2 fun b H3 =>
        if b = true then te σ2 H3 fun y H4 => ∃ acc, H4 D = some (.lst acc) ∧ acc.length < sizeLine ∧ Nx (upd H4 D (.lst (acc ++ [y]))) else Nx H3) := by
  refine lc_it w (tt := tYes) (fun i H => Same H1 H ∧ H D = some (.lst ((List.range i).map f))) ⟨same_new hD _, by rw [upd_same]; rfl⟩ (fun i H _ p => hG H p.1) (fun i x H H' hi p y => ?_) fun H p => hd H p.1 p.2
  have sH := hY i H x H' hi (hG H p.1) y
  have S1 := p.1.trans sH
  have eD := sH _ _ p.2
  refine hs i x H H' _ hi p.1 y S1 fun v H3 s3 e => ?_
  refine ⟨_, s3 _ _ eD, ?_, same_put hD (S1.trans s3) _, ?_⟩
  · rw [List.length_map, List.length_range]; exact small1000 (by omega)
  · rw [upd_same, List.range_succ, List.map_append, e]; rfl
end
end LW
end

section
set_option Elab.async false
set_option linter.all false
set_option autoImplicit false
set_option maxRecDepth 100000
namespace LW
open PySem L2 LM LX
section
variable {K : PySem.W.Frag}
/-- a new tuple of the i-th of each source -/
def YZ (xss : List (List V)) : Nat → Hp → V → Hp → Prop := fun i H v H' => ∃ (T : Addr) (ys : List V), v = .ref T ∧ H T = none ∧ H' = upd H T (.tup ys) ∧ ys.length = xss.length ∧ ∀ (j : Nat) (xs : List V), xss[j]? = some xs → ∃ y : V, xs[i]? = some y ∧ ys[j]? = some y
/-- the sources hold xss -/
def Srcs (K : PySem.W.Frag) (as : List (Addr × Bool)) (xss : List (List V)) (H : Hp) : Prop := ∀ (j : Nat) (p : Addr × Bool), as[j]? = some p → ∃ xs, xss[j]? = some xs ∧ Sq K H p xs
theorem walk_zipN {as : List (Addr × Bool)} {xss : List (List V)} {n : Nat} (hl : xss.length = as.length) (hn : ∀ xs ∈ xss, n ≤ xs.length) (he : ∃ xs ∈ xss, xs.length = n) :
    Walk (ItzN K as) n (Srcs K as xss) (YZ xss) := by
  refine ⟨fun i H hi G p hp => ?_, fun H G => ⟨fun p hp => ?_, ?_⟩, fun i H v H' hi G y => ?_⟩
  · obtain ⟨j, hj, rfl⟩ := List.mem_iff_getElem.mp hp
    obtain ⟨xs, h1, h2⟩ := G j _ (List.getElem?_eq_getElem hj)
    have := hn xs (List.mem_of_getElem? h1)
    exact ⟨xs, xs[i], h2, by simp [show i < xs.length by omega]⟩
  · obtain ⟨j, hj, rfl⟩ := List.mem_iff_getElem.mp hp
    obtain ⟨xs, h1, h2⟩ := G j _ (List.getElem?_eq_getElem hj)
    exact ⟨xs, h2⟩
  · obtain ⟨xs, hm, e⟩ := he
    obtain ⟨j, hj, rfl⟩ := List.mem_iff_getElem.mp hm
    have hj' : j < as.length := by omega
    obtain ⟨xs', h1, h2⟩ := G j _ (List.getElem?_eq_getElem hj')
    rw [List.getElem?_eq_getElem hj] at h1
    cases h1
    exact ⟨as[j], List.getElem_mem hj', _, h2, by omega⟩
  · obtain ⟨T, ys, h1, h2, h3, h4, h5⟩ := y
    refine ⟨T, ys, h1, h2, h3, by rw [h4, hl], fun j xs hx => ?_⟩
    have hj : j < as.length := by rw [← hl]; exact (List.getElem?_eq_some_iff.mp hx).1
    obtain ⟨xs', q1, q2⟩ := G j _ (List.getElem?_eq_getElem hj)
    rw [hx] at q1
    cases q1
    exact h5 j _ (List.getElem?_eq_getElem hj) xs q2
theorem YZ.same {xss : List (List V)} {i : Nat} {H H' : Hp} {v : V} (y : YZ xss i H v H') : Same H H' := by
  obtain ⟨T, ys, h1, h2, h3, h4, h5⟩ := y
  rw [h3]; exact same_new h2 _
theorem YPair.same {xs ys : Nat → Option V} {i : Nat} {H H' : Hp} {v : V} (y : YPair xs ys i H v H') : Same H H' := by
  obtain ⟨T, a, b, h1, h2, h3, h4, h5⟩ := y
  rw [h3]; exact same_new h2 _
theorem Srcs.two {a b : Addr × Bool} {xs ys : List V} {H : Hp} (h1 : Sq K H a xs) (h2 : Sq K H b ys) : Srcs K [a, b] [xs, ys] H := fun j p e => by
  match j, e with
  | 0, e => cases (show some a = some p from e); exact ⟨_, rfl, h1⟩
  | 1, e => cases (show some b = some p from e); exact ⟨_, rfl, h2⟩
  | j + 2, e => simp at e
theorem Srcs.three {a b c : Addr × Bool} {xs ys zs : List V} {H : Hp} (h1 : Sq K H a xs) (h2 : Sq K H b ys) (h3 : Sq K H c zs) : Srcs K [a, b, c] [xs, ys, zs] H := fun j p e => by
  match j, e with
  | 0, e => cases (show some a = some p from e); exact ⟨_, rfl, h1⟩
  | 1, e => cases (show some b = some p from e); exact ⟨_, rfl, h2⟩
  | 2, e => cases (show some c = some p from e); exact ⟨_, rfl, h3⟩
  | j + 3, e => simp at e
theorem Srcs.ex {as : List (Addr × Bool)} {xss : List (List V)} {H : Hp} (h : Srcs K as xss H) : ∀ p ∈ as, ∃ xs, Sq K H p xs := fun p hp => by
  obtain ⟨j, hj, rfl⟩ := List.mem_iff_getElem.mp hp
  obtain ⟨xs, _, h2⟩ := h j _ (List.getElem?_eq_getElem hj)
  exact ⟨xs, h2⟩
theorem walk_zip2 {a b : Addr × Bool} {xs ys : List V} {n : Nat} (h1 : xs.length = n) (h2 : ys.length = n) : Walk (ItzN K [a, b]) n (Srcs K [a, b] [xs, ys]) (YZ [xs, ys]) :=
  walk_zipN rfl (fun zs hz => by simp at hz; rcases hz with rfl | rfl <;> omega) ⟨xs, by simp, h1⟩
theorem walk_zip3 {a b c : Addr × Bool} {xs ys zs : List V} {n : Nat} (h1 : xs.length = n) (h2 : ys.length = n) (h3 : zs.length = n) : Walk (ItzN K [a, b, c]) n (Srcs K [a, b, c] [xs, ys, zs]) (YZ [xs, ys, zs]) :=
  walk_zipN rfl (fun ws hz => by simp at hz; rcases hz with rfl | rfl | rfl <;> omega) ⟨xs, by simp, h1⟩
/-- what a turn of two gives -/
theorem YZ.pair {xs ys : List V} {i : Nat} {H H' : Hp} {v x y : V} (q : YZ [xs, ys] i H v H') (hx : xs[i]? = some x) (hy : ys[i]? = some y) : ∃ T : Addr, v = .ref T ∧ H T = none ∧ H' = upd H T (.tup [x, y]) := by
  obtain ⟨T, zs, h1, h2, h3, h4, h5⟩ := q
  obtain ⟨x', e1, f1⟩ := h5 0 xs rfl
  obtain ⟨y', e2, f2⟩ := h5 1 ys rfl
  rw [hx] at e1
  rw [hy] at e2
  cases e1; cases e2
  match zs, h4, f1, f2 with
  | [p, q], _, f1, f2 =>
    cases (show some p = some x from f1)
    cases (show some q = some y from f2)
    exact ⟨T, h1, h2, h3⟩
theorem YZ.triple {xs ys zs : List V} {i : Nat} {H H' : Hp} {v x y z : V} (q : YZ [xs, ys, zs] i H v H') (hx : xs[i]? = some x) (hy : ys[i]? = some y) (hz : zs[i]? = some z) : ∃ T : Addr, v = .ref T ∧ H T = none ∧ H' = upd H T (.tup [x, y, z]) := by
  obtain ⟨T, ws, h1, h2, h3, h4, h5⟩ := q
  obtain ⟨x', e1, f1⟩ := h5 0 xs rfl
  obtain ⟨y', e2, f2⟩ := h5 1 ys rfl
  obtain ⟨z', e3, f3⟩ := h5 2 zs rfl
  rw [hx] at e1
  rw [hy] at e2
  rw [hz] at e3
  cases e1; cases e2; cases e3
  match ws, h4, f1, f2, f3 with
  | [p, q, r], _, f1, f2, f3 =>
    cases (show some p = some x from f1)
    cases (show some q = some y from f2)
    cases (show some r = some z from f3)
    exact ⟨T, h1, h2, h3⟩
theorem walk_enumT {a : Addr} {xs : List V} : Walk (IteT K a) xs.length (fun H => SqT K H a xs) (YPair (fun i => some (.int (i : Nat))) (fun i => xs[i]?)) := by
  refine ⟨fun i _ hi q => ⟨xs, xs[i], q, by simp [hi]⟩, fun _ q => ⟨xs, q, Nat.le_refl _⟩, fun i H v H' _ q y => ?_⟩
  obtain ⟨T, x, h1, h2, h3, h4⟩ := y
  exact ⟨T, .int (i : Nat), x, h1, h2, h3, rfl, h4 xs q⟩
/-- how two targets take such a tuple -/
theorem YPair.pair {xs ys : Nat → Option V} {i : Nat} {H H' : Hp} {v x y : V} (q : YPair xs ys i H v H') (hx : xs i = some x) (hy : ys i = some y) : ∃ T : Addr, v = .ref T ∧ H T = none ∧ H' = upd H T (.tup [x, y]) := by
  obtain ⟨T, x', y', h1, h2, h3, h4, h5⟩ := q
  rw [hx] at h4
  rw [hy] at h5
  cases h4; cases h5
  exact ⟨T, h1, h2, h3⟩
theorem g_two {n i j : Nat} {x y : V} {T : Addr} {H : Hp} {σ : L2.St} {Q : L2.St → Hp → Prop} (hn : n = 2) (hT : H T = some (.tup [x, y])) (h : Q ((σ.set i (some x)).set j (some y)) H) : gTup K n (gCons (gName i) (gCons (gName j) gNil)) (.ref T) σ H Q :=
  ⟨T, [x, y], rfl, SqT.of hT, hn.symm, x, [y], rfl, y, [], rfl, rfl, h⟩
theorem g_three {n i j k : Nat} {x y z : V} {T : Addr} {H : Hp} {σ : L2.St} {Q : L2.St → Hp → Prop} (hn : n = 3) (hT : H T = some (.tup [x, y, z])) (h : Q (((σ.set i (some x)).set j (some y)).set k (some z)) H) : gTup K n (gCons (gName i) (gCons (gName j) (gCons (gName k) gNil))) (.ref T) σ H Q :=
  ⟨T, [x, y, z], rfl, SqT.of hT, hn.symm, x, [y, z], rfl, y, [z], rfl, z, [], rfl, rfl, h⟩
theorem i_two {H : Hp} {a b : Addr} {R : It → Hp → Prop} {ca cb : Bool} {xs ys : List V} (h1 : Sq K H (a, ca) xs) (h2 : Sq K H (b, cb) ys) (h : R (ItzN K [(a, ca), (b, cb)]) H) :
    ∃ as : List (Addr × Bool), [V.ref a, V.ref b] = (as.map fun p => V.ref p.1) ∧ as ≠ [] ∧ as.length ≤ 6 ∧ (∀ p ∈ as, ∃ xs, Sq K H p xs) ∧ R (ItzN K as) H :=
  ⟨[(a, ca), (b, cb)], rfl, by simp, by simp, (Srcs.two h1 h2).ex, h⟩
end
/-! ### rules with the written part told -/
section
variable {X : Cx} {K : PySem.W.Frag}
theorem ix_tupK (h : X.K = K) : IxR X (rIxT K) := h ▸ ix_tup
theorem ix_listK (h : X.K = K) : IxR X (rIxL K) := h ▸ ix_list
def rLen (K : PySem.W.Frag) : List V → Hp → VK → Prop := fun xs H Q => ∃ p ys, xs = [.ref p] ∧ (SqL K H p ys ∨ SqT K H p ys) ∧ Q (.int ys.length) H
theorem call_lenK (h : X.K = K) : CallR X (.builtin "len") (rLen K) := h ▸ call_len_seq
theorem cr_sumTK (h : X.K = K) (hc : X.calm = true) : CallR X (.builtin "sum") (rSumT K) := h ▸ cr_sumT hc
theorem op_eqDK (h : X.K = K) (hu : X.A.units + 64 < cLine) : OpR X (compareOp .Eq) (rEqD K) := h ▸ op_eqD hu
theorem mt_countK (h : X.K = K) : MtR X "tuple.count" (rCountT K) := h ▸ mt_tcount
theorem pe_fldK {e : Expr} {f : Str} {pos : Pos} {ta : TE} (h : X.K = K) (he : PE X e ta) (hb : attributeBase e f X.env (eval e X.env) = eval e X.env) : PE X (.Attribute e f pos) (tFld K ta f) := h ▸ pe_fld he hb
theorem pe_gi {x : Str} {v : V} {pos : Pos} (hg : Gl X x) (h : ∃ u, X.mg x = some u ∧ L2.RelV v u) (hn : x ≠ "__name__" := by decide) (hd : (x == ("__debug__" : Str)) = false := by decide) : PE X (.Name x pos) (tC v) := by
  obtain ⟨u, hm, r⟩ := h
  exact pe_glob hg hm r hd
end
def Ci (mg : Str → Option Value) (x : Str) (i : Int) : Prop := ∃ u, mg x = some u ∧ L2.RelV (.int i) u
/-! ### data: tuples of numbers -/
def dNs (ns : List Nat) : PyData := .tuple (ns.map fun (x : Nat) => PyData.int x)
theorem dp_nvs (K : PySem.W.Frag) (H : Hp) : ∀ ns : List Nat, DpAll K H (nvs ns) (ns.map fun (x : Nat) => PyData.int x)
  | [] => .nil
  | x :: r => .cons (.int _) (dp_nvs K H r)
theorem Tn.dp {K : PySem.W.Frag} {H : Hp} {a : Addr} {ns : List Nat} (h : Tn H a ns) : Dp K H (.ref a) (dNs ns) := .tup h.sq (dp_nvs K H ns)
theorem ints_lay : ∀ ns : List Nat, PyData.canLayAll0 (ns.map fun (x : Nat) => PyData.int x) = true ∧ PyData.depthAll (ns.map fun (x : Nat) => PyData.int x) = 0
  | [] => by simp [PyData.canLayAll0, PyData.depthAll]
  | x :: r => by
    have := ints_lay r
    simp [PyData.canLayAll0, PyData.depthAll, PyData.canLay0, PyData.depth, this]
theorem dNs_shaped (ns : List Nat) : SeqAt.shaped (dNs ns) = true := by
  have := ints_lay ns
  simp [SeqAt.shaped, dNs, PyData.canLay0, PyData.depth, this]
theorem dNs_eqv (ns : List Nat) : PyData.eqv (dNs ns) (dNs ns) = true := by
  refine PySem.SeqAt.eqv_refl (dNs ns) ?_
  have := ints_lay ns
  simp [dNs, PyData.canLay0, this]
end LW
end

section
set_option Elab.async false
set_option linter.all false
set_option autoImplicit false
set_option maxRecDepth 100000
namespace LW
open PySem L2 LM LX
/-! ### shares, transfers, assignments -/
theorem pe_bty {X : Cx} {x : Str} {T : String} {pos : Pos} (hg : Gl X x) (hm : X.mg x = none) (hv : bootBuiltins x = some (.type T)) (hn : x ≠ "__name__") (hd : (x == ("__debug__" : Str)) = false) : PE X (.Name x pos) (tC (.ty T)) := pe_bltn hg hm hv rfl hn hd
abbrev sWhole : Stmt := top 7
abbrev sBetween : Stmt := top 8
abbrev sIsAlloc : Stmt := top 9
abbrev sTransf : Stmt := top 10
abbrev sIsAssign : Stmt := top 12
abbrev sCounts : Stmt := top 13
def spWhole : Sp := fun vs H Q _ => ∃ i : Int, vs = [.int i] ∧ Q (.bl true) H
def spBetween : Sp := fun vs H Q _ => ∃ i lo hi : Int, vs = [.int i, .int lo, .int hi] ∧ Q (.bl (decide (lo ≤ i ∧ i ≤ hi))) H
def spIsAlloc : Sp := fun vs H Q _ => ∃ (a : Addr) (ns : List Nat) (k n : Nat), vs = [.ref a, .int k, .int n] ∧ Tn H a ns ∧ ns.length = k ∧ ns.sum = n ∧ k ≤ 20 ∧ ∀ H', Same H H' → Q (.bl true) H'
def spTransf : Sp := fun vs H Q _ => ∃ (a b : Addr) (ns ms : List Nat), vs = [.ref a, .ref b] ∧ Tn H a ns ∧ Tn H b ms ∧ ns.length = ms.length ∧ ns.length ≤ 20 ∧ ∀ H', Same H H' → Q (.int (transf ns ms : Nat)) H'
def spIsAssign : Sp := fun vs H Q _ => ∃ (a : Addr) (row : List Nat) (k n : Nat), vs = [.ref a, .int k, .int n] ∧ Tn H a row ∧ row.length = n ∧ (∀ x ∈ row, x < k) ∧ n ≤ 20 ∧ ∀ H', Same H H' → Q (.bl true) H'
def cntsOf (row : List Nat) (k : Nat) : List Nat := (List.range k).map fun v => row.count v
def spCounts : Sp := fun vs H Q _ => ∃ (a : Addr) (row : List Nat) (k : Nat), vs = [.ref a, .int k] ∧ Tn H a row ∧ k ≤ 20 ∧ ∀ H' p, Same H H' → H p = none → Tn H' p (cntsOf row k) → Q (.ref p) H'
theorem nvs_map (l : List Nat) : nvs l = (l.map fun (x : Nat) => (x : Int)).map V.int := by simp [nvs]
theorem sum_ints (l : List Nat) : (l.map fun (x : Nat) => (x : Int)).sum = ((l.sum : Nat) : Int) := (sum_natCast l).symm
theorem bls_range (n : Nat) (f : Nat → Bool) : (List.range n).map (fun i => V.bl (f i)) = ((List.range n).map f).map V.bl := by simp
theorem ints_range (n : Nat) (f : Nat → Int) : (List.range n).map (fun i => V.int (f i)) = ((List.range n).map f).map V.int := by simp
theorem all_range {n : Nat} {f : Nat → Bool} (h : ∀ i, i < n → f i = true) : ((List.range n).map f).all id = true := by
  rw [List.all_eq_true]
  intro x hx
  obtain ⟨i, hi, rfl⟩ := List.mem_map.mp hx
  exact h i (by simpa using hi)
section
variable {P : Program} {w : World} {K : PySem.W.Frag} {mg : Str → Option Value} {base : Heap}
theorem scWhole : FnScope ["value"] ["value"] (defScope sWhole) := ⟨rfl, rfl, rfl, by decide +kernel, rfl, by decide +kernel, by decide +kernel⟩
theorem ok_whole {f : Addr} {fd : FuncData} (F : Fun K "is_whole" "is_whole" sWhole f fd) (N : Nm mg) : FnOk P w K mg base CX0 1 f fd ["value"] spWhole := by
  refine F.ok scWhole (fun vs H Q E h => ?_) (fun cdv A outer s H vs Q E hr h => ?_)
  · obtain ⟨i, rfl, _⟩ := h; rfl
  · obtain ⟨i, rfl, q⟩ := h
    refine ⟨_, (pss_one (ps_ret (pe_and (pe_callB call_isi rfl N.isi PyProof.Rows.boot_isinstance (pa_cons (pv 0) (pa_cons (pe_bty rfl N.int PyProof.Rows.boot_int (by decide) (by decide)) pa_nil))) (pe_one (pe_not (pe_callB call_isi rfl N.isi PyProof.Rows.boot_isinstance (pa_cons (pv 0) (pa_cons (pe_bty rfl N.bool PyProof.Rows.boot_bool (by decide) (by decide)) pa_nil)))))))), ?_⟩
    refine ⟨_, rfl, _, _, _, _, true, rfl, .ty _, .base (.int i), kit_ty (by decide +kernel), _, rfl, iteT ?_⟩
    exact ⟨_, rfl, _, _, _, _, false, rfl, .ty _, .base (.int i), kit_ty (by decide +kernel), _, rfl, q⟩
theorem scBetween : FnScope ["value", "low", "high"] ["value", "low", "high"] (defScope sBetween) := ⟨rfl, rfl, rfl, by decide +kernel, rfl, by decide +kernel, by decide +kernel⟩
theorem ok_between {f : Addr} {fd : FuncData} (F : Fun K "is_between" "is_between" sBetween f fd) (O1 : Ok P w K mg base "is_whole" ["value"] 1 spWhole) : FnOk P w K mg base CX0 2 f fd ["value", "low", "high"] spBetween := by
  refine F.ok scBetween (fun vs H Q E h => ?_) (fun cdv A outer s H vs Q E hr h => ?_)
  · obtain ⟨i, lo, hi, rfl, _⟩ := h; rfl
  · obtain ⟨i, lo, hi, rfl, q⟩ := h
    refine ⟨_, (pss_one (ps_ret (pe_and (pe_ok O1 hr rfl (pa_cons (pv 0) pa_nil)) (pe_one (pe_chain op_le op_le (pv 1) (pv 0) (pv 2)))))), ?_⟩
    refine ⟨_, rfl, i, rfl, _, rfl, iteT ?_⟩
    refine ⟨_, rfl, _, rfl, _, _, rfl, rfl, _, rfl, ?_⟩
    refine ite2 (fun c => ?_) (fun c => ?_)
    · refine ⟨_, rfl, _, _, rfl, rfl, ?_⟩
      have c' : lo ≤ i := of_decide_eq_true c
      have e : decide (lo ≤ i ∧ i ≤ hi) = decide (i ≤ hi) := by simp [c']
      rw [e] at q
      exact q
    · have c' : ¬ lo ≤ i := fun z => c (decide_eq_true z)
      have e : decide (lo ≤ i ∧ i ≤ hi) = false := by simp [c']
      rw [e] at q
      exact q
theorem scIsAlloc : FnScope ["value", "variants", "buckets", "share"] ["value", "variants", "buckets"] (defScope sIsAlloc) := ⟨rfl, rfl, rfl, by decide +kernel, rfl, by decide +kernel, by decide +kernel⟩
theorem ok_isAlloc {f : Addr} {fd : FuncData} (F : Fun K "is_allocation" "is_allocation" sIsAlloc f fd) (N : Nm mg) (O1 : Ok P w K mg base "is_whole" ["value"] 1 spWhole) : FnOk P w K mg base CX0 2 f fd ["value", "variants", "buckets"] spIsAlloc := by
  refine F.ok scIsAlloc (fun vs H Q E h => ?_) (fun cdv A outer s H vs Q E hr h => ?_)
  · obtain ⟨a, ns, k, n, rfl, _⟩ := h; rfl
  · obtain ⟨a, ns, k, n, rfl, hT, hk, hn, h20, q⟩ := h
    refine ⟨_, (pss_cons (ps_if (PW.pt (pw_or (pt_not (pt_val (pe_callB call_isi rfl N.isi PyProof.Rows.boot_isinstance (pa_cons (pv 0) (pa_cons (pe_bty rfl N.tup PyProof.Rows.boot_tuple (by decide) (by decide)) pa_nil))))) (pw_or1 (pt_cmpR op_ne ((pe_callB call_len_seq rfl N.len PySem.boot_len (pa_cons (pv 0) pa_nil))) (pv 1) (nomark _))))) (pss_one (ps_ret (pe_bl))) pss_nil) (pss_one (ps_ret (pe_and (pe_callB (cr_all rfl) rfl N.all (by decide +kernel) (pa_cons ((pe_lc (own := [("share", 3)]) (g := gName 3) (tt := tYes) rfl scIsAlloc.nd (pi_tup (pv 0)) (blkOk_by (N := ["value", "variants", "buckets", "share"]) (sc := defScope sIsAlloc) (by decide +kernel)) (fun _ _ _ _ _ => pg_name (i := 3) scIsAlloc.nd rfl (Or.inl rfl)) (fun _ _ _ _ _ => pts_nil) (fun _ _ _ _ _ => pe_and (pe_ok O1 hr rfl (pa_cons (pv 3) pa_nil)) (pe_one (pe_cmpR op_ge (pv 3) (pe_int) (nomark _)))))) pa_nil))
        (pe_one (pe_cmpR op_eq ((pe_callB (cr_sumT rfl) rfl N.sum (by decide +kernel) (pa_cons (pv 0) pa_nil))) (pv 2) (nomark _))))))), ?_⟩
    refine ⟨_, rfl, _, _, _, _, true, rfl, .ty _, hT.ty, kit_ty (by decide +kernel), _, rfl, iteF ?_⟩
    refine ⟨_, rfl, a, _, rfl, .inr hT.sq, _, rfl, rfl, _, rfl, ?_⟩
    refine iteNS (by rw [nvs_length, hk]) ?_
    refine ⟨_, rfl, a, rfl, ⟨_, hT.sq⟩, fun D hD => ?_⟩
    refine lc_map walk_tup (fun i => V.bl true) hD (by rw [nvs_length]; omega) (fun H' s => (hT.same s).sq) (fun i H x H' _ _ y => y.1 ▸ Same.refl _) (fun i x H1 H2 R hi s1 y s2 r => ?_) (fun H1 s1 e => ?_)
    · obtain ⟨rfl, e⟩ := y
      have hi' : i < ns.length := by rw [nvs_length] at hi; exact hi
      rw [nvs_get hi'] at e
      cases e
      refine ⟨rfl, _, rfl, _, rfl, _, rfl, iteT ?_⟩
      refine ⟨_, rfl, _, _, rfl, rfl, ?_⟩
      exact r _ _ (Same.refl _) (by simp)
    · refine ⟨D, (List.range (nvs ns).length).map (fun _ => true), rfl, SqL.of (by rw [e]; simp), _, rfl, ?_⟩
      rw [all_range fun _ _ => rfl]
      refine iteT ?_
      refine ⟨_, rfl, a, _, rfl, (by rw [← nvs_map]; exact (hT.same s1).sq), _, rfl, rfl, ?_⟩
      have e2 : decide (V.int (ns.map fun (x : Nat) => (x : Int)).sum = V.int (n : Int)) = true := decide_eq_true (by rw [sum_ints, hn])
      rw [e2]
      exact q _ s1
theorem scTransf : FnScope ["first", "second", "share", "other"] ["first", "second"] (defScope sTransf) := ⟨rfl, rfl, rfl, by decide +kernel, rfl, by decide +kernel, by decide +kernel⟩
theorem max0 (a b : Nat) : (if (a : Int) - b > 0 then (a : Int) - b else 0) = ((a - b : Nat) : Int) := by
  split <;> omega
theorem transf_sum {ns ms : List Nat} (h : ns.length = ms.length) : ((List.range ns.length).map fun i => ((sh ns i - sh ms i : Nat) : Int)).sum = ((transf ns ms : Nat) : Int) := by
  rw [transf_eq (k := ns.length) rfl h.symm, sum_natCast, List.map_map]; rfl
theorem ok_transf {f : Addr} {fd : FuncData} (F : Fun K "transfer_of" "transfer_of" sTransf f fd) (N : Nm mg) : FnOk P w K mg base CX0 1 f fd ["first", "second"] spTransf := by
  refine F.ok scTransf (fun vs H Q E h => ?_) (fun cdv A outer s H vs Q E hr h => ?_)
  · obtain ⟨a, b, ns, ms, rfl, _⟩ := h; rfl
  · obtain ⟨a, b, ns, ms, rfl, hA, hB, hl, h20, q⟩ := h
    refine ⟨_, (pss_one (ps_ret ((pe_callB (cr_sum rfl) rfl N.sum (by decide +kernel) (pa_cons ((pe_lc (own := [("share", 2), ("other", 3)]) (g := gTup K 2 (gCons (gName 2) (gCons (gName 3) gNil))) (tt := tYes) rfl scTransf.nd (pi_zipN rfl N.zip (pa_cons (pv 0) (pa_cons (pv 1) pa_nil))) (blkOk_by (N := ["first", "second", "share", "other"]) (sc := defScope sTransf) (by decide +kernel)) (fun _ _ _ _ _ => pg_tup rfl (pgs_cons (pg_name (i := 2) scTransf.nd rfl (Or.inl rfl)) (pgs_cons (pg_name (i := 3) scTransf.nd rfl (Or.inl rfl)) pgs_nil))) (fun _ _ _ _ _ => pts_nil) (fun _ _ _ _ _ => (pe_callB (call_max2 rfl) rfl N.max (by decide +kernel) (pa_cons (pe_int) (pa_cons ((pe_op op_sub (pv 2) (pv 3))) pa_nil)))))) pa_nil))))), ?_⟩
    refine ⟨_, rfl, _, rfl, [(a, false), (b, false)], rfl, by simp, by simp, (Srcs.two (Sq.t hA.sq) (Sq.t hB.sq)).ex, fun D hD => ?_⟩
    refine lc_map (walk_zip2 (n := ns.length) (nvs_length ns) (by rw [nvs_length, hl])) (fun i => V.int ((sh ns i - sh ms i : Nat) : Int)) hD (by omega) (fun H' s => Srcs.two (Sq.t (hA.same s).sq) (Sq.t (hB.same s).sq)) (fun i H x H' _ _ y => y.same) (fun i x H1 H2 R hi s1 y s2 r => ?_) (fun H1 s1 e => ?_)
    · obtain ⟨T, rfl, _, rfl⟩ := y.pair (nvs_sh hi) (nvs_sh (by omega))
      refine g_two rfl upd_same ?_
      refine ⟨rfl, _, rfl, _, rfl, _, _, rfl, rfl, _, _, rfl, ?_⟩
      rw [max0]
      exact r _ _ (Same.refl _) rfl
    · refine ⟨D, (List.range ns.length).map fun i => ((sh ns i - sh ms i : Nat) : Int), rfl, SqL.of (by rw [e, List.map_map]; rfl), ?_⟩
      rw [transf_sum hl]
      exact q _ s1
theorem scIsAssign : FnScope ["value", "variants", "buckets", "variant"] ["value", "variants", "buckets"] (defScope sIsAssign) := ⟨rfl, rfl, rfl, by decide +kernel, rfl, by decide +kernel, by decide +kernel⟩
theorem ok_isAssign {f : Addr} {fd : FuncData} (F : Fun K "is_assignment" "is_assignment" sIsAssign f fd) (N : Nm mg) (O1 : Ok P w K mg base "is_between" ["value", "low", "high"] 2 spBetween) : FnOk P w K mg base CX0 3 f fd ["value", "variants", "buckets"] spIsAssign := by
  refine F.ok scIsAssign (fun vs H Q E h => ?_) (fun cdv A outer s H vs Q E hr h => ?_)
  · obtain ⟨a, row, k, n, rfl, _⟩ := h; rfl
  · obtain ⟨a, row, k, n, rfl, hT, hn, hlt, h20, q⟩ := h
    refine ⟨_, (pss_cons (ps_if (PW.pt (pw_or (pt_not (pt_val (pe_callB call_isi rfl N.isi PyProof.Rows.boot_isinstance (pa_cons (pv 0) (pa_cons (pe_bty rfl N.tup PyProof.Rows.boot_tuple (by decide) (by decide)) pa_nil))))) (pw_or1 (pt_cmpR op_ne ((pe_callB call_len_seq rfl N.len PySem.boot_len (pa_cons (pv 0) pa_nil))) (pv 2) (nomark _))))) (pss_one (ps_ret (pe_bl))) pss_nil) (pss_one (ps_ret ((pe_callB (cr_all rfl) rfl N.all (by decide +kernel) (pa_cons ((pe_lc (own := [("variant", 3)]) (g := gName 3) (tt := tYes) rfl scIsAssign.nd (pi_tup (pv 0)) (blkOk_by (N := ["value", "variants", "buckets", "variant"]) (sc := defScope sIsAssign) (by decide +kernel)) (fun _ _ _ _ _ => pg_name (i := 3) scIsAssign.nd rfl (Or.inl rfl)) (fun _ _ _ _ _ => pts_nil) (fun _ _ _ _ _ => (pe_ok O1 hr rfl (pa_cons (pv 3) (pa_cons (pe_int) (pa_cons ((pe_op op_sub (pv 1) (pe_int))) pa_nil))))))) pa_nil)))))), ?_⟩
    refine ⟨_, rfl, _, _, _, _, true, rfl, .ty _, hT.ty, kit_ty (by decide +kernel), _, rfl, iteF ?_⟩
    refine ⟨_, rfl, a, _, rfl, .inr hT.sq, _, rfl, rfl, _, rfl, ?_⟩
    refine iteNS (by rw [nvs_length, hn]) ?_
    refine ⟨_, rfl, a, rfl, ⟨_, hT.sq⟩, fun D hD => ?_⟩
    refine lc_map walk_tup (fun i => V.bl true) hD (by rw [nvs_length]; omega) (fun H' s => (hT.same s).sq) (fun i H x H' _ _ y => y.1 ▸ Same.refl _) (fun i x H1 H2 R hi s1 y s2 r => ?_) (fun H1 s1 e => ?_)
    · obtain ⟨rfl, e⟩ := y
      have hi' : i < row.length := by rw [nvs_length] at hi; exact hi
      rw [nvs_get hi'] at e
      cases e
      have hx := hlt row[i] (List.getElem_mem hi')
      refine ⟨rfl, _, rfl, _, rfl, _, _, rfl, rfl, _, _, _, rfl, ?_⟩
      refine r _ _ (Same.refl _) ?_
      have z : (0 : Int) ≤ (row[i] : Nat) ∧ ((row[i] : Nat) : Int) ≤ (k : Int) - 1 := by omega
      rw [decide_eq_true z]
    · refine ⟨D, (List.range (nvs row).length).map (fun _ => true), rfl, SqL.of (by rw [e]; simp), ?_⟩
      rw [all_range fun _ _ => rfl]
      exact q _ s1
theorem scCounts : FnScope ["assignment", "variants", "variant"] ["assignment", "variants"] (defScope sCounts) := ⟨rfl, rfl, rfl, by decide +kernel, rfl, by decide +kernel, by decide +kernel⟩
theorem eqV_int (a b : Int) : eqV (.int a) (.int b) = decide (a = b) := by
  unfold eqV; rfl
theorem countP_row (row : List Nat) (v : Nat) : (nvs row).countP (fun z => eqV z (.int (v : Nat))) = row.count v := by
  unfold nvs List.count
  rw [List.countP_map]
  refine List.countP_congr fun x _ => ?_
  simp only [Function.comp, eqV_int, decide_eq_true_eq, beq_iff_eq]
  omega
theorem flat_nvs (row : List Nat) : (nvs row).all flatV = true := by
  unfold nvs
  rw [List.all_eq_true]
  intro x hx
  obtain ⟨y, _, rfl⟩ := List.mem_map.mp hx
  rfl
theorem ok_counts {f : Addr} {fd : FuncData} (F : Fun K "counts_of" "counts_of" sCounts f fd) (N : Nm mg) : FnOk P w K mg base CX0 1 f fd ["assignment", "variants"] spCounts := by
  refine F.ok scCounts (fun vs H Q E h => ?_) (fun cdv A outer s H vs Q E hr h => ?_)
  · obtain ⟨a, row, k, rfl, _⟩ := h; rfl
  · obtain ⟨a, row, k, rfl, hT, h20, q⟩ := h
    refine ⟨_, (pss_one (ps_ret ((pe_callTy call_tupleF rfl N.tup (by decide +kernel) (pa_cons ((pe_lc (own := [("variant", 2)]) (g := gName 2) (te := tBMF (rCountT K) (tVar 0) (tCons (tVar 2) tNil)) (tt := tYes) rfl scCounts.nd (pi_range1 rfl N.rng (pa_cons (pv 1) pa_nil)) (blkOk_by (N := ["assignment", "variants", "variant"]) (sc := defScope sCounts) (by decide +kernel)) (fun _ _ _ _ _ => pg_name (i := 2) scCounts.nd rfl (Or.inl rfl)) (fun _ _ _ _ _ => pts_nil) (fun _ _ _ _ _ => pe_bmF PySem.F.slot_tuple_count PySem.F.type_tuple_count mt_tcount (pv 0) (pa_cons (pv 2) pa_nil)))) pa_nil))))), ?_⟩
    refine ⟨_, rfl, (k : Int), rfl, by omega, by omega, fun D hD => ?_⟩
    refine lc_map walk_range (fun i => V.int (row.count i : Nat)) hD (by omega) (fun H' s => trivial) (fun i H x H' _ _ y => y.1 ▸ Same.refl _) (fun i x H1 H2 R hi s1 y s2 r => ?_) (fun H1 s1 e => ?_)
    · obtain ⟨rfl, rfl⟩ := y
      refine ⟨rfl, _, rfl, ⟨a, _, rfl, hT.same s1⟩, _, rfl, a, _, _, rfl, rfl, (hT.same s1).sq, rfl, flat_nvs row, ?_⟩
      refine r _ _ (Same.refl _) ?_
      show V.int (((nvs row).countP fun z => eqV z (V.int (0 + (i : Int))) : Nat) : Int) = V.int (row.count i : Nat)
      rw [Int.zero_add, countP_row]
    · refine ⟨D, _, rfl, SqL.of e, fun p o hp ho => ?_⟩
      refine q _ p (s1.trans (same_new hp _)) (s1.free hp) ⟨o, ho, ?_⟩
      rw [upd_same]
      simp [nvs, cntsOf]
end
end LW
end

section
set_option Elab.async false
set_option linter.all false
set_option autoImplicit false
set_option maxRecDepth 100000
namespace LW
open PySem L2 LM LX
/-! ### series, tables, needless moves -/
abbrev sIsSeries : Stmt := top 15
abbrev sChkSeries : Stmt := top 16
abbrev sIsTable : Stmt := top 17
abbrev sChkTable : Stmt := top 18
abbrev sNeedless : Stmt := top 19
abbrev sIsLeast : Stmt := top 20
/-- what the law builds -/
structure Gd (k n : Nat) (rows : List (List Nat)) : Prop where
  al : Alike k n rows
  k1 : 1 ≤ k
  k4 : k ≤ 4
  n4 : n ≤ 4
  r1 : 1 ≤ rows.length
  r6 : rows.length ≤ 6
theorem Gd.at_ {k n : Nat} {rows : List (List Nat)} (g : Gd k n rows) {i : Nat} {r : List Nat} (h : rows[i]? = some r) : r.length = k ∧ r.sum = n := g.al.all r (List.mem_of_getElem? h)
theorem Gd.hd {k n : Nat} {rows : List (List Nat)} (g : Gd k n rows) : ∃ r rest, rows = r :: rest ∧ r.length = k ∧ r.sum = n := by
  cases rows with
  | nil => have := g.r1; simp at this
  | cons r rest => exact ⟨r, rest, rfl, g.al.all r (by simp)⟩
theorem le_sum {l : List Nat} {i : Nat} (h : i < l.length) : l[i] ≤ l.sum := by
  induction l generalizing i with
  | nil => simp at h
  | cons a r ih =>
    cases i with
    | zero => simp
    | succ i => have := ih (i := i) (by simpa using h); simp; omega
def spIsSeries : Sp := fun vs H Q _ => ∃ (A : Addr) (rows : List (List Nat)) (k n most : Nat), vs = [.ref A, .int most] ∧ Tt H A rows ∧ Gd k n rows ∧ rows.length ≤ most ∧ ∀ H', Same H H' → Q (.bl true) H'
def spChkSeries : Sp := fun vs H Q _ => ∃ (A : Addr) (rows : List (List Nat)) (k n most : Nat), vs = [.ref A, .int most] ∧ Tt H A rows ∧ Gd k n rows ∧ rows.length ≤ most ∧ ∀ H', Same H H' → Q .non H'
def TblOk (k n : Nat) (rows tbl : List (List Nat)) : Prop := tbl.length = rows.length ∧ ∀ (i : Nat) (a r : List Nat), rows[i]? = some a → tbl[i]? = some r → RowOk k n a r
def spIsTable : Sp := fun vs H Q _ => ∃ (A B : Addr) (rows tbl : List (List Nat)) (k n : Nat), vs = [.ref A, .ref B] ∧ Tt H A rows ∧ Tt H B tbl ∧ Gd k n rows ∧ TblOk k n rows tbl ∧ ∀ H', Same H H' → Q (.bl true) H'
def spChkTable : Sp := fun vs H Q _ => ∃ (A B : Addr) (z : Str) (rows tbl : List (List Nat)) (k n : Nat), vs = [.ref A, .ref B, .str z] ∧ Tt H A rows ∧ Tt H B tbl ∧ Gd k n rows ∧ TblOk k n rows tbl ∧ ∀ H', Same H H' → Q .non H'
/-- a move that is not needless -/
def Fair (ns ms : List Nat) (x y : Nat) : Prop := x ≠ y → sh ms x < sh ns x ∧ sh ns y < sh ms y
def spNeedless : Sp := fun vs H Q _ => ∃ (a b : Addr) (ns ms : List Nat) (x y : Nat), vs = [.ref a, .ref b, .int x, .int y] ∧ Tn H a ns ∧ Tn H b ms ∧ x < ns.length ∧ y < ns.length ∧ ns.length = ms.length ∧ Fair ns ms x y ∧ Q (.bl false) H
def spIsLeast : Sp := fun vs H Q _ => ∃ (a b c d : Addr) (ns ms row new : List Nat), vs = [.ref a, .ref b, .ref c, .ref d] ∧ Tn H a ns ∧ Tn H b ms ∧ Tn H c row ∧ Tn H d new ∧ ns.length = ms.length ∧ row.length = new.length ∧ row.length ≤ 20 ∧
  (∀ i, i < row.length → sh row i < ns.length ∧ sh new i < ns.length ∧ Fair ns ms (sh row i) (sh new i)) ∧ ∀ H', Same H H' → Q (.bl true) H'
theorem cntsOf_eq {k n : Nat} {a r : List Nat} (R : RowOk k n a r) : cntsOf r k = a := by
  unfold cntsOf
  refine List.ext_getElem (by simp [R.al]) fun i h1 h2 => ?_
  have hi : i < k := by simpa using h1
  rw [List.getElem_map, List.getElem_range, R.cnt i hi]
  simp [sh, List.getD_eq_getElem?_getD, h2]
section
variable {P : Program} {w : World} {K : PySem.W.Frag} {mg : Str → Option Value} {base : Heap}
theorem scIsSeries : FnScope ["value", "most", "buckets", "one"] ["value", "most"] (defScope sIsSeries) := ⟨rfl, rfl, rfl, by decide +kernel, rfl, by decide +kernel, by decide +kernel⟩
theorem ok_isSeries {f : Addr} {fd : FuncData} (F : Fun K "is_series" "is_series" sIsSeries f fd) (N : Nm mg) (c1 : Ci mg "MOST_VARIANTS" 5) (c2 : Ci mg "MOST_BUCKETS" 20) (O1 : Ok P w K mg base "is_between" ["value", "low", "high"] 2 spBetween)
    (O2 : Ok P w K mg base "is_allocation" ["value", "variants", "buckets"] 2 spIsAlloc) : FnOk P w K mg base CX0 3 f fd ["value", "most"] spIsSeries := by
  refine F.ok scIsSeries (fun vs H Q E h => ?_) (fun cdv A outer s H vs Q E hr h => ?_)
  · obtain ⟨A, rows, k, n, most, rfl, _⟩ := h; rfl
  · obtain ⟨A, rows, k, n, most, rfl, ⟨as, hA, hR⟩, g, hm, q⟩ := h
    refine ⟨_, (pss_cons (ps_if (PW.pt (pw_or (pt_not (pt_val (pe_callB call_isi rfl N.isi PyProof.Rows.boot_isinstance (pa_cons (pv 0) (pa_cons (pe_bty rfl N.tup PyProof.Rows.boot_tuple (by decide) (by decide)) pa_nil))))) (pw_or (pt_not (pt_chain op_le op_le pe_int (pe_callB (call_lenK (K := K) rfl) rfl N.len PySem.boot_len (pa_cons (pv 0) pa_nil)) (pv 1))) (pw_or1 (pt_not (pt_val (pe_callB call_isi rfl N.isi PyProof.Rows.boot_isinstance (pa_cons ((pe_ix (ix_tupK (K := K) rfl) (pv 0) (pe_int) (fun _ _ => rfl))) (pa_cons (pe_bty rfl N.tup PyProof.Rows.boot_tuple (by decide) (by decide)) pa_nil))))))))) (pss_one (ps_ret (pe_bl))) pss_nil) (pss_cons (ps_if (PW.pt (pw_or (pt_not (pt_chain op_le op_le pe_int (pe_callB (call_lenK (K := K) rfl) rfl N.len PySem.boot_len (pa_cons ((pe_ix (ix_tupK (K := K) rfl) (pv 0) (pe_int) (fun _ _ => rfl))) pa_nil)) (pe_gi rfl c1))) (pw_or1 (pt_not (pt_val (pe_callB (cr_all rfl) rfl N.all (by decide +kernel) (pa_cons ((pe_lc (own := [("one", 3)]) (g := gName 3) (tt := tYes) rfl scIsSeries.nd (pi_tup ((pe_ix (ix_tupK (K := K) rfl) (pv 0) (pe_int) (fun _ _ => rfl)))) (blkOk_by (N := ["value", "most", "buckets", "one"]) (sc := defScope sIsSeries) (by decide +kernel)) (fun _ _ _ _ _ => pg_name (i := 3) scIsSeries.nd rfl (Or.inl rfl)) (fun _ _ _ _ _ => pts_nil) (fun _ _ _ _ _ => (pe_ok O1 hr rfl (pa_cons (pv 3) (pa_cons (pe_int) (pa_cons (pe_gi rfl c2) pa_nil))))))) pa_nil))))))) (pss_one (ps_ret (pe_bl))) pss_nil) (pss_cons (ps_set (i := 2) scIsSeries.nd rfl (Or.inr rfl) ((pe_callB (cr_sumTK (K := K) rfl rfl) rfl N.sum (by decide +kernel) (pa_cons ((pe_ix (ix_tupK (K := K) rfl) (pv 0) (pe_int) (fun _ _ => rfl))) pa_nil)))) (pss_one (ps_ret (pe_and (pe_cmpR (op_le) (pv 2) (pe_gi rfl c2) (nomark _)) (pe_one (pe_callB (cr_all rfl) rfl N.all (by decide +kernel) (pa_cons ((pe_lc (own := [("one", 3)]) (g := gName 3) (tt := tYes) rfl scIsSeries.nd (pi_tup (pv 0)) (blkOk_by (N := ["value", "most", "buckets", "one"]) (sc := defScope sIsSeries) (by decide +kernel)) (fun _ _ _ _ _ => pg_name (i := 3) scIsSeries.nd rfl (Or.inl rfl)) (fun _ _ _ _ _ => pts_nil) (fun _ _ _ _ _ => (pe_ok O2 hr rfl (pa_cons (pv 3) (pa_cons ((pe_callB (call_lenK (K := K) rfl) rfl N.len PySem.boot_len (pa_cons ((pe_ix (ix_tupK (K := K) rfl) (pv 0) (pe_int) (fun _ _ => rfl))) pa_nil))) (pa_cons (pv 2) pa_nil))))))) pa_nil))))))))), ?_⟩
    obtain ⟨a0, rest, rfl, hk, hn⟩ := g.hd
    obtain ⟨p0, as', rfl, hT0, hR'⟩ := hR.uncons
    have sA : ∀ {H'}, Same H H' → SqT K H' A (rfs (p0 :: as')) := fun s => SqT.of (s _ _ hA)
    have at0 : atI (rfs (p0 :: as')) 0 = some (.ref p0) := atI_nat (j := 0) rfl
    have g1 := g.k1
    have g2 := g.k4
    have g3 := g.n4
    have g5 := g.r6
    have lA : (rfs (p0 :: as')).length = (a0 :: rest).length := by rw [rfs_length, hR.len]
    refine ⟨_, rfl, _, _, _, _, true, rfl, .ty _, .base (.tup hA), kit_ty (by decide +kernel), _, rfl, iteF ?_⟩
    refine ⟨_, rfl, A, _, rfl, .inr (sA (Same.refl _)), _, _, rfl, rfl, _, rfl, ?_⟩
    refine ite2 (fun c => ?_) (fun c => absurd (decide_eq_true (by rw [lA, List.length_cons]; omega)) c)
    refine ⟨_, rfl, _, _, rfl, rfl, _, rfl, ?_⟩
    have e1 : decide ((((rfs (p0 :: as')).length : Nat) : Int) ≤ (most : Int)) = true := decide_eq_true (by rw [lA]; omega)
    rw [e1]
    refine iteF ?_
    refine ⟨_, rfl, A, _, _, _, rfl, rfl, sA (Same.refl _), at0, _, _, _, _, true, rfl, .ty _, hT0.ty, kit_ty (by decide +kernel), _, rfl, iteF ?_⟩
    -- the first allocation
    refine ⟨_, rfl, A, _, _, _, rfl, rfl, sA (Same.refl _), at0, p0, _, rfl, .inr hT0.sq, _, _, rfl, rfl, _, rfl, ?_⟩
    refine ite2 (fun c => ?_) (fun c => absurd (decide_eq_true (by rw [nvs_length, hk]; omega)) c)
    refine ⟨_, _, rfl, rfl, _, rfl, ?_⟩
    have e2 : decide ((((nvs a0).length : Nat) : Int) ≤ (5 : Int)) = true := decide_eq_true (by rw [nvs_length, hk]; omega)
    rw [e2]
    refine iteF ?_
    refine ⟨_, rfl, A, _, _, _, rfl, rfl, sA (Same.refl _), at0, p0, rfl, ⟨_, hT0.sq⟩, fun D hD => ?_⟩
    refine lc_map walk_tup (fun i => V.bl true) hD (by rw [nvs_length]; omega) (fun H' s => (hT0.same s).sq) (fun i H x H' _ _ y => y.1 ▸ Same.refl _) (fun i x H1 H2 R hi s1 y s2 r => ?_) (fun H1 s1 e => ?_)
    · obtain ⟨rfl, e⟩ := y
      have hi' : i < a0.length := by rw [nvs_length] at hi; exact hi
      rw [nvs_get hi'] at e
      cases e
      refine ⟨rfl, _, rfl, _, _, _, rfl, r _ _ (Same.refl _) ?_⟩
      have := le_sum hi'
      have z : (0 : Int) ≤ (a0[i] : Nat) ∧ ((a0[i] : Nat) : Int) ≤ 20 := by omega
      rw [decide_eq_true z]
    · refine ⟨D, (List.range (nvs a0).length).map (fun _ => true), rfl, SqL.of (by rw [e, List.map_map]; rfl), ?_⟩
      rw [all_range fun _ _ => rfl]
      refine ⟨_, rfl, iteF ?_⟩
      refine ⟨_, rfl, A, _, _, _, rfl, rfl, sA s1, at0, p0, _, rfl, (by rw [← nvs_map]; exact (hT0.same s1).sq), ?_⟩
      rw [sum_ints, hn]
      refine ⟨_, rfl, _, _, rfl, rfl, _, rfl, ?_⟩
      refine ite2 (fun c => ?_) (fun c => absurd (decide_eq_true (by omega)) c)
      refine ⟨_, rfl, A, rfl, ⟨_, sA s1⟩, fun D2 hD2 => ?_⟩
      refine lc_map walk_tup (fun i => V.bl true) hD2 (by rw [lA]; omega) (fun H' s => sA (s1.trans s)) (fun i H x H' _ _ y => y.1 ▸ Same.refl _) (fun i x H3 H4 R hi s3 y s4 r => ?_) (fun H3 s3 e3 => ?_)
      · obtain ⟨rfl, e4⟩ := y
        have hi' : i < (a0 :: rest).length := by rw [lA] at hi; exact hi
        obtain ⟨a, ha, hTa⟩ := hR.get hi'
        rw [rfs_get ha] at e4
        cases e4
        obtain ⟨q1, q2⟩ := g.al.all _ (List.getElem_mem hi')
        have s5 := s1.trans s3
        refine ⟨rfl, _, rfl, _, rfl, A, _, _, _, rfl, rfl, sA s5, at0, p0, _, rfl, .inr (hT0.same s5).sq, _, rfl, a, _, k, n, (by rw [nvs_length, hk]; rfl), hTa.same s5, q1, q2, by omega, fun H5 s6 => r _ _ s6 rfl⟩
      · refine ⟨D2, (List.range (rfs (p0 :: as')).length).map (fun _ => true), rfl, SqL.of (by rw [e3, List.map_map]; rfl), ?_⟩
        rw [all_range fun _ _ => rfl]
        exact q _ (s1.trans s3)
theorem scChkSeries : FnScope ["allocations", "most"] ["allocations", "most"] (defScope sChkSeries) := ⟨rfl, rfl, rfl, by decide +kernel, rfl, by decide +kernel, by decide +kernel⟩
theorem ok_chkSeries {f : Addr} {fd : FuncData} (F : Fun K "check_series" "check_series" sChkSeries f fd) (O1 : Ok P w K mg base "is_series" ["value", "most"] 3 spIsSeries) : FnOk P w K mg base CX0 4 f fd ["allocations", "most"] spChkSeries := by
  refine F.ok scChkSeries (fun vs H Q E h => ?_) (fun cdv A outer s H vs Q E hr h => ?_)
  · obtain ⟨A, rows, k, n, most, rfl, _⟩ := h; rfl
  · obtain ⟨A, rows, k, n, most, rfl, hA, g, hm, q⟩ := h
    refine ⟨_, pss_one (ps_if (pt_not (pt_val (pe_ok O1 hr rfl (pa_cons (pv 0) (pa_cons (pv 1) pa_nil))))) (pss_one ps_never) pss_nil), ?_⟩
    exact ⟨_, rfl, _, rfl, A, rows, k, n, most, rfl, hA, g, hm, fun H' s' => ⟨_, rfl, iteF (q _ s')⟩⟩
theorem scIsTable : FnScope ["allocations", "value", "variants", "one", "allocation"] ["allocations", "value"] (defScope sIsTable) := ⟨rfl, rfl, rfl, by decide +kernel, rfl, by decide +kernel, by decide +kernel⟩
theorem ok_isTable {f : Addr} {fd : FuncData} (F : Fun K "is_table" "is_table" sIsTable f fd) (N : Nm mg) (O1 : Ok P w K mg base "is_assignment" ["value", "variants", "buckets"] 3 spIsAssign)
    (O2 : Ok P w K mg base "counts_of" ["assignment", "variants"] 1 spCounts) : FnOk P w K mg base CX0 4 f fd ["allocations", "value"] spIsTable := by
  refine F.ok scIsTable (fun vs H Q E h => ?_) (fun cdv A outer s H vs Q E hr h => ?_)
  · obtain ⟨A, B, rows, tbl, k, n, rfl, _⟩ := h; rfl
  · obtain ⟨A, B, rows, tbl, k, n, rfl, ⟨as, hA, hR⟩, ⟨bs, hB, hS⟩, g, ⟨tl, tb⟩, q⟩ := h
    have hr1 : Room 1 _ := hr.mono (by decide)
    refine ⟨_, (pss_cons (ps_if (PW.pt (pw_or (pt_not (pt_val (pe_callB call_isi rfl N.isi PyProof.Rows.boot_isinstance (pa_cons (pv 1) (pa_cons (pe_bty rfl N.tup PyProof.Rows.boot_tuple (by decide) (by decide)) pa_nil))))) (pw_or1 (pt_cmpR (op_ne) ((pe_callB (call_lenK (K := K) rfl) rfl N.len PySem.boot_len (pa_cons (pv 1) pa_nil))) ((pe_callB (call_lenK (K := K) rfl) rfl N.len PySem.boot_len (pa_cons (pv 0) pa_nil))) (nomark _))))) (pss_one (ps_ret (pe_bl))) pss_nil) (pss_cons (ps_set (i := 2) scIsTable.nd rfl (Or.inr rfl) ((pe_callB (call_lenK (K := K) rfl) rfl N.len PySem.boot_len (pa_cons ((pe_ix (ix_tupK (K := K) rfl) (pv 0) (pe_int) (fun _ _ => rfl))) pa_nil)))) (pss_cons (ps_if (pt_not (pt_val (pe_callB (cr_all rfl) rfl N.all (by decide +kernel) (pa_cons ((pe_lc (own := [("one", 3)]) (g := gName 3) (tt := tYes) rfl scIsTable.nd (pi_tup (pv 1)) (blkOk_by (N := ["allocations", "value", "variants", "one", "allocation"]) (sc := defScope sIsTable) (by decide +kernel)) (fun _ _ _ _ _ => pg_name (i := 3) scIsTable.nd rfl (Or.inl rfl)) (fun _ _ _ _ _ => pts_nil) (fun _ _ _ _ _ => (pe_ok O1 hr rfl (pa_cons (pv 3) (pa_cons (pv 2) (pa_cons ((pe_callB (cr_sumTK (K := K) rfl rfl) rfl N.sum (by decide +kernel) (pa_cons ((pe_ix (ix_tupK (K := K) rfl) (pv 0) (pe_int) (fun _ _ => rfl))) pa_nil))) pa_nil))))))) pa_nil)))) (pss_one (ps_ret (pe_bl))) pss_nil) (pss_one (ps_ret ((pe_callB (cr_all rfl) rfl N.all (by decide +kernel) (pa_cons ((pe_lc (own := [("one", 3), ("allocation", 4)]) (g := gTup K 2 (gCons (gName 3) (gCons (gName 4) gNil))) (tt := tYes) rfl scIsTable.nd (pi_zipN rfl N.zip (pa_cons (pv 1) (pa_cons (pv 0) pa_nil))) (blkOk_by (N := ["allocations", "value", "variants", "one", "allocation"]) (sc := defScope sIsTable) (by decide +kernel)) (fun _ _ _ _ _ => pg_tup rfl (pgs_cons (pg_name (i := 3) scIsTable.nd rfl (Or.inl rfl)) (pgs_cons (pg_name (i := 4) scIsTable.nd rfl (Or.inl rfl)) pgs_nil))) (fun _ _ _ _ _ => pts_nil) (fun _ _ _ _ _ => (pe_cmpR (op_eqDK (K := K) rfl hr.units) ((pe_ok O2 hr1 rfl (pa_cons (pv 3) (pa_cons (pv 2) pa_nil)))) (pv 4) (nomark _))))) pa_nil)))))))), ?_⟩
    obtain ⟨a0, rest, rfl, hk, hn⟩ := g.hd
    obtain ⟨p0, as', rfl, hT0, hR'⟩ := hR.uncons
    have sA : ∀ {H'}, Same H H' → SqT K H' A (rfs (p0 :: as')) := fun s => SqT.of (s _ _ hA)
    have sB : ∀ {H'}, Same H H' → SqT K H' B (rfs bs) := fun s => SqT.of (s _ _ hB)
    have at0 : atI (rfs (p0 :: as')) 0 = some (.ref p0) := atI_nat (j := 0) rfl
    have g2 := g.k4
    have g3 := g.n4
    have g5 := g.r6
    have lA : (rfs (p0 :: as')).length = (a0 :: rest).length := by rw [rfs_length, hR.len]
    have lB : (rfs bs).length = (a0 :: rest).length := by rw [rfs_length, hS.len, tl]
    refine ⟨_, rfl, _, _, _, _, true, rfl, .ty _, .base (.tup hB), kit_ty (by decide +kernel), _, rfl, iteF ?_⟩
    refine ⟨_, rfl, B, _, rfl, .inr (sB (Same.refl _)), _, rfl, A, _, rfl, .inr (sA (Same.refl _)), rfl, _, rfl, ?_⟩
    refine iteNS (by rw [lA, lB]) ?_
    refine ⟨_, rfl, A, _, _, _, rfl, rfl, sA (Same.refl _), at0, p0, _, rfl, .inr hT0.sq, ?_⟩
    rw [nvs_length, hk]
    refine ⟨_, rfl, B, rfl, ⟨_, sB (Same.refl _)⟩, fun D hD => ?_⟩
    refine lc_map walk_tup (fun i => V.bl true) hD (by rw [lB]; omega) (fun H' s => sB s) (fun i H x H' _ _ y => y.1 ▸ Same.refl _) (fun i x H1 H2 R hi s1 y s2 r => ?_) (fun H1 s1 e => ?_)
    · obtain ⟨rfl, e4⟩ := y
      have hi' : i < tbl.length := by rw [lB, ← tl] at hi; exact hi
      obtain ⟨b, hb, hTb⟩ := hS.get hi'
      rw [rfs_get hb] at e4
      cases e4
      have hi2 : i < (a0 :: rest).length := by omega
      have Rk := tb i _ _ (List.getElem?_eq_getElem hi2) (List.getElem?_eq_getElem hi')
      refine ⟨rfl, _, rfl, _, rfl, _, rfl, A, _, _, _, rfl, rfl, sA s1, at0, p0, _, rfl, (by rw [← nvs_map]; exact (hT0.same s1).sq), b, _, k, n, ?_, hTb.same s1, Rk.len, Rk.lt, by omega, fun H5 s6 => r _ _ s6 rfl⟩
      rw [sum_ints, hn]
      rfl
    · refine ⟨D, (List.range (rfs bs).length).map (fun _ => true), rfl, SqL.of (by rw [e, List.map_map]; rfl), ?_⟩
      rw [all_range fun _ _ => rfl]
      refine ⟨_, rfl, iteF ?_⟩
      refine ⟨_, rfl, _, rfl, [(B, false), (A, false)], rfl, by simp, by simp, (Srcs.two (Sq.t (sB s1)) (Sq.t (sA s1))).ex, fun D2 hD2 => ?_⟩
      refine lc_map (walk_zip2 lB lA) (fun i => V.bl true) hD2 (by omega) (fun H' s => Srcs.two (Sq.t (sB (s1.trans s))) (Sq.t (sA (s1.trans s)))) (fun i H x H' _ _ y => y.same) (fun i x H3 H4 R hi s3 y s4 r => ?_) (fun H3 s3 e3 => ?_)
      · have hi' : i < tbl.length := by omega
        obtain ⟨b, hb, hTb⟩ := hS.get hi'
        obtain ⟨a, ha, hTa⟩ := hR.get hi
        have Rk := tb i _ _ (List.getElem?_eq_getElem hi) (List.getElem?_eq_getElem hi')
        obtain ⟨T, rfl, _, rfl⟩ := y.pair (rfs_get hb) (rfs_get ha)
        refine g_two rfl upd_same ?_
        have s5 := s1.trans s4
        refine ⟨rfl, _, rfl, _, rfl, b, _, k, rfl, hTb.same s5, by omega, fun H5 p s6 _ hp => ?_⟩
        rw [cntsOf_eq Rk] at hp
        refine ⟨_, rfl, _, _, hp.dp, ((hTa.same s5).same s6).dp, dNs_shaped _, dNs_shaped _, r _ _ s6 ?_⟩
        rw [dNs_eqv]
      · refine ⟨D2, (List.range (a0 :: rest).length).map (fun _ => true), rfl, SqL.of (by rw [e3, List.map_map]; rfl), ?_⟩
        rw [all_range fun _ _ => rfl]
        exact q _ (s1.trans s3)
theorem scChkTable : FnScope ["allocations", "value", "name"] ["allocations", "value", "name"] (defScope sChkTable) := ⟨rfl, rfl, rfl, by decide +kernel, rfl, by decide +kernel, by decide +kernel⟩
theorem ok_chkTable {f : Addr} {fd : FuncData} (F : Fun K "check_table" "check_table" sChkTable f fd) (O1 : Ok P w K mg base "is_table" ["allocations", "value"] 4 spIsTable) : FnOk P w K mg base CX0 5 f fd ["allocations", "value", "name"] spChkTable := by
  refine F.ok scChkTable (fun vs H Q E h => ?_) (fun cdv A outer s H vs Q E hr h => ?_)
  · obtain ⟨A, B, z, rows, tbl, k, n, rfl, _⟩ := h; rfl
  · obtain ⟨A, B, z, rows, tbl, k, n, rfl, hA, hB, g, tb, q⟩ := h
    refine ⟨_, pss_one (ps_if (pt_not (pt_val (pe_ok O1 hr rfl (pa_cons (pv 0) (pa_cons (pv 1) pa_nil))))) (pss_one ps_never) pss_nil), ?_⟩
    exact ⟨_, rfl, _, rfl, A, B, rows, tbl, k, n, rfl, hA, hB, g, tb, fun H' s' => ⟨_, rfl, iteF (q _ s')⟩⟩
theorem scNeedless : FnScope ["before", "behind", "old", "new"] ["before", "behind", "old", "new"] (defScope sNeedless) := ⟨rfl, rfl, rfl, by decide +kernel, rfl, by decide +kernel, by decide +kernel⟩
theorem ok_needless {f : Addr} {fd : FuncData} (F : Fun K "is_needless" "is_needless" sNeedless f fd) : FnOk P w K mg base CX0 1 f fd ["before", "behind", "old", "new"] spNeedless := by
  refine F.ok scNeedless (fun vs H Q E h => ?_) (fun cdv A outer s H vs Q E hr h => ?_)
  · obtain ⟨a, b, ns, ms, x, y, rfl, _⟩ := h; rfl
  · obtain ⟨a, b, ns, ms, x, y, rfl, hA, hB, hx, hy, hl, fair, q⟩ := h
    refine ⟨_, (pss_one (ps_ret (pe_and (pe_cmpR (op_ne) (pv 2) (pv 3) (nomark _)) (pe_one (pe_or (pe_cmpR (op_ge) ((pe_ix (ix_tupK (K := K) rfl) (pv 1) (pv 2) (fun _ _ => rfl))) ((pe_ix (ix_tupK (K := K) rfl) (pv 0) (pv 2) (fun _ _ => rfl))) (nomark _)) (pe_one (pe_cmpR (op_le) ((pe_ix (ix_tupK (K := K) rfl) (pv 1) (pv 3) (fun _ _ => rfl))) ((pe_ix (ix_tupK (K := K) rfl) (pv 0) (pv 3) (fun _ _ => rfl))) (nomark _)))))))), ?_⟩
    refine ⟨_, rfl, _, rfl, rfl, _, rfl, ?_⟩
    by_cases e : x = y
    · have e1 : (!decide (V.int (x : Int) = V.int (y : Int))) = false := by rw [e]; simp
      rw [e1]
      exact iteF q
    · have e1 : (!decide (V.int (x : Int) = V.int (y : Int))) = true := by
        have : ¬ (x : Int) = y := by omega
        simp [this]
      rw [e1]
      refine iteT ?_
      obtain ⟨f1, f2⟩ := fair e
      refine ⟨_, rfl, _, rfl, b, _, _, _, rfl, rfl, hB.sq, nvs_at (by omega), _, rfl, _, rfl, a, _, _, _, rfl, rfl, hA.sq, nvs_at hx, _, _, rfl, rfl, _, rfl, ?_⟩
      have e2 : decide (((sh ms x : Nat) : Int) ≥ ((sh ns x : Nat) : Int)) = false := by simp; omega
      rw [e2]
      refine iteF ?_
      refine ⟨_, rfl, _, rfl, b, _, _, _, rfl, rfl, hB.sq, nvs_at (by omega), _, rfl, _, rfl, a, _, _, _, rfl, rfl, hA.sq, nvs_at hy, _, _, rfl, rfl, ?_⟩
      have e3 : decide (((sh ms y : Nat) : Int) ≤ ((sh ns y : Nat) : Int)) = false := by simp; omega
      show Q (V.bl (decide (((sh ms y : Nat) : Int) ≤ ((sh ns y : Nat) : Int)))) H
      rw [e3]
      exact q
theorem any_range {n : Nat} {f : Nat → Bool} (h : ∀ i, i < n → f i = false) : ((List.range n).map f).any id = false := by
  rw [List.any_eq_false]
  intro x hx
  obtain ⟨i, hi, rfl⟩ := List.mem_map.mp hx
  simp [h i (by simpa using hi)]
theorem scIsLeast : FnScope ["before", "behind", "assignment", "other", "old", "new"] ["before", "behind", "assignment", "other"] (defScope sIsLeast) := ⟨rfl, rfl, rfl, by decide +kernel, rfl, by decide +kernel, by decide +kernel⟩
theorem ok_isLeast {f : Addr} {fd : FuncData} (F : Fun K "is_least" "is_least" sIsLeast f fd) (N : Nm mg) (O1 : Ok P w K mg base "is_needless" ["before", "behind", "old", "new"] 1 spNeedless) : FnOk P w K mg base CX0 2 f fd ["before", "behind", "assignment", "other"] spIsLeast := by
  refine F.ok scIsLeast (fun vs H Q E h => ?_) (fun cdv A outer s H vs Q E hr h => ?_)
  · obtain ⟨a, b, c, d, ns, ms, row, new, rfl, _⟩ := h; rfl
  · obtain ⟨a, b, c, d, ns, ms, row, new, rfl, hA, hB, hC, hD, hl, hl2, h20, fair, q⟩ := h
    refine ⟨_, (pss_one (ps_ret (pe_not (pe_callB (cr_any rfl) rfl N.any (by decide +kernel) (pa_cons ((pe_lc (own := [("old", 4), ("new", 5)]) (g := gTup K 2 (gCons (gName 4) (gCons (gName 5) gNil))) (tt := tYes) rfl scIsLeast.nd (pi_zipN rfl N.zip (pa_cons (pv 2) (pa_cons (pv 3) pa_nil))) (blkOk_by (N := ["before", "behind", "assignment", "other", "old", "new"]) (sc := defScope sIsLeast) (by decide +kernel)) (fun _ _ _ _ _ => pg_tup rfl (pgs_cons (pg_name (i := 4) scIsLeast.nd rfl (Or.inl rfl)) (pgs_cons (pg_name (i := 5) scIsLeast.nd rfl (Or.inl rfl)) pgs_nil))) (fun _ _ _ _ _ => pts_nil) (fun _ _ _ _ _ => (pe_ok O1 hr rfl (pa_cons (pv 0) (pa_cons (pv 1) (pa_cons (pv 4) (pa_cons (pv 5) pa_nil)))))))) pa_nil))))), ?_⟩
    refine ⟨_, rfl, _, rfl, [(c, false), (d, false)], rfl, by simp, by simp, (Srcs.two (Sq.t hC.sq) (Sq.t hD.sq)).ex, fun D hDD => ?_⟩
    refine lc_map (walk_zip2 (n := row.length) (nvs_length row) (by rw [nvs_length, hl2])) (fun i => V.bl false) hDD (by omega) (fun H' s => Srcs.two (Sq.t (hC.same s).sq) (Sq.t (hD.same s).sq)) (fun i H x H' _ _ y => y.same) (fun i x H1 H2 R hi s1 y s2 r => ?_) (fun H1 s1 e => ?_)
    · obtain ⟨f1, f2, f3⟩ := fair i hi
      obtain ⟨T, rfl, _, rfl⟩ := y.pair (nvs_sh hi) (nvs_sh (by omega))
      refine g_two rfl upd_same ?_
      refine ⟨rfl, _, rfl, _, rfl, _, rfl, _, rfl, a, b, ns, ms, _, _, rfl, hA.same s2, hB.same s2, f1, f2, hl, f3, r _ _ (Same.refl _) rfl⟩
    · refine ⟨D, (List.range row.length).map (fun _ => false), rfl, SqL.of (by rw [e, List.map_map]; rfl), ?_⟩
      rw [any_range fun _ _ => rfl]
      exact ⟨_, rfl, q _ s1⟩
end
end LW
end

section
set_option Elab.async false
set_option linter.all false
set_option autoImplicit false
set_option maxRecDepth 100000
namespace LW
open PySem L2 LM LX
/-! ### steps, totals, decreases -/
abbrev sSteps : Stmt := top 25
abbrev sTotalOf : Stmt := top 26
abbrev sTotal : Stmt := top 27
abbrev sDecs : Stmt := top 28
abbrev sOver : Stmt := top 29
abbrev sSorted : Stmt := top 30
abbrev sWrong : Stmt := top 31
abbrev sChgIn : Stmt := top 32
abbrev sChgOf : Stmt := top 33
theorem sl_tupAK {X : Cx} {K : PySem.W.Frag} (h : X.K = K) : SlR X (rSlA K) := h ▸ sl_tupA
theorem sl_tail {K : PySem.W.Frag} {H : Hp} {a : Addr} {x : V} {xs : List V} {Q : VK} (h : SqT K H a (x :: xs)) (q : ∀ p, H p = none → Q (.ref p) (upd H p (.tup xs))) : rSlA K (.ref a) (some 1) none H Q := by
  refine ⟨a, x :: xs, rfl, h, fun ⟨e, _⟩ => ?_, fun _ p hp => ?_⟩
  · have : HT.sIx (x :: xs).length 0 (some ((1 : Nat) : Int)) = min 1 (x :: xs).length := HT.sIx_nat _ _ _
    have e' : HT.sIx (x :: xs).length 0 (some ((1 : Nat) : Int)) = 0 := e
    rw [this] at e'
    simp at e'
  · have e : cutV (x :: xs) (some 1) none = xs := by
      have : HT.sIx (x :: xs).length 0 (some ((1 : Nat) : Int)) = min 1 (x :: xs).length := HT.sIx_nat _ _ _
      have this' : HT.sIx (x :: xs).length 0 (some 1) = 1 := by
        have q : HT.sIx (x :: xs).length 0 (some 1) = min 1 (x :: xs).length := this
        rw [q]; simp
      show ((x :: xs).drop (HT.sIx (x :: xs).length 0 (some 1))).take (HT.sIx (x :: xs).length (x :: xs).length none - HT.sIx (x :: xs).length 0 (some 1)) = xs
      rw [this', HT.sIx_none]
      simp
    rw [e]
    exact q p hp
/-- the list of the pairs -/
structure StepsAt (H : Hp) (p : Addr) (as : List Addr) (ps : List Addr) : Prop where
  lst : H p = some (.lst (rfs ps))
  len : ps.length = as.length - 1
  prs : ∀ (j : Nat) (q : Addr), ps[j]? = some q → ∃ x y, as[j]? = some x ∧ as[j + 1]? = some y ∧ H q = some (.tup [.ref x, .ref y])
theorem StepsAt.same {H H' : Hp} {p : Addr} {as ps : List Addr} (h : StepsAt H p as ps) (s : Same H H') : StepsAt H' p as ps :=
  ⟨s _ _ h.lst, h.len, fun j q e => let ⟨x, y, h1, h2, h3⟩ := h.prs j q e; ⟨x, y, h1, h2, s _ _ h3⟩⟩
def spSteps : Sp := fun vs H Q _ => ∃ (A : Addr) (as : List Addr), vs = [.ref A] ∧ H A = some (.tup (rfs as)) ∧ as ≠ [] ∧ as.length ≤ 10 ∧ ∀ H' p ps, Same H H' → H p = none → StepsAt H' p as ps → Q (.ref p) H'
def spTotalOf : Sp := fun vs H Q _ => ∃ (A : Addr) (a : List Nat) (r : List (List Nat)) (k n : Nat), vs = [.ref A] ∧ Tt H A (a :: r) ∧ Gd k n (a :: r) ∧ ∀ H', Same H H' → Q (.int (totalA a r : Nat)) H'
def spDecs : Sp := fun vs H Q _ => ∃ (A : Addr) (a : List Nat) (r : List (List Nat)) (k n : Nat), vs = [.ref A] ∧ Tt H A (a :: r) ∧ Gd k n (a :: r) ∧ ∀ H' p, Same H H' → H p = none → H' p = some (.lst ((List.range k).map fun v => V.int (decV v a r : Nat))) → Q (.ref p) H'
def spOver : Sp := fun vs H Q _ => ∃ (A : Addr) (a : List Nat) (r : List (List Nat)) (k n : Nat), vs = [.ref A] ∧ Tt H A (a :: r) ∧ Gd k n (a :: r) ∧
  ∀ H', Same H H' → ((∀ v, v < k → decV v a r ≤ sh a v) → Q .non H') ∧ (∀ v, v < k → ¬ decV v a r ≤ sh a v → Q (.int v) H')
section
variable {P : Program} {w : World} {K : PySem.W.Frag} {mg : Str → Option Value} {base : Heap}
theorem scSteps : FnScope ["allocations"] ["allocations"] (defScope sSteps) := ⟨rfl, rfl, rfl, by decide +kernel, rfl, by decide +kernel, by decide +kernel⟩
theorem ok_steps {f : Addr} {fd : FuncData} (F : Fun K "steps_of" "steps_of" sSteps f fd) (N : Nm mg) : FnOk P w K mg base CX0 1 f fd ["allocations"] spSteps := by
  refine F.ok scSteps (fun vs H Q E h => ?_) (fun cdv A outer s H vs Q E hr h => ?_)
  · obtain ⟨A, as, rfl, _⟩ := h; rfl
  · obtain ⟨A, as, rfl, hA, h0, h10, q⟩ := h
    refine ⟨_, (pss_one (ps_ret ((pe_listZip rfl N.lst rfl N.zip (pa_cons (pv 0) (pa_cons ((pe_slice (sl_tupAK (K := K) rfl) (pv 0) (po_some pe_int) po_none)) pa_nil)))))), ?_⟩
    cases as with
    | nil => exact absurd rfl h0
    | cons a as =>
      refine ⟨_, rfl, _, rfl, ?_⟩
      refine ⟨_, rfl, ?_⟩
      unfold tNoPart
      refine sl_tail (SqT.of hA) fun p hp => ?_
      have npA : A ≠ p := ne_of_none hA hp
      have s1 := same_new hp (.tup (rfs as))
      refine ⟨A, p, rfs (a :: as), rfs as, rfl, s1 _ _ hA, upd_same, by rw [rfs_length, rfs_length]; simp at h10 ⊢; omega, fun z ps H' hz Z => ?_⟩
      refine q H' z ps (s1.trans Z.same) (s1.free hz) ⟨Z.lst, ?_, fun j t e => ?_⟩
      · rw [Z.len, rfs_length, rfs_length]; simp
      · obtain ⟨x, y, e1, e2, e3⟩ := Z.prs j t e
        have hj : j < as.length := by
          have := (List.getElem?_eq_some_iff.mp e2).1
          rw [rfs_length] at this
          exact this
        have d1 : (rfs (a :: as))[j]? = some (V.ref ((a :: as)[j]'(by simp; omega))) := rfs_get (List.getElem?_eq_getElem _)
        have d2 : (rfs as)[j]? = some (V.ref as[j]) := rfs_get (List.getElem?_eq_getElem hj)
        have e1' : (rfs (a :: as))[j]? = some x := e1
        rw [d1] at e1'
        rw [d2] at e2
        cases e1'; cases e2
        exact ⟨_, _, List.getElem?_eq_getElem (by simp; omega), by simp [hj], e3⟩
theorem rowAt_alike {k n : Nat} {rows : List (List Nat)} (g : Gd k n rows) {i : Nat} (h : i < rows.length) : (rowAt rows i).length = k ∧ (rowAt rows i).sum = n := by
  rw [rowAt_eq h]; exact g.al.all _ (List.getElem_mem h)
/-- the two allocations of a step -/
theorem StepsAt.get {H : Hp} {p : Addr} {as ps : List Addr} {rows : List (List Nat)} (h : StepsAt H p as ps) (R : Rs H as rows) {i : Nat} {x : V} (hi : i < ps.length) (e : (rfs ps)[i]? = some x) :
    ∃ q a b, x = .ref q ∧ H q = some (.tup [.ref a, .ref b]) ∧ Tn H a (rowAt rows i) ∧ Tn H b (rowAt rows (i + 1)) := by
  obtain ⟨a, b, h1, h2, h3⟩ := h.prs i _ (List.getElem?_eq_getElem hi)
  rw [rfs_get (List.getElem?_eq_getElem hi)] at e
  cases e
  obtain ⟨r1, q1, t1⟩ := R.at_ _ _ h1
  obtain ⟨r2, q2, t2⟩ := R.at_ _ _ h2
  exact ⟨_, a, b, rfl, h3, by rw [rowAt_of q1]; exact t1, by rw [rowAt_of q2]; exact t2⟩
theorem scTotalOf : FnScope ["allocations", "one", "other"] ["allocations"] (defScope sTotalOf) := ⟨rfl, rfl, rfl, by decide +kernel, rfl, by decide +kernel, by decide +kernel⟩
theorem ok_totalOf {f : Addr} {fd : FuncData} (F : Fun K "total_of" "total_of" sTotalOf f fd) (N : Nm mg) (O1 : Ok P w K mg base "steps_of" ["allocations"] 1 spSteps) (O2 : Ok P w K mg base "transfer_of" ["first", "second"] 1 spTransf) : FnOk P w K mg base CX0 2 f fd ["allocations"] spTotalOf := by
  refine F.ok scTotalOf (fun vs H Q E h => ?_) (fun cdv A outer s H vs Q E hr h => ?_)
  · obtain ⟨A, a, r, k, n, rfl, _⟩ := h; rfl
  · obtain ⟨A, a, r, k, n, rfl, ⟨as, hA, hR⟩, g, q⟩ := h
    refine ⟨_, (pss_one (ps_ret ((pe_callB (cr_sum rfl) rfl N.sum (by decide +kernel) (pa_cons ((pe_lc (own := [("one", 1), ("other", 2)]) (g := gTup K 2 (gCons (gName 1) (gCons (gName 2) gNil))) (tt := tYes) rfl scTotalOf.nd (pi_list (pe_ok O1 hr rfl (pa_cons (pv 0) pa_nil))) (blkOk_by (N := ["allocations", "one", "other"]) (sc := defScope sTotalOf) (by decide +kernel)) (fun _ _ _ _ _ => pg_tup rfl (pgs_cons (pg_name (i := 1) scTotalOf.nd rfl (Or.inl rfl)) (pgs_cons (pg_name (i := 2) scTotalOf.nd rfl (Or.inl rfl)) pgs_nil))) (fun _ _ _ _ _ => pts_nil) (fun _ _ _ _ _ => (pe_ok O2 hr rfl (pa_cons (pv 1) (pa_cons (pv 2) pa_nil)))))) pa_nil))))), ?_⟩
    have g5 := g.r6
    have g4 := g.k4
    have la := hR.len
    refine ⟨_, rfl, A, as, rfl, hA, fun e => by rw [e] at la; simp at la, by omega, fun H1 p ps s1 hp Z => ?_⟩
    refine ⟨p, rfl, ⟨_, SqL.of Z.lst⟩, fun D hD => ?_⟩
    have lp : (rfs ps).length = r.length := by rw [rfs_length, Z.len, la]; simp
    refine lc_map walk_list (fun i => V.int ((transf (rowAt (a :: r) i) (rowAt (a :: r) (i + 1)) : Nat) : Int)) hD (by rw [lp]; simp at g5; omega) (fun H' s => SqL.of (Z.same s).lst) (fun i H x H' _ _ y => y.1 ▸ Same.refl _) (fun i x H2 H3 R hi s2 y s3 rr => ?_) (fun H2 s2 e => ?_)
    · obtain ⟨rfl, e4⟩ := y
      rw [rfs_length] at hi
      obtain ⟨t, b, c, rfl, e5, T1, T2⟩ := (Z.same s2).get (hR.same (s1.trans s2)) hi e4
      refine g_two rfl e5 ?_
      have lr : i + 1 < (a :: r).length := by rw [rfs_length] at lp; simp; omega
      obtain ⟨l1, _⟩ := rowAt_alike g (i := i) (by omega)
      obtain ⟨l2, _⟩ := rowAt_alike g lr
      exact ⟨rfl, _, rfl, _, rfl, b, c, _, _, rfl, T1, T2, by rw [l1, l2], by rw [l1]; omega, fun H4 s4 => rr _ _ s4 rfl⟩
    · refine ⟨D, (List.range (rfs ps).length).map fun i => ((transf (rowAt (a :: r) i) (rowAt (a :: r) (i + 1)) : Nat) : Int), rfl, SqL.of (by rw [e, List.map_map]; rfl), ?_⟩
      have e6 : ((List.range (rfs ps).length).map fun i => ((transf (rowAt (a :: r) i) (rowAt (a :: r) (i + 1)) : Nat) : Int)).sum = ((totalA a r : Nat) : Int) := by
        rw [totalA_pair, pairSum_range, sum_natCast, List.map_map, lp]; rfl
      rw [e6]
      exact q _ (s1.trans s2)
theorem scTotal : FnScope ["allocations"] ["allocations"] (defScope sTotal) := ⟨rfl, rfl, rfl, by decide +kernel, rfl, by decide +kernel, by decide +kernel⟩
theorem ok_total {f : Addr} {fd : FuncData} (F : Fun K "total" "total" sTotal f fd) (c1 : Ci mg "MOST_ALLOCATIONS" 10) (O1 : Ok P w K mg base "check_series" ["allocations", "most"] 4 spChkSeries) (O2 : Ok P w K mg base "total_of" ["allocations"] 2 spTotalOf) : FnOk P w K mg base CX0 5 f fd ["allocations"] spTotalOf := by
  refine F.ok scTotal (fun vs H Q E h => ?_) (fun cdv A outer s H vs Q E hr h => ?_)
  · obtain ⟨A, a, r, k, n, rfl, _⟩ := h; rfl
  · obtain ⟨A, a, r, k, n, rfl, hA, g, q⟩ := h
    have hr2 : Room 2 _ := hr.mono (by decide)
    refine ⟨_, (pss_cons (ps_expr (pe_ok O1 hr rfl (pa_cons (pv 0) (pa_cons (pe_gi rfl c1) pa_nil)))) (pss_one (ps_ret ((pe_ok O2 hr2 rfl (pa_cons (pv 0) pa_nil)))))), ?_⟩
    have g5 := g.r6
    refine ⟨_, rfl, A, a :: r, k, n, 10, rfl, hA, g, by omega, fun H1 s1 => ?_⟩
    exact ⟨_, rfl, A, a, r, k, n, rfl, hA.same s1, g, fun H2 s2 => q _ (s1.trans s2)⟩
end
end LW
end

section
set_option Elab.async false
set_option linter.all false
set_option autoImplicit false
set_option maxRecDepth 100000
namespace LW
open PySem L2 LM LX
def spSorted : Sp := fun vs H Q _ => ∃ (a : Addr) (ns : List Nat), vs = [.ref a] ∧ Tn H a ns ∧ ns.length ≤ 20 ∧ ns.sum ≤ 20 ∧ ∀ H' p, Same H H' → H p = none → Tn H' p (sortedA ns) → Q (.ref p) H'
def spWrong : Sp := fun vs H Q _ => ∃ (A B : Addr) (rows tbl : List (List Nat)) (k n : Nat), vs = [.ref A, .ref B] ∧ Tt H A rows ∧ Tt H B tbl ∧ Gd k n rows ∧ Tbl k n rows tbl ∧ ∀ H', Same H H' → Q .non H'
def spChgIn (K : PySem.W.Frag) : Sp := fun vs H Q _ => ∃ (A : Addr) (as : List Addr) (rows : List (List Nat)) (n : Nat), vs = [.ref A] ∧ (SqT K H A (rfs as) ∨ SqL K H A (rfs as)) ∧ Rs H as rows ∧ as ≠ [] ∧ as.length ≤ 6 ∧ (∀ r ∈ rows, r.length = n) ∧ n ≤ 20 ∧
  ∀ H' p, Same H H' → H p = none → Tn H' p (chgs n rows) → Q (.ref p) H'
def spChgOf : Sp := fun vs H Q _ => ∃ (A B : Addr) (rows tbl : List (List Nat)) (k n : Nat), vs = [.ref A, .ref B] ∧ Tt H A rows ∧ Tt H B tbl ∧ Gd k n rows ∧ Tbl k n rows tbl ∧ ∀ H' p, Same H H' → H p = none → Tn H' p (chgs n tbl) → Q (.ref p) H'
section
variable {P : Program} {w : World} {K : PySem.W.Frag} {mg : Str → Option Value} {base : Heap}
theorem scDecs : FnScope ["allocations", "found", "one", "other", "_", "sum_so_far", "a", "b"] ["allocations"] (defScope sDecs) := ⟨rfl, rfl, rfl, by decide +kernel, rfl, by decide +kernel, by decide +kernel⟩
theorem ok_decs {f : Addr} {fd : FuncData} (F : Fun K "decreases_of" "decreases_of" sDecs f fd) (N : Nm mg) (O1 : Ok P w K mg base "steps_of" ["allocations"] 1 spSteps) : FnOk P w K mg base CX0 2 f fd ["allocations"] spDecs := by
  refine F.ok scDecs (fun vs H Q E h => ?_) (fun cdv A outer s H vs Q E hr h => ?_)
  · obtain ⟨A, a, r, k, n, rfl, _⟩ := h; rfl
  · obtain ⟨A, a, r, k, n, rfl, ⟨as, hA, hR⟩, g, q⟩ := h
    refine ⟨_, (pss_cons (ps_setLc (i := 1) (own := [("_", 4)]) (g := gName 4) (tt := tYes) rfl scDecs.nd rfl rfl (sw_true rfl rfl rfl (by decide +kernel)) (pi_tup (pe_ix (ix_tupK (K := K) rfl) (pv 0) (pe_int) (fun _ _ => rfl))) (blkOk_by (N := ["allocations", "found", "one", "other", "_", "sum_so_far", "a", "b"]) (sc := defScope sDecs) (by decide +kernel)) (fun _ _ _ _ _ => pg_name (i := 4) scDecs.nd rfl (Or.inl rfl)) (fun _ _ _ _ _ => pts_nil) (fun _ _ _ _ _ => pe_int)) (pss_cons (ps_for PassesOwn.never rfl (pi_list (pe_ok O1 hr rfl (pa_cons (pv 0) pa_nil))) (pg_tup rfl (pgs_cons (pg_name (i := 2) scDecs.nd rfl (Or.inl rfl)) (pgs_cons (pg_name (i := 3) scDecs.nd rfl (Or.inl rfl)) pgs_nil))) (pss_one (ps_setLc (i := 1) (own := [("sum_so_far", 5), ("a", 6), ("b", 7)]) (g := gTup K 3 (gCons (gName 5) (gCons (gName 6) (gCons (gName 7) gNil)))) (tt := tYes) rfl scDecs.nd rfl rfl (sw_true rfl rfl rfl (by decide +kernel)) (pi_zipN rfl N.zip (pa_cons (pv 1) (pa_cons (pv 2) (pa_cons (pv 3) pa_nil)))) (blkOk_by (N := ["allocations", "found", "one", "other", "_", "sum_so_far", "a", "b"]) (sc := defScope sDecs) (by decide +kernel)) (fun _ _ _ _ _ => pg_tup rfl (pgs_cons (pg_name (i := 5) scDecs.nd rfl (Or.inl rfl)) (pgs_cons (pg_name (i := 6) scDecs.nd rfl (Or.inl rfl)) (pgs_cons (pg_name (i := 7) scDecs.nd rfl (Or.inl rfl)) pgs_nil)))) (fun _ _ _ _ _ => pts_nil) (fun _ _ _ _ _ => (pe_op (op_add) (pv 5) ((pe_callB (call_max2 rfl) rfl N.max (by decide +kernel) (pa_cons (pe_int) (pa_cons ((pe_op (op_sub) (pv 6) (pv 7))) pa_nil))))))))) (pss_one (ps_ret (pv 1))))), ?_⟩
    have g5 := g.r6
    have g4 := g.k4
    have la := hR.len
    obtain ⟨ha, _⟩ := g.al.all a (by simp)
    obtain ⟨p0, as', rfl, hT0, hR'⟩ := hR.uncons
    have at0 : atI (rfs (p0 :: as')) 0 = some (.ref p0) := atI_nat (j := 0) rfl
    refine ⟨_, rfl, A, _, _, _, rfl, rfl, SqT.of hA, at0, p0, rfl, ⟨_, hT0.sq⟩, fun D hD => ?_⟩
    refine lc_map walk_tup (fun i => V.int 0) hD (by rw [nvs_length]; omega) (fun H' s => (hT0.same s).sq) (fun i H x H' _ _ y => y.1 ▸ Same.refl _) (fun i x H2 H3 R hi s2 y s3 rr => ?_) (fun H1 s1 e => ?_)
    · obtain ⟨rfl, e4⟩ := y
      exact ⟨rfl, rr _ _ (Same.refl _) rfl⟩
    · refine ⟨_, rfl, A, p0 :: as', rfl, s1 _ _ hA, by simp, by omega, fun H2 p ps s2 hp Z => ?_⟩
      have lp : (rfs ps).length = r.length := by rw [rfs_length, Z.len, la]; simp
      have s12 := s1.trans s2
      refine ⟨p, rfl, ⟨_, SqL.of Z.lst⟩, for_it walk_list (fun i σ H' => ∃ (E : Addr) (v2 v3 : Option V), σ = [some (.ref A), some (.ref E), v2, v3, none, none, none, none] ∧ Same H2 H' ∧ H E = none ∧ H' E = some (.lst ((List.range k).map fun v => V.int (decUp v (a :: r) i : Nat))))
        ⟨D, none, none, rfl, Same.refl _, hD, ?_⟩ (fun i σ H' _ ⟨_, _, _, _, s3, _⟩ => SqL.of (Z.same s3).lst) ?_ ?_⟩
      · rw [s2 _ _ e, nvs_length, ha]; rfl
      · rintro i x σ H3 H4 hi ⟨E, v2, v3, rfl, s3, hE, eE⟩ ⟨rfl, e4⟩
        have hi2 : i < ps.length := by rw [rfs_length] at hi; exact hi
        obtain ⟨t, b, c, rfl, e5, T1, T2⟩ := (Z.same s3).get (hR.same (s12.trans s3)) hi2 e4
        refine g_two rfl e5 ?_
        have lr : i + 1 < (a :: r).length := by rw [rfs_length] at lp; simp; omega
        obtain ⟨l1, _⟩ := rowAt_alike g (i := i) (by omega)
        obtain ⟨l2, _⟩ := rowAt_alike g lr
        refine ⟨_, rfl, _, rfl, _, rfl, [(E, true), (b, false), (c, false)], rfl, by simp, by simp, (Srcs.three (Sq.l (SqL.of eE)) (Sq.t T1.sq) (Sq.t T2.sq)).ex, fun D2 hD2 => ?_⟩
        refine lc_map (walk_zip3 (n := k) (by simp) (by rw [nvs_length, l1]) (by rw [nvs_length, l2])) (fun v => V.int (decUp v (a :: r) (i + 1) : Nat)) hD2 (by omega)
          (fun H' s => Srcs.three (Sq.l (SqL.of (s _ _ eE))) (Sq.t (T1.same s).sq) (Sq.t (T2.same s).sq)) (fun i H x H' _ _ y => y.same) (fun v x H5 H6 R hv s5 y s6 rr => ?_) (fun H5 s5 e6 => ?_)
        · obtain ⟨T, rfl, _, rfl⟩ := y.triple (get_of_mem_range hv _) (nvs_sh (by omega)) (nvs_sh (by omega))
          refine g_three rfl upd_same ?_
          refine ⟨rfl, _, rfl, _, rfl, _, rfl, _, _, rfl, rfl, _, _, rfl, _, _, rfl, rfl, ?_⟩
          rw [max0]
          refine rr _ _ (Same.refl _) ?_
          show V.int (((decUp v (a :: r) i : Nat) : Int) + ((sh (rowAt (a :: r) i) v - sh (rowAt (a :: r) (i + 1)) v : Nat) : Int)) = _
          rw [decUp_succ, Int.natCast_add]
        · exact ⟨D2, _, _, rfl, s3.trans s5, s12.free (s3.free hD2), e6⟩
      · rintro σ H3 ⟨E, v2, v3, rfl, s3, hE, eE⟩
        refine ⟨_, rfl, q _ E (s12.trans s3) hE ?_⟩
        rw [eE, lp]
        simp only [decUp_all]
theorem scOver : FnScope ["allocations", "variant", "lost"] ["allocations"] (defScope sOver) := ⟨rfl, rfl, rfl, by decide +kernel, rfl, by decide +kernel, by decide +kernel⟩
theorem ok_over {f : Addr} {fd : FuncData} (F : Fun K "overdrawn_in" "overdrawn_in" sOver f fd) (N : Nm mg) (O1 : Ok P w K mg base "decreases_of" ["allocations"] 2 spDecs) : FnOk P w K mg base CX0 3 f fd ["allocations"] spOver := by
  refine F.ok scOver (fun vs H Q E h => ?_) (fun cdv A outer s H vs Q E hr h => ?_)
  · obtain ⟨A, a, r, k, n, rfl, _⟩ := h; rfl
  · obtain ⟨A, a, r, k, n, rfl, hT, g, q⟩ := h
    refine ⟨_, (pss_cons (ps_for PassesOwn.never rfl (pi_enum rfl N.enu (pa_cons ((pe_ok O1 hr rfl (pa_cons (pv 0) pa_nil))) pa_nil)) (pg_tup rfl (pgs_cons (pg_name (i := 1) scOver.nd rfl (Or.inl rfl)) (pgs_cons (pg_name (i := 2) scOver.nd rfl (Or.inl rfl)) pgs_nil))) (pss_one (ps_if ((pt_cmpR (op_gt) (pv 2) ((pe_ix (ix_tupK (K := K) rfl) ((pe_ix (ix_tupK (K := K) rfl) (pv 0) (pe_int) (fun _ _ => rfl))) (pv 1) (fun _ _ => rfl))) (nomark _))) (pss_one (ps_ret (pv 1))) pss_nil))) (pss_one (ps_ret (pe_non)))), ?_⟩
    obtain ⟨as, hA, hR⟩ := id hT
    obtain ⟨ha, _⟩ := g.al.all a (by simp)
    obtain ⟨p0, as', rfl, hT0, hR'⟩ := hR.uncons
    have at0 : atI (rfs (p0 :: as')) 0 = some (.ref p0) := atI_nat (j := 0) rfl
    refine ⟨_, rfl, A, a, r, k, n, rfl, hT, g, fun H1 p s1 hp e => ?_⟩
    refine ⟨p, _, rfl, SqL.of e, for_it walk_enum (fun i σ H' => ∃ (v1 v2 : Option V), σ = [some (.ref A), v1, v2] ∧ Same H1 H' ∧ ∀ v, v < i → decV v a r ≤ sh a v)
      ⟨none, none, rfl, Same.refl _, fun v hv => absurd hv (by omega)⟩ (fun i σ H' _ ⟨_, _, _, s3, _⟩ => SqL.of (s3 _ _ e)) ?_ ?_⟩
    · rintro i x σ H3 H4 hi ⟨v1, v2, rfl, s3, le⟩ y
      have hi2 : i < k := by simpa using hi
      obtain ⟨T, rfl, hT, rfl⟩ := YPair.pair (H := H3) y rfl (get_of_mem_range hi2 _)
      have s4 : Same H1 (upd H3 T (.tup [.int (i : Nat), .int (decV i a r : Nat)])) := s3.trans (same_new hT _)
      refine g_two rfl upd_same ?_
      refine ⟨_, rfl, _, rfl, A, _, _, _, rfl, rfl, SqT.of ((s1.trans s4) _ _ hA), at0, _, rfl, p0, _, _, _, rfl, rfl, (hT0.same (s1.trans s4)).sq, nvs_at (by omega), _, _, rfl, rfl, _, rfl, ?_⟩
      refine ite2 (fun c => ?_) (fun c => ?_)
      · have c' : ((decV i a r : Nat) : Int) > ((sh a i : Nat) : Int) := of_decide_eq_true c
        exact ⟨_, rfl, (q _ (s1.trans s4)).2 i hi2 (by omega)⟩
      · have c' : ¬ ((decV i a r : Nat) : Int) > ((sh a i : Nat) : Int) := fun z => c (decide_eq_true z)
        refine ⟨_, _, rfl, s4, fun v hv => ?_⟩
        by_cases hvi : v = i
        · subst hvi; omega
        · exact le v (by omega)
    · rintro σ H3 ⟨v1, v2, rfl, s3, le⟩
      exact (q _ (s1.trans s3)).1 fun v hv => le v (by simpa using hv)
end
end LW
end

section
set_option Elab.async false
set_option linter.all false
set_option autoImplicit false
set_option maxRecDepth 100000
namespace LW
open PySem L2 LM LX
theorem sh_le_sum (a : List Nat) (v : Nat) : sh a v ≤ a.sum := by
  unfold sh
  rw [List.getD_eq_getElem?_getD]
  by_cases h : v < a.length
  · rw [List.getElem?_eq_getElem h]; exact le_sum h
  · rw [List.getElem?_eq_none (by omega)]; exact Nat.zero_le _
theorem sortUp_len {a : List Nat} {m : Nat} (h : a.sum ≤ m) : ∀ i, (sortUp a i).length ≤ i * m
  | 0 => by simp [sortUp]
  | i + 1 => by
    have := sortUp_len h i
    have := sh_le_sum a i
    rw [sortUp_succ, List.length_append, List.length_replicate, Nat.succ_mul]
    omega
theorem walk_zip2' {K : PySem.W.Frag} {a b : Addr × Bool} {xs ys : List V} {n : Nat} (h1 : n ≤ xs.length) (h2 : ys.length = n) : Walk (ItzN K [a, b]) n (Srcs K [a, b] [xs, ys]) (YZ [xs, ys]) :=
  walk_zipN rfl (fun zs hz => by simp at hz; rcases hz with rfl | rfl <;> omega) ⟨ys, by simp, h2⟩
/-- a bucket's row -/
def col (rows : List (List Nat)) (i : Nat) : List Nat := rows.map fun r => sh r i
theorem YZ.col {rows : List (List Nat)} {i n : Nat} {H H' : Hp} {v : V} (q : YZ (rows.map nvs) i H v H') (hl : ∀ r ∈ rows, r.length = n) (hi : i < n) : ∃ T : Addr, v = .ref T ∧ H T = none ∧ H' = upd H T (.tup (nvs (LW.col rows i))) := by
  obtain ⟨T, zs, h1, h2, h3, h4, h5⟩ := q
  have e : zs = nvs (LW.col rows i) := by
    refine List.ext_getElem? fun j => ?_
    by_cases hj : j < rows.length
    · have hr := hl _ (List.getElem_mem hj)
      obtain ⟨y, e1, e2⟩ := h5 j (nvs rows[j]) (by simp [hj])
      rw [nvs_sh (by omega)] at e1
      cases e1
      rw [e2]
      simp [nvs, LW.col, hj]
    · rw [List.getElem?_eq_none (by rw [h4]; simp; omega), List.getElem?_eq_none (by simp [nvs, LW.col]; omega)]
  exact ⟨T, h1, h2, by rw [h3, e]⟩
section
variable {P : Program} {w : World} {K : PySem.W.Frag} {mg : Str → Option Value} {base : Heap}
theorem scSorted : FnScope ["allocation", "found", "variant", "share"] ["allocation"] (defScope sSorted) := ⟨rfl, rfl, rfl, by decide +kernel, rfl, by decide +kernel, by decide +kernel⟩
theorem ok_sorted {f : Addr} {fd : FuncData} (F : Fun K "sorted_assignment" "sorted_assignment" sSorted f fd) (N : Nm mg) : FnOk P w K mg base CX0 1 f fd ["allocation"] spSorted := by
  refine F.ok scSorted (fun vs H Q E h => ?_) (fun cdv A outer s H vs Q E hr h => ?_)
  · obtain ⟨a, ns, rfl, _⟩ := h; rfl
  · obtain ⟨a, ns, rfl, hA, h20, hs, q⟩ := h
    refine ⟨_, (pss_cons (ps_set (i := 1) scSorted.nd rfl (Or.inl rfl) (pe_lst pa_nil)) (pss_cons (ps_for PassesOwn.never rfl (pi_enumT rfl N.enu (pa_cons (pv 0) pa_nil)) (pg_tup rfl (pgs_cons (pg_name (i := 2) scSorted.nd rfl (Or.inl rfl)) (pgs_cons (pg_name (i := 3) scSorted.nd rfl (Or.inl rfl)) pgs_nil))) (pss_one (ps_set (i := 1) scSorted.nd rfl (Or.inl rfl) ((pe_op (op_cat) (pv 1) ((pe_op (op_rep) (pe_lst (pa_cons (pv 2) pa_nil)) (pv 3)))))))) (pss_one (ps_ret ((pe_callTy call_tupleF rfl N.tup (by decide +kernel) (pa_cons (pv 1) pa_nil))))))), ?_⟩
    refine ⟨Nat.zero_le _, fun D hD => ?_⟩
    have s0 := same_new hD (.lst [])
    refine ⟨_, rfl, a, _, rfl, (hA.same s0).sq, for_it walk_enumT (fun i σ H' => ∃ (E : Addr) (v2 v3 : Option V), σ = [some (.ref a), some (.ref E), v2, v3] ∧ Same H H' ∧ H E = none ∧ H' E = some (.lst (nvs (sortUp ns i))))
      ⟨D, none, none, rfl, s0, hD, upd_same⟩ (fun i σ H' _ ⟨_, _, _, _, s3, _⟩ => (hA.same s3).sq) ?_ ?_⟩
    · rintro i x σ H3 H4 hi ⟨E, v2, v3, rfl, s3, hE, eE⟩ y
      have hi2 : i < ns.length := by rw [nvs_length] at hi; exact hi
      obtain ⟨T, rfl, hT, rfl⟩ := YPair.pair (H := H3) y rfl (nvs_sh hi2)
      have sT := same_new hT (.tup [.int (i : Nat), .int (sh ns i : Nat)])
      refine g_two rfl upd_same ?_
      have hsh := sh_le_sum ns i
      refine ⟨_, rfl, _, rfl, (by show 1 ≤ sizeLine; decide), fun p hp => ?_⟩
      have s5 := same_new hp (.lst [.int (i : Nat)])
      refine ⟨_, rfl, p, _, _, rfl, rfl, upd_same, by omega, by omega, ?_, fun p2 hp2 => ?_⟩
      · rw [List.length_singleton]; exact small (by omega)
      have s6 := same_new hp2 (.lst (List.replicate (sh ns i : Int).toNat [V.int (i : Nat)]).flatten)
      have ef : (List.replicate (sh ns i : Int).toNat [V.int (i : Nat)]).flatten = nvs (List.replicate (sh ns i) i) := by
        rw [Int.toNat_natCast, List.flatten_replicate_singleton]; simp [nvs]
      rw [ef]
      rw [ef] at s6
      refine ⟨E, p2, nvs (sortUp ns i), _, rfl, rfl, s6 _ _ (s5 _ _ (sT _ _ eE)), upd_same, ?_, fun p3 hp3 => ?_⟩
      · have := sortUp_len hs i
        rw [nvs_length, nvs_length, List.length_replicate]
        refine small ?_
        have : i * 20 ≤ 20 * 20 := Nat.mul_le_mul_right 20 (by omega)
        omega
      refine ⟨p3, _, _, rfl, (s3.trans (sT.trans (s5.trans s6))).trans (same_new hp3 _), (s3.trans (sT.trans (s5.trans s6))).free hp3, ?_⟩
      rw [upd_same, sortUp_succ]; simp [nvs]
    · rintro σ H3 ⟨E, v2, v3, rfl, s3, hE, eE⟩
      refine ⟨_, rfl, E, _, rfl, SqL.of eE, fun l o hl ho => q _ l (s3.trans (same_new hl _)) (s3.free hl) ?_⟩
      rw [nvs_length, sortUp_all]
      exact Tn.new ho
theorem scWrong : FnScope ["allocations", "table", "step", "one", "other"] ["allocations", "table"] (defScope sWrong) := ⟨rfl, rfl, rfl, by decide +kernel, rfl, by decide +kernel, by decide +kernel⟩
theorem ok_wrong {f : Addr} {fd : FuncData} (F : Fun K "wrong_step_in" "wrong_step_in" sWrong f fd) (N : Nm mg) (O1 : Ok P w K mg base "steps_of" ["allocations"] 1 spSteps) (O2 : Ok P w K mg base "is_least" ["before", "behind", "assignment", "other"] 2 spIsLeast) : FnOk P w K mg base CX0 3 f fd ["allocations", "table"] spWrong := by
  refine F.ok scWrong (fun vs H Q E h => ?_) (fun cdv A outer s H vs Q E hr h => ?_)
  · obtain ⟨A, B, rows, tbl, k, n, rfl, _⟩ := h; rfl
  · obtain ⟨A, B, rows, tbl, k, n, rfl, ⟨as, hA, hR⟩, ⟨bs, hB, hS⟩, g, T, q⟩ := h
    have hr1 : Room 1 _ := hr.mono (by decide)
    refine ⟨_, (pss_cons (ps_for PassesOwn.never rfl (pi_enum rfl N.enu (pa_cons ((pe_ok O1 hr1 rfl (pa_cons (pv 0) pa_nil))) pa_nil)) (pg_tup rfl (pgs_cons (pg_name (i := 2) scWrong.nd rfl (Or.inl rfl)) (pgs_cons (pg_tup rfl (pgs_cons (pg_name (i := 3) scWrong.nd rfl (Or.inl rfl)) (pgs_cons (pg_name (i := 4) scWrong.nd rfl (Or.inl rfl)) pgs_nil))) pgs_nil))) (pss_one (ps_if (pt_not (pt_val (pe_ok O2 hr rfl (pa_cons (pv 3) (pa_cons (pv 4) (pa_cons ((pe_ix (ix_tupK (K := K) rfl) (pv 1) (pv 2) (fun _ _ => rfl))) (pa_cons ((pe_ix (ix_tupK (K := K) rfl) (pv 1) ((pe_op (op_add) (pv 2) (pe_int))) (fun _ _ => rfl))) pa_nil))))))) (pss_one (ps_ret (pv 2))) pss_nil))) (pss_one (ps_ret (pe_non)))), ?_⟩
    have g5 := g.r6
    have g4 := g.k4
    have g3 := g.n4
    have g1 := g.r1
    have la := hR.len
    refine ⟨_, rfl, A, as, rfl, hA, fun e => by rw [e] at la; simp at la; omega, by omega, fun H1 p ps s1 hp Z => ?_⟩
    have lp : (rfs ps).length = rows.length - 1 := by rw [rfs_length, Z.len, la]
    refine ⟨p, _, rfl, SqL.of Z.lst, for_it walk_enum (fun i σ H' => ∃ (v2 v3 v4 : Option V), σ = [some (.ref A), some (.ref B), v2, v3, v4] ∧ Same H1 H')
      ⟨none, none, none, rfl, Same.refl _⟩ (fun i σ H' _ ⟨_, _, _, _, s3⟩ => SqL.of (Z.same s3).lst) ?_ ?_⟩
    · rintro i x σ H3 H4 hi ⟨v2, v3, v4, rfl, s3⟩ y
      have hi2 : i < ps.length := by rw [rfs_length] at hi; exact hi
      obtain ⟨t, b, c, e0, e5, T1, T2⟩ := (Z.same s3).get (hR.same (s1.trans s3)) hi2 (rfs_get (List.getElem?_eq_getElem hi2))
      obtain ⟨U, rfl, hU, rfl⟩ := YPair.pair (H := H3) y rfl (rfs_get (List.getElem?_eq_getElem hi2))
      rw [e0]
      have s4 := same_new hU (.tup [.int (i : Nat), .ref t])
      have sA := s1.trans (s3.trans s4)
      refine ⟨U, [.int (i : Nat), .ref t], rfl, SqT.of upd_same, rfl, _, _, rfl, _, _, rfl, t, [.ref b, .ref c], rfl, SqT.of (s4 _ _ e5), rfl, _, _, rfl, _, _, rfl, rfl, rfl, ?_⟩
      have li : i + 1 < rows.length := by rw [rfs_length] at lp; omega
      have R1 := T.ok i (by omega)
      have R2 := T.ok (i + 1) li
      have tl := T.len
      obtain ⟨u, hu, Tu⟩ := hS.get' (rowAt_get (l := tbl) (i := i) (by omega))
      obtain ⟨v, hv, Tv⟩ := hS.get' (rowAt_get (l := tbl) (i := i + 1) (by omega))
      have Tu' := Tu.same sA
      have Tv' := Tv.same sA
      refine ⟨_, rfl, _, rfl, _, rfl, _, rfl, B, _, _, _, rfl, rfl, SqT.of (sA _ _ hB), atI_nat (rfs_get hu), _, rfl, _, rfl, _, _, rfl, rfl, B, _, _, _, rfl, rfl, SqT.of (sA _ _ hB), atI_nat (j := i + 1) (rfs_get hv), ?_⟩
      refine ⟨b, c, u, v, _, _, _, _, rfl, T1.same s4, T2.same s4, Tu', Tv', ?_, ?_, ?_, ?_, fun H5 s5 => ⟨_, rfl, iteF ?_⟩⟩
      · rw [R1.al, R2.al]
      · rw [R1.len, R2.len]
      · rw [R1.len]; omega
      · intro j hj
        rw [R1.len] at hj
        rw [R1.al]
        exact T.fair i li j hj
      · exact ⟨_, _, _, rfl, s3.trans (s4.trans s5)⟩
    · rintro σ H3 ⟨v2, v3, v4, rfl, s3⟩
      exact q _ (s1.trans s3)
end
end LW
end

section
set_option Elab.async false
set_option linter.all false
set_option autoImplicit false
set_option maxRecDepth 100000
namespace LW
open PySem L2 LM LX
theorem col_get {rows : List (List Nat)} {i j : Nat} (h : j < rows.length) : (nvs (col rows i))[j]? = some (.int ((col rows i).getD j 0 : Nat)) := by
  rw [nvs_sh (by simp [col, h])]; rfl
theorem chg_sum (l : List Nat) (m : Nat) (h : l.length = m + 1) : ((List.range m).map fun j => ((if l.getD j 0 = l.getD (j + 1) 0 then 0 else 1 : Nat) : Int)).sum = ((chg l : Nat) : Int) := by
  rw [chg_range, sum_natCast, List.map_map, h]; rfl
section
variable {P : Program} {w : World} {K : PySem.W.Frag} {mg : Str → Option Value} {base : Heap}
theorem scChgIn : FnScope ["history", "found", "row", "one", "other"] ["history"] (defScope sChgIn) := ⟨rfl, rfl, rfl, by decide +kernel, rfl, by decide +kernel, by decide +kernel⟩
theorem ok_chgIn {f : Addr} {fd : FuncData} (F : Fun K "changes_in" "changes_in" sChgIn f fd) (N : Nm mg) : FnOk P w K mg base CX0 1 f fd ["history"] (spChgIn K) := by
  refine F.ok scChgIn (fun vs H Q E h => ?_) (fun cdv A outer s H vs Q E hr h => ?_)
  · obtain ⟨A, as, rows, n, rfl, _⟩ := h; rfl
  · obtain ⟨A, as, rows, n, rfl, hA, hR, h0, h6, hl, h20, q⟩ := h
    refine ⟨_, (pss_cons (ps_set (i := 1) scChgIn.nd rfl (Or.inl rfl) (pe_lst pa_nil)) (pss_cons (ps_for PassesOwn.never rfl (pi_zipStar rfl N.zip (pv 0)) (pg_name (i := 2) scChgIn.nd rfl (Or.inl rfl)) (pss_one (ps_expr (pe_bm PySem.F.plainAttrs_list PySem.F.slot_list_append PySem.F.type_list_append mt_append (pv 1) (pa_cons ((pe_callB (cr_sum rfl) rfl N.sum (by decide +kernel) (pa_cons ((pe_lc (own := [("one", 3), ("other", 4)]) (g := gTup K 2 (gCons (gName 3) (gCons (gName 4) gNil))) (tt := tYes) rfl scChgIn.nd (pi_zipN rfl N.zip (pa_cons (pv 2) (pa_cons ((pe_slice (sl_tupAK (K := K) rfl) (pv 2) (po_some pe_int) po_none)) pa_nil))) (blkOk_by (N := ["history", "found", "row", "one", "other"]) (sc := defScope sChgIn) (by decide +kernel)) (fun _ _ _ _ _ => pg_tup rfl (pgs_cons (pg_name (i := 3) scChgIn.nd rfl (Or.inl rfl)) (pgs_cons (pg_name (i := 4) scChgIn.nd rfl (Or.inl rfl)) pgs_nil))) (fun _ _ _ _ _ => pts_nil) (fun _ _ _ _ _ => (pe_callTy call_int1 rfl N.int (by decide +kernel) (pa_cons ((pe_cmpR (op_ne) (pv 3) (pv 4) (nomark _))) pa_nil))))) pa_nil))) pa_nil))))) (pss_one (ps_ret ((pe_callTy call_tupleF rfl N.tup (by decide +kernel) (pa_cons (pv 1) pa_nil))))))), ?_⟩
    refine ⟨Nat.zero_le _, fun D hD => ?_⟩
    have s0 := same_new hD (.lst [])
    have hA' : ∀ {H'}, Same H H' → SqT K H' A (rfs as) ∨ SqL K H' A (rfs as) := fun s => by
      rcases hA with h | h
      · refine .inl ?_
        rcases h with (h | ⟨o, h⟩) | h
        · exact .inl (.inl (s _ _ h))
        · exact .inl (.inr ⟨o, s _ _ h⟩)
        · exact .inr h
      · exact .inr (s.seq h)
    have src : ∀ {H'}, Same H H' → Srcs K (as.map fun a => (a, false)) (rows.map nvs) H' := fun s j p e => by
      rw [List.getElem?_map] at e
      obtain ⟨a, e1, rfl⟩ := Option.map_eq_some_iff.mp e
      obtain ⟨r, e2, e3⟩ := hR.at_ _ _ e1
      exact ⟨nvs r, by rw [List.getElem?_map, e2]; rfl, Sq.t (e3.same s).sq⟩
    have la := hR.len
    have lr : 0 < rows.length := by rw [← la]; exact List.length_pos_iff.mpr h0
    have wk : Walk (ItzN K (as.map fun a => (a, false))) n (Srcs K (as.map fun a => (a, false)) (rows.map nvs)) (YZ (rows.map nvs)) :=
      walk_zipN (by simp [la]) (fun xs hx => by obtain ⟨r, hr, rfl⟩ := List.mem_map.mp hx; rw [nvs_length, hl r hr]; exact Nat.le_refl _) ⟨nvs rows[0], List.mem_map_of_mem (List.getElem_mem lr), by rw [nvs_length, hl _ (List.getElem_mem lr)]⟩
    refine ⟨_, rfl, A, rfs as, rfl, hA' s0, as.map fun a => (a, false), by simp [rfs], by simpa using h0, by simpa using h6, (src s0).ex,
      for_it wk (fun i σ H' => ∃ (E : Addr) (v2 : Option V), σ = [some (.ref A), some (.ref E), v2, none, none] ∧ Same H H' ∧ H E = none ∧ H' E = some (.lst (nvs ((List.range i).map fun i => chg (col rows i)))))
      ⟨D, none, rfl, s0, hD, upd_same⟩ (fun i σ H' _ ⟨_, _, _, s3, _⟩ => src s3) ?_ ?_⟩
    · rintro i x σ H3 H4 hi ⟨E, v2, rfl, s3, hE, eE⟩ y
      obtain ⟨T, rfl, hT, rfl⟩ := YZ.col (H := H3) y hl hi
      have sT := same_new hT (.tup (nvs (col rows i)))
      have lc : (col rows i).length = rows.length := by simp [col]
      obtain ⟨m, hm⟩ : ∃ m, rows.length = m + 1 := ⟨rows.length - 1, by omega⟩
      obtain ⟨x, xs, ex⟩ : ∃ x xs, nvs (col rows i) = x :: xs := by
        cases e : nvs (col rows i) with
        | nil => have := congrArg List.length e; rw [nvs_length, lc, List.length_nil] at this; omega
        | cons x xs => exact ⟨x, xs, rfl⟩
      have lx : xs.length = m := by have := congrArg List.length ex; rw [nvs_length, lc] at this; simp at this; omega
      have eT : (upd H3 T (.tup (nvs (col rows i)))) T = some (.tup (nvs (col rows i))) := upd_same
      refine ⟨_, rfl, .inl ⟨rfl, _, SqL.of (sT _ _ eE)⟩, _, rfl, _, rfl, _, rfl, ?_⟩
      unfold tNoPart
      refine sl_tail (x := x) (xs := xs) (SqT.of (by rw [← ex]; exact eT)) fun p hp => ?_
      have sp := same_new hp (.tup xs)
      refine ⟨[(T, false), (p, false)], rfl, by simp, by simp, (Srcs.two (Sq.t (SqT.of (sp _ _ eT))) (Sq.t (SqT.of upd_same))).ex, fun D2 hD2 => ?_⟩
      refine lc_map (walk_zip2' (n := m) (by rw [nvs_length, lc]; omega) lx) (fun j => V.int ((if (col rows i).getD j 0 = (col rows i).getD (j + 1) 0 then 0 else 1 : Nat) : Int)) hD2 (by omega)
        (fun H' s => Srcs.two (Sq.t (SqT.of (s _ _ (sp _ _ eT)))) (Sq.t (SqT.of (s _ _ upd_same)))) (fun i H x H' _ _ y => y.same) (fun j z H5 H6 R hj s5 y s6 rr => ?_) (fun H5 s5 e6 => ?_)
      · have g1 := col_get (rows := rows) (i := i) (j := j) (by omega)
        have g2 : xs[j]? = some (.int ((col rows i).getD (j + 1) 0 : Nat)) := by
          have := col_get (rows := rows) (i := i) (j := j + 1) (by omega)
          rw [ex] at this
          simpa using this
        obtain ⟨U, rfl, _, rfl⟩ := y.pair g1 g2
        refine g_two rfl upd_same ?_
        refine ⟨rfl, _, rfl, _, rfl, rfl, .inr ⟨_, rfl, rr _ _ (Same.refl _) ?_⟩⟩
        by_cases e : (col rows i).getD j 0 = (col rows i).getD (j + 1) 0
        · rw [if_pos e, decide_eq_true (congrArg (fun z : Nat => V.int z) e)]; rfl
        · have e' : ¬ (((col rows i).getD j 0 : Nat) : Int) = (((col rows i).getD (j + 1) 0 : Nat) : Int) := by omega
          rw [if_neg e, decide_eq_false fun z => e' (V.int.inj z)]; rfl
      · refine ⟨D2, (List.range m).map fun j => ((if (col rows i).getD j 0 = (col rows i).getD (j + 1) 0 then 0 else 1 : Nat) : Int), rfl, SqL.of (by rw [e6, List.map_map]; rfl), ?_⟩
        rw [chg_sum _ m (by rw [lc, hm])]
        have s7 := sT.trans (sp.trans s5)
        refine ⟨E, _, _, rfl, rfl, s7 _ _ eE, ?_, ?_⟩
        · rw [nvs_length]; simp; exact small1000 (by omega)
        · refine ⟨E, _, rfl, same_put hE (s3.trans s7) _, hE, ?_⟩
          rw [upd_same, List.range_succ]
          simp [nvs]
    · rintro σ H3 ⟨E, v2, rfl, s3, hE, eE⟩
      refine ⟨_, rfl, E, _, rfl, SqL.of eE, fun l o hl ho => q _ l (s3.trans (same_new hl _)) (s3.free hl) ?_⟩
      exact Tn.new ho
theorem scChgOf : FnScope ["allocations", "history"] ["allocations", "history"] (defScope sChgOf) := ⟨rfl, rfl, rfl, by decide +kernel, rfl, by decide +kernel, by decide +kernel⟩
theorem ok_chgOf {f : Addr} {fd : FuncData} (F : Fun K "changes_of" "changes_of" sChgOf f fd) (c1 : Ci mg "MOST_ALLOCATIONS" 10) (O1 : Ok P w K mg base "check_series" ["allocations", "most"] 4 spChkSeries) (O2 : Ok P w K mg base "check_table" ["allocations", "value", "name"] 5 spChkTable)
    (O3 : Ok P w K mg base "wrong_step_in" ["allocations", "table"] 3 spWrong) (O4 : Ok P w K mg base "changes_in" ["history"] 1 (spChgIn K)) : FnOk P w K mg base CX0 6 f fd ["allocations", "history"] spChgOf := by
  refine F.ok scChgOf (fun vs H Q E h => ?_) (fun cdv A outer s H vs Q E hr h => ?_)
  · obtain ⟨A, B, rows, tbl, k, n, rfl, _⟩ := h; rfl
  · obtain ⟨A, B, rows, tbl, k, n, rfl, hA, hB, g, T, q⟩ := h
    have hr4 : Room 4 _ := hr.mono (by decide)
    have hr3 : Room 3 _ := hr.mono (by decide)
    have hr1 : Room 1 _ := hr.mono (by decide)
    refine ⟨_, (pss_cons (ps_expr (pe_ok O1 hr4 rfl (pa_cons (pv 0) (pa_cons (pe_gi rfl c1) pa_nil)))) (pss_cons (ps_expr (pe_ok O2 hr rfl (pa_cons (pv 0) (pa_cons (pv 1) (pa_cons (pe_str) pa_nil))))) (pss_cons (ps_if ((pt_cmpR (op_notN) ((pe_ok O3 hr3 rfl (pa_cons (pv 0) (pa_cons (pv 1) pa_nil)))) (pe_non) (nomark _))) (pss_one ps_never) pss_nil) (pss_one (ps_ret ((pe_ok O4 hr1 rfl (pa_cons (pv 1) pa_nil)))))))), ?_⟩
    have g6 := g.r6
    have g1 := g.r1
    have g4 := g.n4
    have tl := T.len
    have tok : TblOk k n rows tbl := ⟨T.len, fun i a r e1 e2 => by
      have h1 := (List.getElem?_eq_some_iff.mp e1).1
      have := T.ok i h1
      rw [rowAt_of e1, rowAt_of e2] at this
      exact this⟩
    refine ⟨_, rfl, A, rows, k, n, 10, rfl, hA, g, by omega, fun H1 s1 => ?_⟩
    refine ⟨_, rfl, _, rfl, A, B, _, rows, tbl, k, n, rfl, hA.same s1, hB.same s1, g, tok, fun H2 s2 => ?_⟩
    have s12 := s1.trans s2
    refine ⟨_, rfl, _, rfl, A, B, rows, tbl, k, n, rfl, hA.same s12, hB.same s12, g, T, fun H3 s3 => ⟨rfl, _, rfl, ?_⟩⟩
    refine iteF ?_
    have s13 := s12.trans s3
    obtain ⟨bs, hB2, hS⟩ := hB.same s13
    refine ⟨_, rfl, B, bs, tbl, n, rfl, .inl (SqT.of hB2), hS, fun e => ?_, by rw [hS.len]; omega, fun r hr => ?_, by omega, fun H4 p s4 hp t => q _ p (s13.trans s4) (s13.free hp) t⟩
    · have := hS.len
      rw [e] at this; simp at this; omega
    · obtain ⟨i, hi, rfl⟩ := List.mem_iff_getElem.mp hr
      have := (T.ok i (by omega)).len
      rw [rowAt_eq hi] at this
      exact this
end
end LW
end

section
set_option Elab.async false
set_option linter.all false
set_option autoImplicit false
set_option maxRecDepth 100000
namespace LW
open PySem L2 LM LX
/-! ### the class Step -/
abbrev sStInit : Stmt := inClass (top 34) 0
abbrev sStOpts : Stmt := inClass (top 34) 1
abbrev sStTake : Stmt := inClass (top 34) 2
def f1 (lv : Addr) : List (Str × V) := putF "leaving" (.ref lv) []
def f2 (lv en : Addr) : List (Str × V) := putF "entering" (.ref en) (f1 lv)
def f3 (lv en ar : Addr) : List (Str × V) := putF "assignment" (.ref ar) (f2 lv en)
def f4 (lv en ar fr : Addr) : List (Str × V) := putF "free" (.ref fr) (f3 lv en ar)
def f5 (lv en ar fr wt : Addr) : List (Str × V) := putF "waiting" (.ref wt) (f4 lv en ar fr)
theorem lk_put {f m : Str} {v : V} {fs : List (Str × V)} (h : m = f) : (putF f v fs).lookup m = some v := by rw [lookup_putF, if_pos h]
theorem lk_ne {f m : Str} {v : V} {fs : List (Str × V)} (h : ¬ m = f) : (putF f v fs).lookup m = fs.lookup m := by rw [lookup_putF, if_neg h]
section
variable (lv en ar fr wt : Addr)
theorem f5_w : (f5 lv en ar fr wt).lookup ("waiting" : Str) = some (.ref wt) := lk_put rfl
theorem f5_f : (f5 lv en ar fr wt).lookup ("free" : Str) = some (.ref fr) := by
  unfold f5 f4
  rw [lk_ne (by decide +kernel), lk_put rfl]
theorem f5_a : (f5 lv en ar fr wt).lookup ("assignment" : Str) = some (.ref ar) := by
  unfold f5 f4 f3
  rw [lk_ne (by decide +kernel), lk_ne (by decide +kernel), lk_put rfl]
theorem f5_e : (f5 lv en ar fr wt).lookup ("entering" : Str) = some (.ref en) := by
  unfold f5 f4 f3 f2
  rw [lk_ne (by decide +kernel), lk_ne (by decide +kernel), lk_ne (by decide +kernel), lk_put rfl]
theorem f5_l : (f5 lv en ar fr wt).lookup ("leaving" : Str) = some (.ref lv) := by
  unfold f5 f4 f3 f2 f1
  rw [lk_ne (by decide +kernel), lk_ne (by decide +kernel), lk_ne (by decide +kernel), lk_ne (by decide +kernel), lk_put rfl]
theorem f5_no {m : Str} (h1 : ¬ m = "waiting") (h2 : ¬ m = "free") (h3 : ¬ m = "assignment") (h4 : ¬ m = "entering") (h5 : ¬ m = "leaving") : (f5 lv en ar fr wt).lookup m = none := by
  unfold f5 f4 f3 f2 f1
  rw [lk_ne h1, lk_ne h2, lk_ne h3, lk_ne h4, lk_ne h5]; rfl
theorem putF_le (f : Str) (v : V) (fs : List (Str × V)) : (putF f v fs).length ≤ fs.length + 1 := by
  induction fs with
  | nil => exact Nat.le_refl _
  | cons x r ih =>
    obtain ⟨g, u⟩ := x
    by_cases e : g = f
    · have q : putF f v ((g, u) :: r) = (g, v) :: r := by
        show (if g = f then (g, v) :: r else (g, u) :: putF f v r) = _
        rw [if_pos e]
      rw [q]; simp
    · have q : putF f v ((g, u) :: r) = (g, u) :: putF f v r := by
        show (if g = f then (g, v) :: r else (g, u) :: putF f v r) = _
        rw [if_neg e]
      rw [q]; simp; omega
theorem f1_lt : (f1 lv).length < 1000 := by have := putF_le "leaving" (.ref lv) []; unfold f1; simp at this; omega
theorem f2_lt : (f2 lv en).length < 1000 := by
  have h1 := putF_le "leaving" (.ref lv) []
  have h2 := putF_le "entering" (.ref en) (f1 lv)
  unfold f2; unfold f1 at *; simp at h1; omega
theorem f3_lt : (f3 lv en ar).length < 1000 := by
  have h1 := putF_le "leaving" (.ref lv) []
  have h2 := putF_le "entering" (.ref en) (f1 lv)
  have h3 := putF_le "assignment" (.ref ar) (f2 lv en)
  unfold f3; unfold f2 f1 at *; simp at h1; omega
theorem f4_lt : (f4 lv en ar fr).length < 1000 := by
  have h1 := putF_le "leaving" (.ref lv) []
  have h2 := putF_le "entering" (.ref en) (f1 lv)
  have h3 := putF_le "assignment" (.ref ar) (f2 lv en)
  have h4 := putF_le "free" (.ref fr) (f3 lv en ar)
  unfold f4; unfold f3 f2 f1 at *; simp at h1; omega
end
/-- a Step at p -/
structure StepOk (C : Addr) (H : Hp) (p lv en ar fr wt : Addr) (row : List Nat) (fs : List Bool) (w l e : List Int) : Prop where
  ob : ∃ dx, H p = some (.ins C dx (f5 lv en ar fr wt))
  hl : H lv = some (.lst (l.map V.int))
  he : H en = some (.lst (e.map V.int))
  hw : H wt = some (.lst (w.map V.int))
  ha : Tn H ar row
  hf : H fr = some (.lst (fs.map V.bl))
  le : lv ≠ en
  lw : lv ≠ wt
  ew : en ≠ wt
  fl : fr ≠ lv
  fe : fr ≠ en
  fw : fr ≠ wt
theorem StepOk.same {C : Addr} {H H' : Hp} {p lv en ar fr wt : Addr} {row : List Nat} {fs : List Bool} {w l e : List Int} (h : StepOk C H p lv en ar fr wt row fs w l e) (s : Same H H') : StepOk C H' p lv en ar fr wt row fs w l e :=
  let ⟨dx, hd⟩ := h.ob
  ⟨⟨dx, s _ _ hd⟩, s _ _ h.hl, s _ _ h.he, s _ _ h.hw, h.ha.same s, s _ _ h.hf, h.le, h.lw, h.ew, h.fl, h.fe, h.fw⟩
/-- all but three lists -/
def But3 (x y z : Addr) (H H' : Hp) : Prop := ∀ b o, H b = some o → b ≠ x → b ≠ y → b ≠ z → H' b = some o
def But1 (x : Addr) (H H' : Hp) : Prop := ∀ b o, H b = some o → b ≠ x → H' b = some o
structure TxtS (K : PySem.W.Frag) (mg : Str → Option Value) (C : Addr) : Prop where
  cl : Cls K C
  nL : NoAttr K C "leaving"
  nE : NoAttr K C "entering"
  nA : NoAttr K C "assignment"
  nF : NoAttr K C "free"
  nW : NoAttr K C "waiting"
  mgC : mg "Step" = some (.ref C)
def spStep (C : Addr) : Sp := fun vs H Q _ => ∃ (p dx a b ar fr : Addr) (ns ms row : List Nat) (fs : List Bool) (k n : Nat), vs = [.ref p, .ref a, .ref b, .ref ar, .ref fr] ∧ H p = some (.ins C dx []) ∧ Tn H a ns ∧ Tn H b ms ∧ Tn H ar row ∧ H fr = some (.lst (fs.map V.bl)) ∧
  ns.length = k ∧ ms.length = k ∧ row.length = n ∧ fs.length = n ∧ (∀ x ∈ row, x < k) ∧ k ≤ 20 ∧ n ≤ 20 ∧
  ∀ H' lv en wt, StepOk C H' p lv en ar fr wt row fs (waits k (row.zip fs)) (decs ns ms) (decs ms ns) → H lv = none → H en = none → H wt = none → But1 p H H' → Q .non H'
def tW (w : List Int) (v : Nat) (f : Bool) (d : Int) : List Int := addAt w v (-(d * (if f = true then 1 else 0)))
def tL (l : List Int) (v o : Nat) (d : Int) : List Int := if o ≠ v then addAt l v (-d) else l
def tE (e : List Int) (v o : Nat) (d : Int) : List Int := if o ≠ v then addAt e o (-d) else e
def spTake (C : Addr) : Sp := fun vs H Q _ => ∃ (p lv en ar fr wt : Addr) (row : List Nat) (fs : List Bool) (w l e : List Int) (i o k : Nat) (d : Int), vs = [.ref p, .int i, .int o, .int d] ∧ StepOk C H p lv en ar fr wt row fs w l e ∧ i < row.length ∧ i < fs.length ∧ sh row i < k ∧ o < k ∧
  w.length = k ∧ l.length = k ∧ e.length = k ∧ (d = 1 ∨ d = -1) ∧
  ∀ H', StepOk C H' p lv en ar fr wt row fs (tW w (sh row i) (fs.getD i false) d) (tL l (sh row i) o d) (tE e (sh row i) o d) → But3 lv en wt H H' → Q .non H'
def spOpts (C : Addr) : Sp := fun vs H Q _ => ∃ (p lv en ar fr wt : Addr) (row : List Nat) (fs : List Bool) (w l e : List Int) (i k : Nat), vs = [.ref p, .int i] ∧ StepOk C H p lv en ar fr wt row fs w l e ∧ i < row.length ∧ i < fs.length ∧ sh row i < k ∧
  w.length = k ∧ l.length = k ∧ e.length = k ∧ k ≤ 20 ∧
  ∀ H' q, Same H H' → H q = none → H' q = some (.lst (nvs (opts w l e (sh row i) (fs.getD i false)))) → Q (.ref q) H'
theorem bl_get {fs : List Bool} {i : Nat} (h : i < fs.length) : (fs.map V.bl)[i]? = some (.bl (fs.getD i false)) := by simp [List.getD_eq_getElem?_getD, h]
theorem set_int {l : List Int} {v : Nat} (d z : Int) (h : z = nth l v + d) : (l.map V.int).set v (V.int z) = (addAt l v d).map V.int := by
  unfold addAt
  rw [List.map_set, h]
theorem set_sub (l : List Int) (v : Nat) (x : Int) : (l.map V.int).set v (V.int (nth l v - x)) = (addAt l v (-x)).map V.int := set_int _ _ (by omega)
theorem set_add (l : List Int) (v : Nat) (x : Int) : (l.map V.int).set v (V.int (nth l v + x)) = (addAt l v x).map V.int := set_int _ _ rfl
theorem ixN_nat {n v : Nat} (h : v < n) : ixN n (v : Int) = some v := by
  unfold ixN
  rw [if_pos (by omega), if_pos (by omega), Int.toNat_natCast]
section
variable {P : Program} {w : World} {K : PySem.W.Frag} {mg : Str → Option Value} {base : Heap}
theorem sq_int {H : Hp} {a : Addr} {l : List Int} (h : H a = some (.lst (l.map V.int))) : SqL K H a (l.map V.int) := SqL.of h
theorem scStTake : FnScope ["self", "bucket", "variant", "way", "own"] ["self", "bucket", "variant", "way"] (defScope sStTake) := ⟨rfl, rfl, rfl, by decide +kernel, rfl, by decide +kernel, by decide +kernel⟩
theorem ok_take {f C : Addr} {fd : FuncData} (F : Fun K "take" "Step.take" sStTake f fd) (N : Nm mg) (T : TxtS K mg C) : FnOk P w K mg base CX0 1 f fd ["self", "bucket", "variant", "way"] (spTake C) := by
  refine F.ok scStTake (fun vs H Q E h => ?_) (fun cdv A outer s H vs Q E hr h => ?_)
  · obtain ⟨p, lv, en, ar, fr, wt, row, fs, ws, l, e, i, o, k, d, rfl, _⟩ := h; rfl
  · obtain ⟨p, lv, en, ar, fr, wt, row, fs, ws, l, e, i, o, k, d, rfl, S, hi, hif, hv, ho, hwl, hll, hel, hd, q⟩ := h
    refine ⟨_, (pss_cons (ps_set (i := 4) scStTake.nd rfl (Or.inl rfl) ((pe_ix (ix_tupK (K := K) rfl) (pe_fld (pv 0) rfl) (pv 1) (fun _ _ => rfl)))) (pss_cons (ps_augS (pe_fld (pv 0) rfl) (pv 4) get_list (pe_op (op_mul) (pv 3) ((pe_callTy call_int1 rfl N.int (by decide +kernel) (pa_cons ((pe_ix (ix_listK (K := K) rfl) (pe_fld (pv 0) rfl) (pv 1) (fun _ _ => rfl))) pa_nil)))) ip_sub set_list) (pss_one (ps_if ((pt_cmpR (op_ne) (pv 2) (pv 4) (nomark _))) (pss_cons (ps_augS (pe_fld (pv 0) rfl) (pv 4) get_list (pv 3) ip_sub set_list) (pss_one (ps_augS (pe_fld (pv 0) rfl) (pv 2) get_list (pv 3) ip_sub set_list))) pss_nil)))), ?_⟩
    obtain ⟨dx, hp⟩ := S.ob
    have npl : p ≠ lv := ne_of hp S.hl (by intro z; cases z)
    have npe : p ≠ en := ne_of hp S.he (by intro z; cases z)
    have npw : p ≠ wt := ne_of hp S.hw (by intro z; cases z)
    obtain ⟨ob, hob, har⟩ := S.ha
    have nal : ar ≠ lv := ne_of har S.hl (by intro z; cases z)
    have nae : ar ≠ en := ne_of har S.he (by intro z; cases z)
    have naw : ar ≠ wt := ne_of har S.hw (by intro z; cases z)
    -- own = self.assignment[bucket]
    refine ⟨_, rfl, p, C, dx, _, _, rfl, hp, T.cl, T.nA, f5_a .., _, rfl, ar, _, _, _, rfl, rfl, S.ha.sq, nvs_at hi, ?_⟩
    -- self.waiting[own] -= way * int(self.free[bucket])
    refine ⟨_, rfl, p, C, dx, _, _, rfl, hp, T.cl, T.nW, f5_w .., _, rfl, wt, _, _, _, rfl, rfl, sq_int S.hw, by omega, (by rw [Int.toNat_natCast]; exact ivs_get (by omega)), ?_⟩
    refine ⟨_, rfl, _, rfl, p, C, dx, _, _, rfl, hp, T.cl, T.nF, f5_f .., _, rfl, fr, _, _, _, rfl, rfl, SqL.of S.hf, atI_nat (bl_get hif), .inr ⟨_, rfl, ?_⟩⟩
    refine ⟨_, _, rfl, rfl, .inl (by omega), ?_⟩
    refine ⟨_, _, rfl, rfl, wt, _, _, sh row i, rfl, rfl, S.hw, (by rw [List.length_map]; exact ixN_nat (by omega)), ?_⟩
    rw [set_sub]
    have S1 : StepOk C (upd H wt (.lst ((tW ws (sh row i) (fs.getD i false) d).map V.int))) p lv en ar fr wt row fs (tW ws (sh row i) (fs.getD i false) d) l e :=
      ⟨⟨dx, by rw [upd_ne npw]; exact hp⟩, by rw [upd_ne S.lw]; exact S.hl, by rw [upd_ne S.ew]; exact S.he, upd_same, ⟨ob, hob, by rw [upd_ne naw]; exact har⟩, by rw [upd_ne S.fw]; exact S.hf, S.le, S.lw, S.ew, S.fl, S.fe, S.fw⟩
    refine ⟨_, rfl, _, rfl, rfl, _, rfl, ?_⟩
    by_cases eq : o = sh row i
    · have e1 : (!decide (V.int (o : Int) = V.int (sh row i : Nat))) = false := by rw [eq]; simp
      rw [e1]
      refine iteF ?_
      have t1 : tL l (sh row i) o d = l := by unfold tL; rw [if_neg (by simp [eq])]
      have t2 : tE e (sh row i) o d = e := by unfold tE; rw [if_neg (by simp [eq])]
      rw [t1, t2] at q
      exact q _ S1 fun b o h h1 h2 h3 => by rw [upd_ne h3]; exact h
    · have e1 : (!decide (V.int (o : Int) = V.int (sh row i : Nat))) = true := by
        rw [decide_eq_false fun z => eq (Int.ofNat_inj.mp (V.int.inj z))]; rfl
      rw [e1]
      refine iteT ?_
      have t1 : tL l (sh row i) o d = addAt l (sh row i) (-d) := by unfold tL; rw [if_pos eq]
      have t2 : tE e (sh row i) o d = addAt e o (-d) := by unfold tE; rw [if_pos eq]
      rw [t1, t2] at q
      obtain ⟨dx1, hp1⟩ := S1.ob
      refine ⟨_, rfl, p, C, dx1, _, _, rfl, hp1, T.cl, T.nL, f5_l .., _, rfl, lv, _, _, _, rfl, rfl, sq_int S1.hl, by omega, (by rw [Int.toNat_natCast]; exact ivs_get (by omega)), ?_⟩
      refine ⟨_, rfl, _, _, rfl, rfl, lv, _, _, sh row i, rfl, rfl, S1.hl, (by rw [List.length_map]; exact ixN_nat (by omega)), ?_⟩
      rw [set_sub]
      obtain ⟨ob1, hob1, har1⟩ := S1.ha
      refine ⟨_, rfl, p, C, dx1, _, _, rfl, (by rw [upd_ne npl]; exact hp1), T.cl, T.nE, f5_e .., _, rfl, en, _, _, _, rfl, rfl, sq_int (by rw [upd_ne S.le.symm]; exact S1.he), by omega, (by rw [Int.toNat_natCast]; exact ivs_get (by omega)), ?_⟩
      refine ⟨_, rfl, _, _, rfl, rfl, en, _, _, o, rfl, rfl, (by rw [upd_ne S.le.symm]; exact S1.he), (by rw [List.length_map]; exact ixN_nat (by omega)), ?_⟩
      rw [set_sub]
      refine q _ ⟨⟨dx1, by rw [upd_ne npe, upd_ne npl]; exact hp1⟩, by rw [upd_ne S.le, upd_same], upd_same, by rw [upd_ne S.ew.symm, upd_ne S.lw.symm]; exact S1.hw, ⟨ob1, hob1, by rw [upd_ne nae, upd_ne nal]; exact har1⟩, by rw [upd_ne S.fe, upd_ne S.fl]; exact S1.hf, S.le, S.lw, S.ew, S.fl, S.fe, S.fw⟩ fun b o h h1 h2 h3 => ?_
      rw [upd_ne h2, upd_ne h1, upd_ne h3]; exact h
end
end LW
end

section
set_option Elab.async false
set_option linter.all false
set_option autoImplicit false
set_option maxRecDepth 100000
namespace LW
open PySem L2 LM LX
/-! ### a comprehension with a test -/
section
variable {J : It} {n : Nat} {G : Hp → Prop} {Y : Nat → Hp → V → Hp → Prop}
theorem lc_filter {g : TG} {tt : TT} {te : TE} {vs : List Nat} {σ : L2.St} {H1 : Hp} {D : Addr} {Qd : Hp → Prop} (w : Walk J n G Y) (p : Nat → Bool) (f : Nat → V) (hD : H1 D = none) (hn : n ≤ 1000) (hG : ∀ H, Same H1 H → G H) (hY : ∀ i H x H', i < n → G H → Y i H x H' → Same H H')
    (hs : ∀ i x H H' (R : V → Hp → Prop) (R' : Hp → Prop), i < n → Same H1 H → Y i H x H' → Same H1 H' → (p i = true → ∀ y H3, Same H' H3 → y = f i → R y H3) → (p i = false → ∀ H3, Same H' H3 → R' H3) → g x (wipe σ vs) H' fun σ2 H2 => wipe σ2 vs = wipe σ vs ∧ tt σ2 H2 fun b H3 => if b = true then te σ2 H3 R else R' H3)
    (hd : ∀ H, Same H1 H → H D = some (.lst (((List.range n).filter p).map f)) → Qd H) :
    ∃ W : Nat → Nat → Hp → Prop, (∃ m, W 0 m (upd H1 D (.lst []))) ∧ ∀ i m H, W i m H →
      (J.stop i H ∧ Qd H) ∨ (J.go i H ∧ ∃ Nx : Hp → Prop, (∀ H', Nx H' → ∃ m', m' < m ∧ W (i + 1) m' H') ∧ ∀ x H', J.yld i H x H' → g x (wipe σ vs) H' fun σ2 H2 => wipe σ2 vs = wipe σ vs ∧ tt σ2 H2 fun b H3 =>
        if b = true then te σ2 H3 fun y H4 => ∃ acc, H4 D = some (.lst acc) ∧ acc.length < sizeLine ∧ Nx (upd H4 D (.lst (acc ++ [y]))) else Nx H3) := by
  refine lc_it w (fun i H => Same H1 H ∧ H D = some (.lst (((List.range i).filter p).map f))) ⟨same_new hD _, by rw [upd_same]; rfl⟩ (fun i H _ p => hG H p.1) (fun i x H H' hi q y => ?_) fun H p => hd H p.1 p.2
  have sH := hY i H x H' hi (hG H q.1) y
  have S1 := q.1.trans sH
  have eD := sH _ _ q.2
  refine hs i x H H' _ _ hi q.1 y S1 (fun hp v H3 s3 e => ?_) fun hp H3 s3 => ?_
  · refine ⟨_, s3 _ _ eD, ?_, same_put hD (S1.trans s3) _, ?_⟩
    · rw [List.length_map]
      have := List.length_filter_le p (List.range i)
      rw [List.length_range] at this
      exact small1000 (by omega)
    · rw [upd_same, List.range_succ, List.filter_append, List.map_append, e]
      simp [hp]
  · refine ⟨S1.trans s3, ?_⟩
    rw [s3 _ _ eD, List.range_succ, List.filter_append]
    simp [hp]
end
/-! ### the options, sorted -/
def ints' (l : List Nat) : List Int := l.map fun (x : Nat) => (x : Int)
theorem srt_perm (l : List Nat) : (srt l).Perm l := List.mergeSort_perm l _
theorem srt_sorted (l : List Nat) : (srt l).Pairwise (· ≤ ·) := by
  have := List.pairwise_mergeSort (le := fun (a b : Nat) => decide (a ≤ b)) (by intro a b c h1 h2; simp at *; omega) (by intro a b; simp; omega) l
  exact this.imp fun h => by simpa using h
theorem sorted_is {l : List Nat} {ns' : List Int} (hp : ns'.Perm (ints' l)) (hs : ns'.Pairwise (· ≤ ·)) : ns' = ints' (srt l) := by
  refine (hp.trans ((srt_perm l).symm.map _)).eq_of_pairwise (fun x y _ _ h1 h2 => Int.le_antisymm h1 h2) hs ?_
  unfold ints'
  rw [List.pairwise_map]
  exact (srt_sorted l).imp fun h => by omega
theorem nvs_ints (l : List Nat) : nvs l = (ints' l).map V.int := nvs_map l
theorem raw_len {w l e : List Int} {v : Nat} : (rawOpts w l e v).length ≤ 1 + e.length := by
  unfold rawOpts posOf
  have := List.length_filter_le (fun i => decide (0 < nth e i)) (List.range e.length)
  rw [List.length_range] at this
  rw [List.length_append]
  split <;> split <;> simp <;> omega
section
variable {P : Program} {w : World} {K : PySem.W.Frag} {mg : Str → Option Value} {base : Heap}
theorem scStOpts : FnScope ["self", "bucket", "variant", "found", "other", "many"] ["self", "bucket"] (defScope sStOpts) := ⟨rfl, rfl, rfl, by decide +kernel, rfl, by decide +kernel, by decide +kernel⟩
theorem ok_opts {f C : Addr} {fd : FuncData} (F : Fun K "options" "Step.options" sStOpts f fd) (N : Nm mg) (T : TxtS K mg C) : FnOk P w K mg base CX0 1 f fd ["self", "bucket"] (spOpts C) := by
  refine F.ok scStOpts (fun vs H Q E h => ?_) (fun cdv A outer s H vs Q E hr h => ?_)
  · obtain ⟨p, lv, en, ar, fr, wt, row, fs, ws, l, e, i, k, rfl, _⟩ := h; rfl
  · obtain ⟨p, lv, en, ar, fr, wt, row, fs, ws, l, e, i, k, rfl, S, hi, hif, hv, hwl, hll, hel, h20, q⟩ := h
    refine ⟨_, (pss_cons (ps_set (i := 2) scStOpts.nd rfl (Or.inl rfl) ((pe_ix (ix_tupK (K := K) rfl) (pe_fld (pv 0) rfl) (pv 1) (fun _ _ => rfl)))) (pss_cons (ps_if (pt_not (pt_val (pe_ix (ix_listK (K := K) rfl) (pe_fld (pv 0) rfl) (pv 1) (fun _ _ => rfl)))) (pss_one (ps_ret (pe_lst (pa_cons (pv 2) pa_nil)))) pss_nil) (pss_cons (ps_set (i := 3) scStOpts.nd rfl (Or.inl rfl) (pe_ifExp (pt_cmpR (op_gt) ((pe_ix (ix_listK (K := K) rfl) (pe_fld (pv 0) rfl) (pv 2) (fun _ _ => rfl))) ((pe_ix (ix_listK (K := K) rfl) (pe_fld (pv 0) rfl) (pv 2) (fun _ _ => rfl))) (nomark _)) (pe_lst (pa_cons (pv 2) pa_nil)) (pe_lst pa_nil))) (pss_cons (ps_if ((pt_cmpR (op_gt) ((pe_ix (ix_listK (K := K) rfl) (pe_fld (pv 0) rfl) (pv 2) (fun _ _ => rfl))) (pe_int) (nomark _))) (pss_one (ps_set (i := 3) scStOpts.nd rfl (Or.inl rfl) ((pe_op (op_cat) (pv 3) ((pe_lc (own := [("other", 4), ("many", 5)]) (g := gTup K 2 (gCons (gName 4) (gCons (gName 5) gNil))) rfl scStOpts.nd (pi_enum rfl N.enu (pa_cons (pe_fld (pv 0) rfl) pa_nil)) (blkOk_by (N := ["self", "bucket", "variant", "found", "other", "many"]) (sc := defScope sStOpts) (by decide +kernel)) (fun _ _ _ _ _ => pg_tup rfl (pgs_cons (pg_name (i := 4) scStOpts.nd rfl (Or.inl rfl)) (pgs_cons (pg_name (i := 5) scStOpts.nd rfl (Or.inl rfl)) pgs_nil))) (fun _ _ _ _ _ => pts_one ((pt_cmpR (op_gt) (pv 5) (pe_int) (nomark _)))) (fun _ _ _ _ _ => pv 4))))))) pss_nil) (pss_one (ps_ret (pe_callB cr_sorted rfl N.srt (by decide +kernel) (pa_cons (pv 3) pa_nil)))))))), ?_⟩
    obtain ⟨dx, hp⟩ := S.ob
    refine ⟨_, rfl, p, C, dx, _, _, rfl, hp, T.cl, T.nA, f5_a .., _, rfl, ar, _, _, _, rfl, rfl, S.ha.sq, nvs_at hi, ?_⟩
    refine ⟨_, rfl, p, C, dx, _, _, rfl, hp, T.cl, T.nF, f5_f .., _, rfl, fr, _, _, _, rfl, rfl, SqL.of S.hf, atI_nat (bl_get hif), _, rfl, ?_⟩
    cases hf : fs.getD i false with
    | false =>
      rw [hf] at q
      refine iteT ?_
      refine ⟨_, rfl, (by show 1 ≤ sizeLine; decide), fun z hz => q _ z (same_new hz _) hz ?_⟩
      rw [upd_same]; rfl
    | true =>
      rw [hf] at q
      refine iteF ?_
      have fin : ∀ (D : Addr) (raw : List Nat) (H' : Hp), raw = rawOpts ws l e (sh row i) → Same H H' → H' D = some (.lst (nvs raw)) → rSorted K [.ref D] H' Q := by
        intro D raw H' er s' eD
        refine ⟨D, ints' raw, rfl, SqL.of (by rw [eD, nvs_ints]), ?_, fun ns' z hpm hst hz => ?_⟩
        · have := raw_len (w := ws) (l := l) (e := e) (v := sh row i)
          rw [← er] at this
          simp [ints']; omega
        · refine q _ z (s'.trans (same_new hz _)) (s'.free hz) ?_
          rw [upd_same, sorted_is hpm hst, nvs_ints, er]; rfl
      refine ⟨_, rfl, p, C, dx, _, _, rfl, hp, T.cl, T.nW, f5_w .., _, rfl, wt, _, _, _, rfl, rfl, sq_int S.hw, ivs_at (by omega), _, rfl, p, C, dx, _, _, rfl, hp, T.cl, T.nL, f5_l .., _, rfl, lv, _, _, _, rfl, rfl, sq_int S.hl, ivs_at (by omega), _, _, rfl, rfl, _, rfl, ?_⟩
      refine ite2 (fun c => ?_) (fun c => ?_)
      · have c' : nth ws (sh row i) > nth l (sh row i) := of_decide_eq_true c
        refine ⟨_, rfl, (by show 1 ≤ sizeLine; decide), fun D hD => ?_⟩
        have s1 := same_new hD (.lst [.int (sh row i : Nat)])
        have S1 := S.same s1
        obtain ⟨dx1, hp1⟩ := S1.ob
        refine ⟨_, rfl, p, C, dx1, _, _, rfl, hp1, T.cl, T.nL, f5_l .., _, rfl, lv, _, _, _, rfl, rfl, sq_int S1.hl, ivs_at (by omega), _, _, rfl, rfl, _, rfl, ?_⟩
        refine ite2 (fun c2 => ?_) (fun c2 => ?_)
        · have c2' : nth l (sh row i) > 0 := of_decide_eq_true c2
          refine ⟨_, rfl, _, rfl, p, C, dx1, _, _, rfl, hp1, T.cl, T.nE, f5_e .., en, _, rfl, sq_int S1.he, fun D2 hD2 => ?_⟩
          refine lc_filter walk_enum (fun j => decide (0 < nth e j)) (fun j => V.int (j : Nat)) hD2 (by simp; omega) (fun H' s => sq_int (s _ _ S1.he)) (fun i H x H' _ _ y => YPair.same y) (fun j x H5 H6 R R' hj s5 y s6 r1 r2 => ?_) (fun H5 s5 e6 => ?_)
          · have hj' : j < e.length := by simpa using hj
            obtain ⟨U, rfl, _, rfl⟩ := YPair.pair (H := H5) y rfl (ivs_get hj')
            refine g_two rfl upd_same ?_
            refine ⟨rfl, _, rfl, _, _, rfl, rfl, _, rfl, ?_⟩
            refine ite2 (fun c3 => ?_) (fun c3 => ?_)
            · exact ⟨_, rfl, r1 c3 _ _ (Same.refl _) rfl⟩
            · exact r2 (by simpa using c3) _ (Same.refl _)
          · have lE : ((List.range (e.map V.int).length).filter fun j => decide (0 < nth e j)) = posOf e := by rw [List.length_map]; rfl
            rw [lE] at e6
            have eD1 : H5 D = some (.lst (nvs [sh row i])) := s5 _ _ upd_same
            refine ⟨D, D2, _, _, rfl, rfl, eD1, e6, ?_, fun D3 hD3 => ⟨_, rfl, ?_⟩⟩
            · have : (posOf e).length ≤ e.length := by unfold posOf; have := List.length_filter_le (fun i => decide (0 < nth e i)) (List.range e.length); rw [List.length_range] at this; exact this
              rw [List.length_map, nvs_length, List.length_singleton]
              exact small (by omega)
            · refine fin D3 ([sh row i] ++ posOf e) _ ?_ ((s1.trans s5).trans (same_new hD3 _)) ?_
              · unfold rawOpts; rw [if_pos c', if_pos c2']
              · rw [upd_same]; simp [nvs]
        · have c2' : ¬ 0 < nth l (sh row i) := fun z => c2 (decide_eq_true z)
          refine ⟨_, rfl, fin D [sh row i] _ ?_ s1 upd_same⟩
          unfold rawOpts; rw [if_pos c', if_neg c2']; simp
      · have c' : ¬ nth l (sh row i) < nth ws (sh row i) := fun z => c (decide_eq_true z)
        refine ⟨Nat.zero_le _, fun D hD => ?_⟩
        have s1 := same_new hD (.lst [])
        have S1 := S.same s1
        obtain ⟨dx1, hp1⟩ := S1.ob
        refine ⟨_, rfl, p, C, dx1, _, _, rfl, hp1, T.cl, T.nL, f5_l .., _, rfl, lv, _, _, _, rfl, rfl, sq_int S1.hl, ivs_at (by omega), _, _, rfl, rfl, _, rfl, ?_⟩
        refine ite2 (fun c2 => ?_) (fun c2 => ?_)
        · have c2' : nth l (sh row i) > 0 := of_decide_eq_true c2
          refine ⟨_, rfl, _, rfl, p, C, dx1, _, _, rfl, hp1, T.cl, T.nE, f5_e .., en, _, rfl, sq_int S1.he, fun D2 hD2 => ?_⟩
          refine lc_filter walk_enum (fun j => decide (0 < nth e j)) (fun j => V.int (j : Nat)) hD2 (by simp; omega) (fun H' s => sq_int (s _ _ S1.he)) (fun i H x H' _ _ y => YPair.same y) (fun j x H5 H6 R R' hj s5 y s6 r1 r2 => ?_) (fun H5 s5 e6 => ?_)
          · have hj' : j < e.length := by simpa using hj
            obtain ⟨U, rfl, _, rfl⟩ := YPair.pair (H := H5) y rfl (ivs_get hj')
            refine g_two rfl upd_same ?_
            refine ⟨rfl, _, rfl, _, _, rfl, rfl, _, rfl, ?_⟩
            refine ite2 (fun c3 => ?_) (fun c3 => ?_)
            · exact ⟨_, rfl, r1 c3 _ _ (Same.refl _) rfl⟩
            · exact r2 (by simpa using c3) _ (Same.refl _)
          · have lE : ((List.range (e.map V.int).length).filter fun j => decide (0 < nth e j)) = posOf e := by rw [List.length_map]; rfl
            rw [lE] at e6
            have eD1 : H5 D = some (.lst (nvs [])) := s5 _ _ upd_same
            refine ⟨D, D2, _, _, rfl, rfl, eD1, e6, ?_, fun D3 hD3 => ⟨_, rfl, ?_⟩⟩
            · have : (posOf e).length ≤ e.length := by unfold posOf; have := List.length_filter_le (fun i => decide (0 < nth e i)) (List.range e.length); rw [List.length_range] at this; exact this
              rw [List.length_map, nvs_length, List.length_nil]
              exact small (by omega)
            · refine fin D3 ([] ++ posOf e) _ ?_ ((s1.trans s5).trans (same_new hD3 _)) ?_
              · unfold rawOpts; rw [if_neg c', if_pos c2']
              · rw [upd_same]; simp [nvs]
        · have c2' : ¬ 0 < nth l (sh row i) := fun z => c2 (decide_eq_true z)
          refine ⟨_, rfl, fin D [] _ ?_ s1 upd_same⟩
          unfold rawOpts; rw [if_neg c', if_neg c2']; simp
end
end LW
end

section
set_option Elab.async false
set_option linter.all false
set_option autoImplicit false
set_option maxRecDepth 100000
namespace LW
open PySem L2 LM LX
theorem But1.same {p : Addr} {H H1 H2 : Hp} (h : But1 p H H1) (s : Same H1 H2) : But1 p H H2 := fun b o e n => s _ _ (h b o e n)
theorem But1.put {p : Addr} {H H1 : Hp} (h : But1 p H H1) (o : HO) : But1 p H (upd H1 p o) := fun b u e n => by rw [upd_ne n]; exact h b u e n
theorem But1.free {p : Addr} {H H1 : Hp} (h : But1 p H H1) {u : HO} (hp : H1 p = some u) {x : Addr} (hx : H1 x = none) : H x = none := by
  cases e : H x with
  | none => rfl
  | some o =>
    have n : x ≠ p := fun z => by rw [z, hp] at hx; cases hx
    rw [h x o e n] at hx; cases hx
theorem Same.but {p : Addr} {H H1 : Hp} (h : Same H H1) : But1 p H H1 := fun b o e _ => h b o e
theorem But1.sh {p : Addr} {H H1 : Hp} (h : But1 p H H1) {a : Addr} {ns : List Nat} (t : Tn H a ns) (n : a ≠ p) : Tn H1 a ns := let ⟨o, h1, h2⟩ := t; ⟨o, h1, h _ _ h2 n⟩
theorem Tn.ne {H : Hp} {a b : Addr} {ns : List Nat} (t : Tn H a ns) {u : HO} (h : H b = some u) (hu : ∀ o x, u ≠ .frz o x) : a ≠ b := fun e => by
  obtain ⟨o, _, h2⟩ := t
  rw [e, h] at h2
  cases h2
  exact hu _ _ rfl
theorem decs_range {ns ms : List Nat} {k : Nat} (h1 : ns.length = k) (h2 : ms.length = k) : ((List.range k).map fun i => V.int ((sh ns i - sh ms i : Nat) : Int)) = (decs ns ms).map V.int := by
  refine List.ext_getElem (by simp [decs_length h1 h2]) fun i g1 g2 => ?_
  have hi : i < k := by simpa using g1
  have := nth_decs h1 h2 i
  rw [nth_eq (by rw [decs_length h1 h2]; exact hi)] at this
  simp [this]
theorem zeros_range (k : Nat) : ((List.range k).map fun _ => V.int 0) = (List.replicate k (0 : Int)).map V.int := by
  refine List.ext_getElem (by simp) fun i g1 g2 => by simp
theorem waits_take {k : Nat} {ps : List (Nat × Bool)} {i : Nat} {p : Nat × Bool} (h : ps[i]? = some p) : waits k (ps.take (i + 1)) = addAt (waits k (ps.take i)) p.1 (if p.2 = true then 1 else 0) := by
  unfold waits
  rw [List.take_add_one, h, List.foldl_append]; rfl
section
variable {P : Program} {w : World} {K : PySem.W.Frag} {mg : Str → Option Value} {base : Heap}
theorem scStInit : FnScope ["self", "before", "behind", "assignment", "free", "variant", "is_free", "a", "b", "_"] ["self", "before", "behind", "assignment", "free"] (defScope sStInit) := ⟨rfl, rfl, rfl, by decide +kernel, rfl, by decide +kernel, by decide +kernel⟩
theorem ok_stInit {f C : Addr} {fd : FuncData} (F : Fun K "__init__" "Step.__init__" sStInit f fd) (N : Nm mg) (T : TxtS K mg C) : FnOk P w K mg base CX0 1 f fd ["self", "before", "behind", "assignment", "free"] (spStep C) := by
  refine F.ok scStInit (fun vs H Q E h => ?_) (fun cdv A outer s H vs Q E hr h => ?_)
  · obtain ⟨p, dx, a, b, ar, fr, ns, ms, row, fs, k, n, rfl, _⟩ := h; rfl
  · obtain ⟨p, dx, a, b, ar, fr, ns, ms, row, fs, k, n, rfl, hp, hA, hB, hR, hF, l1, l2, l3, l4, lt, hk, hn, q⟩ := h
    refine ⟨_, (pss_cons (ps_fld (pv 0) (pe_lc (own := [("a", 7), ("b", 8)]) (g := gTup K 2 (gCons (gName 7) (gCons (gName 8) gNil))) (tt := tYes) rfl scStInit.nd (pi_zipN rfl N.zip (pa_cons (pv 1) (pa_cons (pv 2) pa_nil))) (blkOk_by (N := ["self", "before", "behind", "assignment", "free", "variant", "is_free", "a", "b", "_"]) (sc := defScope sStInit) (by decide +kernel)) (fun _ _ _ _ _ => pg_tup rfl (pgs_cons (pg_name (i := 7) scStInit.nd rfl (Or.inl rfl)) (pgs_cons (pg_name (i := 8) scStInit.nd rfl (Or.inl rfl)) pgs_nil))) (fun _ _ _ _ _ => pts_nil) (fun _ _ _ _ _ => (pe_callB (call_max2 rfl) rfl N.max (by decide +kernel) (pa_cons (pe_int) (pa_cons ((pe_op (op_sub) (pv 7) (pv 8))) pa_nil))))) rfl) (pss_cons (ps_fld (pv 0) (pe_lc (own := [("a", 7), ("b", 8)]) (g := gTup K 2 (gCons (gName 7) (gCons (gName 8) gNil))) (tt := tYes) rfl scStInit.nd (pi_zipN rfl N.zip (pa_cons (pv 1) (pa_cons (pv 2) pa_nil))) (blkOk_by (N := ["self", "before", "behind", "assignment", "free", "variant", "is_free", "a", "b", "_"]) (sc := defScope sStInit) (by decide +kernel)) (fun _ _ _ _ _ => pg_tup rfl (pgs_cons (pg_name (i := 7) scStInit.nd rfl (Or.inl rfl)) (pgs_cons (pg_name (i := 8) scStInit.nd rfl (Or.inl rfl)) pgs_nil))) (fun _ _ _ _ _ => pts_nil) (fun _ _ _ _ _ => (pe_callB (call_max2 rfl) rfl N.max (by decide +kernel) (pa_cons (pe_int) (pa_cons ((pe_op (op_sub) (pv 8) (pv 7))) pa_nil))))) rfl) (pss_cons (ps_fld (pv 0) (pv 3) rfl) (pss_cons (ps_fld (pv 0) (pv 4) rfl) (pss_cons (ps_fld (pv 0) (pe_lc (own := [("_", 9)]) (g := gName 9) (tt := tYes) rfl scStInit.nd (pi_tup (pv 1)) (blkOk_by (N := ["self", "before", "behind", "assignment", "free", "variant", "is_free", "a", "b", "_"]) (sc := defScope sStInit) (by decide +kernel)) (fun _ _ _ _ _ => pg_name (i := 9) scStInit.nd rfl (Or.inl rfl)) (fun _ _ _ _ _ => pts_nil) (fun _ _ _ _ _ => pe_int)) rfl) (pss_one (ps_for PassesOwn.never rfl (pi_zipN rfl N.zip (pa_cons (pv 3) (pa_cons (pv 4) pa_nil))) (pg_tup rfl (pgs_cons (pg_name (i := 5) scStInit.nd rfl (Or.inl rfl)) (pgs_cons (pg_name (i := 6) scStInit.nd rfl (Or.inl rfl)) pgs_nil))) (pss_one (ps_augS (pe_fld (pv 0) rfl) (pv 5) get_list (pe_callTy call_int1 rfl N.int (by decide +kernel) (pa_cons (pv 6) pa_nil)) ip_add set_list))))))))), ?_⟩
    have nap : a ≠ p := hA.ne hp (by intro o x z; cases z)
    have nbp : b ≠ p := hB.ne hp (by intro o x z; cases z)
    have nrp : ar ≠ p := hR.ne hp (by intro o x z; cases z)
    have nfp : fr ≠ p := ne_of hF hp (by intro z; cases z)
    -- self.leaving
    refine ⟨_, rfl, _, rfl, [(a, false), (b, false)], rfl, by simp, by simp, (Srcs.two (Sq.t hA.sq) (Sq.t hB.sq)).ex, fun D1 hD1 => ?_⟩
    refine lc_map (walk_zip2 (n := k) (by rw [nvs_length, l1]) (by rw [nvs_length, l2])) (fun i => V.int ((sh ns i - sh ms i : Nat) : Int)) hD1 (by omega) (fun H' s => Srcs.two (Sq.t (hA.same s).sq) (Sq.t (hB.same s).sq)) (fun i H x H' _ _ y => y.same) (fun i x H1 H2 R hi s1 y s2 r => ?_) (fun H1 s1 e1 => ?_)
    · obtain ⟨T, rfl, _, rfl⟩ := y.pair (nvs_sh (by omega)) (nvs_sh (by omega))
      refine g_two rfl upd_same ?_
      refine ⟨rfl, _, rfl, _, rfl, _, _, rfl, rfl, _, _, rfl, ?_⟩
      rw [max0]
      exact r _ _ (Same.refl _) rfl
    rw [decs_range l1 l2] at e1
    have hp1 := s1 _ _ hp
    have n1 : D1 ≠ p := fun z => by rw [z, hp] at hD1; cases hD1
    refine ⟨_, rfl, p, C, dx, [], rfl, hp1, T.cl, T.nL, (by show 0 < 1000; decide), ?_⟩
    obtain ⟨G1, hG1⟩ : ∃ G, G = upd H1 p (.ins C dx (putF "leaving" (.ref D1) [])) := ⟨_, rfl⟩
    rw [← hG1]
    have B1 : But1 p H G1 := by rw [hG1]; exact (Same.but s1).put _
    have q1 : G1 p = some (.ins C dx (f1 D1)) := by rw [hG1]; exact upd_same
    have e1' : G1 D1 = some (.lst ((decs ns ms).map V.int)) := by rw [hG1, upd_ne n1]; exact e1
    clear hG1
    -- self.entering
    have hA1 := B1.sh hA nap
    have hB1 := B1.sh hB nbp
    refine ⟨_, rfl, _, rfl, [(a, false), (b, false)], rfl, by simp, by simp, (Srcs.two (Sq.t hA1.sq) (Sq.t hB1.sq)).ex, fun D2 hD2 => ?_⟩
    refine lc_map (walk_zip2 (n := k) (by rw [nvs_length, l1]) (by rw [nvs_length, l2])) (fun i => V.int ((sh ms i - sh ns i : Nat) : Int)) hD2 (by omega) (fun H' s => Srcs.two (Sq.t (hA1.same s).sq) (Sq.t (hB1.same s).sq)) (fun i H x H' _ _ y => y.same) (fun i x H2 H3 R hi s1 y s2 r => ?_) (fun H2 s2 e2 => ?_)
    · obtain ⟨T, rfl, _, rfl⟩ := y.pair (nvs_sh (by omega)) (nvs_sh (by omega))
      refine g_two rfl upd_same ?_
      refine ⟨rfl, _, rfl, _, rfl, _, _, rfl, rfl, _, _, rfl, ?_⟩
      rw [max0]
      exact r _ _ (Same.refl _) rfl
    rw [decs_range l2 l1] at e2
    have hp2 := s2 _ _ q1
    have n2 : D2 ≠ p := fun z => by rw [z, q1] at hD2; cases hD2
    have n21 : D2 ≠ D1 := fun z => by rw [z, e1'] at hD2; cases hD2
    have hD2' := B1.free q1 hD2
    refine ⟨_, rfl, p, C, dx, _, rfl, hp2, T.cl, T.nE, f1_lt _, ?_⟩
    obtain ⟨G2, hG2⟩ : ∃ G, G = upd H2 p (.ins C dx (putF "entering" (.ref D2) (f1 D1))) := ⟨_, rfl⟩
    rw [← hG2]
    have B2 : But1 p H G2 := by rw [hG2]; exact (B1.same s2).put _
    have q2 : G2 p = some (.ins C dx (f2 D1 D2)) := by rw [hG2]; exact upd_same
    have e1'' : G2 D1 = some (.lst ((decs ns ms).map V.int)) := by rw [hG2, upd_ne n1]; exact s2 _ _ e1'
    have e2' : G2 D2 = some (.lst ((decs ms ns).map V.int)) := by rw [hG2, upd_ne n2]; exact e2
    clear hG2
    -- self.assignment, self.free
    refine ⟨_, rfl, _, rfl, p, C, dx, _, rfl, q2, T.cl, T.nA, f2_lt _ _, ?_⟩
    obtain ⟨G3, hG3⟩ : ∃ G, G = upd G2 p (.ins C dx (putF "assignment" (.ref ar) (f2 D1 D2))) := ⟨_, rfl⟩
    rw [← hG3]
    have q3 : G3 p = some (.ins C dx (f3 D1 D2 ar)) := by rw [hG3]; exact upd_same
    refine ⟨_, rfl, _, rfl, p, C, dx, _, rfl, q3, T.cl, T.nF, f3_lt _ _ _, ?_⟩
    obtain ⟨G4, hG4⟩ : ∃ G, G = upd G3 p (.ins C dx (putF "free" (.ref fr) (f3 D1 D2 ar))) := ⟨_, rfl⟩
    rw [← hG4]
    have q4 : G4 p = some (.ins C dx (f4 D1 D2 ar fr)) := by rw [hG4]; exact upd_same
    have B4 : But1 p H G4 := by rw [hG4, hG3]; exact (B2.put _).put _
    have e1d : G4 D1 = some (.lst ((decs ns ms).map V.int)) := by rw [hG4, upd_ne n1, hG3, upd_ne n1]; exact e1''
    have e2d : G4 D2 = some (.lst ((decs ms ns).map V.int)) := by rw [hG4, upd_ne n2, hG3, upd_ne n2]; exact e2'
    clear hG4 hG3
    -- self.waiting
    have hA4 := B4.sh hA nap
    refine ⟨_, rfl, a, rfl, ⟨_, hA4.sq⟩, fun D3 hD3 => ?_⟩
    refine lc_map walk_tup (fun i => V.int 0) hD3 (by rw [nvs_length]; omega) (fun H' s => (hA4.same s).sq) (fun i H x H' _ _ y => y.1 ▸ Same.refl _) (fun i x H2 H3 R hi s2 y s3 rr => ?_) (fun H5 s5 e5 => ?_)
    · obtain ⟨rfl, e4⟩ := y
      exact ⟨rfl, rr _ _ (Same.refl _) rfl⟩
    rw [nvs_length, l1, zeros_range] at e5
    have n3 : D3 ≠ p := fun z => by rw [z, q4] at hD3; cases hD3
    have n31 : D3 ≠ D1 := fun z => by rw [z, e1d] at hD3; cases hD3
    have n32 : D3 ≠ D2 := fun z => by rw [z, e2d] at hD3; cases hD3
    have hD3' := B4.free q4 hD3
    refine ⟨_, rfl, p, C, dx, _, rfl, s5 _ _ q4, T.cl, T.nW, f4_lt _ _ _ _, ?_⟩
    obtain ⟨G5, hG5⟩ : ∃ G, G = upd H5 p (.ins C dx (putF "waiting" (.ref D3) (f4 D1 D2 ar fr))) := ⟨_, rfl⟩
    rw [← hG5]
    have q5 : G5 p = some (.ins C dx (f5 D1 D2 ar fr D3)) := by rw [hG5]; exact upd_same
    have B5 : But1 p H G5 := by rw [hG5]; exact (B4.same s5).put _
    have z1 : G5 D1 = some (.lst ((decs ns ms).map V.int)) := by rw [hG5, upd_ne n1]; exact s5 _ _ e1d
    have z2 : G5 D2 = some (.lst ((decs ms ns).map V.int)) := by rw [hG5, upd_ne n2]; exact s5 _ _ e2d
    have z3 : G5 D3 = some (.lst ((List.replicate k (0 : Int)).map V.int)) := by rw [hG5, upd_ne n3]; exact e5
    clear hG5
    have hR5 := B5.sh hR nrp
    have hF5 : G5 fr = some (.lst (fs.map V.bl)) := B5 _ _ hF nfp
    have nf3 : fr ≠ D3 := fun z => by rw [← z, hF] at hD3'; cases hD3'
    have nf1 : fr ≠ D1 := fun z => by rw [← z, hF] at hD1; cases hD1
    have nf2 : fr ≠ D2 := fun z => by rw [← z, hF] at hD2'; cases hD2'
    have nr3 : ar ≠ D3 := hR5.ne z3 (by intro o x z; cases z)
    have zl : (row.zip fs).length = n := by simp [l3, l4]
    refine ⟨_, rfl, _, rfl, [(ar, false), (fr, true)], rfl, by simp, by simp, (Srcs.two (Sq.t hR5.sq) (Sq.l (SqL.of hF5))).ex,
      for_it (walk_zip2 (n := n) (by rw [nvs_length, l3]) (by simp [l4])) (fun i σ H' => ∃ (v5 v6 : Option V), σ = [some (.ref p), some (.ref a), some (.ref b), some (.ref ar), some (.ref fr), v5, v6, none, none, none] ∧
        H' D3 = some (.lst ((waits k ((row.zip fs).take i)).map V.int)) ∧ But1 D3 G5 H')
      ⟨none, none, rfl, z3, fun b o h _ => h⟩ (fun i σ H' _ ⟨_, _, _, _, s3⟩ => Srcs.two (Sq.t (s3.sh hR5 nr3).sq) (Sq.l (SqL.of (s3 _ _ hF5 nf3)))) ?_ ?_⟩
    · rintro i x σ H6 H7 hi ⟨v5, v6, rfl, e6, B6⟩ y
      have i1 : i < row.length := by omega
      have i2 : i < fs.length := by omega
      obtain ⟨U, rfl, hU, rfl⟩ := YZ.pair (H := H6) y (nvs_sh i1) (bl_get i2)
      have sU := same_new hU (.tup [.int (sh row i : Nat), .bl (fs.getD i false)])
      refine g_two rfl upd_same ?_
      have q6 := sU _ _ (B6 _ _ q5 n3.symm)
      have e6' := sU _ _ e6
      have hv : sh row i < k := by
        have : sh row i = row[i] := by simp [sh, List.getD_eq_getElem?_getD, i1]
        rw [this]; exact lt _ (List.getElem_mem i1)
      have wl : (waits k ((row.zip fs).take i)).length = k := waits_length fun p hp => mem_zip_lt lt fs p (List.mem_of_mem_take hp)
      refine ⟨_, rfl, p, C, dx, _, _, rfl, q6, T.cl, T.nW, f5_w .., _, rfl, D3, _, _, _, rfl, rfl, SqL.of e6', by omega, (by rw [Int.toNat_natCast]; exact ivs_get (by omega)), ?_⟩
      refine ⟨_, rfl, .inr ⟨_, rfl, _, _, rfl, rfl, D3, _, _, sh row i, rfl, rfl, e6', (by rw [List.length_map]; exact ixN_nat (by omega)), ?_⟩⟩
      rw [set_add]
      have ez : (row.zip fs)[i]? = some (sh row i, fs.getD i false) := by
        simp [sh, List.getElem?_zip_eq_some, List.getD_eq_getElem?_getD, i1, i2]
      refine ⟨_, _, rfl, ?_, fun b o h hb => ?_⟩
      · rw [upd_same, waits_take ez]
      · rw [upd_ne hb]; exact sU _ _ (B6 _ _ h hb)
    · rintro σ H6 ⟨v5, v6, rfl, e6, B6⟩
      rw [List.take_of_length_le (by omega)] at e6
      refine q H6 D1 D2 D3 ⟨⟨dx, B6 _ _ q5 n3.symm⟩, B6 _ _ z1 n31.symm, B6 _ _ z2 n32.symm, e6, B6.sh hR5 nr3, B6 _ _ hF5 nf3, n21.symm, n31.symm, n32.symm, nf1, nf2, nf3⟩ hD1 hD2' hD3' fun b o h hb => ?_
      refine B6 _ _ (B5 _ _ h hb) fun z => ?_
      rw [z, hD3'] at h; cases h
end
end LW
end

section
set_option Elab.async false
set_option linter.all false
set_option autoImplicit false
set_option maxRecDepth 100000
namespace LW
open PySem L2 LM LX
/-! ### methods, classes -/
structure OkM (P : Program) (w : World) (K : PySem.W.Frag) (mg : Str → Option Value) (base : Heap) (C : Addr) (m : Str) (ps : List Str) (k : Nat) (sp : Sp) : Prop where
  ex : ∃ f fd, FnOk P w K mg base CX0 k f fd ps sp ∧ Meth K C m f ∧ Binds K fd ps []
structure OkI (P : Program) (w : World) (K : PySem.W.Frag) (mg : Str → Option Value) (base : Heap) (C : Addr) (ps : List Str) (k : Nat) (sp : Sp) : Prop where
  ex : ∃ f fd, FnOk P w K mg base CX0 k f fd ps sp ∧ Mk K C f ∧ Binds K fd ps []
abbrev sCalmChg : Stmt := top 35
abbrev sCalmH : Stmt := top 36
def spCalmChg : Sp := fun vs H Q _ => ∃ (a b ar fr : Addr) (ns ms row : List Nat) (fs : List Bool) (k n : Nat), vs = [.ref a, .ref b, .ref ar, .ref fr] ∧ Tn H a ns ∧ Tn H b ms ∧ Tn H ar row ∧ H fr = some (.lst (fs.map V.bl)) ∧
  ns.length = k ∧ ms.length = k ∧ row.length = n ∧ fs.length = n ∧ k ≤ 20 ∧ n ≤ 20 ∧ Bal k (waits k (row.zip fs)) (decs ns ms) (decs ms ns) (row.zip fs) ∧
  ∀ H' p, Same H H' → H p = none → Tn H' p (calmRow (waits k (row.zip fs)) (decs ns ms) (decs ms ns) (row.zip fs)) → Q (.ref p) H'
def Calm (k : Nat) (a : List Nat) (r : List (List Nat)) : Prop := ∀ v, v < k → decV v a r ≤ sh a v
def spCalmH : Sp := fun vs H Q _ => ∃ (A : Addr) (a : List Nat) (r : List (List Nat)) (k n : Nat), vs = [.ref A] ∧ Tt H A (a :: r) ∧ Gd k n (a :: r) ∧ ∀ H', Same H H' → (Calm k a r → ∀ p, Q (.ref p) H') ∧ (¬ Calm k a r → Q .non H')
theorem tk1 (w : List Int) (v : Nat) (f : Bool) : tW w v f 1 = tkW w v f := by unfold tW tkW; rw [Int.one_mul]
theorem tl1 (l : List Int) (v o : Nat) : tL l v o 1 = tkL l v o := rfl
theorem te1 (e : List Int) (v o : Nat) : tE e v o 1 = tkE e v o := rfl
theorem drop_zip {row : List Nat} {fs : List Bool} {i : Nat} (h1 : i < row.length) (h2 : i < fs.length) : (row.zip fs).drop i = (sh row i, fs.getD i false) :: (row.zip fs).drop (i + 1) := by
  have h : i < (row.zip fs).length := by simp; omega
  rw [List.drop_eq_getElem_cons h]
  congr 1
  simp [sh, List.getD_eq_getElem?_getD, h1, h2]
theorem But3.same {x y z : Addr} {H0 H H' : Hp} (s : Same H0 H) (b : But3 x y z H H') (h1 : H0 x = none) (h2 : H0 y = none) (h3 : H0 z = none) : Same H0 H' := fun c o h =>
  b c o (s _ _ h) (ne_of_none h h1) (ne_of_none h h2) (ne_of_none h h3)
theorem But1.back {p : Addr} {H0 H H' : Hp} (s : Same H0 H) (b : But1 p H H') (h1 : H0 p = none) : Same H0 H' := fun c o h => b c o (s _ _ h) (ne_of_none h h1)
theorem Rs.but {p : Addr} {H H' : Hp} {as : List Addr} {rows : List (List Nat)} {xs : List V} (h : Rs H as rows) (b : But1 p H H') (hp : H p = some (.lst xs)) : Rs H' as rows :=
  ⟨h.len, fun i a e => let ⟨r, h1, h2⟩ := h.at_ i a e; ⟨r, h1, b.sh h2 (h2.ne hp (by intro o x z; cases z))⟩⟩
theorem StepsAt.but {E : Addr} {H H' : Hp} {p : Addr} {as ps : List Addr} {xs : List V} (h : StepsAt H p as ps) (b : But1 E H H') (hE : H E = some (.lst xs)) (hn : p ≠ E) : StepsAt H' p as ps :=
  ⟨b _ _ h.lst hn, h.len, fun j q e => let ⟨x, y, h1, h2, h3⟩ := h.prs j q e; ⟨x, y, h1, h2, b _ _ h3 (ne_of h3 hE (by intro z; cases z))⟩⟩
theorem opts_nvs0 {l : List Nat} (h : l ≠ []) : atI (nvs l) 0 = some (.int (l.headD 0 : Nat)) := by
  cases l with
  | nil => exact absurd rfl h
  | cons x r => exact atI_nat (j := 0) rfl
theorem opts_nvs00 {l : List Nat} (h : l ≠ []) : (nvs l)[0]? = some (.int (l.headD 0 : Nat)) := by
  cases l with
  | nil => exact absurd rfl h
  | cons x r => rfl
section
variable {P : Program} {w : World} {K : PySem.W.Frag} {mg : Str → Option Value} {base : Heap}
theorem scCalmChg : FnScope ["before", "behind", "assignment", "free", "step", "found", "bucket", "variant"] ["before", "behind", "assignment", "free"] (defScope sCalmChg) := ⟨rfl, rfl, rfl, by decide +kernel, rfl, by decide +kernel, by decide +kernel⟩
theorem ok_calmChg {f C : Addr} {fd : FuncData} (F : Fun K "calm_change" "calm_change" sCalmChg f fd) (N : Nm mg) (T : TxtS K mg C) (OI : OkI P w K mg base C ["self", "before", "behind", "assignment", "free"] 1 (spStep C))
    (OO : OkM P w K mg base C "options" ["self", "bucket"] 1 (spOpts C)) (OT : OkM P w K mg base C "take" ["self", "bucket", "variant", "way"] 1 (spTake C)) : FnOk P w K mg base CX0 3 f fd ["before", "behind", "assignment", "free"] spCalmChg := by
  obtain ⟨fI, dI, GI, MI, bI⟩ := OI.ex
  obtain ⟨fO, dO, GO, MO, bO⟩ := OO.ex
  obtain ⟨fT, dT, GT, MT, bT⟩ := OT.ex
  refine F.ok scCalmChg (fun vs H Q E h => ?_) (fun cdv A outer s H vs Q E hr h => ?_)
  · obtain ⟨a, b, ar, fr, ns, ms, row, fs, k, n, rfl, _⟩ := h; rfl
  · obtain ⟨a, b, ar, fr, ns, ms, row, fs, k, n, rfl, hA, hB, hR, hF, l1, l2, l3, l4, hk, hn, B, q⟩ := h
    have hr1 : Room 1 _ := hr.mono (by decide)
    refine ⟨_, (pss_cons (ps_set (i := 4) scCalmChg.nd rfl (Or.inl rfl) (pe_make MI GI hr rfl T.mgC bI .nil pass0 (pa_cons (pv 0) (pa_cons (pv 1) (pa_cons (pv 2) (pa_cons (pv 3) pa_nil)))))) (pss_cons (ps_set (i := 5) scCalmChg.nd rfl (Or.inl rfl) (pe_lst pa_nil)) (pss_cons (ps_for PassesOwn.never rfl (pi_range1 rfl N.rng (pa_cons ((pe_callB (call_lenK (K := K) rfl) rfl N.len PySem.boot_len (pa_cons (pv 2) pa_nil))) pa_nil)) (pg_name (i := 6) scCalmChg.nd rfl (Or.inl rfl)) (pss_cons (ps_set (i := 7) scCalmChg.nd rfl (Or.inl rfl) ((pe_ix (ix_listK (K := K) rfl) (pe_meth (pv 4) T.cl MO GO hr1 bO .nil pass0 (pa_cons (pv 6) pa_nil)) (pe_int) (fun _ _ => rfl)))) (pss_cons (ps_expr (pe_meth (pv 4) T.cl MT GT hr1 bT .nil pass0 (pa_cons (pv 6) (pa_cons (pv 7) (pa_cons (pe_int) pa_nil))))) (pss_one (ps_expr (pe_bm PySem.F.plainAttrs_list PySem.F.slot_list_append PySem.F.type_list_append mt_append (pv 5) (pa_cons (pv 7) pa_nil))))))) (pss_one (ps_ret ((pe_callTy call_tupleF rfl N.tup (by decide +kernel) (pa_cons (pv 5) pa_nil)))))))), ?_⟩
    refine ⟨_, rfl, _, rfl, _, rfl, _, rfl, ?_⟩
    intro p dx np ndx ndp
    have s1 : Same H (upd (upd H dx (.own p)) p (.ins C dx [])) := fun b o e => by
      rw [upd_ne (ne_of_none e np), upd_ne (ne_of_none e ndx)]; exact e
    refine ⟨p, dx, a, b, ar, fr, ns, ms, row, fs, k, n, rfl, upd_same, hA.same s1, hB.same s1, hR.same s1, s1 _ _ hF, l1, l2, l3, l4, fun x hx => ?_, hk, hn, fun H1 lv en wt S nlv nen nwt b1 => ⟨rfl, ?_⟩⟩
    · obtain ⟨i, hi, rfl⟩ := List.mem_iff_getElem.mp hx
      exact B.lt (row[i], fs[i]) (List.mem_of_getElem? (i := i) (by simp [List.getElem?_zip_eq_some, hi, show i < fs.length by omega]))
    have s2 : Same H H1 := But1.back s1 b1 np
    have nlv' := s1.free nlv
    have nen' := s1.free nen
    have nwt' := s1.free nwt
    refine ⟨Nat.zero_le _, fun D hD => ?_⟩
    have s3 := same_new hD (.lst [])
    have hD0 := s2.free hD
    have dne : ∀ {x : Addr} {u : HO}, H1 x = some u → x ≠ D := fun h => ne_of_none h hD
    refine ⟨_, rfl, ar, _, rfl, .inr (hR.same (s2.trans s3)).sq, _, rfl, by omega, by rw [nvs_length]; omega, ?_⟩
    rw [nvs_length, l3, Int.toNat_natCast]
    have zl : (row.zip fs).length = n := by simp [l3, l4]
    refine for_it walk_range (fun i σ H' => ∃ (v6 v7 : Option V) (ws l e : List Int) (done : List Nat), σ = [some (.ref a), some (.ref b), some (.ref ar), some (.ref fr), some (.ref p), some (.ref D), v6, v7] ∧
        Same H H' ∧ StepOk C H' p lv en ar fr wt row fs ws l e ∧ Bal k ws l e ((row.zip fs).drop i) ∧ done ++ calmRow ws l e ((row.zip fs).drop i) = calmRow (waits k (row.zip fs)) (decs ns ms) (decs ms ns) (row.zip fs) ∧ H' D = some (.lst (nvs done)) ∧ done.length = i)
      ⟨none, none, _, _, _, [], rfl, s2.trans s3, S.same s3, B, rfl, upd_same, rfl⟩ (fun i σ H' _ _ => trivial) ?_ ?_
    · rintro i x σ H3 H4 hi ⟨v6, v7, ws, l, e, done, rfl, s5, S5, B5, e5, eD, dl⟩ ⟨rfl, rfl⟩
      have i1 : i < row.length := by omega
      have i2 : i < fs.length := by omega
      rw [drop_zip i1 i2] at B5 e5
      obtain ⟨dx5, hp5⟩ := S5.ob
      have hv : sh row i < k := B5.lt _ List.mem_cons_self
      have one := B5.opt_ne
      have e0 : V.int (0 + (i : Int)) = V.int (i : Nat) := by rw [Int.zero_add]
      show (gName 6) (V.int (0 + (i : Int))) _ H4 _
      rw [e0]
      -- variant = step.options(bucket)[0]
      refine ⟨_, rfl, p, dx5, _, rfl, hp5, f5_no _ _ _ _ _ (by decide +kernel) (by decide +kernel) (by decide +kernel) (by decide +kernel) (by decide +kernel), _, rfl,
        p, lv, en, ar, fr, wt, row, fs, ws, l, e, i, k, rfl, S5, i1, i2, hv, B5.wl, B5.ll, B5.el, hk, fun H5 q5 s6 nq eq5 => ?_⟩
      refine ⟨q5, _, _, _, rfl, rfl, SqL.of eq5, opts_nvs0 one, ?_⟩
      have hom := headD_mem one 0
      have B6 := B5.next hom
      have S6 := S5.same s6
      obtain ⟨dx6, hp6⟩ := S6.ob
      -- step.take(bucket, variant, 1)
      refine ⟨_, rfl, p, dx6, _, rfl, hp6, f5_no _ _ _ _ _ (by decide +kernel) (by decide +kernel) (by decide +kernel) (by decide +kernel) (by decide +kernel), _, rfl, _, rfl,
        p, lv, en, ar, fr, wt, row, fs, ws, l, e, i, _, k, 1, rfl, S6, i1, i2, hv, B5.opt_lt hom, B5.wl, B5.ll, B5.el, .inl rfl, fun H6 S7 b7 => ?_⟩
      rw [tk1, tl1, te1] at S7
      have s7 : Same H H6 := But3.same (s5.trans s6) b7 nlv' nen' nwt'
      have eD6 : H6 D = some (.lst (nvs done)) := b7 _ _ (s6 _ _ eD) (dne S.hl).symm (dne S.he).symm (dne S.hw).symm
      -- found.append(variant)
      refine ⟨_, rfl, .inl ⟨rfl, _, SqL.of eD6⟩, _, rfl, D, _, _, rfl, rfl, eD6, by rw [nvs_length]; exact small1000 (by omega), ?_⟩
      have nD : ∀ {x : Addr}, H D = none → ∀ {u : HO}, H1 x = some u → x ≠ D := fun _ _ h => dne h
      obtain ⟨dx7, hp7⟩ := S7.ob
      obtain ⟨dxS, hpS⟩ := S.ob
      obtain ⟨ob7, hob7, har7⟩ := S7.ha
      obtain ⟨obS, _, harS⟩ := S.ha
      refine ⟨_, _, _, _, _, done ++ [(opts ws l e (sh row i) (fs.getD i false)).headD 0], rfl, same_put hD0 s7 _, ⟨⟨dx7, by rw [upd_ne (dne hpS)]; exact hp7⟩, by rw [upd_ne (dne S.hl)]; exact S7.hl, by rw [upd_ne (dne S.he)]; exact S7.he, by rw [upd_ne (dne S.hw)]; exact S7.hw,
        ⟨ob7, hob7, by rw [upd_ne (dne harS)]; exact har7⟩, by rw [upd_ne (dne S.hf)]; exact S7.hf, S7.le, S7.lw, S7.ew, S7.fl, S7.fe, S7.fw⟩, B6, ?_, ?_, ?_⟩
      · rw [← e5, calmRow, List.append_assoc]; rfl
      · rw [upd_same]; simp [nvs]
      · simp [dl]
    · rintro σ H3 ⟨v6, v7, ws, l, e, done, rfl, s5, S5, B5, e5, eD, dl⟩
      rw [List.drop_eq_nil_of_le (by omega)] at e5
      have ed : done = calmRow (waits k (row.zip fs)) (decs ns ms) (decs ms ns) (row.zip fs) := by rw [← e5]; simp [calmRow]
      refine ⟨_, rfl, D, _, rfl, SqL.of eD, fun l o hl ho => q _ l (s5.trans (same_new hl _)) (s5.free hl) ?_⟩
      rw [← ed]
      exact Tn.new ho
end
end LW
end

section
set_option Elab.async false
set_option linter.all false
set_option autoImplicit false
set_option maxRecDepth 100000
namespace LW
open PySem L2 LM LX
theorem chgs_length (n : Nat) (tbl : List (List Nat)) : (chgs n tbl).length = n := by simp [chgs]
theorem chgs_one {n : Nat} (row : List Nat) : chgs n [row] = List.replicate n 0 := by
  refine List.ext_getElem (by simp [chgs]) fun i h1 h2 => ?_
  simp [chgs, chg]
theorem chgs_snoc {n : Nat} {pre : List (List Nat)} {last new : List Nat} (h1 : last.length = n) (h2 : new.length = n) : chgs n (pre ++ [last] ++ [new]) = bump (chgs n (pre ++ [last])) last new := by
  refine List.ext_getElem (by rw [chgs_length, bump_length (chgs_length n _) h1 h2]) fun i g1 g2 => ?_
  have hi : i < n := by rw [chgs_length] at g1; exact g1
  have hb := sh_bump (chgs_length n (pre ++ [last])) h1 h2 hi
  have e1 : sh (bump (chgs n (pre ++ [last])) last new) i = (bump (chgs n (pre ++ [last])) last new)[i] := by simp [sh, List.getD_eq_getElem?_getD, g2]
  have e2 : sh (chgs n (pre ++ [last])) i = chg ((pre ++ [last]).map fun r => sh r i) := by
    simp [sh, chgs, List.getD_eq_getElem?_getD, hi]
  rw [← e1, hb, e2]
  simp only [chgs, List.getElem_map, List.getElem_range]
  simp only [List.append_assoc, List.map_append, List.map_cons, List.map_nil]
  exact chg_snoc (sh last i) (sh new i) (pre.map fun r => sh r i)
theorem Rs.last {H : Hp} {bs : List Addr} {pre : List (List Nat)} {last : List Nat} (h : Rs H bs (pre ++ [last])) : ∃ bs' u, bs = bs' ++ [u] ∧ Tn H u last := by
  have hl : bs.length = pre.length + 1 := by rw [h.len]; simp
  have hne : bs ≠ [] := fun e => by rw [e] at hl; simp at hl
  refine ⟨bs.dropLast, bs.getLast hne, (List.dropLast_concat_getLast hne).symm, ?_⟩
  obtain ⟨a, h1, h2⟩ := h.get (i := pre.length) (by simp)
  have e1 : a = bs.getLast hne := by
    rw [List.getLast_eq_getElem]
    have : bs.length - 1 = pre.length := by omega
    rw [List.getElem?_eq_getElem (by omega)] at h1
    simp only [this]
    exact (Option.some.inj h1).symm
  rw [← e1]
  simpa using h2
theorem rfs_snoc (as : List Addr) (a : Addr) : rfs (as ++ [a]) = rfs as ++ [.ref a] := by simp [rfs]
theorem drop_row {a : List Nat} {r : List (List Nat)} {i : Nat} (h : i < r.length) : r.drop i = rowAt (a :: r) (i + 1) :: r.drop (i + 1) := by
  rw [List.drop_eq_getElem_cons h]
  congr 1
  rw [rowAt_eq (by simp; omega)]; simp
theorem frees_range (L : Nat) (cnt : List Nat) : (List.range cnt.length).map (fun i => V.bl (decide (sh cnt i < L))) = (frees L cnt).map V.bl := by
  refine List.ext_getElem (by simp [frees]) fun i h1 h2 => ?_
  have hi : i < cnt.length := by simpa using h1
  simp [frees, sh, List.getD_eq_getElem?_getD, hi]
section
variable {P : Program} {w : World} {K : PySem.W.Frag} {mg : Str → Option Value} {base : Heap}
theorem scCalmH : FnScope ["allocations", "rows", "one", "other", "free", "many"] ["allocations"] (defScope sCalmH) := ⟨rfl, rfl, rfl, by decide +kernel, rfl, by decide +kernel, by decide +kernel⟩
theorem ok_calmH {f : Addr} {fd : FuncData} (F : Fun K "calm_history" "calm_history" sCalmH f fd) (N : Nm mg) (c1 : Ci mg "MOST_ALLOCATIONS" 10) (O1 : Ok P w K mg base "check_series" ["allocations", "most"] 4 spChkSeries)
    (O2 : Ok P w K mg base "overdrawn_in" ["allocations"] 3 spOver) (O3 : Ok P w K mg base "sorted_assignment" ["allocation"] 1 spSorted) (O4 : Ok P w K mg base "steps_of" ["allocations"] 1 spSteps)
    (O5 : Ok P w K mg base "changes_in" ["history"] 1 (spChgIn K)) (O6 : Ok P w K mg base "calm_change" ["before", "behind", "assignment", "free"] 3 spCalmChg) : FnOk P w K mg base CX0 5 f fd ["allocations"] spCalmH := by
  refine F.ok scCalmH (fun vs H Q E h => ?_) (fun cdv A outer s H vs Q E hr h => ?_)
  · obtain ⟨A, a, r, k, n, rfl, _⟩ := h; rfl
  · obtain ⟨A, a, r, k, n, rfl, hA, g, q⟩ := h
    have hr1 : Room 1 _ := hr.mono (by decide)
    have hr3 : Room 3 _ := hr.mono (by decide)
    refine ⟨_, (pss_cons (ps_expr (pe_ok O1 hr rfl (pa_cons (pv 0) (pa_cons (pe_gi rfl c1) pa_nil)))) (pss_cons (ps_if ((pt_cmpR (op_notN) ((pe_ok O2 hr3 rfl (pa_cons (pv 0) pa_nil))) (pe_non) (nomark _))) (pss_one (ps_ret (pe_non))) pss_nil) (pss_cons (ps_set (i := 1) scCalmH.nd rfl (Or.inl rfl) (pe_lst (pa_cons ((pe_ok O3 hr1 rfl (pa_cons ((pe_ix (ix_tupK (K := K) rfl) (pv 0) (pe_int) (fun _ _ => rfl))) pa_nil))) pa_nil))) (pss_cons (ps_for PassesOwn.never rfl (pi_list (pe_ok O4 hr1 rfl (pa_cons (pv 0) pa_nil))) (pg_tup rfl (pgs_cons (pg_name (i := 2) scCalmH.nd rfl (Or.inl rfl)) (pgs_cons (pg_name (i := 3) scCalmH.nd rfl (Or.inl rfl)) pgs_nil))) (pss_cons (ps_setLc (i := 4) (own := [("many", 5)]) (g := gName 5) (tt := tYes) rfl scCalmH.nd rfl rfl (sw_true rfl rfl rfl (by decide +kernel)) (pi_tup (pe_ok O5 hr1 rfl (pa_cons (pv 1) pa_nil))) (blkOk_by (N := ["allocations", "rows", "one", "other", "free", "many"]) (sc := defScope sCalmH) (by decide +kernel)) (fun _ _ _ _ _ => pg_name (i := 5) scCalmH.nd rfl (Or.inl rfl)) (fun _ _ _ _ _ => pts_nil) (fun _ _ _ _ _ => (pe_cmpR (op_eq) (pv 5) (pe_int) (nomark _)))) (pss_one (ps_expr (pe_bm PySem.F.plainAttrs_list PySem.F.slot_list_append PySem.F.type_list_append mt_append (pv 1) (pa_cons ((pe_ok O6 hr3 rfl (pa_cons (pv 2) (pa_cons (pv 3) (pa_cons ((pe_ix (ix_listK (K := K) rfl) (pv 1) (pe_un un_neg pe_int) (fun _ _ => rfl))) (pa_cons (pv 4) pa_nil)))))) pa_nil)))))) (pss_one (ps_ret ((pe_callTy call_tuple_of rfl N.tup (by decide +kernel) (pa_cons (pv 1) pa_nil))))))))), ?_⟩
    have g6 := g.r6
    have g4 := g.k4
    have g3 := g.n4
    refine ⟨_, rfl, A, a :: r, k, n, 10, rfl, hA, g, by omega, fun H1 s1 => ?_⟩
    refine ⟨_, rfl, A, a, r, k, n, rfl, hA.same s1, g, fun H2 s2 => ⟨fun calm => ?_, fun v hv nle => ?_⟩⟩
    · refine ⟨rfl, _, rfl, iteF ?_⟩
      have s12 := s1.trans s2
      obtain ⟨as, hA2, hR⟩ := hA.same s12
      obtain ⟨ha, hs⟩ := g.al.all a (by simp)
      obtain ⟨p0, as', rfl, hT0, hR'⟩ := hR.uncons
      have la := hR.len
      have at0 : atI (rfs (p0 :: as')) 0 = some (.ref p0) := atI_nat (j := 0) rfl
      refine ⟨_, rfl, A, _, _, _, rfl, rfl, SqT.of hA2, at0, p0, a, rfl, hT0, by omega, by omega, fun H3 z s3 hz Tz => ?_⟩
      refine ⟨(by show 1 ≤ sizeLine; decide), fun D hD => ?_⟩
      have s4 := same_new hD (.lst [.ref z])
      have s14 := s12.trans (s3.trans s4)
      have hD0 := (s12.trans s3).free hD
      refine ⟨_, rfl, A, p0 :: as', rfl, (s3.trans s4) _ _ hA2, by simp, by omega, fun H5 p ps s5 hp Z => ?_⟩
      have eD5 : H5 D = some (.lst (rfs [z])) := s5 _ _ upd_same
      have npD : p ≠ D := fun e => by
        have : (upd H3 D (.lst [.ref z])) D = some (.lst [.ref z]) := upd_same
        rw [e, this] at hp; cases hp
      have lp : ps.length = r.length := by rw [Z.len, la]; simp
      have hR5 := hR.same ((s3.trans s4).trans s5)
      refine ⟨p, rfl, ⟨_, SqL.of Z.lst⟩, for_it walk_list (fun i σ H' => ∃ (v2 v3 v4 : Option V) (bs : List Addr) (pre : List (List Nat)) (last : List Nat), σ = [some (.ref A), some (.ref D), v2, v3, v4, none] ∧ But1 D H5 H' ∧ H' D = some (.lst (rfs bs)) ∧
          Rs H' bs (pre ++ [last]) ∧ pre.length = i ∧ (∀ x ∈ pre ++ [last], x.length = n) ∧ CalmInv k n (rowAt (a :: r) i) (r.drop i) last (chgs n (pre ++ [last])))
        ⟨none, none, none, [z], [], sortedA a, rfl, fun b o h _ => h, eD5, Rs.cons (Tz.same (s4.trans s5)) Rs.nil, rfl, fun x hx => ?_, ?_⟩ (fun i σ H' _ ⟨_, _, _, _, _, _, _, b6, _⟩ => SqL.of (b6 _ _ Z.lst npD)) ?_ ?_⟩
      · have : x = sortedA a := by simpa using hx
        rw [this]; exact (sortedA_ok ha hs).len
      · have C := CalmInv.start g.al calm
        rw [hs] at C
        have e : chgs n ([] ++ [sortedA a]) = List.replicate n 0 := chgs_one _
        rw [e]; exact C
      · rintro i x σ H6 H7 hi ⟨v2, v3, v4, bs, pre, last, rfl, b6, eD, hS, pl, hl, C⟩ ⟨rfl, e4⟩
        have hi2 : i < ps.length := by rw [rfs_length] at hi; exact hi
        have Z7 := Z.but b6 eD5 npD
        have hR7 := hR5.but b6 eD5
        obtain ⟨t, b, c, rfl, e5, T1, T2⟩ := Z7.get hR7 hi2 e4
        refine g_two rfl e5 ?_
        have lr : i < r.length := by omega
        have lbs : bs.length = i + 1 := by rw [hS.len]; simp [pl]
        -- free = [many == 0 for many in changes_in(rows)]
        refine ⟨_, rfl, D, bs, pre ++ [last], n, rfl, .inr (SqL.of eD), hS, fun e => by rw [e] at lbs; simp at lbs, by simp at g6; omega, hl, by omega, fun H8 u s8 hu Tu => ?_⟩
        refine ⟨u, rfl, ⟨_, Tu.sq⟩, fun D2 hD2 => ?_⟩
        refine lc_map walk_tup (fun i => V.bl (decide (sh (chgs n (pre ++ [last])) i < 1))) hD2 (by rw [nvs_length, chgs_length]; omega) (fun H' s => (Tu.same s).sq) (fun i H x H' _ _ y => y.1 ▸ Same.refl _) (fun j x H9 H10 R hj s9 y s10 rr => ?_) (fun H9 s9 e9 => ?_)
        · obtain ⟨rfl, e10⟩ := y
          have hj' : j < (chgs n (pre ++ [last])).length := by rw [nvs_length] at hj; exact hj
          rw [nvs_sh hj'] at e10
          cases e10
          refine ⟨rfl, _, rfl, rfl, rr _ _ (Same.refl _) ?_⟩
          by_cases hc : sh (chgs n (pre ++ [last])) j = 0
          · rw [hc]; rfl
          · have h1 : decide (V.int ((sh (chgs n (pre ++ [last])) j : Nat) : Int) = V.int 0) = false := decide_eq_false fun z => hc (by have := V.int.inj z; omega)
            have h2 : decide (sh (chgs n (pre ++ [last])) j < 1) = false := decide_eq_false (by omega)
            rw [h1, h2]
        · rw [nvs_length, frees_range] at e9
          have s79 := s8.trans s9
          obtain ⟨bs', v, eb, Tv⟩ := hS.last
          have eD9 : H9 D = some (.lst (rfs bs)) := s79 _ _ eD
          have T1' := T1.same s79
          have T2' := T2.same s79
          obtain ⟨l1, _⟩ := rowAt_alike g (i := i) (by simp; omega)
          obtain ⟨l2, _⟩ := rowAt_alike g (i := i + 1) (by simp; omega)
          have lf : (frees 1 (chgs n (pre ++ [last]))).length = n := by rw [frees_length, chgs_length]
          rw [drop_row (a := a) lr] at C
          have Bl := C.bal
          -- rows.append(calm_change(one, other, rows[-1], free))
          refine ⟨_, rfl, .inl ⟨rfl, _, SqL.of eD9⟩, _, rfl, _, rfl, _, rfl, _, rfl, D, _, _, _, rfl, rfl, SqL.of eD9, (by rw [eb, rfs_snoc]; exact atI_last _ _), _, rfl,
            b, c, v, D2, _, _, last, _, k, n, rfl, T1', T2', Tv.same s79, e9, l1, l2, hl last (by simp), lf, by omega, by omega, Bl, fun H10 y s10 hy Ty => ?_⟩
          have eD10 := s10 _ _ eD9
          refine ⟨D, rfs bs, _, rfl, rfl, eD10, by rw [rfs_length, lbs]; simp at g6; exact small1000 (by omega), ?_⟩
          have ns : stepRow (rowAt (a :: r) i) (rowAt (a :: r) (i + 1)) last (chgs n (pre ++ [last])) = calmRow (waits k (last.zip (frees 1 (chgs n (pre ++ [last]))))) (decs (rowAt (a :: r) i) (rowAt (a :: r) (i + 1))) (decs (rowAt (a :: r) (i + 1)) (rowAt (a :: r) i)) (last.zip (frees 1 (chgs n (pre ++ [last])))) := by
            unfold stepRow; rw [l1]
          rw [← ns] at Ty
          have C' := C.next
          have ly := C'.ok.len
          rw [← chgs_snoc (hl last (by simp)) ly] at C'
          have b10 : But1 D H5 (upd H10 D (.lst (rfs bs ++ [.ref y]))) := (b6.same (s79.trans s10)).put _
          have bu : But1 D H10 (upd H10 D (.lst (rfs bs ++ [.ref y]))) := fun b o h hb => by rw [upd_ne hb]; exact h
          refine ⟨_, _, _, bs ++ [y], pre ++ [last], _, rfl, b10, by rw [upd_same, rfs_snoc], ?_, by simp [pl], ?_, C'⟩
          · exact ((hS.same (s79.trans s10)).but bu eD10).snoc (bu.sh Ty (Ty.ne eD10 (by intro o x z; cases z)))
          · intro x hx
            rcases List.mem_append.mp hx with h | h
            · exact hl x h
            · rw [List.mem_singleton.mp h]; exact ly
      · rintro σ H6 ⟨v2, v3, v4, bs, pre, last, rfl, b6, eD, hS, pl, hl, C⟩
        refine ⟨_, rfl, D, _, rfl, .inl ⟨SqL.of eD, fun l hl => ?_⟩⟩
        have s6 : Same H H6 := But1.back ((s14.trans s5)) b6 hD0
        exact (q _ (s6.trans (same_new hl _))).1 calm l
    · refine ⟨rfl, _, rfl, iteT ?_⟩
      exact (q _ (s1.trans s2)).2 fun z => nle (z v hv)
end
end LW
end

section
set_option Elab.async false
set_option linter.all false
set_option autoImplicit false
set_option maxRecDepth 100000
namespace LW
open PySem L2 LM LX
/-! ### the states that failed -/
abbrev Ent := NestedKey × Addr × Value
structure FailOk (k n L : Nat) (all : List (List Nat)) (xs : List Ent) : Prop where
  nd : (xs.map (·.1)).Nodup
  key : ∀ x ∈ xs, ∃ (i : Nat) (row cnt : List Nat), x.1 = key3 i row cnt ∧ i < 7 ∧ row.length = n ∧ (∀ y ∈ row, y < k) ∧ cnt.length = n ∧ (∀ c ∈ cnt, c < 7) ∧ search L (rowAt all (i - 1)) (all.drop i) row cnt = none
def words (b : Nat) : Nat → List (List Nat)
  | 0 => [[]]
  | n + 1 => (List.range b).flatMap fun x => (words b n).map (x :: ·)
theorem mem_words {b : Nat} : ∀ {n : Nat} {l : List Nat}, l.length = n → (∀ x ∈ l, x < b) → l ∈ words b n
  | 0, l, h, _ => by have : l = [] := List.length_eq_zero_iff.mp h; rw [this]; simp [words]
  | n + 1, [], h, _ => by simp at h
  | n + 1, x :: l, h, hl => by
    rw [words, List.mem_flatMap]
    exact ⟨x, by simpa using hl x (by simp), List.mem_map.mpr ⟨l, mem_words (by simpa using h) fun y hy => hl y (by simp [hy]), rfl⟩⟩
theorem sum_const {α : Type} (c : Nat) : ∀ l : List α, (l.map fun _ => c).sum = l.length * c
  | [] => by simp
  | a :: r => by rw [List.map_cons, List.sum_cons, sum_const c r, List.length_cons, Nat.succ_mul]; omega
theorem words_length (b : Nat) : ∀ n : Nat, (words b n).length = b ^ n
  | 0 => rfl
  | n + 1 => by
    rw [words, List.length_flatMap]
    have : (List.map (fun x => ((words b n).map (x :: ·)).length) (List.range b)) = (List.range b).map fun _ => b ^ n := by
      refine List.map_congr_left fun x _ => ?_
      rw [List.length_map, words_length b n]
    rw [this, sum_const, List.length_range, Nat.pow_succ, Nat.mul_comm]
theorem pigeon {α : Type} : ∀ {l u : List α}, l.Nodup → (∀ x ∈ l, x ∈ u) → l.length ≤ u.length
  | [], _, _, _ => Nat.zero_le _
  | x :: l, u, hn, hs => by
    obtain ⟨h1, h2⟩ := List.nodup_cons.mp hn
    obtain ⟨s, t, rfl⟩ := List.append_of_mem (hs x (by simp))
    have := pigeon (l := l) (u := s ++ t) h2 fun y hy => by
      have hy' := hs y (by simp [hy])
      rcases List.mem_append.mp hy' with h | h
      · exact List.mem_append_left _ h
      · rcases List.mem_cons.mp h with h | h
        · exact absurd (h ▸ hy) h1
        · exact List.mem_append_right _ h
    simp at this ⊢
    omega
def univ (k n : Nat) : List NestedKey := (List.range 7).flatMap fun i => (words k n).flatMap fun row => (words 7 n).map fun c => key3 i row c
theorem univ_length (k n : Nat) : (univ k n).length = 7 * (k ^ n * 7 ^ n) := by
  unfold univ
  rw [List.length_flatMap]
  have e1 : ∀ i, ((words k n).flatMap fun row => (words 7 n).map fun c => key3 i row c).length = k ^ n * 7 ^ n := fun i => by
    rw [List.length_flatMap]
    have : (List.map (fun row => ((words 7 n).map fun c => key3 i row c).length) (words k n)) = (words k n).map fun _ => 7 ^ n := by
      refine List.map_congr_left fun x _ => ?_
      rw [List.length_map, words_length]
    rw [this, sum_const, words_length]
  have : (List.map (fun i => ((words k n).flatMap fun row => (words 7 n).map fun c => key3 i row c).length) (List.range 7)) = (List.range 7).map fun _ => k ^ n * 7 ^ n := List.map_congr_left fun i _ => e1 i
  rw [this, sum_const, List.length_range]
theorem FailOk.small {k n L : Nat} {all : List (List Nat)} {xs : List Ent} (h : FailOk k n L all xs) (hk : k ≤ 4) (hn : n ≤ 4) : xs.length ≤ sizeLine := by
  have h1 := pigeon (u := univ k n) h.nd fun x hx => by
    obtain ⟨e, he, rfl⟩ := List.mem_map.mp hx
    obtain ⟨i, row, cnt, h1, h2, h3, h4, h5, h6, _⟩ := h.key e he
    rw [h1]
    exact List.mem_flatMap.mpr ⟨i, by simpa using h2, List.mem_flatMap.mpr ⟨row, mem_words h3 h4, List.mem_map.mpr ⟨cnt, mem_words h5 h6, rfl⟩⟩⟩
  rw [List.length_map, univ_length] at h1
  have h2 : k ^ n ≤ 4 ^ 4 := Nat.le_trans (Nat.pow_le_pow_left hk n) (Nat.pow_le_pow_right (by omega) hn)
  have h3 : 7 ^ n ≤ 7 ^ 4 := Nat.pow_le_pow_right (by omega) hn
  have h4 : k ^ n * 7 ^ n ≤ 4 ^ 4 * 7 ^ 4 := Nat.mul_le_mul h2 h3
  have h5 : (4 ^ 4 * 7 ^ 4 : Nat) = 614656 := by decide
  have h6 : sizeLine = 16777216 := by decide
  omega
theorem FailOk.nil {k n L : Nat} {all : List (List Nat)} : FailOk k n L all [] := ⟨by simp, fun x hx => by simp at hx⟩
theorem FailOk.hit {k n L : Nat} {all : List (List Nat)} {xs : List Ent} (h : FailOk k n L all xs) {i : Nat} {row cnt : List Nat} (e : (PySem.atKey xs (key3 i row cnt)).isSome = true) : search L (rowAt all (i - 1)) (all.drop i) row cnt = none := by
  unfold PySem.atKey at e
  rw [Option.isSome_map, List.find?_isSome] at e
  obtain ⟨x, hx, hk⟩ := e
  obtain ⟨i', row', cnt', h1, _, _, _, _, _, h7⟩ := h.key x hx
  have hk' : x.1 = key3 i row cnt := of_decide_eq_true hk
  rw [hk'] at h1
  obtain ⟨rfl, rfl, rfl⟩ := key3_inj h1
  exact h7
theorem map_put (k : NestedKey) (v : Value) (xs : List Ent) : (xs.map (PySem.putAt k v)).map (·.1) = xs.map (·.1) := by
  rw [List.map_map]
  refine List.map_congr_left fun x _ => ?_
  show (PySem.putAt k v x).1 = x.1
  unfold PySem.putAt
  split <;> rfl
theorem FailOk.store {k n L : Nat} {all : List (List Nat)} {xs : List Ent} (h : FailOk k n L all xs) {i : Nat} {row cnt : List Nat} (h2 : i < 7) (h3 : row.length = n) (h4 : ∀ y ∈ row, y < k) (h5 : cnt.length = n) (h6 : ∀ c ∈ cnt, c < 7)
    (hs : search L (rowAt all (i - 1)) (all.drop i) row cnt = none) (a : Addr) (v : Value) : FailOk k n L all (PySem.storedH xs (key3 i row cnt) a v) := by
  unfold PySem.storedH
  split
  · refine ⟨by rw [map_put]; exact h.nd, fun x hx => ?_⟩
    obtain ⟨y, hy, rfl⟩ := List.mem_map.mp hx
    have e : (PySem.putAt (key3 i row cnt) v y).1 = y.1 := by unfold PySem.putAt; split <;> rfl
    rw [e]; exact h.key y hy
  · rename_i hc
    refine ⟨?_, fun x hx => ?_⟩
    · rw [List.map_append, List.nodup_append]
      refine ⟨h.nd, by simp, fun x hx y hy => ?_⟩
      obtain ⟨e, he, rfl⟩ := List.mem_map.mp hx
      have : y = key3 i row cnt := by simpa using hy
      rw [this]
      intro q
      apply hc
      unfold PySem.atKey
      rw [Option.isSome_map, List.find?_isSome]
      exact ⟨e, he, decide_eq_true q⟩
    · rcases List.mem_append.mp hx with hx | hx
      · exact h.key x hx
      · have : x = (key3 i row cnt, a, v) := by simpa using hx
        rw [this]
        exact ⟨i, row, cnt, rfl, h2, h3, h4, h5, h6, hs⟩
theorem storedH_keys {H : Hp} {xs : List Ent} {k : NestedKey} {a : Addr} {v : Value} (h : ∀ x ∈ xs, KeyH H x.1 x.2.1) (hk : KeyH H k a) : ∀ x ∈ PySem.storedH xs k a v, KeyH H x.1 x.2.1 := by
  unfold PySem.storedH
  split
  · intro x hx
    obtain ⟨y, hy, rfl⟩ := List.mem_map.mp hx
    have e : (PySem.putAt k v y).1 = y.1 ∧ (PySem.putAt k v y).2.1 = y.2.1 := by unfold PySem.putAt; split <;> exact ⟨rfl, rfl⟩
    rw [e.1, e.2]; exact h y hy
  · intro x hx
    rcases List.mem_append.mp hx with hx | hx
    · exact h x hx
    · have : x = (k, a, v) := by simpa using hx
      rw [this]; exact hk
end LW
end

section
set_option Elab.async false
set_option linter.all false
set_option autoImplicit false
set_option maxRecDepth 100000
namespace LW
open PySem L2 LM LX
/-! ### the class Search -/
abbrev sSeInit : Stmt := inClass (top 37) 0
abbrev sSeDone : Stmt := inClass (top 37) 1
abbrev sSeGoes : Stmt := inClass (top 37) 2
def e1 (A : Addr) : List (Str × V) := putF "allocations" (.ref A) []
def e2 (A : Addr) (L : Int) : List (Str × V) := putF "limit" (.int L) (e1 A)
def e3 (A : Addr) (L : Int) (d : Addr) : List (Str × V) := putF "failed" (.ref d) (e2 A L)
def e4 (A : Addr) (L : Int) (d R : Addr) : List (Str × V) := putF "rows" (.ref R) (e3 A L d)
section
variable (A : Addr) (L : Int) (d R : Addr)
theorem e4_r : (e4 A L d R).lookup ("rows" : Str) = some (.ref R) := lk_put rfl
theorem e4_f : (e4 A L d R).lookup ("failed" : Str) = some (.ref d) := by
  unfold e4 e3
  rw [lk_ne (by decide +kernel), lk_put rfl]
theorem e4_l : (e4 A L d R).lookup ("limit" : Str) = some (.int L) := by
  unfold e4 e3 e2
  rw [lk_ne (by decide +kernel), lk_ne (by decide +kernel), lk_put rfl]
theorem e4_a : (e4 A L d R).lookup ("allocations" : Str) = some (.ref A) := by
  unfold e4 e3 e2 e1
  rw [lk_ne (by decide +kernel), lk_ne (by decide +kernel), lk_ne (by decide +kernel), lk_put rfl]
theorem e4_no {m : Str} (h1 : ¬ m = "rows") (h2 : ¬ m = "failed") (h3 : ¬ m = "limit") (h4 : ¬ m = "allocations") : (e4 A L d R).lookup m = none := by
  unfold e4 e3 e2 e1
  rw [lk_ne h1, lk_ne h2, lk_ne h3, lk_ne h4]; rfl
theorem e1_lt : (e1 A).length < 1000 := by have := putF_le "allocations" (.ref A) []; unfold e1; simp at this; omega
theorem e2_lt : (e2 A L).length < 1000 := by
  have h1 := putF_le "allocations" (.ref A) []
  have h2 := putF_le "limit" (.int L) (e1 A)
  unfold e2; unfold e1 at *; simp at h1; omega
theorem e3_lt : (e3 A L d).length < 1000 := by
  have h1 := putF_le "allocations" (.ref A) []
  have h2 := putF_le "limit" (.int L) (e1 A)
  have h3 := putF_le "failed" (.ref d) (e2 A L)
  unfold e3; unfold e2 e1 at *; simp at h1; omega
end
structure TxtD (K : PySem.W.Frag) (mg : Str → Option Value) (D : Addr) : Prop where
  cl : Cls K D
  nA : NoAttr K D "allocations"
  nL : NoAttr K D "limit"
  nF : NoAttr K D "failed"
  nR : NoAttr K D "rows"
  mgD : mg "Search" = some (.ref D)
/-- a Search at p -/
structure Srch (P : Program) (w : World) (D : Addr) (H : Hp) (p A d R : Addr) (all : List (List Nat)) (k n L : Nat) (bs : List Addr) (tbl : List (List Nat)) (xs : List Ent) : Prop where
  ob : ∃ dx, H p = some (.ins D dx (e4 A L d R))
  al : Tt H A all
  nest : NestAt P w H d xs
  fail : FailOk k n L all xs
  rows : H R = some (.lst (rfs bs))
  rs : Rs H bs tbl
/-- what is no list is as it was -/
def NL (H H' : Hp) : Prop := ∀ b o, H b = some o → (∀ ys, o ≠ .lst ys) → H' b = some o
theorem NL.of_same {H H' : Hp} (s : Same H H') : NL H H' := fun b o h _ => s b o h
theorem NL.trans {H H1 H2 : Hp} (a : NL H H1) (b : NL H1 H2) : NL H H2 := fun c o h n => b c o (a c o h n) n
theorem NL.put {H : Hp} {R : Addr} {ys : List V} (h : H R = some (.lst ys)) (o : HO) : NL H (upd H R o) := fun b u e n => by
  have : b ≠ R := fun z => by rw [z, h] at e; cases e; exact n _ rfl
  rw [upd_ne this]; exact e
theorem NL.tn {H H' : Hp} (a : NL H H') {x : Addr} {ns : List Nat} (h : Tn H x ns) : Tn H' x ns := let ⟨o, h1, h2⟩ := h; ⟨o, h1, a _ _ h2 fun ys z => by cases z⟩
theorem NL.rs {H H' : Hp} (a : NL H H') {as : List Addr} {rows : List (List Nat)} (h : Rs H as rows) : Rs H' as rows := ⟨h.len, fun i b e => let ⟨r, h1, h2⟩ := h.at_ i b e; ⟨r, h1, a.tn h2⟩⟩
theorem NL.tt {H H' : Hp} (a : NL H H') {x : Addr} {rows : List (List Nat)} (h : Tt H x rows) : Tt H' x rows := let ⟨as, h1, h2⟩ := h; ⟨as, a _ _ h1 (fun ys z => by cases z), a.rs h2⟩
theorem NL.rd {H H' : Hp} (a : NL H H') {x : Addr} {ys : List V} (h : Rd H x (.tup ys)) : Rd H' x (.tup ys) := by
  rcases h with h | ⟨o, h⟩
  · exact .inl (a _ _ h fun ys z => by cases z)
  · exact .inr ⟨o, a _ _ h fun ys z => by cases z⟩
theorem NL.key {H H' : Hp} (a : NL H H') {k : NestedKey} {x : Addr} (h : KeyH H k x) : KeyH H' k x := h.stay fun b xs r => a.rd r
theorem nest_lst {P : Program} {w : World} {d : Addr} {xs : List Ent} : ∀ ys, nestHO P w d xs ≠ .lst ys := fun ys z => by unfold nestHO at z; cases z
theorem NL.nest {H H' : Hp} (a : NL H H') {P : Program} {w : World} {d : Addr} {xs : List Ent} (h : NestAt P w H d xs) : NestAt P w H' d xs := ⟨a _ _ h.at_ nest_lst, fun x hx => a.key (h.keys x hx)⟩
theorem Srch.nl {P : Program} {w : World} {D : Addr} {H H' : Hp} {p A d R : Addr} {all : List (List Nat)} {k n L : Nat} {bs : List Addr} {tbl : List (List Nat)} {xs : List Ent} (h : Srch P w D H p A d R all k n L bs tbl xs) (a : NL H H')
    {bs' : List Addr} {tbl' : List (List Nat)} (hR : H' R = some (.lst (rfs bs'))) (hr : Rs H' bs' tbl') : Srch P w D H' p A d R all k n L bs' tbl' xs :=
  ⟨let ⟨dx, q⟩ := h.ob; ⟨dx, a _ _ q fun ys z => by cases z⟩, a.tt h.al, a.nest h.nest, h.fail, hR, hr⟩
theorem Srch.same {P : Program} {w : World} {D : Addr} {H H' : Hp} {p A d R : Addr} {all : List (List Nat)} {k n L : Nat} {bs : List Addr} {tbl : List (List Nat)} {xs : List Ent} (h : Srch P w D H p A d R all k n L bs tbl xs) (s : Same H H') : Srch P w D H' p A d R all k n L bs tbl xs :=
  h.nl (NL.of_same s) (s _ _ h.rows) (h.rs.same s)
/-- the dict takes a state -/
theorem Srch.store {P : Program} {w : World} {D : Addr} {H : Hp} {p A d R : Addr} {all : List (List Nat)} {k n L : Nat} {bs : List Addr} {tbl : List (List Nat)} {xs : List Ent} (h : Srch P w D H p A d R all k n L bs tbl xs)
    {i : Nat} {row cnt : List Nat} {a : Addr} {v : Value} (hk : KeyH H (key3 i row cnt) a) (f : FailOk k n L all (PySem.storedH xs (key3 i row cnt) a v)) :
    Srch P w D (upd H d (nestHO P w d (PySem.storedH xs (key3 i row cnt) a v))) p A d R all k n L bs tbl (PySem.storedH xs (key3 i row cnt) a v) := by
  have hd := h.nest.at_
  have st : ∀ b o, H b = some o → (∀ φ, o ≠ .ext φ) → (upd H d (nestHO P w d (PySem.storedH xs (key3 i row cnt) a v))) b = some o := fun b o e n => by
    have : b ≠ d := fun z => by rw [z, hd] at e; unfold nestHO at e; cases e; exact n _ rfl
    rw [upd_ne this]; exact e
  have tn : ∀ {x : Addr} {ns : List Nat}, Tn H x ns → Tn (upd H d (nestHO P w d (PySem.storedH xs (key3 i row cnt) a v))) x ns := fun t => let ⟨o, h1, h2⟩ := t; ⟨o, h1, st _ _ h2 fun φ z => by cases z⟩
  have rs : ∀ {as : List Addr} {rows : List (List Nat)}, Rs H as rows → Rs (upd H d (nestHO P w d (PySem.storedH xs (key3 i row cnt) a v))) as rows := fun t => ⟨t.len, fun j b e => let ⟨r, h1, h2⟩ := t.at_ j b e; ⟨r, h1, tn h2⟩⟩
  have ky : ∀ {kk : NestedKey} {x : Addr}, KeyH H kk x → KeyH (upd H d (nestHO P w d (PySem.storedH xs (key3 i row cnt) a v))) kk x := fun t => t.stay fun b ys r => by
    rcases r with r | ⟨o, r⟩
    · exact .inl (st _ _ r fun φ z => by cases z)
    · exact .inr ⟨o, st _ _ r fun φ z => by cases z⟩
  obtain ⟨dx, ho⟩ := h.ob
  obtain ⟨as, ha, hr⟩ := h.al
  exact ⟨⟨dx, st _ _ ho (fun φ z => by cases z)⟩, ⟨as, st _ _ ha (fun φ z => by cases z), rs hr⟩, ⟨upd_same, storedH_keys (fun x hx => ky (h.nest.keys x hx)) (ky hk)⟩, f, st _ _ h.rows (fun φ z => by cases z), rs h.rs⟩
def Fr2 (d R : Addr) (H H' : Hp) : Prop := ∀ b o, H b = some o → b ≠ d → b ≠ R → H' b = some o
def Fr5 (d R x y z : Addr) (H H' : Hp) : Prop := ∀ b o, H b = some o → b ≠ d → b ≠ R → b ≠ x → b ≠ y → b ≠ z → H' b = some o
def spSeInit (P : Program) (w : World) (D : Addr) : Sp := fun vs H Q _ => ∃ (p dx A : Addr) (a : List Nat) (r : List (List Nat)) (k n L : Nat), vs = [.ref p, .ref A, .int L] ∧ H p = some (.ins D dx []) ∧ Tt H A (a :: r) ∧ Gd k n (a :: r) ∧
  ∀ H' d R z, Srch P w D H' p A d R (a :: r) k n L [z] [sortedA a] [] → H d = none → H R = none → H z = none → But1 p H H' → Q .non H'
def spDone (P : Program) (w : World) (D : Addr) (s : Nat) : Sp := fun vs H Q _ => ∃ (p A d R cn : Addr) (all : List (List Nat)) (k n L : Nat) (bs : List Addr) (pre : List (List Nat)) (row cnt : List Nat) (xs : List Ent),
  vs = [.ref p, .ref cn] ∧ Srch P w D H p A d R all k n L bs (pre ++ [row]) xs ∧ Gd k n all ∧ Tn H cn cnt ∧ RowOk k n (rowAt all pre.length) row ∧ cnt.length = n ∧ (∀ c ∈ cnt, c ≤ pre.length) ∧ all.length = pre.length + 1 + s ∧
  (∀ H' bs' rows xs', search L (rowAt all pre.length) (all.drop (pre.length + 1)) row cnt = some rows → Srch P w D H' p A d R all k n L (bs ++ bs') (pre ++ [row] ++ rows) xs' → Fr2 d R H H' → Q (.bl true) H') ∧
  (∀ H' xs', search L (rowAt all pre.length) (all.drop (pre.length + 1)) row cnt = none → Srch P w D H' p A d R all k n L bs (pre ++ [row]) xs' → Fr2 d R H H' → Q (.bl false) H')
/-- what the search makes of a row -/
def tryRow (L : Nat) (b : List Nat) (r : List (List Nat)) (row cnt new : List Nat) : Option (List (List Nat)) := (search L b r new (bump cnt row new)).map (new :: ·)
structure GoSt (P : Program) (w : World) (D C : Addr) (H : Hp) (p A d R q lv en ar fr wt g cn : Addr) (all : List (List Nat)) (k n L : Nat) (bs : List Addr) (pre : List (List Nat)) (row cnt : List Nat) (xs : List Ent)
    (ws l e : List Int) (done b : List Nat) (r : List (List Nat)) : Prop where
  se : Srch P w D H p A d R all k n L bs (pre ++ [row]) xs
  gd : Gd k n all
  tc : Tn H cn cnt
  ok : RowOk k n (rowAt all pre.length) row
  cl : cnt.length = n
  cb : ∀ c ∈ cnt, c ≤ pre.length
  dr : all.drop (pre.length + 1) = b :: r
  st : StepOk C H q lv en ar fr wt row (frees L cnt) ws l e
  bal : Bal k ws l e ((row.zip (frees L cnt)).drop done.length)
  hg : H g = some (.lst (nvs done))
  dl : done.length ≤ n
  full : ∀ suf ∈ comps ws l e ((row.zip (frees L cnt)).drop done.length), done ++ suf ∈ comps (waits k (row.zip (frees L cnt))) (decs (rowAt all pre.length) b) (decs b (rowAt all pre.length)) (row.zip (frees L cnt))
  bal0 : Bal k (waits k (row.zip (frees L cnt))) (decs (rowAt all pre.length) b) (decs b (rowAt all pre.length)) (row.zip (frees L cnt))
  rl : R ≠ lv
  re : R ≠ en
  rw : R ≠ wt
  rf : R ≠ fr
  gl : g ≠ lv
  ge : g ≠ en
  gw : g ≠ wt
  gr : g ≠ R
def spGoes (P : Program) (w : World) (D C : Addr) (s j : Nat) : Sp := fun vs H Q _ => ∃ (p A d R q lv en ar fr wt g cn : Addr) (all : List (List Nat)) (k n L : Nat) (bs : List Addr) (pre : List (List Nat)) (row cnt : List Nat) (xs : List Ent)
    (ws l e : List Int) (done b : List Nat) (r : List (List Nat)), vs = [.ref p, .ref q, .ref g, .ref cn] ∧ GoSt P w D C H p A d R q lv en ar fr wt g cn all k n L bs pre row cnt xs ws l e done b r ∧ done.length + j = n ∧ r.length = s ∧
  (∀ H' bs' rows xs', (comps ws l e ((row.zip (frees L cnt)).drop done.length)).findSome? (fun suf => tryRow L b r row cnt (done ++ suf)) = some rows → Srch P w D H' p A d R all k n L (bs ++ bs') (pre ++ [row] ++ rows) xs' → Fr5 d R lv en wt H H' → Q (.bl true) H') ∧
  (∀ H' xs', (comps ws l e ((row.zip (frees L cnt)).drop done.length)).findSome? (fun suf => tryRow L b r row cnt (done ++ suf)) = none → Srch P w D H' p A d R all k n L bs (pre ++ [row]) xs' → StepOk C H' q lv en ar fr wt row (frees L cnt) ws l e → Fr5 d R lv en wt H H' → Q (.bl false) H')
section
variable {P : Program} {w : World} {K : PySem.W.Frag} {mg : Str → Option Value} {base : Heap}
theorem scSeInit : FnScope ["self", "allocations", "limit"] ["self", "allocations", "limit"] (defScope sSeInit) := ⟨rfl, rfl, rfl, by decide +kernel, rfl, by decide +kernel, by decide +kernel⟩
theorem ok_seInit {f D : Addr} {fd : FuncData} (F : Fun K "__init__" "Search.__init__" sSeInit f fd) (N : Nm mg) (T : TxtD K mg D) (O1 : Ok P w K mg base "sorted_assignment" ["allocation"] 1 spSorted) : FnOk P w K mg base CX0 2 f fd ["self", "allocations", "limit"] (spSeInit P w D) := by
  refine F.ok scSeInit (fun vs H Q E h => ?_) (fun cdv A outer s H vs Q E hr h => ?_)
  · obtain ⟨p, dx, A, a, r, k, n, L, rfl, _⟩ := h; rfl
  · obtain ⟨p, dx, A, a, r, k, n, L, rfl, hp, ⟨as, hA, hR⟩, g, q⟩ := h
    refine ⟨_, (pss_cons (ps_fld (pv 0) (pv 1) rfl) (pss_cons (ps_fld (pv 0) (pv 2) rfl) (pss_cons (ps_fld (pv 0) pe_dnewN rfl) (pss_one (ps_fld (pv 0) (pe_lst (pa_cons ((pe_ok O1 hr rfl (pa_cons ((pe_ix (ix_tupK (K := K) rfl) (pv 1) (pe_int) (fun _ _ => rfl))) pa_nil))) pa_nil)) rfl))))), ?_⟩
    have g4 := g.k4
    have g3 := g.n4
    obtain ⟨ha, hs⟩ := g.al.all a (by simp)
    have nAp : A ≠ p := ne_of hA hp (by intro z; cases z)
    refine ⟨_, rfl, _, rfl, p, D, dx, [], rfl, hp, T.cl, T.nA, (by show 0 < 1000; decide), ?_⟩
    obtain ⟨G1, hG1⟩ : ∃ G, G = upd H p (.ins D dx (putF "allocations" (.ref A) [])) := ⟨_, rfl⟩
    rw [← hG1]
    have q1 : G1 p = some (.ins D dx (e1 A)) := by rw [hG1]; exact upd_same
    have B1 : But1 p H G1 := by rw [hG1]; exact (Same.but (Same.refl H)).put _
    clear hG1
    refine ⟨_, rfl, _, rfl, p, D, dx, _, rfl, q1, T.cl, T.nL, e1_lt _, ?_⟩
    obtain ⟨G2, hG2⟩ : ∃ G, G = upd G1 p (.ins D dx (putF "limit" (.int (L : Int)) (e1 A))) := ⟨_, rfl⟩
    rw [← hG2]
    have q2 : G2 p = some (.ins D dx (e2 A L)) := by rw [hG2]; exact upd_same
    have B2 : But1 p H G2 := by rw [hG2]; exact B1.put _
    clear hG2
    intro d hd
    have hd0 := B2.free q2 hd
    have npd : p ≠ d := ne_of_none q2 hd
    have s3 := same_new hd (nestHO P w d [])
    refine ⟨_, rfl, p, D, dx, _, rfl, s3 _ _ q2, T.cl, T.nF, e2_lt _ _, ?_⟩
    obtain ⟨G3, hG3⟩ : ∃ G, G = upd (upd G2 d (nestHO P w d [])) p (.ins D dx (putF "failed" (.ref d) (e2 A L))) := ⟨_, rfl⟩
    have q3 : G3 p = some (.ins D dx (e3 A L d)) := by rw [hG3]; exact upd_same
    have d3 : G3 d = some (nestHO P w d []) := by rw [hG3, upd_ne npd.symm]; exact upd_same
    have B3 : But1 p H G3 := by rw [hG3]; exact (B2.same s3).put _
    show (fun G => _) (upd (upd G2 d (nestHO P w d [])) p (.ins D dx (putF "failed" (.ref d) (e2 A L))))
    rw [← hG3]
    clear hG3
    have hA3 := B3 _ _ hA nAp
    have hR3 : Rs G3 as (a :: r) := ⟨hR.len, fun i x e => let ⟨y, h1, h2⟩ := hR.at_ i x e; ⟨y, h1, B3.sh h2 (h2.ne hp (by intro o x z; cases z))⟩⟩
    obtain ⟨p0, as', rfl, hT0, hR'⟩ := hR3.uncons
    have at0 : atI (rfs (p0 :: as')) 0 = some (.ref p0) := atI_nat (j := 0) rfl
    refine ⟨_, rfl, A, _, _, _, rfl, rfl, SqT.of hA3, at0, p0, a, rfl, hT0, by omega, by omega, fun H4 z s4 hz Tz => ?_⟩
    refine ⟨(by show 1 ≤ sizeLine; decide), fun R hRn => ?_⟩
    have s5 := same_new hRn (.lst [.ref z])
    have s45 := s4.trans s5
    refine ⟨_, rfl, p, D, dx, _, rfl, s45 _ _ q3, T.cl, T.nR, e3_lt _ _ _, ?_⟩
    have npR : p ≠ R := ne_of_none (s4 _ _ q3) hRn
    have nzp : z ≠ p := fun e => by rw [e, q3] at hz; cases hz
    have B5 := B3.same s45
    have fin : ∀ b o, (upd H4 R (.lst [.ref z])) b = some o → b ≠ p → (upd (upd H4 R (.lst [.ref z])) p (.ins D dx (putF "rows" (.ref R) (e3 A L d)))) b = some o := fun b o h n => by rw [upd_ne n]; exact h
    refine q _ d R z ⟨⟨dx, upd_same⟩, ⟨p0 :: as', fin _ _ (s45 _ _ hA3) nAp, ?_⟩, ⟨fin _ _ (s45 _ _ d3) npd.symm, fun x hx => by simp at hx⟩, FailOk.nil, fin _ _ upd_same npR.symm, Rs.cons ?_ Rs.nil⟩ hd0 (B3.free q3 (s4.free hRn)) (B3.free q3 hz) (B5.put _)
    · have hR5 := hR3.same s45
      exact ⟨hR5.len, fun i x e => let ⟨y, h1, o, h2, h3⟩ := hR5.at_ i x e; ⟨y, h1, o, h2, fin _ _ h3 (ne_of h3 (s45 _ _ q3) (by intro z; cases z))⟩⟩
    · obtain ⟨o, h1, h2⟩ := Tz.same s5
      exact ⟨o, h1, fin _ _ h2 nzp⟩
end
end LW
end

section
set_option Elab.async false
set_option linter.all false
set_option autoImplicit false
set_option maxRecDepth 100000
namespace LW
open PySem L2 LM LX
theorem enough_range {k : Nat} {ws l : List Int} (h1 : ws.length = k) (h2 : l.length = k) : ((List.range k).map fun i => decide (nth ws i ≥ nth l i)).all id = enough ws l := by
  rw [Bool.eq_iff_iff, enough_iff h1 h2, List.all_eq_true]
  constructor
  · intro h v hv
    have := h _ (List.mem_map_of_mem (List.mem_range.mpr hv))
    exact of_decide_eq_true this
  · intro h x hx
    obtain ⟨v, hv, rfl⟩ := List.mem_map.mp hx
    exact decide_eq_true (h v (List.mem_range.mp hv))
theorem Rs.lastv {H : Hp} {bs : List Addr} {pre : List (List Nat)} {last : List Nat} (h : Rs H bs (pre ++ [last])) : ∃ u, Tn H u last ∧ atI (rfs bs) (-1) = some (.ref u) := by
  obtain ⟨bs', u, rfl, t⟩ := h.last
  exact ⟨u, t, by rw [rfs_snoc]; exact atI_last _ _⟩
def spGU (P : Program) (w : World) (D C : Addr) (s : Nat) : Sp := fun vs H Q E => ∃ j s', j ≤ 4 ∧ s = s' + 1 ∧ spGoes P w D C s' j vs H Q E
theorem Fr5.two {d R lv en wt : Addr} {H0 H H' : Hp} (s : Same H0 H) (f : Fr5 d R lv en wt H H') (h1 : H0 lv = none) (h2 : H0 en = none) (h3 : H0 wt = none) : Fr2 d R H0 H' := fun b o h n1 n2 =>
  f b o (s _ _ h) n1 n2 (ne_of_none h h1) (ne_of_none h h2) (ne_of_none h h3)
theorem neg1 {X : Cx} {k : Nat} {p pos : Pos} : PE X (.UnaryOp .USub (.Constant (.int 1) k p) pos) (tUn (rU fun i => .int (-i)) (tC (.int 1))) := pe_un un_neg pe_int
section
variable {P : Program} {w : World} {K : PySem.W.Frag} {mg : Str → Option Value} {base : Heap}
theorem scSeDone : FnScope ["self", "counts", "at", "state", "free", "step", "enough", "many", "waiting", "leaving"] ["self", "counts"] (defScope sSeDone) := ⟨rfl, rfl, rfl, by decide +kernel, rfl, by decide +kernel, by decide +kernel⟩
theorem ok_done {f D C fG : Addr} {fd dG : FuncData} {s kg : Nat} (F : Fun K "is_done" "Search.is_done" sSeDone f fd) (N : Nm mg) (T : TxtD K mg D) (TS : TxtS K mg C) (OI : OkI P w K mg base C ["self", "before", "behind", "assignment", "free"] 1 (spStep C))
    (GG : FnOk P w K mg base CX0 kg fG dG ["self", "step", "begun", "counts"] (spGU P w D C s)) (MG : Meth K D "goes" fG) (bG : Binds K dG ["self", "step", "begun", "counts"] []) (hkg : 2 ≤ kg) : FnOk P w K mg base CX0 (kg + 1) f fd ["self", "counts"] (spDone P w D s) := by
  obtain ⟨fI, dI, GI, MI, bI⟩ := OI.ex
  refine F.ok scSeDone (fun vs H Q E h => ?_) (fun cdv A0 outer s0 H vs Q E hr h => ?_)
  · obtain ⟨p, A, d, R, cn, all, k, n, L, bs, pre, row, cnt, xs, rfl, _⟩ := h; rfl
  · obtain ⟨p, A, d, R, cn, all, k, n, L, bs, pre, row, cnt, xs, rfl, S, g, hC, ok, cl, cb, hal, q1, q0⟩ := h
    have hrI : Room (1 + 1) _ := hr.mono hkg
    refine ⟨_, (pss_cons (ps_set (i := 2) scSeDone.nd rfl (Or.inl rfl) ((pe_callB (call_lenK (K := K) rfl) rfl N.len PySem.boot_len (pa_cons (pe_fld (pv 0) rfl) pa_nil)))) (pss_cons (ps_if ((pt_cmpR (op_eq) (pv 2) ((pe_callB (call_lenK (K := K) rfl) rfl N.len PySem.boot_len (pa_cons (pe_fld (pv 0) rfl) pa_nil))) (nomark _))) (pss_one (ps_ret (pe_bl))) pss_nil) (pss_cons (ps_set (i := 3) scSeDone.nd rfl (Or.inl rfl) (pe_tup (pa_cons (pv 2) (pa_cons ((pe_ix (ix_listK (K := K) rfl) (pe_fld (pv 0) rfl) (neg1) (fun _ _ => rfl))) (pa_cons (pv 1) pa_nil))))) (pss_cons (ps_if (pt_cmpR (op_inN hr.units) (pv 3) (pe_fld (pv 0) rfl) rfl) (pss_one (ps_ret (pe_bl))) pss_nil) (pss_cons (ps_setLc (i := 4) (own := [("many", 7)]) (g := gName 7) (tt := tYes) rfl scSeDone.nd rfl rfl (sw_true rfl rfl rfl (by decide +kernel)) (pi_tup (pv 1)) (blkOk_by (N := ["self", "counts", "at", "state", "free", "step", "enough", "many", "waiting", "leaving"]) (sc := defScope sSeDone) (by decide +kernel)) (fun _ _ _ _ _ => pg_name (i := 7) scSeDone.nd rfl (Or.inl rfl)) (fun _ _ _ _ _ => pts_nil) (fun _ _ _ _ _ => (pe_cmpR (op_lt) (pv 7) (pe_fldK (K := K) rfl (pv 0) rfl) (nomark _)))) (pss_cons (ps_set (i := 5) scSeDone.nd rfl (Or.inl rfl) (pe_make MI GI hrI rfl TS.mgC bI .nil pass0 (pa_cons ((pe_ix (ix_tupK (K := K) rfl) (pe_fld (pv 0) rfl) ((pe_op (op_sub) (pv 2) (pe_int))) (fun _ _ => rfl))) (pa_cons ((pe_ix (ix_tupK (K := K) rfl) (pe_fld (pv 0) rfl) (pv 2) (fun _ _ => rfl))) (pa_cons ((pe_ix (ix_listK (K := K) rfl) (pe_fld (pv 0) rfl) (neg1) (fun _ _ => rfl))) (pa_cons (pv 4) pa_nil)))))) (pss_cons (ps_set (i := 6) scSeDone.nd rfl (Or.inl rfl) ((pe_callB (cr_all rfl) rfl N.all (by decide +kernel) (pa_cons ((pe_lc (own := [("waiting", 8), ("leaving", 9)]) (g := gTup K 2 (gCons (gName 8) (gCons (gName 9) gNil))) (tt := tYes) rfl scSeDone.nd (pi_zipN rfl N.zip (pa_cons (pe_fld (pv 5) rfl) (pa_cons (pe_fld (pv 5) rfl) pa_nil))) (blkOk_by (N := ["self", "counts", "at", "state", "free", "step", "enough", "many", "waiting", "leaving"]) (sc := defScope sSeDone) (by decide +kernel)) (fun _ _ _ _ _ => pg_tup rfl (pgs_cons (pg_name (i := 8) scSeDone.nd rfl (Or.inl rfl)) (pgs_cons (pg_name (i := 9) scSeDone.nd rfl (Or.inl rfl)) pgs_nil))) (fun _ _ _ _ _ => pts_nil) (fun _ _ _ _ _ => (pe_cmpR (op_ge) (pv 8) (pv 9) (nomark _))))) pa_nil)))) (pss_cons (ps_if (PW.pt (pw_and (pt_val (pv 6)) (pw_and1 (pt_val (pe_meth (pv 0) T.cl MG GG hr bG .nil pass0 (pa_cons (pv 5) (pa_cons (pe_lst pa_nil) (pa_cons (pv 1) pa_nil)))))))) (pss_one (ps_ret (pe_bl))) pss_nil) (pss_cons (ps_asg pe_bl (pg_sub (pe_fld (pv 0) rfl) (pv 3) (set_nest hr.units))) (pss_one (ps_ret (pe_bl)))))))))))), ?_⟩
    obtain ⟨dx, ho⟩ := S.ob
    obtain ⟨as, hA, hR⟩ := S.al
    have g6 := g.r6
    have g4 := g.k4
    have g3 := g.n4
    have lbs : (rfs bs).length = pre.length + 1 := by rw [rfs_length, S.rs.len]; simp
    have las : (rfs as).length = pre.length + 1 + s := by rw [rfs_length, hR.len, hal]
    refine ⟨_, rfl, p, D, dx, _, _, rfl, ho, T.cl, T.nR, e4_r .., R, _, rfl, .inl (SqL.of S.rows), ?_⟩
    rw [lbs]
    refine ⟨_, rfl, _, rfl, p, D, dx, _, _, rfl, ho, T.cl, T.nA, e4_a .., A, _, rfl, .inr (SqT.of hA), rfl, _, rfl, ?_⟩
    rw [las]
    cases s with
    | zero =>
      refine ite2 (fun c => ?_) (fun c => absurd (decide_eq_true rfl) c)
      have ed : all.drop (pre.length + 1) = [] := List.drop_eq_nil_of_le (by omega)
      have e : search L (rowAt all pre.length) (all.drop (pre.length + 1)) row cnt = some [] := by rw [ed]; rfl
      exact q1 H [] [] xs e (by rw [List.append_nil, List.append_nil]; exact S) fun b o h _ _ => h
    | succ s' =>
      refine ite2 (fun c => ?_) (fun c => ?_)
      · have := V.int.inj (of_decide_eq_true c)
        exact absurd this (by omega)
      clear c
      obtain ⟨b, r, edr⟩ : ∃ b r, all.drop (pre.length + 1) = b :: r := by
        cases e : all.drop (pre.length + 1) with
        | nil => have := congrArg List.length e; rw [List.length_drop] at this; simp at this; omega
        | cons b r => exact ⟨b, r, rfl⟩
      have hlt : pre.length + 1 < all.length := by omega
      have eb : rowAt all (pre.length + 1) = b := by
        rw [rowAt_eq hlt]
        have := List.drop_eq_getElem_cons hlt
        rw [edr] at this
        exact ((List.cons.inj this).1).symm
      have lr : r.length = s' := by have := congrArg List.length edr; rw [List.length_drop] at this; simp at this; omega
      obtain ⟨u, Tu, atu⟩ := S.rs.lastv
      -- state = (at, self.rows[-1], counts)
      refine ⟨_, rfl, _, rfl, p, D, dx, _, _, rfl, ho, T.cl, T.nR, e4_r .., 1, rfl, R, _, _, _, rfl, rfl, SqL.of S.rows, atu, _, rfl, (by show 3 ≤ sizeLine; decide), fun st hst => ?_⟩
      have s1 := same_new hst (.tup [.int (pre.length + 1 : Nat), .ref u, .ref cn])
      have S1 := S.same s1
      obtain ⟨dx1, ho1⟩ := S1.ob
      have ky : KeyH (upd H st (.tup [.int (pre.length + 1 : Nat), .ref u, .ref cn])) (key3 (pre.length + 1) row cnt) st := ⟨_, _, _, u, cn, rfl, .inl upd_same, (Tu.same s1).rd, (hC.same s1).rd⟩
      -- if state in self.failed
      refine ⟨_, rfl, _, rfl, p, D, dx1, _, _, rfl, ho1, T.cl, T.nF, e4_f .., d, st, _, xs, rfl, rfl, S1.nest, ky, _, rfl, ?_⟩
      refine ite2 (fun c => ?_) (fun c => ?_)
      · have e := S.fail.hit c
        exact q0 _ xs e S1 fun b o h _ _ => s1 _ _ h
      clear c
      -- free
      have hC1 := hC.same s1
      refine ⟨_, rfl, cn, rfl, ⟨_, hC1.sq⟩, fun fr hfr => ?_⟩
      refine lc_map walk_tup (fun i => V.bl (decide (sh cnt i < L))) hfr (by rw [nvs_length]; omega) (fun H' s => (hC1.same s).sq) (fun i H x H' _ _ y => y.1 ▸ Same.refl _) (fun j x H3 H4 Rr hj s3 y s4 rr => ?_) (fun H3 s3 e3 => ?_)
      · obtain ⟨rfl, e10⟩ := y
        have hj' : j < cnt.length := by rw [nvs_length] at hj; exact hj
        rw [nvs_sh hj'] at e10
        cases e10
        refine ⟨rfl, _, rfl, _, rfl, p, D, dx1, _, _, rfl, s3 _ _ ho1, T.cl, T.nL, e4_l .., _, _, rfl, rfl, rr _ _ (Same.refl _) ?_⟩
        show V.bl (decide (((sh cnt j : Nat) : Int) < (L : Int))) = V.bl (decide (sh cnt j < L))
        refine congrArg V.bl ?_
        rw [Bool.eq_iff_iff, decide_eq_true_iff, decide_eq_true_iff]
        omega
      rw [nvs_length, frees_range] at e3
      have s13 := s1.trans s3
      have S3 := S.same s13
      obtain ⟨dx3, ho3⟩ := S3.ob
      obtain ⟨as3, hA3, hR3⟩ := S3.al
      obtain ⟨pa, hpa, Ta⟩ := hR3.get' (rowAt_get (l := all) (i := pre.length) (by omega))
      obtain ⟨pb, hpb, Tb⟩ := hR3.get' (rowAt_get hlt)
      rw [eb] at Tb
      obtain ⟨u3, Tu3, atu3⟩ := S3.rs.lastv
      have hfr0 := s1.free hfr
      -- step = Step(..)
      refine ⟨_, rfl, p, D, dx3, _, _, rfl, ho3, T.cl, T.nA, e4_a .., _, rfl, _, _, rfl, rfl, A, _, _, _, rfl, rfl, SqT.of hA3, at_of (j := pre.length) (by omega) (rfs_get hpa),
        _, rfl, p, D, dx3, _, _, rfl, ho3, T.cl, T.nA, e4_a .., _, rfl, A, _, _, _, rfl, rfl, SqT.of hA3, atI_nat (rfs_get hpb),
        _, rfl, p, D, dx3, _, _, rfl, ho3, T.cl, T.nR, e4_r .., 1, rfl, R, _, _, _, rfl, rfl, SqL.of S3.rows, atu3, _, rfl, ?_⟩
      intro x dy nx ndy ndx
      have s5 : Same H3 (upd (upd H3 dy (.own x)) x (.ins C dy [])) := fun b o e => by
        rw [upd_ne (ne_of_none e nx), upd_ne (ne_of_none e ndy)]; exact e
      obtain ⟨lb1, lb2⟩ := g.al.all b (by rw [← eb, rowAt_eq hlt]; exact List.getElem_mem hlt)
      refine ⟨x, dy, pa, pb, u3, fr, _, b, row, frees L cnt, k, n, rfl, upd_same, Ta.same s5, Tb.same s5, Tu3.same s5, s5 _ _ e3, ok.al, lb1, ok.len, by rw [frees_length, cl], ok.lt, by omega, by omega,
        fun H6 lv en wt ST nlv nen nwt b6 => ⟨rfl, ?_⟩⟩
      have s6 : Same H3 H6 := But1.back s5 b6 nx
      have s16 := s13.trans s6
      have nlv3 := s5.free nlv
      have nen3 := s5.free nen
      have nwt3 := s5.free nwt
      obtain ⟨dz, hz⟩ := ST.ob
      have wl : (waits k (row.zip (frees L cnt))).length = k := waits_length (mem_zip_lt ok.lt _)
      have dl : (decs (rowAt all pre.length) b).length = k := decs_length ok.al lb1
      -- enough
      refine ⟨_, rfl, x, C, dz, _, _, rfl, hz, TS.cl, TS.nW, f5_w .., _, rfl, x, C, dz, _, _, rfl, hz, TS.cl, TS.nL, f5_l .., [(wt, true), (lv, true)], rfl, by simp, by simp, (Srcs.two (Sq.l (SqL.of ST.hw)) (Sq.l (SqL.of ST.hl))).ex, fun D2 hD2 => ?_⟩
      refine lc_map (walk_zip2 (n := k) (by rw [List.length_map, wl]) (by rw [List.length_map, dl])) (fun i => V.bl (decide (nth (waits k (row.zip (frees L cnt))) i ≥ nth (decs (rowAt all pre.length) b) i))) hD2 (by omega)
        (fun H' s => Srcs.two (Sq.l (SqL.of (s _ _ ST.hw))) (Sq.l (SqL.of (s _ _ ST.hl)))) (fun i H x H' _ _ y => y.same) (fun j y H7 H8 Rr hj s7 yy s8 rr => ?_) (fun H7 s7 e7 => ?_)
      · obtain ⟨U, rfl, _, rfl⟩ := yy.pair (ivs_get (by omega)) (ivs_get (by omega))
        refine g_two rfl upd_same ?_
        exact ⟨rfl, _, rfl, _, rfl, _, _, rfl, rfl, rr _ _ (Same.refl _) rfl⟩
      refine ⟨D2, (List.range k).map fun i => decide (nth (waits k (row.zip (frees L cnt))) i ≥ nth (decs (rowAt all pre.length) b) i), rfl, SqL.of (by rw [e7, List.map_map]; rfl), ?_⟩
      rw [enough_range wl dl]
      have s17 := s16.trans s7
      have S7 := S.same s17
      have ST7 := ST.same s7
      obtain ⟨dx7, ho7⟩ := S7.ob
      have esr : search L (rowAt all pre.length) (all.drop (pre.length + 1)) row cnt = if enough (waits k (row.zip (frees L cnt))) (decs (rowAt all pre.length) b) = true then (comps (waits k (row.zip (frees L cnt))) (decs (rowAt all pre.length) b) (decs b (rowAt all pre.length)) (row.zip (frees L cnt))).findSome? (tryRow L b r row cnt) else none := by
        rw [edr, search, ok.al]; rfl
      -- what follows when nothing is found
      have fin : ∀ (H9 : Hp) (xs' : List Ent) (v5 v6 : V), search L (rowAt all pre.length) (all.drop (pre.length + 1)) row cnt = none → Srch P w D H9 p A d R all k n L bs (pre ++ [row]) xs' → Fr2 d R H H9 →
          KeyH H9 (key3 (pre.length + 1) row cnt) st → rSetN P w (.ref d) (.ref st) (.bl true) H9 fun H10 => Q (.bl false) H10 := by
        intro H9 xs' v5 v6 e S9 F9 k9
        refine ⟨d, st, _, xs', rfl, rfl, rfl, S9.nest, k9, S9.fail.small g4 g3, ?_⟩
        have f9 := S9.fail.store (i := pre.length + 1) (row := row) (cnt := cnt) (by omega) ok.len ok.lt cl (fun c hc => by have := cb c hc; omega) e st (.bool true)
        exact q0 _ _ e (S9.store k9 f9) fun b o h h1 h2 => by rw [upd_ne h1]; exact F9 b o h h1 h2
      have k7 : KeyH H7 (key3 (pre.length + 1) row cnt) st := (NL.of_same (s3.trans (s6.trans s7))).key ky
      refine ⟨_, rfl, _, rfl, ?_⟩
      cases hen : enough (waits k (row.zip (frees L cnt))) (decs (rowAt all pre.length) b) with
      | false =>
        rw [hen] at esr
        refine iteF (iteF ?_)
        refine ⟨_, rfl, p, D, dx7, _, _, rfl, ho7, T.cl, T.nF, e4_f .., _, rfl, ?_⟩
        exact fin H7 xs (.ref x) (.bl false) (esr.trans (if_neg (by simp))) S7 (fun b o h _ _ => s17 _ _ h) k7
      | true =>
        rw [hen] at esr
        rw [if_pos rfl] at esr
        have B0 := bal_of ok lb1 lb2 hen
        refine iteT ?_
        refine ⟨_, rfl, p, dx7, _, rfl, ho7, e4_no _ _ _ _ (by decide +kernel) (by decide +kernel) (by decide +kernel) (by decide +kernel), _, rfl, Nat.zero_le _, fun gl hgl => ?_⟩
        have s8 := same_new hgl (.lst [])
        have s18 := s17.trans s8
        have S8 := S.same s18
        have ST8 := ST7.same s8
        have nl : ∀ {a : Addr} {u : HO}, H7 a = some u → gl ≠ a := fun h => (ne_of_none h hgl).symm
        have rl : ∀ {a : Addr}, H3 a = none → R ≠ a := fun h => ne_of_none S3.rows h
        refine ⟨_, rfl, n, s', by omega, rfl, p, A, d, R, x, lv, en, u3, fr, wt, gl, cn, all, k, n, L, bs, pre, row, cnt, xs, _, _, _, [], b, r, rfl,
          ⟨S8, g, hC.same s18, ok, cl, cb, edr, ST8, by rw [List.length_nil, List.drop_zero]; exact B0, upd_same, Nat.zero_le _, fun suf h => by rw [List.length_nil, List.drop_zero] at h; exact h, B0,
            rl nlv3, rl nen3, rl nwt3, ne_of_none S1.rows hfr, nl ST7.hl, nl ST7.he, nl ST7.hw, nl S7.rows⟩, by simp, lr, fun H9 bs' rows xs' e S9 F9 => ?_, fun H9 xs' e S9 ST9 F9 => ?_⟩
        · rw [List.length_nil, List.drop_zero] at e
          refine ⟨_, rfl, iteT ?_⟩
          exact q1 H9 bs' rows xs' (esr.trans e) S9 (Fr5.two (s18) F9 (s13.free nlv3) (s13.free nen3) (s13.free nwt3))
        · rw [List.length_nil, List.drop_zero] at e
          refine ⟨_, rfl, iteF ?_⟩
          obtain ⟨dx9, ho9⟩ := S9.ob
          refine ⟨_, rfl, p, D, dx9, _, _, rfl, ho9, T.cl, T.nF, e4_f .., _, rfl, ?_⟩
          refine fin H9 xs' (.ref x) (.bl true) (esr.trans e) S9 (Fr5.two (s18) F9 (s13.free nlv3) (s13.free nen3) (s13.free nwt3)) ?_
          have S8n := S8.nest.at_
          refine (NL.of_same s8).key k7 |>.stay fun b ys rd => ?_
          have key : ∀ o, (upd H7 gl (.lst [])) b = some o → (∀ zs, o ≠ .lst zs) → (∀ φ, o ≠ .ext φ) → H9 b = some o := fun o h n1 n2 => F9 b o h
            (fun z => by rw [z, S8n] at h; unfold nestHO at h; cases h; exact n2 _ rfl) (fun z => by rw [z, S8.rows] at h; cases h; exact n1 _ rfl) (fun z => by rw [z, ST8.hl] at h; cases h; exact n1 _ rfl) (fun z => by rw [z, ST8.he] at h; cases h; exact n1 _ rfl) (fun z => by rw [z, ST8.hw] at h; cases h; exact n1 _ rfl)
          rcases rd with rd | ⟨o, rd⟩
          · exact .inl (key _ rd (fun zs z => by cases z) fun φ z => by cases z)
          · exact .inr ⟨o, key _ rd (fun zs z => by cases z) fun φ z => by cases z⟩
end
end LW
end

section
set_option Elab.async false
set_option linter.all false
set_option autoImplicit false
set_option maxRecDepth 100000
namespace LW
open PySem L2 LM LX
theorem fs_flat {α β γ : Type} (f : β → Option γ) (g : α → List β) : ∀ l : List α, (l.flatMap g).findSome? f = l.findSome? fun x => (g x).findSome? f
  | [] => rfl
  | a :: r => by
    rw [List.flatMap_cons, List.findSome?_append, fs_flat f g r, List.findSome?_cons]
    cases (g a).findSome? f <;> rfl
theorem fs_cons {γ : Type} (F : List Nat → Option γ) (ws l e : List Int) (v : Nat) (fl : Bool) (rest : List (Nat × Bool)) (done : List Nat) :
    (comps ws l e ((v, fl) :: rest)).findSome? (fun suf => F (done ++ suf)) = (opts ws l e v fl).findSome? fun o => (comps (tkW ws v fl) (tkL l v o) (tkE e v o) rest).findSome? fun suf => F ((done ++ [o]) ++ suf) := by
  rw [comps, fs_flat]
  congr 1
  funext o
  rw [List.findSome?_map]
  congr 1
  funext suf
  show F (done ++ (o :: suf)) = _
  rw [List.append_assoc]; rfl
theorem fs_at {α γ : Type} {F : α → Option γ} {x : γ} : ∀ {l : List α} {m : Nat} {o : α}, l[m]? = some o → (∀ m' o', m' < m → l[m']? = some o' → F o' = none) → F o = some x → l.findSome? F = some x
  | [], m, o, h, _, _ => by simp at h
  | a :: r, 0, o, h, _, hx => by
    have : a = o := by simpa using h
    subst this
    rw [List.findSome?_cons, hx]
  | a :: r, m + 1, o, h, hn, hx => by
    rw [List.findSome?_cons, hn 0 a (by omega) rfl]
    exact fs_at (l := r) (m := m) (by simpa using h) (fun m' o' hm e => hn (m' + 1) o' (by omega) (by simpa using e)) hx
theorem fs_none {α γ : Type} {F : α → Option γ} {l : List α} (h : ∀ (m : Nat) (o : α), l[m]? = some o → F o = none) : l.findSome? F = none := by
  rw [List.findSome?_eq_none_iff]
  intro o ho
  obtain ⟨m, hm, rfl⟩ := List.mem_iff_getElem.mp ho
  exact h m _ (List.getElem?_eq_getElem hm)
theorem addAt_back {w : List Int} {v : Nat} (h : v < w.length) (x y : Int) (e : x + y = 0) : addAt (addAt w v x) v y = w := by
  unfold addAt
  rw [List.set_set]
  have h2 : nth (w.set v (nth w v + x)) v = nth w v + x := by unfold nth; simp [List.getD_eq_getElem?_getD, h]
  rw [h2]
  have h3 : nth w v + x + y = w[v] := by rw [nth_eq h]; omega
  rw [h3, List.set_getElem_self]
theorem back_w {w : List Int} {v : Nat} {f : Bool} (h : v < w.length) : tW (tkW w v f) v f (-1) = w := by
  unfold tW tkW
  exact addAt_back h _ _ (by split <;> simp)
theorem back_l {l : List Int} {v o : Nat} (h : v < l.length) : tL (tkL l v o) v o (-1) = l := by
  unfold tL tkL
  by_cases e : o = v
  · simp [e]
  · rw [if_pos e, if_pos e]; exact addAt_back h _ _ (by decide)
theorem back_e {l : List Int} {v o : Nat} (h : o < l.length) : tE (tkE l v o) v o (-1) = l := by
  unfold tE tkE
  by_cases e : o = v
  · simp [e]
  · rw [if_pos e, if_pos e]; exact addAt_back h _ _ (by decide)
theorem Rs.init {H : Hp} {bs : List Addr} {u : Addr} {rows : List (List Nat)} {x : List Nat} (h : Rs H (bs ++ [u]) (rows ++ [x])) : Rs H bs rows := by
  have hl : bs.length = rows.length := by have := h.len; simpa using this
  refine ⟨hl, fun i a e => ?_⟩
  have hi := (List.getElem?_eq_some_iff.mp e).1
  obtain ⟨r, h1, h2⟩ := h.at_ i a (by rw [List.getElem?_append_left hi]; exact e)
  exact ⟨r, by rw [List.getElem?_append_left (by omega)] at h1; exact h1, h2⟩
theorem StepOk.fr2 {P : Program} {w : World} {C : Addr} {H H' : Hp} {q lv en ar fr wt d R : Addr} {row : List Nat} {fs : List Bool} {ws l e : List Int} {xs : List Ent} {ys : List V} (h : StepOk C H q lv en ar fr wt row fs ws l e) (F : Fr2 d R H H')
    (hd : H d = some (nestHO P w d xs)) (hR : H R = some (.lst ys)) (n1 : R ≠ lv) (n2 : R ≠ en) (n3 : R ≠ wt) (n4 : R ≠ fr) : StepOk C H' q lv en ar fr wt row fs ws l e := by
  have nd : ∀ {b : Addr} {o : HO}, H b = some o → (∀ φ, o ≠ .ext φ) → b ≠ d := fun e n z => by rw [z, hd] at e; unfold nestHO at e; cases e; exact n _ rfl
  obtain ⟨dx, ho⟩ := h.ob
  obtain ⟨o, h1, h2⟩ := h.ha
  have nq : q ≠ R := ne_of ho hR (by intro z; cases z)
  have na : ar ≠ R := ne_of h2 hR (by intro z; cases z)
  exact ⟨⟨dx, F _ _ ho (nd ho fun φ z => by cases z) nq⟩, F _ _ h.hl (nd h.hl fun φ z => by cases z) n1.symm, F _ _ h.he (nd h.he fun φ z => by cases z) n2.symm, F _ _ h.hw (nd h.hw fun φ z => by cases z) n3.symm,
    ⟨o, h1, F _ _ h2 (nd h2 fun φ z => by cases z) na⟩, F _ _ h.hf (nd h.hf fun φ z => by cases z) n4.symm, h.le, h.lw, h.ew, h.fl, h.fe, h.fw⟩
theorem But3.nl {lv en wt : Addr} {H H' : Hp} {a b c : List V} (h : But3 lv en wt H H') (h1 : H lv = some (.lst a)) (h2 : H en = some (.lst b)) (h3 : H wt = some (.lst c)) : NL H H' := fun x o e n =>
  h x o e (fun z => by rw [z, h1] at e; cases e; exact n _ rfl) (fun z => by rw [z, h2] at e; cases e; exact n _ rfl) (fun z => by rw [z, h3] at e; cases e; exact n _ rfl)
def spGoesP (P : Program) (w : World) (D C : Addr) (s : Nat) : Nat → Sp
  | 0 => fun _ _ _ _ => False
  | j + 1 => spGoes P w D C s j
section
variable {P : Program} {w : World} {K : PySem.W.Frag} {mg : Str → Option Value} {base : Heap}
theorem scSeGoes : FnScope ["self", "step", "begun", "counts", "more", "bucket", "variant", "one", "other", "many"] ["self", "step", "begun", "counts"] (defScope sSeGoes) := ⟨rfl, rfl, rfl, by decide +kernel, rfl, by decide +kernel, by decide +kernel⟩
theorem ok_goes {f D C fG fD : Addr} {fd dG dD : FuncData} {s j kg : Nat} (F : Fun K "goes" "Search.goes" sSeGoes f fd) (N : Nm mg) (T : TxtD K mg D) (TS : TxtS K mg C)
    (OO : OkM P w K mg base C "options" ["self", "bucket"] 1 (spOpts C)) (OT : OkM P w K mg base C "take" ["self", "bucket", "variant", "way"] 1 (spTake C))
    (GD : FnOk P w K mg base CX0 kg fD dD ["self", "counts"] (spDone P w D s)) (MD : Meth K D "is_done" fD) (bD : Binds K dD ["self", "counts"] [])
    (GG : FnOk P w K mg base CX0 kg fG dG ["self", "step", "begun", "counts"] (spGoesP P w D C s j)) (MG : Meth K D "goes" fG) (bG : Binds K dG ["self", "step", "begun", "counts"] []) (hkg : 1 ≤ kg) :
    FnOk P w K mg base CX0 (kg + 1) f fd ["self", "step", "begun", "counts"] (spGoes P w D C s j) := by
  obtain ⟨fO, dO, GO, MO, bO⟩ := OO.ex
  obtain ⟨fT, dT, GT, MT, bT⟩ := OT.ex
  refine F.ok scSeGoes (fun vs H Q E h => ?_) (fun cdv A0 outer s0 H vs Q E hr h => ?_)
  · obtain ⟨p, A, d, R, q, lv, en, ar, fr, wt, g, cn, all, k, n, L, bs, pre, row, cnt, xs, ws, l, e, done, b, r, rfl, _⟩ := h; rfl
  · obtain ⟨p, A, d, R, q, lv, en, ar, fr, wt, g, cn, all, k, n, L, bs, pre, row, cnt, xs, ws, l, e, done, b, r, rfl, G, hj, hs, q1, q0⟩ := h
    have hr1 : Room 1 _ := hr.mono hkg
    refine ⟨_, (pss_cons (ps_if ((pt_cmpR (op_eq) ((pe_callB (call_lenK (K := K) rfl) rfl N.len PySem.boot_len (pa_cons (pv 2) pa_nil))) ((pe_callB (call_lenK (K := K) rfl) rfl N.len PySem.boot_len (pa_cons (pv 3) pa_nil))) (nomark _))) (pss_cons (ps_setLc (i := 4) (own := [("one", 7), ("other", 8)]) (g := gTup K 2 (gCons (gName 7) (gCons (gName 8) gNil))) (tt := tYes) rfl scSeGoes.nd rfl rfl (sw_true rfl rfl rfl (by decide +kernel)) (pi_zipN rfl N.zip (pa_cons (pv 2) (pa_cons (pe_fld (pv 1) rfl) pa_nil))) (blkOk_by (N := ["self", "step", "begun", "counts", "more", "bucket", "variant", "one", "other", "many"]) (sc := defScope sSeGoes) (by decide +kernel)) (fun _ _ _ _ _ => pg_tup rfl (pgs_cons (pg_name (i := 7) scSeGoes.nd rfl (Or.inl rfl)) (pgs_cons (pg_name (i := 8) scSeGoes.nd rfl (Or.inl rfl)) pgs_nil))) (fun _ _ _ _ _ => pts_nil) (fun _ _ _ _ _ => (pe_callTy call_int1 rfl N.int (by decide +kernel) (pa_cons ((pe_cmpR (op_ne) (pv 7) (pv 8) (nomark _))) pa_nil)))) (pss_cons (ps_expr (pe_bm PySem.F.plainAttrs_list PySem.F.slot_list_append PySem.F.type_list_append mt_append (pe_fld (pv 0) rfl) (pa_cons ((pe_callTy call_tupleF rfl N.tup (by decide +kernel) (pa_cons (pv 2) pa_nil))) pa_nil))) (pss_cons (ps_if (pt_val (pe_meth (pv 0) T.cl MD GD hr bD .nil pass0 (pa_cons ((pe_callTy call_tupleF rfl N.tup (by decide +kernel) (pa_cons ((pe_lc (own := [("many", 9), ("one", 7)]) (g := gTup K 2 (gCons (gName 9) (gCons (gName 7) gNil))) (tt := tYes) rfl scSeGoes.nd (pi_zipN rfl N.zip (pa_cons (pv 3) (pa_cons (pv 4) pa_nil))) (blkOk_by (N := ["self", "step", "begun", "counts", "more", "bucket", "variant", "one", "other", "many"]) (sc := defScope sSeGoes) (by decide +kernel)) (fun _ _ _ _ _ => pg_tup rfl (pgs_cons (pg_name (i := 9) scSeGoes.nd rfl (Or.inl rfl)) (pgs_cons (pg_name (i := 7) scSeGoes.nd rfl (Or.inl rfl)) pgs_nil))) (fun _ _ _ _ _ => pts_nil) (fun _ _ _ _ _ => (pe_op (op_add) (pv 9) (pv 7))))) pa_nil))) pa_nil))) (pss_one (ps_ret (pe_bl))) pss_nil) (pss_cons (ps_expr (pe_bm0 PySem.F.plainAttrs_list PySem.F.slot_list_pop PySem.F.type_list_pop mt_pop (pe_fld (pv 0) rfl))) (pss_one (ps_ret (pe_bl))))))) pss_nil) (pss_cons (ps_set (i := 5) scSeGoes.nd rfl (Or.inl rfl) ((pe_callB (call_lenK (K := K) rfl) rfl N.len PySem.boot_len (pa_cons (pv 2) pa_nil)))) (pss_cons (ps_for PassesOwn.never rfl (pi_list (pe_meth (pv 1) TS.cl MO GO hr1 bO .nil pass0 (pa_cons (pv 5) pa_nil))) (pg_name (i := 6) scSeGoes.nd rfl (Or.inl rfl)) (pss_cons (ps_expr (pe_meth (pv 1) TS.cl MT GT hr1 bT .nil pass0 (pa_cons (pv 5) (pa_cons (pv 6) (pa_cons (pe_int) pa_nil))))) (pss_cons (ps_if (pt_val (pe_meth (pv 0) T.cl MG GG hr bG .nil pass0 (pa_cons (pv 1) (pa_cons ((pe_op (op_cat) (pv 2) (pe_lst (pa_cons (pv 6) pa_nil)))) (pa_cons (pv 3) pa_nil))))) (pss_one (ps_ret (pe_bl))) pss_nil) (pss_one (ps_expr (pe_meth (pv 1) TS.cl MT GT hr1 bT .nil pass0 (pa_cons (pv 5) (pa_cons (pv 6) (pa_cons (neg1) pa_nil))))))))) (pss_one (ps_ret (pe_bl)))))), ?_⟩
    have gd := G.gd
    have g6 := gd.r6
    have g4 := gd.k4
    have g3 := gd.n4
    have cl := G.cl
    have rl := G.ok.len
    have lfs : (frees L cnt).length = n := by rw [frees_length, cl]
    obtain ⟨dx, ho⟩ := G.se.ob
    obtain ⟨dz, hz⟩ := G.st.ob
    have hall : pre.length + 1 < all.length := by
      have := congrArg List.length G.dr
      rw [List.length_drop] at this; simp at this; omega
    have eb : rowAt all (pre.length + 1) = b := by
      rw [rowAt_eq hall]
      have := List.drop_eq_getElem_cons hall
      rw [G.dr] at this
      exact ((List.cons.inj this).1).symm
    have er : all.drop (pre.length + 1 + 1) = r := by
      have := List.drop_eq_getElem_cons hall
      rw [G.dr] at this
      exact ((List.cons.inj this).2).symm
    have lall : all.length = pre.length + 1 + 1 + s := by
      have := congrArg List.length G.dr
      rw [List.length_drop] at this; simp at this; omega
    obtain ⟨lb1, lb2⟩ := gd.al.all b (by rw [← eb, rowAt_eq hall]; exact List.getElem_mem hall)
    refine ⟨_, rfl, g, _, rfl, .inl (SqL.of G.hg), _, rfl, cn, _, rfl, .inr G.tc.sq, rfl, _, rfl, ?_⟩
    rw [nvs_length, nvs_length, cl]
    cases j with
    | zero =>
      have dn : done.length = n := by omega
      refine ite2 (fun c => ?_) (fun c => absurd (decide_eq_true (by rw [dn])) c)
      clear c
      have edr : (row.zip (frees L cnt)).drop done.length = [] := List.drop_eq_nil_of_le (by simp [lfs]; omega)
      have M := Move.of_mem G.bal0 (by have := G.full [] (by rw [edr]; simp [comps]); rw [List.append_nil] at this; exact this)
      have Rd := M.rowOk G.ok lb1 lfs
      have etot : (comps ws l e ((row.zip (frees L cnt)).drop done.length)).findSome? (fun suf => tryRow L b r row cnt (done ++ suf)) = tryRow L b r row cnt done := by
        rw [edr, comps, List.findSome?_cons, List.append_nil]
        cases tryRow L b r row cnt done <;> rfl
      rw [etot] at q1 q0
      -- more
      refine ⟨_, rfl, _, rfl, q, C, dz, _, _, rfl, hz, TS.cl, TS.nA, f5_a .., [(g, true), (ar, false)], rfl, by simp, by simp, (Srcs.two (Sq.l (SqL.of G.hg)) (Sq.t G.st.ha.sq)).ex, fun M1 hM1 => ?_⟩
      refine lc_map (walk_zip2 (n := n) (by rw [nvs_length, dn]) (by rw [nvs_length, rl])) (fun i => V.int ((if sh row i = sh done i then 0 else 1 : Nat) : Int)) hM1 (by omega)
        (fun H' s => Srcs.two (Sq.l (SqL.of (s _ _ G.hg))) (Sq.t (G.st.ha.same s).sq)) (fun i H x H' _ _ y => y.same) (fun i x H2 H3 Rr hi s2 y s3 rr => ?_) (fun H1 s1 e1 => ?_)
      · obtain ⟨U, rfl, _, rfl⟩ := y.pair (nvs_sh (by omega)) (nvs_sh (by omega))
        refine g_two rfl upd_same ?_
        refine ⟨rfl, _, rfl, _, rfl, rfl, .inr ⟨_, rfl, rr _ _ (Same.refl _) ?_⟩⟩
        by_cases e : sh row i = sh done i
        · rw [if_pos e, decide_eq_true (congrArg (fun z : Nat => V.int z) e.symm)]; rfl
        · have e' : ¬ ((sh done i : Nat) : Int) = ((sh row i : Nat) : Int) := by omega
          rw [if_neg e, decide_eq_false fun z => e' (V.int.inj z)]; rfl
      have G1 := G.se.same s1
      obtain ⟨dx1, ho1⟩ := G1.ob
      -- self.rows.append(tuple(begun))
      refine ⟨_, rfl, p, D, dx1, _, _, rfl, ho1, T.cl, T.nR, e4_r .., .inl ⟨rfl, _, SqL.of G1.rows⟩, _, rfl, g, _, rfl, SqL.of (s1 _ _ G.hg), fun u ou hu hou => ?_⟩
      have s2 := same_new hu (.frz ou (.tup (nvs done)))
      have Tu : Tn (upd H1 u (.frz ou (.tup (nvs done)))) u done := Tn.new hou
      have s12 := s1.trans s2
      have G2 := G.se.same s12
      have lbs : bs.length = pre.length + 1 := by rw [G.se.rs.len]; simp
      refine ⟨R, rfs bs, _, rfl, rfl, G2.rows, by rw [rfs_length, lbs]; exact small1000 (by omega), ?_⟩
      have nl3 := NL.put G2.rows (.lst (rfs bs ++ [.ref u]))
      have G3 : Srch P w D (upd (upd H1 u (.frz ou (.tup (nvs done)))) R (.lst (rfs bs ++ [.ref u]))) p A d R all k n L (bs ++ [u]) (pre ++ [row] ++ [done]) xs :=
        G2.nl nl3 (by rw [upd_same, rfs_snoc]) ((nl3.rs G2.rs).snoc (nl3.tn Tu))
      obtain ⟨dx3, ho3⟩ := G3.ob
      have hM : (upd (upd H1 u (.frz ou (.tup (nvs done)))) R (.lst (rfs bs ++ [.ref u]))) M1 = some (.lst ((List.range n).map fun i => V.int ((if sh row i = sh done i then 0 else 1 : Nat) : Int))) := by
        have : M1 ≠ R := (ne_of_none G.se.rows hM1).symm
        rw [upd_ne this]; exact s2 _ _ e1
      have hC3 := nl3.tn (G.tc.same s12)
      -- self.is_done(tuple([..]))
      refine ⟨_, rfl, p, dx3, _, rfl, ho3, e4_no _ _ _ _ (by decide +kernel) (by decide +kernel) (by decide +kernel) (by decide +kernel), _, rfl, _, rfl, [(cn, false), (M1, true)], rfl, by simp, by simp, (Srcs.two (Sq.t hC3.sq) (Sq.l (SqL.of hM))).ex, fun D2 hD2 => ?_⟩
      refine lc_map (walk_zip2 (n := n) (by rw [nvs_length, cl]) (by simp)) (fun i => V.int (sh (bump cnt row done) i : Nat)) hD2 (by omega)
        (fun H' s => Srcs.two (Sq.t (hC3.same s).sq) (Sq.l (SqL.of (s _ _ hM)))) (fun i H x H' _ _ y => y.same) (fun i x H5 H6 Rr hi s5 y s6 rr => ?_) (fun H5 s5 e5 => ?_)
      · obtain ⟨U, rfl, _, rfl⟩ := y.pair (nvs_sh (by omega)) (get_of_mem_range hi _)
        refine g_two rfl upd_same ?_
        refine ⟨rfl, _, rfl, _, rfl, _, _, rfl, rfl, rr _ _ (Same.refl _) ?_⟩
        rw [sh_bump cl rl dn hi, Int.natCast_add]
      refine ⟨D2, _, rfl, SqL.of e5, fun tn ot htn hot => ?_⟩
      have lbp : (bump cnt row done).length = n := bump_length cl rl dn
      have enb : ((List.range n).map fun i => V.int (sh (bump cnt row done) i : Nat)) = nvs (bump cnt row done) := by
        refine List.ext_getElem (by rw [nvs_length, lbp]; simp) fun i h1 h2 => ?_
        have hi : i < (bump cnt row done).length := by rw [nvs_length] at h2; exact h2
        simp [nvs, sh, List.getD_eq_getElem?_getD, hi]
      rw [enb]
      have s7 := same_new htn (.frz ot (.tup (nvs (bump cnt row done))))
      have s57 := s5.trans s7
      have G7 := G3.same s57
      have F27 : Fr2 d R H (upd H5 tn (.frz ot (.tup (nvs (bump cnt row done))))) := fun x o hx n1 n2 => s57 _ _ (by rw [upd_ne n2]; exact s12 _ _ hx)
      have lp : (pre ++ [row]).length = pre.length + 1 := by simp
      refine ⟨p, A, d, R, tn, all, k, n, L, bs ++ [u], pre ++ [row], done, bump cnt row done, xs, rfl, G7, gd, Tn.new hot, by rw [lp, eb]; exact Rd, lbp, fun c hc => ?_, by rw [lp]; exact lall, fun H8 bs' rows xs' es S8 F8 => ?_, fun H8 xs' es S8 F8 => ?_⟩
      · obtain ⟨dd, hdd, hle⟩ := bump_succ c hc
        have := G.cb dd hdd
        rw [lp]; omega
      · rw [lp, eb, er] at es
        refine ⟨_, rfl, iteT ?_⟩
        refine q1 H8 ([u] ++ bs') (done :: rows) xs' (by unfold tryRow; rw [es]; rfl) ?_ fun x o hx n1 n2 _ _ _ => F8 _ _ (F27 _ _ hx n1 n2) n1 n2
        have e1 : pre ++ [row] ++ (done :: rows) = pre ++ [row] ++ [done] ++ rows := by simp
        rw [e1, ← List.append_assoc]
        exact S8
      · rw [lp, eb, er] at es
        refine ⟨_, rfl, iteF ?_⟩
        obtain ⟨dx8, ho8⟩ := S8.ob
        have rows8 := S8.rows
        rw [rfs_snoc] at rows8
        refine ⟨_, rfl, p, D, dx8, _, _, rfl, ho8, T.cl, T.nR, e4_r .., .inl ⟨rfl, _, SqL.of rows8⟩, R, _, .ref u, rfl, rfl, rows8, by simp, ?_⟩
        rw [List.dropLast_concat]
        have nl9 := NL.put rows8 (.lst (rfs bs))
        refine q0 _ xs' (by unfold tryRow; rw [es]; rfl) (S8.nl nl9 upd_same (nl9.rs S8.rs.init)) ?_ fun x o hx n1 n2 _ _ _ => by rw [upd_ne n2]; exact F8 _ _ (F27 _ _ hx n1 n2) n1 n2
        exact G.st.fr2 (d := d) (R := R) (fun x o hx n1 n2 => by rw [upd_ne n2]; exact F8 _ _ (F27 _ _ hx n1 n2) n1 n2) G.se.nest.at_ G.se.rows G.rl G.re G.rw G.rf
    | succ j' =>
      refine ite2 (fun c => ?_) (fun c => ?_)
      · have := V.int.inj (of_decide_eq_true c)
        exact absurd this (by omega)
      clear c
      have dn : done.length < n := by omega
      have i1 : done.length < row.length := by omega
      have i2 : done.length < (frees L cnt).length := by omega
      have dz' := drop_zip i1 i2
      have Bl := G.bal
      rw [dz'] at Bl
      have hv : sh row done.length < k := Bl.lt _ List.mem_cons_self
      refine ⟨_, rfl, g, _, rfl, .inl (SqL.of G.hg), ?_⟩
      rw [nvs_length]
      -- step.options(bucket)
      refine ⟨_, rfl, q, dz, _, rfl, hz, f5_no _ _ _ _ _ (by decide +kernel) (by decide +kernel) (by decide +kernel) (by decide +kernel) (by decide +kernel), _, rfl,
        q, lv, en, ar, fr, wt, row, frees L cnt, ws, l, e, done.length, k, rfl, G.st, i1, i2, hv, Bl.wl, Bl.ll, Bl.el, by omega, fun H1 o s1 no eo => ?_⟩
      have oR : o ≠ R := (ne_of_none G.se.rows no).symm
      have ol : o ≠ lv := (ne_of_none G.st.hl no).symm
      have oe : o ≠ en := (ne_of_none G.st.he no).symm
      have ow : o ≠ wt := (ne_of_none G.st.hw no).symm
      have od : o ≠ d := (ne_of_none G.se.nest.at_ no).symm
      have etot := fs_cons (tryRow L b r row cnt) ws l e (sh row done.length) ((frees L cnt).getD done.length false) ((row.zip (frees L cnt)).drop (done.length + 1)) done
      rw [dz', etot] at q1 q0
      clear etot
      have S1 := G.se.same s1
      have ST1 := G.st.same s1
      refine ⟨o, rfl, ⟨_, SqL.of eo⟩, for_it walk_list (fun m σ H' => ∃ (v6 : Option V) (xs' : List Ent), σ = [some (.ref p), some (.ref q), some (.ref g), some (.ref cn), none, some (.int (done.length : Nat)), v6, none, none, none] ∧
          Srch P w D H' p A d R all k n L bs (pre ++ [row]) xs' ∧ StepOk C H' q lv en ar fr wt row (frees L cnt) ws l e ∧ Fr5 d R lv en wt H1 H' ∧
          (∀ (m' : Nat) (o' : Nat), m' < m → (opts ws l e (sh row done.length) ((frees L cnt).getD done.length false))[m']? = some o' → ((comps (tkW ws (sh row done.length) ((frees L cnt).getD done.length false)) (tkL l (sh row done.length) o') (tkE e (sh row done.length) o') ((row.zip (frees L cnt)).drop (done.length + 1))).findSome? fun suf => tryRow L b r row cnt ((done ++ [o']) ++ suf)) = none))
        ⟨none, xs, rfl, S1, ST1, fun x u hx _ _ _ _ _ => hx, fun m' o' h _ => absurd h (by omega)⟩ (fun m σ H' _ ⟨_, _, _, _, _, f5, _⟩ => SqL.of (f5 _ _ eo od oR ol oe ow)) ?_ ?_⟩
      · rintro m x σ H2 H2' hm ⟨v6, xs2, rfl, S2, ST2, f2, none2⟩ ⟨rfl, em⟩
        have hm' : m < (opts ws l e (sh row done.length) ((frees L cnt).getD done.length false)).length := by rw [nvs_length] at hm; exact hm
        obtain ⟨o', ho'⟩ : ∃ o', (opts ws l e (sh row done.length) ((frees L cnt).getD done.length false))[m]? = some o' := ⟨_, List.getElem?_eq_getElem hm'⟩
        have hom := List.mem_of_getElem? ho'
        rw [nvs_get' ho'] at em
        cases em
        have hok := Bl.opt_lt hom
        have Bn := Bl.next hom
        obtain ⟨dz2, hz2⟩ := ST2.ob
        -- step.take(bucket, variant, 1)
        refine ⟨_, rfl, q, dz2, _, rfl, hz2, f5_no _ _ _ _ _ (by decide +kernel) (by decide +kernel) (by decide +kernel) (by decide +kernel) (by decide +kernel), _, rfl, _, rfl,
          q, lv, en, ar, fr, wt, row, frees L cnt, ws, l, e, done.length, o', k, 1, rfl, ST2, i1, i2, hv, hok, Bl.wl, Bl.ll, Bl.el, .inl rfl, fun H3 ST3 b3 => ?_⟩
        rw [tk1, tl1, te1] at ST3
        have nl3 := b3.nl ST2.hl ST2.he ST2.hw
        have S3 := S2.nl nl3 (b3 _ _ S2.rows G.rl G.re G.rw) (nl3.rs S2.rs)
        have hg2 : H2' g = some (.lst (nvs done)) := f2 _ _ (s1 _ _ G.hg) (ne_of G.hg G.se.nest.at_ (fun z => nest_lst _ z.symm)) G.gr G.gl G.ge G.gw
        have hg3 : H3 g = some (.lst (nvs done)) := b3 _ _ hg2 G.gl G.ge G.gw
        have f3 : Fr5 d R lv en wt H1 H3 := fun x u hx n1 n2 n3 n4 n5 => b3 _ _ (f2 _ _ hx n1 n2 n3 n4 n5) n3 n4 n5
        obtain ⟨dx3, ho3⟩ := S3.ob
        -- self.goes(step, begun + [variant], counts)
        refine ⟨_, rfl, p, dx3, _, rfl, ho3, e4_no _ _ _ _ (by decide +kernel) (by decide +kernel) (by decide +kernel) (by decide +kernel), _, rfl, _, rfl, _, rfl, (by show 1 ≤ sizeLine; decide), fun t ht => ?_⟩
        have s4 := same_new ht (.lst [.int (o' : Nat)])
        refine ⟨g, t, nvs done, [.int (o' : Nat)], rfl, rfl, s4 _ _ hg3, upd_same, by rw [nvs_length, List.length_singleton]; exact small (by omega), fun g2 hg2' => ?_⟩
        have s5 := same_new hg2' (.lst (nvs done ++ [.int (o' : Nat)]))
        have s45 := s4.trans s5
        have S5 := S3.same s45
        have ST5 := ST3.same s45
        have gn : ∀ {x : Addr} {u : HO}, H3 x = some u → g2 ≠ x := fun h => (ne_of_none (s4 _ _ h) hg2').symm
        have hC5 : Tn (upd (upd H3 t (.lst [.int (o' : Nat)])) g2 (.lst (nvs done ++ [.int (o' : Nat)]))) cn cnt := by
          obtain ⟨oc, h1, h2⟩ := G.tc.same s1
          have nc : ∀ {y : Addr} {ys : List V}, H1 y = some (.lst ys) → cn ≠ y := fun h => ne_of h2 h (by intro z; cases z)
          exact Tn.same ⟨oc, h1, f3 _ _ h2 (fun z => by rw [z, S1.nest.at_] at h2; unfold nestHO at h2; cases h2) (nc S1.rows) (nc ST1.hl) (nc ST1.he) (nc ST1.hw)⟩ s45
        have ld : (done ++ [o']).length = done.length + 1 := by simp
        refine ⟨_, rfl, p, A, d, R, q, lv, en, ar, fr, wt, g2, cn, all, k, n, L, bs, pre, row, cnt, xs2, _, _, _, done ++ [o'], b, r, rfl,
          ⟨S5, gd, hC5, G.ok, cl, G.cb, G.dr, ST5, by rw [ld]; exact Bn, by rw [upd_same]; simp [nvs], by rw [ld]; omega, fun suf hsuf => ?_, G.bal0, G.rl, G.re, G.rw, G.rf, gn ST3.hl, gn ST3.he, gn ST3.hw, gn S3.rows⟩,
          by rw [ld]; omega, hs, fun H6 bs' rows xs6 e6 S6 f6 => ?_, fun H6 xs6 e6 S6 ST6 f6 => ?_⟩
        · rw [ld] at hsuf
          have := G.full (o' :: suf) (by rw [dz', comps, List.mem_flatMap]; exact ⟨o', hom, List.mem_map_of_mem hsuf⟩)
          rw [List.append_assoc]; exact this
        · rw [ld] at e6
          refine ⟨_, rfl, iteT ?_⟩
          exact q1 H6 bs' rows xs6 (fs_at ho' (fun m' o2 hm2 h2 => none2 m' o2 hm2 h2) e6) S6 fun x u hx n1 n2 n3 n4 n5 => f6 _ _ (s45 _ _ (f3 _ _ (s1 _ _ hx) n1 n2 n3 n4 n5)) n1 n2 n3 n4 n5
        · rw [ld] at e6
          refine ⟨_, rfl, iteF ?_⟩
          obtain ⟨dz6, hz6⟩ := ST6.ob
          -- step.take(bucket, variant, -1)
          refine ⟨_, rfl, q, dz6, _, rfl, hz6, f5_no _ _ _ _ _ (by decide +kernel) (by decide +kernel) (by decide +kernel) (by decide +kernel) (by decide +kernel), _, rfl, _, rfl, 1, rfl,
            q, lv, en, ar, fr, wt, row, frees L cnt, _, _, _, done.length, o', k, -1, rfl, ST6, i1, i2, hv, hok, Bn.wl, Bn.ll, Bn.el, .inr rfl, fun H7 ST7 b7 => ?_⟩
          rw [back_w (by rw [Bl.wl]; exact hv), back_l (by rw [Bl.ll]; exact hv), back_e (by rw [Bl.el]; exact hok)] at ST7
          have nl7 := b7.nl ST6.hl ST6.he ST6.hw
          have S7 := S6.nl nl7 (b7 _ _ S6.rows G.rl G.re G.rw) (nl7.rs S6.rs)
          refine ⟨_, xs6, rfl, S7, ST7, fun x u hx n1 n2 n3 n4 n5 => b7 _ _ (f6 _ _ (s45 _ _ (f3 _ _ hx n1 n2 n3 n4 n5)) n1 n2 n3 n4 n5) n3 n4 n5, fun m' o2 hm2 h2 => ?_⟩
          by_cases hmm : m' = m
          · subst hmm
            rw [ho'] at h2
            cases h2
            exact e6
          · exact none2 m' o2 (by omega) h2
      · rintro σ H2 ⟨v6, xs2, rfl, S2, ST2, f2, none2⟩
        refine q0 H2 xs2 (fs_none fun m o2 h2 => none2 m o2 (by rw [nvs_length]; exact (List.getElem?_eq_some_iff.mp h2).1) h2) S2 ST2 fun x u hx n1 n2 n3 n4 n5 => f2 _ _ (s1 _ _ hx) n1 n2 n3 n4 n5
end
end LW
end

section
set_option Elab.async false
set_option linter.all false
set_option autoImplicit false
set_option maxRecDepth 100000
namespace LW
open PySem L2 LM LX
abbrev sHist : Stmt := top 38
abbrev sChkSearch : Stmt := top 39
abbrev sWithin : Stmt := top 40
abbrev sLeastL : Stmt := top 41
def spHist : Sp := fun vs H Q _ => ∃ (A : Addr) (a : List Nat) (r : List (List Nat)) (k n L : Nat), vs = [.ref A, .int L] ∧ Tt H A (a :: r) ∧ Gd k n (a :: r) ∧ L ≤ 9 ∧ (∀ H', Same H H' → S L a r = none → Q .non H') ∧
  (∀ H' T rows, Same H H' → S L a r = some rows → Tt H' T (sortedA a :: rows) → Q (.ref T) H')
def spChkSearch : Sp := fun vs H Q _ => ∃ (A : Addr) (a : List Nat) (r : List (List Nat)) (k n : Nat), vs = [.ref A] ∧ Tt H A (a :: r) ∧ Gd k n (a :: r) ∧ Q .non H
def spLeastL : Sp := fun vs H Q _ => ∃ (A : Addr) (a : List Nat) (r : List (List Nat)) (k n : Nat), vs = [.ref A] ∧ Tt H A (a :: r) ∧ Gd k n (a :: r) ∧
  ∀ H' T U L rows, Same H H' → Least L a r rows → H' T = some (.tup [.int (L : Nat), .ref U]) → Tt H' U (sortedA a :: rows) → Q (.ref T) H'
def spDU (P : Program) (w : World) (D : Addr) : Sp := fun vs H Q E => ∃ s, s ≤ 5 ∧ spDone P w D s vs H Q E
section
variable {P : Program} {w : World} {K : PySem.W.Frag} {mg : Str → Option Value} {base : Heap}
theorem fn_none {f : Addr} {fd : FuncData} {ps : List Str} {k : Nat} {sp : Sp} (no : ∀ vs H Q E, ¬ sp vs H Q E) : FnOk P w K mg base CX0 k f fd ps sp :=
  ⟨fun vs H Q E h => absurd h (no vs H Q E), fun A outer s H args us vs Q E _ _ _ _ h => absurd h (no vs H Q E)⟩
theorem ok_both {D C fD fG : Addr} {dD dG : FuncData} (FD : Fun K "is_done" "Search.is_done" sSeDone fD dD) (FG : Fun K "goes" "Search.goes" sSeGoes fG dG) (N : Nm mg) (T : TxtD K mg D) (TS : TxtS K mg C)
    (OI : OkI P w K mg base C ["self", "before", "behind", "assignment", "free"] 1 (spStep C)) (OO : OkM P w K mg base C "options" ["self", "bucket"] 1 (spOpts C)) (OT : OkM P w K mg base C "take" ["self", "bucket", "variant", "way"] 1 (spTake C))
    (MD : Meth K D "is_done" fD) (bD : Binds K dD ["self", "counts"] []) (MG : Meth K D "goes" fG) (bG : Binds K dG ["self", "step", "begun", "counts"] []) :
    ∀ s : Nat, FnOk P w K mg base CX0 (4 + 6 * s) fD dD ["self", "counts"] (spDone P w D s) ∧ ∀ j : Nat, FnOk P w K mg base CX0 (4 + 6 * s + 1 + j) fG dG ["self", "step", "begun", "counts"] (spGoes P w D C s j) := by
  have goes : ∀ s : Nat, FnOk P w K mg base CX0 (4 + 6 * s) fD dD ["self", "counts"] (spDone P w D s) → ∀ j : Nat, FnOk P w K mg base CX0 (4 + 6 * s + 1 + j) fG dG ["self", "step", "begun", "counts"] (spGoes P w D C s j) := by
    intro s hD j
    induction j with
    | zero => exact ok_goes (kg := 4 + 6 * s) FG N T TS OO OT hD MD bD (fn_none fun _ _ _ _ h => h) MG bG (by omega)
    | succ j ih => exact ok_goes (kg := 4 + 6 * s + 1 + j) FG N T TS OO OT (hD.mono (by omega)) MD bD ih MG bG (by omega)
  intro s
  induction s with
  | zero =>
    have hD : FnOk P w K mg base CX0 (4 + 6 * 0) fD dD ["self", "counts"] (spDone P w D 0) := ok_done (kg := 3) FD N T TS OI (fG := fG) (dG := dG) (fn_none fun _ _ _ _ ⟨_, _, _, h, _⟩ => by omega) MG bG (by omega)
    exact ⟨hD, goes 0 hD⟩
  | succ s ih =>
    have hG : FnOk P w K mg base CX0 (4 + 6 * s + 5) fG dG ["self", "step", "begun", "counts"] (spGU P w D C (s + 1)) := by
      refine ⟨fun vs H Q E h => ?_, fun A outer s0 H args us vs Q E hr he hb hv h => ?_⟩
      · obtain ⟨j, s', hj, hs, h⟩ := h
        have : s' = s := by omega
        subst this
        exact (ih.2 j).len vs H Q E h
      · obtain ⟨j, s', hj, hs, h⟩ := h
        have : s' = s := by omega
        subst this
        exact ((ih.2 j).mono (by omega)).run A outer s0 H args us vs Q E hr he hb hv h
    have hD : FnOk P w K mg base CX0 (4 + 6 * (s + 1)) fD dD ["self", "counts"] (spDone P w D (s + 1)) := ok_done (kg := 4 + 6 * s + 5) FD N T TS OI hG MG bG (by omega)
    exact ⟨hD, goes (s + 1) hD⟩
theorem ok_du {D fD : Addr} {dD : FuncData} (h : ∀ s : Nat, FnOk P w K mg base CX0 (4 + 6 * s) fD dD ["self", "counts"] (spDone P w D s)) : FnOk P w K mg base CX0 34 fD dD ["self", "counts"] (spDU P w D) := by
  refine ⟨fun vs H Q E h1 => ?_, fun A outer s0 H args us vs Q E hr he hb hv h1 => ?_⟩
  · obtain ⟨s, hs, h1⟩ := h1
    exact (h s).len vs H Q E h1
  · obtain ⟨s, hs, h1⟩ := h1
    exact ((h s).mono (by omega)).run A outer s0 H args us vs Q E hr he hb hv h1
theorem scHist : FnScope ["allocations", "limit", "search", "_"] ["allocations", "limit"] (defScope sHist) := ⟨rfl, rfl, rfl, by decide +kernel, rfl, by decide +kernel, by decide +kernel⟩
theorem ok_hist {f D : Addr} {fd : FuncData} (F : Fun K "history_within" "history_within" sHist f fd) (N : Nm mg) (T : TxtD K mg D) (OI : OkI P w K mg base D ["self", "allocations", "limit"] 2 (spSeInit P w D)) (OD : OkM P w K mg base D "is_done" ["self", "counts"] 34 (spDU P w D)) :
    FnOk P w K mg base CX0 35 f fd ["allocations", "limit"] spHist := by
  obtain ⟨fI, dI, GI, MI, bI⟩ := OI.ex
  obtain ⟨fD, dD, GD, MD, bD⟩ := OD.ex
  refine F.ok scHist (fun vs H Q E h => ?_) (fun cdv A0 outer s0 H vs Q E hr h => ?_)
  · obtain ⟨A, a, r, k, n, L, rfl, _⟩ := h; rfl
  · obtain ⟨A, a, r, k, n, L, rfl, hA, g, hL, q0, q1⟩ := h
    have hrI : Room (2 + 1) _ := hr.mono (by decide)
    refine ⟨_, (pss_cons (ps_set (i := 2) scHist.nd rfl (Or.inl rfl) (pe_make MI GI hrI rfl T.mgD bI .nil pass0 (pa_cons (pv 0) (pa_cons (pv 1) pa_nil)))) (pss_cons (ps_if (pt_not (pt_val (pe_meth (pv 2) T.cl MD GD hr bD .nil pass0 (pa_cons ((pe_callTy call_tupleF rfl N.tup (by decide +kernel) (pa_cons ((pe_lc (own := [("_", 3)]) (g := gName 3) (tt := tYes) rfl scHist.nd (pi_tup (pe_ix (ix_listK (K := K) rfl) (pe_fld (pv 2) rfl) (pe_int) (fun _ _ => rfl))) (blkOk_by (N := ["allocations", "limit", "search", "_"]) (sc := defScope sHist) (by decide +kernel)) (fun _ _ _ _ _ => pg_name (i := 3) scHist.nd rfl (Or.inl rfl)) (fun _ _ _ _ _ => pts_nil) (fun _ _ _ _ _ => pe_int))) pa_nil))) pa_nil)))) (pss_one (ps_ret (pe_non))) pss_nil) (pss_one (ps_ret ((pe_callTy call_tuple_of rfl N.tup (by decide +kernel) (pa_cons (pe_fld (pv 2) rfl) pa_nil))))))), ?_⟩
    have g6 := g.r6
    have g3 := g.n4
    obtain ⟨ha, hs⟩ := g.al.all a (by simp)
    have Ro := sortedA_ok ha hs
    refine ⟨_, rfl, _, rfl, ?_⟩
    intro p dx np ndx ndp
    have s1 : Same H (upd (upd H dx (.own p)) p (.ins D dx [])) := fun b o e => by
      rw [upd_ne (ne_of_none e np), upd_ne (ne_of_none e ndx)]; exact e
    refine ⟨p, dx, A, a, r, k, n, L, rfl, upd_same, hA.same s1, g, fun H1 d R z S1 hd hR hz b1 => ⟨rfl, ?_⟩⟩
    have s2 : Same H H1 := But1.back s1 b1 np
    obtain ⟨dx1, ho1⟩ := S1.ob
    have Tz : Tn H1 z (sortedA a) := by
      obtain ⟨r', h1, h2⟩ := S1.rs.at_ 0 z rfl
      have : sortedA a = r' := by simpa using h1
      rw [this]; exact h2
    refine ⟨_, rfl, p, dx1, _, rfl, ho1, e4_no _ _ _ _ (by decide +kernel) (by decide +kernel) (by decide +kernel) (by decide +kernel), _, rfl, p, D, dx1, _, _, rfl, ho1, T.cl, T.nR, e4_r .., R, _, _, _, rfl, rfl, SqL.of S1.rows, atI_nat (j := 0) rfl, z, rfl, ⟨_, Tz.sq⟩, fun E1 hE => ?_⟩
    refine lc_map walk_tup (fun i => V.int 0) hE (by rw [nvs_length, Ro.len]; omega) (fun H' s => (Tz.same s).sq) (fun i H x H' _ _ y => y.1 ▸ Same.refl _) (fun i x H2 H3 Rr hi s2 y s3 rr => ?_) (fun H2 s3 e2 => ?_)
    · obtain ⟨rfl, e4⟩ := y
      exact ⟨rfl, rr _ _ (Same.refl _) rfl⟩
    rw [nvs_length, Ro.len] at e2
    refine ⟨E1, _, rfl, SqL.of e2, fun cn oc hcn hoc => ?_⟩
    have s4 := same_new hcn (.frz oc (.tup ((List.range n).map fun i => V.int 0)))
    have Tc : Tn (upd H2 cn (.frz oc (.tup ((List.range n).map fun i => V.int 0)))) cn (List.replicate n 0) := by
      refine ⟨oc, hoc, ?_⟩
      rw [upd_same]
      have : (List.range n).map (fun _ => V.int 0) = nvs (List.replicate n 0) := List.ext_getElem (by simp [nvs]) fun i h1 h2 => by simp [nvs]
      rw [this]
    have S4 := S1.same (s3.trans s4)
    have e0 : S L a r = search L a r (sortedA a) (List.replicate n 0) := by unfold S; rw [hs]
    have fr : ∀ {H5 : Hp}, Fr2 d R (upd H2 cn (.frz oc (.tup ((List.range n).map fun i => V.int 0)))) H5 → Same H H5 := fun f b o h =>
      f b o (s4 _ _ (s3 _ _ (s2 _ _ h))) (ne_of_none (s1 _ _ h) hd) (ne_of_none (s1 _ _ h) hR)
    refine ⟨r.length, by simp at g6; omega, p, A, d, R, cn, a :: r, k, n, L, [z], [], sortedA a, List.replicate n 0, [], rfl, S4, g, Tc, Ro, by simp, fun c hc => by rw [List.eq_of_mem_replicate hc]; exact Nat.zero_le _, by simp; omega, fun H5 bs' rows xs' es S5 f5 => ?_, fun H5 xs' es S5 f5 => ?_⟩
    · have es' : S L a r = some rows := e0.trans es
      refine ⟨_, rfl, iteF ?_⟩
      obtain ⟨dx5, ho5⟩ := S5.ob
      refine ⟨_, rfl, p, D, dx5, _, _, rfl, ho5, T.cl, T.nR, e4_r .., R, _, rfl, .inl ⟨SqL.of S5.rows, fun t ht => ?_⟩⟩
      exact q1 _ t rows ((fr f5).trans (same_new ht _)) es' ⟨_, upd_same, S5.rs.same (same_new ht _)⟩
    · have es' : S L a r = none := e0.trans es
      refine ⟨_, rfl, iteT ?_⟩
      exact q0 _ (fr f5) es'
theorem scChkSearch : FnScope ["allocations"] ["allocations"] (defScope sChkSearch) := ⟨rfl, rfl, rfl, by decide +kernel, rfl, by decide +kernel, by decide +kernel⟩
theorem ok_chkSearch {f : Addr} {fd : FuncData} (F : Fun K "check_search" "check_search" sChkSearch f fd) (N : Nm mg) (c1 : Ci mg "MOST_SEARCHED" 6) : FnOk P w K mg base CX0 1 f fd ["allocations"] spChkSearch := by
  refine F.ok scChkSearch (fun vs H Q E h => ?_) (fun cdv A0 outer s0 H vs Q E hr h => ?_)
  · obtain ⟨A, a, r, k, n, rfl, _⟩ := h; rfl
  · obtain ⟨A, a, r, k, n, rfl, ⟨as, hA, hR⟩, g, q⟩ := h
    refine ⟨_, (pss_one (ps_if (PW.pt (pw_or (pt_cmpR (op_gt) ((pe_callB (call_lenK (K := K) rfl) rfl N.len PySem.boot_len (pa_cons (pv 0) pa_nil))) (pe_gi rfl c1) (nomark _)) (pw_or1 (pt_cmpR (op_gt) ((pe_callB (cr_sumTK (K := K) rfl rfl) rfl N.sum (by decide +kernel) (pa_cons ((pe_ix (ix_tupK (K := K) rfl) (pv 0) (pe_int) (fun _ _ => rfl))) pa_nil))) (pe_gi rfl c1) (nomark _))))) (pss_one ps_never) pss_nil)), ?_⟩
    have g6 := g.r6
    have g3 := g.n4
    obtain ⟨ha, hs⟩ := g.al.all a (by simp)
    have la := hR.len
    obtain ⟨p0, as', rfl, hT0, hR'⟩ := hR.uncons
    refine ⟨_, rfl, A, _, rfl, .inr (SqT.of hA), _, _, rfl, rfl, _, rfl, ?_⟩
    refine ite2 (fun c => absurd (of_decide_eq_true c) (by rw [rfs_length]; omega)) (fun _ => ?_)
    refine ⟨_, rfl, A, _, _, _, rfl, rfl, SqT.of hA, atI_nat (j := 0) rfl, p0, _, rfl, (by rw [← nvs_map]; exact hT0.sq), _, _, rfl, rfl, _, rfl, ?_⟩
    refine ite2 (fun c => absurd (of_decide_eq_true c) (by rw [sum_ints, hs]; omega)) (fun _ => q)
theorem scWithin : FnScope ["allocations", "limit"] ["allocations", "limit"] (defScope sWithin) := ⟨rfl, rfl, rfl, by decide +kernel, rfl, by decide +kernel, by decide +kernel⟩
theorem ok_within {f : Addr} {fd : FuncData} (F : Fun K "within" "within" sWithin f fd) (c1 : Ci mg "MOST_ALLOCATIONS" 10) (c2 : Ci mg "MOST_LIMIT" 9) (O1 : Ok P w K mg base "check_series" ["allocations", "most"] 4 spChkSeries) (O2 : Ok P w K mg base "is_between" ["value", "low", "high"] 2 spBetween)
    (O3 : Ok P w K mg base "check_search" ["allocations"] 1 spChkSearch) (O4 : Ok P w K mg base "history_within" ["allocations", "limit"] 35 spHist) : FnOk P w K mg base CX0 36 f fd ["allocations", "limit"] spHist := by
  refine F.ok scWithin (fun vs H Q E h => ?_) (fun cdv A0 outer s0 H vs Q E hr h => ?_)
  · obtain ⟨A, a, r, k, n, L, rfl, _⟩ := h; rfl
  · obtain ⟨A, a, r, k, n, L, rfl, hA, g, hL, q0, q1⟩ := h
    have hr1 : Room 4 _ := hr.mono (by decide)
    have hr2 : Room 2 _ := hr.mono (by decide)
    have hr3 : Room 1 _ := hr.mono (by decide)
    refine ⟨_, (pss_cons (ps_expr (pe_ok O1 hr1 rfl (pa_cons (pv 0) (pa_cons (pe_gi rfl c1) pa_nil)))) (pss_cons (ps_if (pt_not (pt_val (pe_ok O2 hr2 rfl (pa_cons (pv 1) (pa_cons (pe_int) (pa_cons (pe_gi rfl c2) pa_nil)))))) (pss_one ps_never) pss_nil) (pss_cons (ps_expr (pe_ok O3 hr3 rfl (pa_cons (pv 0) pa_nil))) (pss_one (ps_ret ((pe_ok O4 hr rfl (pa_cons (pv 0) (pa_cons (pv 1) pa_nil))))))))), ?_⟩
    have g6 := g.r6
    refine ⟨_, rfl, A, a :: r, k, n, 10, rfl, hA, g, by omega, fun H1 s1 => ?_⟩
    refine ⟨_, rfl, _, _, _, rfl, _, rfl, ?_⟩
    have e : decide ((0 : Int) ≤ (L : Int) ∧ (L : Int) ≤ 9) = true := decide_eq_true (by omega)
    rw [e]
    refine iteF ?_
    refine ⟨_, rfl, A, a, r, k, n, rfl, hA.same s1, g, ?_⟩
    exact ⟨_, rfl, _, rfl, A, a, r, k, n, L, rfl, hA.same s1, g, hL, fun H2 s2 e => q0 _ (s1.trans s2) e, fun H2 t rows s2 e h => q1 _ t rows (s1.trans s2) e h⟩
theorem scLeastL : FnScope ["allocations", "limit", "history"] ["allocations"] (defScope sLeastL) := ⟨rfl, rfl, rfl, by decide +kernel, rfl, by decide +kernel, by decide +kernel⟩
theorem ok_leastL {f : Addr} {fd : FuncData} (F : Fun K "least_limit" "least_limit" sLeastL f fd) (c1 : Ci mg "MOST_ALLOCATIONS" 10) (O1 : Ok P w K mg base "check_series" ["allocations", "most"] 4 spChkSeries)
    (O3 : Ok P w K mg base "check_search" ["allocations"] 1 spChkSearch) (O4 : Ok P w K mg base "history_within" ["allocations", "limit"] 35 spHist) : FnOk P w K mg base CX0 36 f fd ["allocations"] spLeastL := by
  refine F.ok scLeastL (fun vs H Q E h => ?_) (fun cdv A0 outer s0 H vs Q E hr h => ?_)
  · obtain ⟨A, a, r, k, n, rfl, _⟩ := h; rfl
  · obtain ⟨A, a, r, k, n, rfl, hA, g, q⟩ := h
    have hr1 : Room 4 _ := hr.mono (by decide)
    have hr3 : Room 1 _ := hr.mono (by decide)
    refine ⟨_, (pss_cons (ps_expr (pe_ok O1 hr1 rfl (pa_cons (pv 0) (pa_cons (pe_gi rfl c1) pa_nil)))) (pss_cons (ps_expr (pe_ok O3 hr3 rfl (pa_cons (pv 0) pa_nil))) (pss_cons (ps_set (i := 1) scLeastL.nd rfl (Or.inl rfl) (pe_int)) (pss_cons (ps_set (i := 2) scLeastL.nd rfl (Or.inl rfl) ((pe_ok O4 hr rfl (pa_cons (pv 0) (pa_cons (pv 1) pa_nil))))) (pss_cons (ps_while PassesOwn.never (pt_cmpR (op_isN) (pv 2) (pe_non) (nomark _)) (pss_cons (ps_aug (i := 1) scLeastL.nd rfl (Or.inl rfl) pe_int ip_add) (pss_one (ps_set (i := 2) scLeastL.nd rfl (Or.inl rfl) ((pe_ok O4 hr rfl (pa_cons (pv 0) (pa_cons (pv 1) pa_nil)))))))) (pss_one (ps_ret (pe_tup (pa_cons (pv 1) (pa_cons (pv 2) pa_nil)))))))))), ?_⟩
    have g6 := g.r6
    have gal := g.al
    refine ⟨_, rfl, A, a :: r, k, n, 10, rfl, hA, g, by omega, fun H1 s1 => ?_⟩
    refine ⟨_, rfl, A, a, r, k, n, rfl, hA.same s1, g, ?_⟩
    -- the loop
    have ex := S_ex gal
    have lim : ∀ L, (∀ L', L' < L → S L' a r = none) → S L a r = none → L < r.length := fun L h1 h2 => by
      by_cases h : L < r.length
      · exact h
      · by_cases e : L = r.length
        · rw [e] at h2; exact absurd h2 ex
        · exact absurd (h1 r.length (by omega)) ex
    have lim2 : ∀ L, (∀ L', L' < L → S L' a r = none) → L ≤ r.length := fun L h1 => by
      by_cases h : L ≤ r.length
      · exact h
      · exact absurd (h1 r.length (by omega)) ex
    obtain ⟨W, hW⟩ : ∃ W : Nat → L2.St → Hp → Prop, W = fun m σ H' => ∃ (L : Nat) (v : V), m = r.length - L ∧ σ = [some (.ref A), some (.int (L : Nat)), some v] ∧ Same H H' ∧ (∀ L', L' < L → S L' a r = none) ∧
        ((v = .non ∧ S L a r = none) ∨ ∃ rows T, v = .ref T ∧ S L a r = some rows ∧ Tt H' T (sortedA a :: rows)) := ⟨_, rfl⟩
    refine ⟨_, rfl, _, rfl, A, a, r, k, n, 0, rfl, hA.same s1, g, by omega, fun H2 s2 e => ?_, fun H2 t rows s2 e h => ?_⟩
    · refine ⟨W, ⟨r.length, by rw [hW]; exact ⟨0, .non, rfl, rfl, s1.trans s2, fun L' h => absurd h (by omega), .inl ⟨rfl, e⟩⟩⟩, ?_⟩
      intro m σ H3 hw
      rw [hW] at hw ⊢
      obtain ⟨L, v, rfl, rfl, s3, lo, hv⟩ := hw
      refine ⟨_, rfl, rfl, _, rfl, ?_⟩
      rcases hv with ⟨rfl, e3⟩ | ⟨rows3, T3, rfl, e3, t3⟩
      · refine iteT ?_
        have h1 := lim L lo e3
        have lo' : ∀ L', L' < L + 1 → S L' a r = none := fun L' h => by
          by_cases q : L' = L
          · rw [q]; exact e3
          · exact lo L' (by omega)
        refine ⟨fun σ' H' => ∃ (v : V), σ' = [some (.ref A), some (.int (L + 1 : Nat)), some v] ∧ Same H H' ∧ ((v = .non ∧ S (L + 1) a r = none) ∨ ∃ rows T, v = .ref T ∧ S (L + 1) a r = some rows ∧ Tt H' T (sortedA a :: rows)), fun σ' H' ⟨v', e1, e2, e4⟩ => ⟨r.length - (L + 1), by omega, L + 1, v', rfl, e1, e2, lo', e4⟩, ?_⟩
        refine ⟨_, rfl, _, _, rfl, rfl, ?_⟩
        refine ⟨_, rfl, _, rfl, A, a, r, k, n, L + 1, rfl, hA.same s3, g, by have := lim2 (L + 1) lo'; simp at g6; omega, fun H4 s4 e => ?_, fun H4 t4 rows4 s4 e h => ?_⟩
        · exact ⟨_, rfl, s3.trans s4, .inl ⟨rfl, e⟩⟩
        · exact ⟨_, rfl, s3.trans s4, .inr ⟨rows4, t4, rfl, e, h⟩⟩
      · refine iteF ?_
        refine ⟨_, rfl, _, rfl, (by show 2 ≤ sizeLine; decide), fun u hu => ?_⟩
        have su := same_new hu (.tup [.int (L : Nat), .ref T3])
        exact q _ u T3 L rows3 (s3.trans su) ⟨e3, lo⟩ upd_same (t3.same su)
    · refine ⟨W, ⟨r.length, by rw [hW]; exact ⟨0, .ref t, rfl, rfl, s1.trans s2, fun L' h => absurd h (by omega), .inr ⟨rows, t, rfl, e, h⟩⟩⟩, ?_⟩
      intro m σ H3 hw
      rw [hW] at hw ⊢
      obtain ⟨L, v, rfl, rfl, s3, lo, hv⟩ := hw
      refine ⟨_, rfl, rfl, _, rfl, ?_⟩
      rcases hv with ⟨rfl, e3⟩ | ⟨rows3, T3, rfl, e3, t3⟩
      · refine iteT ?_
        have h1 := lim L lo e3
        have lo' : ∀ L', L' < L + 1 → S L' a r = none := fun L' h => by
          by_cases q : L' = L
          · rw [q]; exact e3
          · exact lo L' (by omega)
        refine ⟨fun σ' H' => ∃ (v : V), σ' = [some (.ref A), some (.int (L + 1 : Nat)), some v] ∧ Same H H' ∧ ((v = .non ∧ S (L + 1) a r = none) ∨ ∃ rows T, v = .ref T ∧ S (L + 1) a r = some rows ∧ Tt H' T (sortedA a :: rows)), fun σ' H' ⟨v', e1, e2, e4⟩ => ⟨r.length - (L + 1), by omega, L + 1, v', rfl, e1, e2, lo', e4⟩, ?_⟩
        refine ⟨_, rfl, _, _, rfl, rfl, ?_⟩
        refine ⟨_, rfl, _, rfl, A, a, r, k, n, L + 1, rfl, hA.same s3, g, by have := lim2 (L + 1) lo'; simp at g6; omega, fun H4 s4 e => ?_, fun H4 t4 rows4 s4 e h => ?_⟩
        · exact ⟨_, rfl, s3.trans s4, .inl ⟨rfl, e⟩⟩
        · exact ⟨_, rfl, s3.trans s4, .inr ⟨rows4, t4, rfl, e, h⟩⟩
      · refine iteF ?_
        refine ⟨_, rfl, _, rfl, (by show 2 ≤ sizeLine; decide), fun u hu => ?_⟩
        have su := same_new hu (.tup [.int (L : Nat), .ref T3])
        exact q _ u T3 L rows3 (s3.trans su) ⟨e3, lo⟩ upd_same (t3.same su)
end
end LW
end

section
set_option Elab.async false
set_option linter.all false
set_option autoImplicit false
set_option maxRecDepth 100000
namespace LW
open PySem L2 LM LX
/-! ### the law's stream -/
abbrev sStream : Stmt := top 43
abbrev sNext : Stmt := top 44
abbrev sIsInt : Stmt := top 45
abbrev sEqual : Stmt := top 46
abbrev sLAlloc : Stmt := top 47
abbrev sNear : Stmt := top 48
abbrev sSeries : Stmt := top 49
abbrev sSmall : Stmt := top 50
abbrev sLaw : Stmt := top 51
/-- a stream at s -/
def Strm (H : Hp) (s l : Addr) : Prop := ∃ (ns : List Int) (c k : Int), H s = some (.lst [.ref l, .int c, .int k]) ∧ H l = some (.lst (ns.map V.int)) ∧ l ≠ s ∧ 0 ≤ k
theorem Strm.same {H H' : Hp} {s l : Addr} (h : Strm H s l) (q : Same H H') : Strm H' s l := let ⟨ns, c, k, h1, h2, h3, h4⟩ := h; ⟨ns, c, k, q _ _ h1, q _ _ h2, h3, h4⟩
def spStream (K : PySem.W.Frag) : Sp := fun vs H Q _ => ∃ (a : Addr) (ns : List Int), vs = [.ref a] ∧ SqL K H a (ns.map V.int) ∧ ∀ H' s l, Same H H' → H s = none → Strm H' s l → Q (.ref s) H'
def spNext : Sp := fun vs H Q _ => ∃ (s l : Addr) (m : Nat), vs = [.ref s, .int m] ∧ Strm H s l ∧ 0 < m ∧ m ≤ 1000 ∧ ∀ H' (z : Nat), z < m → Strm H' s l → But1 s H H' → Q (.int z) H'
theorem But1.trans {p : Addr} {H H1 H2 : Hp} (a : But1 p H H1) (b : But1 p H1 H2) : But1 p H H2 := fun x o h n => b x o (a x o h n) n
theorem digit_fin {Q : VK} {H : Hp} {s l : Addr} {m : Nat} (q : ∀ H' (z : Nat), z < m → Strm H' s l → But1 s H H' → Q (.int z) H') (hm : 0 < m) (x : Int) (HH : Hp) (h1 : Strm HH s l) (h2 : But1 s H HH) : Q (.int (x % (m : Int))) HH := by
  have a1 := Int.emod_nonneg x (by omega : (m : Int) ≠ 0)
  have a2 := Int.emod_lt_of_pos x (by omega : (0 : Int) < m)
  have e : x % (m : Int) = (((x % (m : Int)).toNat : Nat) : Int) := by omega
  rw [e]
  exact q _ _ (by omega) h1 h2
theorem upd_upd (H : Hp) (s : Addr) (a b : HO) : upd (upd H s a) s b = upd H s b := by
  funext x
  by_cases e : x = s
  · subst e; rw [upd_same, upd_same]
  · rw [upd_ne e, upd_ne e, upd_ne e]
section
variable {P : Program} {w : World} {K : PySem.W.Frag} {mg : Str → Option Value} {base : Heap}
theorem scStream : FnScope ["_law_script"] ["_law_script"] (defScope sStream) := ⟨rfl, rfl, rfl, by decide +kernel, rfl, by decide +kernel, by decide +kernel⟩
theorem ok_stream {f : Addr} {fd : FuncData} (F : Fun K "_law_stream" "_law_stream" sStream f fd) (N : Nm mg) : FnOk P w K mg base CX0 1 f fd ["_law_script"] (spStream K) := by
  refine F.ok scStream (fun vs H Q E h => ?_) (fun cdv A0 outer s0 H vs Q E hr h => ?_)
  · obtain ⟨a, ns, rfl, _⟩ := h; rfl
  · obtain ⟨a, ns, rfl, hS, q⟩ := h
    refine ⟨_, (pss_one (ps_ret (pe_lst (pa_cons ((pe_callTy call_list_of rfl N.lst (by decide +kernel) (pa_cons (pv 0) pa_nil))) (pa_cons (pe_int) (pa_cons (pe_int) pa_nil)))))), ?_⟩
    refine ⟨_, rfl, a, _, rfl, .inl hS, fun l hl => ⟨(by show 3 ≤ sizeLine; decide), fun s hs => ?_⟩⟩
    have s1 := same_new hl (.lst (ns.map V.int))
    have s2 := same_new hs (.lst [.ref l, .int 0, .int 0])
    have e1 : (upd H l (.lst (ns.map V.int))) l = some (.lst (ns.map V.int)) := upd_same
    exact q _ s l (s1.trans s2) (s1.free hs) ⟨ns, 0, 0, upd_same, s2 _ _ e1, ne_of_none e1 hs, by omega⟩
theorem scNext : FnScope ["_law_stream_here", "_law_many", "_law_k", "_law_cell", "_law_digit"] ["_law_stream_here", "_law_many"] (defScope sNext) := ⟨rfl, rfl, rfl, by decide +kernel, rfl, by decide +kernel, by decide +kernel⟩
theorem ok_next {f : Addr} {fd : FuncData} (F : Fun K "_law_next" "_law_next" sNext f fd) (N : Nm mg) : FnOk P w K mg base CX0 1 f fd ["_law_stream_here", "_law_many"] spNext := by
  refine F.ok scNext (fun vs H Q E h => ?_) (fun cdv A0 outer s0 H vs Q E hr h => ?_)
  · obtain ⟨s, l, m, rfl, _⟩ := h; rfl
  · obtain ⟨s, l, m, rfl, ⟨ns, c, k, hs, hl, nls, hk⟩, hm, hm2, q⟩ := h
    refine ⟨_, (pss_cons (ps_if ((pt_cmpR (op_eq) ((pe_ix (ix_listK (K := K) rfl) (pv 0) (pe_int) (fun _ _ => rfl))) (pe_int) (nomark _))) (pss_cons (ps_set (i := 2) scNext.nd rfl (Or.inl rfl) ((pe_ix (ix_listK (K := K) rfl) (pv 0) (pe_int) (fun _ _ => rfl)))) (pss_cons (ps_set (i := 3) scNext.nd rfl (Or.inl rfl) ((pe_op (op_add) (pe_int) (pv 2)))) (pss_cons (ps_if ((pt_cmpR (op_lt) (pv 2) ((pe_callB (call_lenK (K := K) rfl) rfl N.len PySem.boot_len (pa_cons ((pe_ix (ix_listK (K := K) rfl) (pv 0) (pe_int) (fun _ _ => rfl))) pa_nil))) (nomark _))) (pss_one (ps_set (i := 3) scNext.nd rfl (Or.inl rfl) ((pe_callB call_abs rfl N.abs (by decide +kernel) (pa_cons ((pe_ix (ix_listK (K := K) rfl) ((pe_ix (ix_listK (K := K) rfl) (pv 0) (pe_int) (fun _ _ => rfl))) (pv 2) (fun _ _ => rfl))) pa_nil))))) pss_nil) (pss_cons (ps_if ((pt_cmpR (op_lt) (pv 3) ((pe_op (op_pow) (pe_int) (pe_int))) (nomark _))) (pss_cons (ps_set (i := 3) scNext.nd rfl (Or.inl rfl) ((pe_op (op_mod) ((pe_callTy call_int1 rfl N.int (by decide +kernel) (pa_cons ((pe_op (op_add) ((pe_op (op_add) ((pe_op (op_mul) (pv 3) (pe_int))) ((pe_op (op_mul) (pv 2) (pe_int))))) (pe_int))) pa_nil))) (pe_int)))) (pss_one (ps_set (i := 3) scNext.nd rfl (Or.inl rfl) ((pe_op (op_add) ((pe_op (op_mul) ((pe_op (op_mod) ((pe_callTy call_int1 rfl N.int (by decide +kernel) (pa_cons ((pe_op (op_add) ((pe_op (op_mul) (pv 3) (pe_int))) (pe_int))) pa_nil))) (pe_int))) (pe_int))) (pv 3)))))) pss_nil) (pss_cons (ps_asg (pv 3) (pg_sub (pv 0) pe_int set_list)) (pss_one (ps_asg (pe_op (op_add) (pv 2) (pe_int)) (pg_sub (pv 0) pe_int set_list)))))))) pss_nil) (pss_cons (ps_set (i := 4) scNext.nd rfl (Or.inl rfl) ((pe_op (op_mod) ((pe_callTy call_int1 rfl N.int (by decide +kernel) (pa_cons ((pe_ix (ix_listK (K := K) rfl) (pv 0) (pe_int) (fun _ _ => rfl))) pa_nil))) (pv 1)))) (pss_cons (ps_asg (pe_op (op_fdiv) ((pe_ix (ix_listK (K := K) rfl) (pv 0) (pe_int) (fun _ _ => rfl))) (pv 1)) (pg_sub (pv 0) pe_int set_list)) (pss_one (ps_ret (pv 4)))))), ?_⟩
    have sq : ∀ {H' : Hp} {xs : List V}, H' s = some (.lst xs) → SqL K H' s xs := fun h => SqL.of h
    refine ⟨_, rfl, s, _, _, _, rfl, rfl, sq hs, atI_nat (j := 1) rfl, rfl, _, rfl, ?_⟩
    refine ite2 (fun _ => ?ga) (fun _ => ?gb)
    case' ga =>
      refine ⟨_, rfl, s, _, _, _, rfl, rfl, sq hs, atI_nat (j := 2) rfl, _, rfl, _, _, rfl, rfl, ?_⟩
      refine ⟨_, rfl, _, rfl, s, _, _, _, rfl, rfl, sq hs, atI_nat (j := 0) rfl, l, _, rfl, .inl (SqL.of hl), _, _, rfl, rfl, _, rfl, ?_⟩
      rw [List.length_map]
      refine ite2 (fun c1 => ?gc) (fun c1 => ?gd)
      case' gc =>
        have c1' : k < (ns.length : Int) := of_decide_eq_true c1
        have ek : k = ((k.toNat : Nat) : Int) := by omega
        have hkn : k.toNat < ns.length := by omega
        refine ⟨_, rfl, s, _, _, _, rfl, rfl, sq hs, atI_nat (j := 0) rfl, _, rfl, l, _, _, _, rfl, rfl, SqL.of hl, at_of ek (ivs_get hkn), _, rfl, ?_⟩
      all_goals
        refine ⟨_, rfl, _, _, rfl, rfl, ⟨by decide, by decide, by decide⟩, _, _, rfl, rfl, _, rfl, ?_⟩
        refine ite2 (fun c2 => ?_) (fun c2 => ?_)
        · refine ⟨_, rfl, _, _, rfl, rfl, .inr ⟨by decide, by decide⟩, _, rfl, _, _, rfl, rfl, .inr ⟨by decide, by decide⟩, _, _, rfl, rfl, _, _, rfl, rfl, .inl ⟨_, rfl, _, _, rfl, rfl, (by show (0 : Int) < 2147483647; decide), ?_⟩⟩
          refine ⟨_, rfl, _, _, rfl, rfl, .inr ⟨by decide, by decide⟩, _, _, rfl, rfl, .inl ⟨_, rfl, _, _, rfl, rfl, (by show (0 : Int) < 2147483647; decide), _, _, rfl, rfl, .inr ⟨by decide, by decide⟩, _, rfl, _, _, rfl, rfl, ?_⟩⟩
          refine ⟨_, rfl, _, rfl, s, _, _, 1, rfl, rfl, hs, rfl, ?_⟩
          refine ⟨_, rfl, _, _, rfl, rfl, _, rfl, s, _, _, 2, rfl, rfl, upd_same, rfl, ?_⟩
          have hm0 : (0 : Int) < (m : Int) := by omega
          refine ⟨_, rfl, s, _, _, _, rfl, rfl, sq upd_same, atI_nat (j := 1) rfl, .inl ⟨_, rfl, _, rfl, _, _, rfl, rfl, hm0, ?_⟩⟩
          refine ⟨_, rfl, s, _, _, _, rfl, rfl, sq upd_same, atI_nat (j := 1) rfl, _, rfl, _, _, rfl, rfl, ⟨hm0, by omega⟩, _, rfl, s, _, _, 1, rfl, rfl, upd_same, rfl, ?_⟩
          refine ⟨_, rfl, ?_⟩
          exact digit_fin q hm _ _ ⟨ns, _, k + 1, upd_same, by rw [upd_ne nls, upd_ne nls, upd_ne nls]; exact hl, nls, by omega⟩ (fun x o h nn => by rw [upd_ne nn, upd_ne nn, upd_ne nn]; exact h)
        · refine ⟨_, rfl, _, rfl, s, _, _, 1, rfl, rfl, hs, rfl, ?_⟩
          refine ⟨_, rfl, _, _, rfl, rfl, _, rfl, s, _, _, 2, rfl, rfl, upd_same, rfl, ?_⟩
          have hm0 : (0 : Int) < (m : Int) := by omega
          refine ⟨_, rfl, s, _, _, _, rfl, rfl, sq upd_same, atI_nat (j := 1) rfl, .inl ⟨_, rfl, _, rfl, _, _, rfl, rfl, hm0, ?_⟩⟩
          refine ⟨_, rfl, s, _, _, _, rfl, rfl, sq upd_same, atI_nat (j := 1) rfl, _, rfl, _, _, rfl, rfl, ⟨hm0, by omega⟩, _, rfl, s, _, _, 1, rfl, rfl, upd_same, rfl, ?_⟩
          refine ⟨_, rfl, ?_⟩
          exact digit_fin q hm _ _ ⟨ns, _, k + 1, upd_same, by rw [upd_ne nls, upd_ne nls, upd_ne nls]; exact hl, nls, by omega⟩ (fun x o h nn => by rw [upd_ne nn, upd_ne nn, upd_ne nn]; exact h)
    case' gb =>
      have hm0 : (0 : Int) < (m : Int) := by omega
      refine ⟨_, rfl, s, _, _, _, rfl, rfl, sq hs, atI_nat (j := 1) rfl, .inl ⟨_, rfl, _, rfl, _, _, rfl, rfl, hm0, ?_⟩⟩
      refine ⟨_, rfl, s, _, _, _, rfl, rfl, sq hs, atI_nat (j := 1) rfl, _, rfl, _, _, rfl, rfl, ⟨hm0, by omega⟩, _, rfl, s, _, _, 1, rfl, rfl, hs, rfl, ?_⟩
      refine ⟨_, rfl, ?_⟩
      exact digit_fin q hm _ _ ⟨ns, _, k, upd_same, by rw [upd_ne nls]; exact hl, nls, by omega⟩ (fun x o h nn => by rw [upd_ne nn]; exact h)
end
end LW
end

section
set_option Elab.async false
set_option linter.all false
set_option autoImplicit false
set_option maxRecDepth 100000
namespace LW
open PySem L2 LM LX
/-! ### what the law compares and builds -/
def Alk (H : Hp) : Nat → V → V → Prop
  | 0, x, y => ∃ i : Int, x = .int i ∧ y = .int i
  | 1, x, y => ∃ (a b : Addr) (ns : List Nat), x = .ref a ∧ y = .ref b ∧ Tn H a ns ∧ Tn H b ns ∧ ns.length ≤ 20
  | _, x, y => ∃ (a b : Addr) (rows : List (List Nat)), x = .ref a ∧ y = .ref b ∧ Tt H a rows ∧ Tt H b rows ∧ rows.length ≤ 20 ∧ ∀ r ∈ rows, r.length ≤ 20
def spEq (m : Nat) : Sp := fun vs H Q _ => ∃ x y, vs = [x, y] ∧ Alk H m x y ∧ ∀ H', Same H H' → Q (.bl true) H'
def spLAlloc : Sp := fun vs H Q _ => ∃ (s l : Addr) (k n : Nat), vs = [.ref s, .int k, .int n] ∧ Strm H s l ∧ 1 ≤ k ∧ k ≤ 4 ∧ n ≤ 4 ∧ ∀ H' p ns, ns.length = k → ns.sum = n → Strm H' s l → But1 s H H' → H p = none → p ≠ s → Tn H' p ns → Q (.ref p) H'
def spNear : Sp := fun vs H Q _ => ∃ (s l a : Addr) (ms : List Nat) (k n : Nat), vs = [.ref s, .ref a] ∧ Strm H s l ∧ Tn H a ms ∧ ms.length = k ∧ ms.sum = n ∧ 1 ≤ k ∧ k ≤ 4 ∧ ∀ H' p ns, ns.length = k → ns.sum = n → Strm H' s l → But1 s H H' → H p = none → p ≠ s → Tn H' p ns → Q (.ref p) H'
def spSeries : Sp := fun vs H Q _ => ∃ (s l : Addr) (k n m : Nat), vs = [.ref s, .int k, .int n, .int m] ∧ Strm H s l ∧ 1 ≤ k ∧ k ≤ 4 ∧ n ≤ 4 ∧ 1 ≤ m ∧ m ≤ 6 ∧ ∀ H' A rows, Gd k n rows → Tt H' A rows → Q (.ref A) H'
def spSmall : Sp := fun vs H Q _ => ∃ (s l : Addr), vs = [.ref s] ∧ Strm H s l ∧ ∀ H' A rows k n, Gd k n rows → Tt H' A rows → Q (.ref A) H'
theorem sum_set_nat : ∀ {ns : List Nat} {i x : Nat}, i < ns.length → (ns.set i x).sum + sh ns i = ns.sum + x
  | [], i, x, h => by simp at h
  | a :: r, 0, x, h => by
    show (x :: r).sum + a = (a :: r).sum + x
    rw [List.sum_cons, List.sum_cons]; omega
  | a :: r, i + 1, x, h => by
    have := sum_set_nat (ns := r) (i := i) (x := x) (by simpa using h)
    show (a :: r.set i x).sum + sh r i = (a :: r).sum + x
    rw [List.sum_cons, List.sum_cons]; omega
theorem nvs_set (ns : List Nat) (i x : Nat) : (nvs ns).set i (.int x) = nvs (ns.set i x) := by
  unfold nvs; rw [List.map_set]
theorem But1.sq {K : PySem.W.Frag} {p : Addr} {H H' : Hp} (b : But1 p H H') {x : Addr} {xs : List V} (h : H x = some (.lst xs)) (n : x ≠ p) : H' x = some (.lst xs) := b _ _ h n
theorem But1.tn {p : Addr} {H H' : Hp} (b : But1 p H H') {x : Addr} {ns : List Nat} (h : Tn H x ns) {ys : List V} (hp : H p = some (.lst ys)) : Tn H' x ns := b.sh h (h.ne hp (by intro o x z; cases z))
theorem Strm.lst {H : Hp} {s l : Addr} (h : Strm H s l) : ∃ ys, H s = some (.lst ys) := let ⟨_, _, _, h1, _⟩ := h; ⟨_, h1⟩
theorem Strm.lst2 {H : Hp} {s l : Addr} (h : Strm H s l) : ∃ ys, H l = some (.lst ys) := let ⟨_, _, _, _, h1, _⟩ := h; ⟨_, h1⟩
theorem Strm.put {H : Hp} {s l x : Addr} {o : HO} (h : Strm H s l) (hs : s ≠ x) (hl : l ≠ x) : Strm (upd H x o) s l := by
  obtain ⟨ns, c, k, h1, h2, h3, h4⟩ := h
  exact ⟨ns, c, k, by rw [upd_ne hs]; exact h1, by rw [upd_ne hl]; exact h2, h3, h4⟩
/-- what is new behind a def that writes its stream alone -/
theorem But1.new {s l : Addr} {H H' : Hp} (b : But1 s H H') (h : Strm H' s l) {x : Addr} (hx : H' x = none) : H x = none ∧ x ≠ s := by
  obtain ⟨ys, e⟩ := h.lst
  exact ⟨b.free e hx, fun z => by rw [z, e] at hx; cases hx⟩
section
variable {P : Program} {w : World} {K : PySem.W.Frag} {mg : Str → Option Value} {base : Heap}
theorem scIsInt : FnScope ["_law_actual"] ["_law_actual"] (defScope sIsInt) := ⟨rfl, rfl, rfl, by decide +kernel, rfl, by decide +kernel, by decide +kernel⟩
theorem ok_isInt {f : Addr} {fd : FuncData} (F : Fun K "_law_is_integer" "_law_is_integer" sIsInt f fd) (N : Nm mg) : FnOk P w K mg base CX0 1 f fd ["_law_actual"] spWhole := by
  refine F.ok scIsInt (fun vs H Q E h => ?_) (fun cdv A outer s H vs Q E hr h => ?_)
  · obtain ⟨i, rfl, _⟩ := h; rfl
  · obtain ⟨i, rfl, q⟩ := h
    refine ⟨_, (pss_one (ps_ret (pe_and (pe_callB call_isi rfl N.isi PyProof.Rows.boot_isinstance (pa_cons (pv 0) (pa_cons (pe_bty rfl N.int PyProof.Rows.boot_int (by decide) (by decide)) pa_nil))) (pe_one (pe_not (pe_callB call_isi rfl N.isi PyProof.Rows.boot_isinstance (pa_cons (pv 0) (pa_cons (pe_bty rfl N.bool PyProof.Rows.boot_bool (by decide) (by decide)) pa_nil)))))))), ?_⟩
    refine ⟨_, rfl, _, _, _, _, true, rfl, .ty _, .base (.int i), kit_ty (by decide +kernel), _, rfl, iteT ?_⟩
    exact ⟨_, rfl, _, _, _, _, false, rfl, .ty _, .base (.int i), kit_ty (by decide +kernel), _, rfl, q⟩
def spEqP : Nat → Sp
  | 0 => fun _ _ _ _ => False
  | m + 1 => spEq m
theorem scEqual : FnScope ["_law_actual", "_law_due", "_law_at"] ["_law_actual", "_law_due"] (defScope sEqual) := ⟨rfl, rfl, rfl, by decide +kernel, rfl, by decide +kernel, by decide +kernel⟩
theorem ok_equal {f : Addr} {fd : FuncData} {m j : Nat} (hm : m ≤ 2) (hj : 1 ≤ j) (F : Fun K "_law_equal" "_law_equal" sEqual f fd) (N : Nm mg) (O1 : Ok P w K mg base "_law_is_integer" ["_law_actual"] 1 spWhole)
    (O2 : Ok P w K mg base "_law_equal" ["_law_actual", "_law_due"] j (spEqP m)) : FnOk P w K mg base CX0 (j + 1) f fd ["_law_actual", "_law_due"] (spEq m) := by
  refine F.ok scEqual (fun vs H Q E h => ?_) (fun cdv A outer s H vs Q E hr h => ?_)
  · obtain ⟨x, y, rfl, _⟩ := h; rfl
  · obtain ⟨x, y, rfl, al, q⟩ := h
    have hr1 : Room 1 _ := hr.mono hj
    refine ⟨_, (pss_cons (ps_if ((pt_cmpR (op_isN) (pv 1) (pe_non) (nomark _))) (pss_one (ps_ret ((pe_cmpR (op_isN) (pv 0) (pe_non) (nomark _))))) pss_nil) (pss_cons (ps_if (pt_val (pe_callB call_isi rfl N.isi PyProof.Rows.boot_isinstance (pa_cons (pv 1) (pa_cons (pe_bty rfl N.bool PyProof.Rows.boot_bool (by decide) (by decide)) pa_nil)))) (pss_one (ps_ret (pe_and (pe_callB call_isi rfl N.isi PyProof.Rows.boot_isinstance (pa_cons (pv 0) (pa_cons (pe_bty rfl N.bool PyProof.Rows.boot_bool (by decide) (by decide)) pa_nil))) (pe_one (pe_cmpR (op_eq) (pv 0) (pv 1) (nomark _)))))) pss_nil) (pss_cons (ps_if (pt_val (pe_callB call_isi rfl N.isi PyProof.Rows.boot_isinstance (pa_cons (pv 1) (pa_cons (pe_bty rfl N.int PyProof.Rows.boot_int (by decide) (by decide)) pa_nil)))) (pss_one (ps_ret (pe_and (pe_ok O1 hr1 rfl (pa_cons (pv 0) pa_nil)) (pe_one (pe_cmpR (op_eq) (pv 0) (pv 1) (nomark _)))))) pss_nil) (pss_cons (ps_if (pt_val (pe_callB call_isi rfl N.isi PyProof.Rows.boot_isinstance (pa_cons (pv 1) (pa_cons (pe_bty rfl N.str (show bootBuiltins "str" = some (.type "str") by decide +kernel) (by decide) (by decide)) pa_nil)))) (pss_one (ps_ret (pe_and (pe_callB call_isi rfl N.isi PyProof.Rows.boot_isinstance (pa_cons (pv 0) (pa_cons (pe_bty rfl N.str (show bootBuiltins "str" = some (.type "str") by decide +kernel) (by decide) (by decide)) pa_nil))) (pe_one (pe_cmpR (op_eq) (pv 0) (pv 1) (nomark _)))))) pss_nil) (pss_cons (ps_if (PW.pt (pw_and (pt_val (pe_callB call_isi rfl N.isi PyProof.Rows.boot_isinstance (pa_cons (pv 1) (pa_cons (pe_bty rfl N.tup PyProof.Rows.boot_tuple (by decide) (by decide)) pa_nil)))) (pw_and1 (pt_not (pt_val (pe_callB call_isi rfl N.isi PyProof.Rows.boot_isinstance (pa_cons (pv 0) (pa_cons (pe_bty rfl N.tup PyProof.Rows.boot_tuple (by decide) (by decide)) pa_nil)))))))) (pss_one (ps_ret (pe_bl))) pss_nil) (pss_cons (ps_if (PW.pt (pw_and (pt_val (pe_callB call_isi rfl N.isi PyProof.Rows.boot_isinstance (pa_cons (pv 1) (pa_cons (pe_bty rfl N.lst (show bootBuiltins "list" = some (.type "list") by decide +kernel) (by decide) (by decide)) pa_nil)))) (pw_and1 (pt_not (pt_val (pe_callB call_isi rfl N.isi PyProof.Rows.boot_isinstance (pa_cons (pv 0) (pa_cons (pe_bty rfl N.lst (show bootBuiltins "list" = some (.type "list") by decide +kernel) (by decide) (by decide)) pa_nil)))))))) (pss_one (ps_ret (pe_bl))) pss_nil) (pss_cons (ps_if ((pt_cmpR (op_ne) ((pe_callB (call_lenK (K := K) rfl) rfl N.len PySem.boot_len (pa_cons (pv 0) pa_nil))) ((pe_callB (call_lenK (K := K) rfl) rfl N.len PySem.boot_len (pa_cons (pv 1) pa_nil))) (nomark _))) (pss_one (ps_ret (pe_bl))) pss_nil) (pss_one (ps_ret ((pe_callB (cr_all rfl) rfl N.all (by decide +kernel) (pa_cons ((pe_lc (own := [("_law_at", 2)]) (g := gName 2) (tt := tYes) rfl scEqual.nd (pi_range1 rfl N.rng (pa_cons ((pe_callB (call_lenK (K := K) rfl) rfl N.len PySem.boot_len (pa_cons (pv 1) pa_nil))) pa_nil)) (blkOk_by (N := ["_law_actual", "_law_due", "_law_at"]) (sc := defScope sEqual) (by decide +kernel)) (fun _ _ _ _ _ => pg_name (i := 2) scEqual.nd rfl (Or.inl rfl)) (fun _ _ _ _ _ => pts_nil) (fun _ _ _ _ _ => (pe_ok O2 hr rfl (pa_cons ((pe_ix (ix_tupK (K := K) rfl) (pv 0) (pv 2) (fun _ _ => rfl))) (pa_cons ((pe_ix (ix_tupK (K := K) rfl) (pv 1) (pv 2) (fun _ _ => rfl))) pa_nil)))))) pa_nil)))))))))))), ?_⟩
    rcases (by omega : m = 0 ∨ m = 1 ∨ m = 2) with rfl | rfl | rfl
    · obtain ⟨i, rfl, rfl⟩ := al
      refine ⟨_, rfl, rfl, _, rfl, iteF ?_⟩
      refine ⟨_, rfl, _, _, _, _, false, rfl, .ty _, .base (.int i), kit_ty (by decide +kernel), _, rfl, iteF ?_⟩
      refine ⟨_, rfl, _, _, _, _, true, rfl, .ty _, .base (.int i), kit_ty (by decide +kernel), _, rfl, iteT ?_⟩
      refine ⟨_, rfl, i, rfl, _, rfl, iteT ?_⟩
      refine ⟨_, rfl, _, rfl, rfl, ?_⟩
      have e : decide (V.int i = V.int i) = true := decide_eq_true rfl
      rw [e]
      exact q _ (Same.refl _)
    · obtain ⟨a, b, ns, rfl, rfl, Ta, Tb, hl⟩ := al
      refine ⟨_, rfl, rfl, _, rfl, iteF ?_⟩
      refine ⟨_, rfl, _, _, _, _, false, rfl, .ty _, Tb.ty, kit_ty (by decide +kernel), _, rfl, iteF ?_⟩
      refine ⟨_, rfl, _, _, _, _, false, rfl, .ty _, Tb.ty, kit_ty (by decide +kernel), _, rfl, iteF ?_⟩
      refine ⟨_, rfl, _, _, _, _, false, rfl, .ty _, Tb.ty, kit_ty (by decide +kernel), _, rfl, iteF ?_⟩
      refine ⟨_, rfl, _, _, _, _, true, rfl, .ty _, Tb.ty, kit_ty (by decide +kernel), _, rfl, iteT ?_⟩
      refine ⟨_, rfl, _, _, _, _, true, rfl, .ty _, Ta.ty, kit_ty (by decide +kernel), _, rfl, iteF ?_⟩
      refine ⟨_, rfl, _, _, _, _, false, rfl, .ty _, Tb.ty, kit_ty (by decide +kernel), _, rfl, iteF (iteF ?_)⟩
      refine ⟨_, rfl, a, _, rfl, .inr Ta.sq, _, rfl, b, _, rfl, .inr Tb.sq, rfl, _, rfl, iteNS rfl ?_⟩
      refine ⟨_, rfl, b, _, rfl, .inr Tb.sq, _, rfl, by omega, by rw [nvs_length]; omega, fun D hD => ?_⟩
      rw [nvs_length, Int.toNat_natCast]
      refine lc_map walk_range (fun i => V.bl true) hD (by omega) (fun H' s => trivial) (fun i H x H' _ _ y => y.1 ▸ Same.refl _) (fun i x H1 H2 R hi s1 y s2 r => ?_) (fun H1 s1 e => ?_)
      · obtain ⟨rfl, rfl⟩ := y
        have ei : (0 : Int) + (i : Int) = ((i : Nat) : Int) := by omega
        refine ⟨rfl, _, rfl, _, rfl, a, _, _, _, rfl, rfl, (Ta.same s1).sq, at_of ei (nvs_sh hi), _, rfl, _, rfl, b, _, _, _, rfl, rfl, (Tb.same s1).sq, at_of ei (nvs_sh hi), _, _, rfl, ⟨_, rfl, rfl⟩, fun H3 s3 => r _ _ s3 rfl⟩
      · refine ⟨D, (List.range ns.length).map (fun _ => true), rfl, SqL.of (by rw [e, List.map_map]; rfl), ?_⟩
        rw [all_range fun _ _ => rfl]
        exact q _ s1
    · obtain ⟨a, b, rows, rfl, rfl, ⟨as, hA, RA⟩, ⟨bs, hB, RB⟩, hl, hl2⟩ := al
      refine ⟨_, rfl, rfl, _, rfl, iteF ?_⟩
      refine ⟨_, rfl, _, _, _, _, false, rfl, .ty _, .base (.tup hB), kit_ty (by decide +kernel), _, rfl, iteF ?_⟩
      refine ⟨_, rfl, _, _, _, _, false, rfl, .ty _, .base (.tup hB), kit_ty (by decide +kernel), _, rfl, iteF ?_⟩
      refine ⟨_, rfl, _, _, _, _, false, rfl, .ty _, .base (.tup hB), kit_ty (by decide +kernel), _, rfl, iteF ?_⟩
      refine ⟨_, rfl, _, _, _, _, true, rfl, .ty _, .base (.tup hB), kit_ty (by decide +kernel), _, rfl, iteT ?_⟩
      refine ⟨_, rfl, _, _, _, _, true, rfl, .ty _, .base (.tup hA), kit_ty (by decide +kernel), _, rfl, iteF ?_⟩
      refine ⟨_, rfl, _, _, _, _, false, rfl, .ty _, .base (.tup hB), kit_ty (by decide +kernel), _, rfl, iteF (iteF ?_)⟩
      have la : (rfs as).length = rows.length := by rw [rfs_length, RA.len]
      have lb : (rfs bs).length = rows.length := by rw [rfs_length, RB.len]
      refine ⟨_, rfl, a, _, rfl, .inr (SqT.of hA), _, rfl, b, _, rfl, .inr (SqT.of hB), rfl, _, rfl, iteNS (by rw [la, lb]) ?_⟩
      refine ⟨_, rfl, b, _, rfl, .inr (SqT.of hB), _, rfl, by omega, by rw [lb]; omega, fun D hD => ?_⟩
      rw [lb, Int.toNat_natCast]
      refine lc_map walk_range (fun i => V.bl true) hD (by omega) (fun H' s => trivial) (fun i H x H' _ _ y => y.1 ▸ Same.refl _) (fun i x H1 H2 R hi s1 y s2 r => ?_) (fun H1 s1 e => ?_)
      · obtain ⟨rfl, rfl⟩ := y
        have ei : (0 : Int) + (i : Int) = ((i : Nat) : Int) := by omega
        obtain ⟨u, hu, Tu⟩ := RA.get hi
        obtain ⟨v, hv, Tv⟩ := RB.get hi
        refine ⟨rfl, _, rfl, _, rfl, a, _, _, _, rfl, rfl, SqT.of (s1 _ _ hA), at_of ei (rfs_get hu), _, rfl, _, rfl, b, _, _, _, rfl, rfl, SqT.of (s1 _ _ hB), at_of ei (rfs_get hv), _, _, rfl, ⟨u, v, _, rfl, rfl, Tu.same s1, Tv.same s1, hl2 _ (List.getElem_mem hi)⟩, fun H3 s3 => r _ _ s3 rfl⟩
      · refine ⟨D, (List.range rows.length).map (fun _ => true), rfl, SqL.of (by rw [e, List.map_map]; rfl), ?_⟩
        rw [all_range fun _ _ => rfl]
        exact q _ s1
end
end LW
end

section
set_option Elab.async false
set_option linter.all false
set_option autoImplicit false
set_option maxRecDepth 100000
namespace LW
open PySem L2 LM LX
theorem zeros_nvs (k : Nat) : ((List.range k).map fun _ => V.int 0) = nvs (List.replicate k 0) := List.ext_getElem (by simp [nvs]) fun i h1 h2 => by simp [nvs]
theorem sum_rep0 : ∀ k : Nat, (List.replicate k 0).sum = 0
  | 0 => rfl
  | k + 1 => by rw [List.replicate_succ, List.sum_cons, sum_rep0 k]
theorem But1.putnew {s x : Addr} {H0 H : Hp} (b : But1 s H0 H) (hx : H0 x = none) (o : HO) : But1 s H0 (upd H x o) := fun c u h n => by rw [upd_ne (ne_of_none h hx)]; exact b c u h n
section
variable {P : Program} {w : World} {K : PySem.W.Frag} {mg : Str → Option Value} {base : Heap}
theorem scLAlloc : FnScope ["_law_stream_here", "_law_variants", "_law_buckets", "_law_variant", "_law_shares", "_law_bucket"] ["_law_stream_here", "_law_variants", "_law_buckets"] (defScope sLAlloc) := ⟨rfl, rfl, rfl, by decide +kernel, rfl, by decide +kernel, by decide +kernel⟩
theorem ok_lalloc {f : Addr} {fd : FuncData} (F : Fun K "_law_allocation" "_law_allocation" sLAlloc f fd) (N : Nm mg) (O1 : Ok P w K mg base "_law_next" ["_law_stream_here", "_law_many"] 1 spNext) : FnOk P w K mg base CX0 2 f fd ["_law_stream_here", "_law_variants", "_law_buckets"] spLAlloc := by
  refine F.ok scLAlloc (fun vs H Q E h => ?_) (fun cdv A outer s0 H vs Q E hr h => ?_)
  · obtain ⟨s, l, k, n, rfl, _⟩ := h; rfl
  · obtain ⟨s, l, k, n, rfl, st, k1, k4, n4, q⟩ := h
    refine ⟨_, (pss_cons (ps_setLc (i := 4) (own := [("_law_variant", 3)]) (g := gName 3) (tt := tYes) rfl scLAlloc.nd rfl rfl (sw_true rfl rfl rfl (by decide +kernel)) (pi_range1 rfl N.rng (pa_cons (pv 1) pa_nil)) (blkOk_by (N := ["_law_stream_here", "_law_variants", "_law_buckets", "_law_variant", "_law_shares", "_law_bucket"]) (sc := defScope sLAlloc) (by decide +kernel)) (fun _ _ _ _ _ => pg_name (i := 3) scLAlloc.nd rfl (Or.inl rfl)) (fun _ _ _ _ _ => pts_nil) (fun _ _ _ _ _ => pe_int)) (pss_cons (ps_for PassesOwn.never rfl (pi_range1 rfl N.rng (pa_cons (pv 2) pa_nil)) (pg_name (i := 5) scLAlloc.nd rfl (Or.inl rfl)) (pss_cons (ps_set (i := 3) scLAlloc.nd rfl (Or.inl rfl) ((pe_ok O1 hr rfl (pa_cons (pv 0) (pa_cons (pv 1) pa_nil))))) (pss_one (ps_asg (pe_op (op_add) ((pe_ix (ix_listK (K := K) rfl) (pv 4) (pv 3) (fun _ _ => rfl))) (pe_int)) (pg_sub (pv 4) (pv 3) set_list))))) (pss_one (ps_ret ((pe_callTy call_tupleF rfl N.tup (by decide +kernel) (pa_cons (pv 4) pa_nil))))))), ?_⟩
    refine ⟨_, rfl, (k : Int), rfl, by omega, by omega, fun D hD => ?_⟩
    rw [Int.toNat_natCast]
    refine lc_map walk_range (fun i => V.int 0) hD (by omega) (fun H' s => trivial) (fun i H x H' _ _ y => y.1 ▸ Same.refl _) (fun i x H2 H3 R hi s2 y s3 rr => ?_) (fun H1 s1 e1 => ?_)
    · obtain ⟨rfl, e4⟩ := y
      exact ⟨rfl, rr _ _ (Same.refl _) rfl⟩
    rw [zeros_nvs] at e1
    have nsD : s ≠ D := by obtain ⟨ys, e⟩ := st.lst; exact ne_of_none e hD
    have nlD : l ≠ D := by obtain ⟨ys, e⟩ := st.lst2; exact ne_of_none e hD
    refine ⟨_, rfl, (n : Int), rfl, by omega, by omega, ?_⟩
    rw [Int.toNat_natCast]
    refine for_it walk_range (fun i σ H' => ∃ (v3 v5 : Option V) (ns : List Nat), σ = [some (.ref s), some (.int k), some (.int n), v3, some (.ref D), v5] ∧ Strm H' s l ∧ But1 s H H' ∧ H' D = some (.lst (nvs ns)) ∧ ns.length = k ∧ ns.sum = i)
      ⟨none, none, List.replicate k 0, rfl, st.same s1, Same.but s1, e1, by simp, sum_rep0 k⟩ (fun i σ H' _ _ => trivial) ?_ ?_
    · rintro i x σ H2 H3 hi ⟨v3, v5, ns, rfl, st2, b2, eD, hl, hsum⟩ ⟨rfl, rfl⟩
      refine ⟨_, rfl, _, rfl, s, l, k, rfl, st2, by omega, by omega, fun H4 z hz st4 b4 => ?_⟩
      have eD4 := b4 _ _ eD nsD.symm
      refine ⟨_, rfl, _, rfl, D, _, _, _, rfl, rfl, SqL.of eD4, nvs_at (by omega), _, _, rfl, rfl, _, rfl, _, rfl, D, _, _, z, rfl, rfl, eD4, ixN_nat (by rw [nvs_length]; omega), ?_⟩
      refine ⟨_, _, ns.set z (sh ns z + 1), rfl, st4.put nsD nlD, (b2.trans b4).putnew hD _, ?_, by rw [List.length_set]; exact hl, ?_⟩
      · rw [upd_same, ← nvs_set]; rfl
      · have := sum_set_nat (ns := ns) (i := z) (x := sh ns z + 1) (by omega)
        omega
    · rintro σ H2 ⟨v3, v5, ns, rfl, st2, b2, eD, hl, hsum⟩
      refine ⟨_, rfl, D, _, rfl, SqL.of eD, fun p o hp ho => ?_⟩
      obtain ⟨p0, ps⟩ := b2.new st2 hp
      exact q _ p ns hl hsum (st2.same (same_new hp _)) (b2.same (same_new hp _)) p0 ps (Tn.new ho)
theorem scNear : FnScope ["_law_stream_here", "_law_allocation_here", "_law_shares", "_law_turn", "_law_old", "_law_new"] ["_law_stream_here", "_law_allocation_here"] (defScope sNear) := ⟨rfl, rfl, rfl, by decide +kernel, rfl, by decide +kernel, by decide +kernel⟩
theorem ok_near {f : Addr} {fd : FuncData} (F : Fun K "_law_near" "_law_near" sNear f fd) (N : Nm mg) (O1 : Ok P w K mg base "_law_next" ["_law_stream_here", "_law_many"] 1 spNext) : FnOk P w K mg base CX0 2 f fd ["_law_stream_here", "_law_allocation_here"] spNear := by
  refine F.ok scNear (fun vs H Q E h => ?_) (fun cdv A outer s0 H vs Q E hr h => ?_)
  · obtain ⟨s, l, a, ms, k, n, rfl, _⟩ := h; rfl
  · obtain ⟨s, l, a, ms, k, n, rfl, st, Ta, hl0, hs0, k1, k4, q⟩ := h
    refine ⟨_, (pss_cons (ps_set (i := 2) scNear.nd rfl (Or.inl rfl) ((pe_callTy call_list_of rfl N.lst (by decide +kernel) (pa_cons (pv 1) pa_nil)))) (pss_cons (ps_for PassesOwn.never rfl (pi_range1 rfl N.rng (pa_cons ((pe_ok O1 hr rfl (pa_cons (pv 0) (pa_cons (pe_int) pa_nil)))) pa_nil)) (pg_name (i := 3) scNear.nd rfl (Or.inl rfl)) (pss_cons (ps_set (i := 4) scNear.nd rfl (Or.inl rfl) ((pe_ok O1 hr rfl (pa_cons (pv 0) (pa_cons ((pe_callB (call_lenK (K := K) rfl) rfl N.len PySem.boot_len (pa_cons (pv 2) pa_nil))) pa_nil))))) (pss_cons (ps_set (i := 5) scNear.nd rfl (Or.inl rfl) ((pe_ok O1 hr rfl (pa_cons (pv 0) (pa_cons ((pe_callB (call_lenK (K := K) rfl) rfl N.len PySem.boot_len (pa_cons (pv 2) pa_nil))) pa_nil))))) (pss_one (ps_if ((pt_cmpR (op_gt) ((pe_ix (ix_listK (K := K) rfl) (pv 2) (pv 4) (fun _ _ => rfl))) (pe_int) (nomark _))) (pss_cons (ps_asg (pe_op (op_sub) ((pe_ix (ix_listK (K := K) rfl) (pv 2) (pv 4) (fun _ _ => rfl))) (pe_int)) (pg_sub (pv 2) (pv 4) set_list)) (pss_one (ps_asg (pe_op (op_add) ((pe_ix (ix_listK (K := K) rfl) (pv 2) (pv 5) (fun _ _ => rfl))) (pe_int)) (pg_sub (pv 2) (pv 5) set_list)))) pss_nil))))) (pss_one (ps_ret ((pe_callTy call_tupleF rfl N.tup (by decide +kernel) (pa_cons (pv 2) pa_nil))))))), ?_⟩
    refine ⟨_, rfl, a, _, rfl, .inr Ta.sq, fun D hD => ?_⟩
    have s1 := same_new hD (.lst (nvs ms))
    have nsD : s ≠ D := by obtain ⟨ys, e⟩ := st.lst; exact ne_of_none e hD
    have nlD : l ≠ D := by obtain ⟨ys, e⟩ := st.lst2; exact ne_of_none e hD
    refine ⟨_, rfl, s, l, 3, rfl, st.same s1, by omega, by omega, fun H1 z hz st1 b1 => ?_⟩
    refine ⟨_, rfl, by omega, by omega, ?_⟩
    rw [Int.toNat_natCast]
    have eD1 : H1 D = some (.lst (nvs ms)) := b1 _ _ upd_same nsD.symm
    refine for_it walk_range (fun i σ H' => ∃ (v3 v4 v5 : Option V) (ns : List Nat), σ = [some (.ref s), some (.ref a), some (.ref D), v3, v4, v5] ∧ Strm H' s l ∧ But1 s H H' ∧ H' D = some (.lst (nvs ns)) ∧ ns.length = k ∧ ns.sum = n)
      ⟨none, none, none, ms, rfl, st1, (Same.but s1).trans b1, eD1, hl0, hs0⟩ (fun i σ H' _ _ => trivial) ?_ ?_
    · rintro i x σ H2 H3 hi ⟨v3, v4, v5, ns, rfl, st2, b2, eD, hl, hsum⟩ ⟨rfl, rfl⟩
      refine ⟨_, rfl, _, rfl, D, _, rfl, .inl (SqL.of eD), ?_⟩
      rw [nvs_length, hl]
      refine ⟨s, l, k, rfl, st2, by omega, by omega, fun H4 x hx st4 b4 => ?_⟩
      have eD4 := b4 _ _ eD nsD.symm
      refine ⟨_, rfl, _, rfl, D, _, rfl, .inl (SqL.of eD4), ?_⟩
      rw [nvs_length, hl]
      refine ⟨s, l, k, rfl, st4, by omega, by omega, fun H5 y hy st5 b5 => ?_⟩
      have eD5 := b5 _ _ eD4 nsD.symm
      have b25 := (b2.trans b4).trans b5
      refine ⟨_, rfl, _, rfl, D, _, _, _, rfl, rfl, SqL.of eD5, nvs_at (by omega), _, _, rfl, rfl, _, rfl, ?_⟩
      refine ite2 (fun c => ?_) (fun c => ?_)
      · have c' : ((sh ns x : Nat) : Int) > 0 := of_decide_eq_true c
        refine ⟨_, rfl, _, rfl, D, _, _, _, rfl, rfl, SqL.of eD5, nvs_at (by omega), _, _, rfl, rfl, _, rfl, _, rfl, D, _, _, x, rfl, rfl, eD5, ixN_nat (by rw [nvs_length]; omega), ?_⟩
        have e1 : (nvs ns).set x (.int (((sh ns x : Nat) : Int) - 1)) = nvs (ns.set x (sh ns x - 1)) := by
          have : (((sh ns x : Nat) : Int) - 1) = ((sh ns x - 1 : Nat) : Int) := by omega
          rw [this, nvs_set]
        have q1 : (upd H5 D (.lst ((nvs ns).set x (.int (((sh ns x : Nat) : Int) - 1))))) D = some (.lst (nvs (ns.set x (sh ns x - 1)))) := by rw [upd_same, e1]
        have hl1 : (ns.set x (sh ns x - 1)).length = k := by rw [List.length_set]; exact hl
        refine ⟨_, rfl, _, rfl, D, _, _, _, rfl, rfl, SqL.of q1, nvs_at (by omega), _, _, rfl, rfl, _, rfl, _, rfl, D, _, _, y, rfl, rfl, q1, ixN_nat (by rw [nvs_length]; omega), ?_⟩
        refine ⟨_, _, _, (ns.set x (sh ns x - 1)).set y (sh (ns.set x (sh ns x - 1)) y + 1), rfl, (st5.put nsD nlD).put nsD nlD, (b25.putnew hD _).putnew hD _, ?_, by rw [List.length_set]; exact hl1, ?_⟩
        · rw [upd_same, ← nvs_set (ns.set x (sh ns x - 1))]; rfl
        · have h1 := sum_set_nat (ns := ns) (i := x) (x := sh ns x - 1) (by omega)
          have h2 := sum_set_nat (ns := ns.set x (sh ns x - 1)) (i := y) (x := sh (ns.set x (sh ns x - 1)) y + 1) (by omega)
          omega
      · exact ⟨_, _, _, ns, rfl, st5, b25, eD5, hl, hsum⟩
    · rintro σ H2 ⟨v3, v4, v5, ns, rfl, st2, b2, eD, hl, hsum⟩
      refine ⟨_, rfl, D, _, rfl, SqL.of eD, fun p o hp ho => ?_⟩
      obtain ⟨p0, ps⟩ := b2.new st2 hp
      exact q _ p ns hl hsum (st2.same (same_new hp _)) (b2.same (same_new hp _)) p0 ps (Tn.new ho)
theorem scSeries : FnScope ["_law_stream_here", "_law_variants", "_law_buckets", "_law_many", "_law_found", "_law_turn"] ["_law_stream_here", "_law_variants", "_law_buckets", "_law_many"] (defScope sSeries) := ⟨rfl, rfl, rfl, by decide +kernel, rfl, by decide +kernel, by decide +kernel⟩
theorem ok_series {f : Addr} {fd : FuncData} (F : Fun K "_law_series" "_law_series" sSeries f fd) (N : Nm mg) (O1 : Ok P w K mg base "_law_next" ["_law_stream_here", "_law_many"] 1 spNext) (O2 : Ok P w K mg base "_law_allocation" ["_law_stream_here", "_law_variants", "_law_buckets"] 2 spLAlloc)
    (O3 : Ok P w K mg base "_law_near" ["_law_stream_here", "_law_allocation_here"] 2 spNear) : FnOk P w K mg base CX0 3 f fd ["_law_stream_here", "_law_variants", "_law_buckets", "_law_many"] spSeries := by
  refine F.ok scSeries (fun vs H Q E h => ?_) (fun cdv A outer s0 H vs Q E hr h => ?_)
  · obtain ⟨s, l, k, n, m, rfl, _⟩ := h; rfl
  · obtain ⟨s, l, k, n, m, rfl, st, k1, k4, n4, m1, m6, q⟩ := h
    have hr1 : Room 1 _ := hr.mono (by decide)
    refine ⟨_, (pss_cons (ps_set (i := 4) scSeries.nd rfl (Or.inl rfl) (pe_lst (pa_cons ((pe_ok O2 hr rfl (pa_cons (pv 0) (pa_cons (pv 1) (pa_cons (pv 2) pa_nil))))) pa_nil))) (pss_cons (ps_for PassesOwn.never rfl (pi_range1 rfl N.rng (pa_cons ((pe_op (op_sub) (pv 3) (pe_int))) pa_nil)) (pg_name (i := 5) scSeries.nd rfl (Or.inl rfl)) (pss_one (ps_if ((pt_cmpR (op_eq) ((pe_ok O1 hr1 rfl (pa_cons (pv 0) (pa_cons (pe_int) pa_nil)))) (pe_int) (nomark _))) (pss_one (ps_expr (pe_bm PySem.F.plainAttrs_list PySem.F.slot_list_append PySem.F.type_list_append mt_append (pv 4) (pa_cons ((pe_ok O3 hr rfl (pa_cons (pv 0) (pa_cons ((pe_ix (ix_listK (K := K) rfl) (pv 4) ((pe_ok O1 hr1 rfl (pa_cons (pv 0) (pa_cons ((pe_callB (call_lenK (K := K) rfl) rfl N.len PySem.boot_len (pa_cons (pv 4) pa_nil))) pa_nil)))) (fun _ _ => rfl))) pa_nil)))) pa_nil)))) (pss_one (ps_expr (pe_bm PySem.F.plainAttrs_list PySem.F.slot_list_append PySem.F.type_list_append mt_append (pv 4) (pa_cons ((pe_ok O2 hr rfl (pa_cons (pv 0) (pa_cons (pv 1) (pa_cons (pv 2) pa_nil))))) pa_nil))))))) (pss_one (ps_ret ((pe_callTy call_tuple_of rfl N.tup (by decide +kernel) (pa_cons (pv 4) pa_nil))))))), ?_⟩
    refine ⟨_, rfl, _, rfl, _, rfl, s, l, k, n, rfl, st, k1, k4, n4, fun H1 p ns hl hs st1 b1 hp np Tp => ?_⟩
    refine ⟨(by show 1 ≤ sizeLine; decide), fun D hD => ?_⟩
    have s1 := same_new hD (.lst [.ref p])
    obtain ⟨hD0, nDs⟩ := b1.new st1 hD
    have nsD : s ≠ D := nDs.symm
    have nlD : l ≠ D := by obtain ⟨ys, e⟩ := st.lst2; exact ne_of_none e hD0
    refine ⟨_, rfl, _, _, rfl, rfl, _, rfl, by omega, by omega, ?_⟩
    have em : ((m : Int) - 1).toNat = m - 1 := by omega
    have eD1 : (upd H1 D (.lst [.ref p])) D = some (.lst (rfs [p])) := upd_same
    refine for_it walk_range (fun i σ H' => ∃ (v5 : Option V) (as : List Addr) (rows : List (List Nat)), σ = [some (.ref s), some (.int k), some (.int n), some (.int m), some (.ref D), v5] ∧ Strm H' s l ∧ But1 s H H' ∧ H' D = some (.lst (rfs as)) ∧ Rs H' as rows ∧ rows.length = i + 1 ∧ (∀ r ∈ rows, r.length = k ∧ r.sum = n))
      ⟨none, [p], [ns], rfl, st1.same s1, b1.same s1, eD1, Rs.cons (Tp.same s1) Rs.nil, rfl, fun r hr => by rw [List.mem_singleton.mp hr]; exact ⟨hl, hs⟩⟩ (fun i σ H' _ _ => trivial) ?_ ?_
    · rintro i x σ H2 H3 hi ⟨v5, as, rows, rfl, st2, b2, eD, hR, hlen, hall⟩ ⟨rfl, rfl⟩
      have la := hR.len
      refine ⟨_, rfl, s, l, 2, rfl, st2, by omega, by omega, fun H4 z hz st4 b4 => ?_⟩
      obtain ⟨ys2, es2⟩ := st2.lst
      have eD4 := b4 _ _ eD nDs
      have hR4 := hR.but b4 es2
      have b24 := b2.trans b4
      -- what is done with a new allocation
      have put : ∀ (H5 : Hp) (u : Addr) (us : List Nat), us.length = k → us.sum = n → Strm H5 s l → But1 s H4 H5 → H4 u = none → Tn H5 u us → H5 D = some (.lst (rfs as)) ∧
          ∃ (v5 : Option V) (as' : List Addr) (rows' : List (List Nat)), ([some (.ref s), some (.int k), some (.int n), some (.int m), some (.ref D), some (.int (0 + (i : Int)))] : L2.St) = [some (.ref s), some (.int k), some (.int n), some (.int m), some (.ref D), v5] ∧
            Strm (upd H5 D (.lst (rfs as ++ [.ref u]))) s l ∧ But1 s H (upd H5 D (.lst (rfs as ++ [.ref u]))) ∧ (upd H5 D (.lst (rfs as ++ [.ref u]))) D = some (.lst (rfs as')) ∧ Rs (upd H5 D (.lst (rfs as ++ [.ref u]))) as' rows' ∧ rows'.length = i + 1 + 1 ∧ (∀ r ∈ rows', r.length = k ∧ r.sum = n) := by
        intro H5 u us ul us' st5 b5 hu Tu
        have eD5 := b5 _ _ eD4 nDs
        obtain ⟨ys4, es4⟩ := st4.lst
        have hR5 := hR4.but b5 es4
        have bb : But1 D H5 (upd H5 D (.lst (rfs as ++ [.ref u]))) := fun c o h hc => by rw [upd_ne hc]; exact h
        refine ⟨eD5, _, as ++ [u], rows ++ [us], rfl, st5.put nsD nlD, (b24.trans b5).putnew hD0 _, by rw [upd_same, rfs_snoc], (hR5.but bb eD5).snoc (bb.sh Tu (Tu.ne eD5 (by intro o x z; cases z))), by simp [hlen], fun r hr => ?_⟩
        rcases List.mem_append.mp hr with h | h
        · exact hall r h
        · rw [List.mem_singleton.mp h]; exact ⟨ul, us'⟩
      have lsm : (rfs as).length < sizeLine := by rw [rfs_length, la, hlen]; exact small1000 (by omega)
      refine ⟨rfl, _, rfl, ?_⟩
      refine ite2 (fun c => ?_) (fun c => ?_)
      · refine ⟨_, rfl, .inl ⟨rfl, _, SqL.of eD4⟩, _, rfl, _, rfl, _, rfl, _, rfl, D, _, rfl, .inl (SqL.of eD4), ?_⟩
        rw [rfs_length, la, hlen]
        refine ⟨s, l, i + 1, rfl, st4, by omega, by omega, fun H5 z2 hz2 st5 b5 => ?_⟩
        obtain ⟨ys4, es4⟩ := st4.lst
        have eD5 := b5 _ _ eD4 nDs
        have hR5 := hR4.but b5 es4
        obtain ⟨u, hu, Tu⟩ := hR5.get (i := z2) (by omega)
        obtain ⟨ul, us⟩ := hall _ (List.getElem_mem (by omega : z2 < rows.length))
        refine ⟨D, _, _, _, rfl, rfl, SqL.of eD5, atI_nat (rfs_get hu), s, l, u, _, k, n, rfl, st5, Tu, ul, us, k1, k4, fun H6 p2 ns2 hl2 hs2 st6 b6 hp2 np2 T2 => ?_⟩
        have b56 := b5.trans b6
        obtain ⟨eD6, fin⟩ := put H6 p2 ns2 hl2 hs2 st6 b56 (b5.new st5 hp2).1 T2
        exact ⟨D, rfs as, _, rfl, rfl, eD6, lsm, fin⟩
      · refine ⟨_, rfl, .inl ⟨rfl, _, SqL.of eD4⟩, _, rfl, _, rfl, _, rfl, s, l, k, n, rfl, st4, k1, k4, n4, fun H6 p2 ns2 hl2 hs2 st6 b6 hp2 np2 T2 => ?_⟩
        obtain ⟨eD6, fin⟩ := put H6 p2 ns2 hl2 hs2 st6 b6 hp2 T2
        exact ⟨D, rfs as, _, rfl, rfl, eD6, lsm, fin⟩
    · rintro σ H2 ⟨v5, as, rows, rfl, st2, b2, eD, hR, hlen, hall⟩
      refine ⟨_, rfl, D, _, rfl, .inl ⟨SqL.of eD, fun t ht => ?_⟩⟩
      exact q _ t rows ⟨⟨hall⟩, k1, k4, n4, by omega, by omega⟩ ⟨as, upd_same, hR.same (same_new ht _)⟩
end
end LW
end

section
set_option Elab.async false
set_option linter.all false
set_option autoImplicit false
set_option maxRecDepth 100000
namespace LW
open PySem L2 LM LX
section
variable {P : Program} {w : World} {K : PySem.W.Frag} {mg : Str → Option Value} {base : Heap}
theorem Same.put2 {H0 H : Hp} (s : Same H0 H) {x : Addr} (hx : H x = none) (o : HO) : Same H0 (upd H x o) := s.trans (same_new hx o)
theorem scSmall : FnScope ["_law_stream_here", "_law_variants", "_law_buckets", "_law_many"] ["_law_stream_here"] (defScope sSmall) := ⟨rfl, rfl, rfl, by decide +kernel, rfl, by decide +kernel, by decide +kernel⟩
theorem ok_small {f : Addr} {fd : FuncData} (F : Fun K "_law_small_series" "_law_small_series" sSmall f fd) (N : Nm mg) (O1 : Ok P w K mg base "_law_next" ["_law_stream_here", "_law_many"] 1 spNext)
    (O2 : Ok P w K mg base "_law_series" ["_law_stream_here", "_law_variants", "_law_buckets", "_law_many"] 3 spSeries) : FnOk P w K mg base CX0 4 f fd ["_law_stream_here"] spSmall := by
  refine F.ok scSmall (fun vs H Q E h => ?_) (fun cdv A outer s0 H vs Q E hr h => ?_)
  · obtain ⟨s, l, rfl, _⟩ := h; rfl
  · obtain ⟨s, l, rfl, st, q⟩ := h
    have hr1 : Room 1 _ := hr.mono (by decide)
    refine ⟨_, (pss_cons (ps_set (i := 1) scSmall.nd rfl (Or.inl rfl) ((pe_op (op_add) (pe_int) ((pe_ok O1 hr1 rfl (pa_cons (pv 0) (pa_cons (pe_int) pa_nil))))))) (pss_cons (ps_asg (pe_ix (ix_listK (K := K) rfl) (pe_lst (pa_cons (pe_tup (pa_cons (pe_int) (pa_cons (pe_int) pa_nil))) (pa_cons (pe_tup (pa_cons (pe_int) (pa_cons (pe_int) pa_nil))) (pa_cons (pe_tup (pa_cons (pe_int) (pa_cons (pe_int) pa_nil))) (pa_cons (pe_tup (pa_cons (pe_int) (pa_cons (pe_int) pa_nil))) (pa_cons (pe_tup (pa_cons (pe_int) (pa_cons (pe_int) pa_nil))) (pa_cons (pe_tup (pa_cons (pe_int) (pa_cons (pe_int) pa_nil))) (pa_cons (pe_tup (pa_cons (pe_int) (pa_cons (pe_int) pa_nil))) (pa_cons (pe_tup (pa_cons (pe_int) (pa_cons (pe_int) pa_nil))) pa_nil))))))))) ((pe_ok O1 hr1 rfl (pa_cons (pv 0) (pa_cons (pe_int) pa_nil)))) (fun _ _ => rfl)) (pg_tup rfl (pgs_cons (pg_name (i := 2) scSmall.nd rfl (Or.inl rfl)) (pgs_cons (pg_name (i := 3) scSmall.nd rfl (Or.inl rfl)) pgs_nil)))) (pss_one (ps_ret ((pe_ok O2 hr rfl (pa_cons (pv 0) (pa_cons (pv 1) (pa_cons (pv 2) (pa_cons ((pe_op (op_add) (pe_int) ((pe_ok O1 hr1 rfl (pa_cons (pv 0) (pa_cons (pv 3) pa_nil)))))) pa_nil)))))))))), ?_⟩
    refine ⟨_, rfl, s, l, 3, rfl, st, by omega, by omega, fun H1 z hz st1 b1 => ⟨_, _, rfl, rfl, ?_⟩⟩
    refine ⟨(by show 2 ≤ sizeLine; decide), fun t0 h0 => ⟨(by show 2 ≤ sizeLine; decide), fun t1 h1 => ⟨(by show 2 ≤ sizeLine; decide), fun t2 h2 => ⟨(by show 2 ≤ sizeLine; decide), fun t3 h3 => ⟨(by show 2 ≤ sizeLine; decide), fun t4 h4 => ⟨(by show 2 ≤ sizeLine; decide), fun t5 h5 => ⟨(by show 2 ≤ sizeLine; decide), fun t6 h6 => ⟨(by show 2 ≤ sizeLine; decide), fun t7 h7 => ⟨(by show 8 ≤ sizeLine; decide), fun D hD => ?_⟩⟩⟩⟩⟩⟩⟩⟩⟩
    have a0 := same_new h0 (.tup [.int 2, .int 6])
    have a1 := same_new h1 (.tup [.int 3, .int 4])
    have a2 := same_new h2 (.tup [.int 3, .int 3])
    have a3 := same_new h3 (.tup [.int 4, .int 3])
    have a4 := same_new h4 (.tup [.int 2, .int 5])
    have a5 := same_new h5 (.tup [.int 1, .int 6])
    have a6 := same_new h6 (.tup [.int 4, .int 2])
    have a7 := same_new h7 (.tup [.int 0, .int 3])
    have a8 := same_new hD (.lst [.ref t0, .ref t1, .ref t2, .ref t3, .ref t4, .ref t5, .ref t6, .ref t7])
    have b67 := a7.trans a8
    have b57 := a6.trans b67
    have b47 := a5.trans b57
    have b37 := a4.trans b47
    have b27 := a3.trans b37
    have b17 := a2.trans b27
    have b07 := a1.trans b17
    have aH := a0.trans b07
    have st2 := st1.same aH
    refine ⟨_, rfl, s, l, 8, rfl, st2, by omega, by omega, fun H4 y hy st4 b4 => ?_⟩
    have nt : ∀ {x : Addr} {o : HO}, o ≠ o → True := fun _ => trivial
    obtain ⟨ys2, es2⟩ := st2.lst
    have tn : ∀ {t : Addr} {xs : List V} {G : Hp}, G t = some (.tup xs) → Same G (upd _ D (.lst [.ref t0, .ref t1, .ref t2, .ref t3, .ref t4, .ref t5, .ref t6, .ref t7])) → H4 t = some (.tup xs) := fun h sm => b4 _ _ (sm _ _ h) (ne_of (sm _ _ h) es2 (by intro z; cases z))
    have eD : H4 D = some (.lst [.ref t0, .ref t1, .ref t2, .ref t3, .ref t4, .ref t5, .ref t6, .ref t7]) := b4 _ _ upd_same (fun z => by
      obtain ⟨ys, e⟩ := st1.lst
      have h := (a0.trans (a1.trans (a2.trans (a3.trans (a4.trans (a5.trans (a6.trans a7))))))) _ _ e
      rw [← z, hD] at h; cases h)
    obtain ⟨b, m, T, hT, eT, hb, hm1, hm2⟩ : ∃ (b m : Nat) (T : Addr), ([.ref t0, .ref t1, .ref t2, .ref t3, .ref t4, .ref t5, .ref t6, .ref t7] : List V)[y]? = some (.ref T) ∧ H4 T = some (.tup [.int b, .int m]) ∧ b ≤ 4 ∧ 1 ≤ m ∧ m ≤ 6 := by
      match y, hy with
      | 0, _ => exact ⟨2, 6, t0, rfl, tn upd_same b07, by decide, by decide, by decide⟩
      | 1, _ => exact ⟨3, 4, t1, rfl, tn upd_same b17, by decide, by decide, by decide⟩
      | 2, _ => exact ⟨3, 3, t2, rfl, tn upd_same b27, by decide, by decide, by decide⟩
      | 3, _ => exact ⟨4, 3, t3, rfl, tn upd_same b37, by decide, by decide, by decide⟩
      | 4, _ => exact ⟨2, 5, t4, rfl, tn upd_same b47, by decide, by decide, by decide⟩
      | 5, _ => exact ⟨1, 6, t5, rfl, tn upd_same b57, by decide, by decide, by decide⟩
      | 6, _ => exact ⟨4, 2, t6, rfl, tn upd_same b67, by decide, by decide, by decide⟩
      | 7, _ => exact ⟨0, 3, t7, rfl, tn upd_same a8, by decide, by decide, by decide⟩
      | y + 8, h => omega
    refine ⟨D, _, _, _, rfl, rfl, SqL.of eD, atI_nat hT, ?_⟩
    refine g_two rfl eT ?_
    refine ⟨_, rfl, _, rfl, _, rfl, _, rfl, _, rfl, s, l, m, rfl, st4, by omega, by omega, fun H5 x hx st5 b5 => ⟨_, _, rfl, rfl, ?_⟩⟩
    have e1 : (2 : Int) + (z : Int) = ((2 + z : Nat) : Int) := by omega
    have e2 : (1 : Int) + (x : Int) = ((1 + x : Nat) : Int) := by omega
    refine ⟨s, l, 2 + z, b, 1 + x, ?_, st5, by omega, by omega, hb, by omega, by omega, fun H6 A rows g t => q H6 A rows _ _ g t⟩
    show [V.ref s, V.int ((2 : Int) + (z : Int)), V.int (b : Int), V.int ((1 : Int) + (x : Int))] = _
    rw [e1, e2]
end
end LW
end

section
set_option Elab.async false
set_option linter.all false
set_option autoImplicit false
set_option maxRecDepth 100000
namespace LW
open PySem L2 LM LX
def spLaw (K : PySem.W.Frag) : Sp := fun vs H Q _ => ∃ (a : Addr) (ns : List Int), vs = [.ref a] ∧ SqL K H a (ns.map V.int) ∧ ∀ H', Q (.bl true) H'
theorem Tt.len {H : Hp} {A : Addr} {rows : List (List Nat)} (h : Tt H A rows) : ∃ as, H A = some (.tup (rfs as)) ∧ (rfs as).length = rows.length ∧ Rs H as rows := by
  obtain ⟨as, h1, h2⟩ := h
  exact ⟨as, h1, by rw [rfs_length, h2.len], h2⟩
theorem rev_get {α : Type} {l : List α} {i : Nat} (h : i < l.length) : l.reverse[i]? = l[l.length - 1 - i]? := List.getElem?_reverse h
theorem Rs.rev {H : Hp} {as : List Addr} {rows : List (List Nat)} (h : Rs H as rows) : Rs H as.reverse rows.reverse := by
  refine ⟨by simp [h.len], fun i a e => ?_⟩
  have hi : i < as.length := by have := (List.getElem?_eq_some_iff.mp e).1; simpa using this
  rw [rev_get hi] at e
  obtain ⟨r, h1, h2⟩ := h.at_ _ a e
  exact ⟨r, by rw [rev_get (by rw [← h.len]; exact hi), ← h.len]; exact h1, h2⟩
theorem Gd.rev {k n : Nat} {rows : List (List Nat)} (g : Gd k n rows) : Gd k n rows.reverse := ⟨⟨fun a ha => g.al.all a (List.mem_reverse.mp ha)⟩, g.k1, g.k4, g.n4, by simpa using g.r1, by simpa using g.r6⟩
theorem least_tbl {k n L : Nat} {a : List Nat} {r rows : List (List Nat)} (A : Alike k n (a :: r)) (h : Least L a r rows) : Tbl k n (a :: r) (sortedA a :: rows) := by
  obtain ⟨hal, has⟩ := A.all a (by simp)
  have R := sortedA_ok hal has
  exact Tbl.of_chain A.tail R (by simp [has]) (search_sound A.tail R (by simp [has]) h.at_)
theorem least_chgs {k n L : Nat} {a : List Nat} {r rows : List (List Nat)} (A : Alike k n (a :: r)) (h : Least L a r rows) : (∀ c ∈ chgs n (sortedA a :: rows), c ≤ L) ∧ (L = 0 ∨ ∃ c ∈ chgs n (sortedA a :: rows), c = L) := by
  obtain ⟨hal, has⟩ := A.all a (by simp)
  have T := least_tbl A h
  have e : chgs n (sortedA a :: rows) = finalC (List.replicate a.sum 0) (sortedA a) rows := by
    rw [has]
    refine chgs_final fun x hx => ?_
    obtain ⟨i, hi, rfl⟩ := List.mem_iff_getElem.mp hx
    have := (T.ok i (by rw [← T.len]; exact hi)).len
    rw [rowAt_eq hi] at this
    exact this
  have := h.max_eq A
  rw [← e] at this
  exact this
/-- the answers of law, for the series at hand -/
theorem maxT_fin {K : PySem.W.Frag} {H : Hp} {t : Addr} {cs : List Nat} {L : Nat} {Q : VK} (ht : SqT K H t (nvs cs ++ [.int 0])) (h1 : ∀ c ∈ cs, c ≤ L) (h2 : L = 0 ∨ ∃ c ∈ cs, c = L) (q : Q (.int (L : Nat)) H) : LX.rMaxT K [.ref t] H Q := by
  refine ⟨t, ints' cs ++ [0], rfl, by rw [List.map_append, ← nvs_ints]; exact ht, by simp, fun m hm hmx => ?_⟩
  have e : m = (L : Int) := by
    have hL : (L : Int) ∈ ints' cs ++ [0] := by
      rcases h2 with h2 | ⟨c, hc, h2⟩
      · rw [h2]; simp
      · rw [← h2]; exact List.mem_append_left _ (List.mem_map_of_mem hc)
    have a1 := hmx _ hL
    rcases List.mem_append.mp hm with hm | hm
    · obtain ⟨c, hc, rfl⟩ := List.mem_map.mp hm
      have := h1 c hc
      omega
    · have : m = 0 := by simpa using hm
      omega
  rw [e]; exact q
theorem cat_fin {K : PySem.W.Frag} {H : Hp} {p z : Addr} {cs : List Nat} {R : VK} (hp : SqT K H p (nvs cs)) (hz : SqT K H z [.int 0]) (hl : cs.length ≤ 20) (r : ∀ t H', Same H H' → SqT K H' t (nvs cs ++ [.int 0]) → R (.ref t) H') : rCatA K (.ref p) (.ref z) H R := by
  refine ⟨p, z, nvs cs, [.int 0], rfl, rfl, hp, hz, by rw [nvs_length]; exact small (by simp; omega), fun e => r z H (Same.refl _) (by rw [e]; exact hz), (fun _ e => by cases e), fun _ _ t ht => r t _ (same_new ht _) (SqT.of upd_same)⟩
section
variable {P : Program} {w : World} {K : PySem.W.Frag} {mg : Str → Option Value} {base : Heap}
theorem scLaw : FnScope ["_law_script", "_law_stream_here", "_law_allocations", "_law_told", "_law_limit", "_law_history"] ["_law_script"] (defScope sLaw) := ⟨rfl, rfl, rfl, by decide +kernel, rfl, by decide +kernel, by decide +kernel⟩
theorem ok_law {f : Addr} {fd : FuncData} (F : Fun K "law" "law" sLaw f fd) (N : Nm mg) (O1 : Ok P w K mg base "_law_stream" ["_law_script"] 1 (spStream K)) (O2 : Ok P w K mg base "_law_small_series" ["_law_stream_here"] 4 spSmall)
    (O3 : Ok P w K mg base "least_limit" ["allocations"] 36 spLeastL) (O4 : Ok P w K mg base "_law_is_integer" ["_law_actual"] 1 spWhole) (O5 : Ok P w K mg base "_law_equal" ["_law_actual", "_law_due"] 4 (spEq 2)) (O6 : Ok P w K mg base "_law_equal" ["_law_actual", "_law_due"] 2 (spEq 0))
    (O7 : Ok P w K mg base "within" ["allocations", "limit"] 36 spHist) (O8 : Ok P w K mg base "changes_of" ["allocations", "history"] 6 spChgOf) (O9 : Ok P w K mg base "total" ["allocations"] 5 spTotalOf) (O10 : Ok P w K mg base "calm_history" ["allocations"] 5 spCalmH) :
    FnOk P w K mg base CX0 37 f fd ["_law_script"] (spLaw K) := by
  refine F.ok scLaw (fun vs H Q E h => ?_) (fun cdv A0 outer s0 H vs Q E hr h => ?_)
  · obtain ⟨a, ns, rfl, _⟩ := h; rfl
  · obtain ⟨a0, ns, rfl, hS, q⟩ := h
    have hr1 : Room 1 _ := hr.mono (by decide)
    have hr2 : Room 2 _ := hr.mono (by decide)
    have hr4 : Room 4 _ := hr.mono (by decide)
    have hr5 : Room 5 _ := hr.mono (by decide)
    have hr6 : Room 6 _ := hr.mono (by decide)
    refine ⟨_, (pss_cons (ps_set (i := 1) scLaw.nd rfl (Or.inl rfl) ((pe_ok O1 hr1 rfl (pa_cons (pv 0) pa_nil)))) (pss_cons (ps_set (i := 2) scLaw.nd rfl (Or.inl rfl) ((pe_ok O2 hr4 rfl (pa_cons (pv 1) pa_nil)))) (pss_cons (ps_set (i := 3) scLaw.nd rfl (Or.inl rfl) ((pe_ok O3 hr rfl (pa_cons (pv 2) pa_nil)))) (pss_cons (ps_if (PW.pt (pw_or (pt_not (pt_val (pe_callB call_isi rfl N.isi PyProof.Rows.boot_isinstance (pa_cons (pv 3) (pa_cons (pe_bty rfl N.tup PyProof.Rows.boot_tuple (by decide) (by decide)) pa_nil))))) (pw_or1 (pt_cmpR (op_ne) ((pe_callB (call_lenK (K := K) rfl) rfl N.len PySem.boot_len (pa_cons (pv 3) pa_nil))) (pe_int) (nomark _))))) (pss_one (ps_ret (pe_bl))) pss_nil) (pss_cons (ps_asg (pv 3) (pg_tup rfl (pgs_cons (pg_name (i := 4) scLaw.nd rfl (Or.inl rfl)) (pgs_cons (pg_name (i := 5) scLaw.nd rfl (Or.inl rfl)) pgs_nil)))) (pss_cons (ps_if (PW.pt (pw_or (pt_not (pt_val (pe_ok O4 hr1 rfl (pa_cons (pv 4) pa_nil)))) (pw_or1 (pt_not (pt_val (pe_ok O5 hr4 rfl (pa_cons ((pe_ok O7 hr rfl (pa_cons (pv 2) (pa_cons (pv 4) pa_nil)))) (pa_cons (pv 5) pa_nil)))))))) (pss_one (ps_ret (pe_bl))) pss_nil) (pss_cons (ps_if (PW.pt (pw_and (pt_cmpR (op_gt) (pv 4) (pe_int) (nomark _)) (pw_and1 (pt_cmpR (op_notN) ((pe_ok O7 hr rfl (pa_cons (pv 2) (pa_cons ((pe_op (op_sub) (pv 4) (pe_int))) pa_nil)))) (pe_non) (nomark _))))) (pss_one (ps_ret (pe_bl))) pss_nil) (pss_cons (ps_if (PW.pt (pw_or (pt_cmpR (op_ne) ((pe_callB (LX.cr_maxT rfl) rfl N.max (by decide +kernel) (pa_cons ((pe_op op_catA ((pe_ok O8 hr6 rfl (pa_cons (pv 2) (pa_cons (pv 5) pa_nil)))) (pe_tup (pa_cons (pe_int) pa_nil)))) pa_nil))) (pv 4) (nomark _)) (pw_or1 (pt_cmpR (op_lt) ((pe_op (op_mul) (pv 4) ((pe_callB (cr_sumTK (K := K) rfl rfl) rfl N.sum (by decide +kernel) (pa_cons ((pe_ix (ix_tupK (K := K) rfl) (pv 2) (pe_int) (fun _ _ => rfl))) pa_nil))))) ((pe_ok O9 hr5 rfl (pa_cons (pv 2) pa_nil))) (nomark _))))) (pss_one (ps_ret (pe_bl))) pss_nil) (pss_cons (ps_if (PW.pt (pw_or (pt_cmpR (op_ge) (pv 4) ((pe_callB (call_lenK (K := K) rfl) rfl N.len PySem.boot_len (pa_cons (pv 2) pa_nil))) (nomark _)) (pw_or1 (pt_cmpR (op_ne) ((pe_cmpR (op_eq) (pv 4) (pe_int) (nomark _))) ((pe_cmpR (op_eq) ((pe_ok O9 hr5 rfl (pa_cons (pv 2) pa_nil))) (pe_int) (nomark _))) (nomark _))))) (pss_one (ps_ret (pe_bl))) pss_nil) (pss_cons (ps_if ((pt_cmpR (op_ne) ((pe_cmpR (op_le) (pv 4) (pe_int) (nomark _))) ((pe_cmpR (op_notN) ((pe_ok O10 hr5 rfl (pa_cons (pv 2) pa_nil))) (pe_non) (nomark _))) (nomark _))) (pss_one (ps_ret (pe_bl))) pss_nil) (pss_one (ps_ret ((pe_ok O6 hr2 rfl (pa_cons ((pe_ix (ix_tupK (K := K) rfl) ((pe_ok O3 hr rfl (pa_cons (pe_revT (pv 2)) pa_nil))) (pe_int) (fun _ _ => rfl))) (pa_cons (pv 4) pa_nil)))))))))))))))), ?_⟩
    refine ⟨_, rfl, a0, ns, rfl, hS, fun H1 s l s1 hs st => ?_⟩
    refine ⟨_, rfl, s, l, rfl, st, fun H2 A all k n g hA => ?_⟩
    obtain ⟨a, r, rfl, ha, hsum⟩ := g.hd
    have gal := g.al
    have g6 := g.r6
    have g3 := g.n4
    have g4 := g.k4
    refine ⟨_, rfl, A, a, r, k, n, rfl, hA, g, fun H3 T U L rows s3 Le eT hU => ?_⟩
    have hA3 := hA.same s3
    -- the told pair
    refine ⟨_, rfl, _, _, _, _, true, rfl, .ty _, .base (.tup eT), kit_ty (by decide +kernel), _, rfl, iteF ?_⟩
    refine ⟨_, rfl, T, _, rfl, .inr (SqT.of eT), rfl, _, rfl, iteNS rfl ?_⟩
    refine ⟨_, rfl, ?_⟩
    refine g_two rfl eT ?_
    have L9 : L ≤ r.length := Le.lt gal
    have lr : r.length ≤ 5 := by simp at g6; omega
    have Tb := least_tbl gal Le
    have lrows : (sortedA a :: rows).length = (a :: r).length := Tb.len
    have rl : ∀ x ∈ sortedA a :: rows, x.length ≤ 20 := fun x hx => by
      obtain ⟨i, hi, rfl⟩ := List.mem_iff_getElem.mp hx
      have := (Tb.ok i (by rw [← lrows]; exact hi)).len
      rw [rowAt_eq hi] at this
      omega
    -- an integer, and what within tells
    refine ⟨_, rfl, _, rfl, _, rfl, iteF ?_⟩
    refine ⟨_, rfl, _, rfl, A, a, r, k, n, L, rfl, hA3, g, by omega, fun H4 s4 e => absurd e Le.ne, fun H4 V1 rows' s4 e hV => ?_⟩
    have er : rows' = rows := Option.some.inj (e.symm.trans Le.at_)
    subst er
    refine ⟨_, rfl, _, _, rfl, ⟨V1, U, _, rfl, rfl, hV, hU.same s4, by rw [lrows]; simp; omega, rl⟩, fun H5 s5 => ⟨_, rfl, iteF ?_⟩⟩
    have s35 := s4.trans s5
    obtain ⟨as, hAs, las, hRs⟩ := hA3.len
    obtain ⟨b, q', erev⟩ : ∃ b q', (a :: r).reverse = b :: q' := by
      cases e : (a :: r).reverse with
      | nil => simp at e
      | cons b q' => exact ⟨b, q', rfl⟩
    have grev : Gd k n (b :: q') := by rw [← erev]; exact g.rev
    have hrev : ∀ (G : Hp) (t : Addr), Same H3 G → G t = none → Tt (upd G t (.tup (rfs as).reverse)) t (b :: q') := fun G t sG ht => by
      refine ⟨as.reverse, by rw [upd_same]; simp [rfs], ?_⟩
      rw [← erev]
      exact (hRs.same (sG.trans (same_new ht _))).rev
    obtain ⟨p0, as', eas, hT0, hR'⟩ := hRs.uncons
    have at0 : atI (rfs as) 0 = some (.ref p0) := by rw [eas]; exact atI_nat (j := 0) rfl
    have tot := Le.total gal
    obtain ⟨c1, c2⟩ := least_chgs gal Le
    -- the limit before it
    refine ⟨_, rfl, _, _, rfl, rfl, _, rfl, ?_⟩
    refine ite2 (fun c => ?ga) (fun c => ?gb)
    case' ga =>
      have cL : (L : Int) > 0 := of_decide_eq_true c
      have eL : (L : Int) - 1 = ((L - 1 : Nat) : Int) := by omega
      refine ⟨_, rfl, _, rfl, _, _, rfl, rfl, A, a, r, k, n, L - 1, (by show [V.ref A, V.int ((L : Int) - 1)] = _; rw [eL]), hA3.same s35, g, by omega, fun H6 s6 e => ⟨rfl, _, rfl, iteF ?_⟩, fun H6 V2 rows2 s6 e _ => absurd e (by rw [Le.no (L - 1) (by omega)]; simp)⟩
      have s36 := s35.trans s6
    case' gb =>
      refine iteF ?_
      obtain ⟨H6, e6, s36⟩ : ∃ H6, H6 = H5 ∧ Same H3 H6 := ⟨_, rfl, s35⟩
      rw [← e6]
    all_goals
      clear c
      -- the greatest number of changes
      refine ⟨_, rfl, _, rfl, A, U, a :: r, sortedA a :: rows', k, n, rfl, hA3.same s36, hU.same s36, g, Tb, fun H7 p s7 hp Tp => ?_⟩
      refine ⟨(by show 1 ≤ sizeLine; decide), fun z hz => ?_⟩
      have sz := same_new hz (.tup [.int 0])
      refine cat_fin (Tp.same sz).sq (SqT.of upd_same) (by rw [chgs_length]; omega) fun t H8 s8 ht => ?_
      unfold tNil
      refine maxT_fin ht c1 c2 ?_
      have s38 := s36.trans (s7.trans (sz.trans s8))
      refine ⟨_, rfl, rfl, _, rfl, iteNS rfl ?_⟩
      -- the limit times the buckets
      refine ⟨_, rfl, _, rfl, A, _, _, _, rfl, rfl, SqT.of (s38 _ _ hAs), at0, p0, _, rfl, (by rw [← nvs_map]; exact (hT0.same s38).sq), _, _, rfl, rfl, .inl ⟨by omega, by omega⟩, _, rfl, A, a, r, k, n, rfl, hA3.same s38, g, fun H9 s9 => ⟨_, _, rfl, rfl, _, rfl, ?_⟩⟩
      rw [sum_ints, hsum]
      have em : (L : Int) * (n : Int) = ((L * n : Nat) : Int) := (Int.natCast_mul L n).symm
      refine ite2 (fun c => absurd (of_decide_eq_true c) (by rw [em]; omega)) (fun _ => ?_)
      have s39 := s38.trans s9
      -- the limit, the length; nothing moves
      refine ⟨_, rfl, _, rfl, A, _, rfl, .inr (SqT.of (s39 _ _ hAs)), _, _, rfl, rfl, _, rfl, ?_⟩
      refine ite2 (fun c => absurd (of_decide_eq_true c) (by rw [las, List.length_cons]; omega)) (fun _ => ?_)
      refine ⟨_, rfl, rfl, _, rfl, A, a, r, k, n, rfl, hA3.same s39, g, fun H11 s11 => ⟨rfl, rfl, _, rfl, ?_⟩⟩
      have ez : decide (V.int (L : Int) = V.int 0) = decide (V.int ((totalA a r : Nat) : Int) = V.int 0) := by
        have := Le.zero gal
        by_cases h : L = 0
        · have h2 := this.mp h
          rw [h, h2]
        · have h2 : ¬ totalA a r = 0 := fun z => h (this.mpr z)
          rw [decide_eq_false fun z => h (by have := V.int.inj z; omega), decide_eq_false fun z => h2 (by have := V.int.inj z; omega)]
      refine iteNS (congrArg V.bl ez) ?_
      have s311 := s39.trans s11
      -- a calm history
      refine ⟨_, rfl, _, _, rfl, rfl, _, rfl, A, a, r, k, n, rfl, hA3.same s311, g, fun H10 s10 => ⟨fun calm pp => ⟨rfl, rfl, _, rfl, ?_⟩, fun ncalm => ⟨rfl, rfl, _, rfl, ?_⟩⟩⟩
      · have s310 := s311.trans s10
        have h1 := (Le.calm gal).mpr calm
        refine iteNS (congrArg V.bl (decide_eq_true (by omega))) ?_
        refine ⟨_, rfl, A, rfs as, rfl, SqT.of (s310 _ _ hAs), fun t ht => ?_⟩
        refine ⟨t, b, q', k, n, rfl, hrev H10 t s310 ht, grev, fun H12 T2 U2 L2 rows2 s12 Le2 eT2 hU2 => ?_⟩
        refine ⟨T2, _, _, _, rfl, rfl, SqT.of eT2, atI_nat (j := 0) rfl, _, rfl, _, _, rfl, ⟨(L : Int), by rw [Le.rev gal erev Le2], rfl⟩, fun H13 s13 => q _⟩
      · have s310 := s311.trans s10
        have h1 : ¬ L ≤ 1 := fun z => ncalm ((Le.calm gal).mp z)
        refine iteNS (congrArg V.bl (decide_eq_false (by omega))) ?_
        refine ⟨_, rfl, A, rfs as, rfl, SqT.of (s310 _ _ hAs), fun t ht => ?_⟩
        refine ⟨t, b, q', k, n, rfl, hrev H10 t s310 ht, grev, fun H12 T2 U2 L2 rows2 s12 Le2 eT2 hU2 => ?_⟩
        refine ⟨T2, _, _, _, rfl, rfl, SqT.of eT2, atI_nat (j := 0) rfl, _, rfl, _, _, rfl, ⟨(L : Int), by rw [Le.rev gal erev Le2], rfl⟩, fun H13 s13 => q _⟩
end
end LW
end

section
set_option Elab.async false
set_option linter.all false
set_option autoImplicit false
set_option maxRecDepth 100000
namespace LW
open PySem L2 LM LX
/-! ### what the top has left -/
def DefE (K : PySem.W.Frag) (mg : Str → Option Value) (x qual : Str) (st : Stmt) : Prop := ∃ f fd, Fun K x qual st f fd ∧ mg x = some (.ref f)
abbrev DefX {K : PySem.W.Frag} {h : Heap} (_ : K.In h) (mg : Str → Option Value) (x qual : Str) (st : Stmt) : Prop := DefE K mg x qual st
def DefM (K : PySem.W.Frag) (C : Addr) (m qual : Str) (st : Stmt) : Prop := ∃ f fd, Fun K m qual st f fd ∧ Meth K C m f
def DefI (K : PySem.W.Frag) (C : Addr) (qual : Str) (st : Stmt) : Prop := ∃ f fd, Fun K "__init__" qual st f fd ∧ Mk K C f
section
variable {K : PySem.W.Frag} {h : Heap} {mg : Str → Option Value}
theorem def_mk {x qual : Str} {st : Stmt} {f : Addr} {od an : Option Addr} {sl : Array (Option Value)} {oc kV dc pm cd ct : Value} (X : K.In h) (G : h.Ns mainGlobals mg)
    (a : PySem.W.nsIn K mainGlobals x = some (some (.ref f))) (l : K.lookup f = some ⟨oc, od, .func (PySem.W.fnOf x qual (defArgs st) (defBody st) (defScope st) .none kV dc pm an cd ct), sl⟩) (c : PySem.W.codeIn K cd qual = true) (k : PySem.W.keepIn K (.ref f) = true) : DefE K mg x qual st :=
  ⟨f, _, fun_mk (st := st) l c k, PySem.W.mg_of X G a⟩
theorem defM_mk {m qual : Str} {st : Stmt} {C f : Addr} {od an : Option Addr} {sl : Array (Option Value)} {oc kV dc pm cd ct : Value}
    (a : PySem.W.findIn K (.ref C) m = some (some (.ref f))) (i : PySem.W.isFn K (.ref f) = true) (l : K.lookup f = some ⟨oc, od, .func (PySem.W.fnOf m qual (defArgs st) (defBody st) (defScope st) .none kV dc pm an cd ct), sl⟩) (c : PySem.W.codeIn K cd qual = true) (k : PySem.W.keepIn K (.ref f) = true) : DefM K C m qual st :=
  ⟨f, _, fun_mk (st := st) l c k, ⟨a, i, k⟩⟩
theorem defI_mk {qual : Str} {st : Stmt} {C f : Addr} {od an : Option Addr} {sl : Array (Option Value)} {oc kV dc pm cd ct : Value} (mk : PySem.W.makesIn K C = true) (kc : PySem.W.keepIn K (.ref C) = true)
    (a : PySem.W.findIn K (.ref C) "__init__" = some (some (.ref f))) (i : PySem.W.isFn K (.ref f) = true) (l : K.lookup f = some ⟨oc, od, .func (PySem.W.fnOf "__init__" qual (defArgs st) (defBody st) (defScope st) .none kV dc pm an cd ct), sl⟩) (c : PySem.W.codeIn K cd qual = true) (k : PySem.W.keepIn K (.ref f) = true) : DefI K C qual st :=
  ⟨f, _, fun_mk (st := st) l c k, ⟨mk, a, i, kc⟩⟩
theorem ci_mk {x : Str} {i : Int} {t : Nat} (X : K.In h) (G : h.Ns mainGlobals mg) (a : PySem.W.nsIn K mainGlobals x = some (some (.int i t))) : Ci mg x i := ⟨_, PySem.W.mg_of X G a, t, rfl⟩
theorem clsS_mk {C : Addr} (X : K.In h) (G : h.Ns mainGlobals mg) (aC : PySem.W.nsIn K mainGlobals "Step" = some (some (.ref C))) (pg : PySem.W.plainGet K C Str.empty = true) (hd : PySem.W.hasDictIn K C = true) (po : PySem.W.plainOver K C = true)
    (sa : PySem.W.findIn K (.ref C) "__setattr__" = some (some (.builtin "object.__setattr__"))) (n1 : PySem.W.findIn K (.ref C) "leaving" = some none) (n2 : PySem.W.findIn K (.ref C) "entering" = some none) (n3 : PySem.W.findIn K (.ref C) "assignment" = some none)
    (n4 : PySem.W.findIn K (.ref C) "free" = some none) (n5 : PySem.W.findIn K (.ref C) "waiting" = some none) : TxtS K mg C := ⟨⟨pg, hd, po, sa⟩, n1, n2, n3, n4, n5, PySem.W.mg_of X G aC⟩
theorem clsD_mk {C : Addr} (X : K.In h) (G : h.Ns mainGlobals mg) (aC : PySem.W.nsIn K mainGlobals "Search" = some (some (.ref C))) (pg : PySem.W.plainGet K C Str.empty = true) (hd : PySem.W.hasDictIn K C = true) (po : PySem.W.plainOver K C = true)
    (sa : PySem.W.findIn K (.ref C) "__setattr__" = some (some (.builtin "object.__setattr__"))) (n1 : PySem.W.findIn K (.ref C) "allocations" = some none) (n2 : PySem.W.findIn K (.ref C) "limit" = some none) (n3 : PySem.W.findIn K (.ref C) "failed" = some none)
    (n4 : PySem.W.findIn K (.ref C) "rows" = some none) : TxtD K mg C := ⟨⟨pg, hd, po, sa⟩, n1, n2, n3, n4, PySem.W.mg_of X G aC⟩
theorem fun_binds {x qual : Str} {st : Stmt} {ps : List Str} {f : Addr} {fd : FuncData} (F : Fun K x qual st f fd)
    (h : ∀ (kV doc pm : Value) (an : Option Addr) (cdv ct : Value) (us : List Value), us.length = ps.length → bindArgs (PySem.W.fnOf x qual (defArgs st) (defBody st) (defScope st) .none kV doc pm an cdv ct) ⟨us, []⟩ = pure (ps.zip us)) : Binds K fd ps [] := F.binds h
end
theorem nm_mk {K : PySem.W.Frag} {h : Heap} {mg : Str → Option Value} (X : K.In h) (G : h.Ns mainGlobals mg)
    (z_isi : PySem.W.nsIn K mainGlobals "isinstance" = some none)
    (z_int : PySem.W.nsIn K mainGlobals "int" = some none)
    (z_bool : PySem.W.nsIn K mainGlobals "bool" = some none)
    (z_str : PySem.W.nsIn K mainGlobals "str" = some none)
    (z_tup : PySem.W.nsIn K mainGlobals "tuple" = some none)
    (z_lst : PySem.W.nsIn K mainGlobals "list" = some none)
    (z_len : PySem.W.nsIn K mainGlobals "len" = some none)
    (z_all : PySem.W.nsIn K mainGlobals "all" = some none)
    (z_any : PySem.W.nsIn K mainGlobals "any" = some none)
    (z_sum : PySem.W.nsIn K mainGlobals "sum" = some none)
    (z_zip : PySem.W.nsIn K mainGlobals "zip" = some none)
    (z_rng : PySem.W.nsIn K mainGlobals "range" = some none)
    (z_enu : PySem.W.nsIn K mainGlobals "enumerate" = some none)
    (z_srt : PySem.W.nsIn K mainGlobals "sorted" = some none)
    (z_max : PySem.W.nsIn K mainGlobals "max" = some none)
    (z_abs : PySem.W.nsIn K mainGlobals "abs" = some none)
    : Nm mg := ⟨PySem.W.mg_none_of X G z_isi, PySem.W.mg_none_of X G z_int, PySem.W.mg_none_of X G z_bool, PySem.W.mg_none_of X G z_str, PySem.W.mg_none_of X G z_tup, PySem.W.mg_none_of X G z_lst, PySem.W.mg_none_of X G z_len, PySem.W.mg_none_of X G z_all, PySem.W.mg_none_of X G z_any, PySem.W.mg_none_of X G z_sum, PySem.W.mg_none_of X G z_zip, PySem.W.mg_none_of X G z_rng, PySem.W.mg_none_of X G z_enu, PySem.W.mg_none_of X G z_srt, PySem.W.mg_none_of X G z_max, PySem.W.mg_none_of X G z_abs⟩
set_option maxHeartbeats 0 in
theorem all_ok {l : PySem.W.OpenLaw} {w : World} {K : PySem.W.Frag} {mg : Str → Option Value} {fa C D : Addr} (hfa : mg "law" = some (.ref fa)) (N : Nm mg)
    (c_MOST_VARIANTS : Ci mg "MOST_VARIANTS" 5)
    (c_MOST_BUCKETS : Ci mg "MOST_BUCKETS" 20)
    (c_MOST_ALLOCATIONS : Ci mg "MOST_ALLOCATIONS" 10)
    (c_MOST_SEARCHED : Ci mg "MOST_SEARCHED" 6)
    (c_MOST_LIMIT : Ci mg "MOST_LIMIT" 9)
    (d_is_whole : DefE K mg "is_whole" "is_whole" sWhole)
    (d_is_between : DefE K mg "is_between" "is_between" sBetween)
    (d_is_allocation : DefE K mg "is_allocation" "is_allocation" sIsAlloc)
    (d_transfer_of : DefE K mg "transfer_of" "transfer_of" sTransf)
    (d_is_assignment : DefE K mg "is_assignment" "is_assignment" sIsAssign)
    (d_counts_of : DefE K mg "counts_of" "counts_of" sCounts)
    (d_is_series : DefE K mg "is_series" "is_series" sIsSeries)
    (d_check_series : DefE K mg "check_series" "check_series" sChkSeries)
    (d_is_table : DefE K mg "is_table" "is_table" sIsTable)
    (d_check_table : DefE K mg "check_table" "check_table" sChkTable)
    (d_is_needless : DefE K mg "is_needless" "is_needless" sNeedless)
    (d_is_least : DefE K mg "is_least" "is_least" sIsLeast)
    (d_steps_of : DefE K mg "steps_of" "steps_of" sSteps)
    (d_total_of : DefE K mg "total_of" "total_of" sTotalOf)
    (d_total : DefE K mg "total" "total" sTotal)
    (d_decreases_of : DefE K mg "decreases_of" "decreases_of" sDecs)
    (d_overdrawn_in : DefE K mg "overdrawn_in" "overdrawn_in" sOver)
    (d_sorted_assignment : DefE K mg "sorted_assignment" "sorted_assignment" sSorted)
    (d_wrong_step_in : DefE K mg "wrong_step_in" "wrong_step_in" sWrong)
    (d_changes_in : DefE K mg "changes_in" "changes_in" sChgIn)
    (d_changes_of : DefE K mg "changes_of" "changes_of" sChgOf)
    (d_calm_change : DefE K mg "calm_change" "calm_change" sCalmChg)
    (d_calm_history : DefE K mg "calm_history" "calm_history" sCalmH)
    (d_history_within : DefE K mg "history_within" "history_within" sHist)
    (d_check_search : DefE K mg "check_search" "check_search" sChkSearch)
    (d_within : DefE K mg "within" "within" sWithin)
    (d_least_limit : DefE K mg "least_limit" "least_limit" sLeastL)
    (d__law_stream : DefE K mg "_law_stream" "_law_stream" sStream)
    (d__law_next : DefE K mg "_law_next" "_law_next" sNext)
    (d__law_is_integer : DefE K mg "_law_is_integer" "_law_is_integer" sIsInt)
    (d__law_equal : DefE K mg "_law_equal" "_law_equal" sEqual)
    (d__law_allocation : DefE K mg "_law_allocation" "_law_allocation" sLAlloc)
    (d__law_near : DefE K mg "_law_near" "_law_near" sNear)
    (d__law_series : DefE K mg "_law_series" "_law_series" sSeries)
    (d__law_small_series : DefE K mg "_law_small_series" "_law_small_series" sSmall)
    (d_law : DefE K mg "law" "law" sLaw)
    (TS : TxtS K mg C) (TD : TxtD K mg D) (iS : DefI K C "Step.__init__" sStInit) (mO : DefM K C "options" "Step.options" sStOpts) (mT : DefM K C "take" "Step.take" sStTake)
    (iD : DefI K D "Search.__init__" sSeInit) (mD : DefM K D "is_done" "Search.is_done" sSeDone) (mG : DefM K D "goes" "Search.goes" sSeGoes) :
    ∃ fd : FuncData, (∀ (s : Shared) (v : Value), BindsTo s fd ⟨[v], []⟩ [("_law_script", v)]) ∧ ∀ base : Heap, K.In base → base.Ns mainGlobals mg → FnOk l.prog w K mg base CX0 37 fa fd ["_law_script"] (spLaw K) := by
  obtain ⟨f_is_whole, D_is_whole, F_is_whole, m_is_whole⟩ := d_is_whole
  have b_is_whole := fun_binds (ps := ["value"]) F_is_whole fun _ _ _ _ _ _ us hl => match us, hl with | [_], _ => rfl
  obtain ⟨f_is_between, D_is_between, F_is_between, m_is_between⟩ := d_is_between
  have b_is_between := fun_binds (ps := ["value", "low", "high"]) F_is_between fun _ _ _ _ _ _ us hl => match us, hl with | [_, _, _], _ => rfl
  obtain ⟨f_is_allocation, D_is_allocation, F_is_allocation, m_is_allocation⟩ := d_is_allocation
  have b_is_allocation := fun_binds (ps := ["value", "variants", "buckets"]) F_is_allocation fun _ _ _ _ _ _ us hl => match us, hl with | [_, _, _], _ => rfl
  obtain ⟨f_transfer_of, D_transfer_of, F_transfer_of, m_transfer_of⟩ := d_transfer_of
  have b_transfer_of := fun_binds (ps := ["first", "second"]) F_transfer_of fun _ _ _ _ _ _ us hl => match us, hl with | [_, _], _ => rfl
  obtain ⟨f_is_assignment, D_is_assignment, F_is_assignment, m_is_assignment⟩ := d_is_assignment
  have b_is_assignment := fun_binds (ps := ["value", "variants", "buckets"]) F_is_assignment fun _ _ _ _ _ _ us hl => match us, hl with | [_, _, _], _ => rfl
  obtain ⟨f_counts_of, D_counts_of, F_counts_of, m_counts_of⟩ := d_counts_of
  have b_counts_of := fun_binds (ps := ["assignment", "variants"]) F_counts_of fun _ _ _ _ _ _ us hl => match us, hl with | [_, _], _ => rfl
  obtain ⟨f_is_series, D_is_series, F_is_series, m_is_series⟩ := d_is_series
  have b_is_series := fun_binds (ps := ["value", "most"]) F_is_series fun _ _ _ _ _ _ us hl => match us, hl with | [_, _], _ => rfl
  obtain ⟨f_check_series, D_check_series, F_check_series, m_check_series⟩ := d_check_series
  have b_check_series := fun_binds (ps := ["allocations", "most"]) F_check_series fun _ _ _ _ _ _ us hl => match us, hl with | [_, _], _ => rfl
  obtain ⟨f_is_table, D_is_table, F_is_table, m_is_table⟩ := d_is_table
  have b_is_table := fun_binds (ps := ["allocations", "value"]) F_is_table fun _ _ _ _ _ _ us hl => match us, hl with | [_, _], _ => rfl
  obtain ⟨f_check_table, D_check_table, F_check_table, m_check_table⟩ := d_check_table
  have b_check_table := fun_binds (ps := ["allocations", "value", "name"]) F_check_table fun _ _ _ _ _ _ us hl => match us, hl with | [_, _, _], _ => rfl
  obtain ⟨f_is_needless, D_is_needless, F_is_needless, m_is_needless⟩ := d_is_needless
  have b_is_needless := fun_binds (ps := ["before", "behind", "old", "new"]) F_is_needless fun _ _ _ _ _ _ us hl => match us, hl with | [_, _, _, _], _ => rfl
  obtain ⟨f_is_least, D_is_least, F_is_least, m_is_least⟩ := d_is_least
  have b_is_least := fun_binds (ps := ["before", "behind", "assignment", "other"]) F_is_least fun _ _ _ _ _ _ us hl => match us, hl with | [_, _, _, _], _ => rfl
  obtain ⟨f_steps_of, D_steps_of, F_steps_of, m_steps_of⟩ := d_steps_of
  have b_steps_of := fun_binds (ps := ["allocations"]) F_steps_of fun _ _ _ _ _ _ us hl => match us, hl with | [_], _ => rfl
  obtain ⟨f_total_of, D_total_of, F_total_of, m_total_of⟩ := d_total_of
  have b_total_of := fun_binds (ps := ["allocations"]) F_total_of fun _ _ _ _ _ _ us hl => match us, hl with | [_], _ => rfl
  obtain ⟨f_total, D_total, F_total, m_total⟩ := d_total
  have b_total := fun_binds (ps := ["allocations"]) F_total fun _ _ _ _ _ _ us hl => match us, hl with | [_], _ => rfl
  obtain ⟨f_decreases_of, D_decreases_of, F_decreases_of, m_decreases_of⟩ := d_decreases_of
  have b_decreases_of := fun_binds (ps := ["allocations"]) F_decreases_of fun _ _ _ _ _ _ us hl => match us, hl with | [_], _ => rfl
  obtain ⟨f_overdrawn_in, D_overdrawn_in, F_overdrawn_in, m_overdrawn_in⟩ := d_overdrawn_in
  have b_overdrawn_in := fun_binds (ps := ["allocations"]) F_overdrawn_in fun _ _ _ _ _ _ us hl => match us, hl with | [_], _ => rfl
  obtain ⟨f_sorted_assignment, D_sorted_assignment, F_sorted_assignment, m_sorted_assignment⟩ := d_sorted_assignment
  have b_sorted_assignment := fun_binds (ps := ["allocation"]) F_sorted_assignment fun _ _ _ _ _ _ us hl => match us, hl with | [_], _ => rfl
  obtain ⟨f_wrong_step_in, D_wrong_step_in, F_wrong_step_in, m_wrong_step_in⟩ := d_wrong_step_in
  have b_wrong_step_in := fun_binds (ps := ["allocations", "table"]) F_wrong_step_in fun _ _ _ _ _ _ us hl => match us, hl with | [_, _], _ => rfl
  obtain ⟨f_changes_in, D_changes_in, F_changes_in, m_changes_in⟩ := d_changes_in
  have b_changes_in := fun_binds (ps := ["history"]) F_changes_in fun _ _ _ _ _ _ us hl => match us, hl with | [_], _ => rfl
  obtain ⟨f_changes_of, D_changes_of, F_changes_of, m_changes_of⟩ := d_changes_of
  have b_changes_of := fun_binds (ps := ["allocations", "history"]) F_changes_of fun _ _ _ _ _ _ us hl => match us, hl with | [_, _], _ => rfl
  obtain ⟨f_calm_change, D_calm_change, F_calm_change, m_calm_change⟩ := d_calm_change
  have b_calm_change := fun_binds (ps := ["before", "behind", "assignment", "free"]) F_calm_change fun _ _ _ _ _ _ us hl => match us, hl with | [_, _, _, _], _ => rfl
  obtain ⟨f_calm_history, D_calm_history, F_calm_history, m_calm_history⟩ := d_calm_history
  have b_calm_history := fun_binds (ps := ["allocations"]) F_calm_history fun _ _ _ _ _ _ us hl => match us, hl with | [_], _ => rfl
  obtain ⟨f_history_within, D_history_within, F_history_within, m_history_within⟩ := d_history_within
  have b_history_within := fun_binds (ps := ["allocations", "limit"]) F_history_within fun _ _ _ _ _ _ us hl => match us, hl with | [_, _], _ => rfl
  obtain ⟨f_check_search, D_check_search, F_check_search, m_check_search⟩ := d_check_search
  have b_check_search := fun_binds (ps := ["allocations"]) F_check_search fun _ _ _ _ _ _ us hl => match us, hl with | [_], _ => rfl
  obtain ⟨f_within, D_within, F_within, m_within⟩ := d_within
  have b_within := fun_binds (ps := ["allocations", "limit"]) F_within fun _ _ _ _ _ _ us hl => match us, hl with | [_, _], _ => rfl
  obtain ⟨f_least_limit, D_least_limit, F_least_limit, m_least_limit⟩ := d_least_limit
  have b_least_limit := fun_binds (ps := ["allocations"]) F_least_limit fun _ _ _ _ _ _ us hl => match us, hl with | [_], _ => rfl
  obtain ⟨f__law_stream, D__law_stream, F__law_stream, m__law_stream⟩ := d__law_stream
  have b__law_stream := fun_binds (ps := ["_law_script"]) F__law_stream fun _ _ _ _ _ _ us hl => match us, hl with | [_], _ => rfl
  obtain ⟨f__law_next, D__law_next, F__law_next, m__law_next⟩ := d__law_next
  have b__law_next := fun_binds (ps := ["_law_stream_here", "_law_many"]) F__law_next fun _ _ _ _ _ _ us hl => match us, hl with | [_, _], _ => rfl
  obtain ⟨f__law_is_integer, D__law_is_integer, F__law_is_integer, m__law_is_integer⟩ := d__law_is_integer
  have b__law_is_integer := fun_binds (ps := ["_law_actual"]) F__law_is_integer fun _ _ _ _ _ _ us hl => match us, hl with | [_], _ => rfl
  obtain ⟨f__law_equal, D__law_equal, F__law_equal, m__law_equal⟩ := d__law_equal
  have b__law_equal := fun_binds (ps := ["_law_actual", "_law_due"]) F__law_equal fun _ _ _ _ _ _ us hl => match us, hl with | [_, _], _ => rfl
  obtain ⟨f__law_allocation, D__law_allocation, F__law_allocation, m__law_allocation⟩ := d__law_allocation
  have b__law_allocation := fun_binds (ps := ["_law_stream_here", "_law_variants", "_law_buckets"]) F__law_allocation fun _ _ _ _ _ _ us hl => match us, hl with | [_, _, _], _ => rfl
  obtain ⟨f__law_near, D__law_near, F__law_near, m__law_near⟩ := d__law_near
  have b__law_near := fun_binds (ps := ["_law_stream_here", "_law_allocation_here"]) F__law_near fun _ _ _ _ _ _ us hl => match us, hl with | [_, _], _ => rfl
  obtain ⟨f__law_series, D__law_series, F__law_series, m__law_series⟩ := d__law_series
  have b__law_series := fun_binds (ps := ["_law_stream_here", "_law_variants", "_law_buckets", "_law_many"]) F__law_series fun _ _ _ _ _ _ us hl => match us, hl with | [_, _, _, _], _ => rfl
  obtain ⟨f__law_small_series, D__law_small_series, F__law_small_series, m__law_small_series⟩ := d__law_small_series
  have b__law_small_series := fun_binds (ps := ["_law_stream_here"]) F__law_small_series fun _ _ _ _ _ _ us hl => match us, hl with | [_], _ => rfl
  obtain ⟨f_law, D_law, F_law, m_law⟩ := d_law
  have b_law := fun_binds (ps := ["_law_script"]) F_law fun _ _ _ _ _ _ us hl => match us, hl with | [_], _ => rfl
  obtain ⟨f_iS, D_iS, F_iS, M_iS⟩ := iS
  have b_iS := fun_binds (ps := ["self", "before", "behind", "assignment", "free"]) F_iS fun _ _ _ _ _ _ us hl => match us, hl with | [_, _, _, _, _], _ => rfl
  obtain ⟨f_mO, D_mO, F_mO, M_mO⟩ := mO
  have b_mO := fun_binds (ps := ["self", "bucket"]) F_mO fun _ _ _ _ _ _ us hl => match us, hl with | [_, _], _ => rfl
  obtain ⟨f_mT, D_mT, F_mT, M_mT⟩ := mT
  have b_mT := fun_binds (ps := ["self", "bucket", "variant", "way"]) F_mT fun _ _ _ _ _ _ us hl => match us, hl with | [_, _, _, _], _ => rfl
  obtain ⟨f_iD, D_iD, F_iD, M_iD⟩ := iD
  have b_iD := fun_binds (ps := ["self", "allocations", "limit"]) F_iD fun _ _ _ _ _ _ us hl => match us, hl with | [_, _, _], _ => rfl
  obtain ⟨f_mD, D_mD, F_mD, M_mD⟩ := mD
  have b_mD := fun_binds (ps := ["self", "counts"]) F_mD fun _ _ _ _ _ _ us hl => match us, hl with | [_, _], _ => rfl
  obtain ⟨f_mG, D_mG, F_mG, M_mG⟩ := mG
  have b_mG := fun_binds (ps := ["self", "step", "begun", "counts"]) F_mG fun _ _ _ _ _ _ us hl => match us, hl with | [_, _, _, _], _ => rfl
  cases hfa.symm.trans m_law
  refine ⟨D_law, fun s v => ?_, fun base _ _ => ?_⟩
  · obtain ⟨oc, od, kV, doc, pm, an, cdv, ct, osl, rfl, _, _⟩ := F_law.ex
    exact .of_eq rfl
  have O_is_whole : Ok l.prog w K mg base "is_whole" ["value"] _ _ := ⟨_, _, ok_whole F_is_whole N, m_is_whole, F_is_whole.kp, b_is_whole⟩
  have O_is_between : Ok l.prog w K mg base "is_between" ["value", "low", "high"] _ _ := ⟨_, _, ok_between F_is_between O_is_whole, m_is_between, F_is_between.kp, b_is_between⟩
  have O_is_allocation : Ok l.prog w K mg base "is_allocation" ["value", "variants", "buckets"] _ _ := ⟨_, _, ok_isAlloc F_is_allocation N O_is_whole, m_is_allocation, F_is_allocation.kp, b_is_allocation⟩
  have O_transfer_of : Ok l.prog w K mg base "transfer_of" ["first", "second"] _ _ := ⟨_, _, ok_transf F_transfer_of N, m_transfer_of, F_transfer_of.kp, b_transfer_of⟩
  have O_is_assignment : Ok l.prog w K mg base "is_assignment" ["value", "variants", "buckets"] _ _ := ⟨_, _, ok_isAssign F_is_assignment N O_is_between, m_is_assignment, F_is_assignment.kp, b_is_assignment⟩
  have O_counts_of : Ok l.prog w K mg base "counts_of" ["assignment", "variants"] _ _ := ⟨_, _, ok_counts F_counts_of N, m_counts_of, F_counts_of.kp, b_counts_of⟩
  have O_is_series : Ok l.prog w K mg base "is_series" ["value", "most"] _ _ := ⟨_, _, ok_isSeries F_is_series N c_MOST_VARIANTS c_MOST_BUCKETS O_is_between O_is_allocation, m_is_series, F_is_series.kp, b_is_series⟩
  have O_check_series : Ok l.prog w K mg base "check_series" ["allocations", "most"] _ _ := ⟨_, _, ok_chkSeries F_check_series O_is_series, m_check_series, F_check_series.kp, b_check_series⟩
  have O_is_table : Ok l.prog w K mg base "is_table" ["allocations", "value"] _ _ := ⟨_, _, ok_isTable F_is_table N O_is_assignment O_counts_of, m_is_table, F_is_table.kp, b_is_table⟩
  have O_check_table : Ok l.prog w K mg base "check_table" ["allocations", "value", "name"] _ _ := ⟨_, _, ok_chkTable F_check_table O_is_table, m_check_table, F_check_table.kp, b_check_table⟩
  have O_is_needless : Ok l.prog w K mg base "is_needless" ["before", "behind", "old", "new"] _ _ := ⟨_, _, ok_needless F_is_needless, m_is_needless, F_is_needless.kp, b_is_needless⟩
  have O_is_least : Ok l.prog w K mg base "is_least" ["before", "behind", "assignment", "other"] _ _ := ⟨_, _, ok_isLeast F_is_least N O_is_needless, m_is_least, F_is_least.kp, b_is_least⟩
  have O_steps_of : Ok l.prog w K mg base "steps_of" ["allocations"] _ _ := ⟨_, _, ok_steps F_steps_of N, m_steps_of, F_steps_of.kp, b_steps_of⟩
  have O_total_of : Ok l.prog w K mg base "total_of" ["allocations"] _ _ := ⟨_, _, ok_totalOf F_total_of N O_steps_of O_transfer_of, m_total_of, F_total_of.kp, b_total_of⟩
  have O_total : Ok l.prog w K mg base "total" ["allocations"] _ _ := ⟨_, _, ok_total F_total c_MOST_ALLOCATIONS O_check_series O_total_of, m_total, F_total.kp, b_total⟩
  have O_decreases_of : Ok l.prog w K mg base "decreases_of" ["allocations"] _ _ := ⟨_, _, ok_decs F_decreases_of N O_steps_of, m_decreases_of, F_decreases_of.kp, b_decreases_of⟩
  have O_overdrawn_in : Ok l.prog w K mg base "overdrawn_in" ["allocations"] _ _ := ⟨_, _, ok_over F_overdrawn_in N O_decreases_of, m_overdrawn_in, F_overdrawn_in.kp, b_overdrawn_in⟩
  have O_sorted_assignment : Ok l.prog w K mg base "sorted_assignment" ["allocation"] _ _ := ⟨_, _, ok_sorted F_sorted_assignment N, m_sorted_assignment, F_sorted_assignment.kp, b_sorted_assignment⟩
  have O_wrong_step_in : Ok l.prog w K mg base "wrong_step_in" ["allocations", "table"] _ _ := ⟨_, _, ok_wrong F_wrong_step_in N O_steps_of O_is_least, m_wrong_step_in, F_wrong_step_in.kp, b_wrong_step_in⟩
  have O_changes_in : Ok l.prog w K mg base "changes_in" ["history"] _ _ := ⟨_, _, ok_chgIn F_changes_in N, m_changes_in, F_changes_in.kp, b_changes_in⟩
  have O_changes_of : Ok l.prog w K mg base "changes_of" ["allocations", "history"] _ _ := ⟨_, _, ok_chgOf F_changes_of c_MOST_ALLOCATIONS O_check_series O_check_table O_wrong_step_in O_changes_in, m_changes_of, F_changes_of.kp, b_changes_of⟩
  have OI : OkI l.prog w K mg base C ["self", "before", "behind", "assignment", "free"] 1 (spStep C) := ⟨_, _, ok_stInit F_iS N TS, M_iS, b_iS⟩
  have OO : OkM l.prog w K mg base C "options" ["self", "bucket"] 1 (spOpts C) := ⟨_, _, ok_opts F_mO N TS, M_mO, b_mO⟩
  have OT : OkM l.prog w K mg base C "take" ["self", "bucket", "variant", "way"] 1 (spTake C) := ⟨_, _, ok_take F_mT N TS, M_mT, b_mT⟩
  have O_calm_change : Ok l.prog w K mg base "calm_change" ["before", "behind", "assignment", "free"] _ _ := ⟨_, _, ok_calmChg F_calm_change N TS OI OO OT, m_calm_change, F_calm_change.kp, b_calm_change⟩
  have O_calm_history : Ok l.prog w K mg base "calm_history" ["allocations"] _ _ := ⟨_, _, ok_calmH F_calm_history N c_MOST_ALLOCATIONS O_check_series O_overdrawn_in O_sorted_assignment O_steps_of O_changes_in O_calm_change, m_calm_history, F_calm_history.kp, b_calm_history⟩
  have OSI : OkI l.prog w K mg base D ["self", "allocations", "limit"] 2 (spSeInit l.prog w D) := ⟨_, _, ok_seInit F_iD N TD O_sorted_assignment, M_iD, b_iD⟩
  have OSD : OkM l.prog w K mg base D "is_done" ["self", "counts"] 34 (spDU l.prog w D) := ⟨_, _, ok_du fun s => (ok_both F_mD F_mG N TD TS OI OO OT M_mD b_mD M_mG b_mG s).1, M_mD, b_mD⟩
  have O_history_within : Ok l.prog w K mg base "history_within" ["allocations", "limit"] _ _ := ⟨_, _, ok_hist F_history_within N TD OSI OSD, m_history_within, F_history_within.kp, b_history_within⟩
  have O_check_search : Ok l.prog w K mg base "check_search" ["allocations"] _ _ := ⟨_, _, ok_chkSearch F_check_search N c_MOST_SEARCHED, m_check_search, F_check_search.kp, b_check_search⟩
  have O_within : Ok l.prog w K mg base "within" ["allocations", "limit"] _ _ := ⟨_, _, ok_within F_within c_MOST_ALLOCATIONS c_MOST_LIMIT O_check_series O_is_between O_check_search O_history_within, m_within, F_within.kp, b_within⟩
  have O_least_limit : Ok l.prog w K mg base "least_limit" ["allocations"] _ _ := ⟨_, _, ok_leastL F_least_limit c_MOST_ALLOCATIONS O_check_series O_check_search O_history_within, m_least_limit, F_least_limit.kp, b_least_limit⟩
  have O__law_stream : Ok l.prog w K mg base "_law_stream" ["_law_script"] _ _ := ⟨_, _, ok_stream F__law_stream N, m__law_stream, F__law_stream.kp, b__law_stream⟩
  have O__law_next : Ok l.prog w K mg base "_law_next" ["_law_stream_here", "_law_many"] _ _ := ⟨_, _, ok_next F__law_next N, m__law_next, F__law_next.kp, b__law_next⟩
  have O__law_is_integer : Ok l.prog w K mg base "_law_is_integer" ["_law_actual"] _ _ := ⟨_, _, ok_isInt F__law_is_integer N, m__law_is_integer, F__law_is_integer.kp, b__law_is_integer⟩
  have E0 : Ok l.prog w K mg base "_law_equal" ["_law_actual", "_law_due"] 1 (spEqP 0) := ⟨_, _, fn_none (fun _ _ _ _ h => h), m__law_equal, F__law_equal.kp, b__law_equal⟩
  have E1 : Ok l.prog w K mg base "_law_equal" ["_law_actual", "_law_due"] 2 (spEq 0) := ⟨_, _, ok_equal (m := 0) (j := 1) (by decide) (by decide) F__law_equal N O__law_is_integer E0, m__law_equal, F__law_equal.kp, b__law_equal⟩
  have E2 : Ok l.prog w K mg base "_law_equal" ["_law_actual", "_law_due"] 3 (spEq 1) := ⟨_, _, ok_equal (m := 1) (j := 2) (by decide) (by decide) F__law_equal N O__law_is_integer E1, m__law_equal, F__law_equal.kp, b__law_equal⟩
  have E3 : Ok l.prog w K mg base "_law_equal" ["_law_actual", "_law_due"] 4 (spEq 2) := ⟨_, _, ok_equal (m := 2) (j := 3) (by decide) (by decide) F__law_equal N O__law_is_integer E2, m__law_equal, F__law_equal.kp, b__law_equal⟩
  have O__law_allocation : Ok l.prog w K mg base "_law_allocation" ["_law_stream_here", "_law_variants", "_law_buckets"] _ _ := ⟨_, _, ok_lalloc F__law_allocation N O__law_next, m__law_allocation, F__law_allocation.kp, b__law_allocation⟩
  have O__law_near : Ok l.prog w K mg base "_law_near" ["_law_stream_here", "_law_allocation_here"] _ _ := ⟨_, _, ok_near F__law_near N O__law_next, m__law_near, F__law_near.kp, b__law_near⟩
  have O__law_series : Ok l.prog w K mg base "_law_series" ["_law_stream_here", "_law_variants", "_law_buckets", "_law_many"] _ _ := ⟨_, _, ok_series F__law_series N O__law_next O__law_allocation O__law_near, m__law_series, F__law_series.kp, b__law_series⟩
  have O__law_small_series : Ok l.prog w K mg base "_law_small_series" ["_law_stream_here"] _ _ := ⟨_, _, ok_small F__law_small_series N O__law_next O__law_series, m__law_small_series, F__law_small_series.kp, b__law_small_series⟩
  exact ok_law F_law N O__law_stream O__law_small_series O_least_limit O__law_is_integer E3 E1 O_within O_changes_of O_total O_calm_history
theorem walk {l : PySem.W.OpenLaw} {q : Program} {loose : List Str} {XP : (Str → Option Value) → Heap → Prop} {YP : World → Heap → Prop} {d : DefRec} {K : Params → PySem.W.Frag} (hn : l.most = some 63) (hdf : d.params.defaults = [])
    (hY : ∀ (w : World) (h : Heap), YP w h → (K w.params).In h)
    (F : ∀ (w : World) (mg : Str → Option Value) (fa : Addr) (h : Heap), (K w.params).In h → h.Ns mainGlobals mg → mg d.name = some (.ref fa) →
      ∃ fd : FuncData, (∀ (s : Shared) (u : Value), BindsTo s fd ⟨[u], []⟩ [("_law_script", u)]) ∧ ∀ base : Heap, (K w.params).In base → base.Ns mainGlobals mg → FnOk l.prog w (K w.params) mg base CX0 37 fa fd ["_law_script"] (spLaw (K w.params))) :
    PySem.W.WalkO q loose XP YP l.row.toRowW d [] (fun f vs => PySem.call f vs) :=
  L2.walk_of (n := 63) (k := 37) (x := "_law_script") (CX := fun _ => CX0) (sp := fun w => spLaw (K w.params)) hn (by decide) hdf ⟨rfl, by decide, by decide⟩ hY F (fun _ _ a ns hl _ hS => ⟨a, ns, rfl, hS, fun _ => rfl⟩) fun _ _ _ _ _ z => z
end LW
end

section
set_option Elab.async false
set_option linter.all false
set_option maxRecDepth 100000
open PySem PySem.W PyProof.Rows
set_option maxRecDepth 100000 in
set_option maxHeartbeats 0 in
theorem PySem.Challenge.cw_leastmoved_k50_whole_least_limits_holds : PySem.Challenge.rw_leastmoved_k50_whole_least_limits.Holds := by
  w_on; o_law; k_head; (case hw => w_witness2)
  k_fill
  refine LW.walk (l := PySem.Challenge.rw_leastmoved_k50_whole_least_limits) rfl rfl (fun w h Y => PySem.W.kIn_of Y) ?F
  case F =>
    intro w mg fa h KX G hmg
    have N : LW.Nm mg := by
      refine' LW.nm_mk KX G ?z_isi ?z_int ?z_bool ?z_str ?z_tup ?z_lst ?z_len ?z_all ?z_any ?z_sum ?z_zip ?z_rng ?z_enu ?z_srt ?z_max ?z_abs
      (case z_isi => k_is)
      (case z_int => k_is)
      (case z_bool => k_is)
      (case z_str => k_is)
      (case z_tup => k_is)
      (case z_lst => k_is)
      (case z_len => k_is)
      (case z_all => k_is)
      (case z_any => k_is)
      (case z_sum => k_is)
      (case z_zip => k_is)
      (case z_rng => k_is)
      (case z_enu => k_is)
      (case z_srt => k_is)
      (case z_max => k_is)
      (case z_abs => k_is)
    have c_MOST_VARIANTS : LW.Ci mg "MOST_VARIANTS" 5 := by
      refine' LW.ci_mk KX G ?a
      (case a => k_is)
    have c_MOST_BUCKETS : LW.Ci mg "MOST_BUCKETS" 20 := by
      refine' LW.ci_mk KX G ?a
      (case a => k_is)
    have c_MOST_ALLOCATIONS : LW.Ci mg "MOST_ALLOCATIONS" 10 := by
      refine' LW.ci_mk KX G ?a
      (case a => k_is)
    have c_MOST_SEARCHED : LW.Ci mg "MOST_SEARCHED" 6 := by
      refine' LW.ci_mk KX G ?a
      (case a => k_is)
    have c_MOST_LIMIT : LW.Ci mg "MOST_LIMIT" 9 := by
      refine' LW.ci_mk KX G ?a
      (case a => k_is)
    have d_is_whole : LW.DefX KX mg "is_whole" "is_whole" LW.sWhole := by
      refine' LW.def_mk KX G ?a ?l ?c ?k
      (case a => k_is)
      (case l => k_is)
      (case c => k_is)
      (case k => k_is)
    have d_is_between : LW.DefX KX mg "is_between" "is_between" LW.sBetween := by
      refine' LW.def_mk KX G ?a ?l ?c ?k
      (case a => k_is)
      (case l => k_is)
      (case c => k_is)
      (case k => k_is)
    have d_is_allocation : LW.DefX KX mg "is_allocation" "is_allocation" LW.sIsAlloc := by
      refine' LW.def_mk KX G ?a ?l ?c ?k
      (case a => k_is)
      (case l => k_is)
      (case c => k_is)
      (case k => k_is)
    have d_transfer_of : LW.DefX KX mg "transfer_of" "transfer_of" LW.sTransf := by
      refine' LW.def_mk KX G ?a ?l ?c ?k
      (case a => k_is)
      (case l => k_is)
      (case c => k_is)
      (case k => k_is)
    have d_is_assignment : LW.DefX KX mg "is_assignment" "is_assignment" LW.sIsAssign := by
      refine' LW.def_mk KX G ?a ?l ?c ?k
      (case a => k_is)
      (case l => k_is)
      (case c => k_is)
      (case k => k_is)
    have d_counts_of : LW.DefX KX mg "counts_of" "counts_of" LW.sCounts := by
      refine' LW.def_mk KX G ?a ?l ?c ?k
      (case a => k_is)
      (case l => k_is)
      (case c => k_is)
      (case k => k_is)
    have d_is_series : LW.DefX KX mg "is_series" "is_series" LW.sIsSeries := by
      refine' LW.def_mk KX G ?a ?l ?c ?k
      (case a => k_is)
      (case l => k_is)
      (case c => k_is)
      (case k => k_is)
    have d_check_series : LW.DefX KX mg "check_series" "check_series" LW.sChkSeries := by
      refine' LW.def_mk KX G ?a ?l ?c ?k
      (case a => k_is)
      (case l => k_is)
      (case c => k_is)
      (case k => k_is)
    have d_is_table : LW.DefX KX mg "is_table" "is_table" LW.sIsTable := by
      refine' LW.def_mk KX G ?a ?l ?c ?k
      (case a => k_is)
      (case l => k_is)
      (case c => k_is)
      (case k => k_is)
    have d_check_table : LW.DefX KX mg "check_table" "check_table" LW.sChkTable := by
      refine' LW.def_mk KX G ?a ?l ?c ?k
      (case a => k_is)
      (case l => k_is)
      (case c => k_is)
      (case k => k_is)
    have d_is_needless : LW.DefX KX mg "is_needless" "is_needless" LW.sNeedless := by
      refine' LW.def_mk KX G ?a ?l ?c ?k
      (case a => k_is)
      (case l => k_is)
      (case c => k_is)
      (case k => k_is)
    have d_is_least : LW.DefX KX mg "is_least" "is_least" LW.sIsLeast := by
      refine' LW.def_mk KX G ?a ?l ?c ?k
      (case a => k_is)
      (case l => k_is)
      (case c => k_is)
      (case k => k_is)
    have d_steps_of : LW.DefX KX mg "steps_of" "steps_of" LW.sSteps := by
      refine' LW.def_mk KX G ?a ?l ?c ?k
      (case a => k_is)
      (case l => k_is)
      (case c => k_is)
      (case k => k_is)
    have d_total_of : LW.DefX KX mg "total_of" "total_of" LW.sTotalOf := by
      refine' LW.def_mk KX G ?a ?l ?c ?k
      (case a => k_is)
      (case l => k_is)
      (case c => k_is)
      (case k => k_is)
    have d_total : LW.DefX KX mg "total" "total" LW.sTotal := by
      refine' LW.def_mk KX G ?a ?l ?c ?k
      (case a => k_is)
      (case l => k_is)
      (case c => k_is)
      (case k => k_is)
    have d_decreases_of : LW.DefX KX mg "decreases_of" "decreases_of" LW.sDecs := by
      refine' LW.def_mk KX G ?a ?l ?c ?k
      (case a => k_is)
      (case l => k_is)
      (case c => k_is)
      (case k => k_is)
    have d_overdrawn_in : LW.DefX KX mg "overdrawn_in" "overdrawn_in" LW.sOver := by
      refine' LW.def_mk KX G ?a ?l ?c ?k
      (case a => k_is)
      (case l => k_is)
      (case c => k_is)
      (case k => k_is)
    have d_sorted_assignment : LW.DefX KX mg "sorted_assignment" "sorted_assignment" LW.sSorted := by
      refine' LW.def_mk KX G ?a ?l ?c ?k
      (case a => k_is)
      (case l => k_is)
      (case c => k_is)
      (case k => k_is)
    have d_wrong_step_in : LW.DefX KX mg "wrong_step_in" "wrong_step_in" LW.sWrong := by
      refine' LW.def_mk KX G ?a ?l ?c ?k
      (case a => k_is)
      (case l => k_is)
      (case c => k_is)
      (case k => k_is)
    have d_changes_in : LW.DefX KX mg "changes_in" "changes_in" LW.sChgIn := by
      refine' LW.def_mk KX G ?a ?l ?c ?k
      (case a => k_is)
      (case l => k_is)
      (case c => k_is)
      (case k => k_is)
    have d_changes_of : LW.DefX KX mg "changes_of" "changes_of" LW.sChgOf := by
      refine' LW.def_mk KX G ?a ?l ?c ?k
      (case a => k_is)
      (case l => k_is)
      (case c => k_is)
      (case k => k_is)
    have d_calm_change : LW.DefX KX mg "calm_change" "calm_change" LW.sCalmChg := by
      refine' LW.def_mk KX G ?a ?l ?c ?k
      (case a => k_is)
      (case l => k_is)
      (case c => k_is)
      (case k => k_is)
    have d_calm_history : LW.DefX KX mg "calm_history" "calm_history" LW.sCalmH := by
      refine' LW.def_mk KX G ?a ?l ?c ?k
      (case a => k_is)
      (case l => k_is)
      (case c => k_is)
      (case k => k_is)
    have d_history_within : LW.DefX KX mg "history_within" "history_within" LW.sHist := by
      refine' LW.def_mk KX G ?a ?l ?c ?k
      (case a => k_is)
      (case l => k_is)
      (case c => k_is)
      (case k => k_is)
    have d_check_search : LW.DefX KX mg "check_search" "check_search" LW.sChkSearch := by
      refine' LW.def_mk KX G ?a ?l ?c ?k
      (case a => k_is)
      (case l => k_is)
      (case c => k_is)
      (case k => k_is)
    have d_within : LW.DefX KX mg "within" "within" LW.sWithin := by
      refine' LW.def_mk KX G ?a ?l ?c ?k
      (case a => k_is)
      (case l => k_is)
      (case c => k_is)
      (case k => k_is)
    have d_least_limit : LW.DefX KX mg "least_limit" "least_limit" LW.sLeastL := by
      refine' LW.def_mk KX G ?a ?l ?c ?k
      (case a => k_is)
      (case l => k_is)
      (case c => k_is)
      (case k => k_is)
    have d__law_stream : LW.DefX KX mg "_law_stream" "_law_stream" LW.sStream := by
      refine' LW.def_mk KX G ?a ?l ?c ?k
      (case a => k_is)
      (case l => k_is)
      (case c => k_is)
      (case k => k_is)
    have d__law_next : LW.DefX KX mg "_law_next" "_law_next" LW.sNext := by
      refine' LW.def_mk KX G ?a ?l ?c ?k
      (case a => k_is)
      (case l => k_is)
      (case c => k_is)
      (case k => k_is)
    have d__law_is_integer : LW.DefX KX mg "_law_is_integer" "_law_is_integer" LW.sIsInt := by
      refine' LW.def_mk KX G ?a ?l ?c ?k
      (case a => k_is)
      (case l => k_is)
      (case c => k_is)
      (case k => k_is)
    have d__law_equal : LW.DefX KX mg "_law_equal" "_law_equal" LW.sEqual := by
      refine' LW.def_mk KX G ?a ?l ?c ?k
      (case a => k_is)
      (case l => k_is)
      (case c => k_is)
      (case k => k_is)
    have d__law_allocation : LW.DefX KX mg "_law_allocation" "_law_allocation" LW.sLAlloc := by
      refine' LW.def_mk KX G ?a ?l ?c ?k
      (case a => k_is)
      (case l => k_is)
      (case c => k_is)
      (case k => k_is)
    have d__law_near : LW.DefX KX mg "_law_near" "_law_near" LW.sNear := by
      refine' LW.def_mk KX G ?a ?l ?c ?k
      (case a => k_is)
      (case l => k_is)
      (case c => k_is)
      (case k => k_is)
    have d__law_series : LW.DefX KX mg "_law_series" "_law_series" LW.sSeries := by
      refine' LW.def_mk KX G ?a ?l ?c ?k
      (case a => k_is)
      (case l => k_is)
      (case c => k_is)
      (case k => k_is)
    have d__law_small_series : LW.DefX KX mg "_law_small_series" "_law_small_series" LW.sSmall := by
      refine' LW.def_mk KX G ?a ?l ?c ?k
      (case a => k_is)
      (case l => k_is)
      (case c => k_is)
      (case k => k_is)
    have d_law : LW.DefX KX mg "law" "law" LW.sLaw := by
      refine' LW.def_mk KX G ?a ?l ?c ?k
      (case a => k_is)
      (case l => k_is)
      (case c => k_is)
      (case k => k_is)
    refine' LW.all_ok hmg N c_MOST_VARIANTS c_MOST_BUCKETS c_MOST_ALLOCATIONS c_MOST_SEARCHED c_MOST_LIMIT d_is_whole d_is_between d_is_allocation d_transfer_of d_is_assignment d_counts_of d_is_series d_check_series d_is_table d_check_table d_is_needless d_is_least d_steps_of d_total_of d_total d_decreases_of d_overdrawn_in d_sorted_assignment d_wrong_step_in d_changes_in d_changes_of d_calm_change d_calm_history d_history_within d_check_search d_within d_least_limit d__law_stream d__law_next d__law_is_integer d__law_equal d__law_allocation d__law_near d__law_series d__law_small_series d_law (LW.clsS_mk KX G ?aC ?pg ?hd ?po ?sa ?n1 ?n2 ?n3 ?n4 ?n5) (LW.clsD_mk KX G ?bC ?qg ?qd ?qo ?qa ?m1 ?m2 ?m3 ?m4) (LW.defI_mk ?mk ?kc ?a0 ?i0 ?l0 ?c0 ?k0) (LW.defM_mk ?a1 ?i1 ?l1 ?c1 ?k1) (LW.defM_mk ?a2 ?i2 ?l2 ?c2 ?k2)
      (LW.defI_mk ?mkD ?kcD ?a3 ?i3 ?l3 ?c3 ?k3) (LW.defM_mk ?a4 ?i4 ?l4 ?c4 ?k4) (LW.defM_mk ?a5 ?i5 ?l5 ?c5 ?k5)
    (case aC => k_is)
    (case pg => k_is)
    (case hd => k_is)
    (case po => k_is)
    (case sa => k_is)
    (case n1 => k_is)
    (case n2 => k_is)
    (case n3 => k_is)
    (case n4 => k_is)
    (case n5 => k_is)
    (case bC => k_is)
    (case qg => k_is)
    (case qd => k_is)
    (case qo => k_is)
    (case qa => k_is)
    (case m1 => k_is)
    (case m2 => k_is)
    (case m3 => k_is)
    (case m4 => k_is)
    (case mk => k_is)
    (case kc => k_is)
    (case a0 => k_is)
    (case i0 => k_is)
    (case l0 => k_is)
    (case c0 => k_is)
    (case k0 => k_is)
    (case a1 => k_is)
    (case i1 => k_is)
    (case l1 => k_is)
    (case c1 => k_is)
    (case k1 => k_is)
    (case a2 => k_is)
    (case i2 => k_is)
    (case l2 => k_is)
    (case c2 => k_is)
    (case k2 => k_is)
    (case mkD => k_is)
    (case kcD => k_is)
    (case a3 => k_is)
    (case i3 => k_is)
    (case l3 => k_is)
    (case c3 => k_is)
    (case k3 => k_is)
    (case a4 => k_is)
    (case i4 => k_is)
    (case l4 => k_is)
    (case c4 => k_is)
    (case k4 => k_is)
    (case a5 => k_is)
    (case i5 => k_is)
    (case l5 => k_is)
    (case c5 => k_is)
    (case k5 => k_is)
#print axioms PySem.Challenge.cw_leastmoved_k50_whole_least_limits_holds
end
