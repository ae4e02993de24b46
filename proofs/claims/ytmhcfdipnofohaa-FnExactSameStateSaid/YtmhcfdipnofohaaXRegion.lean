/- A region that draws its order, each of whose operations gives a value that is good in every later world: the order makes no difference. Conditions: the Bool monoB over the region's operations; no operation writes to memory that was there before. -/
import Derived.WalkKit
import Derived.Deep.QuietTactic
namespace Go.XB
open Go.RowKit

/-- What an operation, once carried out, has given: a value and a world. -/
def giveUpon (P : Program) (R : Value → World → Prop) : Result Next → Prop
  | .ok (.value v) w' => R v w'
  | .ok .skip w' => R undef w'
  | .ok (.enter f args) w' => Calls P f args w' fun e w'' => ∃ v, e = .returned v ∧ R v w''
  | _ => False

def gives (P : Program) (o : Oper) (a : Act) (w : World) (R : Value → World → Prop) : Prop := giveUpon P R ((execOp a.eval o).run P w)

/-- A predicate on a value and the blocks that it is read from, which stays true while those blocks and all others that are there stay. -/
structure MP where
  p : Value → List Nat → World → Prop
  mono : ∀ v bs w w', Below w.heap.size w w' → p v bs w → p v bs w'

def MP.eq (x : Value) : MP := ⟨fun v bs _ => v = x ∧ bs = [], fun _ _ _ _ _ h => h⟩
def MP.grd (b : Bool) (q : MP) : MP := ⟨fun v bs w => (b = true → q.p v bs w) ∧ (b = false → v = undef ∧ bs = []), fun v bs w w' hb h => ⟨fun e => q.mono v bs w w' hb (h.1 e), h.2⟩⟩

def depOf : List Edge → List Nat
  | [] => []
  | ⟨_, .textOnly _⟩ :: es => depOf es
  | ⟨_, .gcOnly _⟩ :: es => depOf es
  | ⟨on, .data⟩ :: es => on :: depOf es
  | ⟨on, .chain⟩ :: es => on :: depOf es
  | ⟨on, .guard⟩ :: es => on :: depOf es
  | ⟨on, .phase⟩ :: es => on :: depOf es
def deps (o : Oper) : List Nat := depOf o.after.toList
theorem mem_depOf (k : Nat) : ∀ (es : List Edge), k ∈ depOf es ↔ ∃ e ∈ es, Region.binds .any e = true ∧ e.on = k
  | [] => by simp [depOf]
  | ⟨on, g⟩ :: es => by
    have ih := mem_depOf k es
    cases g <;> simp only [depOf, List.mem_cons, ih, exists_eq_or_imp, Region.binds, true_and] <;> simp [@eq_comm _ k]
def opAt (l : List Oper) (k : Nat) : Option Tmp := (l[k]?).bind (·.dst)
def fillBy (l : List Oper) (y : Nat → Value) (a : Act) (ks : List Nat) : Act := ks.foldl (fun a k => a.put (opAt l k) (y k)) a

/-- One operation's part. -/
def part (P : Program) (l : List Oper) (R : Nat → MP) (C : World → Prop) (a0 : Act) (i : Nat) (o : Oper) : Prop :=
  ∀ (y : Nat → Value) (z : Nat → List Nat) (w : World), C w → (∀ k ∈ deps o, (R k).p (y k) (z k) w) →
    if Region.wanted o (yielded l.toArray (fillBy l y a0 (deps o)).tmps) then
      gives P o (fillBy l y a0 (deps o)) w fun v w' => Below w.heap.size w w' ∧ ∃ bs, (R i).p v bs w' ∧ ∀ b ∈ bs, w.heap.size ≤ b ∧ b < w'.heap.size
    else (R i).p undef [] w

def looks (l : List Oper) (o : Oper) : List Tmp := o.looksAt l.toArray

/-- The check on the region's text. -/
def monoB (l : List Oper) (N : Nat) : Bool :=
  Region.noSelect l.toArray &&
  (l.zipIdx.all fun (o, i) => (match o.dst with | some d => decide (d < N) && l.zipIdx.all (fun (o', j) => i == j || o'.dst != some d) | none => true) &&
    (looks l o).all fun t => l.zipIdx.all fun (o', k) => o'.dst != some t || (deps o).contains k || (deps o').contains i)

section
variable {P : Program} {l : List Oper} {R : Nat → MP} {C : World → Prop} {a0 : Act} {base : Nat}

theorem getD_put (a : Act) (d : Option Tmp) (v : Value) (t : Tmp) : (a.put d v).eval (.tmp t) = if d = some t ∧ t < a.tmps.size then v else a.eval (.tmp t) := by
  cases d with
  | none => simp [Act.put]
  | some d =>
    by_cases h : d = t
    · subst h
      by_cases hs : d < a.tmps.size
      · simp [Act.put, Act.eval, hs]
      · simp [Act.put, Act.eval, hs, Array.getD_eq_getD_getElem?]
    · have : (some d = some t) = False := by simp [h]
      simp [Act.put, Act.eval, this, Array.getElem?_setIfInBounds_ne h]

theorem size_put (a : Act) (d : Option Tmp) (v : Value) : (a.put d v).tmps.size = a.tmps.size := by
  cases d <;> simp [Act.put]

theorem defers_put (a : Act) (d : Option Tmp) (v : Value) : (a.put d v).defers = a.defers := by
  cases d <;> rfl

theorem size_fill (y : Nat → Value) : ∀ (ks : List Nat) (a : Act), (fillBy l y a ks).tmps.size = a.tmps.size
  | [], _ => rfl
  | k :: ks, a => by
    show (fillBy l y (a.put (opAt l k) (y k)) ks).tmps.size = _
    rw [size_fill y ks, size_put]

theorem defers_fill (y : Nat → Value) : ∀ (ks : List Nat) (a : Act), (fillBy l y a ks).defers = a.defers
  | [], _ => rfl
  | k :: ks, a => by
    show (fillBy l y (a.put (opAt l k) (y k)) ks).defers = _
    rw [defers_fill y ks, defers_put]

/-- nobody among ks writes t -/
theorem fill_none (y : Nat → Value) (t : Tmp) : ∀ (ks : List Nat) (a : Act), (∀ k ∈ ks, opAt l k ≠ some t) → (fillBy l y a ks).eval (.tmp t) = a.eval (.tmp t)
  | [], _, _ => rfl
  | k :: ks, a, h => by
    show (fillBy l y (a.put (opAt l k) (y k)) ks).eval (.tmp t) = _
    rw [fill_none y t ks _ (fun j hj => h j (List.mem_cons_of_mem _ hj)), getD_put, if_neg (fun e => h k (List.mem_cons_self ..) e.1)]

/-- k alone writes t -/
theorem fill_one (y : Nat → Value) (t : Tmp) (k : Nat) (hk : opAt l k = some t) (hu : ∀ j, opAt l j = some t → j = k) : ∀ (ks : List Nat) (a : Act), k ∈ ks → t < a.tmps.size → (fillBy l y a ks).eval (.tmp t) = y k
  | [], _, h, _ => by simp at h
  | j :: ks, a, h, hs => by
    show (fillBy l y (a.put (opAt l j) (y j)) ks).eval (.tmp t) = _
    by_cases hkk : k ∈ ks
    · exact fill_one y t k hk hu ks _ hkk (by rw [size_put]; exact hs)
    · have hj : k = j := by
        rcases List.mem_cons.1 h with h | h
        · exact h
        · exact absurd h hkk
      subst hj
      rw [fill_none y t ks _ (fun i hi e => hkk (hu i e ▸ hi)), getD_put, if_pos ⟨hk, hs⟩]

structure St (l : List Oper) (R : Nat → MP) (C : World → Prop) (a0 : Act) (base : Nat) (listed : Array Bool) (a : Act) (w : World) (y : Nat → Value) (z : Nat → List Nat) : Prop where
  c : C w
  hb : base ≤ w.heap.size
  size : a.tmps.size = a0.tmps.size
  defers : a.defers = a0.defers
  facts : ∀ i, listed.getD i false = true → (R i).p (y i) (z i) w ∧ ∀ b ∈ z i, base ≤ b ∧ b < w.heap.size
  disj : ∀ i j, i ≠ j → listed.getD i false = true → listed.getD j false = true → ∀ b ∈ z i, b ∉ z j
  closed : ∀ k o, l[k]? = some o → listed.getD k false = true → ∀ e ∈ deps o, listed.getD e false = true
  evalL : ∀ t k, opAt l k = some t → listed.getD k false = true → a.eval (.tmp t) = y k
  evalN : ∀ t, (∀ k, opAt l k = some t → listed.getD k false = false) → a.eval (.tmp t) = a0.eval (.tmp t)

theorem monoB_spec {N : Nat} (h : monoB l N = true) :
    Region.noSelect l.toArray = true ∧ (∀ (k : Nat) t, opAt l k = some t → t < N) ∧ (∀ (j k : Nat) t, opAt l j = some t → opAt l k = some t → j = k) ∧
    (∀ (i : Nat) o, l[i]? = some o → ∀ t ∈ looks l o, ∀ (k : Nat) o', l[k]? = some o' → o'.dst = some t → k ∈ deps o ∨ i ∈ deps o') := by
  simp only [monoB, Bool.and_eq_true, List.all_eq_true] at h
  obtain ⟨h1, h2⟩ := h
  have mem : ∀ (i : Nat) o, l[i]? = some o → (o, i) ∈ l.zipIdx := fun i o ho => by
    rw [List.mem_iff_getElem?]
    exact ⟨i, by simp [List.getElem?_zipIdx, ho]⟩
  have ex : ∀ (k : Nat) t, opAt l k = some t → ∃ o, l[k]? = some o ∧ o.dst = some t := fun k t hk => by
    unfold opAt at hk
    cases ho : l[k]? with
    | none => simp [ho] at hk
    | some o => exact ⟨o, rfl, by simpa [ho] using hk⟩
  refine ⟨h1, fun k t hk => ?_, fun j k t hj hk => ?_, fun i o ho t ht k o' ho' hd => ?_⟩
  · obtain ⟨o, ho, hd⟩ := ex k t hk
    have := (h2 _ (mem k o ho)).1
    simp only [hd, Bool.and_eq_true, decide_eq_true_eq] at this
    exact this.1
  · obtain ⟨o, ho, hd⟩ := ex j t hj
    obtain ⟨o', ho', hd'⟩ := ex k t hk
    have := (h2 _ (mem j o ho)).1
    simp only [hd, Bool.and_eq_true, decide_eq_true_eq, List.all_eq_true] at this
    have h3 := this.2 _ (mem k o' ho')
    simpa [hd'] using h3
  · have h3 := (h2 _ (mem i o ho)).2 t ht _ (mem k o' ho')
    simp [hd] at h3
    exact h3

theorem execOp_of_looks {o : Oper} {a a' : Act} (hs : ∀ cs b, o.op ≠ .select cs b) (h : ∀ t ∈ looks l o, a.eval (.tmp t) = a'.eval (.tmp t)) : execOp a.eval o = execOp a'.eval o := by
  refine execOp_congr o hs fun x hx => ?_
  cases x with
  | tmp t => exact h t (by simp only [looks, Oper.looksAt, List.mem_append, List.mem_filterMap]; exact .inl ⟨.tmp t, by simpa using hx, rfl⟩)
  | _ => rfl

theorem yielded_at {tmps : Array Value} {j d : Nat} (hj : (l.toArray[j]?).bind (·.dst) = some d) :
    yielded l.toArray tmps j = match (Act.mk tmps []).eval (.tmp d) with | .bool b => some b | _ => none := by
  unfold yielded
  rw [hj]
  simp only [Option.bind_some, Act.eval, Array.getD_eq_getD_getElem?]
  cases tmps[d]? with
  | none => rfl
  | some v => cases v <;> rfl

theorem wanted_of_looks {o : Oper} {a a' : Act} (h : ∀ t ∈ looks l o, a.eval (.tmp t) = a'.eval (.tmp t)) : Region.wanted o (yielded l.toArray a.tmps) = Region.wanted o (yielded l.toArray a'.tmps) := by
  unfold Region.wanted
  cases hg : o.guard with
  | none => rfl
  | some g =>
    obtain ⟨j, want⟩ := g
    have e : yielded l.toArray a.tmps j = yielded l.toArray a'.tmps j := by
      cases hj : (l.toArray[j]?).bind (·.dst) with
      | none => unfold yielded; rw [hj]; rfl
      | some d =>
        rw [yielded_at hj, yielded_at hj, show (Act.mk a.tmps []).eval (.tmp d) = (Act.mk a'.tmps []).eval (.tmp d) from h d (by simp only [looks, Oper.looksAt, List.mem_append, hg]; exact .inr (by rw [hj]; simp))]
    show (yielded l.toArray a.tmps j == some want) = (yielded l.toArray a'.tmps j == some want)
    rw [e]

theorem wpAny_mono {Q : Exit → Act → World → Prop} {N : Nat} (hCup : ∀ w w', C w → base ≤ w.heap.size → Below w.heap.size w w' → C w') (hN : a0.tmps.size = N) (hB : monoB l N = true)
    (hpart : ∀ i o, l[i]? = some o → part P l R C a0 i o)
    (hQ : ∀ (y : Nat → Value) (z : Nat → List Nat) (w : World), C w → (∀ i, i < l.length → (R i).p (y i) (z i) w ∧ ∀ b ∈ z i, base ≤ b ∧ b < w.heap.size) → (∀ i j, i ≠ j → i < l.length → j < l.length → ∀ b ∈ z i, b ∉ z j) →
      Q .normal (fillBy l y a0 (List.range l.length)) w) (hcheck : ∀ (listed : Array Bool), listed.size = l.length → Region.ready .any l.toArray listed = [] → ∀ i, i < l.length → listed.getD i false = true) :
    ∀ (fuel : Nat) (listed : Array Bool) (a : Act) (w : World) (y : Nat → Value) (z : Nat → List Nat), listed.size = l.length → (listed.toList.filter (fun b => !b)).length ≤ fuel → St l R C a0 base listed a w y z → wpAny P .any l.toArray Q fuel listed a w := by
  obtain ⟨hs1, hs2, hs3, hs4⟩ := monoB_spec hB
  have hend : ∀ (listed : Array Bool) (a : Act) (w : World) (y : Nat → Value) (z : Nat → List Nat), listed.size = l.length → St l R C a0 base listed a w y z → Region.ready .any l.toArray listed = [] → Q .normal a w := by
    intro listed a w y z hsz st h0
    have hall := hcheck listed hsz h0
    have ha : a = fillBy l y a0 (List.range l.length) := by
      have e1 : a.tmps = (fillBy l y a0 (List.range l.length)).tmps := by
        apply Array.ext
        · rw [st.size, size_fill]
        · intro t h1 h2
          have key : a.eval (.tmp t) = (fillBy l y a0 (List.range l.length)).eval (.tmp t) := by
            by_cases hk : ∃ k, opAt l k = some t
            · obtain ⟨k, hk⟩ := hk
              have hkl : k < l.length := by
                unfold opAt at hk
                rcases Nat.lt_or_ge k l.length with h | h
                · exact h
                · simp [List.getElem?_eq_none h] at hk
              rw [st.evalL t k hk (hall k hkl), fill_one y t k hk (fun j hj => hs3 j k t hj hk) _ _ (List.mem_range.2 hkl) (by rw [← st.size]; exact h1)]
            · rw [st.evalN t (fun k hk' => absurd ⟨k, hk'⟩ hk), fill_none y t _ _ (fun k _ hk' => hk ⟨k, hk'⟩)]
          simpa [Act.eval, h1, h2] using key
      have e2 : a.defers = (fillBy l y a0 (List.range l.length)).defers := by rw [st.defers, defers_fill]
      cases a
      simp only at e1 e2
      rw [e1, e2]
    rw [ha]
    exact hQ y z w st.c (fun i hi => st.facts i (hall i hi)) (fun i j hij hi hj => st.disj i j hij (hall i hi) (hall j hj))
  intro fuel
  induction fuel with
  | zero =>
    intro listed a w y z hsz hf st
    have hno : Region.ready .any l.toArray listed = [] := by
      cases hr : Region.ready .any l.toArray listed with
      | nil => rfl
      | cons i is =>
        have hi : i ∈ Region.ready .any l.toArray listed := by rw [hr]; exact List.mem_cons_self ..
        obtain ⟨hun, _⟩ := mem_ready.1 hi
        exfalso
        have hlt : i < listed.size := by
          rcases Nat.lt_or_ge i listed.size with h | h
          · exact h
          · simp [Array.getElem?_eq_none h, Array.getD_eq_getD_getElem?] at hun
        have hmem : false ∈ listed.toList.filter (fun b => !b) := by
          rw [List.mem_filter]
          refine ⟨?_, rfl⟩
          have : listed[i] = false := by simpa [Array.getD_eq_getD_getElem?, hlt] using hun
          rw [← this]
          exact Array.getElem_mem_toList hlt
        have := List.length_pos_of_mem hmem
        omega
    exact ⟨hno, hend listed a w y z hsz st hno⟩
  | succ fuel ih =>
    intro listed a w y z hsz hf st
    refine ⟨fun h0 => hend listed a w y z hsz st h0, fun i hi => ?_⟩
    obtain ⟨hun, o, ho, hall⟩ := mem_ready.1 hi
    have hol : l[i]? = some o := by simpa using ho
    have hil : i < l.length := by
      rcases Nat.lt_or_ge i l.length with h | h
      · exact h
      · simp [List.getElem?_eq_none h] at hol
    have hlt : i < listed.size := by omega
    have hunF : listed.getD i false = false := by
      have : listed[i] = false := by simpa [Array.getD_eq_getD_getElem?, hlt] using hun
      simpa [Array.getD_eq_getD_getElem?, hlt] using this
    have hdep : ∀ e ∈ deps o, listed.getD e false = true := by
      intro e he
      obtain ⟨ed, hed, hbd, rfl⟩ := (mem_depOf e _).1 he
      simpa using hall ed (by simpa using hed) hbd
    have hsel : ∀ cs b, o.op ≠ .select cs b := fun cs b => Region.noSelect_spec hs1 i o cs b ho
    -- the frame looks like the filled one
    have hlook : ∀ t ∈ looks l o, a.eval (.tmp t) = (fillBy l y a0 (deps o)).eval (.tmp t) := by
      intro t ht
      by_cases hk : ∃ k, opAt l k = some t
      · obtain ⟨k, hk⟩ := hk
        obtain ⟨o', ho', hd'⟩ : ∃ o', l[k]? = some o' ∧ o'.dst = some t := by
          unfold opAt at hk
          cases h : l[k]? with
          | none => simp [h] at hk
          | some o' => exact ⟨o', rfl, by simpa [h] using hk⟩
        by_cases hkd : k ∈ deps o
        · rw [st.evalL t k hk (hdep k hkd), fill_one y t k hk (fun j hj => hs3 j k t hj hk) _ _ hkd (by rw [hN]; exact hs2 k t hk)]
        · have hik : i ∈ deps o' := (hs4 i o hol t ht k o' ho' hd').resolve_left hkd
          have hkun : listed.getD k false = false := by
            cases hkk : listed.getD k false with
            | false => rfl
            | true => have := st.closed k o' ho' hkk i hik; rw [hunF] at this; cases this
          rw [st.evalN t (fun k' hk' => by rw [hs3 k' k t hk' hk]; exact hkun), fill_none y t _ _ (fun k' hk'd hk' => hkd (hs3 k' k t hk' hk ▸ hk'd))]
      · rw [st.evalN t (fun k hk' => absurd ⟨k, hk'⟩ hk), fill_none y t _ _ (fun k _ hk' => hk ⟨k, hk'⟩)]
    have hp := hpart i o hol y z w st.c (fun k hk => (st.facts k (hdep k hk)).1)
    rw [← wanted_of_looks hlook] at hp
    -- the step onward
    have onward : ∀ (v : Value) (bs : List Nat) (w' : World), C w' → Below w.heap.size w w' → (R i).p v bs w' → (∀ b ∈ bs, w.heap.size ≤ b ∧ b < w'.heap.size) → wpAny P .any l.toArray Q fuel (listed.setIfInBounds i true) (a.put o.dst v) w' := by
      intro v bs w' hC' hbw hRv hbs
      have hset : ∀ j, (listed.setIfInBounds i true).getD j false = if j = i then true else listed.getD j false := by
        intro j
        by_cases hj : j = i
        · subst hj; simp [hlt]
        · simp [Array.getD_eq_getD_getElem?, Array.getElem?_setIfInBounds_ne (Ne.symm hj), hj]
      have hyi : ∀ j, (fun j => if j = i then v else y j) j = if j = i then v else y j := fun _ => rfl
      refine ih (listed.setIfInBounds i true) (a.put o.dst v) w' (fun j => if j = i then v else y j) (fun j => if j = i then bs else z j) (by simpa using hsz) ?_ ?_
      · have : ∀ (L : List Bool) (i : Nat), L[i]? = some false → ((L.set i true).filter (fun b => !b)).length + 1 = (L.filter (fun b => !b)).length := by
          intro L
          induction L with
          | nil => intro i h; simp at h
          | cons b L ihL =>
            intro i h
            cases i with
            | zero => simp at h; subst h; simp
            | succ i => simp at h; have := ihL i h; cases b <;> simp_all
        have h1 := this listed.toList i (by
          have : listed[i] = false := by simpa [Array.getD_eq_getD_getElem?, hlt] using hun
          simp [hlt, this])
        have h2 : (listed.setIfInBounds i true).toList = listed.toList.set i true := by simp
        rw [h2]; omega
      · refine ⟨hC', Nat.le_trans st.hb hbw.size, by rw [size_put, st.size], by rw [defers_put, st.defers], ?_, ?_, ?_, ?_, ?_⟩
        · intro j hj
          rw [hset] at hj
          by_cases hji : j = i
          · subst hji; simp only [if_true]; exact ⟨hRv, fun b hb => ⟨Nat.le_trans st.hb (hbs b hb).1, (hbs b hb).2⟩⟩
          · simp only [hji, if_false] at hj ⊢
            exact ⟨(R j).mono _ _ _ _ hbw (st.facts j hj).1, fun b hb => ⟨((st.facts j hj).2 b hb).1, Nat.lt_of_lt_of_le ((st.facts j hj).2 b hb).2 hbw.size⟩⟩
        · intro j k hjk hj hk b hb hb'
          rw [hset] at hj hk
          by_cases hji : j = i
          · subst hji
            have hkj : ¬ k = j := fun e => hjk e.symm
            simp only [if_true, hkj, if_false] at hb hb' hk
            have h1 := (hbs b hb).1
            have h2 := ((st.facts k hk).2 b hb').2
            omega
          · by_cases hki : k = i
            · subst hki
              simp only [if_true, hji, if_false] at hb hb' hj
              have h1 := (hbs b hb').1
              have h2 := ((st.facts j hj).2 b hb).2
              omega
            · simp only [hji, hki, if_false] at hb hb' hj hk
              exact st.disj j k hjk hj hk b hb hb'
        · intro k o' ho' hk e he
          rw [hset] at hk ⊢
          by_cases hei : e = i
          · simp [hei]
          · simp only [hei, if_false]
            by_cases hki : k = i
            · subst hki
              rw [hol] at ho'; cases ho'
              exact hdep e he
            · simp only [hki, if_false] at hk
              exact st.closed k o' ho' hk e he
        · intro t k hk hkl
          rw [hset] at hkl
          by_cases hki : k = i
          · subst hki
            have hd : o.dst = some t := by simpa [opAt, hol] using hk
            rw [getD_put, if_pos ⟨hd, by rw [st.size, hN]; exact hs2 k t hk⟩]
            simp
          · simp only [hki, if_false] at hkl ⊢
            rw [getD_put, if_neg, st.evalL t k hk hkl]
            rintro ⟨hd, _⟩
            exact hki (hs3 k i t hk (by simpa [opAt, hol] using hd))
        · intro t ht
          have hit : opAt l i ≠ some t := fun e => by have := ht i e; rw [hset] at this; simp at this
          rw [getD_put, if_neg (fun e => hit (by simpa [opAt, hol] using e.1))]
          refine st.evalN t fun k hk => ?_
          have := ht k hk
          rw [hset] at this
          by_cases hki : k = i
          · simp [hki] at this
          · simpa [hki] using this
    -- the operation itself
    unfold wpOp
    simp only [ho]
    split
    · rename_i hw
      rw [if_pos hw] at hp
      refine .inl ?_
      unfold gives at hp
      unfold Oper.wp
      rw [← execOp_of_looks hsel hlook] at hp
      generalize (execOp a.eval o).run P w = r at hp
      cases r with
      | ok n w' =>
        cases n <;> simp only [giveUpon] at hp <;> simp only [Oper.upon]
        case value u =>
          obtain ⟨h2, bs, h3, h4⟩ := hp
          exact onward _ bs _ (hCup _ _ st.c st.hb h2) h2 h3 h4
        case skip =>
          obtain ⟨h2, bs, h3, h4⟩ := hp
          exact onward _ bs _ (hCup _ _ st.c st.hb h2) h2 h3 h4
        case enter f args =>
          refine hp.mono fun e w'' he => ?_
          obtain ⟨v, rfl, h2, bs, h3, h4⟩ := he
          exact onward _ bs _ (hCup _ _ st.c st.hb h2) h2 h3 h4
      | halt x w' => simp only [giveUpon] at hp
    · rename_i hw
      rw [if_neg hw] at hp
      exact onward undef [] w st.c (Below.refl _ _) hp (fun b hb => by simp at hb)

/-- all parts, one behind the other -/
def parts (P : Program) (l : List Oper) (R : Nat → MP) (C : World → Prop) (a0 : Act) : Nat → List Oper → Prop
  | _, [] => True
  | i, o :: os => part P l R C a0 i o ∧ parts P l R C a0 (i + 1) os

theorem parts_spec : ∀ (os : List Oper) (k : Nat), parts P l R C a0 k os → ∀ i o, os[i]? = some o → part P l R C a0 (k + i) o
  | [], _, _, i, o, h => by simp at h
  | x :: os, k, hp, 0, o, h => by simp at h; subst h; exact hp.1
  | x :: os, k, hp, i + 1, o, h => by
    have := parts_spec os (k + 1) hp.2 i o (by simpa using h)
    rw [show k + (i + 1) = k + 1 + i by omega]; exact this

/-- every operation's edges point backward -/
def backB (l : List Oper) : Bool := l.zipIdx.all fun (o, i) => (deps o).all fun e => decide (e < i)

theorem ready_all (hB : backB l = true) (listed : Array Bool) (hsz : listed.size = l.length) (h0 : Region.ready .any l.toArray listed = []) : ∀ i, i < l.length → listed.getD i false = true := by
  intro i
  induction i using Nat.strongRecOn with
  | _ i ih =>
    intro hi
    cases hc : listed.getD i false with
    | true => rfl
    | false =>
      exfalso
      have hol : l[i]? = some l[i] := List.getElem?_eq_getElem hi
      have hd : ∀ e ∈ deps l[i], e < i := by
        intro e he
        simp only [backB, List.all_eq_true] at hB
        have := hB (l[i], i) (by rw [List.mem_iff_getElem?]; exact ⟨i, by simp [List.getElem?_zipIdx, hol]⟩) e he
        simpa using this
      have : i ∈ Region.ready .any l.toArray listed := mem_ready.2 ⟨by
        have hlt : i < listed.size := by omega
        simpa [Array.getD_eq_getD_getElem?, hlt] using hc, l[i], by simp, fun e he hb => by
        have hm : e.on ∈ deps l[i] := (mem_depOf _ _).2 ⟨e, by simpa using he, hb, rfl⟩
        have := ih e.on (hd _ hm) (by have := hd _ hm; omega)
        simpa using this⟩
      rw [h0] at this
      cases this

/-- **The rule.** -/
theorem wp_region_mono {id : Nat} {Q : Exit → Act → World → Prop} {w : World} (Rs : List MP) (hm : P.follows .mixedOrders = true) (hB : monoB l a0.tmps.size = true) (hK : backB l = true)
    (hparts : parts P l (fun i => Rs.getD i (MP.eq undef)) (fun w' => Below w.heap.size w w') a0 0 l)
    (hQ : ∀ (y : Nat → Value) (z : Nat → List Nat) (w' : World), Below w.heap.size w w' → (∀ i, i < l.length → (Rs.getD i (MP.eq undef)).p (y i) (z i) w' ∧ ∀ b ∈ z i, w.heap.size ≤ b ∧ b < w'.heap.size) →
      (∀ i j, i ≠ j → i < l.length → j < l.length → ∀ b ∈ z i, b ∉ z j) → Q .normal (fillBy l y a0 (List.range l.length)) w') : (Code.region id l.toArray true).wp P Q a0 w := by
  refine wp_region_any hm ?_
  refine wpAny_mono (R := fun i => Rs.getD i (MP.eq undef)) (C := fun w' => Below w.heap.size w w') (a0 := a0) (base := w.heap.size) (N := a0.tmps.size) (fun w1 w2 h1 h2 h3 => h1.trans (h3.mono h2)) rfl hB (fun i o ho => by have := parts_spec l 0 hparts i o ho; rwa [Nat.zero_add] at this) hQ (fun listed hsz h0 => ready_all hK listed hsz h0) _ _ a0 _ (fun _ => undef) (fun _ => []) (by simp) ?_ ?_
  · simp
  · have hf : ∀ i, (Array.replicate l.toArray.size false).getD i false = false := by
      intro i
      rw [Array.getD_eq_getD_getElem?, Array.getElem?_replicate]
      split <;> rfl
    refine ⟨⟨rfl, rfl, rfl, Nat.le_refl _, fun _ _ => rfl⟩, Nat.le_refl _, rfl, rfl, ?_, ?_, ?_, ?_, ?_⟩
    · intro i hi; rw [hf] at hi; cases hi
    · intro i j _ hi; rw [hf] at hi; cases hi
    · intro k o _ hk; rw [hf] at hk; cases hk
    · intro t k _ hk; rw [hf] at hk; cases hk
    · intro t _; rfl
/-- one operation's part, over what is known of those before it -/
def partOf (P : Program) (l : List Oper) (acc : List MP) (m : MP) (w0 : World) (a0 : Act) (o : Oper) : Prop :=
  ∀ (y : Nat → Value) (z : Nat → List Nat) (w : World), Below w0.heap.size w0 w → (∀ k ∈ deps o, (acc.getD k (MP.eq undef)).p (y k) (z k) w) →
    if Region.wanted o (yielded l.toArray (fillBy l y a0 (deps o)).tmps) then
      gives P o (fillBy l y a0 (deps o)) w fun v w' => Below w.heap.size w w' ∧ ∃ bs, m.p v bs w' ∧ ∀ b ∈ bs, w.heap.size ≤ b ∧ b < w'.heap.size
    else m.p undef [] w

/-- the walk in the text's order: each operation is told what it gives -/
def walkM (P : Program) (l : List Oper) (w0 : World) (a0 : Act) (F : List MP → Prop) : List Oper → List MP → Prop
  | [], acc => F acc
  | o :: os, acc => ∃ m : MP, partOf P l acc m w0 a0 o ∧ walkM P l w0 a0 F os (acc ++ [m])

theorem walkM_parts {w0 : World} {F : List MP → Prop} (hK : backB l = true) : ∀ (os : List Oper) (acc : List MP), (∀ j, os[j]? = l[acc.length + j]?) → walkM P l w0 a0 F os acc →
    ∃ Rs : List MP, F Rs ∧ (∀ k, k < acc.length → Rs.getD k (MP.eq undef) = acc.getD k (MP.eq undef)) ∧ parts P l (fun i => Rs.getD i (MP.eq undef)) (fun w' => Below w0.heap.size w0 w') a0 acc.length os
  | [], acc, _, h => ⟨acc, h, fun _ _ => rfl, trivial⟩
  | o :: os, acc, hl, h => by
    obtain ⟨m, hp, hw⟩ := h
    obtain ⟨Rs, hF, hag, hps⟩ := walkM_parts hK os (acc ++ [m]) (fun j => by have := hl (j + 1); simpa [Nat.add_assoc, Nat.add_comm 1 j] using this) hw
    have hlow : ∀ k, k < acc.length → Rs.getD k (MP.eq undef) = acc.getD k (MP.eq undef) := fun k hk => by
      rw [hag k (by simp; omega)]
      simp [List.getD_eq_getElem?_getD, List.getElem?_append_left hk]
    have hself : Rs.getD acc.length (MP.eq undef) = m := by rw [hag _ (by simp)]; simp [List.getD_eq_getElem?_getD]
    refine ⟨Rs, hF, hlow, ?_, by simpa using hps⟩
    intro y z w hC hd
    have hol : l[acc.length]? = some o := by simpa using (hl 0).symm
    have := hp y z w hC (fun k hk => by
      have hlt : k < acc.length := by
        simp only [backB, List.all_eq_true] at hK
        have := hK (o, acc.length) (by rw [List.mem_iff_getElem?]; exact ⟨acc.length, by simp [List.getElem?_zipIdx, hol]⟩) k hk
        simpa using this
      have h1 := hd k hk
      simp only [hlow k hlt] at h1
      exact h1)
    simp only [hself]
    exact this

/-- what is known in the end of the operations from number i on -/
def Facts (w w' : World) (y : Nat → Value) (z : Nat → List Nat) : Nat → List MP → Prop
  | _, [] => True
  | i, m :: ms => (m.p (y i) (z i) w' ∧ ∀ b ∈ z i, w.heap.size ≤ b ∧ b < w'.heap.size) ∧ Facts w w' y z (i + 1) ms

theorem facts_of {w w' : World} {y : Nat → Value} {z : Nat → List Nat} : ∀ (ms : List MP) (i : Nat), (∀ k m, ms[k]? = some m → m.p (y (i + k)) (z (i + k)) w' ∧ ∀ b ∈ z (i + k), w.heap.size ≤ b ∧ b < w'.heap.size) → Facts w w' y z i ms
  | [], _, _ => trivial
  | m :: ms, i, h => ⟨by have := h 0 m rfl; exact this, facts_of ms (i + 1) fun k m' hk => by have := h (k + 1) m' (by simpa using hk); rw [show i + 1 + k = i + (k + 1) by omega]; exact this⟩

/-- the blocks of two operations don't meet -/
def Disj (z : Nat → List Nat) (n : Nat) : Prop := ∀ i j, i ≠ j → i < n → j < n → ∀ b ∈ z i, b ∉ z j

/-- **The rule, step by step.** -/
theorem wp_region_walk {id : Nat} {Q : Exit → Act → World → Prop} {w : World} (hm : P.follows .mixedOrders = true) (hB : monoB l a0.tmps.size = true) (hK : backB l = true)
    (h : walkM P l w a0 (fun Rs => ∀ (y : Nat → Value) (z : Nat → List Nat) (w' : World), Below w.heap.size w w' → Facts w w' y z 0 (Rs.take l.length) →
      Disj z l.length → Q .normal (fillBy l y a0 (List.range l.length)) w') l []) : (Code.region id l.toArray true).wp P Q a0 w := by
  obtain ⟨Rs, hF, _, hps⟩ := walkM_parts hK l [] (by simp) h
  refine wp_region_mono Rs hm hB hK hps fun y z w' h1 h2 h3 => hF y z w' h1 (facts_of _ 0 fun k m hk => ?_) h3
  rw [Nat.zero_add]
  rw [List.getElem?_take] at hk
  split at hk
  · rename_i hlt
    have := h2 k hlt
    simpa [List.getD_eq_getElem?_getD, hk] using this
  · cases hk

/-- an operation that reckons or reads -/
theorem walkM_eq {w0 : World} {F : List MP → Prop} {o : Oper} {os : List Oper} {acc : List MP} (v : Value)
    (h : ∀ (y : Nat → Value) (z : Nat → List Nat) (w : World), Below w0.heap.size w0 w → (∀ k ∈ deps o, (acc.getD k (MP.eq undef)).p (y k) (z k) w) →
      Region.wanted o (yielded l.toArray (fillBy l y a0 (deps o)).tmps) = true ∧ (execOp (fillBy l y a0 (deps o)).eval o).run P w = .ok (.value v) w)
    (hr : walkM P l w0 a0 F os (acc ++ [MP.eq v])) : walkM P l w0 a0 F (o :: os) acc := by
  refine ⟨_, fun y z w hC hd => ?_, hr⟩
  obtain ⟨h1, h2⟩ := h y z w hC hd
  rw [if_pos h1]
  unfold gives
  rw [h2]
  exact ⟨Below.refl _ _, [], ⟨rfl, rfl⟩, fun b hb => by simp at hb⟩

/-- an operation that is passed over -/
theorem walkM_skip {w0 : World} {F : List MP → Prop} {o : Oper} {os : List Oper} {acc : List MP}
    (h : ∀ (y : Nat → Value) (z : Nat → List Nat) (w : World), Below w0.heap.size w0 w → (∀ k ∈ deps o, (acc.getD k (MP.eq undef)).p (y k) (z k) w) →
      Region.wanted o (yielded l.toArray (fillBy l y a0 (deps o)).tmps) = false)
    (hr : walkM P l w0 a0 F os (acc ++ [MP.eq undef])) : walkM P l w0 a0 F (o :: os) acc := by
  refine ⟨_, fun y z w hC hd => ?_, hr⟩
  rw [if_neg (by rw [h y z w hC hd]; simp)]
  exact ⟨rfl, rfl⟩

/-- a call -/
theorem walkM_call {w0 : World} {F : List MP → Prop} {o : Oper} {os : List Oper} {acc : List MP} (m : MP)
    (h : ∀ (y : Nat → Value) (z : Nat → List Nat) (w : World), Below w0.heap.size w0 w → (∀ k ∈ deps o, (acc.getD k (MP.eq undef)).p (y k) (z k) w) →
      Region.wanted o (yielded l.toArray (fillBy l y a0 (deps o)).tmps) = true ∧ ∃ f args, (execOp (fillBy l y a0 (deps o)).eval o).run P w = .ok (.enter f args) w ∧
        Calls P f args w fun e w' => ∃ v, e = .returned v ∧ Below w.heap.size w w' ∧ ∃ bs, m.p v bs w' ∧ ∀ b ∈ bs, w.heap.size ≤ b ∧ b < w'.heap.size)
    (hr : walkM P l w0 a0 F os (acc ++ [m])) : walkM P l w0 a0 F (o :: os) acc := by
  refine ⟨m, fun y z w hC hd => ?_, hr⟩
  obtain ⟨h1, f, args, h2, h3⟩ := h y z w hC hd
  rw [if_pos h1]
  unfold gives
  rw [h2]
  exact h3
end
end Go.XB
