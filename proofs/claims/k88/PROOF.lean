import PyProof.Rows.All
import Wide.All
import OpenK.AllK
import Wide.FinOn
import HandS.ForMost
import HandS.Codes
import KE.IntTextLaws
import HandS.Lambda
import HandS.EndTab
import HandS.ForExc
import HandS.ExcInit
import HandS.ExcValue
import HandS.ExcIs
import HandS.IsInst
import KE.KExcSuper
import HandS.Rev
import HandS.Walk
import HandS.RaiseMore
import PyProof.Draws
import PyProof.ReprRoads
import HandS.ExcField
import HandS.ExcSuper
import KE.KSuper
import KE.KExcIs
import HandS.List
import PyProof.AutoSeq1
import PyProof.NeKinds
import HandS.ExcOwn
import HandS.WordsExc
import PyProof.StrBlock2
import PyProof.CallFns
import PySem.Challenge.RW_switchbook_k88_values_written
import PyProof.Rows.StrDigitsNeg
import KE.IntTextText
import PyProof.P3Eq
import PyProof.Lay0
import PyProof.ReprReads
import PyProof.StrLawsRepr
import PyProof.EqLayable
import PyProof.ReprLen
import HandS.CallRecv
import KE.KStateDown
import HandS.Head0
import HandS.Head1
import HandS.Head2
import HandS.HeadEnd
import HandS.HeadHook1
import HandS.HeadHook2
import HandS.HeadHook3
import HandS.HeadHook4
import HandS.Defaults
set_option linter.all false
set_option maxRecDepth 100000
set_option maxHeartbeats 4000000
/-! the mathematics of values10.py: values as trees (PyData), texts as lists of codes -/
namespace Sb
open PySem

def isSmall (c : Nat) : Bool := decide (97 ≤ c) && decide (c ≤ 122)
def isFig (c : Nat) : Bool := decide (48 ≤ c) && decide (c ≤ 57)
def isWordL (l : List Nat) : Bool := !l.isEmpty && l.all isSmall
def isWord : PyData → Bool
  | .str x => isWordL x.cps.toList
  | _ => false
def isFigure : PyData → Bool
  | .int i => decide (i.natAbs < 1000000000000)
  | _ => false
def leafOk : PyData → Bool
  | .none => true
  | .str x => isWordL x.cps.toList
  | .int i => decide (i.natAbs < 1000000000000)
  | _ => false
/-- one layer: what lies a layer deeper, none where something is no value -/
def lay (last : Bool) : List PyData → Option (List PyData)
  | [] => some []
  | .tuple xs :: r => if last then none else (lay last r).map (xs ++ ·)
  | d :: r => if leafOk d then lay last r else none
def isValGo : Nat → List PyData → Bool
  | 0, _ => false
  | n + 1, l => match lay (n == 0) l with
    | none => false
    | some later => later.isEmpty || isValGo n later
def isValue (d : PyData) : Bool := isValGo 60 [d]

def intL (i : Int) : List Nat := if i < 0 then 45 :: TL.numL i.natAbs else TL.numL i.natAbs
mutual
def vt : PyData → List Nat
  | .none => [45]
  | .int i => intL i
  | .str x => x.cps.toList
  | .tuple xs => 40 :: (vtAll xs ++ [41])
  | _ => []
def vtAll : List PyData → List Nat
  | [] => []
  | d :: r => vt d ++ vtTail r
def vtTail : List PyData → List Nat
  | [] => []
  | d :: r => 32 :: (vt d ++ vtTail r)
end
mutual
def wf : PyData → Bool
  | .tuple xs => wfAll xs
  | .none => true
  | .str x => isWordL x.cps.toList
  | .int i => decide (i.natAbs < 1000000000000)
  | _ => false
def wfAll : List PyData → Bool
  | [] => true
  | d :: r => wf d && wfAll r
end
mutual
def dep : PyData → Nat
  | .tuple xs => 1 + depAll xs
  | _ => 0
def depAll : List PyData → Nat
  | [] => 0
  | d :: r => max (dep d) (depAll r)
end
mutual
def sz : PyData → Nat
  | .tuple xs => 1 + szAll xs
  | _ => 1
def szAll : List PyData → Nat
  | [] => 0
  | d :: r => sz d + szAll r
end
theorem wfAll_mem : ∀ {l : List PyData}, wfAll l = true ↔ ∀ d ∈ l, wf d = true
  | [] => by simp [wfAll]
  | d :: r => by simp [wfAll, wfAll_mem (l := r)]
theorem depAll_mem : ∀ {l : List PyData} {n : Nat}, depAll l ≤ n ↔ ∀ d ∈ l, dep d ≤ n
  | [], n => by simp [depAll]
  | d :: r, n => by simp [depAll, Nat.max_le, depAll_mem (l := r)]
theorem szAll_append : ∀ (a b : List PyData), szAll (a ++ b) = szAll a + szAll b
  | [], b => by simp [szAll]
  | d :: r, b => by simp [szAll, szAll_append r b]; omega
theorem sz_pos (d : PyData) : 1 ≤ sz d := by
  cases d <;> simp [sz]
theorem len_szAll : ∀ l : List PyData, l.length ≤ szAll l
  | [] => by simp
  | d :: r => by have := len_szAll r; have := sz_pos d; simp [szAll]; omega

/-- lay's answer -/
def isTup : PyData → Bool
  | .tuple _ => true
  | _ => false
def kids : PyData → List PyData
  | .tuple xs => xs
  | _ => []
theorem lay_cons (last : Bool) (d : PyData) (r : List PyData) : lay last (d :: r) = if isTup d && !last then (lay last r).map (kids d ++ ·) else if leafOk d then lay last r else none := by
  cases d <;> cases last <;> simp [lay, isTup, kids, leafOk]
theorem leafOk_eq (d : PyData) : leafOk d = (decide (d matches .none) || isWord d || isFigure d) := by
  cases d <;> simp [leafOk, isWord, isFigure]
theorem lay_sz : ∀ {last : Bool} {l later : List PyData}, lay last l = some later → szAll later ≤ szAll l
  | last, [], later, h => by simp [lay] at h; subst h; simp
  | last, d :: r, later, h => by
    rw [lay_cons] at h
    split at h
    · cases e : lay last r with
      | none => simp [e] at h
      | some x =>
        simp only [e, Option.map_some, Option.some.injEq] at h
        subst h
        have := lay_sz e
        rw [szAll_append]
        cases d <;> simp_all [isTup, kids, szAll, sz] <;> omega
    · split at h
      · have := lay_sz h; simp [szAll]; omega
      · cases h
theorem leaf_wf {d : PyData} (h : leafOk d = true) : wf d = true ∧ dep d = 0 ∧ isTup d = false := by
  cases d <;> simp_all [leafOk, wf, dep, isTup]
theorem wf_leaf {d : PyData} (h : wf d = true) (t : isTup d = false) : leafOk d = true := by
  cases d <;> simp_all [leafOk, wf, isTup]
theorem lay_of : ∀ {last : Bool} {l : List PyData} {n : Nat}, (∀ d ∈ l, wf d = true ∧ dep d ≤ n) → (last = (n == 0)) → ∃ later, lay last l = some later ∧ ∀ d ∈ later, wf d = true ∧ dep d + 1 ≤ n
  | last, [], n, _, _ => ⟨[], rfl, by simp⟩
  | last, d :: r, n, h, hl => by
    obtain ⟨x, e, hx⟩ := lay_of (last := last) (l := r) (n := n) (fun d hd => h d (List.mem_cons_of_mem _ hd)) hl
    rw [lay_cons]
    obtain ⟨w, dn⟩ := h d (List.mem_cons_self ..)
    cases t : isTup d with
    | true =>
      cases d with
      | tuple xs =>
        have hn : n ≠ 0 := by intro z; subst z; simp [dep] at dn
        have : last = false := by rw [hl]; simpa using hn
        subst this
        refine ⟨xs ++ x, by simp [e, kids], fun c hc => ?_⟩
        rcases List.mem_append.mp hc with hc | hc
        · refine ⟨wfAll_mem.mp (by simpa [wf] using w) c hc, ?_⟩
          have q : depAll xs ≤ n - 1 := by simp [dep] at dn; omega
          have := depAll_mem.mp q c hc
          omega
        · exact hx c hc
      | _ => simp [isTup] at t
    | false =>
      refine ⟨x, by simp [wf_leaf w t, e], hx⟩
theorem isValGo_of : ∀ {n : Nat} {l : List PyData}, (∀ d ∈ l, wf d = true ∧ dep d ≤ n) → isValGo (n + 1) l = true
  | n, l, h => by
    obtain ⟨later, e, hl⟩ := lay_of (last := n == 0) h rfl
    unfold isValGo
    rw [e]
    cases later with
    | nil => simp
    | cons c r =>
      cases n with
      | zero => have := (hl c (List.mem_cons_self ..)).2; omega
      | succ n =>
        have := isValGo_of (n := n) (l := c :: r) fun d hd => ⟨(hl d hd).1, by have := (hl d hd).2; omega⟩
        simp [this]
theorem isValue_of {d : PyData} (w : wf d = true) (h : dep d ≤ 59) : isValue d = true :=
  isValGo_of (n := 59) (l := [d]) fun c hc => by rw [List.mem_singleton.mp hc]; exact ⟨w, h⟩
theorem of_lay : ∀ {last : Bool} {l later : List PyData} {n : Nat}, lay last l = some later → (last = (n == 0)) → (∀ d ∈ later, wf d = true ∧ dep d + 1 ≤ n) → ∀ d ∈ l, wf d = true ∧ dep d ≤ n
  | last, [], later, n, _, _, _ => by simp
  | last, d :: r, later, n, h, hn, hl => by
    rw [lay_cons] at h
    split at h
    · rename_i t
      cases e : lay last r with
      | none => simp [e] at h
      | some x =>
        simp only [e, Option.map_some, Option.some.injEq] at h
        subst h
        have ih := of_lay e hn fun c hc => hl c (List.mem_append_right _ hc)
        cases d with
        | tuple xs =>
          have hl' : ∀ c ∈ xs, wf c = true ∧ dep c + 1 ≤ n := fun c hc => hl c (List.mem_append_left _ (by simpa [kids] using hc))
          intro c hc
          rcases List.mem_cons.mp hc with z | z
          · subst z
            refine ⟨by simpa [wf] using wfAll_mem.mpr fun c hc => (hl' c hc).1, ?_⟩
            have q : depAll xs ≤ n - 1 := depAll_mem.mpr fun c hc => by have := (hl' c hc).2; omega
            have : n ≠ 0 := by
              intro z
              subst z
              simp [isTup, hn] at t
            simp only [dep]
            omega
          · exact ih c z
        | _ => simp [isTup] at t
    · split at h
      · rename_i lf
        intro c hc
        rcases List.mem_cons.mp hc with z | z
        · subst z
          obtain ⟨w, z, _⟩ := leaf_wf lf
          exact ⟨w, by omega⟩
        · exact of_lay h hn hl c z
      · cases h
theorem of_isValGo : ∀ {n : Nat} {l : List PyData}, isValGo (n + 1) l = true → ∀ d ∈ l, wf d = true ∧ dep d ≤ n
  | n, l, h => by
    unfold isValGo at h
    cases e : lay (n == 0) l with
    | none => simp [e] at h
    | some later =>
      simp only [e, Bool.or_eq_true] at h
      refine of_lay e rfl ?_
      rcases h with h | h
      · have : later = [] := by simpa using h
        subst this
        simp
      · cases n with
        | zero => simp [isValGo] at h
        | succ n =>
          intro d hd
          obtain ⟨a, b⟩ := of_isValGo h d hd
          exact ⟨a, by omega⟩
theorem of_isValue {d : PyData} (h : isValue d = true) : wf d = true ∧ dep d ≤ 59 := of_isValGo (n := 59) h d (List.mem_singleton.mpr rfl)

/-! ### texts: pieces, reading -/
def special (c : Nat) : Bool := decide (c = 40) || decide (c = 41) || decide (c = 32)
def piecesGo : Nat → List Nat → List (List Nat)
  | 0, _ => []
  | _ + 1, [] => []
  | n + 1, c :: r => if special c then [c] :: piecesGo n r else (c :: r.takeWhile (fun c => !special c)) :: piecesGo n (r.dropWhile (fun c => !special c))
def pieces (l : List Nat) : List (List Nat) := piecesGo l.length l
theorem dropWhile_len {p : Nat → Bool} : ∀ l : List Nat, (l.dropWhile p).length ≤ l.length
  | [] => by simp
  | c :: r => by
    rw [List.dropWhile_cons]
    split
    · have := dropWhile_len (p := p) r; simp; omega
    · simp
theorem piecesGo_more : ∀ {n m : Nat} {l : List Nat}, l.length ≤ n → l.length ≤ m → piecesGo n l = piecesGo m l
  | 0, 0, [], _, _ => rfl
  | 0, _ + 1, [], _, _ => rfl
  | _ + 1, 0, [], _, _ => rfl
  | _ + 1, _ + 1, [], _, _ => rfl
  | n + 1, m + 1, c :: r, h1, h2 => by
    simp only [List.length_cons] at h1 h2
    unfold piecesGo
    have e := dropWhile_len (p := fun c => !special c) r
    rw [piecesGo_more (n := n) (m := m) (l := r) (by omega) (by omega), piecesGo_more (n := n) (m := m) (l := r.dropWhile _) (by omega) (by omega)]
theorem pieces_nil : pieces [] = [] := rfl
theorem pieces_sp {c : Nat} {r : List Nat} (h : special c = true) : pieces (c :: r) = [c] :: pieces r := by
  show piecesGo (r.length + 1) (c :: r) = _
  rw [piecesGo, if_pos h]
  rfl
theorem pieces_tk {c : Nat} {r : List Nat} (h : special c = false) : pieces (c :: r) = (c :: r.takeWhile (fun c => !special c)) :: pieces (r.dropWhile (fun c => !special c)) := by
  show piecesGo (r.length + 1) (c :: r) = _
  rw [piecesGo, if_neg (by simp [h])]
  rw [show pieces (r.dropWhile (fun c => !special c)) = piecesGo (r.dropWhile (fun c => !special c)).length (r.dropWhile (fun c => !special c)) from rfl]
  rw [piecesGo_more (n := r.length) (dropWhile_len _) (Nat.le_refl _)]
/-- what a token may be followed by -/
def endsTok (l : List Nat) : Bool := match l with
  | [] => true
  | c :: _ => special c
theorem pieces_tok : ∀ {t rest : List Nat}, t ≠ [] → (∀ c ∈ t, special c = false) → endsTok rest = true → pieces (t ++ rest) = t :: pieces rest := by
  have key : ∀ (t rest : List Nat), (∀ c ∈ t, special c = false) → endsTok rest = true → (t ++ rest).takeWhile (fun c => !special c) = t ∧ (t ++ rest).dropWhile (fun c => !special c) = rest := by
    intro t
    induction t with
    | nil =>
      intro rest _ h
      cases rest with
      | nil => simp
      | cons c r => simp [endsTok] at h; simp [h]
    | cons c t ih =>
      intro rest h1 h2
      obtain ⟨a, b⟩ := ih rest (fun c hc => h1 c (List.mem_cons_of_mem _ hc)) h2
      have hc := h1 c (List.mem_cons_self ..)
      simp [hc, a, b]
  intro t rest hne h1 h2
  cases t with
  | nil => exact absurd rfl hne
  | cons c t =>
    obtain ⟨a, b⟩ := key t rest (fun c hc => h1 c (List.mem_cons_of_mem _ hc)) h2
    rw [List.cons_append, pieces_tk (h1 c (List.mem_cons_self ..)), a, b]

def bareOf (p : List Nat) : List Nat := if p.take 1 = [45] then p.drop 1 else p
def valOf (p : List Nat) : Int := if p.take 1 = [45] then -((NumText.digitsVal (bareOf p) : Nat) : Int) else ((NumText.digitsVal (bareOf p) : Nat) : Int)
def plainOf (p : List Nat) : Option PyData :=
  if p = [45] then some .none
  else if isWordL p then some (.str (SX.S p))
  else if (1 ≤ (bareOf p).length ∧ (bareOf p).length ≤ 12) ∧ (bareOf p).all isFig = true then
    (if intL (valOf p) = p then some (.int (valOf p)) else none)
  else none
abbrev PSt := List (List PyData) × Option PyData
def put (stk : List (List PyData)) (done : Option PyData) (d : PyData) : Option PSt := match stk with
  | [] => if done.isSome then none else some ([], some d)
  | top :: rest => some ((top ++ [d]) :: rest, done)
def step1 (st : PSt) (p : List Nat) : Option PSt :=
  if p = [40] then some ([] :: st.1, st.2)
  else if p = [32] then some st
  else if p = [41] then (match st.1 with
    | [] => none
    | top :: rest => put rest st.2 (.tuple top))
  else match plainOf p with
    | none => none
    | some d => put st.1 st.2 d
def runV (st : PSt) : List (List Nat) → Option PSt
  | [] => some st
  | p :: r => match step1 st p with
    | none => none
    | some st' => runV st' r
def valueOf (ps : List (List Nat)) : Option PyData := match runV ([], none) ps with
  | some ([], some d) => some d
  | _ => none
def readV (t : List Nat) : Option PyData := match valueOf (pieces t) with
  | some d => if isValue d = true ∧ vt d = t then some d else none
  | none => none
theorem readV_some {t : List Nat} {d : PyData} (h : readV t = some d) : isValue d = true ∧ vt d = t := by
  unfold readV at h
  split at h
  · split at h
    · rename_i h1; cases h; exact h1
    · cases h
  · cases h

theorem small_fig {c : Nat} (h : isSmall c = true) : special c = false := by
  simp only [isSmall, Bool.and_eq_true, decide_eq_true_eq] at h
  simp [special]; omega
theorem fig_sp {c : Nat} (h : 48 ≤ c ∧ c ≤ 57) : special c = false := by simp [special]; omega
theorem isFig_iff {c : Nat} : isFig c = true ↔ 48 ≤ c ∧ c ≤ 57 := by simp [isFig]
theorem numL_all (n : Nat) : (TL.numL n).all isFig = true := by
  rw [List.all_eq_true]
  intro c hc
  have := TL.numL_digits n c hc
  exact isFig_iff.mpr this
theorem numL_head (n : Nat) : ∃ c r, TL.numL n = c :: r ∧ 48 ≤ c ∧ c ≤ 57 := by
  cases e : TL.numL n with
  | nil => exact absurd e (TL.numL_ne n)
  | cons c r => exact ⟨c, r, rfl, TL.numL_digits n c (by rw [e]; exact List.mem_cons_self ..)⟩
theorem intL_cases (i : Int) : (i < 0 ∧ intL i = 45 :: TL.numL i.natAbs) ∨ (0 ≤ i ∧ intL i = TL.numL i.natAbs) := by
  unfold intL
  by_cases h : i < 0
  · exact .inl ⟨h, by rw [if_pos h]⟩
  · exact .inr ⟨by omega, by rw [if_neg h]⟩
theorem plain_int {i : Int} (h : i.natAbs < 1000000000000) : plainOf (intL i) = some (.int i) := by
  have hl : (TL.numL i.natAbs).length ≤ 12 := TL.numL_len (by decide) (by simpa using h)
  have hp : 1 ≤ (TL.numL i.natAbs).length := by
    cases e : TL.numL i.natAbs with
    | nil => exact absurd e (TL.numL_ne _)
    | cons c r => simp
  obtain ⟨c, r, e, hc⟩ := numL_head i.natAbs
  rcases intL_cases i with ⟨hi, q⟩ | ⟨hi, q⟩
  · have eb : bareOf (intL i) = TL.numL i.natAbs := by rw [q]; simp [bareOf]
    have ev : valOf (intL i) = i := by
      unfold valOf
      rw [eb, TL.numL_val, if_pos (by rw [q]; rfl)]
      omega
    unfold plainOf
    rw [if_neg (by rw [q, e]; simp), if_neg (by rw [q]; simp [isWordL, isSmall]), if_pos ⟨⟨by rw [eb]; exact hp, by rw [eb]; exact hl⟩, by rw [eb]; exact numL_all _⟩, if_pos (by rw [ev]), ev]
  · have eb : bareOf (intL i) = TL.numL i.natAbs := by
      rw [q, e]
      unfold bareOf
      rw [if_neg (by simp; omega)]
    have ev : valOf (intL i) = i := by
      unfold valOf
      rw [eb, TL.numL_val, if_neg (by rw [q, e]; simp; omega)]
      omega
    unfold plainOf
    rw [if_neg (by rw [q, e]; simp; omega), if_neg (by rw [q, e]; simp [isWordL, isSmall]; omega), if_pos ⟨⟨by rw [eb]; exact hp, by rw [eb]; exact hl⟩, by rw [eb]; exact numL_all _⟩, if_pos (by rw [ev]), ev]
theorem word_all {l : List Nat} (h : isWordL l = true) : l ≠ [] ∧ ∀ c ∈ l, isSmall c = true := by
  simp only [isWordL, Bool.and_eq_true, Bool.not_eq_true', List.all_eq_true] at h
  refine ⟨fun z => ?_, h.2⟩
  rw [z] at h
  simp at h
theorem leaf_tok {d : PyData} (h : leafOk d = true) : vt d ≠ [] ∧ (∀ c ∈ vt d, special c = false) ∧ plainOf (vt d) = some d := by
  cases d with
  | none => exact ⟨by simp [vt], by simp [vt, special], by simp [vt, plainOf]⟩
  | str x =>
    have hw : isWordL x.cps.toList = true := by simpa [leafOk] using h
    obtain ⟨h1, h2⟩ := word_all hw
    refine ⟨by simpa [vt] using h1, fun c hc => small_fig (h2 c (by simpa [vt] using hc)), ?_⟩
    simp only [vt]
    unfold plainOf
    rw [if_neg (fun z => by have := h2 45 (by rw [z]; simp); simp [isSmall] at this), if_pos hw]
  | int i =>
    have hi : i.natAbs < 1000000000000 := by simpa [leafOk] using h
    refine ⟨?_, fun c hc => ?_, by simpa [vt] using plain_int hi⟩
    · rcases intL_cases i with ⟨_, q⟩ | ⟨_, q⟩
      · simp [vt, q]
      · simp only [vt, q]; exact TL.numL_ne _
    · rcases intL_cases i with ⟨_, q⟩ | ⟨_, q⟩
      · simp only [vt, q] at hc
        rcases List.mem_cons.mp hc with z | z
        · subst z; rfl
        · exact fig_sp (TL.numL_digits _ c z)
      · simp only [vt, q] at hc
        exact fig_sp (TL.numL_digits _ c hc)
  | _ => simp [leafOk] at h
theorem tok_ne {t : List Nat} (h : ∀ c ∈ t, special c = false) {c : Nat} (hc : special c = true) : t ≠ [c] := fun z => by
  have := h c (by rw [z]; simp)
  rw [hc] at this
  cases this
theorem step_tok {t : List Nat} {d : PyData} {st : PSt} (h : ∀ c ∈ t, special c = false) (e : plainOf t = some d) : step1 st t = put st.1 st.2 d := by
  unfold step1
  rw [if_neg (tok_ne h rfl), if_neg (tok_ne h rfl), if_neg (tok_ne h rfl), e]
mutual
/-- the pieces of a value's text, behind any state -/
theorem run_vt : ∀ {d : PyData} {st : PSt} {rest : List Nat}, wf d = true → endsTok rest = true → runV st (pieces (vt d ++ rest)) = match put st.1 st.2 d with
    | none => none
    | some st' => runV st' (pieces rest)
  | .tuple xs, st, rest, h, hr => by
    have hw : wfAll xs = true := by simpa [wf] using h
    have e1 : vt (.tuple xs) ++ rest = 40 :: (vtAll xs ++ 41 :: rest) := by simp [vt]
    rw [e1, pieces_sp rfl]
    show (match step1 st [40] with | none => none | some st' => runV st' (pieces (vtAll xs ++ 41 :: rest))) = _
    have s1 : step1 st [40] = some ([] :: st.1, st.2) := by unfold step1; rw [if_pos rfl]
    rw [s1]
    dsimp only
    rw [run_all (top := []) (stk := st.1) (done := st.2) hw (by rfl), List.nil_append]
    rw [pieces_sp rfl]
    show (match step1 (xs :: st.1, st.2) [41] with | none => none | some st' => runV st' (pieces rest)) = _
    have s2 : step1 (xs :: st.1, st.2) [41] = put st.1 st.2 (.tuple xs) := by unfold step1; rw [if_neg (by decide), if_neg (by decide), if_pos rfl]
    rw [s2]
  | .none, st, rest, h, hr => run_leaf (d := .none) rfl hr
  | .str x, st, rest, h, hr => run_leaf (d := .str x) (by simpa [wf, leafOk] using h) hr
  | .int i, st, rest, h, hr => run_leaf (d := .int i) (by simpa [wf, leafOk] using h) hr
  | .bool b, st, rest, h, hr => by simp [wf] at h
  | .list xs, st, rest, h, hr => by simp [wf] at h
  | .dict kvs, st, rest, h, hr => by simp [wf] at h
theorem run_leaf {d : PyData} {st : PSt} {rest : List Nat} (h : leafOk d = true) (hr : endsTok rest = true) : runV st (pieces (vt d ++ rest)) = match put st.1 st.2 d with
    | none => none
    | some st' => runV st' (pieces rest) := by
  obtain ⟨h1, h2, h3⟩ := leaf_tok h
  rw [pieces_tok h1 h2 hr]
  show (match step1 st (vt d) with | none => none | some st' => runV st' (pieces rest)) = _
  rw [step_tok h2 h3]
theorem run_all : ∀ {xs : List PyData} {top : List PyData} {stk : List (List PyData)} {done : Option PyData} {rest : List Nat}, wfAll xs = true → endsTok rest = true →
    runV (top :: stk, done) (pieces (vtAll xs ++ rest)) = runV ((top ++ xs) :: stk, done) (pieces rest)
  | [], top, stk, done, rest, _, _ => by simp [vtAll]
  | d :: r, top, stk, done, rest, h, hr => by
    have hw : wf d = true ∧ wfAll r = true := by simpa [wfAll] using h
    have e1 : vtAll (d :: r) ++ rest = vt d ++ (vtTail r ++ rest) := by simp [vtAll]
    have hr' : endsTok (vtTail r ++ rest) = true := by
      cases r with
      | nil => simpa [vtTail] using hr
      | cons c r => simp [vtTail, endsTok, special]
    rw [e1, run_vt hw.1 hr']
    show runV ((top ++ [d]) :: stk, done) (pieces (vtTail r ++ rest)) = _
    rw [run_tail hw.2 hr]
    simp
theorem run_tail : ∀ {xs : List PyData} {top : List PyData} {stk : List (List PyData)} {done : Option PyData} {rest : List Nat}, wfAll xs = true → endsTok rest = true →
    runV (top :: stk, done) (pieces (vtTail xs ++ rest)) = runV ((top ++ xs) :: stk, done) (pieces rest)
  | [], top, stk, done, rest, _, _ => by simp [vtTail]
  | d :: r, top, stk, done, rest, h, hr => by
    have hw : wf d = true ∧ wfAll r = true := by simpa [wfAll] using h
    have e1 : vtTail (d :: r) ++ rest = 32 :: (vt d ++ (vtTail r ++ rest)) := by simp [vtTail]
    have hr' : endsTok (vtTail r ++ rest) = true := by
      cases r with
      | nil => simpa [vtTail] using hr
      | cons c r => simp [vtTail, endsTok, special]
    rw [e1, pieces_sp rfl]
    show (match step1 (top :: stk, done) [32] with | none => none | some st' => runV st' (pieces (vt d ++ (vtTail r ++ rest)))) = _
    have s1 : step1 (top :: stk, done) [32] = some (top :: stk, done) := by unfold step1; rw [if_neg (by decide), if_pos rfl]
    rw [s1]
    dsimp only
    rw [run_vt hw.1 hr']
    show runV ((top ++ [d]) :: stk, done) (pieces (vtTail r ++ rest)) = _
    rw [run_tail hw.2 hr]
    simp
end
theorem valueOf_vt {d : PyData} (h : wf d = true) : valueOf (pieces (vt d)) = some d := by
  unfold valueOf
  have e := run_vt (d := d) (st := ([], none)) (rest := []) h rfl
  rw [List.append_nil] at e
  rw [e]
  rfl
theorem readV_vt {d : PyData} (h : isValue d = true) : readV (vt d) = some d := by
  unfold readV
  rw [valueOf_vt (of_isValue h).1]
  simp [h]
theorem vt_inj {d e : PyData} (hd : wf d = true) (he : wf e = true) (h : vt d = vt e) : d = e := by
  have a := valueOf_vt hd
  rw [h, valueOf_vt he] at a
  exact (Option.some.inj a).symm
end Sb
namespace Sb
open PySem
mutual
/-- every text in it within the line -/
def sOk : PyData → Bool
  | .str x => decide (x.length ≤ 16777216)
  | .tuple xs => sOkAll xs
  | .list xs => sOkAll xs
  | _ => true
def sOkAll : List PyData → Bool
  | [] => true
  | d :: r => sOk d && sOkAll r
end
theorem sOkAll_app : ∀ (a b : List PyData), sOkAll (a ++ b) = (sOkAll a && sOkAll b)
  | [], b => by simp [sOkAll]
  | d :: r, b => by simp [sOkAll, sOkAll_app r b, Bool.and_assoc]
theorem sOkAll_mem : ∀ {l : List PyData}, sOkAll l = true ↔ ∀ d ∈ l, sOk d = true
  | [] => by simp [sOkAll]
  | d :: r => by simp [sOkAll, sOkAll_mem (l := r)]
theorem lay_app (last : Bool) : ∀ (a b : List PyData), lay last (a ++ b) = (lay last a).bind fun x => (lay last b).map (x ++ ·)
  | [], b => by cases h : lay last b <;> simp [lay, h]
  | d :: r, b => by
    rw [List.cons_append, lay_cons, lay_cons, lay_app last r b]
    split
    · cases h : lay last r <;> cases h2 : lay last b <;> simp
    · split
      · rfl
      · rfl
theorem lay_one (last : Bool) (d : PyData) : lay last [d] = if isTup d && !last then some (kids d) else if leafOk d then some [] else none := by
  rw [lay_cons]
  simp [lay]
theorem lay_take_none {last : Bool} {l : List PyData} {j : Nat} (h : lay last (l.take j) = none) : lay last l = none := by
  have e := lay_app last (l.take j) (l.drop j)
  rw [List.take_append_drop, h] at e
  exact e
theorem isValGo_none {n : Nat} {l : List PyData} (h : lay (n == 0) l = none) : isValGo (n + 1) l = false := by
  unfold isValGo
  rw [h]
theorem isValGo_some {n : Nat} {l later : List PyData} (h : lay (n == 0) l = some later) : isValGo (n + 1) l = (later.isEmpty || isValGo n later) := by
  show (match lay (n == 0) l with | none => false | some later => later.isEmpty || isValGo n later) = _
  rw [h]
theorem sOk_lay : ∀ {last : Bool} {l later : List PyData}, lay last l = some later → sOkAll l = true → sOkAll later = true
  | last, [], later, h, _ => by simp [lay] at h; subst h; rfl
  | last, d :: r, later, h, hs => by
    simp only [sOkAll, Bool.and_eq_true] at hs
    rw [lay_cons] at h
    split at h
    · cases e : lay last r with
      | none => simp [e] at h
      | some x =>
        simp only [e, Option.map_some, Option.some.injEq] at h
        subst h
        rw [sOkAll_app, sOk_lay e hs.2, Bool.and_true]
        cases d <;> simp_all [isTup, kids, sOk]
    · split at h
      · exact sOk_lay h hs.2
      · cases h
theorem sz_mem : ∀ {l : List PyData} {d : PyData}, d ∈ l → sz d ≤ szAll l
  | c :: r, d, h => by
    rcases List.mem_cons.mp h with z | z
    · subst z; simp [szAll]
    · have := sz_mem z; simp [szAll]; omega
theorem szAll_take : ∀ (l : List PyData) (j : Nat), szAll (l.take j) ≤ szAll l
  | [], j => by simp
  | d :: r, 0 => by simp [szAll]
  | d :: r, j + 1 => by have := szAll_take r j; simp [szAll]; omega
theorem wf_vt {d : PyData} (h : wf d = true) : vt d ≠ [] := by
  cases d with
  | tuple xs => simp [vt]
  | none => exact (leaf_tok (d := .none) rfl).1
  | str x => exact (leaf_tok (d := .str x) (by simpa [wf, leafOk] using h)).1
  | int i => exact (leaf_tok (d := .int i) (by simpa [wf, leafOk] using h)).1
  | bool b => simp [wf] at h
  | list xs => simp [wf] at h
  | dict xs => simp [wf] at h
end Sb

set_option Elab.async false
set_option linter.all false
set_option maxRecDepth 100000
set_option maxHeartbeats 2000000
/-! a callable without arguments, told of the state in which it was made: lambdas handed on and called deeper -/
namespace Lm
open PySem PySem.Spec PyProof.Rows L2 LamX

/-- the frames of l: of fs, or younger than h -/
def FrOk (fs : List Addr) (h : Heap) (l : List Env) : Prop := ∀ b ∈ frs l, b ∈ fs ∨ h.get? b = none
/-- f() behind the state (h, H), whose frames were fs: tl says what it does -/
structure Act (P : Program) (w : World) (K : PySem.W.Frag) (mg : Str → Option Value) (base : Heap) (fs : List Addr) (H : Hp) (h : Heap) (k : Nat) (f : Addr) (tl : XK → Hp → VK → Prop) : Prop where
  obj : ∃ (nm q : Str) (params : Arguments) (body : Expr) (scope : Scope) (cl : List (Str × Addr)) (pm : Value) (c' : Addr) (ctv : Value), h.get? f = some (PySem.W.kla_obj nm q params body scope cl pm c' ctv)
  no : H f = none
  nf : f ∉ fs
  run : ∀ (A : Around) (outer : List Env) (s : Shared) (H' : Hp) (Q : VK) (E : XK), Room k A → Env0 P w K mg base A outer s H' → FrOk fs h outer → Un fs [] H H' h s.heap → tl E H' Q →
    codeAny (model P w) A (.call (.ref f) ⟨[], []⟩) (CR (L2.CX P w) outer P w H' s Q E) s
section
variable {P : Program} {w : World} {K : PySem.W.Frag} {mg : Str → Option Value} {base : Heap} {fs fs' : List Addr} {H H1 H2 : Hp} {h h1 h2 : Heap} {k : Nat} {f : Addr} {tl : XK → Hp → VK → Prop}
/-- frames that were not there at h do not matter -/
theorem un_less (u : Un fs' [] H H1 h h1) (hf : ∀ b ∈ fs', b ∈ fs ∨ h.get? b = none) : Un fs [] H H1 h h1 where
  keep := fun b o e n hb hx => u.keep b o e n (fun z => (hf b z).elim hb fun q => by rw [e] at q; cases q) hx
  slot := fun b o e n hb hx => u.any e n hx
  free := u.free
  there := u.there
  tups := u.tups
  frzs := u.frzs
  tbls := u.tbls
theorem un_both (u : Un fs [] H H1 h h1) (u' : Un fs' [] H1 H2 h1 h2) (hf : ∀ b ∈ fs', b ∈ fs ∨ h.get? b = none) : Un fs [] H H2 h h2 :=
  un_less (fs' := fs ++ fs') ((u.mono (fun b hb => List.mem_append_left _ hb) fun _ z => z).trans (u'.mono (fun b hb => List.mem_append_right _ hb) fun _ z => z)) fun b hb => (List.mem_append.mp hb).elim .inl (hf b)
theorem Act.mono {j : Nat} (a : Act P w K mg base fs H h k f tl) (hk : k ≤ j) : Act P w K mg base fs H h j f tl :=
  ⟨a.obj, a.no, a.nf, fun A outer s H' Q E hr => a.run A outer s H' Q E (hr.mono hk)⟩
/-- the same, told of a later state -/
theorem Act.later (a : Act P w K mg base fs H h k f tl) (u : Un fs [] H H1 h h1) (hf : ∀ b ∈ fs', b ∈ fs ∨ h.get? b = none) (hn : f ∉ fs') : Act P w K mg base fs' H1 h1 k f tl := by
  obtain ⟨nm, q, params, body, scope, cl, pm, c', ctv, ho⟩ := a.obj
  refine ⟨⟨nm, q, params, body, scope, cl, pm, c', ctv, u.keep _ _ ho a.no a.nf (by simp)⟩, u.free _ _ ho a.no (by simp), hn, fun A outer s H' Q E hr e0 fo u' ht => ?_⟩
  have fo' : FrOk fs h outer := fun b hb => by
    rcases fo b hb with z | z
    · exact hf b z
    · refine .inr ?_
      cases e : h.get? b with
      | none => rfl
      | some o =>
        obtain ⟨o', e'⟩ := u.there b o e (by simp)
        rw [z] at e'
        cases e'
  exact a.run A outer s H' Q E hr e0 fo' (un_both u u' hf) ht
end
section
variable {X : Cx} {pins : List (Addr × Obj)} {σ : L2.St} {H : Hp} {s : Shared} {k i : Nat} {f : Addr} {a : Str} {tl : XK → Hp → VK → Prop} {W : WX} {E : XK} {p1 p2 : Pos}
/-- x(), x a name that holds f -/
theorem pe_do (hex : X.ex = []) (hst : X.stack = X.env :: X.outer) (hfr : X.env.frame = some X.env.locals) (act : Act X.prog X.w X.K X.mg X.base X.fs X.H_0 X.s_0.heap k f tl) (hr : Room k X.A) (tk : Takes X W) (hW : ∀ cls d σ' H', E cls d H' → W cls d σ' H')
    (hN : X.N[i]? = some a) (hv : Vis X.env.scope a) (hd : (a == ("__debug__" : Str)) = false := by decide) (hcd : (a == ("__classdict__" : Str)) = false := by decide) :
    PE X (.Call (.Name a p1) [] [] p2) (fun σ H Q => σ[i]? = some (some (.ref f)) ∧ tl E H Q) := by
  refine ⟨fun pins s σ H Q I h => ?_⟩
  obtain ⟨hs, ht⟩ := h
  refine wpAny_Call_Name_kw (thn ((pe_var (pos := p1) (i := i) hN hv hd hcd).run pins s σ H (fun v H1 => v = .ref f ∧ H1 = H) I ⟨.ref f, hs, rfl, rfl⟩) fun u s1 ⟨v, H1, I1, r1, q1⟩ => ?_)
  obtain ⟨ev, eH⟩ := q1
  subst ev
  rw [eH] at I1
  obtain rfl : u = Value.ref f := r1
  have un : Un X.fs [] X.H_0 H X.s_0.heap s1.heap := by have := I1.base; rw [hex] at this; exact this
  obtain ⟨nm, q, params, body, scope, cl, pm, c', ctv, ho⟩ := act.obj
  have of1 := un.keep _ _ ho act.no act.nf (by simp)
  refine PySem.W.callWith_F0 ⟨_, _, _, _, of1⟩ ?_
  have fo : FrOk X.fs X.s_0.heap X.stack := fun b hb => by
    rw [hst] at hb
    unfold frs at hb
    rw [List.filterMap_cons, hfr] at hb
    rcases List.mem_cons.mp hb with z | z
    · refine .inr ?_
      rw [z]
      exact Heap.get?_none_of_le I1.ok.above
    · exact .inl z
  have rc := act.run X.A X.stack s1 H Q E hr I1.env0 fo un ht
  have hx : Passes (L2.CX X.prog X.w) X E := passes_call tk hW
  refine wpAny_call (codeAny_mono rc fun r s' hq => ?_)
  cases r with
  | error e => exact hx pins σ H s1 e s' I1 hq
  | ok fl =>
    cases fl with
    | ret u => exact I1.after hq
    | next => exact False.elim hq
    | brk => exact False.elim hq
    | cont => exact False.elim hq
end
/-- a def of one parameter that calls what it gets -/
structure FnA (P : Program) (w : World) (K : PySem.W.Frag) (mg : Str → Option Value) (base : Heap) (k j : Nat) (g : Addr) (TT : (XK → Hp → VK → Prop) → Hp → VK → Prop) : Prop where
  run : ∀ (A : Around) (outer : List Env) (s : Shared) (H : Hp) (f : Addr) (Q : VK) (tl : XK → Hp → VK → Prop), Room k A → Env0 P w K mg base A outer s H → Act P w K mg base (frs outer) H s.heap j f tl → TT tl H Q →
    codeAny (model P w) A (.call (.ref g) ⟨[.ref f], []⟩) (CR C8.CX0 outer P w H s Q C8.E0) s
section
variable {P : Program} {w : World} {K : PySem.W.Frag} {mg : Str → Option Value} {base : Heap}
theorem fnA_of {j k : Nat} {g : Addr} {name qual : Str} {params : Arguments} {body : List Stmt} {scope : Scope} {dV kV doc pm cdv ct oc : Value} {an od : Option Addr} {osl : Array (Option Value)} {N : List Str} {a : Str} {TT : (XK → Hp → VK → Prop) → Hp → VK → Prop}
    (lk : K.lookup g = some ⟨oc, od, .func (PySem.W.fnOf name qual params body scope dV kV doc pm an cdv ct), osl⟩) (hcd : PySem.W.codeIn K cdv qual = true) (S : FnScope N [a] scope) (hb : L2.Binds K (PySem.W.fnOf name qual params body scope dV kV doc pm an cdv ct) [a] [])
    (hbody : ∀ (A : Around) (outer : List Env) (s : Shared) (H : Hp) (f : Addr) (Q : VK) (tl : XK → Hp → VK → Prop), Room k (A.deeper (envOfC qual scope s.heap.objs.size g cdv)) → Act P w K mg base (frs outer) H s.heap j f tl → TT tl H Q →
      ∃ t, PSs (cxOf C8.CX0 P w K mg base N qual scope g cdv A outer s H C8.E0).nox body t ∧ t { nx := fun _ H' => Q .non H', rt := Q } (L2.start N [.ref f]) H) : FnA P w K mg base (k + 1) j g TT := by
  refine ⟨fun A outer s H f Q tl hr e0 act ht => ?_⟩
  have KX : K.In s.heap := e0.mod.kin.keeps fun b o e => (e0.bs b o e).1
  refine run_ofS (N := N) (ps := [a]) (us := [.ref f]) (vs := [.ref f]) lk hcd S hr e0 (hb s [.ref f] KX rfl) (.cons rfl .nil) rfl fun hr' => ?_
  obtain ⟨t, h1, h2⟩ := hbody A outer s H f Q tl hr' act ht
  exact ⟨t, h1.nox, h2⟩
end
section
variable {X : Cx} {pins : List (Addr × Obj)} {σ : L2.St} {H : Hp} {s : Shared}
/-- the lambda that was just made, as a callable -/
theorem act_of {scope : Scope} {f c' : Addr} {params : Arguments} {body : Expr} {pm ctv : Value} {k : Nat} {t : XK → TE} (I : Inv X pins σ H s) (hex : X.ex = []) (L : LamS X.env.scope scope)
    (hf : s.heap.get? f = some (PySem.W.kla_obj "<lambda>" (X.env.qual ++ "<lambda>") params body scope (cloFrom X.env.cells scope.names []) pm c' ctv)) (hfn : H f = none) (hfr : f ∉ frs X.stack) (hco : H c' = some (CodeO c' (X.env.qual ++ "<lambda>")))
    (hbind : bindArgs (PySem.W.kla_fn "<lambda>" (X.env.qual ++ "<lambda>") params body scope (cloFrom X.env.cells scope.names []) pm (.ref c') ctv) ⟨[], []⟩ = pure [])
    (hbody : ∀ (A : Around) (outer : List Env) (s1 : Shared) (HZ : Hp) (E : XK), FrOk (frs X.stack) s.heap outer → Un (frs X.stack) [] H HZ s.heap s1.heap → Room k (A.deeper (lamEnv X scope s1.heap.objs.size f c')) → PE (lamCx X A outer s1 HZ E scope f c') body (t E)) :
    Act X.prog X.w X.K X.mg X.base (frs X.stack) H s.heap (k + 1) f (fun E HZ Q => HZ c' = some (CodeO c' (X.env.qual ++ "<lambda>")) ∧ t E σ HZ Q) := by
  refine ⟨⟨_, _, _, _, _, _, _, _, _, hf⟩, hfn, hfr, fun A outer s1 HZ Q E hr e0 fo un ht => ?_⟩
  obtain ⟨hc, ht⟩ := ht
  have of1 := un.keep f _ hf hfn hfr (by simp)
  obtain ⟨⟨oc, vs, tt, hoc, hdc, hvc⟩, _, _⟩ := e0.hok c' _ hc
  have lim : s1.heap.NoLimit := e0.mod.nolimit.keeps fun b o e => (e0.bs b o e).1
  refine PySem.W.kla_callFunE hr.depth of1 rfl L.co L.gen rfl ⟨c', oc, vs, tt, rfl, hoc, hdc, hvc⟩ ?_
  rw [hbind]
  refine wpAny_pure (wpAny_newFunctionEnv (fun y hy => (L.own y hy).2) (fun y hy => absurd hy (by simp)) (fun h₁ hns hsb => ⟨lim.fresh _ hsb, ?_⟩) L.kind)
  show codeAny _ _ (.expr body (lamEnv X scope s1.heap.objs.size f c')) _ _
  have kp : ∀ b o, s1.heap.get? b = some o → h₁.get? b = some o := fun b o e => hsb.extBut b o (Nat.ne_of_lt (Heap.lt_size e)) (Heap.get?_push_of_some _ e)
  have J : Inv (lamCx X A outer s1 HZ E scope f c') [] σ HZ { s1 with heap := h₁, toks := s1.toks + ([] : List (Str × Value)).length } := lam_start2 I L e0 hr.hd un hns kp
  refine PySem.W.kla_codeExpr (wpAny_mono ((hbody A outer s1 HZ E fo un (hr.deeper _)).run [] _ _ HZ Q J ht) (fun v s' hq => ?_) fun e s' hq => hq)
  obtain ⟨w', H', J', rv, q⟩ := hq
  exact ⟨w', H', J'.os, J'.bare, J'.base, J'.hok, rv, q⟩
/-- within the lambda's body: what was a callable for the def around is one there -/
theorem act_in {scope : Scope} {f c' g : Addr} {A : Around} {outer : List Env} {s1 : Shared} {HZ : Hp} {E : XK} {k : Nat} {tl : XK → Hp → VK → Prop} (I : Inv X pins σ H s) (hex : X.ex = []) (hst : X.stack = X.env :: X.outer) (hfr : X.env.frame = some X.env.locals)
    (act : Act X.prog X.w X.K X.mg X.base X.fs X.H_0 X.s_0.heap k g tl) (fo : FrOk (frs X.stack) s.heap outer) (un : Un (frs X.stack) [] H HZ s.heap s1.heap) :
    Act (lamCx X A outer s1 HZ E scope f c').prog (lamCx X A outer s1 HZ E scope f c').w (lamCx X A outer s1 HZ E scope f c').K (lamCx X A outer s1 HZ E scope f c').mg (lamCx X A outer s1 HZ E scope f c').base (lamCx X A outer s1 HZ E scope f c').fs HZ s1.heap k g tl := by
  have u0 : Un X.fs [] X.H_0 H X.s_0.heap s.heap := by have := I.base; rw [hex] at this; exact this
  have fr0 : ∀ b ∈ frs X.stack, b ∈ X.fs ∨ X.s_0.heap.get? b = none := fun b hb => by
    rw [hst] at hb
    unfold frs at hb
    rw [List.filterMap_cons, hfr] at hb
    rcases List.mem_cons.mp hb with z | z
    · refine .inr ?_
      rw [z]
      exact Heap.get?_none_of_le I.ok.above
    · exact .inl z
  obtain ⟨nm, q, params, body, sc, cl, pm, cc, ctv, ho⟩ := act.obj
  have hg : g ∉ frs outer := fun hb => by
    obtain ⟨o', e'⟩ := u0.there g _ ho (by simp)
    rcases fo g hb with z | z
    · rcases fr0 g z with z | z
      · exact act.nf z
      · rw [ho] at z
        cases z
    · rw [z] at e'
      cases e'
  refine act.later (un_both u0 un fr0) (fun b hb => ?_) hg
  rcases fo b hb with z | z
  · exact fr0 b z
  · refine .inr ?_
    cases e : X.s_0.heap.get? b with
    | none => rfl
    | some o =>
      obtain ⟨o', e'⟩ := u0.there b o e (by simp)
      rw [z] at e'
      cases e'
/-- x(lambda: body), x a def of that kind -/
def tLamA (T : List (Addr × Str)) (TT : (XK → Hp → VK → Prop) → Hp → VK → Prop) (t : XK → TE) : TE := fun σ H Q => Tabs T H ∧ ∀ (H1 : Hp) (c : Addr) (q : Str), ExtN H H1 → Tabs T H1 → H1 c = some (CodeO c q) → TT (fun E H' Q' => H' c = some (CodeO c q) ∧ t E σ H' Q') H1 Q
theorem pe_lamA {T : List (Addr × Str)} {TT : (XK → Hp → VK → Prop) → Hp → VK → Prop} {x : Str} {g c P : Addr} {k j : Nat} {params : Arguments} {body : Expr} {scope : Scope} {t : XK → TE} {p lpos pos : Pos} (hex : X.ex = []) (hg : Gl X x) (hm : X.mg x = some (.ref g)) (hk : PySem.W.keepIn X.K (.ref g) = true)
    (F : FnA X.prog X.w X.K X.mg X.base k (j + 1) g TT) (TB : TabB X.base X.mg c P) (hcode : X.env.code = .ref c) (hmT : (P, X.env.qual ++ "<lambda>") ∈ T) (hu : ∀ p ∈ T, p.1 = P → p.2 = X.env.qual ++ "<lambda>") (hr : Room k X.A) (L : LamS X.env.scope scope) (hdef : defaultsOf params X.env = ([], []))
    (hbind : ∀ (q : Str) (cl : List (Str × Addr)) (pm cv ctv : Value), bindArgs (PySem.W.kla_fn "<lambda>" q params body scope cl pm cv ctv) ⟨[], []⟩ = pure [])
    (hbody : ∀ (pins : List (Addr × Obj)) (s' : Shared) (σ : L2.St) (H : Hp) (f c' : Addr), Inv X pins σ H s' → ∀ (A : Around) (outer : List Env) (s1 : Shared) (HZ : Hp) (E : XK), FrOk (frs X.stack) s'.heap outer → Un (frs X.stack) [] H HZ s'.heap s1.heap → Room j (A.deeper (lamEnv X scope s1.heap.objs.size f c')) → PE (lamCx X A outer s1 HZ E scope f c') body (t E))
    (hdb : (x == ("__debug__" : Str)) = false := by decide) :
    PE X (.Call (.Name x p) [.Lambda params body scope lpos] [] pos) (tLamA T TT t) := by
  refine ⟨fun pins s σ H Q I h => ?_⟩
  obtain ⟨hT, h⟩ := h
  refine wpAny_Call_Name_kw (ld_glob I hg hm ?_ hdb)
  refine PySem.W.callWith_K (h₀ := X.base) I.ok.mod.kin hk ?_ (by rfl) (by rfl)
  show wpAny _ _ (spliced ((false, eval (.Lambda params body scope lpos) X.env) :: backTo pos (starEach [] X.env))) _ _ s
  refine Calls.spliced_cons (lam_make2 I TB hcode hmT hu hT hdef (L.has I.ok) fun f c' pm' ctv H1 s' I1 eN T1 hf hfn hfr hco => ?_)
  refine Calls.spliced_nil ⟨I1.kIn, ?_⟩
  have act := act_of (k := j) (t := t) I1 hex L hf hfn hfr hco (hbind _ _ _ _ _) fun A outer s1 HZ E fo un hr2 => hbody _ s' σ H1 f c' I1 A outer s1 HZ E fo un hr2
  refine wpAny_call (codeAny_mono (F.run X.A X.stack s' H1 f Q _ hr I1.env0 act (h H1 c' _ eN T1 hco)) fun r s2 hq => ?_)
  cases r with
  | error e => exact (show False from hq).elim
  | ok fl =>
    cases fl with
    | ret u => exact I1.after hq
    | next => exact False.elim hq
    | brk => exact False.elim hq
    | cont => exact False.elim hq
end
end Lm

set_option Elab.async false
set_option linter.all false
set_option maxRecDepth 100000
set_option maxHeartbeats 2000000
/-! an error caught and kept as a value: tracked from the suite's end on -/
namespace Ev
open PySem PySem.Spec PyProof.Rows L2

/-- at a: an exception object of the class cls, its own dict at d -/
def ExV (cls : Value) (d : Option Addr) (a : Addr) : HO := .ext fun h => ∃ (oe : Obj) (vs : Array Value), h.get? a = some oe ∧ Zc cls d oe ∧ oe.data = .fields vs
theorem exV_ok {P : Program} {w : World} {H : Hp} {h : Heap} {a : Addr} {cls : Value} {d : Option Addr} {oe : Obj} {vs : Array Value} (e : h.get? a = some oe) (z : Zc cls d oe) (hd : oe.data = .fields vs) : ObjOk P w H h a (ExV cls d a) :=
  ⟨⟨oe, vs, e, z, hd⟩, ⟨oe, e⟩, fun _ _ ⟨o, v, q, r⟩ k => ⟨o, v, k o q, r⟩⟩
section
variable {X : Cx} {pins : List (Addr × Obj)} {σ : L2.St} {H : Hp} {s : Shared}
/-- an object of ours that is pinned is tracked from now on -/
theorem track {a : Addr} {oe : Obj} {o : HO} (I : Inv X ((a, oe) :: pins) σ H s) (n0 : X.s_0.heap.get? a = none) (np : ∀ p ∈ X.pn ++ pins, p.1 ≠ a) (new : ObjOk X.prog X.w (upd H a o) s.heap a o) : Inv X pins σ (upd H a o) s := by
  obtain ⟨ea, na, aL, aF, ac⟩ := I.pin (a, oe) (List.mem_append_right _ List.mem_cons_self)
  dsimp only at ea na aL aF ac
  have n1 : ∀ b u, X.s_0.heap.get? b = some u → b ≠ a := fun b u e z => by
    rw [z, n0] at e
    cases e
  refine ⟨I.ok, I.os, I.bare, ⟨I.base.keep, I.base.slot, fun b u e n hx => ?_, I.base.there, fun b xs e => ?_, fun b ob u e => ?_, fun b ps e => ?_⟩, I.loc, I.cell, ?_, fun x c e => ?_, fun p hp => ?_, I.hok.laidN (fun _ _ e => e) na new, I.len⟩
  · rw [upd_ne (n1 b u e)]
    exact I.base.free b u e n hx
  · have q := I.base.tups b xs e
    rw [upd_ne (ne_of_none q na)]
    exact q
  · have q := I.base.frzs b ob u e
    rw [upd_ne (ne_of_none q na)]
    exact q
  · obtain ⟨m, q⟩ := I.base.tbls b ps e
    exact ⟨m, by rw [upd_ne (ne_of_none q na)]; exact q⟩
  · rw [upd_ne (Ne.symm aL)]
    exact I.free
  · have hc : c ≠ a := fun z => by
      obtain ⟨v, ob, e1, e2⟩ := I.cell x c e
      rw [z, ea] at e1
      cases e1
      exact ac _ e2
    rw [upd_ne hc]
    exact I.freeC x c e
  · have hp' : p ∈ X.pn ++ (a, oe) :: pins := by
      rcases List.mem_append.mp hp with z | z
      · exact List.mem_append_left _ z
      · exact List.mem_append_right _ (List.mem_cons_of_mem _ z)
    obtain ⟨e, n, r⟩ := I.pin p hp'
    exact ⟨e, by rw [upd_ne (np p hp)]; exact n, r⟩
theorem unsuite2 {a : Addr} {oe : Obj} {pn' : List (Addr × Obj)} (I : Inv (X.suite a ((a, oe) :: (X.pn ++ pins))) pn' σ H s) (ok : X.Ok) : Inv X ((a, oe) :: pins) σ H s :=
  ⟨ok, I.os, I.bare, I.base, I.loc, I.cell, I.free, I.freeC, fun p hp => I.pin p (by
    refine List.mem_append_left _ ?_
    rcases List.mem_append.mp hp with z | z
    · exact List.mem_cons_of_mem _ (List.mem_append_left _ z)
    · rcases List.mem_cons.mp z with z | z
      · rw [z]; exact List.mem_cons_self
      · exact List.mem_cons_of_mem _ (List.mem_append_right _ z)), I.hok, I.len⟩
end
/-- what the clause wishes of an exception of the body, the error tracked behind the suite -/
def wAsV (K : PySem.W.Frag) (c : Value) (i : Nat) (ts : Addr → Value → Option Addr → TS) (Wout : WX) (D : Ends) : WX := fun cls d σ H =>
  ∃ b, PySem.W.exmOne K cls c = some b ∧ (b = true → ∀ a, H a = none → ts a cls d { nx := fun σ' H' => H' a = none → D.nx (σ'.set i none) (upd H' a (ExV cls d a)), rt := fun _ _ => False } (σ.set i (some (.ref a))) H) ∧ (b = false → Wout cls d σ H)
section
variable {X : Cx} {x n : Str} {c : Value} {i : Nat} {body suite : List Stmt} {b₀ : Stmt} {np pos pos' : Pos} {tb : WX → TS} {ts : Addr → Value → Option Addr → TS} {Wout : WX}
theorem ps_try_asV (hex : X.ex = []) (hs : X.stack = X.env :: X.outer) (hf : X.env.frame = some X.env.locals) (hN : X.N.Nodup) (hi : X.N[i]? = some n) (hln : X.env.kindOf n = some .local) (hc : Names X x c) (tk : Takes X Wout)
    (hb : ∀ (W : WX) (pn : List (Addr × Obj)) (xe : Value → Shared → Prop), Takes (X.tr pn xe) W → PassesOwn (model X.prog X.w) X.A X.env xe → PSs (X.tr pn xe) body (tb W))
    (hsu : ∀ (a : Addr) (oe : Obj) (cls : Value) (d : Option Addr) (pn : List (Addr × Obj)), Zc cls d oe → (∃ vs, oe.data = .fields vs) → PSs (X.suite a ((a, oe) :: pn)) (b₀ :: suite) (ts a cls d)) :
    PS X (.Try body [.ExceptHandler (some (.Name x np)) (some n) (b₀ :: suite) pos'] [] [] pos) (fun D σ H => tb (wAsV X.K c i ts Wout D) D σ H) := by
  refine ⟨fun pins s σ H D I h => ?_⟩
  have ok := I.ok
  have hfr : X.A.frames = some (X.env :: X.outer) := by rw [ok.frames, hs]
  have hloc : Loc X.env.scope n := .inl hln
  refine wpAny_Try_except ?_
  refine wpAny_mono ((hb (wAsV X.K c i ts Wout D) (X.pn ++ pins) (fun e s₁ => wpAny (model X.prog X.w) X.A (noteFrame e X.env) (fun _ s₂ => wpAny (model X.prog X.w) X.A (setFlight e none) (fun _ s₃ =>
    wpAny (model X.prog X.w) X.A (handleBy e X.env [.ExceptHandler (some (.Name x np)) (some n) (b₀ :: suite) pos']) (SP X pins D) X.xe s₃) X.xe s₂) X.xe s₁) (fun u s' xx => ?_) PassesOwn.looking).run [] s σ H D (I.toTry _) h) (fun f s1 hsp => ?_) (fun e s1 he => he)
  · obtain ⟨a, B, sI, pins', σ', H', cls, d, rfl, J', nb, up, sky, na, os, ag, b, hb1, hyes, hno⟩ := xx
    have J : Inv X pins σ' H' sI := J'.ofTry ok
    have sky' : Sky B (X.env :: X.outer) a (Zc cls d) X.env.locals s'.heap := by rw [← hs]; exact sky
    show wpAny (model X.prog X.w) X.A (noteFrame (.ref a) X.env) _ _ _
    refine Sky.land Zc.steady hfr hf sky' fun h3 fl3 up3 => ?_
    have J3 : Inv X pins σ' H' { s' with heap := h3 } := J.landed nb fl3.1 (up.trans up3) os ag
    obtain ⟨oe3, vs3, he3, hz3, hd3⟩ := fl3.there
    have nfr : a ∉ frs (X.env :: X.outer) := fun hm => by
      obtain ⟨_, o', e', hnf⟩ := fl3.2.2.1.mem hm
      rw [he3] at e'
      cases e'
      exact hnf _ hd3
    have nfr' : a ∉ frs X.stack := by rw [hs]; exact nfr
    have nL : a ≠ X.env.locals := fun z => nfr (List.mem_filterMap.mpr ⟨X.env, List.mem_cons_self, by rw [hf, z]⟩)
    have nF : a ∉ X.fs := fun hm => by
      obtain ⟨e, he, q⟩ := List.mem_filterMap.mp hm
      exact nfr (List.mem_filterMap.mpr ⟨e, List.mem_cons_of_mem _ he, q⟩)
    have nB : B.get? a = none := fl3.2.1
    have nI : sI.heap.get? a = none := by
      cases e : sI.heap.get? a with
      | none => rfl
      | some o =>
        have := nb a o e nfr'
        rw [nB] at this
        cases this
    have n0 : X.s_0.heap.get? a = none := by
      cases e : X.s_0.heap.get? a with
      | none => rfl
      | some o =>
        obtain ⟨o', e'⟩ := J.base.there a o e (by rw [hex]; simp)
        rw [nI] at e'
        cases e'
    have npin : ∀ p ∈ X.pn ++ pins, p.1 ≠ a := fun p hp z => by
      have := (J.pin p hp).1
      rw [z, nI] at this
      cases this
    have S3 := J3.suite he3 hd3 na nL nF
    refine wpAny_handleBy_cons (codeAny_handlers_test ?_) (by intro q; cases q)
    have LT : PySem.W.Looks (model X.prog X.w) h3 (typeOf (.ref a)) cls := fun A Q E s k q => wpAny_typeOf_ref (k _ _ he3) (by rw [hz3.1]; exact q)
    have LM := PySem.W.exm_one (M := model X.prog X.w) (J3.kIn) LT hb1
    have test : ∀ {Q : Value → Shared → Prop} {E : Value → Shared → Prop}, Q c { s' with heap := h3 } → wpAny (model X.prog X.w) (X.A.mark (some (.ref a))) (eval (.Name x np) X.env) Q E { s' with heap := h3 } := fun {Q E} q => by
      obtain ⟨hg, hdbg, hm | ⟨hm, hv, hnn⟩⟩ := hc
      · exact ld_glob (X := X.suite a ((a, oe3) :: (X.pn ++ pins))) S3 hg hm q hdbg
      · exact ld_blt (X := X.suite a ((a, oe3) :: (X.pn ++ pins))) S3 hg hm hv q hnn hdbg
    refine test (LM.here ?_)
    cases b with
    | true =>
      refine codeAny_handlers_suite_as ?_
      refine HandSPX.lands_againZ fl3 fun h4 fl4 up4 => ?_
      have J4 : Inv X pins σ' H' { s' with heap := h4 } := J.landed nb fl4.1 ((up.trans up3).trans up4) os ag
      obtain ⟨oe4, vs4, he4, hz4, hd4⟩ := fl4.there
      have S4 := J4.suite he4 hd4 na nL nF
      refine store_ok (X := X.suite a ((a, oe4) :: (X.pn ++ pins))) (v := .ref a) S4 hN hi hloc rfl (fun s5 S5 => ?_) (.inr hln)
      refine wpAny_mono ((hsu a oe4 cls d (X.pn ++ pins) hz4 ⟨_, hd4⟩).run [] s5 _ H' _ S5 (hyes rfl a na)) (fun f s6 hsp => ?_) (fun _ _ z => False.elim z)
      cases f with
      | next =>
        obtain ⟨σ6, H6, S6, q6⟩ := hsp
        refine gone_ok (unsuite2 S6 ok) hN hi hln fun s7 J7 => ?_
        obtain ⟨e7, n7, _⟩ := J7.pin (a, oe4) (List.mem_append_right _ List.mem_cons_self)
        exact ⟨_, _, track J7 n0 npin (exV_ok e7 hz4 hd4), q6 n7⟩
      | brk => exact (show False from by obtain ⟨_, _, _, q⟩ := hsp; exact q).elim
      | cont => exact (show False from by obtain ⟨_, _, _, q⟩ := hsp; exact q).elim
      | ret u => exact (show False from by obtain ⟨_, _, _, _, _, q⟩ := hsp; exact q).elim
    | false =>
      show wpAny _ X.A (handleBy (.ref a) X.env []) _ _ _
      refine wpAny_handleBy_nil ?_
      obtain ⟨k1, k2, k3, oe, vs, T, oT, ts', he, hz, hd, h1, hr⟩ := id fl3
      unfold PySem.passOn
      refine wpAny_bind (wpAny_field he hd h1 ?_)
      rw [if_neg (show ¬ ((Value.ref T == Value.none) = true) from by simp)]
      have fin : wpAny (model X.prog X.w) X.A (setFlight (.ref a) X.env.frame) (fun _ s4 => wpAny (model X.prog X.w) X.A (throw (.ref a) : Sem Flow) (SP X pins D) X.xe s4) X.xe { s' with heap := h3 } := by
        rw [hf]
        refine HandSPX.setFlight_upZ fl3 fun h4 hh4 up4 => wpAny_throw (tk _ _ ?_)
        exact ⟨a, B, sI, pins, σ', H', cls, d, rfl, J, nb, (up.trans up3).trans up4, .inr (.inr (by rw [hs]; exact hh4)), na, os, ag, hno rfl⟩
      first
        | exact wpAny_bind (wpAny_pure (wpAny_bind fin))
        | exact wpAny_bind fin
  · cases f with
    | next =>
      obtain ⟨σ', H', J', q⟩ := hsp
      exact wpAny_execs_nil ⟨σ', H', J'.ofTry ok, q⟩
    | brk =>
      obtain ⟨σ', H', J', q⟩ := hsp
      exact ⟨σ', H', J'.ofTry ok, q⟩
    | cont =>
      obtain ⟨σ', H', J', q⟩ := hsp
      exact ⟨σ', H', J'.ofTry ok, q⟩
    | ret u =>
      obtain ⟨v, σ', H', J', r, q⟩ := hsp
      exact ⟨v, σ', H', J'.ofTry ok, r, q⟩
end
end Ev

set_option Elab.async false
set_option linter.all false
set_option maxRecDepth 100000
set_option maxHeartbeats 2000000
/-! rules that the layer lacks: enumerate(reversed(tuple)), extend by a tuple, == with an empty list, repr of data, isinstance of data -/
namespace Sr
open PySem PySem.Spec PyProof.Rows L2 RT

/-! ### nextOf of reversed(tuple) -/
section
variable {prog : Program} {w : World} {A : Around} {E : Value → Shared → Prop} {s : Shared}
theorem nextOf_rt_item {it t : Addr} {i : Nat} {items : Array Value} {x : Value} {Q : Value → Shared → Prop} (hit : IsRt s.heap it t (i : Int)) (ht : IsTup s.heap t items) (hx : items[i]? = some x) (hsz : items.size ≤ sizeLine)
    (hQ : ∀ h', IsRt h' it t ((i : Int) - 1) → Heap.SameBut it s.heap h' → Q x { s with heap := h', toks := s.toks + 1 }) : wpAny (model prog w) A (Builtin.SmallTypes.nextOf (.ref it)) Q E s := by
  obtain ⟨o, ho, hc, hd⟩ := id hit
  have hi : i < items.size := (Array.getElem?_eq_some_iff.mp hx).1
  have hT : s.TypeIs (.ref t) "tuple" := IsTup.typeOf' ht
  rw [sizeLine_eq] at hsz
  unfold Builtin.SmallTypes.nextOf
  refine wpAny_bind (wpAny_callSpecial?_slot (name := Str.ofString "__next__") hit.typeIs slot_rt_next
    (wpAny_call_entry slot_rt_next hit.typeIs entry_rt_next ?_ (args_rt_next _)))
  unfold Builtin.«reversed.__next__»
  refine wpAny_bind (wpAny_of_eq (a := (Value.ref it, [])) rfl ?_)
  try dsimp only
  refine wpAny_bind (wpAny_field ho hd (x := .ref t) rfl ?_)
  try dsimp only
  refine wpAny_bind (wpAny_field ho hd (x := rawInt (i : Int)) rfl ?_)
  show wpAny _ _ (if (i : Int) < 0 then _ else _) _ _ s
  rw [if_neg (by omega)]
  try dsimp only
  refine wpAny_bind (wpAny_specialOf hT get_tuple ?_)
  try dsimp only
  try rw [if_neg (by decide)]
  try dsimp only
  refine wpAny_bind (wpAny_mkInt ?_)
  refine wpAny_bind (wpAny_attempt ?_)
  have fin : seqIndex? (i : Int) items.size = some i := seqIndex_of (by omega) (by omega)
  refine PyProof.Rows.getItem_tuple (s := { s with toks := s.toks + 1 }) ht (by omega) (by omega) fin hx ?_
  try dsimp only
  refine wpAny_bind (wpAny_field (s := { s with toks := s.toks + 1 }) ho hd (x := rawInt (i : Int)) rfl ?_)
  try dsimp only
  refine wpAny_bind (wpAny_setField (s := { s with toks := s.toks + 1 }) ho hd (by simp) ?_)
  first
  | refine wpAny_pure ⟨x, rfl, wpAny_pure (hQ _ ?_ (Heap.SameBut.update ..))⟩
  | refine wpAny_bind (wpAny_pure (wpAny_pure ⟨x, rfl, wpAny_pure (hQ _ ?_ (Heap.SameBut.update ..))⟩))
  exact ⟨_, Heap.get?_update_self _ ho (Obj.isFreed_of_fields (Obj.data_mapFields hd _)), (Obj.cls_mapFields ..).trans hc, by
    rw [Obj.data_mapFields hd]; simp⟩
theorem nextOf_rt_end {it t : Addr} {Q : Value → Shared → Prop} (hh : A.handled = none) (hit : IsRt s.heap it t (-1))
    (hE : ∀ h' e, Heap.ExtBut it s.heap h' → (∃ o, h'.get? e = some o ∧ o.cls = .type "StopIteration") → E (.ref e) { s with heap := h' }) : wpAny (model prog w) A (Builtin.SmallTypes.nextOf (.ref it)) Q E s := by
  obtain ⟨o, ho, hc, hd⟩ := id hit
  unfold Builtin.SmallTypes.nextOf
  refine wpAny_bind (wpAny_callSpecial?_slot (name := Str.ofString "__next__") hit.typeIs slot_rt_next
    (wpAny_call_entry slot_rt_next hit.typeIs entry_rt_next ?_ (args_rt_next _)))
  unfold Builtin.«reversed.__next__»
  refine wpAny_bind (wpAny_of_eq (a := (Value.ref it, [])) rfl ?_)
  try dsimp only
  refine wpAny_bind (wpAny_field ho hd (x := .ref t) rfl ?_)
  try dsimp only
  refine wpAny_bind (wpAny_field ho hd (x := rawInt (-1)) rfl ?_)
  show wpAny _ _ (if (-1 : Int) < 0 then _ else _) _ _ s
  rw [if_pos (by decide)]
  try dsimp only
  refine wpAny_bind (wpAny_rule ?_)
  refine wpAny_bind ?_
  wp_delta
  refine wpAny_bind (wpAny_setField ho hd (by simp) ?_)
  have ho2 := Heap.get?_update_self (Obj.mapFields (·.setIfInBounds 1 (rawInt (-1)))) ho (Obj.isFreed_of_fields (Obj.data_mapFields hd _))
  refine wpAny_setField (s := { s with heap := s.heap.update it (Obj.mapFields (·.setIfInBounds 1 (rawInt (-1)))) }) ho2 (Obj.data_mapFields hd _) (by simp) ?_
  try dsimp only
  first
  | show wpAny _ _ (newExc (.type "StopIteration") [] >>= _) _ _ _
  | (refine wpAny_bind ?_; show wpAny _ _ (newExc (.type "StopIteration") [] >>= _) _ _ _)
  | (refine wpAny_bind ?_; wp_delta; show wpAny _ _ (newExc (.type "StopIteration") [] >>= _) _ _ _)
  refine wpAny_bind ?_
  simp only [newExc, newTuple]
  refine wpAny_bind (wpAny_newObj_type ?_ (by size_fits))
  refine wpAny_bind (m := firstArgMember _ _) (wpAny_of_eq (a := Value.none) (by first | rfl | (simp only [firstArgMember]; rfl)) ?_)
  refine wpAny_newObj_type ?_ (by size_fits)
  simp only [raiseNew]
  refine wpAny_bind (wpAny_handled ?_)
  first | rw [show A.in1.handled = none from hh] | rw [hh]
  refine wpAny_bind (wpAny_pure (wpAny_throw ?_))
  refine hE _ _ ?_ ⟨_, Heap.get?_push_size _ rfl, rfl⟩
  refine ((?_ : Heap.ExtBut it s.heap _).push _).push _
  exact fun b ob hb e => (Heap.get?_update_other _ _ (Ne.symm hb)).trans ((Heap.get?_update_other _ _ (Ne.symm hb)).trans e)
/-- reversed(tuple), drawn by enumerate -/
theorem draws_rt (hh : A.handled = none) {it t : Addr} {items : Array Value} (hsz : items.size ≤ sizeLine) (hne : t ≠ it) :
    Draws prog w A it [it, t] items.size (fun i x => items[items.size - 1 - i]? = some x) (fun i h => IsRt h it t ((items.size : Int) - 1 - (i : Nat)) ∧ IsTup h t items) where
  live := fun i h st => let ⟨o, e, _⟩ := st.1; ⟨o, e⟩
  frame := fun i h h' st k => ⟨st.1.at fun o e => k it (by simp) o e, let ⟨o, e, r⟩ := st.2; ⟨o, k t (by simp) o e, r⟩⟩
  item := fun i s Q E hi st hQ => by
    obtain ⟨hit, ht⟩ := st
    have e1 : (items.size : Int) - 1 - ((i : Nat) : Int) = ((items.size - 1 - i : Nat) : Int) := by omega
    rw [e1] at hit
    have hlt : items.size - 1 - i < items.size := by omega
    refine nextOf_rt_item hit ht (x := items[items.size - 1 - i]) (by simp [hlt]) hsz fun h' st' sb => hQ _ h' _ (by simp [hlt]) ⟨?_, ?_⟩ sb
    · have e2 : ((items.size - 1 - i : Nat) : Int) - 1 = (items.size : Int) - 1 - ((i + 1 : Nat) : Int) := by omega
      rw [← e2]; exact st'
    · obtain ⟨o, e, r⟩ := ht
      exact ⟨o, (sb.2 t hne).trans e, r⟩
  done := fun s Q E st hE => by
    obtain ⟨hit, ht⟩ := st
    have e1 : (items.size : Int) - 1 - ((items.size : Nat) : Int) = -1 := by omega
    rw [e1] at hit
    exact nextOf_rt_end hh hit hE

theorem meets_enumerate_rt (r t : Addr) (i : Int) (dct : Option Addr) (sl : Array (Option Value)) :
    Meets (Builtin.«enumerate.__new__» ⟨[.type "enumerate", .ref r], []⟩) (fun _ R s => s.heap.get? r = some { cls := .type "reversed", dict := dct, data := .fields #[.ref t, rawInt i], slots := sl } ∧
      R (.ok (.ret (.ref s.heap.objs.size)))
        { s with heap := s.heap.push { cls := .type "enumerate", data := .fields #[.none, .bool false, .ref r, rawInt 0, .none, .none] } }) :=
  .of_wp fun prog w A R s h => by
    obtain ⟨hp, g, d, tk, os⟩ := s; obtain ⟨hl, h⟩ := h
    have hsub := sub_enumerate
    have hL : IsRt (Shared.heap ⟨hp, g, d, tk, os⟩) r t i := ⟨_, hl, rfl, rfl⟩
    wp_walk
    refine wpAny_stack_any fun st => wpAny_pure ?_
    split
    · rename_i c _ _ _ _ _
      cases (c == Value.type "enumerate")
      · wp_walk using iter_rt hL
        exact ⟨_, rfl, h⟩
      · wp_walk using iter_rt hL
        exact ⟨_, rfl, h⟩
    · wp_walk using iter_rt hL
      exact ⟨_, rfl, h⟩
theorem call_enumerate_rt {r t : Addr} {i : Int} {Q : Value → Shared → Prop} (hL : IsRt s.heap r t i)
    (h : ∀ h', IsEnum h' s.heap.objs.size r 0 .none → (∀ b o, s.heap.get? b = some o → h'.get? b = some o) → Q (.ref s.heap.objs.size) { s with heap := h' }) :
    wpAny (model prog w) A (call (.type "enumerate") [.ref r]) Q E s := by
  obtain ⟨⟨c, dct, dt, sl⟩, hl, hc, hd⟩ := hL
  replace hc : c = .type "reversed" := hc
  replace hd : dt = .fields #[.ref t, rawInt i] := hd
  subst hc hd
  refine callType_new F.called_enumerate (by decide) (F.typeCall_enumerate_1 _) (F.newCall_enumerate_1 _) (fun obj => F.args_object_init_2 obj _) F.entry_enumerate_new
    (meets_enumerate_rt r t i dct sl) ⟨hl, ?_⟩
  have he : IsEnum (s.heap.push { cls := .type "enumerate", data := .fields #[.none, .bool false, .ref r, rawInt 0, .none, .none] }) s.heap.objs.size r 0 .none := Heap.get?_push_size _ rfl
  exact ⟨⟨_, he, rfl⟩, h _ he fun b o x => Heap.get?_push_of_some _ x⟩
end

/-! ### for i, x in enumerate(reversed(t)) -/
/-- the tuple at a: its items from the last one on, each in a new pair -/
def IteR (K : PySem.W.Frag) (a : Addr) (n : Nat) : It :=
  ⟨fun i H => i < n ∧ ∃ (xs : List V) (x : V), SqT K H a xs ∧ xs.length = n ∧ xs[n - 1 - i]? = some x, fun i H v H' => ∃ T x, v = .ref T ∧ H T = none ∧ H' = upd H T (.tup [.int (i : Nat), x]) ∧ ∀ xs, SqT K H a xs → xs[n - 1 - i]? = some x, fun i H => n ≤ i ∧ ∃ xs, SqT K H a xs ∧ xs.length = n⟩
theorem turn_enumR {P : Program} {w : World} {K : PySem.W.Frag} {elts : List Expr} {kk : Nat} {tpos : Pos} (a e it : Addr) (n : Nat) (hne : e ≠ it) (hae : a ≠ it) (hea : e ≠ a) :
    Turn P w K (.Tuple elts kk tpos) (IteR K a n) [e, it] e (fun i h => i ≤ n ∧ (∃ old, IsEnum h e it ((i : Nat) : Int) old) ∧ IsRt h it a ((n : Int) - 1 - (i : Nat))) where
  mem := by simp
  obj := fun i h st b hb => by
    obtain ⟨_, ⟨old, he⟩, ⟨o, ho, hc, hd⟩⟩ := st
    have e' : b = e ∨ b = it := by simpa using hb
    rcases e' with z | z
    · rw [z]; exact ⟨_, he, fun v q => nomatch q⟩
    · rw [z]; exact ⟨o, ho, fun v q => by rw [hd] at q; cases q⟩
  keep := fun i h h' st k => let ⟨hi, ⟨old, he⟩, hit⟩ := st; ⟨hi, ⟨old, k e (by simp) _ he⟩, hit.at fun o q => k it (by simp) o q⟩
  item := by
    intro X hP hw hK hc i pins s σ H E I hf st hg
    subst hP hw hK
    obtain ⟨_, ⟨old, he⟩, hit⟩ := st
    obtain ⟨hin, xs, x, hq, hl, hx⟩ := hg
    obtain ⟨its, rv, p, hz⟩ := I.tuple hq
    have hlen := rv.length
    have hn : its.toArray.size = n := by simp only [List.size_toArray]; omega
    have hel : e < s.heap.objs.size := Heap.lt_size he
    have hil : it < s.heap.objs.size := by obtain ⟨_, q, _⟩ := hit; exact Heap.lt_size q
    have D := draws_rt (prog := X.prog) (w := X.w) (A := X.A.in1) (I.ok.hd hc) (it := it) (t := a) (items := its.toArray) (by rw [hn, ← hl]; exact hz) hae
    refine wpAny_pyNext_enum_itemD D he (i := i) (old := old) ⟨by rw [hn]; exact hit, p⟩ (by rw [hn]; exact hin) hne (by simp [hne, hea]) fun u h' tk hPx ho hst hT hsz hk => ?_
    obtain ⟨u', hu, ru⟩ := rv.get hx
    have eu : u' = u := by
      have hPx' : its.toArray[its.toArray.size - 1 - i]? = some u := hPx
      rw [hn] at hPx'
      have : its[n - 1 - i]? = some u := by simpa using hPx'
      rw [hu] at this
      exact Option.some.inj this
    subst eu
    refine ⟨_, rfl, wpAny_letOwnedTupleGo_enum (s := { s with heap := h', toks := tk + 1 }) ho fun h'' he' sb => ?_⟩
    have hT2 : h''.get? s.heap.objs.size = some { cls := .type "tuple", data := .seq #[.int i tk, u'] } := (sb.2 _ (Nat.ne_of_gt hel)).trans hT
    have new : ObjOk X.prog X.w (upd H s.heap.objs.size (.tup [.int (i : Nat), x])) h'' s.heap.objs.size (.tup [.int (i : Nat), x]) :=
      ⟨by show 2 ≤ sizeLine; decide, [.int i tk, u'], .cons ⟨_, rfl⟩ (.cons ru .nil), ⟨_, hT2, rfl, _, rfl⟩⟩
    have I1 : Inv X pins σ (upd H s.heap.objs.size (.tup [.int (i : Nat), x])) { s with heap := h'', toks := tk + 1 } :=
      I.turnedNew (ch := [e, it]) (fun b ob hb q => (sb.2 b (fun z => hb (by simp [z]))).trans (hk b ob (fun z => hb (by simp [z])) (fun z => hb (by simp [z])) q)) hf (Nat.le_refl _) new
    obtain ⟨hst1, _⟩ := hst
    refine ⟨.ref s.heap.objs.size, _, I1, rfl, ⟨_, x, rfl, I.hok.fresh (Nat.le_refl _), rfl, fun ys hy => by rw [I.tuple_inj hy hq]; exact hx⟩, ⟨hin, ⟨u', ?_⟩, ?_⟩, fun b hb => ?_⟩
    · have e1 : ((i + 1 : Nat) : Int) = (i : Int) + 1 := by omega
      rw [e1]; exact he'
    · rw [hn] at hst1
      exact hst1.at fun o q => (sb.2 it (Ne.symm hne)).trans q
    · have hb' : b < s.heap.objs.size := by
        have e' : b = e ∨ b = it := by simpa using hb
        rcases e' with z | z
        · rw [z]; exact hel
        · rw [z]; exact hil
      rw [upd_ne (Nat.ne_of_lt hb')]
      exact (hf b hb).1
  done := by
    intro X hP hw hK hc i pins s σ H E I hf st hg
    subst hP hw hK
    obtain ⟨hin, ⟨old, he⟩, hit⟩ := st
    obtain ⟨hge, xs, hq, hl⟩ := hg
    have hi : i = n := by omega
    subst hi
    obtain ⟨its, rv, p, hz⟩ := I.tuple hq
    have hlen := rv.length
    have hn : its.toArray.size = i := by simp only [List.size_toArray]; omega
    obtain ⟨f0, f1, f2, f3, f4, f5⟩ := hf it (by simp)
    have D := draws_rt (prog := X.prog) (w := X.w) (A := X.A.in1) (I.ok.hd hc) (it := it) (t := a) (items := its.toArray) (by rw [hn, ← hl]; exact hz) hae
    exact wpAny_pyNext_enum_endD D he ⟨by rw [hn]; exact hit, p⟩ fun h' eb => ⟨rfl, I.turned (t' := s.toks) (fun b o hb q => eb b o hb q) f0 f1 f3 f4 f5⟩
  self := fun A i s Q E st h => let ⟨_, ⟨_, he⟩, _⟩ := st; wpAny_pyIter_enum he h
def iEnumR (K : PySem.W.Frag) (te : TE) : TI := fun σ H R => te σ H fun v H1 => ∃ a xs, v = .ref a ∧ SqT K H1 a xs ∧ R (IteR K a xs.length) H1
theorem pi_enumR {X : Cx} {e : Expr} {te : TE} {p p2 pos pos2 tpos : Pos} {elts : List Expr} {kk : Nat} (hg : Gl X "enumerate") (hm : X.mg "enumerate" = none) (hg2 : Gl X "reversed") (hm2 : X.mg "reversed" = none) (he : PE X e te)
    (hs : starEach [e] X.env = (false, eval e X.env) :: starEach [] X.env := by rfl)
    (hs2 : starEach [.Call (.Name "reversed" p2) [e] [] pos2] X.env = (false, eval (.Call (.Name "reversed" p2) [e] [] pos2) X.env) :: starEach [] X.env := by rfl) :
    PI X (.Tuple elts kk tpos) (.Call (.Name "enumerate" p) [.Call (.Name "reversed" p2) [e] [] pos2] [] pos) (iEnumR X.K te) := by
  refine ⟨fun pins s σ H R I h => ?_⟩
  refine Call_ (ld_blt I hg hm boot_enumerate (PyProof.Rows.callWith_type1 (args_cons (Call_ (ld_blt I hg2 hm2 PyProof.Rows.boot_reversed (PyProof.Rows.callWith_type1 (args_cons (thn (he.run pins s σ H _ I h) fun u s1 ⟨v, H1, I1, r1, q1⟩ => args_nil ?_) hs) hs rfl))) hs2) hs2 rfl))
  obtain ⟨a, xs, ev, hq, q⟩ := q1
  subst ev
  obtain rfl : u = Value.ref a := r1
  obtain ⟨its, rv, p', hz⟩ := I1.tuple hq
  have hl := rv.length
  have hn := line63
  refine call_reversed_tup p' (fun A E Q k => len_tuple p' (by simp only [List.size_toArray] <;> omega) k) (args_nil ?_)
  have hi0 : IsRt (s1.heap.push (rtObj a ((its.toArray.size : Int) - 1))) s1.heap.objs.size a ((its.toArray.size : Int) - 1) := ⟨_, Heap.get?_push_size _ rfl, rfl, rfl⟩
  have k0 : ∀ b o, s1.heap.get? b = some o → (s1.heap.push (rtObj a ((its.toArray.size : Int) - 1))).get? b = some o := fun b o e => Heap.get?_push_of_some _ e
  have hsz0 : (s1.heap.push (rtObj a ((its.toArray.size : Int) - 1))).objs.size = s1.heap.objs.size + 1 := Heap.size_push ..
  refine call_enumerate_rt (s := { s1 with heap := s1.heap.push (rtObj a ((its.toArray.size : Int) - 1)), toks := s1.toks + 1 + 1 }) hi0 fun h' he' hk => wpAny_pyIter_enum he' ?_
  have I2 : Inv X pins σ H1 { s1 with heap := h', toks := s1.toks + 1 + 1 } := I1.kept (t' := s1.toks + 1 + 1) fun b o e => hk b o (k0 b o e)
  obtain ⟨oa, hoa, _⟩ := id p'
  have haz : a < s1.heap.objs.size := Heap.lt_size hoa
  have e1 : ((its.toArray.size : Nat) : Int) - 1 = (xs.length : Int) - 1 - ((0 : Nat) : Int) := by simp only [List.size_toArray]; omega
  refine ⟨s1.heap.objs.size + 1, [s1.heap.objs.size + 1, s1.heap.objs.size], _, _, H1, ?_, I2, turn_enumR a (s1.heap.objs.size + 1) s1.heap.objs.size xs.length (Nat.succ_ne_self _) (Nat.ne_of_lt haz) (Nat.ne_of_gt (Nat.lt_succ_of_lt haz)), ⟨Nat.zero_le _, ⟨.none, ?_⟩, ?_⟩, fun b hb => ?_, q⟩
  · show Value.ref _ = _
    rw [hsz0]
  · have := he'
    rw [hsz0] at this
    exact this
  · rw [← e1]
    exact hi0.at fun o e => hk _ o e
  · have e' : b = s1.heap.objs.size + 1 ∨ b = s1.heap.objs.size := by simpa using hb
    have hle : s1.heap.objs.size ≤ b := by
      rcases e' with z | z
      · rw [z]; exact Nat.le_add_right _ _
      · rw [z]; exact Nat.le_refl _
    exact I1.fpOk hle (I1.hok.fresh hle)
theorem walk_enumR {K : PySem.W.Frag} {a : Addr} {xs : List V} : Walk (IteR K a xs.length) xs.length (fun H => SqT K H a xs) (YPair (fun i => some (.int (i : Nat))) (fun i => xs[xs.length - 1 - i]?)) := by
  refine ⟨fun i _ hi q => ⟨hi, xs, xs[xs.length - 1 - i]'(by omega), q, rfl, by simp [show xs.length - 1 - i < xs.length by omega]⟩, fun _ q => ⟨Nat.le_refl _, xs, q, rfl⟩, fun i H v H' _ q y => ?_⟩
  obtain ⟨T, x, h1, h2, h3, h4⟩ := y
  exact ⟨T, .int (i : Nat), x, h1, h2, h3, rfl, h4 xs q⟩
end Sr

set_option Elab.async false
set_option linter.all false
set_option maxRecDepth 100000
set_option maxHeartbeats 2000000
/-! an own error over ValueError whose __init__ says super().__init__(text); self.fld = fld -/
namespace Nt
open PySem PySem.W PySem.Calls PyProof.Rows PySem.HandSPX
abbrev fld : Str := "line"
def iA : Arguments := { posonlyargs := [], args := [{ arg := "self", annotation := none, pos := ⟨30, 17, 30, 21⟩ }, { arg := "text", annotation := none, pos := ⟨30, 23, 30, 27⟩ }, { arg := fld, annotation := none, pos := ⟨30, 29, 30, 33⟩ }], vararg := none, kwonlyargs := [], kw_defaults := [], kwarg := none, defaults := [.Constant .none 0 ⟨30, 34, 30, 38⟩] }
def iB : List Stmt := [.Expr (.Call (.Attribute (.Call (.Name "super" ⟨31, 8, 31, 13⟩) [] [] ⟨31, 8, 31, 15⟩) "__init__" ⟨31, 8, 31, 24⟩) [.Name "text" ⟨31, 25, 31, 29⟩] [] ⟨31, 8, 31, 30⟩) ⟨31, 8, 31, 30⟩, .Assign [.Attribute (.Name "self" ⟨32, 8, 32, 12⟩) fld ⟨32, 8, 32, 17⟩] (.Name fld ⟨32, 20, 32, 24⟩) ⟨32, 8, 32, 24⟩]
def iS : Scope := { kind := .function, names := [("self", .local), ("text", .local), (fld, .local), ("__class__", .free), ("super", .globalImplicit)], isGenerator := false, isCoroutine := false, more := [] }
/-- what the written part says of the class cn, at C, of its __init__, at fI, its cell and its code -/
structure Txt (P : Program) (K : Frag) (mg : Str → Option Value) (cn qn : Str) (C fI cc cda : Addr) : Prop where
  gC : mg cn = some (.ref C)
  gS : mg "super" = none
  cls : ∃ nm q N bs bm sn sub ab col dd k0 k1 k2 k3 k5, K.lookup C = some (excClassObj nm q C N bs bm true sn sub ab col dd k0 k1 k2 k3 k5 "ValueError.__new__") ∧ refsVE bm = true
  sa : findIn K (.ref C) "__setattr__" = some (some (.builtin "object.__setattr__"))
  noN : findIn K (.ref C) fld = some none
  iC : findIn K (.ref C) "__init__" = some (some (.ref fI))
  tC : typeIn K (.ref fI) = some (.type "function")
  kC : keepIn K (.ref C) = true
  exC : subIn K (.ref C) (.type "BaseException") = some true
  veC : subIn K (.ref C) (.type "ValueError") = some true
  tyC : typeIn K (.ref C) = some (.type "type")
  hdC : hasDictIn K C = true
  seC : mroIn K C (.ref C) = some true
  opC : nsIn K cStatics "thirdparty.any" = some none
  suC : ks_superIn K C C "__init__" = some (some (.builtin "ValueError.__init__"))
  fn : ∃ (oc : Value) (od : Option Addr) (dV kV doc pm : Value) (an : Option Addr) (ct : Value) (osl : Array (Option Value)),
    K.lookup fI = some ⟨oc, od, .func (ksFn "__init__" qn iA iB iS dV kV doc pm an (.ref cda) ct cc), osl⟩ ∧ codeIn K (.ref cda) qn = true ∧ ∃ (t : Addr) (o : Obj) (n : Nat), dV = .ref t ∧ K.lookup t = some o ∧ o.data = .seq #[.none] n
  code : ∃ (ccl : Value) (cdd : Option Addr) (vs : Array Value) (ccs : Array (Option Value)) (file : Str) (tf : Tok), K.lookup cda = some ⟨ccl, cdd, .fields vs, ccs⟩ ∧ vs[2]? = some (.str file tf) ∧ ((P.main.file : Str) == file) = true
  cell : ∃ (cl : Value) (cld : Option Addr) (csl : Array (Option Value)), K.lookup cc = some ⟨cl, cld, .cell (some (.ref C)), csl⟩
  top : (P.main.scope.names.lookup ("super" : Str)).isSome = false
theorem two_size (v u : Value) : [v, u].length ≤ sizeLine := by
  rw [sizeLine_eq]
  exact (by decide : 2 ≤ 16777216)
theorem one_size (v : Value) : [v].length ≤ sizeLine := by
  rw [sizeLine_eq]
  exact (by decide : 1 ≤ 16777216)
/-- what __init__ leaves of a fresh exception at x -/
structure InitEnd (h h' : Heap) (x C dx t1 : Addr) (v : Value) : Prop where
  keep : ∀ b o, b ≠ x → h.get? b = some o → h'.get? b = some o
  obj : h'.get? x = some { cls := .ref C, dict := some dx, data := .fields #[.ref t1, .none, .none, .none, .bool false, .none] }
  dbig : h.objs.size ≤ dx
  dne : dx ≠ x
  ns : h'.Ns1 dx (fun y => if y = fld then some v else none)
structure OwnMade (h h' : Heap) (e C d : Addr) (v : Value) : Prop where
  keep : ∀ b o, h.get? b = some o → h'.get? b = some o
  new : h.objs.size ≤ e
  obj : ∃ oe vs, h'.get? e = some oe ∧ oe.cls = .ref C ∧ oe.dict = some d ∧ oe.data = .fields vs ∧ vs[1]? = some .none
  dbig : h.objs.size ≤ d
  dne : d ≠ e
  ns : h'.Ns1 d (fun y => if y = fld then some v else none)
section
variable {P : Program} {w : World} {A : Around} {E : Value → Shared → Prop} {R : Result → Shared → Prop} {s : Shared} {K : Frag} {mg mb : Str → Option Value} {cn qn : Str} {C fI cc cda : Addr}
theorem nt_init (T : Txt P K mg cn qn C fI cc cda) {x t0 : Addr} {tv v : Value} (X : K.In s.heap) (hg : s.heap.Ns mainGlobals mg) (hb : s.heap.Ns builtinsNs mb) (hbs : mb "super" = some (.type "super")) (hlim : s.heap.NoLimit) (hx : s.heap.get? x = some (excO C t0)) (hnx : K.lookup x = none) (hroom : A.depth < recursionLimit)
    (hq : ∀ h' tk dx t1, InitEnd s.heap h' x C dx t1 v → R (.ok (.ret .none)) { s with heap := h', toks := tk }) :
    codeAny (model P w) A (.call (.ref fI) ⟨[.ref x, tv, v], []⟩) R s := by
  obtain ⟨oc, od, dV, kV, doc, pm, an, ct, osl, ho, hcd, dt, dto, dn0, rfl, hdt, hdd⟩ := T.fn
  obtain ⟨ccl, cdd, vs, ccs, file, tf, hcode, hvs, hfile⟩ := T.code
  obtain ⟨cl, cld, csl, hcell⟩ := T.cell
  obtain ⟨nm, q, N, bs, bm, sn, sub, ab, col, dd, k0, k1, k2, k3, k5, hC, hbm⟩ := T.cls
  have hcl : clsIn K C = some { name := nm, bases := bs, mro := .ref C :: bm, ns := N, qualname := q, hasDict := true, slotNames := sn, subclasses := sub, abstract := ab, collection := col, hasDel := false } := by unfold clsIn; rw [hC] <;> rfl
  have l1 : iS.names.lookup ("self" : Str) = some .local := rfl
  have l2 : iS.names.lookup ("text" : Str) = some .local := rfl
  have l3 : iS.names.lookup fld = some .local := rfl
  have l4 : iS.names.lookup ("super" : Str) = some .globalImplicit := rfl
  have l5 : iS.names.lookup ("__class__" : Str) = some .free := rfl
  refine ks_codeAny_call_defAt (fd := ksFn "__init__" qn iA iB iS (.ref dt) kV doc pm an (.ref cda) ct cc) (body := iB) (binds := [("self", .ref x), ("text", tv), (fld, v)]) hroom (X _ _ ho) rfl hlim (codeRec_of X hcd) rfl (BindsTo.of_defaults rfl (X _ _ hdt) hdd rfl rfl) (fun y hy => by simp [iS] at hy; rcases hy with rfl | rfl | rfl | rfl | rfl <;> simp) (fun y hy => ?_) (fun h₁ hns k₁ => ?_) rfl rfl rfl
  · simp at hy
    rcases hy with rfl | rfl | rfl
    · exact l1
    · exact l2
    · exact l3
  have hns' : h₁.Ns s.heap.objs.size (fun y => List.lookup y [(fld, v), ("text", tv), ("self", .ref x)]) := hns
  have X₁ := X.keeps k₁
  have hx₁ := k₁ _ _ hx
  have m1 : List.lookup ("self" : Str) [(fld, v), (("text" : Str), tv), (("self" : Str), Value.ref x)] = some (.ref x) := rfl
  have m2 : List.lookup ("text" : Str) [(fld, v), (("text" : Str), tv), (("self" : Str), Value.ref x)] = some tv := rfl
  have m3 : List.lookup fld [(fld, v), (("text" : Str), tv), (("self" : Str), Value.ref x)] = some v := rfl
  have I₁ : InstAt h₁ x (excO C t0) C none := ⟨hx₁, rfl, rfl, trivial⟩
  show _root_.PySem.wpAt _ _ (.func _ (ksEnv qn iS s.heap.objs.size fI (.ref cda) cc)) (execs iB (ksEnv qn iS s.heap.objs.size fI (.ref cda) cc)) _ _ _
  refine ks_wpAt_execs_cons (ks_wpAt_Expr_any (ks_wpAt_MethodCall ?_))
  obtain ⟨oD, hD1, hD2⟩ : ∃ oD, h₁.get? C = some oD ∧ ∃ cdD, oD.data = .cls cdD := ⟨_, X₁ _ _ hC, _, rfl⟩
  obtain ⟨cdD, hD2⟩ := hD2
  have g₁ : h₁.Ns mainGlobals mg := hg.keeps k₁
  have gb₁ : h₁.Ns builtinsNs mb := hb.keeps k₁
  refine ks_wpAt_super_base (env := ksEnv qn iS s.heap.objs.size fI (.ref cda) cc) l4 l5 (by decide) rfl (X₁ _ _ ho) rfl (ar := { arg := "self", annotation := none, pos := ⟨30, 17, 30, 21⟩ }) rfl rfl (X₁ _ _ hcode) rfl hvs hfile T.top ?_
  refine ks_loadName_global rfl l4 (loadGlobal_builtin (env := ksEnv qn iS s.heap.objs.size fI (.ref cda) cc) (mg := mg) (mb := mb) g₁ T.gS gb₁ hbs ⟨rfl, ?_⟩)
  refine wpAny_loadName_free rfl l5 rfl ⟨_, X₁ _ _ hcell, rfl⟩ ?_
  refine wpAny_loadName_local rfl l1 hns' m1 ?_
  refine ks_wpAny_isType_cls hD1 hD2 ⟨rfl, ?_⟩
  refine ks_wpAny_call_super hD1 hD2 hx₁ rfl (fun c e => by cases e) (looks_mroIn X₁ T.seC) (fun h₂ e₂ k₂ => ?_)
  have X₂ := X₁.keeps k₂
  have I₂ : InstAt h₂ x (excO C t0) C none := ⟨k₂ _ _ hx₁, rfl, rfl, trivial⟩
  have hsup := T.suC
  unfold ks_superIn at hsup
  rw [hcl] at hsup
  have hIs : Looks (model P w) h₂ (isInstance (.ref x) (.type "ValueError")) true := I₂.type.andThen (looks_subIn X₂ T.veC)
  refine kxs_getMethod kxs_ValueError e₂ (looks_opaque X₂ T.opC) (l₀ := .ref C :: bm) (fun A Q E s k q => wpAny_bind ((looks_clsIn X₂ hcl) A _ E s k (wpAny_pure q))) rfl X₂ hsup hIs (ks_ne X₂ I₂ hcl) (by decide) ?_
  have k₃ : ∀ b o, h₂.get? b = some o → (h₂.push (kxs_mw "ValueError.__init__" x)).get? b = some o := fun b o e => Heap.get?_push_of_some _ e
  have hu : (h₂.push (kxs_mw "ValueError.__init__" x)).get? h₂.objs.size = some (kxs_mw "ValueError.__init__" x) := Heap.get?_push_at rfl rfl
  refine kxs_callWith (i := "ValueError.__init__") (x := x) (by rfl) ?_
  refine evalArgs_plain ?_
  refine args_cons (wpAny_Name (wpAny_loadName_local (env := ksEnv qn iS s.heap.objs.size fI (.ref cda) cc) (name := "text") rfl l2 ((hns'.keeps k₂).keeps k₃) m2 (args_nil ⟨hu, ?_⟩)) (by decide)) rfl
  have he : (h₂.push (kxs_mw "ValueError.__init__" x)).get? x = some (excRec (.ref C) t0 none .none .none (.bool false)) := k₃ _ _ (k₂ _ _ hx₁)
  refine wpAny_call (codeAny_of_tree ?_)
  show wpAny _ (Around.in1 _) (callAny (.ref h₂.objs.size) ⟨[tv], []⟩) _ _ _
  simp only [callAny]
  refine wpAny_bind (wpAny_load hu ?_)
  simp only [kxs_mw, show (Value.type "method-wrapper" == Value.type "method" || Value.type "method-wrapper" == Value.type "builtin_function_or_method" || Value.type "method-wrapper" == Value.type "method-wrapper") = true by decide, if_true]
  refine KFB.if_so (by decide) ?_
  refine wpAny_bind (check_bound_init F.excBase_ValueError.toExcCallFacts (k₃ _ _ (k₂ _ _ (X₁ _ _ hC))) he rfl ?_)
  refine wpAny_bind (wpAny_pure (wpAny_pure ?_))
  refine ⟨plainId_quiet F.excBase_ValueError.init.plain _, codeAny_builtin F.excBase_ValueError.initEntry ?_⟩
  refine exc_init_tree he (one_size tv) fun h₄ k₄ e₄ e5 => ?_
  -- self.fld = fld
  have K4 : ∀ b o, b ≠ x → h₁.get? b = some o → h₄.get? b = some o := fun b o hb e => k₄ b o hb (k₃ _ _ (k₂ _ _ e))
  have X₄ : K.In h₄ := fun a o e => K4 a o (fun z => by rw [z, hnx] at e; cases e) (X₁ a o e)
  have hL : s.heap.objs.size ≠ x := Nat.ne_of_gt (Heap.lt_size hx)
  have hns₄ : h₄.Ns s.heap.objs.size (fun y => List.lookup y [(fld, v), ("text", tv), ("self", .ref x)]) := hns'.at fun o e => K4 _ o hL e
  refine wpAt_of_wpAny (wpAny_execs_cons (plainObj_wpAny_Assign_Attribute ?_))
  refine wpAny_Name (wpAny_loadName_local (env := ksEnv qn iS s.heap.objs.size fI (.ref cda) cc) (name := fld) rfl l3 hns₄ m3 ?_) (by decide)
  refine wpAny_Name (wpAny_loadName_local (env := ksEnv qn iS s.heap.objs.size fI (.ref cda) cc) (name := "self") rfl l1 hns₄ m1 ?_) (by decide)
  refine set_plain X₄ (ox := excO C (h₂.push (kxs_mw "ValueError.__init__" x)).objs.size) (od := none) ⟨e₄, rfl, rfl, trivial⟩ T.sa ?_
  refine exc_osa X₄ e₄ hcl (show refsVE (.ref C :: bm) = true from hbm) rfl T.noN (fun h₅ tk₅ dx k₅ dn dne hx₅ hn₅ => ?_)
  show wpAny _ _ (execs _ _) _ _ _
  have z1 : s.heap.objs.size < h₁.objs.size := hns.lt
  have z2 : h₁.objs.size ≤ h₂.objs.size := Nat.le_of_lt (Heap.lt_size e₂)
  have z3 : h₂.objs.size ≤ h₄.objs.size := by
    have q := Heap.lt_size e5
    rw [Heap.size_push] at q
    exact Nat.le_of_lt (Nat.lt_of_succ_lt q)
  exact wpAny_execs_nil (hq h₅ tk₅ dx _ ⟨fun b o hb e => k₅ b o hb (K4 b o hb (k₁ b o e)), hx₅, Nat.le_of_lt (Nat.lt_of_lt_of_le z1 (Nat.le_trans z2 (Nat.le_trans z3 dn))), dne, hn₅⟩)
theorem nt_made (T : Txt P K mg cn qn C fI cc cda) {tv v : Value} (X : K.In s.heap) (hg : s.heap.Ns mainGlobals mg) (hb : s.heap.Ns builtinsNs mb) (hbs : mb "super" = some (.type "super")) (hlim : s.heap.NoLimit) (hroom : A.depth + 1 < recursionLimit)
    (hq : ∀ h' tk e d, OwnMade s.heap h' e C d v → R (.ok (.ret (.ref e))) { s with heap := h', toks := tk }) :
    codeAny (model P w) A (.call (.ref C) ⟨[tv, v], []⟩) R s := by
  obtain ⟨nm, q, N, bs, bm, sn, sub, ab, col, dd, k0, k1, k2, k3, k5, hC, hbm⟩ := T.cls
  obtain ⟨hp, g, dr, tk, os⟩ := s
  have k : ∀ b o, hp.get? b = some o → ((hp.push (kdv_tup [tv, v])).push (excO C hp.objs.size)).get? b = some o := fun b o e => Heap.get?_push_of_some _ (Heap.get?_push_of_some _ e)
  have hget : ((hp.push (kdv_tup [tv, v])).push (excO C hp.objs.size)).get? (hp.objs.size + 1) = some (excO C hp.objs.size) := by heap_get
  have hnx : K.lookup (hp.objs.size + 1) = none := by
    cases e : K.lookup (hp.objs.size + 1) with
    | none => rfl
    | some o =>
      have z : hp.get? (hp.objs.size + 1) = some o := X _ _ e
      exact absurd (Nat.lt_of_succ_lt (Heap.lt_size z)) (Nat.lt_irrefl _)
  refine call_own F.excBase_ValueError (fun X => refsVE_contains X bm hbm) (X _ _ hC) (looks_findIn X T.iC) (fun self => bind_fn X self T.tC) (two_size tv v) ?_
  refine nt_init (s := ⟨(hp.push (kdv_tup [tv, v])).push (excO C hp.objs.size), g, dr, tk, os⟩) T (X.keeps k) (hg.keeps k) (hb.keeps k) hbs (hlim.keeps k) hget hnx ?_ fun h' tk' dx t1 ⟨k', hx, dn, dne, hns⟩ => ?_
  · show A.depth + 1 < recursionLimit
    exact hroom
  · have old : ∀ b o, hp.get? b = some o → h'.get? b = some o := fun b o e => k' b o (Nat.ne_of_lt (Nat.lt_succ_of_lt (Heap.lt_size e))) (k b o e)
    have z : hp.objs.size + 1 + 1 ≤ dx := by
      first
        | (simpa only [Heap.size_push] using dn)
        | exact dn
        | (have q := dn; rw [Heap.size_push, Heap.size_push] at q; exact q)
    exact ⟨rfl, hq h' tk' (hp.objs.size + 1) dx ⟨old, Nat.le_succ _, ⟨_, _, hx, rfl, rfl, rfl, rfl⟩, Nat.le_trans (Nat.le_trans (Nat.le_succ _) (Nat.le_succ _)) z, dne, hns⟩⟩
end
end Nt
namespace Nt
open PySem PySem.Spec PyProof.Rows L2
theorem relO_fld {v : V} {v' : Value} (r : RelV v v') (f : Str) : RelO (List.lookup f [(fld, v)]) (if f = fld then some v' else none) := by
  by_cases hw : f = fld
  · subst hw
    rw [if_pos rfl]
    have q : List.lookup fld [(fld, v)] = some v := by simp [List.lookup]
    rw [q]
    exact r
  · rw [if_neg hw]
    have qw : (f == fld) = false := by simpa using hw
    have q2 : List.lookup f [(fld, v)] = none := by simp [List.lookup, qw]
    rw [q2]
    trivial
section
variable {X : Cx} {cn qn : Str} {C fI cc cda : Addr}
/-- NoText(text, line) -/
def tMk (C : Addr) (ta : TA) : L2.St → Hp → XK → Prop := fun σ H Q => ta σ H fun vs H1 => ∃ t v, vs = [t, v] ∧ ∀ d, H1 d = none → Q (.ref C) (some d) (upd H1 d (.xd [(fld, v)]))
theorem pmk {a b : Expr} {ta : TA} {p pos : Pos} {k : Nat} (T : Txt X.prog X.K X.mg cn qn C fI cc cda) (hr : Room k X.A) (ha : PA X [a, b] ta) (hg : Gl X cn := by rfl)
    (he : starEach (a :: [b]) X.env = (false, eval a X.env) :: starEach [b] X.env := by rfl) (hpl : (backTo pos (starEach [b] X.env)).any (·.1) = false := by rfl) (hdb : (cn == ("__debug__" : Str)) = false := by decide) :
    PMk X (.Call (.Name cn p) [a, b] [] pos) (tMk C ta) := by
  intro pins s σ H Q I h
  refine wpAny_Call_Name_kw (ld_glob I hg T.gC ?_ hdb)
  refine PySem.W.callWith_K (h₀ := X.base) I.ok.mod.kin T.kC (thn (ha.run pos pins s σ H _ I h) fun us s1 hh => ?_) he hpl
  obtain ⟨vs, H1, I1, r1, t, v, ev, q1⟩ := hh
  subst ev
  refine ⟨I1.kIn, ?_⟩
  cases r1 with
  | cons rt rn =>
    rename_i t' us'
    cases rn with
    | cons rv rn =>
    rename_i v' us'
    cases rn
    show wpAny _ _ (call (.ref C) [t', v']) _ _ _
    have hlim := I1.nolimit
    obtain ⟨mb, hb1, hb2⟩ := I1.mod.blt
    have gg := I1.mod.glob.keeps I1.bk
    have gb := hb1.keeps I1.bk
    obtain ⟨hp, g, dr, tk, os⟩ := s1
    refine wpAny_call (nt_made T I1.kIn gg gb ((hb2 "super" (by decide)).trans (by decide +kernel)) hlim (by have := hr.dp; omega) fun h' tk' e d M => ?_)
    show MkP X pins σ Q (.ref e) ⟨h', g, dr, tk', os⟩
    obtain ⟨oe, fv, hoe, hc, hd, hdat, h1⟩ := M.obj
    have hns := M.ns
    obtain ⟨G', g1, g2⟩ := restrict h' fun b => decide (b ≠ e)
    have gk : ∀ b, b ≠ e → G'.get? b = h'.get? b := fun b hb => g1 b (decide_eq_true hb)
    have ge : G'.get? e = none := g2 e (by simp)
    have old : ∀ b o, hp.get? b = some o → G'.get? b = some o := fun b o q => (gk b (Nat.ne_of_lt (Nat.lt_of_lt_of_le (Heap.lt_size q) M.new))).trans (M.keep b o q)
    have ob : ObjOk X.prog X.w (upd H1 d (.xd [(fld, v)])) G' d (.xd [(fld, v)]) :=
      ⟨_, hns.at (fun o q => (gk d M.dne).trans q), fun f => relO_fld rv f⟩
    have J : Inv X pins σ (upd H1 d (.xd [(fld, v)])) ⟨G', g, dr, tk', os⟩ := I1.laid (t' := tk') old M.dbig ob
    refine ⟨e, oe, fv, ⟨G', g, dr, tk', os⟩, _, .ref C, some d, rfl, J, fun b o q => ?_, ge, hoe, ⟨hc, hd⟩, hdat, h1, ?_, rfl, I1.bare, raises_own T.exC T.tyC, q1 d (I1.hok.fresh M.dbig)⟩
    · by_cases hb : b = e
      · have q' : G'.get? b = some o := q
        rw [hb, ge] at q'; cases q'
      · exact (gk b hb).symm.trans q
    · rw [upd_ne (Ne.symm M.dne)]
      exact I1.hok.fresh M.new
def tRaise (C : Addr) (W : WX) (ta : TA) : TS := fun _ σ H => tMk C ta σ H fun cls d H' => W cls d σ H'
theorem ps_raiseN {a b : Expr} {ta : TA} {W : WX} {p pos pos2 : Pos} {k : Nat} (hc : X.calm = true) (T : Txt X.prog X.K X.mg cn qn C fI cc cda) (hr : Room k X.A) (tk : Takes X W) (ha : PA X [a, b] ta) (hg : Gl X cn := by rfl)
    (he : starEach (a :: [b]) X.env = (false, eval a X.env) :: starEach [b] X.env := by rfl) (hpl : (backTo pos (starEach [b] X.env)).any (·.1) = false := by rfl) (hdb : (cn == ("__debug__" : Str)) = false := by decide) :
    PS X (.Raise (some (.Call (.Name cn p) [a, b] [] pos)) none pos2) (tRaise C W ta) := ps_raise hc tk (pmk T hr ha hg he hpl hdb)
end
end Nt

set_option Elab.async false
set_option linter.all false
set_option maxRecDepth 100000
set_option maxHeartbeats 2000000
/-! a caught error held as a value: isinstance, its field -/
namespace Ev
open PySem PySem.Spec PyProof.Rows L2
/-- what the class C must say -/
structure Isa (K : PySem.W.Frag) (C : Addr) : Prop where
  cl : (PySem.W.clsIn K C).isSome = true
  hd : PySem.W.hasDictIn K C = true
  ga : PySem.W.findIn K (.ref C) "__getattribute__" = some (some (.builtin "BaseException.__getattribute__"))
  gt : PySem.W.findIn K (.ref C) "__getattr__" = some none
  sub : PySem.W.subIn K (.ref C) (.type "BaseException") = some true
  ha : PySem.W.findIn K (.ref C) "__class__" = some (some (.builtin "object.__class__"))
  hn : PySem.W.specialIn K (.builtin "object.__class__") "__get__" = some (some (.builtin "getset_descriptor.__get__"))
  htk : PySem.W.takesIn K (.builtin "object.__class__") = some true
  hm : PySem.W.mroIn K C (.type "object") = some true
def isaB (K : PySem.W.Frag) (C : Addr) : Bool := (PySem.W.clsIn K C).isSome && (PySem.W.hasDictIn K C && (decide (PySem.W.findIn K (.ref C) "__getattribute__" = some (some (.builtin "BaseException.__getattribute__"))) &&
  (decide (PySem.W.findIn K (.ref C) "__getattr__" = some none) && (decide (PySem.W.subIn K (.ref C) (.type "BaseException") = some true) && (decide (PySem.W.findIn K (.ref C) "__class__" = some (some (.builtin "object.__class__"))) &&
  (decide (PySem.W.specialIn K (.builtin "object.__class__") "__get__" = some (some (.builtin "getset_descriptor.__get__"))) && (decide (PySem.W.takesIn K (.builtin "object.__class__") = some true) && decide (PySem.W.mroIn K C (.type "object") = some true))))))))
theorem isaB_ok {K : PySem.W.Frag} {C : Addr} (h : isaB K C = true) : Isa K C := by
  obtain ⟨h1, h⟩ := Bool.and_eq_true_iff.mp h
  obtain ⟨h2, h⟩ := Bool.and_eq_true_iff.mp h
  obtain ⟨h3, h⟩ := Bool.and_eq_true_iff.mp h
  obtain ⟨h4, h⟩ := Bool.and_eq_true_iff.mp h
  obtain ⟨h5, h⟩ := Bool.and_eq_true_iff.mp h
  obtain ⟨h6, h⟩ := Bool.and_eq_true_iff.mp h
  obtain ⟨h7, h⟩ := Bool.and_eq_true_iff.mp h
  obtain ⟨h8, h9⟩ := Bool.and_eq_true_iff.mp h
  exact ⟨h1, h2, of_decide_eq_true h3, of_decide_eq_true h4, of_decide_eq_true h5, of_decide_eq_true h6, of_decide_eq_true h7, of_decide_eq_true h8, of_decide_eq_true h9⟩
section
variable {X : Cx} {pins : List (Addr × Obj)} {σ : L2.St} {H : Hp} {s : Shared}
theorem exv_inst {a D dd : Addr} {fs : List (Str × V)} (I : Inv X pins σ H s) (e : H a = some (ExV (.ref D) (some dd) a)) (ed : H dd = some (.xd fs)) :
    ∃ (oe : Obj) (od : Obj) (mA : Str → Option Value), PySem.W.InstAt s.heap a oe D (some od) ∧ (∀ f, PySem.W.lookIn f od = some (mA f)) ∧ ∀ f, RelO (fs.lookup f) (mA f) := by
  obtain ⟨⟨oe, vs, h1, hz, hd⟩, _, _⟩ := (show ObjOk X.prog X.w H s.heap a (ExV (.ref D) (some dd) a) from I.hok a _ e)
  obtain ⟨mA, hns, hr⟩ := (show ObjOk X.prog X.w H s.heap dd (.xd fs) from I.hok dd _ ed)
  obtain ⟨od, ho, hl⟩ := lookIn_ns hns
  exact ⟨oe, od, mA, ⟨h1, hz.1, by unfold PySem.W.notCls; rw [hd] <;> rfl, by rw [hz.2]; exact ho⟩, fun f => hl f, hr⟩
/-- isinstance(e, C), e an error held as a value -/
def rIsV (K : PySem.W.Frag) : List V → Hp → VK → Prop := fun xs H Q => ∃ (a D dd : Addr) (fs : List (Str × V)) (c : V) (u : Value) (b : Bool), xs = [.ref a, c] ∧ H a = some (ExV (.ref D) (some dd) a) ∧ H dd = some (.xd fs) ∧ ClsV c u ∧ Isa K D ∧ PySem.W.kitOne K (.ref D) u = some b ∧ Q (.bl b) H
theorem call_isV : CallR X (.builtin "isinstance") (rIsV X.K) := by
  intro pins s σ H xs us Q I r h
  obtain ⟨a, D, dd, fs, c, u, b, rfl, ea, ed, k, T, e, q⟩ := h
  obtain ⟨u1, u2, rfl, r1, r2⟩ := vals2 r
  cases (show u1 = Value.ref a from r1)
  have e2 := k.eq r2
  subst e2
  obtain ⟨oe, od, mA, J, hl, hr⟩ := exv_inst I ea ed
  exact PySem.W.kia_one (PySem.W.kitx_exc T.cl T.ga T.gt T.sub T.ha T.hn T.htk T.hm) I.kIn J e (fun z => nomatch z) fun tk => ⟨.bl b, H, I.tok tk, rfl, q⟩
/-- e.f -/
def tXv (K : PySem.W.Frag) (f : Str) (te : TE) : TE := fun σ H Q => te σ H fun x H1 => ∃ (a D dd : Addr) (fs : List (Str × V)) (v : V), x = .ref a ∧ H1 a = some (ExV (.ref D) (some dd) a) ∧ H1 dd = some (.xd fs) ∧ fs.lookup f = some v ∧ Isa K D ∧ PySem.W.findIn K (.ref D) f = some none ∧ Q v H1
theorem pe_xv {e : Expr} {te : TE} {pos : Pos} {n : Str} (he : PE X e te) (hb : attributeBase e n X.env (eval e X.env) = eval e X.env := by rfl) : PE X (.Attribute e n pos) (tXv X.K n te) := by
  refine ⟨fun pins s σ H Q I h => ?_⟩
  refine attr_of hb (thn (he.run pins s σ H _ I h) fun u s1 hh => ?_)
  obtain ⟨x, H1, I1, rx, a, D, dd, fs, v, ex, ea, ed, l, T, hno, q⟩ := hh
  subst ex
  obtain rfl : u = Value.ref a := rx
  obtain ⟨oe, od, mA, J, hl, hr⟩ := exv_inst I1 ea ed
  obtain ⟨u, hu, ru⟩ := RelO.some_of (v := v) (o := mA n) (by rw [← l]; exact hr n)
  exact HandSPX.exc_get I1.kIn J T.ga T.gt T.sub (PySem.W.findObj_own T.hd hno rfl (by rw [hl n, hu])) (handed_of ru) ⟨v, H1, I1.tok _, ru, q⟩
end
end Ev

set_option Elab.async false
set_option linter.all false
set_option maxRecDepth 100000
set_option maxHeartbeats 2000000
/-! small rules: lists against the empty one, list.extend with a tuple -/
namespace Sm
open PySem PySem.Spec PyProof.Rows L2
section
variable {X : Cx}
/-- xs == [], items of any depth -/
def rEqNil (K : PySem.W.Frag) (neg : Bool) : R2 := fun x y H Q => ∃ a b xs, x = .ref a ∧ y = .ref b ∧ SqL K H a xs ∧ SqL K H b [] ∧ Q (.bl (neg ^^ xs.isEmpty)) H
theorem op_eqNil (hu : X.A.units < cLine) : OpR X (compareOp .Eq) (rEqNil X.K false) := by
  intro pins s σ H x y v u Q I rx ry h
  obtain ⟨a, b, xs, rfl, rfl, ha, hb, q⟩ := h
  cases rx
  cases ry
  obtain ⟨its, r, pl, hz⟩ := I.list ha
  obtain ⟨its2, r2, pl2, hz2⟩ := I.list hb
  cases r2
  cases r with
  | nil => exact SeqAt.eq_listAt (e := fun _ => true) pl.isList pl2.isList rfl hu (fun j h1 _ => absurd h1 (by simp)) ⟨.bl true, H, I, rfl, q⟩
  | cons r1 r => exact SeqAt.eq_list_lengthsAt pl.isList pl2.isList (by simp) hu ⟨.bl false, H, I, rfl, q⟩
theorem op_neNil (hu : X.A.units < cLine) : OpR X (compareOp .NotEq) (rEqNil X.K true) := by
  intro pins s σ H x y v u Q I rx ry h
  obtain ⟨a, b, xs, rfl, rfl, ha, hb, q⟩ := h
  cases rx
  cases ry
  obtain ⟨its, r, pl, hz⟩ := I.list ha
  obtain ⟨its2, r2, pl2, hz2⟩ := I.list hb
  cases r2
  cases r with
  | nil => exact SeqAt.RcNeAt.lists (e := fun _ => true) pl.isList pl2.isList rfl hu (fun j h1 _ => absurd h1 (by simp)) _ _ _ _ ⟨.bl false, H, I, rfl, q⟩
  | cons r1 r => exact SeqAt.RcNeAt.lists_lengths pl.isList pl2.isList (by simp) hu _ _ _ _ ⟨.bl true, H, I, rfl, q⟩
end
theorem list_extend_tup (l : Addr) (items : Array Value) (n : Nat) (b : Addr) (items2 : Array Value) (n2 : Nat) (dd : Option Addr) (sl : Array (Option Value)) (hs0 : ¬(!items.isEmpty && Builtin.List.listTooLong (items.size + items2.size)) = true) (hs1 : items.size ≤ sizeLine) (hs2 : items.size + items2.size ≤ sizeLine + 1 := by seq_fits) :
    Meets (Builtin.«list.extend» ⟨[.ref l, .ref b], []⟩) (fun _ R s => s.heap.get? l = some { cls := .type "list", dict := none, data := .seq items n, slots := #[] } ∧ s.heap.get? b = some { cls := .type "tuple", dict := dd, data := .seq items2 n2, slots := sl } ∧ R (.ok (.ret Value.none)) { s with heap := s.heap.update l (Obj.mapSeq fun x => x ++ items2), toks := s.toks }) :=
  .of_wp fun prog w A R s h => by
    obtain ⟨hp, g, d, tk, os⟩ := s; obtain ⟨hl, hb, h⟩ := h; have f1 := AutoSeq1.idx_int; have f2 := AutoSeq1.sub_tuple_tuple; have f3 := AutoSeq1.sub_list_list; have f4 := AutoSeq1.sub_tuple_list; have f5 := AutoSeq1.sub_list_tuple;
    have hz' : (items ++ items2).size ≤ sizeLine + 1 := by rw [Array.size_append]; exact hs2
    wp_walk using (wpAny_updateSeq hl rfl (hz := hs1) (_hz' := hz')), AutoSeq1.wpAny_loadPart' hl, AutoSeq1.wpAny_loadPart' hb; exact ⟨_, rfl, h⟩
section
variable {X : Cx}
def rExtendT (K : PySem.W.Frag) : V → List V → Hp → VK → Prop := fun x vs H Q => ∃ l b xs zs, x = .ref l ∧ vs = [.ref b] ∧ H l = some (.lst xs) ∧ SqT K H b zs ∧ xs.length + zs.length ≤ sizeLine ∧ Q .non (upd H l (.lst (xs ++ zs)))
theorem mt_extendT : MtM X "list.extend" (rExtendT X.K) := by
  intro pins s σ H x vs v us Q I rx rv h
  obtain ⟨l, b, xs, zs, rfl, rfl, hH, hB, hz, q⟩ := h
  cases rx
  obtain ⟨u, rfl, ru⟩ := rv.one
  cases ru
  obtain ⟨z, its, n, r, hl, e⟩ := I.lstM hH
  obtain ⟨its2, r2, p2, z2⟩ := I.tuple hB
  obtain ⟨⟨oc, od, dt, sl⟩, ho, hc, n2, hd⟩ := p2
  dsimp only at hc hd
  subst hc hd
  have hl2 := r2.length
  have hsz : its.toArray.size + its2.toArray.size ≤ sizeLine := by rw [List.size_toArray, List.size_toArray]; omega
  have hlong : ¬ (!its.toArray.isEmpty && Builtin.List.listTooLong (its.toArray.size + its2.toArray.size)) = true := by
    rw [notLongL hsz, Bool.and_false]
    exact Bool.false_ne_true
  refine call_meets F.slot_list_extend ⟨_, e, rfl⟩ F.entry_list_extend (F.args_list_extend_2 _ _)
    (list_extend_tup l its.toArray n b its2.toArray n2 od sl hlong (by rw [List.size_toArray]; omega) (by omega)) ⟨e, ho, ?_⟩
  refine ⟨.non, _, I.lset (its' := its ++ its2) hH e (by simp) (r.append r2) ?_, rfl, q⟩
  rw [List.length_append]
  omega
end
end Sm

set_option Elab.async false
set_option linter.all false
set_option maxRecDepth 100000
set_option maxHeartbeats 2000000
/-! defs told of the guards (repr of data), calls with keywords alone, texts times ints -/
namespace Gd
open PySem PySem.Spec PyProof.Rows L2 LamX
section
variable {X : Cx}
/-- text * int -/
theorem op_mulStr : OpR X (binaryOp .Mult) (fun x y H Q => ∃ a n, x = .str a ∧ y = .int n ∧ MulOk a n ∧ Q (.str (Txt.mul a n)) H) := by
  intro pins s σ H x y v u Q I rx ry h
  obtain ⟨a, n, rfl, rfl, hm, q⟩ := h
  obtain ⟨t, rfl⟩ := rx
  obtain ⟨t', rfl⟩ := ry
  exact SB.mul hm fun t2 k => ⟨.str _, H, I.tok _, ⟨_, rfl⟩, q⟩
/-- repr of data -/
def rRepr (K : PySem.W.Frag) : List V → Hp → VK → Prop := fun xs H Q => ∃ v d, xs = [v] ∧ Dp K H v d ∧ d.showable = true ∧ d.hasDict = false ∧ d.depth ≤ 64 ∧ d.shown.length ≤ sizeLine ∧ Q (.str d.shown) H
theorem call_reprD (hg : X.A.guards = some []) (hu : X.A.units + 100 < cLine) : CallR X (.builtin "repr") (rRepr X.K) := by
  intro pins s σ H xs us Q I r h
  obtain ⟨v, d, rfl, hd, hs, hn, hz, hl, q⟩ := h
  obtain ⟨u, rfl, ru⟩ := vals1 r
  obtain ⟨as, rd⟩ := Dp.reads I d v u hd ru
  have big : ∀ a, u = .ref a → wpAny (model X.prog X.w) X.A (call (.builtin "repr") [u]) (EP X pins σ Q) X.xe s := fun a e => by
    subst e
    exact repr_of_reads' rd hs (fun z => by rw [hn] at z; cases z) hg (by omega) (fun _ _ e => e) (fun h' u' tk k => ⟨.str _, H, I.kept k, ⟨_, rfl⟩, q⟩) hl
  cases hd with
  | non => cases ru; exact PySem.P.repr_of_none ⟨.str _, H, I.tok _, ⟨_, rfl⟩, q⟩
  | bl b => cases ru; exact PySem.P.repr_of_bool ⟨.str _, H, I.tok _, ⟨_, rfl⟩, by cases b <;> exact q⟩
  | int i => obtain ⟨t, rfl⟩ := ru; exact PySem.P.repr_of_int (of_decide_eq_true hs) ⟨.str _, H, I.tok _, ⟨_, rfl⟩, q⟩
  | str x => obtain ⟨t, rfl⟩ := ru; exact PySem.P.repr_of_str ⟨.str _, H, I.tok _, ⟨_, rfl⟩, q⟩ hl
  | lst h1 h2 => exact big _ ru
  | tup h1 h2 => exact big _ ru
end
/-! ### f(k = v, ..), keywords alone -/
section
variable {X : Cx} {CX : CXT} {k : Nat} {f : Addr} {fd : FuncData} {ps ks : List PySem.Str} {sp : Sp} {E : XK} {x : PySem.Str} {p pos : Pos} {kws : List Keyword} {tk : TA} {g : List Value → List Value → List Value} {gV : List V → List V → List V}
theorem pe_callK0 (F : FnOk X.prog X.w X.K X.mg X.base CX k f fd ps sp) (hr : Room k X.A) (hg : Gl X x) (hm : X.mg x = some (.ref f)) (hk : PySem.W.keepIn X.K (.ref f) = true) (hb : KBinds X.K fd ps ks g gV) (hx : Passes CX X E)
    (hkw : PK X kws tk) (hall : (backToKw pos (keywordEach kws X.env)).all (·.1.isSome) = true := by rfl) (hks : (backToKw pos (keywordEach kws X.env)).filterMap (·.1) = ks := by rfl)
    (hdb : (x == ("__debug__" : PySem.Str)) = false := by decide) (hpl : ((backTo pos (starEach [] X.env)).any (·.1) || (backToKw pos (keywordEach kws X.env)).any (·.1.isNone)) = false := by rfl) :
    PE X (.Call (.Name x p) [] kws pos) (tCallK sp gV E tNil tk) := by
  refine ⟨fun pins s σ H Q I h => ?_⟩
  refine wpAny_Call_Name_kw (ld_glob I hg hm ?_ hdb)
  refine PySem.W.callWith_KW0 (h₀ := X.base) I.ok.mod.kin hk hall ?_ hpl
  refine thn (hkw.run pos pins s σ H _ I h) fun ws s2 ⟨zs, H2, I2, rz, q2⟩ => ⟨I2.kIn, ?_⟩
  rw [hks]
  exact run_fnk (us := []) (vs := []) F hr hb hx I2 .nil rz q2
end
/-! ### a def that is told of the guards -/
structure FnG (P : Program) (w : World) (K : PySem.W.Frag) (mg : PySem.Str → Option Value) (base : Heap) (CX : CXT) (k : Nat) (f : Addr) (fd : FuncData) (ps : List PySem.Str) (sp : Sp) : Prop where
  len : ∀ vs H Q E, sp vs H Q E → vs.length = ps.length
  run : ∀ (A : Around) (outer : List Env) (s : Shared) (H : Hp) (args : Args) (us : List Value) (vs : List V) (Q : VK) (E : XK), A.guards = some [] → Room k A → Env0 P w K mg base A outer s H → BindsTo s fd args (ps.zip us) → Vals vs us → sp vs H Q E →
    codeAny (model P w) A (.call (.ref f) args) (CR CX outer P w H s Q E) s
section
variable {P : Program} {w : World} {K : PySem.W.Frag} {mg : PySem.Str → Option Value} {base : Heap}
theorem guards_deeper {A : Around} {env : Env} : (A.deeper env).guards = A.guards := rfl
theorem fnG_of {CX : CXT} {x qual : PySem.Str} {st : Stmt} {f : Addr} {fd : FuncData} {N ps : List PySem.Str} {k : Nat} {sp : Sp} (F : Fun K x qual st f fd) (S : FnScope N ps (defScope st)) (len : ∀ vs H Q E, sp vs H Q E → vs.length = ps.length)
    (hbody : ∀ (cdv : Value) (A : Around) (outer : List Env) (s : Shared) (H : Hp) (vs : List V) (Q : VK) (E : XK), (A.deeper (envOfC qual (defScope st) s.heap.objs.size f cdv)).guards = some [] → Room k (A.deeper (envOfC qual (defScope st) s.heap.objs.size f cdv)) → sp vs H Q E →
      ∃ t, PSs (cxOf CX P w K mg base N qual (defScope st) f cdv A outer s H E) (defBody st) t ∧ t { nx := fun _ H' => Q .non H', rt := Q } (start N vs) H) : FnG P w K mg base CX (k + 1) f fd ps sp := by
  obtain ⟨oc, od, kV, doc, pm, an, cdv, ct, osl, rfl, lk, hcd⟩ := F.ex
  refine ⟨len, fun A outer s H args us vs Q E hg hr e0 hb rv hsp => ?_⟩
  exact run_ofS (N := N) (ps := ps) (us := us) (vs := vs) lk hcd S hr e0 hb rv (len _ _ _ _ hsp) fun hr' => hbody cdv A outer s H vs Q E hg hr' hsp
end
section
variable {X : Cx} {CX : CXT} {k : Nat} {f : Addr} {fd : FuncData} {ps : List PySem.Str} {sp : Sp} {E : XK} {x : PySem.Str} {p pos : Pos} {e : Expr} {es : List Expr} {t : TA}
theorem pe_callG (hgd : X.A.guards = some []) (F : FnG X.prog X.w X.K X.mg X.base CX k f fd ps sp) (hr : Room k X.A) (hg : Gl X x) (hm : X.mg x = some (.ref f)) (hk : PySem.W.keepIn X.K (.ref f) = true) (hb : Binds X.K fd ps []) (hx : Passes CX X E)
    (ha : PA X (e :: es) t) (hdb : (x == ("__debug__" : PySem.Str)) = false := by decide) (he : starEach (e :: es) X.env = (false, eval e X.env) :: starEach es X.env := by rfl) (hpl : (backTo pos (starEach es X.env)).any (·.1) = false := by rfl) :
    PE X (.Call (.Name x p) (e :: es) [] pos) (tCall sp [] E t) := by
  refine ⟨fun pins s σ H Q I h => ?_⟩
  refine wpAny_Call_Name_kw (ld_glob I hg hm ?_ hdb)
  refine PySem.W.callWith_K (h₀ := X.base) I.ok.mod.kin hk (thn (ha.run pos pins s σ H _ I h) fun us s1 ⟨vs, H1, I1, r, q⟩ => ⟨I1.kIn, ?_⟩) he hpl
  have q' : sp vs H1 Q E := by
    have z : sp (vs ++ []) H1 Q E := q
    rw [List.append_nil] at z
    exact z
  have hl : us.length = ps.length := by rw [← r.length]; exact F.len _ _ _ _ q'
  refine wpAny_call (codeAny_mono (F.run X.A X.stack s1 H1 ⟨us, []⟩ us vs Q E hgd hr I1.env0 (by have z := hb s1 us I1.kIn (by rw [List.append_nil]; exact hl); rw [List.append_nil] at z; exact z) r q') fun r s' hq => ?_)
  cases r with
  | error e => exact hx pins σ H1 s1 e s' I1 hq
  | ok fl =>
    cases fl with
    | ret u => exact I1.after hq
    | next => exact False.elim hq
    | brk => exact False.elim hq
    | cont => exact False.elim hq
end
end Gd

set_option Elab.async false
set_option linter.all false
set_option maxRecDepth 100000
set_option maxHeartbeats 2000000
namespace Lm
open PySem PySem.Spec PyProof.Rows L2 LamX
section
variable {X : Cx} {pins : List (Addr × Obj)} {σ : L2.St} {H : Hp} {s : Shared} {k i : Nat} {f : Addr} {a : Str} {tl : XK → Hp → VK → Prop} {E : L2.St → XK} {p1 p2 : Pos}
/-- x(), x a name that holds f; what may leave, told at the slots -/
theorem pe_doS (hex : X.ex = []) (hst : X.stack = X.env :: X.outer) (hfr : X.env.frame = some X.env.locals) (act : Act X.prog X.w X.K X.mg X.base X.fs X.H_0 X.s_0.heap k f tl) (hr : Room k X.A) (hx : ∀ σ, PassesAt (L2.CX X.prog X.w) X σ (E σ))
    (hN : X.N[i]? = some a) (hv : Vis X.env.scope a) (hd : (a == ("__debug__" : Str)) = false := by decide) (hcd : (a == ("__classdict__" : Str)) = false := by decide) :
    PE X (.Call (.Name a p1) [] [] p2) (fun σ H Q => σ[i]? = some (some (.ref f)) ∧ tl (E σ) H Q) := by
  refine ⟨fun pins s σ H Q I h => ?_⟩
  obtain ⟨hs, ht⟩ := h
  refine wpAny_Call_Name_kw (thn ((pe_var (pos := p1) (i := i) hN hv hd hcd).run pins s σ H (fun v H1 => v = .ref f ∧ H1 = H) I ⟨.ref f, hs, rfl, rfl⟩) fun u s1 ⟨v, H1, I1, r1, q1⟩ => ?_)
  obtain ⟨ev, eH⟩ := q1
  subst ev
  rw [eH] at I1
  obtain rfl : u = Value.ref f := r1
  have un : Un X.fs [] X.H_0 H X.s_0.heap s1.heap := by have := I1.base; rw [hex] at this; exact this
  obtain ⟨nm, q, params, body, scope, cl, pm, c', ctv, ho⟩ := act.obj
  have of1 := un.keep _ _ ho act.no act.nf (by simp)
  refine PySem.W.callWith_F0 ⟨_, _, _, _, of1⟩ ?_
  have fo : FrOk X.fs X.s_0.heap X.stack := fun b hb => by
    rw [hst] at hb
    unfold frs at hb
    rw [List.filterMap_cons, hfr] at hb
    rcases List.mem_cons.mp hb with z | z
    · refine .inr ?_
      rw [z]
      exact Heap.get?_none_of_le I1.ok.above
    · exact .inl z
  have rc := act.run X.A X.stack s1 H Q (E σ) hr I1.env0 fo un ht
  refine wpAny_call (codeAny_mono rc fun r s' hq => ?_)
  cases r with
  | error e => exact hx σ pins H s1 e s' I1 hq
  | ok fl =>
    cases fl with
    | ret u => exact I1.after hq
    | next => exact False.elim hq
    | brk => exact False.elim hq
    | cont => exact False.elim hq
end
end Lm

set_option Elab.async false
set_option linter.all false
set_option maxRecDepth 100000
set_option maxHeartbeats 2000000
/-! the text's places, what is known of the module, a def to be called -/
namespace L2
open PySem PySem.Spec PyProof.Rows
theorem Same.upd {H : Hp} {D : Addr} {o : HO} (h : H D = Option.none) : Same H (L2.upd H D o) := fun b u e => by
  rw [L2.upd_ne (ne_of_none e h)]
  exact e
theorem Same.updN {H0 H : Hp} {R : Addr} {o : HO} (s : Same H0 H) (n : H0 R = Option.none) : Same H0 (L2.upd H R o) := fun b u e => by
  rw [L2.upd_ne (ne_of_none e n)]
  exact s b u e
theorem Same.none {H0 H : Hp} {R : Addr} (s : Same H0 H) (n : H R = Option.none) : H0 R = Option.none := s.free n
theorem DpAll.len {K : PySem.W.Frag} {H : Hp} : ∀ {vs : List V} {ds : List PyData}, DpAll K H vs ds → vs.length = ds.length
  | _, _, .nil => rfl
  | _, _, .cons _ b => by simp [DpAll.len b]
theorem DpAll.get {K : PySem.W.Frag} {H : Hp} : ∀ {vs : List V} {ds : List PyData} {i : Nat} {v : V}, DpAll K H vs ds → vs[i]? = some v → ∃ d, ds[i]? = some d ∧ Dp K H v d
  | _, _, i, v, .nil, h => by simp at h
  | _, _, 0, v, .cons a b, h => by simp at h; subst h; exact ⟨_, rfl, a⟩
  | _, _, i + 1, v, .cons a b, h => by simpa using DpAll.get b (by simpa using h)
theorem DpAll.app {K : PySem.W.Frag} {H : Hp} : ∀ {vs us : List V} {ds es : List PyData}, DpAll K H vs ds → DpAll K H us es → DpAll K H (vs ++ us) (ds ++ es)
  | _, _, _, _, .nil, h => h
  | _, _, _, _, .cons a b, h => .cons a (DpAll.app b h)
theorem Same.tup {K : PySem.W.Frag} {H H' : Hp} {a : Addr} {xs : List V} (e : Same H H') (s : SqT K H a xs) : SqT K H' a xs := by
  rcases s with (s | ⟨o, s⟩) | s
  · exact .inl (.inl (e _ _ s))
  · exact .inl (.inr ⟨o, e _ _ s⟩)
  · exact .inr s
end L2
namespace Kw
open PySem PySem.Spec PyProof.Rows L2 Sb
abbrev PR : Program := PySem.Challenge.pw_switchbook_k88_values_written
def top (i : Nat) : Stmt := PR.main.body.getD i (.Pass ⟨0, 0, 0, 0⟩)
/-- a def that may be called by its name -/
structure Cl (P : Program) (w : World) (K : PySem.W.Frag) (mg : Str → Option Value) (base : Heap) (CX : CXT) (k : Nat) (x : Str) (ps : List Str) (sp : Sp) : Prop where
  ex : ∃ (f : Addr) (fd : FuncData), FnOk P w K mg base CX k f fd ps sp ∧ mg x = some (.ref f) ∧ PySem.W.keepIn K (.ref f) = true ∧ Binds K fd ps [] ∧ ∃ oc od osl, K.lookup f = some ⟨oc, od, .func fd, osl⟩
/-- a def as it stands behind the top -/
structure Df (K : PySem.W.Frag) (mg : Str → Option Value) (x : Str) (i : Nat) (f : Addr) (fd : FuncData) : Prop where
  fn : Fun K x x (top i) f fd
  mgf : mg x = some (.ref f)
section
variable {P : Program} {w : World} {K : PySem.W.Frag} {mg : Str → Option Value} {base : Heap} {CX : CXT} {x : Str} {i k : Nat} {f : Addr} {fd : FuncData} {N ps : List Str} {sp : Sp}
theorem Df.lk (D : Df K mg x i f fd) : ∃ oc od osl, K.lookup f = some ⟨oc, od, .func fd, osl⟩ := by
  obtain ⟨oc, od, kV, doc, pm, an, cdv, ct, osl, _, lk, _⟩ := D.fn.ex
  exact ⟨oc, od, osl, lk⟩
theorem cl0 (D : Df K mg x i f fd) (b : ∀ (kV doc pm : Value) (an : Option Addr) (cdv ct : Value) (us : List Value), us.length = ps.length → bindArgs (PySem.W.fnOf x x (defArgs (top i)) (defBody (top i)) (defScope (top i)) .none kV doc pm an cdv ct) ⟨us, []⟩ = pure (ps.zip us))
    (S : FnScope N ps (defScope (top i))) (len : ∀ vs H Q E, sp vs H Q E → vs.length = ps.length)
    (hbody : ∀ (cdv : Value) (A : Around) (outer : List Env) (s : Shared) (H : Hp) (vs : List V) (Q : VK) (E : XK), Room k (A.deeper (envOfC x (defScope (top i)) s.heap.objs.size f cdv)) → sp vs H Q E →
      ∃ t, PSs (cxOf CX0 P w K mg base N x (defScope (top i)) f cdv A outer s H E).nox (defBody (top i)) t ∧ t { nx := fun _ H' => Q .non H', rt := Q } (start N vs) H) : Cl P w K mg base CX0 (k + 1) x ps sp :=
  ⟨f, fd, D.fn.ok S len hbody, D.mgf, D.fn.kp, D.fn.binds b, D.lk⟩
theorem clX (D : Df K mg x i f fd) (b : ∀ (kV doc pm : Value) (an : Option Addr) (cdv ct : Value) (us : List Value), us.length = ps.length → bindArgs (PySem.W.fnOf x x (defArgs (top i)) (defBody (top i)) (defScope (top i)) .none kV doc pm an cdv ct) ⟨us, []⟩ = pure (ps.zip us))
    (S : FnScope N ps (defScope (top i))) (len : ∀ vs H Q E, sp vs H Q E → vs.length = ps.length)
    (hbody : ∀ (cdv : Value) (A : Around) (outer : List Env) (s : Shared) (H : Hp) (vs : List V) (Q : VK) (E : XK), Room k (A.deeper (envOfC x (defScope (top i)) s.heap.objs.size f cdv)) → sp vs H Q E →
      ∃ t, PSs (cxOf (L2.CX P w) P w K mg base N x (defScope (top i)) f cdv A outer s H E) (defBody (top i)) t ∧ t { nx := fun _ H' => Q .non H', rt := Q } (start N vs) H) : Cl P w K mg base (L2.CX P w) (k + 1) x ps sp :=
  ⟨f, fd, D.fn.okX S len hbody, D.mgf, D.fn.kp, D.fn.binds b, D.lk⟩
theorem Cl.mono {j : Nat} (c : Cl P w K mg base CX k x ps sp) (h : k ≤ j) : Cl P w K mg base CX j x ps sp := by
  obtain ⟨f, fd, F, r⟩ := c.ex
  exact ⟨f, fd, F.mono h, r⟩
end
section
variable {X : Cx} {k j : Nat} {x : Str} {ps : List Str} {sp : Sp} {p pos : Pos} {e : Expr} {es : List Expr} {t : TA} {E : L2.St → XK} {E1 : XK} {CX : CXT}
def tQ (sp : Sp) (E : XK) (t : TA) : TE := fun σ H Q => t σ H fun vs H1 => sp vs H1 Q E
/-- f(e, ..), f raises nothing -/
theorem pe_q (c : Cl X.prog X.w X.K X.mg X.base CX0 k x ps sp) (hr : Room j X.A) (hk : k ≤ j) (hg : Gl X x) (ha : PA X (e :: es) t) (hdb : (x == ("__debug__" : Str)) = false := by decide)
    (he : starEach (e :: es) X.env = (false, eval e X.env) :: starEach es X.env := by rfl) (hpl : (backTo pos (starEach es X.env)).any (·.1) = false := by rfl) : PE X (.Call (.Name x p) (e :: es) [] pos) (tQ sp E0 t) := by
  obtain ⟨f, fd, F, hm, kp, b, _⟩ := c.ex
  refine ⟨fun pins s σ H Q I h => (pe_call (dvs := []) F (hr.mono hk) hg hm kp b .nil pass0 ha hdb he hpl).run pins s σ H Q I ?_⟩
  have z : (fun (vs : List V) (H1 : Hp) => sp vs H1 Q E0) = (fun (vs : List V) (H1 : Hp) => sp (vs ++ []) H1 Q E0) := by funext vs H1; rw [List.append_nil]
  have h' : t σ H fun vs H1 => sp vs H1 Q E0 := h
  rw [z] at h'
  exact h'
theorem pe_qp (c : Cl X.prog X.w X.K X.mg X.base CX k x ps sp) (hr : Room j X.A) (hk : k ≤ j) (hg : Gl X x) (hp : Passes CX X E1) (ha : PA X (e :: es) t) (hdb : (x == ("__debug__" : Str)) = false := by decide)
    (he : starEach (e :: es) X.env = (false, eval e X.env) :: starEach es X.env := by rfl) (hpl : (backTo pos (starEach es X.env)).any (·.1) = false := by rfl) : PE X (.Call (.Name x p) (e :: es) [] pos) (tQ sp E1 t) := by
  obtain ⟨f, fd, F, hm, kp, b, _⟩ := c.ex
  refine ⟨fun pins s σ H Q I h => (pe_call (dvs := []) F (hr.mono hk) hg hm kp b .nil hp ha hdb he hpl).run pins s σ H Q I ?_⟩
  have z : (fun (vs : List V) (H1 : Hp) => sp vs H1 Q E1) = (fun (vs : List V) (H1 : Hp) => sp (vs ++ []) H1 Q E1) := by funext vs H1; rw [List.append_nil]
  have h' : t σ H fun vs H1 => sp vs H1 Q E1 := h
  rw [z] at h'
  exact h'
end
/-- the module's own names -/
def nbL : List Str := ["isinstance", "str", "int", "bool", "tuple", "list", "dict", "all", "abs", "range", "len", "enumerate", "reversed", "min", "repr"]
structure Con (mg : Str → Option Value) : Prop where
  nb : ∀ x ∈ nbL, mg x = none
  deep : ∃ t, mg "MOST_DEEP" = some (.int 60 t)
  figs : ∃ t, mg "MOST_FIGURES" = some (.int 12 t)
  numb : ∃ t, mg "MOST_NUMBER" = some (.int 1000000000000 t)
  small : ∃ t, mg "SMALL" = some (.str "abcdefghijklmnopqrstuvwxyz" t)
  figures : ∃ t, mg "FIGURES" = some (.str "0123456789" t)
/-! ### data -/
mutual
theorem dp_same {K : PySem.W.Frag} {H H' : Hp} (h : Same H H') : ∀ {v : V} {d : PyData}, Dp K H v d → Dp K H' v d
  | _, _, .non => .non
  | _, _, .bl b => .bl b
  | _, _, .int i => .int i
  | _, _, .str x => .str x
  | _, _, .lst s a => .lst (h.seq s) (dpAll_same h a)
  | _, _, .tup s a => .tup (by
      rcases s with (s | ⟨o, s⟩) | s
      · exact .inl (.inl (h _ _ s))
      · exact .inl (.inr ⟨o, h _ _ s⟩)
      · exact .inr s) (dpAll_same h a)
theorem dpAll_same {K : PySem.W.Frag} {H H' : Hp} (h : Same H H') : ∀ {vs : List V} {ds : List PyData}, DpAll K H vs ds → DpAll K H' vs ds
  | _, _, .nil => .nil
  | _, _, .cons a b => .cons (dp_same h a) (dpAll_same h b)
end
theorem bt_isinstance : bootBuiltins "isinstance" = some (.builtin "isinstance") := by decide +kernel
theorem bt_all : bootBuiltins "all" = some (.builtin "all") := by decide +kernel
theorem bt_abs : bootBuiltins "abs" = some (.builtin "abs") := by decide +kernel
theorem bt_len : bootBuiltins "len" = some (.builtin "len") := by decide +kernel
theorem bt_min : bootBuiltins "min" = some (.builtin "min") := by decide +kernel
theorem bt_repr : bootBuiltins "repr" = some (.builtin "repr") := by decide +kernel
theorem bt_str : bootBuiltins "str" = some (.type "str") := by decide +kernel
theorem bt_int : bootBuiltins "int" = some (.type "int") := by decide +kernel
theorem bt_bool : bootBuiltins "bool" = some (.type "bool") := by decide +kernel
theorem bt_tuple : bootBuiltins "tuple" = some (.type "tuple") := by decide +kernel
theorem bt_list : bootBuiltins "list" = some (.type "list") := by decide +kernel
theorem bt_dict : bootBuiltins "dict" = some (.type "dict") := by decide +kernel
/-- the type of data -/
def tyD : PyData → String
  | .none => "NoneType"
  | .bool _ => "bool"
  | .int _ => "int"
  | .str _ => "str"
  | .list _ => "list"
  | .tuple _ => "tuple"
  | .dict _ => "dict"
theorem tyX_of {K : PySem.W.Frag} {H : Hp} {v : V} {d : PyData} (h : Dp K H v d) : TyX K H v (.type (tyD d)) := by
  cases h with
  | non => exact .base .non
  | bl b => exact .base (.bl b)
  | int i => exact .base (.int i)
  | str x => exact .base (.str x)
  | lst s _ =>
    rcases s with (s | ⟨o, s⟩) | ⟨o, its, n, hk, hc, _⟩
    · exact .base (.lst s)
    · exact .base (.frz s)
    · exact .kList hk hc
  | tup s _ =>
    rcases s with (s | ⟨o, s⟩) | ⟨o, its, n, hk, hc, _⟩
    · exact .base (.tup s)
    · exact .fTuple s
    · exact .kTuple hk hc
theorem kb_NoneType_str : kitB "NoneType" "str" = some false := by decide +kernel
theorem kb_bool_str : kitB "bool" "str" = some false := by decide +kernel
theorem kb_int_str : kitB "int" "str" = some false := by decide +kernel
theorem kb_str_str : kitB "str" "str" = some true := by decide +kernel
theorem kb_list_str : kitB "list" "str" = some false := by decide +kernel
theorem kb_tuple_str : kitB "tuple" "str" = some false := by decide +kernel
theorem kb_dict_str : kitB "dict" "str" = some false := by decide +kernel
theorem kit_str : ∀ d, kitB (tyD d) "str" = some (match d with | .str _ => true | _ => false)
  | .none => kb_NoneType_str
  | .bool _ => kb_bool_str
  | .int _ => kb_int_str
  | .str _ => kb_str_str
  | .list _ => kb_list_str
  | .tuple _ => kb_tuple_str
  | .dict _ => kb_dict_str
theorem kb_NoneType_int : kitB "NoneType" "int" = some false := by decide +kernel
theorem kb_bool_int : kitB "bool" "int" = some true := by decide +kernel
theorem kb_int_int : kitB "int" "int" = some true := by decide +kernel
theorem kb_str_int : kitB "str" "int" = some false := by decide +kernel
theorem kb_list_int : kitB "list" "int" = some false := by decide +kernel
theorem kb_tuple_int : kitB "tuple" "int" = some false := by decide +kernel
theorem kb_dict_int : kitB "dict" "int" = some false := by decide +kernel
theorem kit_int : ∀ d, kitB (tyD d) "int" = some (match d with | .int _ => true | .bool _ => true | _ => false)
  | .none => kb_NoneType_int
  | .bool _ => kb_bool_int
  | .int _ => kb_int_int
  | .str _ => kb_str_int
  | .list _ => kb_list_int
  | .tuple _ => kb_tuple_int
  | .dict _ => kb_dict_int
theorem kb_NoneType_bool : kitB "NoneType" "bool" = some false := by decide +kernel
theorem kb_bool_bool : kitB "bool" "bool" = some true := by decide +kernel
theorem kb_int_bool : kitB "int" "bool" = some false := by decide +kernel
theorem kb_str_bool : kitB "str" "bool" = some false := by decide +kernel
theorem kb_list_bool : kitB "list" "bool" = some false := by decide +kernel
theorem kb_tuple_bool : kitB "tuple" "bool" = some false := by decide +kernel
theorem kb_dict_bool : kitB "dict" "bool" = some false := by decide +kernel
theorem kit_bool : ∀ d, kitB (tyD d) "bool" = some (match d with | .bool _ => true | _ => false)
  | .none => kb_NoneType_bool
  | .bool _ => kb_bool_bool
  | .int _ => kb_int_bool
  | .str _ => kb_str_bool
  | .list _ => kb_list_bool
  | .tuple _ => kb_tuple_bool
  | .dict _ => kb_dict_bool
theorem kb_NoneType_tuple : kitB "NoneType" "tuple" = some false := by decide +kernel
theorem kb_bool_tuple : kitB "bool" "tuple" = some false := by decide +kernel
theorem kb_int_tuple : kitB "int" "tuple" = some false := by decide +kernel
theorem kb_str_tuple : kitB "str" "tuple" = some false := by decide +kernel
theorem kb_list_tuple : kitB "list" "tuple" = some false := by decide +kernel
theorem kb_tuple_tuple : kitB "tuple" "tuple" = some true := by decide +kernel
theorem kb_dict_tuple : kitB "dict" "tuple" = some false := by decide +kernel
theorem kit_tuple : ∀ d, kitB (tyD d) "tuple" = some (match d with | .tuple _ => true | _ => false)
  | .none => kb_NoneType_tuple
  | .bool _ => kb_bool_tuple
  | .int _ => kb_int_tuple
  | .str _ => kb_str_tuple
  | .list _ => kb_list_tuple
  | .tuple _ => kb_tuple_tuple
  | .dict _ => kb_dict_tuple
theorem kb_NoneType_list : kitB "NoneType" "list" = some false := by decide +kernel
theorem kb_bool_list : kitB "bool" "list" = some false := by decide +kernel
theorem kb_int_list : kitB "int" "list" = some false := by decide +kernel
theorem kb_str_list : kitB "str" "list" = some false := by decide +kernel
theorem kb_list_list : kitB "list" "list" = some true := by decide +kernel
theorem kb_tuple_list : kitB "tuple" "list" = some false := by decide +kernel
theorem kb_dict_list : kitB "dict" "list" = some false := by decide +kernel
theorem kit_list : ∀ d, kitB (tyD d) "list" = some (match d with | .list _ => true | _ => false)
  | .none => kb_NoneType_list
  | .bool _ => kb_bool_list
  | .int _ => kb_int_list
  | .str _ => kb_str_list
  | .list _ => kb_list_list
  | .tuple _ => kb_tuple_list
  | .dict _ => kb_dict_list
theorem kb_NoneType_dict : kitB "NoneType" "dict" = some false := by decide +kernel
theorem kb_bool_dict : kitB "bool" "dict" = some false := by decide +kernel
theorem kb_int_dict : kitB "int" "dict" = some false := by decide +kernel
theorem kb_str_dict : kitB "str" "dict" = some false := by decide +kernel
theorem kb_list_dict : kitB "list" "dict" = some false := by decide +kernel
theorem kb_tuple_dict : kitB "tuple" "dict" = some false := by decide +kernel
theorem kb_dict_dict : kitB "dict" "dict" = some true := by decide +kernel
theorem kit_dict : ∀ d, kitB (tyD d) "dict" = some (match d with | .dict _ => true | _ => false)
  | .none => kb_NoneType_dict
  | .bool _ => kb_bool_dict
  | .int _ => kb_int_dict
  | .str _ => kb_str_dict
  | .list _ => kb_list_dict
  | .tuple _ => kb_tuple_dict
  | .dict _ => kb_dict_dict
theorem kitTup (d : PyData) : kitB (tyD d) "tuple" = some (isTup d) := by rw [kit_tuple]; cases d <;> rfl
theorem isi {K : PySem.W.Frag} {H : Hp} {v : V} {d : PyData} {T : String} {b : Bool} {Q : VK} (h : Dp K H v d) (k : kitB (tyD d) T = some b) (q : Q (.bl b) H) : rIsi K [v, .ty T] H Q :=
  ⟨v, .ty T, .type (tyD d), .type T, b, rfl, .ty T, tyX_of h, kit_ty k, q⟩
theorem isiX {K : PySem.W.Frag} {H : Hp} {v : V} {t T : String} {b : Bool} {Q : VK} (h : TyX K H v (.type t)) (k : kitB t T = some b) (q : Q (.bl b) H) : rIsi K [v, .ty T] H Q :=
  ⟨v, .ty T, .type t, .type T, b, rfl, .ty T, h, kit_ty k, q⟩
/-- a comprehension that maps: what was tracked stays -/
theorem lc_map {J : It} {n : Nat} {G : Hp → Prop} {Y : Nat → Hp → V → Hp → Prop} (w : Walk J n G Y) {g : TG} {te : TE} {vs : List Nat} {σ : L2.St} {H1 : Hp} {D : Addr} {Qd : Hp → Prop} (y : Nat → V) (hD : H1 D = none) (hz : n ≤ sizeLine) (hG : ∀ H, Same H1 H → G H)
    (hs : ∀ i x H H' (Kt : VK), i < n → Same H1 H → Y i H x H' → (∀ H4, Same H H4 → Kt (y i) H4) → g x (wipe σ vs) H' fun σ2 H2 => wipe σ2 vs = wipe σ vs ∧ te σ2 H2 Kt) (hd : ∀ H, Same H1 H → H D = some (.lst ((List.range n).map y)) → Qd H) :
    ∃ W : Nat → Nat → Hp → Prop, (∃ m, W 0 m (upd H1 D (.lst []))) ∧ ∀ i m H, W i m H →
      (J.stop i H ∧ Qd H) ∨ (J.go i H ∧ ∃ Nx : Hp → Prop, (∀ H', Nx H' → ∃ m', m' < m ∧ W (i + 1) m' H') ∧ ∀ x H', J.yld i H x H' → g x (wipe σ vs) H' fun σ2 H2 => wipe σ2 vs = wipe σ vs ∧ tYes σ2 H2 fun b H3 =>
        if b = true then te σ2 H3 fun y H4 => ∃ acc, H4 D = some (.lst acc) ∧ acc.length < sizeLine ∧ Nx (upd H4 D (.lst (acc ++ [y]))) else Nx H3) := by
  refine lc_it w (fun i H => H D = some (.lst ((List.range i).map y)) ∧ Same H1 H) ⟨upd_same, L2.Same.upd hD⟩ (fun i H _ p => hG H p.2) (fun i x H H' hi p hy => ?_) fun H p => hd H p.2 p.1
  obtain ⟨p1, p2⟩ := p
  refine hs i x H H' _ hi p2 hy fun H4 s4 => ?_
  refine ⟨_, s4 _ _ p1, by rw [List.length_map, List.length_range]; omega, ?_, ?_⟩
  · rw [upd_same, List.range_succ, List.map_append]; rfl
  · intro b o e
    have hb : b ≠ D := ne_of_none e hD
    rw [upd_ne hb]
    exact s4 _ _ (p2 _ _ e)
theorem take_more {α : Type} {l : List α} {i : Nat} {x : α} (h : l[i]? = some x) : l.take (i + 1) = l.take i ++ [x] := by
  rw [List.take_add_one, h]
  rfl
end Kw

set_option Elab.async false
set_option linter.all false
set_option maxRecDepth 100000
set_option maxHeartbeats 4000000
namespace Kw
open PySem PySem.Spec PyProof.Rows L2 Sb
/-- a test of data that changes nothing -/
def spTest (t : PyData → Bool) (K : PySem.W.Frag) : Sp := fun vs H Q _ => ∃ v d, vs = [v] ∧ Dp K H v d ∧ (∀ x, d = .str x → x.length ≤ 16777216) ∧ ∀ H', Same H H' → Q (.bl (t d)) H'
theorem scW : FnScope ["thing", "sign"] ["thing"] (defScope (top 23)) := ⟨rfl, rfl, rfl, by decide +kernel, rfl, by decide +kernel, by decide +kernel⟩
theorem small_iff (c : Nat) : decide (c ∈ ("abcdefghijklmnopqrstuvwxyz" : Str).cps.toList) = isSmall c := by
  rw [Bool.eq_iff_iff]
  have e : ("abcdefghijklmnopqrstuvwxyz" : Str).cps.toList = [97,98,99,100,101,102,103,104,105,106,107,108,109,110,111,112,113,114,115,116,117,118,119,120,121,122] := by decide +kernel
  rw [e]
  simp [isSmall]
  omega
theorem all_rangeF (l : Array Nat) (p : Nat → Bool) : ((List.range l.size).map fun i => p (l.getD i 0)).all id = l.toList.all p := by
  have e : (List.range l.size).map (fun i => p (l.getD i 0)) = l.toList.map p := by
    refine List.ext_getElem (by simp) fun i h1 h2 => ?_
    have hi : i < l.size := by simpa using h1
    simp [hi]
  rw [e, List.all_map]
  rfl
section
variable {P : Program} {w : World} {K : PySem.W.Frag} {mg : Str → Option Value} {base : Heap}
theorem ok_is_word {f : Addr} {fd : FuncData} (D : Df K mg "is_word" 23 f fd) (C : Con mg) : Cl P w K mg base CX0 1 "is_word" ["thing"] (spTest isWord K) := by
  obtain ⟨tS, hS⟩ := C.small
  refine cl0 D (fun _ _ _ _ _ _ us hl => match us, hl with | [_], _ => rfl) scW (fun vs H Q E h => ?_) fun cdv A outer s H vs Q E hr h => ?_
  · obtain ⟨v, d, rfl, _⟩ := h; rfl
  · refine ⟨_, pss_one (ps_ret (pe_and (pe_callB call_isi (by rfl) (C.nb _ (by decide)) bt_isinstance (pa_cons (pv 0) (pa_cons (pe_bltn (v := .ty "str") (by rfl) (C.nb _ (by decide)) bt_str rfl) pa_nil)))
      (pe_and (pe_cmpR op_ne (pv 0) pe_str (nomark _))
      (pe_one (pe_callB (cr_all rfl) (by rfl) (C.nb _ (by decide)) bt_all (pa_cons (pe_lc (own := [("sign", 1)]) (g := gName 1) (tt := tYes) rfl scW.nd (pi_str (pv 0)) (blkOk_by (own := [("sign", 1)]) (N := ["thing", "sign"]) (sc := defScope (top 23)) (by decide +kernel)) (fun _ _ _ _ _ => pg_name (i := 1) scW.nd rfl (Or.inl rfl)) (fun _ _ _ _ _ => pts_nil)
        (fun _ _ _ _ _ => pe_cmpR op_in_sign (pv 1) (pe_glob (v := .str "abcdefghijklmnopqrstuvwxyz") rfl hS ⟨_, rfl⟩) (by rfl))) pa_nil)))))), ?_⟩
    obtain ⟨v, d, rfl, hd, hz, q⟩ := h
    refine ⟨_, rfl, ?_⟩
    dsimp only [tCons, tC, tNil]
    refine isi (K := K) hd (kit_str d) ⟨_, rfl, ?_⟩
    cases hd with
    | str x =>
      refine iteT ⟨_, rfl, rfl, _, rfl, ?_⟩
      by_cases hx : x = ""
      · subst hx
        refine iteF ?_
        exact q H (Same.refl _)
      · have : (!decide (V.str x = V.str "")) = true := by simpa using hx
        rw [this]
        refine iteT ?_
        refine ⟨_, rfl, x, rfl, fun D hD => ?_⟩
        refine lc_map (walk_str (z := x)) (fun i => .bl (isSmall (x.cps.getD i 0))) hD (by have := hz x rfl; rw [sizeLine_eq]; exact this) (fun _ _ => trivial) (fun i y H2 H3 Kt hi hs hy hk => ?_) fun H2 hs hl => ?_
        · obtain ⟨rfl, c, hc, rfl⟩ := hy
          refine ⟨rfl, _, rfl, c, _, rfl, rfl, ?_⟩
          rw [small_iff, show c = x.cps.getD i 0 by simp [Array.getD_eq_getD_getElem?, hc]]
          exact hk _ (Same.refl _)
        · refine ⟨D, (List.range x.cps.size).map (fun i => isSmall (x.cps.getD i 0)), rfl, .inl (.inl (by rw [hl, List.map_map]; rfl)), ?_⟩
          rw [all_rangeF]
          have hne : x.cps.toList ≠ [] := fun z => hx (by cases x; simp at z; subst z; rfl)
          have e : isWord (.str x) = x.cps.toList.all isSmall := by
            show (!x.cps.toList.isEmpty && x.cps.toList.all isSmall) = _
            rw [show x.cps.toList.isEmpty = false from by simpa using hne]
            rfl
          rw [← e]
          exact q H2 hs
    | _ => exact iteF (q H (Same.refl _))
end
end Kw

set_option Elab.async false
set_option linter.all false
set_option maxRecDepth 100000
set_option maxHeartbeats 4000000
namespace Kw
open PySem PySem.Spec PyProof.Rows L2 Sb
theorem scF : FnScope ["thing"] ["thing"] (defScope (top 24)) := ⟨rfl, rfl, rfl, by decide +kernel, rfl, by decide +kernel, by decide +kernel⟩
theorem scV : FnScope ["thing", "layer", "deep", "later", "one"] ["thing"] (defScope (top 25)) := ⟨rfl, rfl, rfl, by decide +kernel, rfl, by decide +kernel, by decide +kernel⟩
section
variable {P : Program} {w : World} {K : PySem.W.Frag} {mg : Str → Option Value} {base : Heap}
theorem ok_is_figure {f : Addr} {fd : FuncData} (D : Df K mg "is_figure" 24 f fd) (C : Con mg) : Cl P w K mg base CX0 1 "is_figure" ["thing"] (spTest isFigure K) := by
  obtain ⟨tN, hN⟩ := C.numb
  refine cl0 D (fun _ _ _ _ _ _ us hl => match us, hl with | [_], _ => rfl) scF (fun vs H Q E h => ?_) fun cdv A outer s H vs Q E hr h => ?_
  · obtain ⟨v, d, rfl, _⟩ := h; rfl
  · refine ⟨_, (pss_one (ps_ret (pe_and (pe_callB (call_isi) (by rfl) (C.nb _ (by decide)) bt_isinstance (pa_cons (pv 0) (pa_cons (pe_bltn (v := .ty "int") (by rfl) (C.nb _ (by decide)) bt_int rfl) pa_nil)))
 (pe_and (pe_not (pe_callB (call_isi) (by rfl) (C.nb _ (by decide)) bt_isinstance (pa_cons (pv 0) (pa_cons (pe_bltn (v := .ty "bool") (by rfl) (C.nb _ (by decide)) bt_bool rfl) pa_nil))))
 (pe_one (pe_cmpR op_lt (pe_callB (call_abs) (by rfl) (C.nb _ (by decide)) bt_abs (pa_cons (pv 0) pa_nil)) (pe_glob (v := .int 1000000000000) (by rfl) hN ⟨_, rfl⟩) (nomark _))))))), ?_⟩
    obtain ⟨v, d, rfl, hd, hz, q⟩ := h
    refine ⟨_, rfl, ?_⟩
    dsimp only [tCons, tC, tNil]
    refine isi (K := K) hd (kit_int d) ⟨_, rfl, ?_⟩
    cases hd with
    | int i =>
      refine iteT ⟨_, rfl, ?_⟩
      dsimp only [tCons, tC, tNil]
      refine isi (K := K) (.int i) (kit_bool (.int i)) ⟨_, rfl, _, rfl, ?_⟩
      refine iteT ⟨_, rfl, ?_⟩
      refine ⟨i, rfl, _, _, rfl, rfl, ?_⟩
      have e : decide ((if i < 0 then -i else i) < 1000000000000) = isFigure (.int i) := by
        rw [Bool.eq_iff_iff]
        simp only [isFigure, decide_eq_true_eq]
        split <;> omega
      show Q (.bl (decide ((if i < 0 then -i else i) < 1000000000000))) H
      rw [e]
      exact q H (Same.refl _)
    | bl b =>
      refine iteT ⟨_, rfl, ?_⟩
      dsimp only [tCons, tC, tNil]
      refine isi (K := K) (.bl b) (kit_bool (.bool b)) ⟨_, rfl, _, rfl, ?_⟩
      exact iteF (q H (Same.refl _))
    | _ => exact iteF (q H (Same.refl _))
def spVal (K : PySem.W.Frag) : Sp := fun vs H Q _ => ∃ v d, vs = [v] ∧ Dp K H v d ∧ sOk d = true ∧ sz d ≤ 16777216 ∧ ∀ H', Same H H' → Q (.bl (isValue d)) H'
theorem strB {d : PyData} (h : sOk d = true) : ∀ x, d = .str x → x.length ≤ 16777216 := fun x e => by subst e; simpa [sOk] using h
theorem ok_is_value {f : Addr} {fd : FuncData} (D : Df K mg "is_value" 25 f fd) (C : Con mg) (c_is_word : Cl P w K mg base CX0 1 "is_word" ["thing"] (spTest isWord K)) (c_is_figure : Cl P w K mg base CX0 1 "is_figure" ["thing"] (spTest isFigure K)) :
    Cl P w K mg base CX0 2 "is_value" ["thing"] (spVal K) := by
  obtain ⟨tD, hD⟩ := C.deep
  refine cl0 D (fun _ _ _ _ _ _ us hl => match us, hl with | [_], _ => rfl) scV (fun vs H Q E h => ?_) fun cdv A outer s H vs Q E hr h => ?_
  · obtain ⟨v, d, rfl, _⟩ := h; rfl
  · have hu0 : (A.deeper (envOfC "is_value" (defScope (top 25)) s.heap.objs.size f cdv)).units < cLine := Nat.lt_of_le_of_lt (Nat.le_add_right _ _) hr.units
    refine ⟨_, (pss_cons (ps_set (i := 1) scV.nd rfl (Or.inl rfl) (pe_lst (pa_cons (pv 0) pa_nil)))
 (pss_cons (ps_for PassesOwn.never rfl (pi_range1 (by rfl) (C.nb _ (by decide)) (pa_cons (pe_glob (v := .int 60) (by rfl) hD ⟨_, rfl⟩) pa_nil)) (pg_name (i := 2) scV.nd rfl (Or.inl rfl))
 (pss_cons (ps_set (i := 3) scV.nd rfl (Or.inl rfl) (pe_lst pa_nil))
 (pss_cons (ps_for PassesOwn.never rfl (pi_list (pv 1)) (pg_name (i := 4) scV.nd rfl (Or.inl rfl))
 (pss_one (ps_if (PW.pt (pw_and (pt_val (pe_callB (call_isi) (by rfl) (C.nb _ (by decide)) bt_isinstance (pa_cons (pv 4) (pa_cons (pe_bltn (v := .ty "tuple") (by rfl) (C.nb _ (by decide)) bt_tuple rfl) pa_nil))))
 (pw_and1 (pt_cmpR op_lt (pv 2) (pe_op op_sub (pe_glob (v := .int 60) (by rfl) hD ⟨_, rfl⟩) pe_int) (nomark _)))))
 (pss_one (ps_expr (pe_bm PySem.F.plainAttrs_list PySem.F.slot_list_extend PySem.F.type_list_extend Sm.mt_extendT (pv 3) (pa_cons (pv 4) pa_nil))))
 (pss_one (ps_if (PW.pt (pw_and (pt_cmp (pc_notN (pv 4)))
 (pw_and (pt_not (pt_val (pe_q c_is_word hr (by decide) (by rfl) (pa_cons (pv 4) pa_nil))))
 (pw_and1 (pt_not (pt_val (pe_q c_is_figure hr (by decide) (by rfl) (pa_cons (pv 4) pa_nil))))))))
 (pss_one (ps_ret pe_bl))
 pss_nil)))))
 (pss_cons (ps_if (pt_cmpR (Sm.op_eqNil hu0) (pv 3) (pe_lst pa_nil) (nomark _))
 (pss_one (ps_ret pe_bl))
 pss_nil)
 (pss_one (ps_set (i := 1) scV.nd rfl (Or.inl rfl) (pv 3)))))))
 (pss_one (ps_ret pe_bl)))), ?_⟩
    obtain ⟨v, d, rfl, hd, hso, hsz, q⟩ := h
    refine ⟨_, rfl, by show 1 ≤ sizeLine; decide, fun L hL => ?_⟩
    refine ⟨60, rfl, by decide, by decide, ?_⟩
    refine for_it walk_range (fun i σ H' => ∃ L vs ds a b c, σ = [some v, some (.ref L), a, b, c] ∧ H' L = some (.lst vs) ∧ H L = none ∧ DpAll K H vs ds ∧ szAll ds ≤ 16777216 ∧ sOkAll ds = true ∧ isValGo (60 - i) ds = isValue d ∧ Same H H')
      ⟨L, [v], [d], none, none, none, rfl, upd_same, hL, .cons hd .nil, by simpa [szAll] using hsz, by simpa [sOkAll] using hso, rfl, Same.upd hL⟩ (fun _ _ _ _ _ => trivial) ?_ ?_
    · rintro i x σ H1 H1' hi ⟨L, vs, ds, a, b, c, rfl, hL1, hL0, hds, hz, hs, hv, s1⟩ ⟨rfl, rfl⟩
      -- later = []
      refine ⟨by show 0 ≤ sizeLine; decide, fun R hR => ?_⟩
      have hi60 : i < 60 := hi
      have hR0 : H R = none := s1.free hR
      have hRL : R ≠ L := fun z => by rw [z, hL1] at hR; cases hR
      obtain ⟨n, hn⟩ : ∃ n, 60 - i = n + 1 := ⟨59 - i, by omega⟩
      have hlen := hds.len
      refine ⟨_, rfl, L, rfl, ⟨_, .inl (.inl ((upd_ne (Ne.symm hRL)).trans hL1))⟩, ?_⟩
      refine for_it walk_list (fun j σ H2 => ∃ ws es c, σ = [some v, some (.ref L), some (.int (0 + (i : Int))), some (.ref R), c] ∧ H2 R = some (.lst ws) ∧ H2 L = some (.lst vs) ∧ DpAll K H ws es ∧ lay (n == 0) (ds.take j) = some es ∧ Same H H2)
        ⟨[], [], c, rfl, upd_same, (upd_ne (Ne.symm hRL)).trans hL1, .nil, rfl, s1.updN hR0⟩ (fun j σ H2 _ ⟨_, _, _, _, _, h, _⟩ => .inl (.inl h)) ?_ ?_
      · rintro j x σ H2o H2 hj ⟨ws, es, c, rfl, hR2, hL2, hes, hl, s2⟩ ⟨rfl, hx⟩
        obtain ⟨dj, hdj, hdp⟩ := hds.get hx
        have htk := take_more hdj
        have hmem : dj ∈ ds := List.mem_of_getElem? hdj
        have hsj : sOk dj = true := sOkAll_mem.mp hs dj hmem
        have hszj : sz dj ≤ szAll ds := sz_mem hmem
        have dp2 := dp_same s2 hdp
        have hl1 : lay (n == 0) (ds.take (j + 1)) = (lay (n == 0) [dj]).map (es ++ ·) := by rw [htk, lay_app, hl]; rfl
        -- the two ends of a leaf's turn
        have fin : (isTup dj && !(n == 0)) = false → leafOk dj = true → ∀ H3, Same H2 H3 → ∃ ws es c, ([some v, some (.ref L), some (.int (0 + (i : Int))), some (.ref R), some x] : L2.St) = [some v, some (.ref L), some (.int (0 + (i : Int))), some (.ref R), c] ∧ H3 R = some (.lst ws) ∧ H3 L = some (.lst vs) ∧ DpAll K H ws es ∧ lay (n == 0) (ds.take (j + 1)) = some es ∧ Same H H3 := fun h1 h2 H3 s3 =>
          ⟨ws, es, _, rfl, s3 _ _ hR2, s3 _ _ hL2, hes, by rw [hl1, lay_one, h1, h2]; simp, s2.trans s3⟩
        have bad : (isTup dj && !(n == 0)) = false → leafOk dj = false → ∀ H3, Same H2 H3 → Q (.bl false) H3 := fun h1 h2 H3 s3 => by
          have e : lay (n == 0) ds = none := lay_take_none (j := j + 1) (by rw [hl1, lay_one, h1, h2]; simp)
          have e2 : isValue d = false := by rw [← hv, hn, isValGo_none e]
          rw [← e2]
          exact q H3 (s2.trans s3)
        refine ⟨_, rfl, ?_⟩
        dsimp only [tCons, tC, tNil]
        refine isi (K := K) dp2 (kitTup dj) ⟨_, rfl, ?_⟩
        cases ht : isTup dj
        case' true =>
          refine iteT ⟨_, rfl, _, _, rfl, rfl, _, _, rfl, rfl, _, rfl, ?_⟩
          by_cases hn1 : n = 0
          case' neg =>
            have hn0 : (n == 0) = false := by simpa using hn1
            have hd59 : decide (0 + (i : Int) < 60 - 1) = true := by
              rw [decide_eq_true_eq]
              omega
            rw [hd59]
            refine iteT ?_
            cases dj with
            | tuple xs =>
              cases hdp with
              | @tup a us _ ha hda =>
                refine ⟨_, rfl, .inl ⟨rfl, _, .inl (.inl hR2)⟩, _, rfl, R, a, ws, us, rfl, rfl, hR2, s2.tup ha, ?_, ?_⟩
                · have h1 := hes.len
                  have h2 := hda.len
                  have h3 : lay (n == 0) (ds.take (j + 1)) = some (es ++ xs) := by rw [hl1, lay_one, hn0]; rfl
                  have h4 := lay_sz h3
                  have h5 := len_szAll (es ++ xs)
                  have h6 := szAll_take ds (j + 1)
                  rw [List.length_append] at h5
                  rw [sizeLine_eq]
                  omega
                · refine ⟨ws ++ us, es ++ xs, _, rfl, upd_same, (upd_ne (Ne.symm hRL)).trans hL2, hes.app hda, by rw [hl1, lay_one, hn0]; rfl, s2.updN hR0⟩
            | _ => simp [isTup] at ht
          case' pos =>
            have hn0 : (n == 0) = true := by simpa using hn1
            have hd59 : decide (0 + (i : Int) < 60 - 1) = false := by
              rw [decide_eq_false_iff_not]
              omega
            rw [hd59]
            refine iteF ?_
            have hnt : (isTup dj && !(n == 0)) = false := by rw [hn0]; simp
        case' false =>
          refine iteF (iteF ?_)
          have hnt : (isTup dj && !(n == 0)) = false := by rw [ht]; rfl
        all_goals
          refine ⟨_, rfl, _, rfl, ?_⟩
          by_cases hx0 : x = .non
          · subst hx0
            have e0 : dj = .none := by cases hdp; rfl
            subst e0
            rw [decide_eq_true rfl]
            exact iteF (iteF (fin hnt rfl H2 (Same.refl _)))
          · have hne : ¬ dj = .none := fun z => by subst z; cases hdp; exact hx0 rfl
            rw [decide_eq_false hx0]
            refine iteT ⟨_, rfl, x, dj, rfl, dp2, strB hsj, fun H3 s3 => ⟨_, rfl, ?_⟩⟩
            have hlf : leafOk dj = (isWord dj || isFigure dj) := by cases dj <;> simp_all [leafOk, isWord, isFigure]
            cases hw : isWord dj with
            | true => exact iteF (iteF (fin hnt (by rw [hlf, hw]; rfl) H3 s3))
            | false =>
              refine iteT ⟨_, rfl, x, dj, rfl, dp_same s3 dp2, strB hsj, fun H4 s4 => ⟨_, rfl, ?_⟩⟩
              cases hf : isFigure dj with
              | true => exact iteF (fin hnt (by rw [hlf, hw, hf]; rfl) H4 (s3.trans s4))
              | false => exact iteT (bad hnt (by rw [hlf, hw, hf]; rfl) H4 (s3.trans s4))
      · rintro σ H2 ⟨ws, es, c, rfl, hR2, hL2, hes, hl, s2⟩
        have hl' : lay (n == 0) ds = some es := by rw [hlen, List.take_length] at hl; exact hl
        have hv' : (es.isEmpty || isValGo n es) = isValue d := by rw [← isValGo_some hl', ← hn]; exact hv
        refine ⟨_, rfl, by show 0 ≤ sizeLine; decide, fun T hT => ⟨R, T, ws, rfl, rfl, .inl (.inl ((upd_ne (ne_of_none hR2 hT)).trans hR2)), .inl (.inl upd_same), _, rfl, ?_⟩⟩
        have s3 : Same H (upd H2 T (.lst [])) := s2.updN (s2.free hT)
        cases ws with
        | nil =>
          have : es = [] := by cases hes; rfl
          subst this
          refine iteT ?_
          have e : isValue d = true := by rw [← hv']; rfl
          rw [← e]
          exact q _ s3
        | cons y ws =>
          refine iteF ⟨_, rfl, R, y :: ws, es, _, _, _, rfl, (upd_ne (ne_of_none hR2 hT)).trans hR2, hR0, hes, Nat.le_trans (lay_sz hl') hz, sOk_lay hl' hs, ?_, s3⟩
          cases hes with
          | cons a b =>
            have hn2 : 60 - (i + 1) = n := by omega
            rw [hn2, ← hv']
            rfl
    · rintro σ H1 ⟨L, vs, ds, a, b, c, rfl, hL1, hL0, hds, hz, hs, hv, s1⟩
      have e : isValue d = false := by rw [← hv]; rfl
      rw [← e]
      exact q H1 s1
end
end Kw

set_option Elab.async false
set_option linter.all false
set_option maxRecDepth 100000
set_option maxHeartbeats 4000000
namespace Kw
open PySem PySem.Spec PyProof.Rows L2 Sb
theorem scP : FnScope ["text", "found", "at", "end"] ["text"] (defScope (top 27)) := ⟨rfl, rfl, rfl, by decide +kernel, rfl, by decide +kernel, by decide +kernel⟩
theorem scQ : FnScope ["piece", "bare", "sign"] ["piece"] (defScope (top 28)) := ⟨rfl, rfl, rfl, by decide +kernel, rfl, by decide +kernel, by decide +kernel⟩
def spPieces : Sp := fun vs H Q _ => ∃ x : Str, vs = [.str x] ∧ x.length ≤ 4194304 ∧ ∀ H' R, H R = none → Same H H' → H' R = some (.lst ((pieces x.cps.toList).map fun p => .str (SX.S p))) → Q (.ref R) H'
theorem cut_both {l : List Nat} {k e : Nat} (h1 : k ≤ e) (h2 : e ≤ l.length) : cutS (SX.S l) (some (k : Int)) (some (e : Int)) = SX.S ((l.drop k).take (e - k)) := by
  have hl : (SX.S l).length = l.length := SX.S_len l
  unfold cutS
  have e1 : HT.sIx (SX.S l).length 0 (some (k : Int)) = k := by rw [HT.sIx_nat, hl]; omega
  have e2 : HT.sIx (SX.S l).length (SX.S l).length (some (e : Int)) = e := by rw [HT.sIx_nat, hl]; omega
  rw [e1, e2]
theorem tw_stop {p : Nat → Bool} : ∀ {r : List Nat} {m : Nat}, (∀ i, i < m → ∃ c, r[i]? = some c ∧ p c = true) → (∀ c, r[m]? = some c → p c = false) → r.takeWhile p = r.take m ∧ r.dropWhile p = r.drop m
  | [], m, h1, h2 => by simp
  | c :: r, 0, h1, h2 => by have := h2 c rfl; simp [this]
  | c :: r, m + 1, h1, h2 => by
    obtain ⟨c', e, hc⟩ := h1 0 (by omega)
    simp at e
    subst e
    obtain ⟨a, b⟩ := tw_stop (r := r) (m := m) (fun i hi => by simpa using h1 (i + 1) (by omega)) fun c h => h2 c (by simpa using h)
    simp [hc, a, b]
theorem sp_iff (c : Nat) : decide (c ∈ ("() " : Str).cps.toList) = special c := by
  rw [Bool.eq_iff_iff]
  have e : ("() " : Str).cps.toList = [40, 41, 32] := by decide +kernel
  rw [e]
  simp [special, or_assoc]
section
variable {P : Program} {w : World} {K : PySem.W.Frag} {mg : Str → Option Value} {base : Heap}
theorem ok_pieces_of {f : Addr} {fd : FuncData} (D : Df K mg "pieces_of" 27 f fd) (C : Con mg) : Cl P w K mg base CX0 1 "pieces_of" ["text"] spPieces := by
  refine cl0 D (fun _ _ _ _ _ _ us hl => match us, hl with | [_], _ => rfl) scP (fun vs H Q E h => ?_) fun cdv A outer s H vs Q E hr h => ?_
  · obtain ⟨x, rfl, _⟩ := h; rfl
  · refine ⟨_, (pss_cons (ps_par (i := 1) (j := 2) rfl scP.nd rfl rfl (by decide) rfl rfl (pa_cons (pe_lst pa_nil) (pa_cons pe_int pa_nil)) (by rfl))
 (pss_cons (ps_while PassesOwn.never (pt_cmpR op_lt (pv 2) (pe_callB (call_len_str) (by rfl) (C.nb _ (by decide)) bt_len (pa_cons (pv 0) pa_nil)) (nomark _))
 (pss_cons (ps_set (i := 3) scP.nd rfl (Or.inl rfl) (pe_op op_add (pv 2) pe_int))
 (pss_cons (ps_if (pt_cmpR op_notIn_sign (pe_ix ix_str (pv 0) (pv 2) (fun _ _ => rfl)) pe_str (by rfl))
 (pss_one (ps_while PassesOwn.never (PW.pt (pw_and (pt_cmpR op_lt (pv 3) (pe_callB (call_len_str) (by rfl) (C.nb _ (by decide)) bt_len (pa_cons (pv 0) pa_nil)) (nomark _))
 (pw_and1 (pt_cmpR op_notIn_sign (pe_ix ix_str (pv 0) (pv 3) (fun _ _ => rfl)) pe_str (by rfl)))))
 (pss_one (ps_aug (i := 3) scP.nd rfl (Or.inl rfl) pe_int ip_add))))
 pss_nil)
 (pss_cons (ps_expr (pe_bm PySem.F.plainAttrs_list PySem.F.slot_list_append PySem.F.type_list_append mt_append (pv 1) (pa_cons (pe_slice sl_str (pv 0) (po_some (pv 2)) (po_some (pv 3))) pa_nil)))
 (pss_one (ps_set (i := 2) scP.nd rfl (Or.inl rfl) (pv 3)))))))
 (pss_one (ps_ret (pv 1))))), ?_⟩
    obtain ⟨x, rfl, hz, q⟩ := h
    obtain ⟨l, rfl⟩ : ∃ l, x = SX.S l := ⟨_, (SX.S_tl x).symm⟩
    have hl : (SX.S l).length = l.length := SX.S_len l
    rw [hl] at hz
    refine ⟨by show 0 ≤ sizeLine; decide, fun R hR => ⟨_, _, rfl, ?_⟩⟩
    refine ⟨fun m σ H' => ∃ k ps a, k ≤ l.length ∧ m = l.length - k ∧ σ = [some (.str (SX.S l)), some (.ref R), some (.int (k : Int)), a] ∧ H' R = some (.lst (ps.map fun p => V.str (SX.S p))) ∧ Same H H' ∧ ps ++ pieces (l.drop k) = pieces l ∧ ps.length ≤ k,
      ⟨_, 0, [], none, Nat.zero_le _, rfl, rfl, upd_same, L2.Same.upd hR, rfl, Nat.le_refl _⟩, ?_⟩
    rintro m σ H1 ⟨k, ps, a, hk, rfl, rfl, hR1, s1, hp, hpl⟩
    refine ⟨_, rfl, _, rfl, _, rfl, by rw [hl, sizeLine_eq]; omega, _, _, rfl, rfl, _, rfl, ?_⟩
    rw [hl]
    by_cases hlt : k < l.length
    · rw [decide_eq_true (by omega : (k : Int) < (l.length : Int))]
      refine iteT ⟨fun σ' H' => ∃ k' ps a, k < k' ∧ k' ≤ l.length ∧ σ' = [some (.str (SX.S l)), some (.ref R), some (.int (k' : Int)), a] ∧ H' R = some (.lst (ps.map fun p => V.str (SX.S p))) ∧ Same H H' ∧ ps ++ pieces (l.drop k') = pieces l ∧ ps.length ≤ k', fun σ' H' ⟨k', ps, a, h1, h2, h3, h4, h5, h6, h7⟩ => ⟨_, by omega, k', ps, a, h2, rfl, h3, h4, h5, h6, h7⟩, ?_⟩
      obtain ⟨c, hc⟩ : ∃ c, l[k]? = some c := ⟨l[k], by simp [hlt]⟩
      have hdrop : l.drop k = c :: l.drop (k + 1) := by
        rw [List.drop_eq_getElem_cons hlt]
        have : l[k] = c := by simpa [hlt] using hc
        rw [this]
      -- behind the piece's end e: the piece, the rest
      have fin : ∀ (e : Nat) (p : List Nat), k < e → e ≤ l.length → (l.drop k).take (e - k) = p → pieces (l.drop k) = p :: pieces (l.drop e) → ∀ H2, Same H1 H2 →
          tSeq (tDrop (tBM K "list" rAppend (tVar 1) (tCons (tSl rSlS (tVar 0) (tPart (tVar 2)) (tPart (tVar 3))) tNil))) (tAsg (tVar 3) (gName 2)) { nx := fun σ' H' => ∃ k' ps a, k < k' ∧ k' ≤ l.length ∧ σ' = [some (.str (SX.S l)), some (.ref R), some (.int (k' : Int)), a] ∧ H' R = some (.lst (ps.map fun p => V.str (SX.S p))) ∧ Same H H' ∧ ps ++ pieces (l.drop k') = pieces l ∧ ps.length ≤ k', rt := Q } [some (.str (SX.S l)), some (.ref R), some (.int (k : Int)), some (.int (e : Int))] H2 := by
        intro e p h1 h2 h3 h4 H2 s2
        have hR2 := s2 _ _ hR1
        refine ⟨_, rfl, .inl ⟨rfl, _, .inl (.inl hR2)⟩, _, rfl, ⟨_, rfl, _, rfl, ?_⟩⟩
        refine ⟨_, rfl, _, rfl, ?_⟩
        refine ⟨SX.S l, rfl, by rw [hl, sizeLine_eq]; omega, ?_⟩
        refine ⟨R, _, _, rfl, rfl, hR2, by rw [List.length_map, sizeLine_eq]; omega, ?_⟩
        refine ⟨_, rfl, e, ps ++ [p], _, h1, h2, rfl, ?_, (s1.trans s2).updN hR, ?_, ?_⟩
        · rw [upd_same, cut_both (Nat.le_of_lt h1) h2, h3, List.map_append]; rfl
        · rw [List.append_assoc]
          show ps ++ (p :: pieces (l.drop e)) = pieces l
          rw [← h4]; exact hp
        · rw [List.length_append]; simp; omega
      refine ⟨_, rfl, _, _, rfl, rfl, ?_⟩
      refine ⟨_, rfl, _, rfl, ⟨_, _, c, rfl, rfl, by rw [hl, sizeLine_eq]; omega, atI_nat hc, ?_⟩⟩
      refine ⟨c, _, rfl, rfl, _, rfl, ?_⟩
      rw [sp_iff]
      cases hsc : special c with
      | true =>
        refine iteF (fin (k + 1) [c] (by omega) hlt ?_ ?_ H1 (Same.refl _))
        · rw [hdrop]; simp
        · rw [hdrop, pieces_sp hsc]
      | false =>
        refine iteT ?_
        refine ⟨fun m' σ H' => ∃ e, k < e ∧ e ≤ l.length ∧ m' = l.length - e ∧ σ = [some (.str (SX.S l)), some (.ref R), some (.int (k : Int)), some (.int (e : Int))] ∧ Same H1 H' ∧ ∀ i, i < e - (k + 1) → ∃ c', (l.drop (k + 1))[i]? = some c' ∧ (!special c') = true,
          ⟨_, k + 1, by omega, hlt, rfl, rfl, Same.refl _, fun i hi => by omega⟩, ?_⟩
        rintro m' σ' H2 ⟨e, he1, he2, rfl, rfl, s2, hns⟩
        have stop : (∀ c', l[e]? = some c' → (!special c') = false) → tSeq (tDrop (tBM K "list" rAppend (tVar 1) (tCons (tSl rSlS (tVar 0) (tPart (tVar 2)) (tPart (tVar 3))) tNil))) (tAsg (tVar 3) (gName 2)) { nx := fun σ' H' => ∃ k' ps a, k < k' ∧ k' ≤ l.length ∧ σ' = [some (.str (SX.S l)), some (.ref R), some (.int (k' : Int)), a] ∧ H' R = some (.lst (ps.map fun p => V.str (SX.S p))) ∧ Same H H' ∧ ps ++ pieces (l.drop k') = pieces l ∧ ps.length ≤ k', rt := Q } [some (.str (SX.S l)), some (.ref R), some (.int (k : Int)), some (.int (e : Int))] H2 := fun h => by
          have z := tw_stop (p := fun c => !special c) (r := l.drop (k + 1)) (m := e - (k + 1)) hns fun c' h' => h c' (by rw [List.getElem?_drop] at h'; rw [← h']; congr 1; omega)
          have e3 : e - k = (e - (k + 1)) + 1 := by omega
          refine fin e (c :: (l.drop (k + 1)).take (e - (k + 1))) he1 he2 (by rw [hdrop, e3]; rfl) ?_ H2 s2
          rw [hdrop, pieces_tk hsc, z.1, z.2, List.drop_drop]
          congr 3
          omega
        refine ⟨_, rfl, _, rfl, _, rfl, by rw [hl, sizeLine_eq]; omega, _, _, rfl, rfl, _, rfl, ?_⟩
        rw [hl]
        by_cases hel : e < l.length
        · rw [decide_eq_true (by omega : (e : Int) < (l.length : Int))]
          obtain ⟨c2, hc2⟩ : ∃ c, l[e]? = some c := ⟨l[e], by simp [hel]⟩
          refine iteT ⟨_, rfl, _, rfl, ⟨_, _, c2, rfl, rfl, by rw [hl, sizeLine_eq]; omega, atI_nat hc2, ?_⟩⟩
          refine ⟨c2, _, rfl, rfl, _, rfl, ?_⟩
          rw [sp_iff]
          cases hs2 : special c2 with
          | true => exact iteF (stop fun c' h' => by rw [hc2] at h'; cases h'; rw [hs2]; rfl)
          | false =>
            refine iteT ⟨fun σ' H' => σ' = [some (.str (SX.S l)), some (.ref R), some (.int (k : Int)), some (.int ((e + 1 : Nat) : Int))] ∧ H' = H2, fun σ' H' ⟨h1, h2⟩ => ⟨_, ?_, e + 1, by omega, hel, rfl, h1, by rw [h2]; exact s2, fun i hi => ?_⟩, ?_⟩
            · omega
            · by_cases hie : i < e - (k + 1)
              · exact hns i hie
              · refine ⟨c2, ?_, by rw [hs2]; rfl⟩
                rw [List.getElem?_drop, ← hc2]
                congr 1
                omega
            · exact ⟨_, rfl, _, _, rfl, rfl, by simp [gName, L2.start], rfl⟩
        · rw [decide_eq_false (by omega : ¬ (e : Int) < (l.length : Int))]
          exact iteF (iteF (stop fun c' h' => by rw [List.getElem?_eq_none (by omega)] at h'; cases h'))
    · have hk' : k = l.length := by omega
      rw [decide_eq_false (by omega : ¬ (k : Int) < (l.length : Int))]
      refine iteF ⟨_, rfl, ?_⟩
      rw [hk', List.drop_length, pieces_nil, List.append_nil] at hp
      exact q H1 R hR s1 (by rw [hR1, hp])
end
end Kw

set_option Elab.async false
set_option linter.all false
set_option maxRecDepth 100000
set_option maxHeartbeats 4000000
namespace Kw
open PySem PySem.Spec PyProof.Rows L2 Sb
theorem dv_lt : ∀ (n : Nat) (cs : List Nat), cs.length = n → NumText.AllDigits cs → NumText.digitsVal cs < 10 ^ n
  | 0, cs, h, _ => by
    have : cs = [] := by simpa using h
    subst this
    decide
  | n + 1, cs, h, hd => by
    have hne : cs ≠ [] := fun z => by rw [z] at h; simp at h
    obtain ⟨a, c, rfl⟩ : ∃ a c, cs = a ++ [c] := ⟨cs.dropLast, cs.getLast hne, (List.dropLast_concat_getLast hne).symm⟩
    rw [NumText.digitsVal_snoc]
    have h1 := dv_lt n a (by simpa using h) fun d hd' => hd d (List.mem_append_left _ hd')
    have h2 := hd c (List.mem_append_right _ (List.mem_singleton.mpr rfl))
    rw [Nat.pow_succ]
    omega
theorem strI (i : Int) : Str.ofString (toString i) = SX.S (intL i) := by
  unfold intL
  by_cases h : i < 0
  · rw [if_pos h, toString_neg h]
    obtain ⟨n, hn⟩ : ∃ n : Nat, 0 - i = (n : Int) := ⟨(0 - i).toNat, by omega⟩
    rw [hn]
    have e : i.natAbs = n := by omega
    rw [e]
    have z := congrArg (fun x : Str => x.cps.toList) (SX.num_S n)
    refine TL.ext_tl ?_
    show (Str.ofString ("-" ++ toString ((n : Nat) : Int))).cps.toList = 45 :: TL.numL n
    have z' : (Str.ofString (toString ((n : Nat) : Int))).cps.toList = TL.numL n := z
    rw [← z']
    have y1 := TL.tl_ofString ("-" ++ toString ((n : Nat) : Int))
    have y2 := TL.tl_ofString (toString ((n : Nat) : Int))
    refine y1.trans ?_
    rw [show (Str.ofString (toString ((n : Nat) : Int))).cps.toList = _ from y2, String.toList_append, List.map_append]
    rfl
  · rw [if_neg h]
    obtain ⟨n, rfl⟩ : ∃ n : Nat, i = (n : Int) := ⟨i.toNat, by omega⟩
    exact SX.num_S n
def leafV : PyData → V
  | .str x => .str x
  | .int i => .int i
  | _ => .non
theorem dp_leaf {K : PySem.W.Frag} {H : Hp} {d : PyData} (h : leafOk d = true) : Dp K H (leafV d) d := by
  cases d with
  | none => exact .non
  | str x => exact .str x
  | int i => exact .int i
  | _ => simp [leafOk] at h
theorem plain_leaf {p : List Nat} {d : PyData} (h : plainOf p = some d) : leafOk d = true ∧ vt d = p := by
  unfold plainOf at h
  split at h
  · cases h; rename_i e; exact ⟨rfl, by simp [vt, e]⟩
  split at h
  · cases h
    rename_i e
    exact ⟨by simpa [leafOk] using e, by simp [vt]⟩
  split at h
  · rename_i e
    split at h
    · rename_i e2
      cases h
      refine ⟨?_, by simpa [vt] using e2⟩
      have hd : NumText.AllDigits (bareOf p) := fun c hc => isFig_iff.mp (List.all_eq_true.mp e.2 c hc)
      have hb := dv_lt _ (bareOf p) rfl hd
      have hb2 : (10 : Nat) ^ (bareOf p).length ≤ 10 ^ 12 := Nat.pow_le_pow_right (by decide) e.1.2
      have : (Sb.valOf p).natAbs = NumText.digitsVal (bareOf p) := by unfold Sb.valOf; split <;> omega
      simp only [leafOk, this, decide_eq_true_eq]
      omega
    · cases h
  · cases h
def spPlain : Sp := fun vs H Q _ => ∃ l : List Nat, vs = [.str (SX.S l)] ∧ l.length ≤ 4194304 ∧ ∀ H' R, H R = none → Same H H' → H' R = some (.lst (match plainOf l with | none => [] | some d => [leafV d])) → Q (.ref R) H'
theorem fig_iff2 (c : Nat) : decide (c ∈ ("0123456789" : Str).cps.toList) = isFig c := by
  rw [Bool.eq_iff_iff]
  have e : ("0123456789" : Str).cps.toList = [48,49,50,51,52,53,54,55,56,57] := by decide +kernel
  rw [e]
  simp [isFig]
  omega
theorem intText_val {l : List Nat} (h : (bareOf l).all isFig = true) (h1 : 1 ≤ (bareOf l).length) (h2 : l.length ≤ 640) : intText? (SX.S l) = some (Sb.valOf l) := by
  have hd : NumText.AllDigits (bareOf l) := fun c hc => isFig_iff.mp (List.all_eq_true.mp h c hc)
  have hne : bareOf l ≠ [] := fun z => by rw [z] at h1; simp at h1
  unfold Sb.valOf
  by_cases hm : l.take 1 = [45]
  · have e : l = 45 :: bareOf l := by
      unfold bareOf
      rw [if_pos hm]
      cases l with
      | nil => simp at hm
      | cons c r => simp at hm; simp [hm]
    rw [if_pos hm]
    exact PySem.intText_neg (x := SX.S l) (cs := bareOf l) (by simpa using e) hd hne (by rw [SX.S_len]; omega)
  · have e : bareOf l = l := by unfold bareOf; rw [if_neg hm]
    rw [if_neg hm]
    rw [e] at hd hne ⊢
    have := PySem.intText_digits (x := SX.S l) (by simpa using hd) (by simpa using hne) (by rw [SX.S_len]; omega)
    simpa using this
section
variable {P : Program} {w : World} {K : PySem.W.Frag} {mg : Str → Option Value} {base : Heap}
theorem ok_plain_of {f : Addr} {fd : FuncData} (D : Df K mg "plain_of" 28 f fd) (C : Con mg) (c_is_word : Cl P w K mg base CX0 1 "is_word" ["thing"] (spTest isWord K)) : Cl P w K mg base CX0 2 "plain_of" ["piece"] spPlain := by
  obtain ⟨tM, hM⟩ := C.figs
  obtain ⟨tF, hF⟩ := C.figures
  refine cl0 D (fun _ _ _ _ _ _ us hl => match us, hl with | [_], _ => rfl) scQ (fun vs H Q E h => ?_) fun cdv A outer s H vs Q E hr h => ?_
  · obtain ⟨x, rfl, _⟩ := h; rfl
  · refine ⟨_, (pss_cons (ps_if (pt_cmpR op_eq (pv 0) pe_str (nomark _))
 (pss_one (ps_ret (pe_lst (pa_cons pe_non pa_nil))))
 pss_nil)
 (pss_cons (ps_if (pt_val (pe_q c_is_word hr (by decide) (by rfl) (pa_cons (pv 0) pa_nil)))
 (pss_one (ps_ret (pe_lst (pa_cons (pv 0) pa_nil))))
 pss_nil)
 (pss_cons (ps_set (i := 1) scQ.nd rfl (Or.inl rfl) (pe_ifExp (pt_cmpR op_eq (pe_slice C8.sl_txt (pv 0) po_none (po_some pe_int)) pe_str (nomark _)) (pe_slice C8.sl_txt (pv 0) (po_some pe_int) po_none) (pv 0)))
 (pss_cons (ps_if (PW.pt (pw_or (pt_not (pt_chain op_le op_le pe_int (pe_callB (call_len_str) (by rfl) (C.nb _ (by decide)) bt_len (pa_cons (pv 1) pa_nil)) (pe_glob (v := .int 12) (by rfl) hM ⟨_, rfl⟩)))
 (pw_or1 (pt_not (pt_val (pe_callB (cr_all rfl) (by rfl) (C.nb _ (by decide)) bt_all (pa_cons (pe_lc (own := [("sign", 2)]) (g := gName 2) (tt := tYes) rfl scQ.nd (pi_str (pv 1)) (blkOk_by (own := [("sign", 2)]) (N := ["piece", "bare", "sign"]) (sc := defScope (top 28)) (by decide +kernel)) (fun _ _ _ _ _ => pg_name (i := 2) scQ.nd rfl (Or.inl rfl)) (fun _ _ _ _ _ => pts_nil)
 (fun _ _ _ _ _ => (pe_cmpR op_in_sign (pv 2) (pe_glob (v := .str "0123456789") (by rfl) hF ⟨_, rfl⟩) (by rfl)))) pa_nil)))))))
 (pss_one (ps_ret (pe_lst pa_nil)))
 pss_nil)
 (pss_one (ps_ret (pe_ifExp (pt_cmpR op_eq (pe_callTy (call_str_int) (by rfl) (C.nb _ (by decide)) bt_str (pa_cons (pe_callTy (call_int_str) (by rfl) (C.nb _ (by decide)) bt_int (pa_cons (pv 0) pa_nil)) pa_nil)) (pv 0) (nomark _)) (pe_lst (pa_cons (pe_callTy (call_int_str) (by rfl) (C.nb _ (by decide)) bt_int (pa_cons (pv 0) pa_nil)) pa_nil)) (pe_lst pa_nil)))))))), ?_⟩
    obtain ⟨l, rfl, hz, q⟩ := h
    have hl : (SX.S l).length = l.length := SX.S_len l
    have hcp : (SX.S l).cps.toList = l := by simp
    have lst : ∀ (xs : List V) (d : Option PyData), plainOf l = d → (∀ T, SqL K H T xs → True) → xs = (match d with | none => [] | some d => [leafV d]) → ∀ H1, Same H H1 → ∀ R, H1 R = none → Q (.ref R) (upd H1 R (.lst xs)) := fun xs d e1 _ e2 H1 s1 R hR =>
      q _ R (s1.free hR) (s1.updN (s1.free hR)) (by rw [upd_same, e1, e2])
    refine ⟨_, rfl, rfl, _, rfl, ?_⟩
    by_cases h0 : l = [45]
    · have e0 : plainOf l = some .none := by unfold plainOf; rw [if_pos h0]
      rw [decide_eq_true (by rw [h0]; rfl)]
      exact iteT ⟨by show 1 ≤ sizeLine; decide, fun R hR => lst _ _ e0 (fun _ _ => trivial) rfl H (Same.refl _) R hR⟩
    have h0' : ¬ V.str (SX.S l) = V.str "-" := fun z => h0 (by
      have z2 : SX.S l = "-" := V.str.inj z
      have := congrArg (fun x : Str => x.cps.toList) z2
      rw [← hcp]
      exact this.trans (by decide +kernel))
    rw [decide_eq_false h0']
    refine iteF ?_
    refine ⟨_, rfl, _, _, rfl, .str _, fun x e => by cases e; rw [hl]; omega, fun H1 s1 => ⟨_, rfl, ?_⟩⟩
    have hw : isWord (.str (SX.S l)) = isWordL l := by simp [isWord]
    rw [hw]
    cases hwl : isWordL l with
    | true =>
      have e0 : plainOf l = some (.str (SX.S l)) := by unfold plainOf; rw [if_neg h0, if_pos hwl]
      exact iteT ⟨_, rfl, by show 1 ≤ sizeLine; decide, fun R hR => lst _ _ e0 (fun _ _ => trivial) rfl H1 s1 R hR⟩
    | false =>
    refine iteF ?_
    have sl1 : Txt.slice (SX.S l) none (some 1) = SX.S (l.take 1) := SX.slice_to (by decide)
    have sl2 : Txt.slice (SX.S l) (some 1) none = SX.S (l.drop 1) := SX.slice_from (by decide)
    -- bare
    have bare : ∀ (Z : V → Hp → Prop), Z (.str (SX.S (bareOf l))) H1 → tIf (tTest (tOp rEq (tSl C8.rSlX (tVar 0) tNoPart (tPart (tC (.int 1)))) (tC (.str "-")))) (tSl C8.rSlX (tVar 0) (tPart (tC (.int 1))) tNoPart) (tVar 0) [some (.str (SX.S l)), none, none] H1 Z := fun Z hZ => by
      refine ⟨_, rfl, ⟨_, rfl, SX.S l, rfl, by rw [hl, sizeLine_eq]; omega, ?_⟩⟩
      rw [sl1]
      refine ⟨rfl, _, rfl, ?_⟩
      by_cases hm : l.take 1 = [45]
      · rw [hm, decide_eq_true (show V.str (SX.S [45]) = V.str "-" by decide +kernel)]
        refine iteT ⟨_, rfl, ⟨_, rfl, SX.S l, rfl, by rw [hl, sizeLine_eq]; omega, ?_⟩⟩
        rw [sl2]
        have e : bareOf l = l.drop 1 := by unfold bareOf; rw [if_pos hm]
        rw [← e]
        exact hZ
      · rw [decide_eq_false (fun z => hm (by
          have z2 : SX.S (l.take 1) = "-" := V.str.inj z
          have := congrArg (fun x : Str => x.cps.toList) z2
          have y : (SX.S (l.take 1)).cps.toList = l.take 1 := by simp
          rw [← y]
          exact this.trans (by decide +kernel)))]
        refine iteF ⟨_, rfl, ?_⟩
        have e : bareOf l = l := by unfold bareOf; rw [if_neg hm]
        rw [e] at hZ
        exact hZ
    refine bare _ ?_
    have hbl : (bareOf l).length ≤ l.length := by unfold bareOf; split <;> simp
    have hb : (SX.S (bareOf l)).length = (bareOf l).length := SX.S_len _
    have none_of : ¬ ((1 ≤ (bareOf l).length ∧ (bareOf l).length ≤ 12) ∧ (bareOf l).all isFig = true) → plainOf l = none := fun h => by unfold plainOf; rw [if_neg h0, if_neg (by rw [hwl]; decide), if_neg h]
    have bad : plainOf l = none → ∀ H2, Same H1 H2 → ∀ (σ : L2.St), tRet (tLst tNil) { nx := fun _ H' => Q .non H', rt := Q } σ H2 := fun e H2 s2 σ =>
      ⟨by show 0 ≤ sizeLine; decide, fun R hR => lst _ _ e (fun _ _ => trivial) rfl H2 (s1.trans s2) R hR⟩
    -- 1 <= len(bare) <= 12
    refine ⟨_, rfl, _, rfl, by rw [hb, sizeLine_eq]; omega, ⟨_, _, rfl, rfl, _, rfl, ?_⟩⟩
    rw [hb]
    by_cases h1 : 1 ≤ (bareOf l).length
    case neg =>
      rw [decide_eq_false (by omega : ¬ (1 : Int) ≤ ((bareOf l).length : Int))]
      exact iteF ⟨_, rfl, iteT (iteT (bad (none_of fun h => h1 h.1.1) H1 (Same.refl _) _))⟩
    rw [decide_eq_true (by omega : (1 : Int) ≤ ((bareOf l).length : Int))]
    refine iteT ⟨_, _, rfl, rfl, _, rfl, ?_⟩
    by_cases h2 : (bareOf l).length ≤ 12
    case neg =>
      rw [decide_eq_false (by omega : ¬ ((bareOf l).length : Int) ≤ 12)]
      exact iteT (iteT (bad (none_of fun h => h2 h.1.2) H1 (Same.refl _) _))
    rw [decide_eq_true (by omega : ((bareOf l).length : Int) ≤ 12)]
    refine iteF ⟨_, rfl, SX.S (bareOf l), rfl, fun D hD => ?_⟩
    refine lc_map (walk_str (z := SX.S (bareOf l))) (fun i => .bl (isFig ((SX.S (bareOf l)).cps.getD i 0))) hD (by show (SX.S (bareOf l)).length ≤ _; rw [hb, sizeLine_eq]; omega) (fun _ _ => trivial) (fun i y H2 H3 Kt hi hs hy hk => ?_) fun H2 s2 hl2 => ?_
    · obtain ⟨rfl, c, hc, rfl⟩ := hy
      refine ⟨rfl, _, rfl, c, _, rfl, rfl, ?_⟩
      rw [fig_iff2, show c = (SX.S (bareOf l)).cps.getD i 0 by rw [Array.getD_eq_getD_getElem?, hc]; rfl]
      exact hk _ (Same.refl _)
    refine ⟨D, (List.range (SX.S (bareOf l)).cps.size).map (fun i => isFig ((SX.S (bareOf l)).cps.getD i 0)), rfl, .inl (.inl (by rw [hl2, List.map_map]; rfl)), _, rfl, ?_⟩
    rw [all_rangeF]
    have e3 : (SX.S (bareOf l)).cps.toList = bareOf l := by simp
    rw [e3]
    cases h3 : (bareOf l).all isFig with
    | false => exact iteT (bad (none_of fun h => by rw [h3] at h; exact Bool.noConfusion h.2) H2 s2 _)
    | true =>
    refine iteF ?_
    have hl13 : l.length ≤ 13 := by
      unfold bareOf at h2
      split at h2
      · rw [List.length_drop] at h2; omega
      · omega
    have hi := intText_val h3 h1 (by omega)
    have hbd : (Sb.valOf l).natAbs < 10 ^ 12 := by
      have hd : NumText.AllDigits (bareOf l) := fun c hc => isFig_iff.mp (List.all_eq_true.mp h3 c hc)
      have hb1 := dv_lt _ (bareOf l) rfl hd
      have hb2 : (10 : Nat) ^ (bareOf l).length ≤ 10 ^ 12 := Nat.pow_le_pow_right (by decide) h2
      have : (Sb.valOf l).natAbs = NumText.digitsVal (bareOf l) := by unfold Sb.valOf; split <;> omega
      omega
    have hlog : (Sb.valOf l).natAbs.log2 < 1920 := by
      have := (Nat.log2_lt (n := (Sb.valOf l).natAbs) (k := 1920))
      by_cases hz0 : (Sb.valOf l).natAbs = 0
      · rw [hz0]; decide
      · rw [Nat.log2_lt hz0]
        exact Nat.lt_of_lt_of_le hbd (by decide)
    have sv := s1.trans s2
    have pl : plainOf l = if intL (Sb.valOf l) = l then some (.int (Sb.valOf l)) else none := by unfold plainOf; rw [if_neg h0, if_neg (by rw [hwl]; decide), if_pos ⟨⟨h1, h2⟩, h3⟩]
    refine ⟨_, rfl, _, _, rfl, hi, by rw [hl]; omega, _, rfl, hlog, _, rfl, rfl, _, rfl, ?_⟩
    rw [strI]
    by_cases hv : intL (Sb.valOf l) = l
    · rw [hv, decide_eq_true rfl]
      rw [if_pos hv] at pl
      exact iteT ⟨_, rfl, _, _, rfl, hi, by rw [hl]; omega, by show 1 ≤ sizeLine; decide, fun R hR => lst _ _ pl (fun _ _ => trivial) rfl H2 sv R hR⟩
    · rw [if_neg hv] at pl
      rw [decide_eq_false (fun z => hv (by
        have z2 : SX.S (intL (Sb.valOf l)) = SX.S l := V.str.inj z
        exact SX.S_inj z2))]
      exact iteF ⟨by show 0 ≤ sizeLine; decide, fun R hR => lst _ _ pl (fun _ _ => trivial) rfl H2 sv R hR⟩
end
end Kw

set_option Elab.async false
set_option linter.all false
set_option maxRecDepth 100000
set_option maxHeartbeats 4000000
namespace Kw
open PySem PySem.Spec PyProof.Rows L2 Sb
theorem scO : FnScope ["pieces", "open_ones", "done", "piece", "one"] ["pieces"] (defScope (top 29)) := ⟨rfl, rfl, rfl, by decide +kernel, rfl, by decide +kernel, by decide +kernel⟩
/-! data without lists stays while tuples stay -/
mutual
def nol : PyData → Bool
  | .tuple xs => nolAll xs
  | .list _ => false
  | .dict _ => false
  | _ => true
def nolAll : List PyData → Bool
  | [] => true
  | d :: r => nol d && nolAll r
end
theorem nolAll_app : ∀ (a b : List PyData), nolAll (a ++ b) = (nolAll a && nolAll b)
  | [], b => by simp [nolAll]
  | d :: r, b => by simp [nolAll, nolAll_app r b, Bool.and_assoc]
def TupK (K : PySem.W.Frag) (H H' : Hp) : Prop := ∀ a xs, SqT K H a xs → SqT K H' a xs
theorem TupK.trans {K : PySem.W.Frag} {H H1 H2 : Hp} (a : TupK K H H1) (b : TupK K H1 H2) : TupK K H H2 := fun c xs h => b c xs (a c xs h)
theorem tupK_same {K : PySem.W.Frag} {H H' : Hp} (s : Same H H') : TupK K H H' := fun _ _ h => s.tup h
theorem tupK_lst {K : PySem.W.Frag} {H : Hp} {R : Addr} {xs ys : List V} (h : H R = some (.lst xs)) : TupK K H (upd H R (.lst ys)) := fun a zs s => by
  have ne : ∀ u, H a = some u → u ≠ .lst xs → a ≠ R := fun u e n z => by
    rw [z, h] at e
    exact n (Option.some.inj e).symm
  rcases s with (s | ⟨o, s⟩) | s
  · exact .inl (.inl (by rw [upd_ne (ne _ s (by intro z; cases z))]; exact s))
  · exact .inl (.inr ⟨o, by rw [upd_ne (ne _ s (by intro z; cases z))]; exact s⟩)
  · exact .inr s
theorem tupK_new {K : PySem.W.Frag} {H : Hp} {R : Addr} {o : HO} (h : H R = none) : TupK K H (upd H R o) := tupK_same (L2.Same.upd h)
mutual
theorem dp_tup {K : PySem.W.Frag} {H H' : Hp} (h : TupK K H H') : ∀ {v : V} {d : PyData}, nol d = true → Dp K H v d → Dp K H' v d
  | _, _, _, .non => .non
  | _, _, _, .bl b => .bl b
  | _, _, _, .int i => .int i
  | _, _, _, .str x => .str x
  | _, _, n, .lst s a => by simp [nol] at n
  | _, _, n, .tup s a => .tup (h _ _ s) (dpAll_tup h (by simpa [nol] using n) a)
theorem dpAll_tup {K : PySem.W.Frag} {H H' : Hp} (h : TupK K H H') : ∀ {vs : List V} {ds : List PyData}, nolAll ds = true → DpAll K H vs ds → DpAll K H' vs ds
  | _, _, _, .nil => .nil
  | _, _, n, .cons a b => .cons (dp_tup h (by simp [nolAll] at n; exact n.1) a) (dpAll_tup h (by simp [nolAll] at n; exact n.2) b)
end
/-- the open lists, the innermost first -/
inductive Stk (K : PySem.W.Frag) (H : Hp) : List Addr → List (List PyData) → Prop
  | nil : Stk K H [] []
  | cons {a : Addr} {as : List Addr} {vs : List V} {ds : List PyData} {dss : List (List PyData)} : H a = some (.lst vs) → DpAll K H vs ds → nolAll ds = true → a ∉ as → Stk K H as dss → Stk K H (a :: as) (ds :: dss)
theorem Stk.keep {K : PySem.W.Frag} {H H' : Hp} (t : TupK K H H') : ∀ {as : List Addr} {dss : List (List PyData)}, Stk K H as dss → (∀ a ∈ as, H' a = H a) → Stk K H' as dss
  | _, _, .nil, _ => .nil
  | _, _, .cons h1 h2 h3 h4 h5, k => .cons ((k _ List.mem_cons_self).trans h1) (dpAll_tup t h3 h2) h3 h4 (h5.keep t fun a ha => k a (List.mem_cons_of_mem _ ha))
theorem Stk.len {K : PySem.W.Frag} {H : Hp} : ∀ {as : List Addr} {dss : List (List PyData)}, Stk K H as dss → as.length = dss.length
  | _, _, .nil => rfl
  | _, _, .cons _ _ _ _ h => by simp [h.len]
theorem Stk.lst {K : PySem.W.Frag} {H : Hp} : ∀ {as : List Addr} {dss : List (List PyData)}, Stk K H as dss → ∀ a ∈ as, ∃ vs, H a = some (.lst vs)
  | _, _, .nil, a, h => by simp at h
  | _, _, .cons h1 _ _ _ h5, a, h => by
    rcases List.mem_cons.mp h with z | z
    · subst z; exact ⟨_, h1⟩
    · exact h5.lst a z
theorem seq_by {A B : TS} {D : Ends} {σ : L2.St} {H : Hp} (Cd : L2.St → Hp → Prop) (h2 : ∀ σ' H', Cd σ' H' → B D σ' H') (h1 : (∀ σ' H', Cd σ' H' → B D σ' H') → A { D with nx := B D } σ H) : tSeq A B D σ H := h1 h2
theorem runV_app : ∀ (a : List (List Nat)) (st : PSt) (b : List (List Nat)), runV st (a ++ b) = (runV st a).bind fun st' => runV st' b
  | [], st, b => rfl
  | p :: a, st, b => by
    show (match step1 st p with | none => none | some st' => runV st' (a ++ b)) = _
    cases h : step1 st p with
    | none => simp [runV, h]
    | some st' => simp [runV, h, runV_app a st' b]
theorem runV_one (st : PSt) (p : List Nat) : runV st [p] = step1 st p := by
  cases h : step1 st p <;> simp [runV, h]
theorem runV_take {ps : List (List Nat)} {i : Nat} {p : List Nat} {st st0 : PSt} (h : ps[i]? = some p) (r : runV st0 (ps.take i) = some st) : runV st0 (ps.take (i + 1)) = step1 st p := by
  rw [take_more h, runV_app, r]
  exact runV_one st p
theorem runV_none {ps : List (List Nat)} {i : Nat} {st0 : PSt} (r : runV st0 (ps.take i) = none) : runV st0 ps = none := by
  have e := runV_app (ps.take i) st0 (ps.drop i)
  rw [List.take_append_drop, r] at e
  exact e
theorem strEq1 (l : List Nat) (c : Nat) (x : Str) (hx : x.cps.toList = [c]) : decide (V.str (SX.S l) = V.str x) = decide (l = [c]) := by
  have e : (SX.S l).cps.toList = l := by simp
  by_cases h : l = [c]
  · rw [decide_eq_true h, decide_eq_true]
    rw [h, ← hx]
  · rw [decide_eq_false h, decide_eq_false]
    intro z
    have := congrArg (fun x : Str => x.cps.toList) (V.str.inj z)
    exact h (by rw [← e, ← hx]; exact this)
theorem codes_o : ("(" : Str).cps.toList = [40] := by decide +kernel
theorem codes_c : (")" : Str).cps.toList = [41] := by decide +kernel
theorem codes_s : (" " : Str).cps.toList = [32] := by decide +kernel
theorem Stk.mono {K : PySem.W.Frag} {H H' : Hp} (s : Same H H') {as : List Addr} {dss : List (List PyData)} (h : Stk K H as dss) : Stk K H' as dss := h.keep (tupK_same s) fun a ha => by
  obtain ⟨vs, e⟩ := h.lst a ha
  rw [e]
  exact s _ _ e
structure VS (K : PySem.W.Frag) (H : Hp) (O Dn : Addr) (as : List Addr) (dss : List (List PyData)) (dn : Option PyData) (i : Nat) (H' : Hp) : Prop where
  o : H' O = some (.lst (as.reverse.map V.ref))
  st : Stk K H' as dss
  oa : O ∉ as
  o0 : H O = none
  a0 : ∀ a ∈ as, H a = none
  dO : Dn ≠ O
  da : Dn ∉ as
  d0 : H Dn = none
  dn0 : dn = none → H' Dn = some (.lst [])
  dnS : ∀ d, dn = some d → nol d = true ∧ ∃ v, H' Dn = some (.lst [v]) ∧ Dp K H' v d
  s : Same H H'
  z1 : as.length ≤ i
  z2 : ∀ ds ∈ dss, ds.length ≤ i
theorem VS.mono {K : PySem.W.Frag} {H : Hp} {O Dn : Addr} {as : List Addr} {dss : List (List PyData)} {dn : Option PyData} {i : Nat} {H' H2 : Hp} (h : VS K H O Dn as dss dn i H') (s : Same H' H2) : VS K H O Dn as dss dn i H2 :=
  ⟨s _ _ h.o, h.st.mono s, h.oa, h.o0, h.a0, h.dO, h.da, h.d0, fun e => s _ _ (h.dn0 e), fun d e => by obtain ⟨a, v, b, c⟩ := h.dnS d e; exact ⟨a, v, s _ _ b, dp_same s c⟩, h.s.trans s, h.z1, h.z2⟩
theorem eqNil_r {K : PySem.W.Frag} {H : Hp} {a T : Addr} {xs : List V} {neg : Bool} {Q : VK} (h : H a = some (.lst xs)) (hT : H T = none) (q : ∀ H2, Same H H2 → Q (.bl (neg ^^ xs.isEmpty)) H2) : Sm.rEqNil K neg (.ref a) (.ref T) (upd H T (.lst [])) Q :=
  ⟨a, T, xs, rfl, rfl, .inl (.inl ((upd_ne (ne_of_none h hT)).trans h)), .inl (.inl upd_same), q _ (L2.Same.upd hT)⟩
theorem last_at (xs : List V) (v : V) : (xs ++ [v])[(xs ++ [v]).length - 1]? = some v := by simp
def spValueOf (K : PySem.W.Frag) : Sp := fun vs H Q _ => ∃ (p : Addr) (ps : List (List Nat)), vs = [.ref p] ∧ SqL K H p (ps.map fun p => V.str (SX.S p)) ∧ ps.length ≤ 4194304 ∧ (∀ p ∈ ps, p.length ≤ 4194304) ∧
  (valueOf ps = none → ∀ H' R, H R = none → Same H H' → H' R = some (.lst []) → Q (.ref R) H') ∧ (∀ d, valueOf ps = some d → ∀ H' R v, H R = none → Same H H' → H' R = some (.lst [v]) → Dp K H' v d → Q (.ref R) H')
section
variable {P : Program} {w : World} {K : PySem.W.Frag} {mg : Str → Option Value} {base : Heap}
theorem ok_value_of {f : Addr} {fd : FuncData} (D : Df K mg "value_of" 29 f fd) (C : Con mg) (c_plain_of : Cl P w K mg base CX0 2 "plain_of" ["piece"] spPlain) : Cl P w K mg base CX0 3 "value_of" ["pieces"] (spValueOf K) := by
  refine cl0 D (fun _ _ _ _ _ _ us hl => match us, hl with | [_], _ => rfl) scO (fun vs H Q E h => ?_) fun cdv A outer s H vs Q E hr h => ?_
  · obtain ⟨x, ps, rfl, _⟩ := h; rfl
  · have hu0 : (A.deeper (envOfC "value_of" (defScope (top 29)) s.heap.objs.size f cdv)).units < cLine := Nat.lt_of_le_of_lt (Nat.le_add_right _ _) hr.units
    refine ⟨_, (pss_cons (ps_par (i := 1) (j := 2) rfl scO.nd rfl rfl (by decide) rfl rfl (pa_cons (pe_lst pa_nil) (pa_cons (pe_lst pa_nil) pa_nil)) (by rfl))
 (pss_cons (ps_for PassesOwn.never rfl (pi_list (pv 0)) (pg_name (i := 3) scO.nd rfl (Or.inl rfl))
 (pss_cons (ps_if (pt_cmpR op_eq (pv 3) pe_str (nomark _))
 (pss_cons (ps_expr (pe_bm PySem.F.plainAttrs_list PySem.F.slot_list_append PySem.F.type_list_append mt_append (pv 1) (pa_cons (pe_lst pa_nil) pa_nil)))
 (pss_one ps_continue))
 pss_nil)
 (pss_cons (ps_if (pt_cmpR op_eq (pv 3) pe_str (nomark _))
 (pss_one ps_continue)
 pss_nil)
 (pss_cons (ps_if (pt_cmpR op_eq (pv 3) pe_str (nomark _))
 (pss_cons (ps_if (pt_cmpR (Sm.op_eqNil hu0) (pv 1) (pe_lst pa_nil) (nomark _))
 (pss_one (ps_ret (pe_lst pa_nil)))
 pss_nil)
 (pss_one (ps_set (i := 4) scO.nd rfl (Or.inl rfl) (pe_lst (pa_cons (pe_callTy (call_tuple_of) (by rfl) (C.nb _ (by decide)) bt_tuple (pa_cons (pe_bm0 PySem.F.plainAttrs_list PySem.F.slot_list_pop PySem.F.type_list_pop mt_pop (pv 1)) pa_nil)) pa_nil)))))
 (pss_one (ps_set (i := 4) scO.nd rfl (Or.inl rfl) (pe_q c_plain_of hr (by decide) (by rfl) (pa_cons (pv 3) pa_nil)))))
 (pss_cons (ps_if (PW.pt (pw_or (pt_cmpR (Sm.op_eqNil hu0) (pv 4) (pe_lst pa_nil) (nomark _))
 (pw_or1 (PW.pt (pw_and (pt_cmpR (Sm.op_eqNil hu0) (pv 1) (pe_lst pa_nil) (nomark _))
 (pw_and1 (pt_cmpR (Sm.op_neNil hu0) (pv 2) (pe_lst pa_nil) (nomark _))))))))
 (pss_one (ps_ret (pe_lst pa_nil)))
 pss_nil)
 (pss_one (ps_if (pt_cmpR (Sm.op_eqNil hu0) (pv 1) (pe_lst pa_nil) (nomark _))
 (pss_one (ps_set (i := 2) scO.nd rfl (Or.inl rfl) (pv 4)))
 (pss_one (ps_expr (pe_bm PySem.F.plainAttrs_list PySem.F.slot_list_append PySem.F.type_list_append mt_append (pe_ix ix_list (pv 1) (pe_un un_neg pe_int) (fun _ _ => rfl)) (pa_cons (pe_ix ix_list (pv 4) pe_int (fun _ _ => rfl)) pa_nil)))))))))))
 (pss_one (ps_ret (pe_ifExp (pt_cmpR (Sm.op_eqNil hu0) (pv 1) (pe_lst pa_nil) (nomark _)) (pv 2) (pe_lst pa_nil)))))), ?_⟩
    obtain ⟨p, ps, rfl, hS, hlen, hall, q0, q1⟩ := h
    refine ⟨by show 0 ≤ sizeLine; decide, fun O hO => ⟨by show 0 ≤ sizeLine; decide, fun Dn hDn => ⟨_, _, rfl, ?_⟩⟩⟩
    have hDO : Dn ≠ O := fun z => by rw [z, upd_same] at hDn; cases hDn
    have hDn0 : H Dn = none := by rw [upd_ne hDO] at hDn; exact hDn
    have S0 : Same H (upd (upd H O (.lst [])) Dn (.lst [])) := (L2.Same.upd hO).updN hDn0
    refine ⟨_, rfl, p, rfl, ⟨_, S0.seq hS⟩, ?_⟩
    refine for_it walk_list (fun i σ H' => ∃ (O Dn : Addr) (as : List Addr) (st : PSt) (pv ov : Option V), σ = [some (.ref p), some (.ref O), some (.ref Dn), pv, ov] ∧ runV ([], none) (ps.take i) = some st ∧
        H' O = some (.lst (as.reverse.map V.ref)) ∧ Stk K H' as st.1 ∧ O ∉ as ∧ H O = none ∧ (∀ a ∈ as, H a = none) ∧ Dn ≠ O ∧ Dn ∉ as ∧ H Dn = none ∧ (st.2 = none → H' Dn = some (.lst [])) ∧ (∀ d, st.2 = some d → nol d = true ∧ ∃ v, H' Dn = some (.lst [v]) ∧ Dp K H' v d) ∧ Same H H' ∧ as.length ≤ i ∧ ∀ ds ∈ st.1, ds.length ≤ i)
      ⟨O, Dn, [], ([], none), none, none, rfl, rfl, by rw [upd_ne (Ne.symm hDO), upd_same]; rfl, .nil, by simp, hO, by simp, hDO, by simp, hDn0, fun _ => upd_same, (fun d e => nomatch e), S0, Nat.le_refl _, fun ds h => nomatch h⟩
      (fun i σ H' _ ⟨_, _, _, _, _, _, _, _, _, _, _, _, _, _, _, _, _, _, s1, _⟩ => s1.seq hS) ?_ ?_
    · rintro i x σ Hq H1 hi ⟨O, Dn, as, st, pv, ov, rfl, hrun, hO1, hst, hOa, hO0, ha0, hDO, hDa, hD0, hdn, hds, s1, hz1, hz2⟩ ⟨rfl, hx⟩
      rw [List.getElem?_map] at hx
      obtain ⟨pc, hpc, rfl⟩ : ∃ pc, ps[i]? = some pc ∧ x = V.str (SX.S pc) := by
        cases e : ps[i]? with
        | none => rw [e] at hx; cases hx
        | some pc => rw [e] at hx; exact ⟨pc, rfl, (Option.some.inj hx).symm⟩
      have hstep := runV_take hpc hrun
      have hil : i < 4194304 := by rw [List.length_map] at hi; omega
      have hlp : as.length = st.1.length := hst.len
      have as0 : ∀ a ∈ as, a ≠ O := fun a ha z => hOa (z ▸ ha)
      have rt0 : runV ([], none) (ps.take (i + 1)) = none → ∀ (σ : L2.St) H2, Same H H2 → tRet (tLst tNil) { nx := fun _ _ => True, rt := Q } σ H2 := fun h σ H2 s2 =>
        ⟨by show 0 ≤ sizeLine; decide, fun R hR => q0 (by unfold valueOf; rw [runV_none h]) _ R (s2.free hR) (s2.updN (s2.free hR)) upd_same⟩
      -- '('
      refine ⟨_, rfl, rfl, _, rfl, ?_⟩
      rw [strEq1 pc 40 _ codes_o]
      by_cases e40 : pc = [40]
      · have hs1 : step1 st pc = some ([] :: st.1, st.2) := by unfold step1; rw [if_pos e40]
        rw [decide_eq_true e40]
        refine iteT ⟨_, rfl, .inl ⟨rfl, _, .inl (.inl hO1)⟩, by show 0 ≤ sizeLine; decide, fun T hT => ⟨O, _, _, rfl, rfl, (upd_ne (ne_of_none hO1 hT)).trans hO1, by rw [List.length_map, List.length_reverse, sizeLine_eq]; omega, ?_⟩⟩
        have hTO : T ≠ O := fun z => by rw [z, hO1] at hT; cases hT
        have hTa : T ∉ as := fun h => by obtain ⟨vs, e⟩ := hst.lst T h; rw [hT] at e; cases e
        have hT0 := s1.free hT
        have t1 : TupK K H1 (upd (upd H1 T (.lst [])) O (.lst (List.map V.ref as.reverse ++ [V.ref T]))) := (tupK_new hT).trans (tupK_lst (xs := List.map V.ref as.reverse) ((upd_ne (ne_of_none hO1 hT)).trans hO1))
        have keep : ∀ b o, b ≠ O → H1 b = some o → (upd (upd H1 T (.lst [])) O (.lst (List.map V.ref as.reverse ++ [V.ref T]))) b = some o := fun b o hb e => by rw [upd_ne hb, upd_ne (ne_of_none e hT)]; exact e
        refine ⟨O, Dn, T :: as, ([] :: st.1, st.2), _, _, rfl, hstep.trans hs1, by rw [upd_same]; simp, .cons (by rw [upd_ne hTO, upd_same]) .nil rfl hTa (hst.keep t1 fun a ha => ?_), by simp [hOa, Ne.symm hTO], hO0, fun a ha => ?_, hDO, ?_, hD0, fun e => keep _ _ hDO (hdn e), fun d e => ?_, ((s1.updN hT0).updN hO0), by simp; omega, fun ds hm => ?_⟩
        · obtain ⟨vs, e⟩ := hst.lst a ha
          rw [e]
          exact keep _ _ (as0 a ha) e
        · rcases List.mem_cons.mp ha with z | z
          · rw [z]; exact hT0
          · exact ha0 a z
        · intro z
          rcases List.mem_cons.mp z with z | z
          · obtain ⟨dss, dn⟩ := st
            cases dn with
            | none => have := hdn rfl; rw [z, hT] at this; cases this
            | some d => obtain ⟨_, v, hv, _⟩ := hds d rfl; rw [z, hT] at hv; cases hv
          · exact hDa z
        · obtain ⟨hn, v, hv, hp⟩ := hds d e
          exact ⟨hn, v, keep _ _ hDO hv, dp_tup t1 hn hp⟩
        · rcases List.mem_cons.mp hm with z | z
          · rw [z]; exact Nat.zero_le _
          · have := hz2 ds z; omega
      rw [decide_eq_false e40]
      refine iteF ?_
      -- ' '
      refine ⟨_, rfl, rfl, _, rfl, ?_⟩
      rw [strEq1 pc 32 _ codes_s]
      by_cases e32 : pc = [32]
      · have hs1 : step1 st pc = some st := by unfold step1; rw [if_neg e40, if_pos e32]
        rw [decide_eq_true e32]
        refine iteT ⟨O, Dn, as, st, _, _, rfl, hstep.trans hs1, hO1, hst, hOa, hO0, ha0, hDO, hDa, hD0, hdn, hds, s1, by omega, fun ds hm => by have := hz2 ds hm; omega⟩
      rw [decide_eq_false e32]
      refine iteF ?_
      have V1 : VS K H O Dn as st.1 st.2 i H1 := ⟨hO1, hst, hOa, hO0, ha0, hDO, hDa, hD0, hdn, hds, s1, hz1, hz2⟩
      dsimp only [tNext]
      refine seq_by (fun σ' H' => (∃ (as : List Addr) (dss : List (List PyData)) (dn : Option PyData) (R : Addr) (v : V) (d : PyData), σ' = [some (.ref p), some (.ref O), some (.ref Dn), some (.str (SX.S pc)), some (.ref R)] ∧ step1 st pc = put dss dn d ∧ VS K H O Dn as dss dn i H' ∧ H' R = some (.lst [v]) ∧ Dp K H' v d ∧ nol d = true ∧ R ∉ as ∧ R ≠ O ∧ H R = none) ∨
        (∃ R, σ' = [some (.ref p), some (.ref O), some (.ref Dn), some (.str (SX.S pc)), some (.ref R)] ∧ step1 st pc = none ∧ H' R = some (.lst []) ∧ Same H H')) ?_ ?_
      · rintro σ' H2 (⟨as, dss, dn, R, v, d, rfl, hst1, VV, hR, hdp, hn, hRa, hRO, hR0⟩ | ⟨R, rfl, hst1, hR, s2⟩)
        · refine ⟨_, rfl, by show 0 ≤ sizeLine; decide, fun T4 hT4 => eqNil_r hR hT4 fun H3 s3 => ⟨_, rfl, ?_⟩⟩
          refine iteF ?_
          refine ⟨_, rfl, by show 0 ≤ sizeLine; decide, fun T1 hT1 => eqNil_r (s3 _ _ VV.o) hT1 fun H4 s4 => ⟨_, rfl, ?_⟩⟩
          have V4 := VV.mono (s3.trans s4)
          have hR4 := (s3.trans s4) _ _ hR
          have dp4 := dp_same (s3.trans s4) hdp
          have hst4 := V4.st
          -- no open list
          have one0 : ∀ H5, VS K H O Dn [] [] dn i H5 → H5 R = some (.lst [v]) → Dp K H5 v d → dn = none → ∃ (O_1 Dn_1 : Addr) (as : List Addr) (st : PSt) (pv ov : Option V), ([some (.ref p), some (.ref O), some (.ref R), some (.str (SX.S pc)), some (.ref R)] : L2.St) = [some (.ref p), some (.ref O_1), some (.ref Dn_1), pv, ov] ∧ put [] dn d = some st ∧
              H5 O_1 = some (.lst (as.reverse.map V.ref)) ∧ Stk K H5 as st.1 ∧ O_1 ∉ as ∧ H O_1 = none ∧ (∀ a ∈ as, H a = none) ∧ Dn_1 ≠ O_1 ∧ Dn_1 ∉ as ∧ H Dn_1 = none ∧ (st.2 = none → H5 Dn_1 = some (.lst [])) ∧ (∀ d, st.2 = some d → nol d = true ∧ ∃ v, H5 Dn_1 = some (.lst [v]) ∧ Dp K H5 v d) ∧ Same H H5 ∧ as.length ≤ i + 1 ∧ ∀ ds ∈ st.1, ds.length ≤ i + 1 := fun H5 V5 hR5 dp5 e => by
            subst e
            refine ⟨O, R, [], ([], some d), _, _, rfl, rfl, V5.o, .nil, by simp, V5.o0, by simp, hRO, by simp, hR0, fun e => (nomatch e), fun d' e => ?_, V5.s, by simp, fun ds hm => nomatch hm⟩
            cases e
            exact ⟨hn, v, hR5, dp5⟩
          cases hst4 with
          | nil =>
            refine iteT ?_
            cases hdn : dn with
            | some d' =>
              obtain ⟨_, v', hv', _⟩ := V4.dnS d' hdn
              refine ⟨_, rfl, by show 0 ≤ sizeLine; decide, fun T2 hT2 => eqNil_r hv' hT2 fun H5 s5 => ⟨_, rfl, ?_⟩⟩
              refine iteT (rt0 (hstep.trans (by rw [hst1, hdn]; rfl)) _ _ (V4.s.trans s5))
            | none =>
              refine ⟨_, rfl, by show 0 ≤ sizeLine; decide, fun T2 hT2 => eqNil_r (V4.dn0 hdn) hT2 fun H5 s5 => ⟨_, rfl, ?_⟩⟩
              refine iteF ?_
              refine ⟨_, rfl, by show 0 ≤ sizeLine; decide, fun T1 hT1 => eqNil_r (s5 _ _ V4.o) hT1 fun H6 s6 => ⟨_, rfl, ?_⟩⟩
              refine iteT ⟨_, rfl, ?_⟩
              obtain ⟨a1, a2, a3, a4, a5, a6, a7, a8, r⟩ := one0 H6 (V4.mono (s5.trans s6)) ((s5.trans s6) _ _ hR4) (dp_same (s5.trans s6) dp4) hdn
              exact ⟨a1, a2, a3, a4, a5, a6, a7, (hstep.trans hst1).trans a8, r⟩
          | @cons a as' vs ds dss' h1 h2 h3 h4 h5 =>
            have ne : (false ^^ (List.map V.ref (a :: as').reverse).isEmpty) = false := by simp
            rw [ne]
            refine iteF (iteF ?_)
            refine ⟨_, rfl, by show 0 ≤ sizeLine; decide, fun T1 hT1 => eqNil_r V4.o hT1 fun H5 s5 => ⟨_, rfl, ?_⟩⟩
            rw [ne]
            refine iteF ?_
            have V5 := V4.mono s5
            have hR5 := s5 _ _ hR4
            have ha5 : H5 a = some (.lst vs) := s5 _ _ h1
            have hds : ds.length ≤ i := V5.z2 ds List.mem_cons_self
            have hvs := h2.len
            refine ⟨_, rfl, _, rfl, ⟨O, _, -1, .ref a, rfl, rfl, .inl (.inl V5.o), by rw [List.reverse_cons, List.map_append]; exact atI_last _ _, .inl ⟨rfl, _, .inl (.inl ha5)⟩, ?_⟩⟩
            refine ⟨_, rfl, ⟨R, [v], 0, v, rfl, rfl, .inl (.inl hR5), rfl, a, vs, v, rfl, rfl, ha5, by rw [sizeLine_eq]; omega, ?_⟩⟩
            have t6 : TupK K H5 (upd H5 a (.lst (vs ++ [v]))) := tupK_lst ha5
            have kp : ∀ b, b ≠ a → upd H5 a (.lst (vs ++ [v])) b = H5 b := fun b hb => upd_ne hb
            have hOa' : O ≠ a := fun z => V5.oa (by rw [z]; exact List.mem_cons_self)
            have hDa' : Dn ≠ a := fun z => V5.da (by rw [z]; exact List.mem_cons_self)
            cases V5.st with
            | cons g1 g2 g3 g4 g5 =>
            rw [ha5] at g1
            cases g1
            refine ⟨O, Dn, a :: as', ((ds ++ [d]) :: dss', dn), _, _, rfl, hstep.trans (by rw [hst1]; rfl), by rw [kp _ hOa']; exact V5.o, .cons upd_same (.app (dpAll_tup t6 g3 g2) (.cons (dp_tup t6 hn (dp_same s5 dp4)) .nil)) (by rw [nolAll_app, g3]; simp [nolAll, hn]) g4 (g5.keep t6 fun b hb => kp b fun z => g4 (z ▸ hb)), V5.oa, V5.o0, V5.a0, V5.dO, V5.da, V5.d0,
              fun e => by rw [kp _ hDa']; exact V5.dn0 e, fun d' e => ?_, V5.s.updN (V5.a0 a List.mem_cons_self), by have := V5.z1; omega, fun es hm => ?_⟩
            · obtain ⟨w1, w2, w3, w4⟩ := V5.dnS d' e
              exact ⟨w1, w2, by rw [kp _ hDa']; exact w3, dp_tup t6 w1 w4⟩
            · rcases List.mem_cons.mp hm with z | z
              · rw [z, List.length_append]; simp; omega
              · have := V5.z2 es (List.mem_cons_of_mem _ z); omega
        · refine ⟨_, rfl, by show 0 ≤ sizeLine; decide, fun T4 hT4 => eqNil_r hR hT4 fun H3 s3 => ⟨_, rfl, ?_⟩⟩
          exact iteT (iteT (rt0 (hstep.trans hst1) _ _ (s2.trans s3)))
      · intro tail
        refine ⟨_, rfl, rfl, _, rfl, ?_⟩
        rw [strEq1 pc 41 _ codes_c]
        by_cases e41 : pc = [41]
        · rw [decide_eq_true e41]
          refine iteT ?_
          obtain ⟨dss, dn⟩ := st
          have hs1 : step1 (dss, dn) pc = (match (generalizing := false) dss with | [] => none | top :: rest => put rest dn (.tuple top)) := by unfold step1; rw [if_neg e40, if_neg e32, if_pos e41]; try rfl
          refine ⟨_, rfl, by show 0 ≤ sizeLine; decide, fun T1 hT1 => eqNil_r hO1 hT1 fun H2 s2 => ⟨_, rfl, ?_⟩⟩
          cases hst with
          | nil => exact iteT (rt0 (hstep.trans hs1) _ _ (s1.trans s2))
          | @cons a as' vs ds dss' g1 g2 g3 g4 g5 =>
            have ne : (false ^^ (List.map V.ref (a :: as').reverse).isEmpty) = false := by simp
            rw [ne]
            refine iteF ?_
            have V2 := V1.mono s2
            have eL : (List.map V.ref (a :: as').reverse) = List.map V.ref as'.reverse ++ [V.ref a] := by rw [List.reverse_cons, List.map_append]; rfl
            have hO2 := V2.o
            rw [eL] at hO2
            have haO : a ≠ O := fun z => V2.oa (by rw [← z]; exact List.mem_cons_self)
            refine ⟨_, rfl, .inl ⟨rfl, _, .inl (.inl hO2)⟩, ⟨O, _, .ref a, rfl, rfl, hO2, last_at _ _, ?_⟩⟩
            rw [List.dropLast_concat]
            cases V2.st with
            | cons g1 g2 g3 g4 g5 =>
            rename_i vs
            have t3 : TupK K H2 (upd H2 O (.lst (List.map V.ref as'.reverse))) := tupK_lst hO2
            have ha3 : upd H2 O (.lst (List.map V.ref as'.reverse)) a = some (.lst vs) := (upd_ne haO).trans g1
            refine ⟨a, vs, rfl, .inl ⟨.inl (.inl ha3), fun T hT => ⟨by show 1 ≤ sizeLine; decide, fun R hR => ?_⟩⟩⟩
            have nOn : ∀ b, upd H2 O (.lst (List.map V.ref as'.reverse)) b = none → H2 b = none := fun b e => by
              by_cases z : b = O
              · rw [z, upd_same] at e; cases e
              · rw [upd_ne z] at e; exact e
            have sT : Same (upd H2 O (.lst (List.map V.ref as'.reverse))) (upd (upd (upd H2 O (.lst (List.map V.ref as'.reverse))) T (.tup vs)) R (.lst [.ref T])) := fun b o e => by
              have e1 := L2.Same.upd hT (o := .tup vs) b o e
              exact L2.Same.upd hR (o := .lst [.ref T]) b o e1
            have k : ∀ b o, b ≠ O → H2 b = some o → (upd (upd (upd H2 O (.lst (List.map V.ref as'.reverse))) T (.tup vs)) R (.lst [.ref T])) b = some o := fun b o hb e => sT b o ((upd_ne hb).trans e)
            have tA := t3.trans (tupK_same sT)
            have hT0 : H T = none := V2.s.free (nOn T hT)
            have hRT : R ≠ T := fun z => by rw [z, upd_same] at hR; cases hR
            have hRn : (upd H2 O (.lst (List.map V.ref as'.reverse))) R = none := by rw [upd_ne hRT] at hR; exact hR
            refine tail _ _ (.inl ⟨as', dss', dn, R, .ref T, .tuple ds, rfl, hs1, ⟨sT _ _ upd_same, g5.keep tA fun b hb => ?_, fun z => V2.oa (List.mem_cons_of_mem _ z), V2.o0, fun b hb => V2.a0 b (List.mem_cons_of_mem _ hb), V2.dO, fun z => V2.da (List.mem_cons_of_mem _ z), V2.d0, fun e => k _ _ V2.dO (V2.dn0 e), fun d e => ?_, fun b o e => ?_, by have := V2.z1; simp at this; omega, fun es hm => V2.z2 es (List.mem_cons_of_mem _ hm)⟩, upd_same, .tup (.inl (.inl ((upd_ne (Ne.symm hRT)).trans upd_same))) (dpAll_tup tA g3 g2), by simpa [nol] using g3, fun z => ?_, fun z => ?_, V2.s.free (nOn R hRn)⟩)
            · obtain ⟨us, e⟩ := g5.lst b hb
              rw [e]
              exact k _ _ (fun z => V2.oa (by rw [← z]; exact List.mem_cons_of_mem _ hb)) e
            · obtain ⟨w1, v, w3, w4⟩ := V2.dnS d e
              exact ⟨w1, v, k _ _ V2.dO w3, dp_tup tA w1 w4⟩
            · exact k _ _ (ne_of_none e V2.o0) (V2.s b o e)
            · obtain ⟨us, e⟩ := g5.lst R z
              have := nOn R hRn
              rw [e] at this
              cases this
            · rw [z, upd_same] at hRn
              cases hRn
        · rw [decide_eq_false e41]
          refine iteF ?_
          have hs1 : step1 st pc = (match (generalizing := false) plainOf pc with | none => none | some d => put st.1 st.2 d) := by unfold step1; rw [if_neg e40, if_neg e32, if_neg e41]; try rfl
          refine ⟨_, rfl, pc, rfl, hall pc (List.mem_of_getElem? hpc), fun H2 R hR s2 hRl => ?_⟩
          cases hpl : plainOf pc with
          | none =>
            rw [hpl] at hs1 hRl
            exact tail _ _ (.inr ⟨R, rfl, hs1, hRl, s1.trans s2⟩)
          | some d =>
            rw [hpl] at hs1 hRl
            obtain ⟨hlf, _⟩ := plain_leaf hpl
            refine tail _ _ (.inl ⟨as, st.1, st.2, R, leafV d, d, rfl, hs1, V1.mono s2, hRl, dp_leaf hlf, ?_, fun z => ?_, fun z => ?_, s1.free hR⟩)
            · cases d <;> simp_all [leafOk, nol]
            · obtain ⟨us, e⟩ := hst.lst R z
              rw [hR] at e
              cases e
            · rw [z, hO1] at hR
              cases hR
    · rintro σ H1 ⟨O, Dn, as, st, pv, ov, rfl, hrun, hO1, hst, hOa, hO0, ha0, hDO, hDa, hD0, hdn, hds, s1, hz1, hz2⟩
      rw [List.length_map, List.take_length] at hrun
      refine ⟨_, rfl, by show 0 ≤ sizeLine; decide, fun T hT => ⟨O, T, _, rfl, rfl, .inl (.inl ((upd_ne (ne_of_none hO1 hT)).trans hO1)), .inl (.inl upd_same), _, rfl, ?_⟩⟩
      have s2 : Same H (upd H1 T (.lst [])) := s1.updN (s1.free hT)
      obtain ⟨dss, dn⟩ := st
      cases hst with
      | nil =>
        refine iteT ⟨_, rfl, ?_⟩
        have k0 : (upd H1 T (.lst [])) Dn = H1 Dn := upd_ne fun z => by
          rw [z] at hdn hds
          cases dn with
          | none => have := hdn rfl; rw [hT] at this; cases this
          | some d => obtain ⟨_, v, hv, _⟩ := hds d rfl; rw [hT] at hv; cases hv
        cases dn with
        | none => exact q0 (by unfold valueOf; rw [hrun]) _ Dn hD0 s2 (by rw [k0]; exact hdn rfl)
        | some d =>
          obtain ⟨_, v, hv, hdp⟩ := hds d rfl
          exact q1 d (by unfold valueOf; rw [hrun]) _ Dn v hD0 s2 (by rw [k0]; exact hv) (dp_same (L2.Same.upd hT) hdp)
      | @cons a as' vs ds dss' h1 h2 h3 h4 h5 =>
        have ne : (List.map V.ref (a :: as').reverse).isEmpty = false := by simp
        rw [ne]
        refine iteF ⟨by show 0 ≤ sizeLine; decide, fun R hR => ?_⟩
        have hvo : valueOf ps = none := by unfold valueOf; rw [hrun]
        exact q0 hvo _ R (s2.free hR) (s2.updN (s2.free hR)) upd_same
end
end Kw

set_option Elab.async false
set_option linter.all false
namespace Sb
open PySem
/-! the weights of value_text's stack -/
/-- a thing that waits: a sign, or a value -/
inductive Wt where
  | tok (c : Nat)
  | val (d : PyData)
def Wt.txt : Wt → List Nat
  | .tok c => [c]
  | .val d => vt d
def Wt.w : Wt → Nat
  | .tok _ => 1
  | .val d => 2 * (vt d).length
def flat : List Wt → List Nat
  | [] => []
  | t :: r => t.txt ++ flat r
def wts : List Wt → Nat
  | [] => 0
  | t :: r => t.w + wts r
theorem flat_app : ∀ a b : List Wt, flat (a ++ b) = flat a ++ flat b
  | [], b => rfl
  | t :: r, b => by simp [flat, flat_app r b]
theorem wts_app : ∀ a b : List Wt, wts (a ++ b) = wts a + wts b
  | [], b => by simp [wts]
  | t :: r, b => by simp [wts, wts_app r b, Nat.add_assoc]
/-- what the children's turn j has laid behind the closing sign: the last j of them, the last first -/
def push (xs : List PyData) : Nat → List Wt
  | 0 => []
  | j + 1 => push xs j ++ (match xs[xs.length - 1 - j]? with
    | none => []
    | some x => if j = xs.length - 1 then [.val x] else [.val x, .tok 32])
theorem vtAll_cons (d : PyData) (r : List PyData) : vtAll (d :: r) = vt d ++ vtTail r := by simp [vtAll]
theorem vtTail_cons (d : PyData) (r : List PyData) : vtTail (d :: r) = 32 :: (vt d ++ vtTail r) := by simp [vtTail]
theorem flat_push (xs : List PyData) : ∀ j, j ≤ xs.length → flat (push xs j).reverse = if j = xs.length then vtAll xs else vtTail (xs.drop (xs.length - j))
  | 0, h => by
    cases xs with
    | nil => simp [push, flat, vtAll]
    | cons d r => simp [push, flat, vtTail]
  | j + 1, h => by
    have ih := flat_push xs j (by omega)
    have hne : j ≠ xs.length := by omega
    rw [if_neg hne] at ih
    have hk : xs.length - 1 - j < xs.length := by omega
    have hx : xs[xs.length - 1 - j]? = some xs[xs.length - 1 - j] := by simp [hk]
    unfold push
    rw [hx]
    dsimp only
    have hd : xs.drop (xs.length - (j + 1)) = xs[xs.length - 1 - j] :: xs.drop (xs.length - j) := by
      have e1 : xs.length - (j + 1) = xs.length - 1 - j := by omega
      have e2 : xs.length - j = xs.length - 1 - j + 1 := by omega
      rw [e1, e2]
      exact List.drop_eq_getElem_cons hk
    by_cases hj : j = xs.length - 1
    · rw [if_pos hj, if_pos (by omega), List.reverse_append, flat_app, ih]
      have e0 : xs.length - (j + 1) = 0 := by omega
      rw [e0, List.drop_zero] at hd
      have z := vtAll_cons xs[xs.length - 1 - j] (xs.drop (xs.length - j))
      rw [← hd] at z
      rw [z]
      simp [flat, Wt.txt]
    · rw [if_neg hj, if_neg (by omega), List.reverse_append, flat_app, ih, hd, vtTail_cons]
      simp [flat, Wt.txt]
theorem vtTail_len_drop (xs : List PyData) : True := trivial
/-- the weight of what a tuple lays is below its own -/
theorem wts_push (xs : List PyData) : ∀ j, j ≤ xs.length → wts (push xs j) ≤ 2 * (if j = xs.length then (vtAll xs).length else (vtTail (xs.drop (xs.length - j))).length)
  | 0, h => by
    cases xs <;> simp [push, wts]
  | j + 1, h => by
    have ih := wts_push xs j (by omega)
    have hne : j ≠ xs.length := by omega
    rw [if_neg hne] at ih
    have hk : xs.length - 1 - j < xs.length := by omega
    have hx : xs[xs.length - 1 - j]? = some xs[xs.length - 1 - j] := by simp [hk]
    unfold push
    rw [hx]
    dsimp only
    have hd : xs.drop (xs.length - (j + 1)) = xs[xs.length - 1 - j] :: xs.drop (xs.length - j) := by
      have e1 : xs.length - (j + 1) = xs.length - 1 - j := by omega
      have e2 : xs.length - j = xs.length - 1 - j + 1 := by omega
      rw [e1, e2]
      exact List.drop_eq_getElem_cons hk
    by_cases hj : j = xs.length - 1
    · rw [if_pos hj, if_pos (by omega), wts_app]
      have e0 : xs.length - (j + 1) = 0 := by omega
      rw [e0, List.drop_zero] at hd
      have z := vtAll_cons xs[xs.length - 1 - j] (xs.drop (xs.length - j))
      rw [← hd] at z
      rw [z]
      simp only [wts, Wt.w, List.length_append]
      omega
    · rw [if_neg hj, if_neg (by omega), wts_app, hd, vtTail_cons]
      simp only [wts, Wt.w, List.length_append, List.length_cons]
      omega
theorem wts_rev : ∀ l : List Wt, wts l.reverse = wts l
  | [] => rfl
  | t :: r => by
    rw [List.reverse_cons, wts_app, wts_rev r]
    simp [wts]
    omega
theorem vtTail_drop_le : ∀ (xs : List PyData) (k : Nat), (vtTail (xs.drop k)).length ≤ (vtTail xs).length
  | [], k => by simp
  | d :: r, 0 => by simp
  | d :: r, k + 1 => by
    have := vtTail_drop_le r k
    rw [vtTail_cons]
    simp
    omega
theorem vtTail_drop_len (xs : List PyData) (k : Nat) (h : 0 < k) : (vtTail (xs.drop k)).length ≤ (vtAll xs).length := by
  cases xs with
  | nil => simp [vtTail]
  | cons d r =>
    cases k with
    | zero => omega
    | succ k =>
      have := vtTail_drop_le r k
      rw [vtAll_cons]
      simp
      omega
end Sb

set_option Elab.async false
set_option linter.all false
set_option maxRecDepth 100000
set_option maxHeartbeats 4000000
namespace Kw
open PySem PySem.Spec PyProof.Rows L2 Sb
theorem scT : FnScope ["value", "found", "left", "here", "at", "one"] ["value"] (defScope (top 26)) := ⟨rfl, rfl, rfl, by decide +kernel, rfl, by decide +kernel, by decide +kernel⟩
/-- NoText leaves, its line 0 -/
def Rz (C : Addr) (H : Hp) (E : XK) : Prop := ∀ dd H', H dd = none → Same H H' → H' dd = some (.xd [(Nt.fld, .int 0)]) → E (.ref C) (some dd) H'
def spText (K : PySem.W.Frag) (C : Addr) : Sp := fun vs H Q E => ∃ v d, vs = [v] ∧ Dp K H v d ∧ sOk d = true ∧ sz d ≤ 16777216 ∧ (isValue d = true → (vt d).length ≤ 4194304 ∧ ∀ H', Same H H' → Q (.str (SX.S (vt d))) H') ∧ (isValue d = false → Rz C H E)
mutual
theorem wf_nol : ∀ {d : PyData}, wf d = true → nol d = true
  | .tuple xs, h => by simpa [nol] using wfAll_nol (by simpa [wf] using h)
  | .none, _ => rfl
  | .str _, _ => rfl
  | .int _, _ => rfl
  | .bool _, h => by simp [wf] at h
  | .list _, h => by simp [wf] at h
  | .dict _, h => by simp [wf] at h
theorem wfAll_nol : ∀ {l : List PyData}, wfAll l = true → nolAll l = true
  | [], _ => rfl
  | d :: r, h => by
    simp only [wfAll, Bool.and_eq_true] at h
    simp [nolAll, wf_nol h.1, wfAll_nol h.2]
end
/-- all but L and F stays, tuples stay -/
structure Kp (K : PySem.W.Frag) (L F : Addr) (H H' : Hp) : Prop where
  tup : TupK K H H'
  at_ : ∀ b o, b ≠ L → b ≠ F → H b = some o → H' b = some o
theorem Kp.trans {K : PySem.W.Frag} {L F : Addr} {H H1 H2 : Hp} (a : Kp K L F H H1) (b : Kp K L F H1 H2) : Kp K L F H H2 := ⟨a.tup.trans b.tup, fun c o h1 h2 e => b.at_ c o h1 h2 (a.at_ c o h1 h2 e)⟩
theorem kp_same {K : PySem.W.Frag} {L F : Addr} {H H' : Hp} (s : Same H H') : Kp K L F H H' := ⟨tupK_same s, fun b o _ _ e => s b o e⟩
theorem kp_lst {K : PySem.W.Frag} {L F R : Addr} {H : Hp} {xs ys : List V} (h : H R = some (.lst xs)) (hR : R = L ∨ R = F) : Kp K L F H (upd H R (.lst ys)) :=
  ⟨tupK_lst h, fun b o h1 h2 e => by rw [upd_ne (by rcases hR with z | z <;> rw [z] <;> assumption)]; exact e⟩
/-- what waits on value_text's stack -/
inductive ItR (K : PySem.W.Frag) (L F : Addr) (H : Hp) : V → Wt → Prop
  | tok {a : Addr} {c : Nat} : H a = some (.lst [.str (SX.S [c])]) → a ≠ L → a ≠ F → ItR K L F H (.ref a) (.tok c)
  | val {v : V} {d : PyData} : Dp K H v d → wf d = true → ItR K L F H v (.val d)
theorem ItR.keep {K : PySem.W.Frag} {L F : Addr} {H H' : Hp} {v : V} {t : Wt} (s : Kp K L F H H') : ItR K L F H v t → ItR K L F H' v t
  | .tok h h1 h2 => .tok (s.at_ _ _ h1 h2 h) h1 h2
  | .val h w => .val (dp_tup s.tup (wf_nol w) h) w
theorem its_keep {K : PySem.W.Frag} {L F : Addr} {H H' : Hp} (s : Kp K L F H H') : ∀ {us : List V} {its : List Wt}, Paired (ItR K L F H) us its → Paired (ItR K L F H') us its
  | _, _, .nil => .nil
  | _, _, .cons a b => .cons (a.keep s) (its_keep s b)
theorem its_len {K : PySem.W.Frag} {L F : Addr} {H : Hp} : ∀ {us : List V} {its : List Wt}, Paired (ItR K L F H) us its → us.length ≤ (flat its).length
  | _, _, .nil => Nat.zero_le _
  | _, _, .cons a b => by
    have ih := its_len b
    cases a with
    | tok h _ _ => simp [flat, Wt.txt]; omega
    | @val v d h w =>
      have := List.length_pos_iff.mpr (wf_vt w)
      simp [flat, Wt.txt]; omega
theorem paired_app {α β : Type} {R : α → β → Prop} : ∀ {a b : List α} {c d : List β}, Paired R a c → Paired R b d → Paired R (a ++ b) (c ++ d)
  | _, _, _, _, .nil, h => h
  | _, _, _, _, .cons x y, h => .cons x (paired_app y h)
theorem joinL_nil : ∀ ys : List (List Nat), TL.joinL [] ys = ys.flatten
  | [] => rfl
  | [y] => by simp [TL.joinL]
  | y :: z :: r => by
    have := joinL_nil (z :: r)
    simp [TL.joinL, this] at this ⊢
section
variable {P : Program} {w : World} {K : PySem.W.Frag} {mg : Str → Option Value} {base : Heap} {C0 fI cc cda : Addr}
theorem ok_value_text {f : Addr} {fd : FuncData} (D : Df K mg "value_text" 26 f fd) (C : Con mg) (TN : Nt.Txt P K mg "NoText" "NoText.__init__" C0 fI cc cda) (c_is_value : Cl P w K mg base CX0 2 "is_value" ["thing"] (spVal K)) :
    Cl P w K mg base (L2.CX P w) 3 "value_text" ["value"] (spText K C0) := by
  refine clX D (fun _ _ _ _ _ _ us hl => match us, hl with | [_], _ => rfl) scT (fun vs H Q E h => ?_) fun cdv A outer s H vs Q E hr h => ?_
  · obtain ⟨x, ps, rfl, _⟩ := h; rfl
  · have hu0 : (A.deeper (envOfC "value_text" (defScope (top 26)) s.heap.objs.size f cdv)).units < cLine := Nat.lt_of_le_of_lt (Nat.le_add_right _ _) hr.units
    refine ⟨_, (pss_cons (ps_if (pt_not (pt_val (pe_q c_is_value hr (by decide) (by rfl) (pa_cons (pv 0) pa_nil))))
 (pss_one (Nt.ps_raiseN rfl TN hr (takes_of rfl rfl rfl rfl) (pa_cons pe_str (pa_cons pe_int pa_nil))))
 pss_nil)
 (PSs.nox (pss_cons (ps_par (i := 1) (j := 2) rfl scT.nd rfl rfl (by decide) rfl rfl (pa_cons (pe_lst pa_nil) (pa_cons (pe_lst (pa_cons (pv 0) pa_nil)) pa_nil)) (by rfl))
 (pss_cons (ps_while PassesOwn.never (pt_cmpR (Sm.op_neNil hu0) (pv 2) (pe_lst pa_nil) (nomark _))
 (pss_cons (ps_set (i := 3) scT.nd rfl (Or.inl rfl) (pe_bm0 PySem.F.plainAttrs_list PySem.F.slot_list_pop PySem.F.type_list_pop mt_pop (pv 2)))
 (pss_one (ps_if (pt_val (pe_callB (call_isi) (by rfl) (C.nb _ (by decide)) bt_isinstance (pa_cons (pv 3) (pa_cons (pe_bltn (v := .ty "list") (by rfl) (C.nb _ (by decide)) bt_list rfl) pa_nil))))
 (pss_one (ps_expr (pe_bm PySem.F.plainAttrs_list PySem.F.slot_list_append PySem.F.type_list_append mt_append (pv 1) (pa_cons (pe_ix ix_list (pv 3) pe_int (fun _ _ => rfl)) pa_nil))))
 (pss_one (ps_if (pt_val (pe_callB (call_isi) (by rfl) (C.nb _ (by decide)) bt_isinstance (pa_cons (pv 3) (pa_cons (pe_bltn (v := .ty "tuple") (by rfl) (C.nb _ (by decide)) bt_tuple rfl) pa_nil))))
 (pss_cons (ps_expr (pe_bm PySem.F.plainAttrs_list PySem.F.slot_list_append PySem.F.type_list_append mt_append (pv 2) (pa_cons (pe_lst (pa_cons pe_str pa_nil)) pa_nil)))
 (pss_cons (ps_for PassesOwn.never rfl (Sr.pi_enumR (by rfl) (C.nb _ (by decide)) (by rfl) (C.nb _ (by decide)) (pv 3)) (pg_tup rfl (pgs_cons (pg_name (i := 4) scT.nd rfl (Or.inl rfl)) (pgs_cons (pg_name (i := 5) scT.nd rfl (Or.inl rfl)) pgs_nil)))
 (pss_one (ps_expr (pe_bm PySem.F.plainAttrs_list PySem.F.slot_list_extend PySem.F.type_list_extend mt_extend (pv 2) (pa_cons (pe_ifExp (pt_cmpR op_eq (pv 4) (pe_op op_sub (pe_callB (call_len_seq) (by rfl) (C.nb _ (by decide)) bt_len (pa_cons (pv 3) pa_nil)) pe_int) (nomark _)) (pe_lst (pa_cons (pv 5) pa_nil)) (pe_lst (pa_cons (pv 5) (pa_cons (pe_lst (pa_cons pe_str pa_nil)) pa_nil)))) pa_nil)))))
 (pss_one (ps_expr (pe_bm PySem.F.plainAttrs_list PySem.F.slot_list_append PySem.F.type_list_append mt_append (pv 2) (pa_cons (pe_lst (pa_cons pe_str pa_nil)) pa_nil))))))
 (pss_one (ps_expr (pe_bm PySem.F.plainAttrs_list PySem.F.slot_list_append PySem.F.type_list_append mt_append (pv 1) (pa_cons (pe_ifExp (pt_cmp (pc_isN (pv 3))) pe_str (pe_callTy (CallR.or SkE.call_str_str call_str_int) (by rfl) (C.nb _ (by decide)) bt_str (pa_cons (pv 3) pa_nil))) pa_nil))))))))))
 (pss_one (ps_ret (pe_join pe_str (pv 1)))))))), ?_⟩
    obtain ⟨v, d, rfl, hd, hso, hsz, q0, q1⟩ := h
    refine ⟨_, rfl, v, d, rfl, hd, hso, hsz, fun H1 s1 => ⟨_, rfl, ?_⟩⟩
    cases hv : isValue d with
    | false =>
      refine iteT ⟨_, _, rfl, fun dd hdd => q1 hv dd _ (s1.free hdd) (s1.updN (s1.free hdd)) upd_same⟩
    | true =>
    refine iteF ?_
    obtain ⟨hvl, qq⟩ := q0 hv
    refine ⟨by show 0 ≤ sizeLine; decide, fun F hF => ⟨_, rfl, by show 1 ≤ sizeLine; decide, fun L hL => ⟨_, _, rfl, ?_⟩⟩⟩
    have hLF : L ≠ F := fun z => by rw [z, upd_same] at hL; cases hL
    have hL1 : H1 L = none := by rw [upd_ne hLF] at hL; exact hL
    have hF0 : H F = none := s1.free hF
    have hL0 : H L = none := s1.free hL1
    have hwf := (of_isValue hv).1
    have S0 : Same H (upd (upd H1 F (.lst [])) L (.lst [v])) := (s1.updN hF0).updN hL0
    refine ⟨fun m σ H' => ∃ (ys : List (List Nat)) (its : List Wt) (us : List V) (a b c : Option V), σ = [some v, some (.ref F), some (.ref L), a, b, c] ∧ m = wts its ∧ H' F = some (.lst (ys.map fun y => V.str (SX.S y))) ∧ H' L = some (.lst us.reverse) ∧ Paired (ItR K L F H') us its ∧ ys.flatten ++ flat its = vt d ∧ ys.length ≤ ys.flatten.length ∧ Same H H',
      ⟨_, [], [.val d], [v], none, none, none, rfl, rfl, (upd_ne (Ne.symm hLF)).trans upd_same, upd_same, .cons (.val (dp_same S0 hd) hwf) .nil, by simp [flat, Wt.txt], Nat.le_refl _, S0⟩, ?_⟩
    rintro m σ H2 ⟨ys, its, us, a, b, c, rfl, rfl, hF2, hL2, hP, hT, hyl, s2⟩
    have hlen : ys.flatten.length + (flat its).length = (vt d).length := by rw [← hT, List.length_append]
    refine ⟨_, rfl, by show 0 ≤ sizeLine; decide, fun T1 hT1 => eqNil_r hL2 hT1 fun H3 s3 => ⟨_, rfl, ?_⟩⟩
    have hF3 := s3 _ _ hF2
    cases hP with
    | nil =>
      have hvt : ys.flatten = vt d := by simpa [flat] using hT
      refine iteF ⟨⟨_, rfl⟩, _, rfl, ⟨_, F, ys.map SX.S, rfl, rfl, .inl (.inl (.inl (by rw [hF3, List.map_map]; rfl))), ?_, ?_⟩⟩
      · rw [SX.lens, show (Str.ofString "").length = 0 by decide +kernel, Nat.mul_zero, Nat.add_zero, ← List.length_flatten, hvt]
        omega
      · have e : Txt.join (Str.ofString "") (ys.map SX.S) = SX.S (vt d) := by
          rw [show Str.ofString "" = SX.S [] by decide +kernel, SX.join_S, joinL_nil, hvt]
        rw [e]
        exact qq _ (s2.trans s3)
    | @cons x t us its hx hP =>
    have hne : (true ^^ (x :: us).reverse.isEmpty) = true := by simp
    rw [hne]
    refine iteT ⟨fun σ' H' => ∃ (ys : List (List Nat)) (its' : List Wt) (us : List V) (a b c : Option V), σ' = [some v, some (.ref F), some (.ref L), a, b, c] ∧ wts its' < wts (t :: its) ∧ H' F = some (.lst (ys.map fun y => V.str (SX.S y))) ∧ H' L = some (.lst us.reverse) ∧ Paired (ItR K L F H') us its' ∧ ys.flatten ++ flat its' = vt d ∧ ys.length ≤ ys.flatten.length ∧ Same H H',
      fun σ' H' ⟨ys, its', us, a, b, c, h1, h2, h3, h4, h5, h6, h7, h8⟩ => ⟨_, h2, ys, its', us, a, b, c, h1, rfl, h3, h4, h5, h6, h7, h8⟩, ?_⟩
    have hL3 := s3 _ _ hL2
    rw [List.reverse_cons] at hL3
    -- here = left.pop()
    refine ⟨_, rfl, .inl ⟨rfl, _, .inl (.inl hL3)⟩, ⟨L, _, x, rfl, rfl, hL3, last_at _ _, ?_⟩⟩
    rw [List.dropLast_concat]
    have k3 : Kp K L F H2 (upd H3 L (.lst us.reverse)) := (kp_same s3).trans (kp_lst hL3 (.inl rfl))
    have x4 := hx.keep k3
    have P4 := its_keep k3 hP
    have hF4 : upd H3 L (.lst us.reverse) F = some (.lst (ys.map fun y => V.str (SX.S y))) := (upd_ne (Ne.symm hLF)).trans hF3
    have hL4 : upd H3 L (.lst us.reverse) L = some (.lst us.reverse) := upd_same
    have s4 : Same H (upd H3 L (.lst us.reverse)) := (s2.trans s3).updN hL0
    generalize upd H3 L (.lst us.reverse) = H4 at k3 x4 P4 hF4 hL4 s4
    have hul := its_len P4
    have hfl : (flat (t :: its)).length = t.txt.length + (flat its).length := by simp [flat]
    -- a sign or a leaf goes to found
    have put1 : ∀ (y : List Nat) (σa σb σc : Option V) (Hz : Hp), t.txt = y → y ≠ [] → 0 < t.w → Kp K L F H4 Hz → Hz F = some (.lst (ys.map fun y => V.str (SX.S y))) → Hz L = some (.lst us.reverse) → Same H Hz →
        ∃ (ys' : List (List Nat)) (its' : List Wt) (us : List V) (a b c : Option V), ([some v, some (.ref F), some (.ref L), σa, σb, σc] : L2.St) = [some v, some (.ref F), some (.ref L), a, b, c] ∧ wts its' < wts (t :: its) ∧ (upd Hz F (.lst ((ys.map fun y => V.str (SX.S y)) ++ [.str (SX.S y)]))) F = some (.lst (ys'.map fun y => V.str (SX.S y))) ∧ (upd Hz F (.lst ((ys.map fun y => V.str (SX.S y)) ++ [.str (SX.S y)]))) L = some (.lst us.reverse) ∧ Paired (ItR K L F (upd Hz F (.lst ((ys.map fun y => V.str (SX.S y)) ++ [.str (SX.S y)])))) us its' ∧ ys'.flatten ++ flat its' = vt d ∧ ys'.length ≤ ys'.flatten.length ∧ Same H (upd Hz F (.lst ((ys.map fun y => V.str (SX.S y)) ++ [.str (SX.S y)]))) := by
      intro y σa σb σc Hz hy hyn hw kz hFz hLz sz
      refine ⟨ys ++ [y], its, us, _, _, _, rfl, ?_, ?_, (upd_ne hLF).trans hLz, its_keep (kz.trans (kp_lst hFz (.inr rfl))) P4, ?_, ?_, sz.updN hF0⟩
      · simp only [wts]; omega
      · rw [upd_same, List.map_append]; rfl
      · rw [← hT]; simp [flat, hy]
      · have := List.length_pos_iff.mpr hyn
        rw [List.length_append, List.flatten_append, List.length_append]
        simp only [List.flatten_cons, List.flatten_nil, List.append_nil, List.length_singleton]
        omega
    have hyz : (ys.map fun y => V.str (SX.S y)).length < sizeLine := by
      rw [List.length_map, sizeLine_eq]
      omega
    cases x4 with
    | @tok a c ha haL haF =>
      refine ⟨_, rfl, ?_⟩
      dsimp only [tCons, tC, tNil]
      refine isiX (K := K) (t := "list") (.base (.lst ha)) kb_list_list ⟨_, rfl, iteT ?_⟩
      refine ⟨_, rfl, .inl ⟨rfl, _, .inl (.inl hF4)⟩, _, rfl, ⟨a, _, 0, _, rfl, rfl, .inl (.inl ha), rfl, ⟨F, _, _, rfl, rfl, hF4, hyz, ?_⟩⟩⟩
      exact put1 [c] _ _ _ H4 rfl (by simp) (by simp [Wt.w]) (kp_same (Same.refl _)) hF4 hL4 s4
    | @val x d2 hx2 hw2 =>
      have hnl : (match d2 with | .list _ => true | _ => false) = false := by cases d2 <;> simp_all [wf]
      refine ⟨_, rfl, ?_⟩
      dsimp only [tCons, tC, tNil]
      refine isi (K := K) hx2 ((kit_list d2).trans (congrArg some hnl)) ⟨_, rfl, iteF ?_⟩
      refine ⟨_, rfl, ?_⟩
      dsimp only [tCons, tC, tNil]
      refine isi (K := K) hx2 (kitTup d2) ⟨_, rfl, ?_⟩
      have hpos := List.length_pos_iff.mpr (wf_vt hw2)
      cases ht : isTup d2 with
      | false =>
        have hlf := wf_leaf hw2 ht
        refine iteF ⟨_, rfl, .inl ⟨rfl, _, .inl (.inl hF4)⟩, _, rfl, _, rfl, ?_⟩
        cases d2 with
        | none =>
          cases hx2
          rw [decide_eq_true rfl]
          refine iteT ⟨F, _, .str (SX.S [45]), rfl, congrArg (fun z => [V.str z]) (show Str.ofString "-" = SX.S [45] by decide +kernel), hF4, hyz, ?_⟩
          exact put1 [45] _ _ _ H4 (by simp [Wt.txt, vt]) (by simp) (by simp [Wt.w, vt]) (kp_same (Same.refl _)) hF4 hL4 s4
        | str z =>
          cases hx2
          rw [decide_eq_false (by intro q; cases q)]
          refine iteF ⟨_, rfl, .inl ⟨z, rfl, ⟨F, _, .str (SX.S z.cps.toList), rfl, congrArg (fun z => [V.str z]) (SX.S_tl z).symm, hF4, hyz, ?_⟩⟩⟩
          exact put1 z.cps.toList _ _ _ H4 (by simp [Wt.txt, vt]) (by simpa [vt] using wf_vt hw2) (by simp only [Wt.w]; omega) (kp_same (Same.refl _)) hF4 hL4 s4
        | int z =>
          cases hx2
          rw [decide_eq_false (by intro q; cases q)]
          have hlog : z.natAbs.log2 < 1920 := by
            have hz : z.natAbs < 1000000000000 := by simpa [wf] using hw2
            by_cases hz0 : z.natAbs = 0
            · rw [hz0]; decide
            · rw [Nat.log2_lt hz0]
              exact Nat.lt_of_lt_of_le hz (by decide)
          refine iteF ⟨_, rfl, .inr ⟨z, rfl, hlog, ⟨F, _, .str (SX.S (intL z)), rfl, congrArg (fun z => [V.str z]) (strI z), hF4, hyz, ?_⟩⟩⟩
          exact put1 (intL z) _ _ _ H4 (by simp [Wt.txt, vt]) (by simpa [vt] using wf_vt hw2) (by simp only [Wt.w]; omega) (kp_same (Same.refl _)) hF4 hL4 s4
        | _ => simp [leafOk] at hlf
      | true =>
        refine iteT ?_
        cases d2 with
        | tuple xs =>
          cases hx2 with
          | @tup a cs _ hsq hda =>
          have hwa : wfAll xs = true := by simpa [wf] using hw2
          have hcl := hda.len
          have hvtl : (vt (.tuple xs)).length = (vtAll xs).length + 2 := by simp [vt]
          -- left.append([')'])
          refine ⟨_, rfl, .inl ⟨rfl, _, .inl (.inl hL4)⟩, by show 1 ≤ sizeLine; decide, fun Ta hTa => ⟨L, _, _, rfl, rfl, (upd_ne (ne_of_none hL4 hTa)).trans hL4, by rw [List.length_reverse, sizeLine_eq]; omega, ?_⟩⟩
          have hTaL : Ta ≠ L := fun z => by rw [z, hL4] at hTa; cases hTa
          have hTaF : Ta ≠ F := fun z => by rw [z, hF4] at hTa; cases hTa
          have k5 : Kp K L F H4 (upd (upd H4 Ta (.lst [.str ")"])) L (.lst (us.reverse ++ [.ref Ta]))) := (kp_same (L2.Same.upd hTa)).trans (kp_lst ((upd_ne (ne_of_none hL4 hTa)).trans hL4) (.inl rfl))
          have s5 : Same H (upd (upd H4 Ta (.lst [.str ")"])) L (.lst (us.reverse ++ [.ref Ta]))) := (s4.updN (s4.free hTa)).updN hL0
          have tok5 : ItR K L F (upd (upd H4 Ta (.lst [.str ")"])) L (.lst (us.reverse ++ [.ref Ta]))) (.ref Ta) (.tok 41) := .tok (by rw [upd_ne hTaL, upd_same]; rfl) hTaL hTaF
          have hF5 : upd (upd H4 Ta (.lst [.str ")"])) L (.lst (us.reverse ++ [.ref Ta])) F = some (.lst (ys.map fun y => V.str (SX.S y))) := by rw [upd_ne (Ne.symm hLF), upd_ne (Ne.symm hTaF)]; exact hF4
          have hL5 : upd (upd H4 Ta (.lst [.str ")"])) L (.lst (us.reverse ++ [.ref Ta])) L = some (.lst (V.ref Ta :: us).reverse) := by rw [upd_same, List.reverse_cons]
          generalize upd (upd H4 Ta (.lst [.str ")"])) L (.lst (us.reverse ++ [.ref Ta])) = H5 at k5 s5 tok5 hF5 hL5
          refine ⟨_, rfl, a, cs, rfl, k5.tup _ _ hsq, ?_⟩
          refine for_it Sr.walk_enumR (fun j σ Hj => ∃ (ws : List V) (a' b' : Option V), σ = [some v, some (.ref F), some (.ref L), some (.ref a), a', b'] ∧ Hj L = some (.lst ws.reverse) ∧ Hj F = some (.lst (ys.map fun y => V.str (SX.S y))) ∧ Paired (ItR K L F Hj) ws ((push xs j).reverse ++ .tok 41 :: its) ∧ Kp K L F H5 Hj ∧ Same H Hj)
            ⟨_, _, _, rfl, hL5, hF5, .cons tok5 (its_keep k5 P4), kp_same (Same.refl _), s5⟩ (fun j σ Hj _ ⟨_, _, _, _, _, _, _, k, _⟩ => (k5.trans k).tup _ _ hsq) ?_ ?_
          · rintro j y σ Hj Hj' hj ⟨ws, a', b', rfl, hLj, hFj, hPj, kj, sj⟩ ⟨T, p, z, rfl, hT, rfl, hp, hz⟩
            cases hp
            rw [hcl] at hj
            have hk : xs.length - 1 - j < xs.length := by omega
            rw [hcl] at hz
            obtain ⟨dz, hdz, hpz⟩ := hda.get hz
            have hwz : wf dz = true := wfAll_mem.mp hwa dz (List.mem_of_getElem? hdz)
            have hps : push xs (j + 1) = push xs j ++ (if j = xs.length - 1 then [.val dz] else [.val dz, .tok 32]) := by
              conv => lhs; unfold push
              rw [hdz]
            -- behind the pair
            have k6 : Kp K L F Hj (upd Hj T (.tup [.int (j : Nat), z])) := kp_same (L2.Same.upd hT)
            have s6 : Same H (upd Hj T (.tup [.int (j : Nat), z])) := sj.updN (sj.free hT)
            have hT6 : upd Hj T (.tup [.int (j : Nat), z]) T = some (.tup [.int (j : Nat), z]) := upd_same
            have hL6 : upd Hj T (.tup [.int (j : Nat), z]) L = some (.lst ws.reverse) := (upd_ne (ne_of_none hLj hT)).trans hLj
            have hF6 : upd Hj T (.tup [.int (j : Nat), z]) F = some (.lst (ys.map fun y => V.str (SX.S y))) := (upd_ne (ne_of_none hFj hT)).trans hFj
            generalize upd Hj T (.tup [.int (j : Nat), z]) = H6 at k6 s6 hT6 hL6 hF6
            have P6 := its_keep k6 hPj
            have kk6 := kj.trans k6
            have z6 : Dp K H6 z dz := dp_tup (k5.trans kk6).tup (wf_nol hwz) hpz
            have hwl := its_len P6
            have hlen6 : (flat ((push xs j).reverse ++ .tok 41 :: its)).length ≤ (vt d).length := by
              have h1 := flat_push xs j (by omega)
              rw [if_neg (by omega)] at h1
              rw [flat_app, h1, List.length_append]
              have h2 : (vtTail (xs.drop (xs.length - j))).length ≤ (vtAll xs).length := vtTail_drop_len xs _ (by omega)
              have h3 : (flat (.tok 41 :: its)).length = 1 + (flat its).length := by simp [flat, Wt.txt]; omega
              have h4 : (Wt.val (.tuple xs)).txt.length = (vtAll xs).length + 2 := by simp [Wt.txt, hvtl]
              omega
            refine ⟨T, [.int (j : Nat), z], rfl, .inl (.inl hT6), rfl, _, _, rfl, _, _, rfl, rfl, ?_⟩
            -- left.extend(..)
            have ext : ∀ (more : List V) (wm : List Wt) (B : Addr) (H7 : Hp), H7 B = none → Same H6 H7 → Paired (ItR K L F H7) more.reverse wm.reverse → push xs (j + 1) = push xs j ++ wm → more.length ≤ 2 →
                rExtend (.ref L) [.ref B] (upd H7 B (.lst more)) fun _ Hn => ∃ (ws : List V) (a' b' : Option V), ([some v, some (.ref F), some (.ref L), some (.ref a), some (.int (j : Nat)), some z] : L2.St) = [some v, some (.ref F), some (.ref L), some (.ref a), a', b'] ∧ Hn L = some (.lst ws.reverse) ∧ Hn F = some (.lst (ys.map fun y => V.str (SX.S y))) ∧ Paired (ItR K L F Hn) ws ((push xs (j + 1)).reverse ++ .tok 41 :: its) ∧ Kp K L F H5 Hn ∧ Same H Hn := by
              intro more wm B H7 hB s7 hPm hpu hml
              have hL7 := s7 _ _ hL6
              have hLB : L ≠ B := fun q => by rw [← q, hL7] at hB; cases hB
              have hL8 : upd H7 B (.lst more) L = some (.lst ws.reverse) := (upd_ne hLB).trans hL7
              have k8 : Kp K L F H7 (upd (upd H7 B (.lst more)) L (.lst (ws.reverse ++ more))) := (kp_same (L2.Same.upd hB)).trans (kp_lst hL8 (.inl rfl))
              have kAll : Kp K L F H6 (upd (upd H7 B (.lst more)) L (.lst (ws.reverse ++ more))) := (kp_same s7).trans k8
              refine ⟨L, B, _, _, rfl, rfl, hL8, upd_same, by rw [List.length_reverse, sizeLine_eq]; omega, more.reverse ++ ws, _, _, rfl, ?_, ?_, ?_, kk6.trans kAll, ((s6.trans s7).updN (s6.trans s7 |>.free hB)).updN hL0⟩
              · rw [upd_same, List.reverse_append, List.reverse_reverse]
              · rw [upd_ne (Ne.symm hLF), upd_ne (ne_of_none (s7 _ _ hF6) hB)]
                exact s7 _ _ hF6
              · rw [hpu, List.reverse_append, List.append_assoc]
                exact paired_app (its_keep k8 hPm) (its_keep kAll P6)
            refine ⟨_, rfl, .inl ⟨rfl, _, .inl (.inl hL6)⟩, _, rfl, _, rfl, a, cs, rfl, .inr ((k5.trans kk6).tup _ _ hsq), _, _, rfl, rfl, rfl, _, rfl, ?_⟩
            by_cases hj0 : j = xs.length - 1
            · rw [decide_eq_true (by rw [hcl]; exact congrArg V.int (by omega))]
              refine iteT ⟨_, rfl, by show 1 ≤ sizeLine; decide, fun B hB => ?_⟩
              exact ext [z] [.val dz] B H6 hB (Same.refl _) (.cons (.val z6 hwz) .nil) (by rw [hps, if_pos hj0]) (by simp)
            · rw [decide_eq_false (fun q => hj0 (by rw [hcl] at q; have := V.int.inj q; omega))]
              refine iteF ⟨_, rfl, by show 1 ≤ sizeLine; decide, fun Tb hTb => ⟨by show 2 ≤ sizeLine; decide, fun B hB => ?_⟩⟩
              have hTL : Tb ≠ L := fun q => by rw [q, hL6] at hTb; cases hTb
              have hTF : Tb ≠ F := fun q => by rw [q, hF6] at hTb; cases hTb
              exact ext [z, .ref Tb] [.val dz, .tok 32] B _ hB (L2.Same.upd hTb) (.cons (.tok (by rw [upd_same]; rfl) hTL hTF) (.cons (.val (dp_same (L2.Same.upd hTb) z6) hwz) .nil)) (by rw [hps, if_neg hj0]) (by simp)
          · rintro σ Hj ⟨ws, a', b', rfl, hLj, hFj, hPj, kj, sj⟩
            rw [hcl] at hPj
            have h1 := flat_push xs xs.length (Nat.le_refl _)
            rw [if_pos rfl] at h1
            have h2 := wts_push xs xs.length (Nat.le_refl _)
            rw [if_pos rfl] at h2
            have hwl := its_len hPj
            have h4 : (Wt.val (.tuple xs)).txt.length = (vtAll xs).length + 2 := by simp [Wt.txt, hvtl]
            have hfl2 : (flat ((push xs xs.length).reverse ++ .tok 41 :: its)).length = (vtAll xs).length + 1 + (flat its).length := by
              rw [flat_app, h1]
              simp [flat, Wt.txt]
              omega
            refine ⟨_, rfl, .inl ⟨rfl, _, .inl (.inl hLj)⟩, by show 1 ≤ sizeLine; decide, fun Tb hTb => ⟨L, _, _, rfl, rfl, (upd_ne (ne_of_none hLj hTb)).trans hLj, by rw [List.length_reverse, sizeLine_eq]; omega, ?_⟩⟩
            have hTL : Tb ≠ L := fun z => by rw [z, hLj] at hTb; cases hTb
            have hTF : Tb ≠ F := fun z => by rw [z, hFj] at hTb; cases hTb
            have k8 : Kp K L F Hj (upd (upd Hj Tb (.lst [.str "("])) L (.lst (ws.reverse ++ [.ref Tb]))) := (kp_same (L2.Same.upd hTb)).trans (kp_lst ((upd_ne (ne_of_none hLj hTb)).trans hLj) (.inl rfl))
            refine ⟨ys, .tok 40 :: ((push xs xs.length).reverse ++ .tok 41 :: its), .ref Tb :: ws, _, _, _, rfl, ?_, ?_, ?_, .cons (.tok (by rw [upd_ne hTL, upd_same]; rfl) hTL hTF) (its_keep k8 hPj), ?_, hyl, (sj.updN (sj.free hTb)).updN hL0⟩
            · have h5 : wts (push xs xs.length).reverse = wts (push xs xs.length) := wts_rev _
              simp only [wts, wts_app, Wt.w, h5, hvtl]
              omega
            · rw [upd_ne (Ne.symm hLF), upd_ne (Ne.symm hTF)]; exact hFj
            · rw [upd_same, List.reverse_cons]
            · rw [← hT]
              simp [flat, flat_app, h1, Wt.txt, vt]
        | _ => simp [isTup] at ht
end
end Kw

set_option Elab.async false
set_option linter.all false
namespace Sb
open PySem
/-! what value_of gives is bounded by what it was given -/
def chars : List (List Nat) → Nat
  | [] => 0
  | p :: r => p.length + chars r
def vls : List PyData → Nat
  | [] => 0
  | d :: r => (vt d).length + 1 + vls r
def stkM : List (List PyData) → Nat
  | [] => 0
  | ds :: r => 1 + vls ds + stkM r
def doneM : Option PyData → Nat
  | none => 0
  | some d => (vt d).length + 1
def stM (st : PSt) : Nat := stkM st.1 + doneM st.2
def stWf (st : PSt) : Prop := (∀ ds ∈ st.1, wfAll ds = true) ∧ ∀ d, st.2 = some d → wf d = true
theorem vls_app : ∀ a b : List PyData, vls (a ++ b) = vls a + vls b
  | [], b => by simp [vls]
  | d :: r, b => by simp [vls, vls_app r b]; omega
theorem vtTail_vls : ∀ r : List PyData, (vtTail r).length = vls r
  | [] => rfl
  | d :: r => by rw [vtTail_cons]; simp [vls, vtTail_vls r]; omega
theorem vtAll_vls (r : List PyData) : (vtAll r).length ≤ vls r := by
  cases r with
  | nil => simp [vtAll]
  | cons d r => rw [vtAll_cons, List.length_append, vtTail_vls]; simp [vls]
theorem wfAll_app : ∀ a b : List PyData, wfAll (a ++ b) = (wfAll a && wfAll b)
  | [], b => by simp [wfAll]
  | d :: r, b => by simp [wfAll, wfAll_app r b, Bool.and_assoc]
theorem put_M {stk : List (List PyData)} {dn : Option PyData} {d : PyData} {st : PSt} (h : put stk dn d = some st) : stM st ≤ stkM stk + doneM dn + ((vt d).length + 1) := by
  unfold put at h
  cases stk with
  | nil =>
    dsimp only at h
    split at h
    · cases h
    · cases h
      simp [stM, stkM, doneM]
  | cons t r =>
    cases h
    simp [stM, stkM, vls_app, vls]
    omega
theorem put_wf {stk : List (List PyData)} {dn : Option PyData} {d : PyData} {st : PSt} (h : put stk dn d = some st) (hs : stWf (stk, dn)) (hd : wf d = true) : stWf st := by
  unfold put at h
  cases stk with
  | nil =>
    dsimp only at h
    split at h
    · cases h
    · cases h
      exact ⟨by simp, fun d' e => by cases e; exact hd⟩
  | cons t r =>
    cases h
    refine ⟨fun ds hm => ?_, hs.2⟩
    rcases List.mem_cons.mp hm with z | z
    · rw [z, wfAll_app, hs.1 t List.mem_cons_self]
      simp [wfAll, hd]
    · exact hs.1 ds (List.mem_cons_of_mem _ z)
theorem step_M {st st' : PSt} {p : List Nat} (hp : p ≠ []) (hl : ∀ d, plainOf p = some d → leafOk d = true ∧ vt d = p) (h : step1 st p = some st') (hs : stWf st) : stM st' ≤ stM st + 2 * p.length ∧ stWf st' := by
  have hpl := List.length_pos_iff.mpr hp
  unfold step1 at h
  split at h
  · cases h
    refine ⟨by simp [stM, stkM, vls]; omega, fun ds hm => ?_, hs.2⟩
    rcases List.mem_cons.mp hm with z | z
    · rw [z]; rfl
    · exact hs.1 ds z
  split at h
  · cases h
    exact ⟨by omega, hs⟩
  split at h
  · obtain ⟨stk, dn⟩ := st
    cases stk with
    | nil => cases h
    | cons t r =>
      have hs' : stWf (r, dn) := ⟨fun ds hm => hs.1 ds (List.mem_cons_of_mem _ hm), hs.2⟩
      have ht : wf (.tuple t) = true := by simpa [wf] using hs.1 t List.mem_cons_self
      have h1 := put_M h
      have h2 := vtAll_vls t
      have h3 : (vt (.tuple t)).length = (vtAll t).length + 2 := by simp [vt]
      refine ⟨?_, put_wf h hs' ht⟩
      simp only [stM, stkM] at h1 ⊢
      omega
  · split at h
    · cases h
    · rename_i d e
      obtain ⟨h1, h2⟩ := hl d e
      have h3 := put_M h
      rw [h2] at h3
      exact ⟨by simp only [stM] at h3 ⊢; omega, put_wf h hs (leaf_wf h1).1⟩
theorem run_M : ∀ {ps : List (List Nat)} {st st' : PSt}, (∀ p ∈ ps, p ≠ []) → (∀ p d, plainOf p = some d → leafOk d = true ∧ vt d = p) → runV st ps = some st' → stWf st → stM st' ≤ stM st + 2 * chars ps ∧ stWf st'
  | [], st, st', _, _, h, hs => by
    cases h
    exact ⟨by simp [chars], hs⟩
  | p :: r, st, st', hp, hl, h, hs => by
    unfold runV at h
    split at h
    · cases h
    · rename_i st1 e
      obtain ⟨a, b⟩ := step_M (hp p List.mem_cons_self) (hl p) e hs
      obtain ⟨c, d⟩ := run_M (fun q hq => hp q (List.mem_cons_of_mem _ hq)) hl h b
      exact ⟨by simp [chars]; omega, d⟩
theorem piecesGo_ok : ∀ (n : Nat) (l : List Nat), (∀ p ∈ piecesGo n l, p ≠ []) ∧ chars (piecesGo n l) ≤ l.length
  | 0, l => by simp [piecesGo, chars]
  | n + 1, [] => by simp [piecesGo, chars]
  | n + 1, c :: r => by
    unfold piecesGo
    split
    · obtain ⟨a, b⟩ := piecesGo_ok n r
      refine ⟨fun p hp => ?_, by simp [chars]; omega⟩
      rcases List.mem_cons.mp hp with z | z
      · rw [z]; simp
      · exact a p z
    · obtain ⟨a, b⟩ := piecesGo_ok n (r.dropWhile fun c => !special c)
      refine ⟨fun p hp => ?_, ?_⟩
      · rcases List.mem_cons.mp hp with z | z
        · rw [z]; simp
        · exact a p z
      · have e : (r.takeWhile fun c => !special c).length + (r.dropWhile fun c => !special c).length = r.length := by
          rw [← List.length_append, List.takeWhile_append_dropWhile]
        simp [chars]
        omega
theorem chars_mem : ∀ {ps : List (List Nat)} {p : List Nat}, p ∈ ps → p.length ≤ chars ps
  | q :: r, p, h => by
    rcases List.mem_cons.mp h with z | z
    · rw [z]; simp [chars]
    · have := chars_mem z; simp [chars]; omega
theorem chars_len : ∀ {ps : List (List Nat)}, (∀ p ∈ ps, p ≠ []) → ps.length ≤ chars ps
  | [], _ => by simp
  | p :: r, h => by
    have h1 := List.length_pos_iff.mpr (h p List.mem_cons_self)
    have h2 := chars_len fun q hq => h q (List.mem_cons_of_mem _ hq)
    simp [chars]
    omega
theorem valueOf_M {t : List Nat} {d : PyData} (hl : ∀ p d, plainOf p = some d → leafOk d = true ∧ vt d = p) (h : valueOf (pieces t) = some d) : wf d = true ∧ (vt d).length ≤ 2 * t.length := by
  unfold valueOf at h
  split at h
  · rename_i d' e
    cases h
    obtain ⟨a, b⟩ := piecesGo_ok t.length t
    obtain ⟨x, y⟩ := run_M (st := ([], none)) a hl e ⟨by simp, fun d e => nomatch e⟩
    refine ⟨y.2 _ rfl, ?_⟩
    simp [stM, stkM, doneM] at x
    have b' : chars (pieces t) ≤ t.length := b
    have x' : (vt d).length + 1 ≤ 2 * chars (pieces t) := x
    omega
  · cases h
mutual
theorem wf_sz : ∀ {d : PyData}, wf d = true → sz d ≤ (vt d).length
  | .tuple xs, h => by
    have := wfAll_sz (l := xs) (by simpa [wf] using h)
    simp [sz, vt]
    omega
  | .none, h => by simp [sz, vt]
  | .str x, h => List.length_pos_iff.mpr (wf_vt h)
  | .int i, h => List.length_pos_iff.mpr (wf_vt h)
  | .bool _, h => by simp [wf] at h
  | .list _, h => by simp [wf] at h
  | .dict _, h => by simp [wf] at h
theorem wfAll_sz : ∀ {l : List PyData}, wfAll l = true → szAll l ≤ (vtAll l).length
  | [], h => by simp [szAll]
  | d :: r, h => by
    simp only [wfAll, Bool.and_eq_true] at h
    have h1 := wf_sz h.1
    have h2 := wfTail_sz h.2
    rw [vtAll_cons]
    simp [szAll]
    omega
theorem wfTail_sz : ∀ {l : List PyData}, wfAll l = true → szAll l ≤ (vtTail l).length
  | [], h => by simp [szAll]
  | d :: r, h => by
    simp only [wfAll, Bool.and_eq_true] at h
    have h1 := wf_sz h.1
    have h2 := wfTail_sz h.2
    rw [vtTail_cons]
    simp [szAll]
    omega
end
mutual
theorem wf_sOk : ∀ {d : PyData}, wf d = true → (vt d).length ≤ 16777216 → sOk d = true
  | .tuple xs, h, z => by
    have := wfTail_sOk (l := xs) (by simpa [wf] using h) (by
      have h1 : (vt (.tuple xs)).length = (vtAll xs).length + 2 := by simp [vt]
      have h2 : (vtTail xs).length ≤ (vtAll xs).length + 1 := by
        cases xs with
        | nil => simp [vtTail]
        | cons d r => rw [vtTail_cons, vtAll_cons]; simp
      omega)
    simpa [sOk] using this
  | .none, _, _ => rfl
  | .str x, h, z => by
    have : (vt (.str x)).length = x.length := by simp [vt, Str.length]
    simp only [sOk, decide_eq_true_eq]
    omega
  | .int _, _, _ => rfl
  | .bool _, h, _ => by simp [wf] at h
  | .list _, h, _ => by simp [wf] at h
  | .dict _, h, _ => by simp [wf] at h
theorem wfTail_sOk : ∀ {l : List PyData}, wfAll l = true → (vtTail l).length ≤ 16777216 → sOkAll l = true
  | [], _, _ => rfl
  | d :: r, h, z => by
    simp only [wfAll, Bool.and_eq_true] at h
    rw [vtTail_cons] at z
    simp at z
    simp only [sOkAll, Bool.and_eq_true]
    exact ⟨wf_sOk h.1 (by omega), wfTail_sOk h.2 (by omega)⟩
end
end Sb

set_option Elab.async false
set_option linter.all false
set_option maxRecDepth 100000
set_option maxHeartbeats 4000000
namespace Kw
open PySem PySem.Spec PyProof.Rows L2 Sb
theorem scR : FnScope ["text", "found"] ["text"] (defScope (top 30)) := ⟨rfl, rfl, rfl, by decide +kernel, rfl, by decide +kernel, by decide +kernel⟩
/-- what read_value answers of any data -/
def readD : PyData → Option PyData
  | .str x => readV x.cps.toList
  | _ => none
def spRead (K : PySem.W.Frag) (C : Addr) : Sp := fun vs H Q E => ∃ v d, vs = [v] ∧ Dp K H v d ∧ (∀ x, d = .str x → x.length ≤ 1048576) ∧ (∀ e, readD d = some e → ∀ H' u, Same H H' → Dp K H' u e → Q u H') ∧ (readD d = none → Rz C H E)
section
variable {P : Program} {w : World} {K : PySem.W.Frag} {mg : Str → Option Value} {base : Heap} {C0 fI cc cda : Addr}
theorem ok_read_value {f : Addr} {fd : FuncData} (D : Df K mg "read_value" 30 f fd) (C : Con mg) (TN : Nt.Txt P K mg "NoText" "NoText.__init__" C0 fI cc cda) (c_is_value : Cl P w K mg base CX0 2 "is_value" ["thing"] (spVal K)) (c_pieces_of : Cl P w K mg base CX0 1 "pieces_of" ["text"] spPieces)
    (c_value_of : Cl P w K mg base CX0 3 "value_of" ["pieces"] (spValueOf K)) (c_value_text : Cl P w K mg base (L2.CX P w) 3 "value_text" ["value"] (spText K C0)) :
    Cl P w K mg base (L2.CX P w) 4 "read_value" ["text"] (spRead K C0) := by
  refine clX D (fun _ _ _ _ _ _ us hl => match us, hl with | [_], _ => rfl) scR (fun vs H Q E h => ?_) fun cdv A outer s H vs Q E hr h => ?_
  · obtain ⟨x, ps, rfl, _⟩ := h; rfl
  · have hu0 : (A.deeper (envOfC "read_value" (defScope (top 30)) s.heap.objs.size f cdv)).units < cLine := Nat.lt_of_le_of_lt (Nat.le_add_right _ _) hr.units
    refine ⟨_, (pss_cons (ps_if (pt_not (pt_val (pe_callB (call_isi) (by rfl) (C.nb _ (by decide)) bt_isinstance (pa_cons (pv 0) (pa_cons (pe_bltn (v := .ty "str") (by rfl) (C.nb _ (by decide)) bt_str rfl) pa_nil)))))
 (pss_one (Nt.ps_raiseN rfl TN hr (takes_of rfl rfl rfl rfl) (pa_cons pe_str (pa_cons pe_int pa_nil))))
 pss_nil)
 (pss_cons (ps_set (i := 1) scR.nd rfl (Or.inl rfl) (pe_q c_value_of hr (by decide) (by rfl) (pa_cons (pe_q c_pieces_of hr (by decide) (by rfl) (pa_cons (pv 0) pa_nil)) pa_nil)))
 (pss_cons (ps_if (PW.pt (pw_or (pt_cmpR (Sm.op_eqNil hu0) (pv 1) (pe_lst pa_nil) (nomark _))
 (pw_or (pt_not (pt_val (pe_q c_is_value hr (by decide) (by rfl) (pa_cons (pe_ix ix_list (pv 1) pe_int (fun _ _ => rfl)) pa_nil))))
 (pw_or1 (pt_cmpR op_ne (pe_qp c_value_text hr (by decide) (by rfl) passL (pa_cons (pe_ix ix_list (pv 1) pe_int (fun _ _ => rfl)) pa_nil)) (pv 0) (nomark _))))))
 (pss_one (Nt.ps_raiseN rfl TN hr (takes_of rfl rfl rfl rfl) (pa_cons pe_str (pa_cons pe_int pa_nil))))
 pss_nil)
 (pss_one (ps_ret (pe_ix ix_list (pv 1) pe_int (fun _ _ => rfl))))))), ?_⟩
    obtain ⟨v, d, rfl, hd, hz, q0, q1⟩ := h
    have bad : readD d = none → ∀ H', Same H H' → ∀ dd, H' dd = none → E (.ref C0) (some dd) (upd H' dd (.xd [(Nt.fld, .int 0)])) := fun e H' s' dd hdd => q1 e dd _ (s'.free hdd) (s'.updN (s'.free hdd)) upd_same
    refine ⟨_, rfl, ?_⟩
    dsimp only [tCons, tC, tNil]
    refine isi (K := K) hd (kit_str d) ⟨_, rfl, ?_⟩
    cases d with
    | str x =>
      cases hd
      refine iteF ?_
      obtain ⟨l, rfl⟩ : ∃ l, x = SX.S l := ⟨_, (SX.S_tl x).symm⟩
      have hl : (SX.S l).length = l.length := SX.S_len l
      have hcp : (SX.S l).cps.toList = l := by simp
      have hzl : l.length ≤ 1048576 := by have := hz _ rfl; rw [hl] at this; exact this
      have eR : readD (.str (SX.S l)) = readV l := by show readV (SX.S l).cps.toList = _; rw [hcp]
      rw [eR] at q0 bad
      obtain ⟨pa, pb⟩ := piecesGo_ok l.length l
      have pa' : ∀ p ∈ pieces l, p ≠ [] := pa
      have pb' : chars (pieces l) ≤ l.length := pb
      refine ⟨_, rfl, _, rfl, by rw [hl]; omega, fun H1 R hR s1 hR1 => ⟨R, pieces l, rfl, .inl (.inl (by rw [hR1, hcp])), ?_, fun p hp => ?_, ?_, ?_⟩⟩
      · have := chars_len pa'; omega
      · have := chars_mem hp; omega
      · -- nothing was found
        intro hn H2 F hF s2 hF2
        have er : readV l = none := by unfold readV; rw [hn]
        refine ⟨_, rfl, by show 0 ≤ sizeLine; decide, fun T hT => eqNil_r hF2 hT fun H3 s3 => ⟨_, rfl, iteT (iteT ?_)⟩⟩
        exact ⟨_, _, rfl, fun dd hdd => bad er H3 ((s1.trans s2).trans s3) dd hdd⟩
      · intro e hn H2 F u hF s2 hF2 hu2
        obtain ⟨we, le⟩ := valueOf_M (fun p d h => plain_leaf h) hn
        have se := wf_sz we
        have oe := wf_sOk we (by omega)
        refine ⟨_, rfl, by show 0 ≤ sizeLine; decide, fun T hT => eqNil_r hF2 hT fun H3 s3 => ⟨_, rfl, iteF ?_⟩⟩
        refine ⟨_, rfl, ⟨F, _, 0, u, rfl, rfl, .inl (.inl (s3 _ _ hF2)), rfl, ?_⟩⟩
        refine ⟨u, e, rfl, dp_same s3 hu2, oe, by omega, fun H4 s4 => ⟨_, rfl, ?_⟩⟩
        have sA := (s1.trans s2).trans (s3.trans s4)
        cases hv : isValue e with
        | false =>
          have er : readV l = none := by unfold readV; rw [hn]; simp [hv]
          exact iteT (iteT ⟨_, _, rfl, fun dd hdd => bad er H4 sA dd hdd⟩)
        | true =>
        refine iteF ?_
        refine ⟨_, rfl, ⟨F, _, 0, u, rfl, rfl, .inl (.inl ((s3.trans s4) _ _ hF2)), rfl, ?_⟩⟩
        refine ⟨u, e, rfl, dp_same (s3.trans s4) hu2, oe, by omega, fun _ => ⟨by omega, fun H5 s5 => ?_⟩, fun z => by rw [hv] at z; cases z⟩
        refine ⟨_, rfl, rfl, _, rfl, ?_⟩
        have sB := sA.trans s5
        by_cases ht : vt e = l
        · have er : readV l = some e := by unfold readV; rw [hn]; simp [hv, ht]
          rw [ht, decide_eq_true rfl]
          refine iteF ⟨_, rfl, ⟨F, _, 0, u, rfl, rfl, .inl (.inl (((s3.trans s4).trans s5) _ _ hF2)), rfl, ?_⟩⟩
          exact q0 e er H5 u sB (dp_same ((s3.trans s4).trans s5) hu2)
        · have er : readV l = none := by unfold readV; rw [hn]; simp [hv, ht]
          rw [decide_eq_false (fun z => ht (SX.S_inj (V.str.inj z)))]
          exact iteT ⟨_, _, rfl, fun dd hdd => bad er H5 sB dd hdd⟩
    | _ => exact iteT ⟨_, _, rfl, fun dd hdd => bad rfl H (Same.refl _) dd hdd⟩
end
end Kw

set_option Elab.async false
set_option linter.all false
set_option maxRecDepth 100000
set_option maxHeartbeats 4000000
namespace Kw
open PySem PySem.Spec PyProof.Rows L2 Sb
theorem scB : FnScope ["script", "great", "cell"] ["script"] (defScope (top 32)) := ⟨rfl, rfl, rfl, by decide +kernel, rfl, by decide +kernel, by decide +kernel⟩
theorem scM : FnScope ["state", "turn", "found", "prime", "blend", "cell"] ["state"] (defScope (top 33)) := ⟨rfl, rfl, rfl, by decide +kernel, rfl, by decide +kernel, by decide +kernel⟩
theorem scDr : FnScope ["state", "room", "found"] ["state", "room"] (defScope (top 34)) := ⟨rfl, rfl, rfl, by decide +kernel, rfl, by decide +kernel, by decide +kernel⟩
theorem scPk : FnScope ["state", "some"] ["state", "some"] (defScope (top 35)) := ⟨rfl, rfl, rfl, by decide +kernel, rfl, by decide +kernel, by decide +kernel⟩
abbrev kvs (G Cl : Addr) (r t : Int) : List (Key × V) := [(.inr "great", .ref G), (.inr "cells", .ref Cl), (.inr "rest", .int r), (.inr "turn", .int t)]
theorem v_great {G Cl : Addr} {r t : Int} : valV (kvs G Cl r t) (.inr "great") = some (.ref G) := by rfl
theorem v_cells {G Cl : Addr} {r t : Int} : valV (kvs G Cl r t) (.inr "cells") = some (.ref Cl) := by rfl
theorem v_rest {G Cl : Addr} {r t : Int} : valV (kvs G Cl r t) (.inr "rest") = some (.int r) := by rfl
theorem v_turn {G Cl : Addr} {r t : Int} : valV (kvs G Cl r t) (.inr "turn") = some (.int t) := by rfl
theorem p_rest {G Cl : Addr} {r t r' : Int} : putK (kvs G Cl r t) (.inr "rest") (.int r') = kvs G Cl r' t := by rfl
theorem p_turn {G Cl : Addr} {r t t' : Int} : putK (kvs G Cl r t) (.inr "turn") (.int t') = kvs G Cl r t' := by rfl
/-- the state of the draws -/
structure Sta (H : Hp) (st G Cl : Addr) (gs cs : List Int) (r t : Int) : Prop where
  d : H st = some (.dK (kvs G Cl r t))
  g : H G = some (.lst (gs.map V.int))
  c : H Cl = some (.lst (cs.map V.int))
  g0 : ∀ x ∈ gs, 0 ≤ x
  c0 : ∀ x ∈ cs, 0 ≤ x
  r0 : 0 ≤ r
  t0 : 0 ≤ t
  n1 : st ≠ G
  n2 : st ≠ Cl
  n3 : G ≠ Cl
def StB (H : Hp) (st G Cl : Addr) (n : Nat) : Prop := ∃ gs cs r t, Sta H st G Cl gs cs r t ∧ t ≤ (n : Int)
theorem Sta.same {H H' : Hp} {st G Cl : Addr} {gs cs : List Int} {r t : Int} (h : Sta H st G Cl gs cs r t) (s : Same H H') : Sta H' st G Cl gs cs r t := ⟨s _ _ h.d, s _ _ h.g, s _ _ h.c, h.g0, h.c0, h.r0, h.t0, h.n1, h.n2, h.n3⟩
theorem StB.same {H H' : Hp} {st G Cl : Addr} {n : Nat} (h : StB H st G Cl n) (s : Same H H') : StB H' st G Cl n := by
  obtain ⟨gs, cs, r, t, a, b⟩ := h
  exact ⟨gs, cs, r, t, a.same s, b⟩
theorem StB.mono {H : Hp} {st G Cl : Addr} {n m : Nat} (h : StB H st G Cl n) (hm : n ≤ m) : StB H st G Cl m := by
  obtain ⟨gs, cs, r, t, a, b⟩ := h
  exact ⟨gs, cs, r, t, a, by omega⟩
section
variable {H : Hp} {st G Cl : Addr} {gs cs : List Int} {r t : Int}
theorem Sta.gGreat (h : Sta H st G Cl gs cs r t) : DGet H st (.str "great") (some (.ref G)) := v_great ▸ DGet.k (k := .inr "great") h.d
theorem Sta.gCells (h : Sta H st G Cl gs cs r t) : DGet H st (.str "cells") (some (.ref Cl)) := v_cells ▸ DGet.k (k := .inr "cells") h.d
theorem Sta.gRest (h : Sta H st G Cl gs cs r t) : DGet H st (.str "rest") (some (.int r)) := v_rest ▸ DGet.k (k := .inr "rest") h.d
theorem Sta.gTurn (h : Sta H st G Cl gs cs r t) : DGet H st (.str "turn") (some (.int t)) := v_turn ▸ DGet.k (k := .inr "turn") h.d
theorem kvs_len {G Cl : Addr} {r t : Int} : (kvs G Cl r t).length < sizeLine := by show 4 < sizeLine; decide
theorem Sta.pRest (h : Sta H st G Cl gs cs r t) (r' : Int) : DPut H st (.str "rest") (.int r') (upd H st (.dK (kvs G Cl r' t))) := p_rest ▸ DPut.k (k := .inr "rest") (v := .int r') h.d kvs_len
theorem Sta.pTurn (h : Sta H st G Cl gs cs r t) (t' : Int) : DPut H st (.str "turn") (.int t') (upd H st (.dK (kvs G Cl r t'))) := p_turn ▸ DPut.k (k := .inr "turn") (v := .int t') h.d kvs_len
theorem Sta.rest (h : Sta H st G Cl gs cs r t) (r' t' : Int) (h1 : 0 ≤ r') (h2 : 0 ≤ t') : Sta (upd H st (.dK (kvs G Cl r' t'))) st G Cl gs cs r' t' :=
  ⟨upd_same, (upd_ne (Ne.symm h.n1)).trans h.g, (upd_ne (Ne.symm h.n2)).trans h.c, h.g0, h.c0, h1, h2, h.n1, h.n2, h.n3⟩
theorem tupK_dk {K : PySem.W.Frag} {H : Hp} {R : Addr} {xs : List (Key × V)} {o : HO} (h : H R = some (.dK xs)) : TupK K H (upd H R o) := fun a zs s => by
  have ne : ∀ u, H a = some u → u ≠ .dK xs → a ≠ R := fun u e n z => by
    rw [z, h] at e
    exact n (Option.some.inj e).symm
  rcases s with (s | ⟨o, s⟩) | s
  · exact .inl (.inl (by rw [upd_ne (ne _ s (by intro z; cases z))]; exact s))
  · exact .inl (.inr ⟨o, by rw [upd_ne (ne _ s (by intro z; cases z))]; exact s⟩)
  · exact .inr s
theorem Sta.kp {K : PySem.W.Frag} (h : Sta H st G Cl gs cs r t) (r' t' : Int) : Kp K st G H (upd H st (.dK (kvs G Cl r' t'))) := ⟨tupK_dk h.d, fun b o h1 h2 e => by rw [upd_ne h1]; exact e⟩
end
def spBegun (K : PySem.W.Frag) : Sp := fun vs H Q _ => ∃ (a : Addr) (ns : List Int), vs = [.ref a] ∧ SqL K H a (ns.map V.int) ∧ ns.length ≤ 1000 ∧ ∀ H' st G Cl, Same H H' → H st = none → H G = none → H Cl = none → StB H' st G Cl 0 → Q (.ref st) H'
def spMixed (K : PySem.W.Frag) : Sp := fun vs H Q _ => ∃ st G Cl gs cs r t, vs = [.ref st] ∧ Sta H st G Cl gs cs r t ∧ t ≤ 1000000 ∧ ∀ H' i, (0 : Int) ≤ i → Kp K st G H H' → Sta H' st G Cl gs cs r (t + 1) → Q (.int i) H'
def spDraw (K : PySem.W.Frag) : Sp := fun vs H Q _ => ∃ st G Cl n room, vs = [.ref st, .int room] ∧ StB H st G Cl n ∧ n ≤ 1000000 ∧ 1 ≤ room ∧ room < 2 ^ 30 ∧ ∀ H' i, (0 : Int) ≤ i → i < room → Kp K st G H H' → StB H' st G Cl (n + 1) → Q (.int i) H'
def spPick (K : PySem.W.Frag) : Sp := fun vs H Q _ => ∃ st G Cl n S xs, vs = [.ref st, .ref S] ∧ StB H st G Cl n ∧ n ≤ 1000000 ∧ H S = some (.lst xs) ∧ S ≠ st ∧ S ≠ G ∧ xs ≠ [] ∧ xs.length < 1000 ∧ ∀ H' (i : Nat) x, xs[i]? = some x → Kp K st G H H' → StB H' st G Cl (n + 1) → Q x H'
section
variable {P : Program} {w : World} {K : PySem.W.Frag} {mg : Str → Option Value} {base : Heap}
theorem ok_begun {f : Addr} {fd : FuncData} (D : Df K mg "_law_begun" 32 f fd) (C : Con mg) : Cl P w K mg base CX0 1 "_law_begun" ["script"] (spBegun K) := by
  refine cl0 D (fun _ _ _ _ _ _ us hl => match us, hl with | [_], _ => rfl) scB (fun vs H Q E h => ?_) fun cdv A outer s H vs Q E hr h => ?_
  · obtain ⟨a, ns, rfl, _⟩ := h; rfl
  · refine ⟨_, (pss_cons (ps_setLc (i := 1) (own := [("cell", 2)]) (g := gName 2) rfl scB.nd rfl rfl (sw_true rfl rfl rfl (by decide +kernel)) (pi_list (pv 0)) (blkOk_by (own := [("cell", 2)]) (N := ["script", "great", "cell"]) (sc := defScope (top 32)) (by decide +kernel)) (fun _ _ _ _ _ => pg_name (i := 2) scB.nd rfl (Or.inl rfl)) (fun _ _ _ _ _ => (pts_one (pt_cmpR op_ge (pe_callB (call_abs) (by rfl) (C.nb _ (by decide)) bt_abs (pa_cons (pv 2) pa_nil)) (pe_op op_pow pe_int pe_int) (nomark _))))
 (fun _ _ _ _ _ => (pe_op op_sub (pe_callB (call_abs) (by rfl) (C.nb _ (by decide)) bt_abs (pa_cons (pv 2) pa_nil)) (pe_op op_pow pe_int pe_int))))
 (pss_one (ps_ret (pe_disp (pps_cons pe_str (pv 1) (pps_cons pe_str (pe_lc (own := [("cell", 2)]) (g := gName 2) (tt := tYes) rfl scB.nd (pi_list (pv 0)) (blkOk_by (own := [("cell", 2)]) (N := ["script", "great", "cell"]) (sc := defScope (top 32)) (by decide +kernel)) (fun _ _ _ _ _ => pg_name (i := 2) scB.nd rfl (Or.inl rfl)) (fun _ _ _ _ _ => pts_nil)
 (fun _ _ _ _ _ => (pe_callB (call_abs) (by rfl) (C.nb _ (by decide)) bt_abs (pa_cons (pv 2) pa_nil)))) (pps_cons pe_str pe_int (pps_cons pe_str pe_int pps_nil)))) (by rfl) (by rfl) (by simp) (by decide))))), ?_⟩
    obtain ⟨a, ns, rfl, hS, hnl, q⟩ := h
    have hid : ∀ i x, (ns.map V.int)[i]? = some x → ∃ z, ns[i]? = some z ∧ x = V.int z := fun i x e => by
      rw [List.getElem?_map] at e
      cases e2 : ns[i]? with
      | none => rw [e2] at e; cases e
      | some z => rw [e2] at e; exact ⟨z, e2, (Option.some.inj e).symm⟩
    refine ⟨_, rfl, a, rfl, ⟨_, hS⟩, fun G hG => ?_⟩
    refine lc_list (xs := ns.map V.int) (fun i Hi => ∃ gs : List Int, Hi G = some (.lst (gs.map V.int)) ∧ gs.length ≤ i ∧ (∀ x ∈ gs, 0 ≤ x) ∧ Same H Hi) ⟨[], upd_same, Nat.le_refl _, by simp, L2.Same.upd hG⟩ (fun i Hi _ ⟨_, _, _, _, s⟩ => s.seq hS) ?_ ?_
    · rintro i x Hi hx ⟨gs, hg, hgl, hg0, si⟩
      obtain ⟨z, hz, rfl⟩ := hid i x hx
      have hi : i < 1000 := by
        have := (List.getElem?_eq_some_iff.mp hz).1
        omega
      refine ⟨rfl, _, rfl, z, rfl, _, _, rfl, rfl, ⟨by decide, by decide, by decide⟩, _, _, rfl, rfl, _, rfl, ?_⟩
      refine ite2 (fun c => ?_) fun c => ⟨gs, hg, by omega, hg0, si⟩
      have c' := of_decide_eq_true c
      refine ⟨_, rfl, z, rfl, _, _, rfl, rfl, ⟨by decide, by decide, by decide⟩, _, _, rfl, rfl, _, hg, by rw [List.length_map, sizeLine_eq]; omega, gs ++ [(if z < 0 then -z else z) - 10 ^ (18 : Int).toNat], ?_, by simp; omega, fun y hy => ?_, si.updN hG⟩
      · rw [upd_same, List.map_append]; rfl
      · rcases List.mem_append.mp hy with h | h
        · exact hg0 y h
        · rw [List.mem_singleton.mp h]
          omega
    · rintro H1 ⟨gs, hg, hgl, hg0, s1⟩
      refine fun st hst => ⟨_, rfl, _, rfl, a, rfl, ⟨_, (s1.updN (s1.free hst)).seq hS⟩, fun Cl hCl => ?_⟩
      have hst0 := s1.free hst
      have s2 := s1.updN (o := .dK []) hst0
      have hCl0 := s2.free hCl
      refine lc_map walk_list (fun i => .int (if ns.getD i 0 < 0 then -(ns.getD i 0) else ns.getD i 0)) hCl (by rw [List.length_map, sizeLine_eq]; omega) (fun Hx sx => (s2.trans sx).seq hS) (fun i y Hx Hx' Kt hi sx hy hk => ?_) fun Hx sx hx => ?_
      · obtain ⟨rfl, hy⟩ := hy
        obtain ⟨z, hz, rfl⟩ := hid i y hy
        refine ⟨rfl, _, rfl, z, rfl, ?_⟩
        have := hk _ (Same.refl _)
        rw [List.getD_eq_getElem?_getD, hz] at this
        exact this
      · have hGst : st ≠ G := fun z => by rw [z, hg] at hst; cases hst
        have hClst : st ≠ Cl := fun z => by rw [z, upd_same] at hCl; cases hCl
        have hG2 : upd H1 st (.dK []) G = some (.lst (gs.map V.int)) := (upd_ne (Ne.symm hGst)).trans hg
        have hGCl : G ≠ Cl := fun z => by rw [← z, hG2] at hCl; cases hCl
        refine ⟨sx _ _ upd_same, [(.inr "great", .ref G), (.inr "cells", .ref Cl), (.inr "rest", .int 0), (.inr "turn", .int 0)], rfl, by show 4 ≤ 15; decide, ?_⟩
        have em : mergeK [] [(Sum.inr ("great" : Str), V.ref G), (Sum.inr "cells", V.ref Cl), (Sum.inr "rest", V.int 0), (Sum.inr "turn", V.int 0)] = kvs G Cl 0 0 := by rfl
        rw [em]
        have hxst := sx _ _ (upd_same (H := H1) (a := st) (o := .dK []))
        refine q _ st G Cl ((s2.trans sx).updN hst0) hst0 hG hCl0 ⟨gs, (List.range (ns.map V.int).length).map (fun i => if ns.getD i 0 < 0 then -(ns.getD i 0) else ns.getD i 0), 0, 0, ⟨upd_same, (upd_ne (Ne.symm hGst)).trans (sx _ _ hG2), (upd_ne (Ne.symm hClst)).trans (by rw [hx, List.map_map]; rfl), hg0, fun y hy => ?_, Int.le_refl _, Int.le_refl _, hGst, hClst, hGCl⟩, Int.le_refl _⟩
        obtain ⟨i, _, rfl⟩ := List.mem_map.mp hy
        split <;> omega
theorem ok_mixed {f : Addr} {fd : FuncData} (D : Df K mg "_law_mixed" 33 f fd) (C : Con mg) : Cl P w K mg base CX0 1 "_law_mixed" ["state"] (spMixed K) := by
  refine cl0 D (fun _ _ _ _ _ _ us hl => match us, hl with | [_], _ => rfl) scM (fun vs H Q E h => ?_) fun cdv A outer s H vs Q E hr h => ?_
  · obtain ⟨a, _, _, _, _, _, _, rfl, _⟩ := h; rfl
  · have hu1 := hu_of hr
    refine ⟨_, (pss_cons (ps_par (i := 1) (j := 2) rfl scM.nd rfl rfl (by decide) rfl rfl (pa_cons (pe_op op_add (pe_dget hu1 (pv 0) pe_str (fun _ _ => rfl)) pe_int) (pa_cons pe_int pa_nil)) (by rfl))
 (pss_cons (ps_dput hu1 (pv 0) pe_str (pv 1) rfl)
 (pss_cons (ps_for PassesOwn.never rfl (pi_list (pe_lst (pa_cons pe_int (pa_cons pe_int (pa_cons pe_int (pa_cons pe_int pa_nil)))))) (pg_name (i := 3) scM.nd rfl (Or.inl rfl))
 (pss_cons (ps_set (i := 4) scM.nd rfl (Or.inl rfl) (pe_op op_add (pe_op op_mul pe_int (pv 1)) (pe_op op_fdiv (pv 3) pe_int)))
 (pss_cons (ps_for PassesOwn.never rfl (pi_list (pe_dget hu1 (pv 0) pe_str (fun _ _ => rfl))) (pg_name (i := 5) scM.nd rfl (Or.inl rfl))
 (pss_one (ps_set (i := 4) scM.nd rfl (Or.inl rfl) (pe_op op_mod (pe_callTy (call_int1) (by rfl) (C.nb _ (by decide)) bt_int (pa_cons (pe_op op_add (pe_op op_add (pe_op op_mul (pv 4) pe_int) (pv 5)) (pv 1)) pa_nil)) (pv 3)))))
 (pss_one (ps_set (i := 2) scM.nd rfl (Or.inl rfl) (pe_op op_add (pe_op op_mul (pv 2) pe_int) (pe_op op_mod (pe_callTy (call_int1) (by rfl) (C.nb _ (by decide)) bt_int (pa_cons (pe_op op_pow (pv 4) pe_int) pa_nil)) (pv 3))))))))
 (pss_one (ps_ret (pv 2)))))), ?_⟩
    obtain ⟨st, G, Cl, gs, cs, r, t, rfl, hst, ht, q⟩ := h
    have ht0 := hst.t0
    refine ⟨_, rfl, st, _, rfl, hst.gTurn, _, _, rfl, rfl, _, _, rfl, ?_⟩
    refine ⟨_, rfl, _, rfl, st, _, rfl, hst.pTurn _, ?_⟩
    have hst1 := hst.rest (t + 1 : Int) (t + 1) (by omega) (by omega)
    have hs1 : Sta (upd H st (.dK (kvs G Cl r (t + 1)))) st G Cl gs cs r (t + 1) := hst.rest r (t + 1) hst.r0 (by omega)
    have k1 : Kp K st G H (upd H st (.dK (kvs G Cl r (t + 1)))) := hst.kp r (t + 1)
    generalize upd H st (.dK (kvs G Cl r (t + 1))) = H1 at hs1 k1
    refine ⟨by show 4 ≤ sizeLine; decide, fun B hB => ⟨B, rfl, ⟨_, .inl (.inl upd_same)⟩, ?_⟩⟩
    have hs2 := hs1.same (L2.Same.upd (o := .lst [.int 2147483629, .int 2147483587, .int 2147483579, .int 2147483563]) hB)
    have k2 : Kp K st G H (upd H1 B (.lst [.int 2147483629, .int 2147483587, .int 2147483579, .int 2147483563])) := k1.trans (kp_same (L2.Same.upd hB))
    have hB2 : upd H1 B (.lst [.int 2147483629, .int 2147483587, .int 2147483579, .int 2147483563]) B = some (.lst [.int 2147483629, .int 2147483587, .int 2147483579, .int 2147483563]) := upd_same
    generalize upd H1 B (.lst [.int 2147483629, .int 2147483587, .int 2147483579, .int 2147483563]) = H2 at hs2 k2 hB2
    refine for_it walk_list (fun i σ Hi => ∃ (f : Int) (a b c : Option V), σ = [some (.ref st), some (.int (t + 1)), some (.int f), a, b, c] ∧ 0 ≤ f ∧ H2 = Hi) ⟨0, none, none, none, rfl, Int.le_refl _, rfl⟩ (fun i σ Hi _ ⟨_, _, _, _, _, _, e⟩ => .inl (.inl (e ▸ hB2))) ?_ ?_
    · rintro i x σ Hi Hi' hi ⟨f, a, b, c, rfl, hf, rfl⟩ ⟨hE, hx⟩
      obtain rfl := hE.symm
      obtain ⟨p, rfl, hp1, hp2⟩ : ∃ p : Int, x = .int p ∧ 41 ≤ p ∧ p < 2147483648 := by
        match i, hx with
        | 0, hx => exact ⟨_, (Option.some.inj hx).symm, by decide, by decide⟩
        | 1, hx => exact ⟨_, (Option.some.inj hx).symm, by decide, by decide⟩
        | 2, hx => exact ⟨_, (Option.some.inj hx).symm, by decide, by decide⟩
        | 3, hx => exact ⟨_, (Option.some.inj hx).symm, by decide, by decide⟩
        | i + 4, hx => simp at hx
      refine ⟨_, rfl, _, _, rfl, rfl, .inl ⟨by decide, by decide⟩, _, rfl, _, _, rfl, rfl, ⟨by decide, by decide⟩, _, _, rfl, rfl, ?_⟩
      refine ⟨_, rfl, st, _, rfl, hs2.gCells, Cl, rfl, ⟨_, .inl (.inl hs2.c)⟩, ?_⟩
      refine for_it walk_list (fun j σ Hj => ∃ (e : Int) (c : Option V), σ = [some (.ref st), some (.int (t + 1)), some (.int f), some (.int p), some (.int e), c] ∧ 0 ≤ e ∧ e < 2 ^ 60 ∧ H2 = Hj) ⟨_, _, rfl, by omega, by omega, rfl⟩ (fun j σ Hj _ ⟨_, _, _, _, _, e⟩ => .inl (.inl (e ▸ hs2.c))) ?_ ?_
      · rintro j y σ Hj Hj' hj ⟨e, c, rfl, he0, he1, rfl⟩ ⟨hE, hy⟩
        obtain rfl := hE.symm
        rw [List.getElem?_map] at hy
        obtain ⟨z, hz, rfl⟩ : ∃ z, cs[j]? = some z ∧ y = V.int z := by
          cases e2 : cs[j]? with
          | none => rw [e2] at hy; cases hy
          | some z => rw [e2] at hy; exact ⟨z, rfl, (Option.some.inj hy).symm⟩
        refine ⟨_, rfl, _, _, rfl, rfl, .inl ⟨by omega, by omega⟩, _, rfl, _, _, rfl, rfl, _, rfl, _, _, rfl, rfl, .inl ⟨_, rfl, _, rfl, _, _, rfl, rfl, by omega, ?_⟩⟩
        refine ⟨_, _, rfl, Int.emod_nonneg _ (by omega), ?_, rfl⟩
        have := Int.emod_lt_of_pos (e * 48271 + z + (t + 1)) (show (0 : Int) < p by omega)
        omega
      · rintro σ Hj ⟨e, c, rfl, he0, he1, rfl⟩
        refine ⟨_, rfl, _, _, rfl, rfl, .inr ⟨by decide, by decide⟩, _, rfl, _, _, rfl, rfl, ⟨by decide, by decide, by omega⟩, .inl ⟨_, rfl, _, rfl, _, _, rfl, rfl, by omega, _, _, rfl, rfl, ?_⟩⟩
        refine ⟨_, _, _, _, rfl, ?_, rfl⟩
        have := Int.emod_nonneg (e ^ (5 : Int).toNat) (show p ≠ 0 by omega)
        omega
    · rintro σ Hi ⟨f, a, b, c, rfl, hf, rfl⟩
      exact ⟨_, rfl, q _ f hf k2 hs2⟩
theorem ok_draw {f : Addr} {fd : FuncData} (D : Df K mg "_law_draw" 34 f fd) (C : Con mg) (c_law_mixed : Cl P w K mg base CX0 1 "_law_mixed" ["state"] (spMixed K)) : Cl P w K mg base CX0 2 "_law_draw" ["state", "room"] (spDraw K) := by
  refine cl0 D (fun _ _ _ _ _ _ us hl => match us, hl with | [_, _], _ => rfl) scDr (fun vs H Q E h => ?_) fun cdv A outer s H vs Q E hr h => ?_
  · obtain ⟨a, _, _, _, _, rfl, _⟩ := h; rfl
  · have hu1 := hu_of hr
    have hu0 : (A.deeper (envOfC "_law_draw" (defScope (top 34)) s.heap.objs.size f cdv)).units < cLine := Nat.lt_of_le_of_lt (Nat.le_add_right _ _) hr.units
    refine ⟨_, (pss_cons (ps_if (pt_cmpR op_eq (pe_dget hu1 (pv 0) pe_str (fun _ _ => rfl)) pe_int (nomark _))
 (pss_one (ps_dput hu1 (pv 0) pe_str (pe_ifExp (pt_cmpR (Sm.op_neNil hu0) (pe_dget hu1 (pv 0) pe_str (fun _ _ => rfl)) (pe_lst pa_nil) (nomark _)) (pe_bm PySem.F.plainAttrs_list PySem.F.slot_list_pop PySem.F.type_list_pop mt_popAt (pe_dget hu1 (pv 0) pe_str (fun _ _ => rfl)) (pa_cons pe_int pa_nil)) (pe_q c_law_mixed hr (by decide) (by rfl) (pa_cons (pv 0) pa_nil))) rfl))
 pss_nil)
 (pss_cons (ps_set (i := 2) scDr.nd rfl (Or.inl rfl) (pe_op op_mod (pe_callTy (call_int1) (by rfl) (C.nb _ (by decide)) bt_int (pa_cons (pe_dget hu1 (pv 0) pe_str (fun _ _ => rfl)) pa_nil)) (pv 1)))
 (pss_cons (ps_dput hu1 (pv 0) pe_str (pe_op op_fdiv (pe_dget hu1 (pv 0) pe_str (fun _ _ => rfl)) (pv 1)) rfl)
 (pss_one (ps_ret (pv 2)))))), ?_⟩
    obtain ⟨st, G, Cl, n, room, rfl, ⟨gs, cs, r, t, hst, htn⟩, hn, h1, h2, q⟩ := h
    -- behind the rest
    have fin : ∀ (H1 : Hp) (gs' : List Int) (r' t' : Int), Kp K st G H H1 → Sta H1 st G Cl gs' cs r' t' → t' ≤ ((n + 1 : Nat) : Int) →
        tSeq (tAsg (tOp (rI (fun _ j => 0 < j) fun i j => .int (i % j)) (tCB (fun xs H Q => (∃ i, xs = [.int i] ∧ Q (.int i) H) ∨ ∃ k, xs = [.bl k] ∧ Q (.int (if k then 1 else 0)) H) (tCons (tDGet (tVar 0) (tC (.str "rest"))) tNil)) (tVar 1)) (gName 2))
          (tSeq (sDPut (tVar 0) (tC (.str "rest")) (tOp (rI CDiv fun i j => .int (i / j)) (tDGet (tVar 0) (tC (.str "rest"))) (tVar 1))) (tRet (tVar 2))) { nx := fun _ H' => Q .non H', rt := Q } [some (.ref st), some (.int room), none] H1 := by
      intro H1 gs' r' t' k1 hs1 ht'
      refine ⟨_, rfl, st, _, rfl, hs1.gRest, .inl ⟨r', rfl, _, rfl, _, _, rfl, rfl, by omega, ?_⟩⟩
      refine ⟨_, rfl, st, _, rfl, hs1.gRest, _, rfl, _, _, rfl, rfl, ⟨by omega, h2⟩, _, rfl, st, _, rfl, hs1.pRest _, _, rfl, ?_⟩
      have hr0 := hs1.r0
      have ht0 := hs1.t0
      exact q _ _ (Int.emod_nonneg _ (by omega)) (Int.emod_lt_of_pos _ (by omega)) (k1.trans (hs1.kp _ _)) ⟨gs', cs, _, _, hs1.rest _ _ (Int.ediv_nonneg hr0 (by omega)) ht0, ht'⟩
    refine ⟨_, rfl, st, _, rfl, hst.gRest, rfl, _, rfl, ?_⟩
    by_cases hr0 : r = 0
    · subst hr0
      rw [decide_eq_true rfl]
      refine iteT ⟨_, rfl, st, _, rfl, hst.gGreat, by show 0 ≤ sizeLine; decide, fun T hT => eqNil_r hst.g hT fun H2 s2 => ⟨_, rfl, ?_⟩⟩
      have hst2 := hst.same s2
      cases gs with
      | nil =>
        refine iteF ⟨_, rfl, st, G, Cl, _, _, _, _, rfl, hst2, by omega, fun H3 i hi k3 hst3 => ?_⟩
        refine ⟨_, rfl, st, _, rfl, hst3.pRest _, ?_⟩
        have ht0 := hst3.t0
        exact fin _ _ _ _ (((kp_same s2).trans k3).trans (hst3.kp _ _)) (hst3.rest i _ hi ht0) (by push_cast; omega)
      | cons g0 gs' =>
        have hg0 := hst2.g0 g0 List.mem_cons_self
        refine iteT ⟨_, rfl, st, _, rfl, hst2.gGreat, .inl ⟨rfl, _, .inl (.inl hst2.g)⟩, ⟨G, _, 0, 0, .int g0, rfl, rfl, hst2.g, by decide, by decide, by simp [seqIndex?], rfl, ?_⟩⟩
        have k3 : Kp K st G H2 (upd H2 G (.lst (List.map V.int gs'))) := kp_lst hst2.g (.inr rfl)
        have hst3 : Sta (upd H2 G (.lst (List.map V.int gs'))) st G Cl gs' cs 0 t := ⟨(upd_ne hst2.n1).trans hst2.d, upd_same, (upd_ne (Ne.symm hst2.n3)).trans hst2.c, fun x hx => hst2.g0 x (List.mem_cons_of_mem _ hx), hst2.c0, hst2.r0, hst2.t0, hst2.n1, hst2.n2, hst2.n3⟩
        refine ⟨_, rfl, st, _, rfl, hst3.pRest _, ?_⟩
        have ht0 := hst3.t0
        exact fin _ _ _ _ (((kp_same s2).trans k3).trans (hst3.kp _ _)) (hst3.rest g0 _ hg0 ht0) (by push_cast; omega)
    · rw [decide_eq_false (fun z => hr0 (V.int.inj z))]
      exact iteF (fin H gs r t (kp_same (Same.refl _)) hst (by push_cast; omega))
theorem ok_pick {f : Addr} {fd : FuncData} (D : Df K mg "_law_pick" 35 f fd) (C : Con mg) (c_law_draw : Cl P w K mg base CX0 2 "_law_draw" ["state", "room"] (spDraw K)) : Cl P w K mg base CX0 3 "_law_pick" ["state", "some"] (spPick K) := by
  refine cl0 D (fun _ _ _ _ _ _ us hl => match us, hl with | [_, _], _ => rfl) scPk (fun vs H Q E h => ?_) fun cdv A outer s H vs Q E hr h => ?_
  · obtain ⟨a, _, _, _, _, _, rfl, _⟩ := h; rfl
  · refine ⟨_, (pss_one (ps_ret (pe_ix ix_list (pv 1) (pe_q c_law_draw hr (by decide) (by rfl) (pa_cons (pv 0) (pa_cons (pe_callB (call_len_seq) (by rfl) (C.nb _ (by decide)) bt_len (pa_cons (pv 1) pa_nil)) pa_nil))) (fun _ _ => rfl)))), ?_⟩
    obtain ⟨st, G, Cl, n, S, xs, rfl, hst, hn, hS, hSt, hSG, hne, hxl, q⟩ := h
    have hlp := List.length_pos_iff.mpr hne
    refine ⟨_, rfl, _, rfl, _, rfl, S, xs, rfl, .inl (.inl (.inl hS)), st, G, Cl, n, xs.length, rfl, hst, hn, by omega, by omega, fun H1 i hi1 hi2 k1 st1 => ?_⟩
    obtain ⟨j, rfl⟩ : ∃ j : Nat, i = (j : Int) := ⟨i.toNat, by omega⟩
    have hj : j < xs.length := by omega
    have hx : xs[j]? = some xs[j] := by simp [hj]
    exact ⟨S, xs, j, _, rfl, rfl, .inl (.inl (k1.at_ _ _ hSt hSG hS)), atI_nat hx, q H1 j _ hx k1 st1⟩
end
end Kw

set_option Elab.async false
set_option linter.all false
set_option maxRecDepth 100000
set_option maxHeartbeats 4000000
namespace Kw
open PySem PySem.Spec PyProof.Rows L2 Sb
theorem scN : FnScope ["many", "one", "lap"] ["many", "one"] (defScope (top 42)) := ⟨rfl, rfl, rfl, by decide +kernel, rfl, by decide +kernel, by decide +kernel⟩
theorem scPl : FnScope ["value", "one"] ["value"] (defScope (top 36)) := ⟨rfl, rfl, rfl, by decide +kernel, rfl, by decide +kernel, by decide +kernel⟩
theorem scLt : FnScope ["value", "one"] ["value"] (defScope (top 38)) := ⟨rfl, rfl, rfl, by decide +kernel, rfl, by decide +kernel, by decide +kernel⟩
def nest : Nat → PyData → PyData
  | 0, d => d
  | n + 1, d => .tuple [nest n d]
def spNested (K : PySem.W.Frag) : Sp := fun vs H Q _ => ∃ (n : Nat) (v : V) (d : PyData), vs = [.int n, v] ∧ n ≤ 1000 ∧ Dp K H v d ∧ ∀ H' u, Same H H' → Dp K H' u (nest n d) → Q u H'
def spPlainL (K : PySem.W.Frag) (n : Nat) : Sp := fun vs H Q _ => ∃ v d, vs = [v] ∧ Dp K H v d ∧ nol d = true ∧ dep d < n ∧ ∀ H', Same H H' → Q (.bl true) H'
def spLt (K : PySem.W.Frag) (n : Nat) : Sp := fun vs H Q _ => ∃ v d, vs = [v] ∧ Dp K H v d ∧ wf d = true ∧ dep d < n ∧ (vt d).length ≤ 4194304 ∧ ∀ H', Same H H' → Q (.str (SX.S (vt d))) H'
def isDi : PyData → Bool | .dict _ => true | _ => false
def isLi : PyData → Bool | .list _ => true | _ => false
def isIn : PyData → Bool | .int _ => true | .bool _ => true | _ => false
def isSt : PyData → Bool | .str _ => true | _ => false
theorem kitDi (d : PyData) : kitB (tyD d) "dict" = some (isDi d) := by rw [kit_dict]; cases d <;> rfl
theorem kitLi (d : PyData) : kitB (tyD d) "list" = some (isLi d) := by rw [kit_list]; cases d <;> rfl
theorem kitIn (d : PyData) : kitB (tyD d) "int" = some (isIn d) := by rw [kit_int]; cases d <;> rfl
theorem kitSt (d : PyData) : kitB (tyD d) "str" = some (isSt d) := by rw [kit_str]; cases d <;> rfl
theorem kit2 {K : PySem.W.Frag} {t a b : String} {x y : Bool} (h1 : kitB t a = some x) (h2 : kitB t b = some y) : PySem.W.kitAny K (.type t) [.type a, .type b] = some (x || y) :=
  kitAny_cons (kit_ty h1) (fun e => by subst e; exact kitAny_cons (kit_ty h2) (fun e => by subst e; rfl) (fun e => by subst e; rfl)) fun e => by subst e; rfl
theorem isi2 {K : PySem.W.Frag} {H : Hp} {v : V} {d : PyData} {T : Addr} {a b : String} {x y : Bool} {Q : VK} (h : Dp K H v d) (hT : H T = none) (h1 : kitB (tyD d) a = some x) (h2 : kitB (tyD d) b = some y) (q : Q (.bl (x || y)) (upd H T (.tup [.ty a, .ty b]))) : rIsiT K [v, .ref T] (upd H T (.tup [.ty a, .ty b])) Q :=
  ⟨v, T, _, _, [.type a, .type b], _, rfl, upd_same, .cons (.ty a) (.cons (.ty b) .nil), tyX_of (dp_same (L2.Same.upd hT) h), kit2 h1 h2, q⟩
theorem nolAll_mem : ∀ {l : List PyData} {d : PyData}, nolAll l = true → d ∈ l → nol d = true
  | c :: r, d, h, hm => by
    simp only [nolAll, Bool.and_eq_true] at h
    rcases List.mem_cons.mp hm with z | z
    · rw [z]; exact h.1
    · exact nolAll_mem h.2 z
section
variable {P : Program} {w : World} {K : PySem.W.Frag} {mg : Str → Option Value} {base : Heap}
theorem ok_nested {f : Addr} {fd : FuncData} (D : Df K mg "_law_nested" 42 f fd) (C : Con mg) : Cl P w K mg base CX0 1 "_law_nested" ["many", "one"] (spNested K) := by
  refine cl0 D (fun _ _ _ _ _ _ us hl => match us, hl with | [_, _], _ => rfl) scN (fun vs H Q E h => ?_) fun cdv A outer s H vs Q E hr h => ?_
  · obtain ⟨n, v, d, rfl, _⟩ := h; rfl
  · refine ⟨_, (pss_cons (ps_for PassesOwn.never rfl (pi_range1 (by rfl) (C.nb _ (by decide)) (pa_cons (pv 0) pa_nil)) (pg_name (i := 2) scN.nd rfl (Or.inl rfl))
 (pss_one (ps_set (i := 1) scN.nd rfl (Or.inl rfl) (pe_tup (pa_cons (pv 1) pa_nil)))))
 (pss_one (ps_ret (pv 1)))), ?_⟩
    obtain ⟨n, v, d, rfl, hn, hd, q⟩ := h
    refine ⟨_, rfl, _, rfl, by omega, by omega, ?_⟩
    refine for_it walk_range (fun i σ Hi => ∃ u c, σ = [some (.int n), some u, c] ∧ Dp K Hi u (nest i d) ∧ Same H Hi) ⟨v, none, rfl, hd, Same.refl _⟩ (fun _ _ _ _ _ => trivial) ?_ ?_
    · rintro i x σ Hi Hi' hi ⟨u, c, rfl, hu, si⟩ ⟨hE, rfl⟩
      obtain rfl := hE.symm
      refine ⟨_, rfl, by show 1 ≤ sizeLine; decide, fun T hT => ⟨.ref T, _, rfl, .tup (.inl (.inl upd_same)) (.cons (dp_same (L2.Same.upd hT) hu) .nil), si.updN (si.free hT)⟩⟩
    · rintro σ Hi ⟨u, c, rfl, hu, si⟩
      rw [Int.toNat_natCast] at hu
      exact ⟨_, rfl, q Hi u si hu⟩
theorem ok_plain {f : Addr} {fd : FuncData} (D : Df K mg "_law_plain" 36 f fd) (C : Con mg) : ∀ n, Cl P w K mg base CX0 n "_law_plain" ["value"] (spPlainL K n)
  | 0 => ⟨f, fd, ⟨fun vs H Q E h => by obtain ⟨_, _, _, _, _, z, _⟩ := h; omega, fun A outer s H args us vs Q E _ _ _ _ h => by obtain ⟨_, _, _, _, _, z, _⟩ := h; omega⟩, D.mgf, D.fn.kp, D.fn.binds (fun _ _ _ _ _ _ us hl => match us, hl with | [_], _ => rfl), D.lk⟩
  | n + 1 => by
    have c_self := ok_plain D C n
    refine cl0 D (fun _ _ _ _ _ _ us hl => match us, hl with | [_], _ => rfl) scPl (fun vs H Q E h => ?_) fun cdv A outer s H vs Q E hr h => ?_
    · obtain ⟨v, d, rfl, _⟩ := h; rfl
    · have hu0 : (A.deeper (envOfC "_law_plain" (defScope (top 36)) s.heap.objs.size f cdv)).units < cLine := Nat.lt_of_le_of_lt (Nat.le_add_right _ _) hr.units
      refine ⟨_, (pss_cons (ps_if (pt_val (pe_callB (call_isiT) (by rfl) (C.nb _ (by decide)) bt_isinstance (pa_cons (pv 0) (pa_cons (pe_tup (pa_cons (pe_bltn (v := .ty "list") (by rfl) (C.nb _ (by decide)) bt_list rfl) (pa_cons (pe_bltn (v := .ty "tuple") (by rfl) (C.nb _ (by decide)) bt_tuple rfl) pa_nil))) pa_nil))))
 (pss_one (ps_ret (pe_cmpR (Sm.op_eqNil hu0) (pe_lc (own := [("one", 1)]) (g := gName 1) rfl scPl.nd (pi_tup (pv 0)) (blkOk_by (own := [("one", 1)]) (N := ["value", "one"]) (sc := defScope (top 36)) (by decide +kernel)) (fun _ _ _ _ _ => pg_name (i := 1) scPl.nd rfl (Or.inl rfl)) (fun _ _ _ _ _ => (pts_one (pt_not (pt_val (pe_q c_self hr (Nat.le_refl _) (by rfl) (pa_cons (pv 1) pa_nil))))))
 (fun _ _ _ _ _ => pe_int)) (pe_lst pa_nil) (nomark _))))
 pss_nil)
 (pss_cons (ps_if (pt_val (pe_callB (call_isi) (by rfl) (C.nb _ (by decide)) bt_isinstance (pa_cons (pv 0) (pa_cons (pe_bltn (v := .ty "dict") (by rfl) (C.nb _ (by decide)) bt_dict rfl) pa_nil))))
 (pss_one (ps_never))
 pss_nil)
 (pss_one (ps_ret (pe_or (pe_cmp (pc_isN (pv 0)))
 (pe_one (pe_callB (call_isiT) (by rfl) (C.nb _ (by decide)) bt_isinstance (pa_cons (pv 0) (pa_cons (pe_tup (pa_cons (pe_bltn (v := .ty "int") (by rfl) (C.nb _ (by decide)) bt_int rfl) (pa_cons (pe_bltn (v := .ty "str") (by rfl) (C.nb _ (by decide)) bt_str rfl) pa_nil))) pa_nil))))))))), ?_⟩
      obtain ⟨v, d, rfl, hd, hnl, hdp, q⟩ := h
      refine ⟨_, rfl, by show 2 ≤ sizeLine; decide, fun T hT => ?_⟩
      dsimp only [tCons, tC, tNil]
      refine isi2 (K := K) hd hT (kitLi d) (kitTup d) ⟨_, rfl, ?_⟩
      have sT := L2.Same.upd (o := .tup [.ty "list", .ty "tuple"]) hT
      have hd1 := dp_same sT hd
      generalize upd H T (.tup [.ty "list", .ty "tuple"]) = H1 at sT hd1
      -- not a tuple: nor a dict, then None, an int or a text
      have leaf : isTup d = false → ∀ D : Ends, D.rt = Q → tSeq (tIfS (tB (tCB (rIsi K) (tCons (tVar 0) (tCons (tC (.ty "dict")) tNil)))) tNever tNext) (tRet (tOrV (tIsN (tVar 0)) (tCB (rIsiT K) (tCons (tVar 0) (tCons (tTup (tCons (tC (.ty "int")) (tCons (tC (.ty "str")) tNil))) tNil))))) D [some v, none] H1 := fun ht D hD => by
        have hdict : isDi d = false := by cases d <;> simp_all [nol, isDi]
        refine ⟨_, rfl, ?_⟩
        dsimp only [tCons, tC, tNil]
        refine isi (K := K) hd1 ((kitDi d).trans (congrArg some hdict)) ⟨_, rfl, iteF ?_⟩
        refine ⟨_, rfl, _, rfl, ?_⟩
        by_cases hv : v = .non
        · subst hv
          rw [decide_eq_true rfl, hD]
          exact iteT (q H1 sT)
        · rw [decide_eq_false hv]
          refine iteF ⟨_, rfl, by show 2 ≤ sizeLine; decide, fun T2 hT2 => ?_⟩
          dsimp only [tCons, tC, tNil]
          refine isi2 (K := K) hd1 hT2 (kitIn d) (kitSt d) ?_
          have hb : (isIn d || isSt d) = true := by
            cases hd1 with
            | non => exact absurd rfl hv
            | bl b => rfl
            | int i => rfl
            | str x => rfl
            | lst _ _ => simp [nol] at hnl
            | tup _ _ => simp [isTup] at ht
          rw [hb, hD]
          exact q _ (sT.updN (sT.free hT2))
      have hkl : isLi d = false := by cases d <;> simp_all [nol, isLi]
      rw [hkl]
      cases ht : isTup d with
      | false => exact iteF (leaf ht _ rfl)
      | true =>
        refine iteT ?_
        cases d with
        | tuple xs =>
          cases hd1 with
          | @tup a us _ hsq hda =>
          have hnx : nolAll xs = true := by simpa [nol] using hnl
          refine ⟨_, rfl, a, rfl, ⟨_, hsq⟩, fun Dl hDl => ?_⟩
          refine lc_it walk_tup (fun i Hi => Hi Dl = some (.lst []) ∧ Same H1 Hi) ⟨upd_same, L2.Same.upd hDl⟩ (fun i Hi _ p => p.2.tup hsq) (fun i y Hi Hi' hi p hy => ?_) fun Hi p => ?_
          · obtain ⟨p1, p2⟩ := p
            obtain ⟨hE, hy⟩ := hy
            obtain rfl := hE.symm
            obtain ⟨dy, hdy, hpy⟩ := hda.get hy
            have hmem := List.mem_of_getElem? hdy
            refine ⟨rfl, _, rfl, y, dy, rfl, dp_same p2 hpy, nolAll_mem hnx hmem, ?_, fun H3 s3 => ⟨_, rfl, iteF ⟨s3 _ _ p1, p2.trans s3⟩⟩⟩
            have : dep dy ≤ depAll xs := depAll_mem.mp (Nat.le_refl _) dy hmem
            simp only [dep] at hdp
            omega
          · obtain ⟨p1, p2⟩ := p
            refine ⟨by show 0 ≤ sizeLine; decide, fun T2 hT2 => eqNil_r p1 hT2 fun H3 s3 => ?_⟩
            exact q _ (sT.trans (p2.trans s3))
        | _ => simp [isTup] at ht
end
end Kw

set_option Elab.async false
set_option linter.all false
set_option maxRecDepth 100000
set_option maxHeartbeats 4000000
namespace Kw
open PySem PySem.Spec PyProof.Rows L2 Sb
theorem scSv : FnScope ["state", "deep", "way", "lap"] ["state", "deep"] (defScope (top 41)) := ⟨rfl, rfl, rfl, by decide +kernel, rfl, by decide +kernel, by decide +kernel⟩
theorem joinL_sp : ∀ xs : List PyData, TL.joinL [32] (xs.map vt) = vtAll xs
  | [] => rfl
  | [x] => by simp [TL.joinL, vtAll, vtTail]
  | x :: y :: r => by
    have := joinL_sp (y :: r)
    rw [vtAll_cons] at this
    rw [vtAll_cons, vtTail_cons, ← this]
    simp [TL.joinL]
theorem vtAll_mem : ∀ {xs : List PyData} {d : PyData}, d ∈ xs → (vt d).length ≤ (vtTail xs).length
  | c :: r, d, h => by
    rw [vtTail_cons]
    rcases List.mem_cons.mp h with z | z
    · rw [z]; simp; omega
    · have := vtAll_mem z; simp; omega
theorem tail_all (xs : List PyData) : (vtTail xs).length ≤ (vtAll xs).length + 1 := by
  cases xs with
  | nil => simp [vtTail]
  | cons d r => rw [vtTail_cons, vtAll_cons]; simp
theorem sum_len : ∀ xs : List PyData, ((xs.map vt).map (·.length)).sum + xs.length ≤ (vtTail xs).length
  | [] => by simp [vtTail]
  | d :: r => by
    have := sum_len r
    rw [vtTail_cons]
    simp at this ⊢
    omega
section
variable {P : Program} {w : World} {K : PySem.W.Frag} {mg : Str → Option Value} {base : Heap}
theorem ok_lt {f : Addr} {fd : FuncData} (D : Df K mg "_law_value_text" 38 f fd) (C : Con mg) : ∀ n, Cl P w K mg base CX0 n "_law_value_text" ["value"] (spLt K n)
  | 0 => ⟨f, fd, ⟨fun vs H Q E h => by obtain ⟨_, _, _, _, _, z, _⟩ := h; omega, fun A outer s H args us vs Q E _ _ _ _ h => by obtain ⟨_, _, _, _, _, z, _⟩ := h; omega⟩, D.mgf, D.fn.kp, D.fn.binds (fun _ _ _ _ _ _ us hl => match us, hl with | [_], _ => rfl), D.lk⟩
  | n + 1 => by
    have c_self := ok_lt D C n
    refine cl0 D (fun _ _ _ _ _ _ us hl => match us, hl with | [_], _ => rfl) scLt (fun vs H Q E h => ?_) fun cdv A outer s H vs Q E hr h => ?_
    · obtain ⟨v, d, rfl, _⟩ := h; rfl
    · refine ⟨_, (pss_cons (ps_if (pt_val (pe_callB (call_isi) (by rfl) (C.nb _ (by decide)) bt_isinstance (pa_cons (pv 0) (pa_cons (pe_bltn (v := .ty "tuple") (by rfl) (C.nb _ (by decide)) bt_tuple rfl) pa_nil))))
 (pss_one (ps_ret (pe_op op_add_str (pe_op op_add_str pe_str (pe_join pe_str (pe_lc (own := [("one", 1)]) (g := gName 1) (tt := tYes) rfl scLt.nd (pi_tup (pv 0)) (blkOk_by (own := [("one", 1)]) (N := ["value", "one"]) (sc := defScope (top 38)) (by decide +kernel)) (fun _ _ _ _ _ => pg_name (i := 1) scLt.nd rfl (Or.inl rfl)) (fun _ _ _ _ _ => pts_nil)
 (fun _ _ _ _ _ => (pe_q c_self hr (Nat.le_refl _) (by rfl) (pa_cons (pv 1) pa_nil)))))) pe_str)))
 pss_nil)
 (pss_one (ps_ret (pe_ifExp (pt_cmp (pc_isN (pv 0))) pe_str (pe_callTy (CallR.or SkE.call_str_str call_str_int) (by rfl) (C.nb _ (by decide)) bt_str (pa_cons (pv 0) pa_nil)))))), ?_⟩
      obtain ⟨v, d, rfl, hd, hw, hdp, hlen, q⟩ := h
      refine ⟨_, rfl, ?_⟩
      dsimp only [tCons, tC, tNil]
      refine isi (K := K) hd (kitTup d) ⟨_, rfl, ?_⟩
      cases ht : isTup d with
      | false =>
        have hlf := wf_leaf hw ht
        refine iteF ⟨_, rfl, _, rfl, ?_⟩
        cases d with
        | none =>
          cases hd
          rw [decide_eq_true rfl]
          refine iteT ?_
          have := q H (Same.refl _)
          rw [show SX.S (vt .none) = Str.ofString "-" by decide +kernel] at this
          exact this
        | str z =>
          cases hd
          rw [decide_eq_false (by intro q; cases q)]
          refine iteF ⟨_, rfl, .inl ⟨z, rfl, ?_⟩⟩
          have := q H (Same.refl _)
          rw [show SX.S (vt (.str z)) = z from by simp only [vt]] at this
          exact this
        | int z =>
          cases hd
          rw [decide_eq_false (by intro q; cases q)]
          have hlog : z.natAbs.log2 < 1920 := by
            have hz : z.natAbs < 1000000000000 := by simpa [wf] using hw
            by_cases hz0 : z.natAbs = 0
            · rw [hz0]; decide
            · rw [Nat.log2_lt hz0]
              exact Nat.lt_of_lt_of_le hz (by decide)
          refine iteF ⟨_, rfl, .inr ⟨z, rfl, hlog, ?_⟩⟩
          rw [strI]
          have := q H (Same.refl _)
          simp only [vt] at this
          exact this
        | _ => simp [leafOk] at hlf
      | true =>
        refine iteT ?_
        cases d with
        | tuple xs =>
          cases hd with
          | @tup a us _ hsq hda =>
          have hwa : wfAll xs = true := by simpa [wf] using hw
          have hul := hda.len
          have hvt : (vt (.tuple xs)).length = (vtAll xs).length + 2 := by simp [vt]
          have hta := tail_all xs
          have hsz := wfTail_sz hwa
          have hxl := len_szAll xs
          refine ⟨⟨_, rfl⟩, _, rfl, a, rfl, ⟨_, hsq⟩, fun Dl hDl => ?_⟩
          refine lc_map walk_tup (fun i => .str (SX.S (vt (xs.getD i .none)))) hDl (by rw [sizeLine_eq]; omega) (fun Hx sx => sx.tup hsq) (fun i y Hx Hx' Kt hi sx hy hk => ?_) fun Hx sx hx => ?_
          · obtain ⟨hE, hy⟩ := hy
            obtain rfl := hE.symm
            obtain ⟨dy, hdy, hpy⟩ := hda.get hy
            have hmem := List.mem_of_getElem? hdy
            refine ⟨rfl, _, rfl, y, dy, rfl, dp_same sx hpy, wfAll_mem.mp hwa dy hmem, ?_, ?_, fun H3 s3 => ?_⟩
            · have : dep dy ≤ depAll xs := depAll_mem.mp (Nat.le_refl _) dy hmem
              simp only [dep] at hdp
              omega
            · have := vtAll_mem hmem
              omega
            · have := hk H3 s3
              rw [List.getD_eq_getElem?_getD, hdy] at this
              exact this
          · have eL : (List.range us.length).map (fun i => V.str (SX.S (vt (xs.getD i .none)))) = ((xs.map vt).map SX.S).map V.str := by
              refine List.ext_getElem (by simp [hul]) fun i h1 h2 => ?_
              have hi : i < xs.length := by simpa using h2
              simp [hi]
            have hsum := sum_len xs
            refine ⟨_, Dl, (xs.map vt).map SX.S, rfl, rfl, .inl (.inl (.inl (by rw [hx, eL]))), ?_, ?_⟩
            · rw [SX.lens, List.length_map, List.length_map, show (Str.ofString " ").length = 1 by decide +kernel]
              omega
            · rw [show Str.ofString " " = SX.S [32] by decide +kernel, SX.join_S, joinL_sp]
              have l1 : (Str.ofString "(").length = 1 := by decide +kernel
              have l2 : (Str.ofString ")").length = 1 := by decide +kernel
              have l3 := SX.S_len (vtAll xs)
              refine ⟨_, _, rfl, rfl, by rw [l1, l3, sizeLine_eq]; omega, ?_⟩
              have e1 : Str.ofString "(" ++ SX.S (vtAll xs) = SX.S (40 :: vtAll xs) := by rw [show Str.ofString "(" = SX.S [40] by decide +kernel, SX.S_cat]; rfl
              rw [e1]
              refine ⟨_, _, rfl, rfl, by rw [SX.S_len, l2, sizeLine_eq]; simp; omega, ?_⟩
              have e2 : SX.S (40 :: vtAll xs) ++ Str.ofString ")" = SX.S (vt (.tuple xs)) := by rw [show Str.ofString ")" = SX.S [41] by decide +kernel, SX.S_cat]; simp [vt]
              rw [e2]
              exact q Hx sx
        | _ => simp [isTup] at ht
/-- what _law_some_value may give at this depth -/
def cnt : Nat → Nat
  | 0 => 2
  | n + 1 => 2 + 3 * cnt n
def gz : Nat → Nat
  | 0 => 1
  | n + 1 => 1 + 3 * gz n
mutual
/-- short words -/
def sm : PyData → Bool
  | .tuple xs => smAll xs
  | .str x => decide (x.length ≤ 13)
  | _ => true
def smAll : List PyData → Bool
  | [] => true
  | d :: r => sm d && smAll r
end
def okV (n : Nat) (d : PyData) : Prop := wf d = true ∧ dep d ≤ n ∧ sz d ≤ gz n ∧ sm d = true
def spSv (K : PySem.W.Frag) (n : Nat) : Sp := fun vs H Q _ => ∃ (st G Cl : Addr) (k m : Nat), vs = [.ref st, .int m] ∧ m < n ∧ StB H st G Cl k ∧ k + cnt m ≤ 1000000 ∧ ∀ H' v d, Dp K H' v d → okV m d → Kp K st G H H' → StB H' st G Cl (k + cnt m) → Q v H'
theorem smAll_mem : ∀ {l : List PyData}, smAll l = true ↔ ∀ d ∈ l, sm d = true
  | [] => by simp [smAll]
  | d :: r => by simp [smAll, smAll_mem (l := r)]
theorem szAll_le {n : Nat} : ∀ {l : List PyData}, (∀ d ∈ l, sz d ≤ n) → szAll l ≤ l.length * n
  | [], _ => by simp [szAll]
  | d :: r, h => by
    have h1 := h d List.mem_cons_self
    have h2 := szAll_le fun c hc => h c (List.mem_cons_of_mem d hc)
    rw [List.length_cons, Nat.succ_mul]
    simp only [szAll]
    omega
theorem cnt_pos (n : Nat) : 2 ≤ cnt n := by cases n <;> simp [cnt]
theorem gz_pos (n : Nat) : 1 ≤ gz n := by cases n <;> simp [gz]
theorem okV_leaf {d : PyData} (n : Nat) (h : leafOk d = true) (hs : sm d = true) : okV n d := by
  obtain ⟨a, b, c⟩ := leaf_wf h
  refine ⟨a, by omega, ?_, hs⟩
  have := gz_pos n
  have e : sz d = 1 := by cases d <;> simp_all [leafOk, sz]
  omega
theorem nolAll_of : ∀ {l : List PyData}, (∀ d ∈ l, nol d = true) → nolAll l = true
  | [], _ => rfl
  | d :: r, h => by simp [nolAll, h d List.mem_cons_self, nolAll_of fun c hc => h c (List.mem_cons_of_mem d hc)]
theorem ok_sv {f : Addr} {fd : FuncData} (D : Df K mg "_law_some_value" 41 f fd) (C : Con mg) (c_law_draw : Cl P w K mg base CX0 2 "_law_draw" ["state", "room"] (spDraw K)) (c_law_pick : Cl P w K mg base CX0 3 "_law_pick" ["state", "some"] (spPick K)) :
    ∀ n, Cl P w K mg base CX0 (3 + n) "_law_some_value" ["state", "deep"] (spSv K n)
  | 0 => ⟨f, fd, ⟨fun vs H Q E h => by obtain ⟨_, _, _, _, _, _, z, _⟩ := h; omega, fun A outer s H args us vs Q E _ _ _ _ h => by obtain ⟨_, _, _, _, _, _, z, _⟩ := h; omega⟩, D.mgf, D.fn.kp, D.fn.binds (fun _ _ _ _ _ _ us hl => match us, hl with | [_, _], _ => rfl), D.lk⟩
  | n + 1 => by
    have c_self := ok_sv D C c_law_draw c_law_pick n
    refine cl0 (k := 3 + n) D (fun _ _ _ _ _ _ us hl => match us, hl with | [_, _], _ => rfl) scSv (fun vs H Q E h => ?_) fun cdv A outer s H vs Q E hr h => ?_
    · obtain ⟨_, _, _, _, _, rfl, _⟩ := h; rfl
    · refine ⟨_, (pss_cons (ps_set (i := 2) scSv.nd rfl (Or.inl rfl) (pe_ifExp (pt_cmpR op_gt (pv 1) pe_int (nomark _)) (pe_q c_law_draw hr (by omega) (by rfl) (pa_cons (pv 0) (pa_cons pe_int pa_nil))) (pe_q c_law_draw hr (by omega) (by rfl) (pa_cons (pv 0) (pa_cons pe_int pa_nil)))))
 (pss_cons (ps_if (pt_cmpR op_eq (pv 2) pe_int (nomark _))
 (pss_one (ps_ret (pe_q c_law_pick hr (by omega) (by rfl) (pa_cons (pv 0) (pa_cons (pe_lst (pa_cons pe_str (pa_cons pe_str (pa_cons pe_str (pa_cons pe_str (pa_cons pe_str pa_nil)))))) pa_nil)))))
 pss_nil)
 (pss_cons (ps_if (pt_cmpR op_eq (pv 2) pe_int (nomark _))
 (pss_one (ps_ret (pe_q c_law_pick hr (by omega) (by rfl) (pa_cons (pv 0) (pa_cons (pe_lst (pa_cons pe_int (pa_cons pe_int (pa_cons (pe_op op_sub pe_int pe_int) (pa_cons pe_int (pa_cons (pe_op op_sub pe_int pe_int) (pa_cons pe_int (pa_cons (pe_op op_sub pe_int pe_int) pa_nil)))))))) pa_nil)))))
 pss_nil)
 (pss_cons (ps_if (pt_cmpR op_eq (pv 2) pe_int (nomark _))
 (pss_one (ps_ret pe_non))
 pss_nil)
 (pss_one (ps_ret (pe_callTy (call_tuple_of) (by rfl) (C.nb _ (by decide)) bt_tuple (pa_cons (pe_lc (own := [("lap", 3)]) (g := gName 3) (tt := tYes) rfl scSv.nd (pi_range1 (by rfl) (C.nb _ (by decide)) (pa_cons (pe_q c_law_draw hr (by omega) (by rfl) (pa_cons (pv 0) (pa_cons pe_int pa_nil))) pa_nil)) (blkOk_by (own := [("lap", 3)]) (N := ["state", "deep", "way", "lap"]) (sc := defScope (top 41)) (by decide +kernel)) (fun _ _ _ _ _ => pg_name (i := 3) scSv.nd rfl (Or.inl rfl)) (fun _ _ _ _ _ => pts_nil)
 (fun _ _ _ _ _ => (pe_q c_self hr (Nat.le_refl _) (by rfl) (pa_cons (pv 0) (pa_cons (pe_op op_sub (pv 1) pe_int) pa_nil))))) pa_nil)))))))), ?_⟩
      obtain ⟨st, G, Cl, k, m, rfl, hm, hst, hk, q⟩ := h
      have hcm := cnt_pos m
      refine seq_by (fun σ' H' => ∃ i : Int, σ' = [some (.ref st), some (.int m), some (.int i), none] ∧ 0 ≤ i ∧ i < 6 ∧ (m = 0 → i < 3) ∧ Kp K st G H H' ∧ StB H' st G Cl (k + 1)) ?_ ?_
      · rintro σ' H1 ⟨i, rfl, hi0, hi6, hi3, k1, st1⟩
        have pick : ∀ (ds : List PyData) (S : Addr) (H2 : Hp), ds ≠ [] → ds.length < 1000 → (∀ d ∈ ds, leafOk d = true ∧ sm d = true) → H2 S = none → Same H1 H2 → spPick K [.ref st, .ref S] (upd H2 S (.lst (ds.map leafV))) Q E0 := by
          intro ds S H2 hne hl hok hS s2
          have st2 := st1.same s2
          have hSst : S ≠ st := fun z => by obtain ⟨_, _, _, _, a, _⟩ := st2; rw [z, a.d] at hS; cases hS
          have hSG : S ≠ G := fun z => by obtain ⟨_, _, _, _, a, _⟩ := st2; rw [z, a.g] at hS; cases hS
          have sA : Same H1 (upd H2 S (.lst (ds.map leafV))) := s2.trans (L2.Same.upd hS)
          refine ⟨st, G, Cl, k + 1, S, ds.map leafV, rfl, st1.same sA, by omega, upd_same, hSst, hSG, by simpa using hne, by simpa using hl, fun H3 j x hx k3 st3 => ?_⟩
          rw [List.getElem?_map] at hx
          obtain ⟨d, hd, rfl⟩ : ∃ d, ds[j]? = some d ∧ x = leafV d := by
            cases e : ds[j]? with
            | none => rw [e] at hx; cases hx
            | some d => rw [e] at hx; exact ⟨d, rfl, (Option.some.inj hx).symm⟩
          obtain ⟨h1, h2⟩ := hok d (List.mem_of_getElem? hd)
          exact q H3 _ d (dp_leaf h1) (okV_leaf m h1 h2) (k1.trans ((kp_same sA).trans k3)) (st3.mono (by omega))
        refine ⟨_, rfl, rfl, _, rfl, ?_⟩
        by_cases w0 : i = 0
        · rw [decide_eq_true (congrArg V.int w0)]
          refine iteT ⟨_, rfl, by show 5 ≤ sizeLine; decide, fun S hS => ?_⟩
          exact pick [.str "a", .str "on", .str "zz", .str "entry", .str "abcdefghijklm"] S H1 (by simp) (by simp) (by decide +kernel) hS (Same.refl _)
        rw [decide_eq_false (fun z => w0 (V.int.inj z))]
        refine iteF ⟨_, rfl, rfl, _, rfl, ?_⟩
        by_cases w1 : i = 1
        · rw [decide_eq_true (congrArg V.int w1)]
          refine iteT ⟨_, rfl, _, _, rfl, rfl, _, _, rfl, rfl, _, _, rfl, rfl, by show 7 ≤ sizeLine; decide, fun S hS => ?_⟩
          exact pick [.int 0, .int 1, .int (0 - 1), .int 7, .int (0 - 42), .int 999999999999, .int (0 - 999999999999)] S H1 (by simp) (by simp) (by decide +kernel) hS (Same.refl _)
        rw [decide_eq_false (fun z => w1 (V.int.inj z))]
        refine iteF ⟨_, rfl, rfl, _, rfl, ?_⟩
        by_cases w2 : i = 2
        · rw [decide_eq_true (congrArg V.int w2)]
          exact iteT (q H1 .non .none .non (okV_leaf m rfl rfl) k1 (st1.mono (by omega)))
        rw [decide_eq_false (fun z => w2 (V.int.inj z))]
        refine iteF ?_
        obtain ⟨m', rfl⟩ : ∃ m', m = m' + 1 := by
          cases m with
          | zero => have := hi3 rfl; omega
          | succ m' => exact ⟨m', rfl⟩
        have hcm' := cnt_pos m'
        have hcs : cnt (m' + 1) = 2 + 3 * cnt m' := rfl
        refine ⟨_, rfl, st, G, Cl, k + 1, 4, rfl, st1, by omega, by decide, by decide, fun H2 j hj0 hj4 k2 st2 => ⟨j, rfl, by omega, by omega, fun Dl hDl => ?_⟩⟩
        have kp2 := k1.trans k2
        have hDst : Dl ≠ st := fun z => by obtain ⟨_, _, _, _, a, _⟩ := st2; rw [z, a.d] at hDl; cases hDl
        have hDG : Dl ≠ G := fun z => by obtain ⟨_, _, _, _, a, _⟩ := st2; rw [z, a.g] at hDl; cases hDl
        have hDC : Dl ≠ Cl := fun z => by obtain ⟨_, _, _, _, a, _⟩ := st2; rw [z, a.c] at hDl; cases hDl
        have hD0 : H Dl = none := by
          cases e : H Dl with
          | none => rfl
          | some o => have := kp2.at_ _ _ hDst hDG e; rw [hDl] at this; cases this
        refine lc_it walk_range (fun c Hi => ∃ vs ds, Hi Dl = some (.lst vs) ∧ vs.length = c ∧ DpAll K Hi vs ds ∧ (∀ d ∈ ds, okV m' d) ∧ Kp K st G H Hi ∧ StB Hi st G Cl (k + 2 + c * cnt m')) ⟨[], [], upd_same, rfl, .nil, by simp, kp2.trans (kp_same (L2.Same.upd hDl)), (st2.same (L2.Same.upd hDl)).mono (by omega)⟩ (fun _ _ _ _ => trivial) ?_ ?_
        · rintro c y Hi Hi' hc ⟨vs, ds, hv, hvl, hds, hok, kpi, sti⟩ ⟨hE, rfl⟩
          obtain rfl := hE.symm
          have hc3 : c ≤ 2 := by omega
          have hb : c * cnt m' ≤ 2 * cnt m' := Nat.mul_le_mul_right _ hc3
          refine ⟨rfl, ⟨_, rfl, _, rfl, _, _, rfl, rfl, st, G, Cl, _, m', congrArg (fun z => [V.ref st, V.int z]) (by push_cast; omega), by omega, sti, by omega, fun H3 u d hu hod k3 st3 => ?_⟩⟩
          have hv3 := k3.at_ _ _ hDst hDG hv
          refine ⟨vs, hv3, by rw [hvl, sizeLine_eq]; omega, vs ++ [u], ds ++ [d], upd_same, by simp [hvl], ?_, ?_, ?_, ?_⟩
          · have tU : TupK K H3 (upd H3 Dl (.lst (vs ++ [u]))) := tupK_lst hv3
            exact .app (dpAll_tup tU (nolAll_of fun d hd => wf_nol (hok d hd).1) (dpAll_tup k3.tup (nolAll_of fun d hd => wf_nol (hok d hd).1) hds)) (.cons (dp_tup tU (wf_nol hod.1) hu) .nil)
          · intro d' hd'
            rcases List.mem_append.mp hd' with h | h
            · exact hok d' h
            · rw [List.mem_singleton.mp h]; exact hod
          · have kAll := kpi.trans k3
            exact ⟨kAll.tup.trans (tupK_lst hv3), fun b o h1 h2 e => by rw [upd_ne (ne_of_none e hD0)]; exact kAll.at_ b o h1 h2 e⟩
          · obtain ⟨gs, cs, r, t, a, b⟩ := st3
            refine ⟨gs, cs, r, t, ⟨(upd_ne (Ne.symm hDst)).trans a.d, (upd_ne (Ne.symm hDG)).trans a.g, (upd_ne (Ne.symm hDC)).trans a.c, a.g0, a.c0, a.r0, a.t0, a.n1, a.n2, a.n3⟩, ?_⟩
            rw [Nat.succ_mul]
            push_cast at b ⊢
            omega
        · rintro Hi ⟨vs, ds, hv, hvl, hds, hok, kpi, sti⟩
          have hjn : j.toNat ≤ 3 := by omega
          have hb : j.toNat * cnt m' ≤ 3 * cnt m' := Nat.mul_le_mul_right _ hjn
          refine ⟨Dl, vs, rfl, .inl ⟨.inl (.inl hv), fun T hT => ?_⟩⟩
          have sT := L2.Same.upd (o := .tup vs) hT
          have hdl := hds.len
          refine q _ (.ref T) (.tuple ds) (.tup (.inl (.inl upd_same)) (dpAll_same sT hds)) ⟨?_, ?_, ?_, ?_⟩ (kpi.trans (kp_same sT)) ((sti.same sT).mono (by omega))
          · simpa [wf] using wfAll_mem.mpr fun d hd => (hok d hd).1
          · have : depAll ds ≤ m' := depAll_mem.mpr fun d hd => (hok d hd).2.1
            simp only [dep]
            omega
          · have h1 := szAll_le (n := gz m') (l := ds) fun d hd => (hok d hd).2.2.1
            have h2 : ds.length * gz m' ≤ 3 * gz m' := Nat.mul_le_mul_right _ (by omega)
            simp only [sz, gz]
            omega
          · simpa [sm] using smAll_mem.mpr fun d hd => (hok d hd).2.2.2
      · intro tail
        refine ⟨_, rfl, _, _, rfl, rfl, _, rfl, ?_⟩
        by_cases h0 : m = 0
        · rw [decide_eq_false (by omega : ¬ (0 : Int) < (m : Int))]
          exact iteF ⟨_, rfl, st, G, Cl, k, 3, rfl, hst, by omega, by decide, by decide, fun H1 i hi0 hi3 k1 st1 => tail _ _ ⟨i, rfl, hi0, by omega, fun _ => hi3, k1, st1⟩⟩
        · rw [decide_eq_true (by omega : (0 : Int) < (m : Int))]
          exact iteT ⟨_, rfl, st, G, Cl, k, 6, rfl, hst, by omega, by decide, by decide, fun H1 i hi0 hi6 k1 st1 => tail _ _ ⟨i, rfl, hi0, hi6, fun z => absurd z h0, k1, st1⟩⟩
end
end Kw

set_option Elab.async false
set_option linter.all false
set_option maxRecDepth 100000
set_option maxHeartbeats 4000000
namespace Kw
open PySem PySem.Spec PyProof.Rows L2 Sb
theorem scI : FnScope ["found", "due"] ["found", "due"] (defScope (top 37)) := ⟨rfl, rfl, rfl, by decide +kernel, rfl, by decide +kernel, by decide +kernel⟩
theorem scC : FnScope ["action", "found", "error"] ["action"] (defScope (top 39)) := ⟨rfl, rfl, rfl, by decide +kernel, rfl, by decide +kernel, by decide +kernel⟩
def spIs (K : PySem.W.Frag) : Sp := fun vs H Q _ => ∃ v u d, vs = [v, u] ∧ Dp K H v d ∧ Dp K H u d ∧ nol d = true ∧ dep d < 62 ∧ SeqAt.shaped d = true ∧ d.showable = true ∧ d.hasDict = false ∧ d.shown.length ≤ sizeLine ∧ ∀ H', Same H H' → Q (.bl true) H'
section
variable {P : Program} {w : World} {K : PySem.W.Frag} {mg : Str → Option Value} {base : Heap}
theorem ok_is {f : Addr} {fd : FuncData} (D : Df K mg "_law_is" 37 f fd) (C : Con mg) (c_law_plain : Cl P w K mg base CX0 62 "_law_plain" ["value"] (spPlainL K 62)) : Gd.FnG P w K mg base CX0 63 f fd ["found", "due"] (spIs K) := by
  refine Gd.fnG_of D.fn scI (fun vs H Q E h => ?_) fun cdv A outer s H vs Q E hgd hr h => ?_
  · obtain ⟨v, u, d, rfl, _⟩ := h; rfl
  · have hu64 : (A.deeper (envOfC "_law_is" (defScope (top 37)) s.heap.objs.size f cdv)).units + 64 < cLine := hr.units
    have hub : (A.deeper (envOfC "_law_is" (defScope (top 37)) s.heap.objs.size f cdv)).units + 100 < cLine := by have := hr.un; omega
    refine ⟨_, PSs.nox (pss_one (ps_ret (pe_and (pe_q c_law_plain hr (by decide) (by rfl) (pa_cons (pv 0) pa_nil))
 (pe_and (pe_cmpR (op_eqD hu64) (pv 0) (pv 1) (nomark _))
 (pe_and (pe_cmpR (op_eqD hu64) (pv 1) (pv 0) (nomark _))
 (pe_one (pe_cmpR op_eq (pe_callB (Gd.call_reprD hgd hub) (by rfl) (C.nb _ (by decide)) bt_repr (pa_cons (pv 0) pa_nil)) (pe_callB (Gd.call_reprD hgd hub) (by rfl) (C.nb _ (by decide)) bt_repr (pa_cons (pv 1) pa_nil)) (nomark _)))))))), ?_⟩
    obtain ⟨v, u, d, rfl, hv, hu, hnl, hdp, hsh, hs1, hs2, hs3, q⟩ := h
    have heq : PyData.eqv d d = true := SeqAt.eqv_refl d (SeqAt.canLay_of_shaped hsh)
    have hdd := SeqAt.depth_of_shaped hsh
    refine ⟨_, rfl, v, d, rfl, hv, hnl, hdp, fun H1 s1 => ⟨_, rfl, iteT ?_⟩⟩
    have v1 := dp_same s1 hv
    have u1 := dp_same s1 hu
    refine ⟨_, rfl, _, rfl, d, d, v1, u1, hsh, hsh, _, rfl, ?_⟩
    rw [heq]
    refine iteT ⟨_, rfl, _, rfl, d, d, u1, v1, hsh, hsh, _, rfl, ?_⟩
    rw [heq]
    refine iteT ⟨_, rfl, v, d, rfl, v1, hs1, hs2, hdd, hs3, _, rfl, u, d, rfl, u1, hs1, hs2, hdd, hs3, rfl, ?_⟩
    rw [decide_eq_true rfl]
    exact q H1 s1
/-- what _law_caught makes of what it calls -/
def TTc (K : PySem.W.Frag) (cS : Value) : (XK → Hp → VK → Prop) → Hp → VK → Prop := fun tl H Q => ∀ F, H F = none → ∀ (E1 : XK) (Q1 : VK),
  (∀ cls d H2, H2 F = some (.lst []) → PySem.W.exmOne K cls cS = some true → (∀ a, H2 a = none → ∀ H3, Same (upd (upd H2 F (.lst [.ref a])) a (Ev.ExV cls d a)) H3 → Q (.ref a) H3) → E1 cls d H2) → (∀ v H2, H2 F = some (.lst []) → (∀ H3, Same H2 H3 → Q .non H3) → Q1 v H2) →
  tl E1 (upd H F (.lst [])) Q1
theorem ok_caught {j : Nat} {f : Addr} {fd : FuncData} {cS : Value} (D : Df K mg "_law_caught" 39 f fd) (C : Con mg) (gS : mg "SwitchError" = some cS) : Lm.FnA P w K mg base (j + 1) j f (TTc K cS) := by
  obtain ⟨oc, od, kV, doc, pm, an, cdv, ct, osl, rfl, lk, hcd⟩ := D.fn.ex
  refine Lm.fnA_of (N := ["action", "found", "error"]) (a := "action") lk hcd scC (D.fn.binds (fun _ _ _ _ _ _ us hl => match us, hl with | [_], _ => rfl)) fun A outer s H g Q tl hr act h => ?_
  have hu0 : (A.deeper (envOfC "_law_caught" (defScope (top 39)) s.heap.objs.size f cdv)).units < cLine := Nat.lt_of_le_of_lt (Nat.le_add_right _ _) hr.units
  refine ⟨_, pss_cons (ps_set (i := 1) scC.nd rfl (Or.inl rfl) (pe_lst pa_nil))
    (pss_cons (Ev.ps_try_asV (i := 2) (tb := fun W => tDrop (fun σ H Q => σ[0]? = some (some (.ref g)) ∧ tl (WE W σ) H Q)) (ts := fun a cls d => tDrop (tBM K "list" rAppend (tVar 1) (tCons (tVar 2) tNil))) (Wout := fun _ _ _ _ => False) (c := cS) rfl rfl rfl scC.nd rfl rfl ⟨rfl, by decide, .inl gS⟩ takes0
      (fun W pn xe tk _ => pss_one (ps_expr (Lm.pe_doS (i := 0) rfl rfl rfl act hr (fun σ => passAt tk σ) rfl (Or.inl rfl))))
      (fun a oe cls d pn hz hf => pss_one (ps_expr (pe_bm PySem.F.plainAttrs_list PySem.F.slot_list_append PySem.F.type_list_append mt_append (pv 1) (pa_cons (pv 2) pa_nil)))))
    (pss_one (ps_ret (pe_ifExp (pt_cmpR (Sm.op_neNil hu0) (pv 1) (pe_lst pa_nil) (nomark _)) (pe_ix ix_list (pv 1) pe_int (fun _ _ => rfl)) pe_non)))), ?_⟩
  refine ⟨by show 0 ≤ sizeLine; decide, fun F hF => ?_⟩
  -- behind the try
  have fin : ∀ (x : V) (xs : List V) (H2 : Hp), H2 F = some (.lst xs) → (∀ H3, Same H2 H3 → (xs = [] → Q .non H3) ∧ (∀ y, xs = [y] → Q y H3)) → xs.length ≤ 1 →
      tRet (tIf (tTest (tOp (Sm.rEqNil K true) (tVar 1) (tLst tNil))) (tOp (rIxL K) (tVar 1) (tC (.int 0))) (tC .non)) { nx := fun _ H' => Q .non H', rt := Q } [some (.ref g), some (.ref F), none] H2 := by
    intro x xs H2 hF2 hq hl
    refine ⟨_, rfl, by show 0 ≤ sizeLine; decide, fun T hT => eqNil_r hF2 hT fun H3 s3 => ⟨_, rfl, ?_⟩⟩
    obtain ⟨q1, q2⟩ := hq H3 s3
    cases xs with
    | nil => exact iteF (q1 rfl)
    | cons y ys =>
      cases ys with
      | cons z zs => simp at hl
      | nil => exact iteT ⟨_, rfl, F, [y], 0, y, rfl, rfl, .inl (.inl (s3 _ _ hF2)), rfl, q2 y rfl⟩
  refine ⟨rfl, ?_⟩
  refine h F hF _ _ (fun cls d H2 hF2 hx hq => ⟨true, hx, fun _ a ha => ?_, fun z => nomatch z⟩) fun v H2 hF2 hq => ?_
  · have hFa : F ≠ a := fun z => by rw [← z, hF2] at ha; cases ha
    refine ⟨_, rfl, .inl ⟨rfl, _, .inl (.inl hF2)⟩, _, rfl, ⟨F, _, _, rfl, rfl, hF2, by show 0 < sizeLine; decide, fun ha2 => ?_⟩⟩
    refine fin (.ref a) [.ref a] _ ((upd_ne hFa).trans upd_same) (fun H3 s3 => ⟨fun z => (nomatch z), fun y hy => ?_⟩) (by simp)
    cases hy
    exact hq a ha H3 s3
  · exact fin .non [] H2 hF2 (fun H3 s3 => ⟨fun _ => hq H3 s3, fun y hy => nomatch hy⟩) (by simp)
end
end Kw

set_option Elab.async false
set_option linter.all false
set_option maxRecDepth 100000
set_option maxHeartbeats 4000000
namespace Kw
open PySem PySem.Spec PyProof.Rows L2 Sb LamX
theorem scWd : FnScope ["action", "told", "error", "word", "is_one"] ["action"] (defScope (top 40)) := ⟨rfl, rfl, rfl, by decide +kernel, rfl, by decide +kernel, by decide +kernel⟩
/-- what _law_word makes of what it calls -/
def TTw (K : PySem.W.Frag) (T : List (Addr × Str)) (C0 : Addr) : (XK → Hp → VK → Prop) → Hp → VK → Prop := fun tl H Q => Tabs T H ∧ ∀ H1, ExtN H H1 → Tabs T H1 → ∀ (E1 : XK) (Q1 : VK),
  (∀ dd H2, Same H1 H2 → H1 dd = none → H2 dd = some (.xd [(Nt.fld, .int 0)]) → (∀ H3 Tt, ExtN H H3 → Tabs T H3 → H3 Tt = some (.tup [.str "text", .int 0]) → Q (.ref Tt) H3) → E1 (.ref C0) (some dd) H2) →
  (∀ v H2, Same H1 H2 → (∀ H3, ExtN H H3 → Tabs T H3 → TupK K H2 H3 → Q v H3) → Q1 v H2) → tl E1 H1 Q1
/-- all but a list stays: the tables stay -/
theorem tabs_but {T : List (Addr × Str)} {H H' : Hp} (t : Tabs T H) (k : ∀ b o, H b = some o → (∀ xs, o ≠ .lst xs) → H' b = some o) : Tabs T H' := fun p hp => by
  obtain ⟨ps, h1, h2, h3⟩ := t p hp
  refine ⟨ps, k _ _ h1 (fun xs z => by cases z), h2, fun pos cv hc => ?_⟩
  obtain ⟨c, e1, e2⟩ := h3 pos cv hc
  exact ⟨c, e1, k _ _ e2 (fun xs z => by cases z)⟩
/-- the classes that _law_word asks for -/
structure Wds (K : PySem.W.Frag) (mg : Str → Option Value) (C0 CU CM : Addr) (cS : Value) : Prop where
  gU : mg "Used" = some (.ref CU)
  gM : mg "TooMany" = some (.ref CM)
  gN : mg "NoText" = some (.ref C0)
  gS : mg "SwitchError" = some cS
  isa : Ev.Isa K C0
  kU : PySem.W.kitOne K (.ref C0) (.ref CU) = some false
  kM : PySem.W.kitOne K (.ref C0) (.ref CM) = some false
  kN : PySem.W.kitOne K (.ref C0) (.ref C0) = some true
  ex : PySem.W.exmOne K (.ref C0) cS = some true
  no : PySem.W.findIn K (.ref C0) Nt.fld = some none
section
variable {P : Program} {w : World} {K : PySem.W.Frag} {mg : Str → Option Value} {base : Heap}
theorem ok_word {j : Nat} {f fC cw Pw C0 CU CM : Addr} {fd fdC : FuncData} {cS : Value} {T : List (Addr × Str)} (D : Df K mg "_law_word" 40 f fd) (DC : Df K mg "_law_caught" 39 fC fdC) (C : Con mg) (W : Wds K mg C0 CU CM cS)
    (hcode : ∀ oc od fd' osl, K.lookup f = some ⟨oc, od, .func fd', osl⟩ → fd'.code = .ref cw) (TB : TabB base mg cw Pw) (hmT : (Pw, ("_law_word.<locals>.<lambda>" : Str)) ∈ T) (huT : ∀ p ∈ T, p.1 = Pw → p.2 = ("_law_word.<locals>.<lambda>" : Str)) :
    Lm.FnA P w K mg base (j + 3) j f (TTw K T C0) := by
  have c_caught := ok_caught (P := P) (w := w) (base := base) (j := j + 1) DC C W.gS
  obtain ⟨oc, od, kV, doc, pm, an, cdv, ct, osl, rfl, lk, hcd⟩ := D.fn.ex
  have ecd : cdv = .ref cw := hcode _ _ _ _ lk
  subst ecd
  refine Lm.fnA_of (N := ["action", "told", "error", "word", "is_one"]) (a := "action") lk hcd scWd (D.fn.binds (fun _ _ _ _ _ _ us hl => match us, hl with | [_], _ => rfl)) fun A outer s H g Q tl hr act h => ?_
  refine ⟨_, pss_cons (ps_set (i := 1) scWd.nd rfl (Or.inr rfl) (pe_lst pa_nil))
    (pss_cons (ps_set (i := 2) scWd.nd rfl (Or.inl rfl) (Lm.pe_lamA (T := T) (TT := TTc K cS) (c := cw) (P := Pw) (k := j + 2) (j := j) (t := fun E => tBM K "list" rAppend (tVar 1) (tCons (fun σ H Q => σ[0]? = some (some (.ref g)) ∧ tl E H Q) tNil)) rfl (by rfl) DC.mgf DC.fn.kp c_caught TB rfl hmT huT hr (lamS_by (sc := defScope (top 40)) (by decide +kernel)) rfl (fun _ _ _ _ _ => rfl)
      (fun pins s' σ H f c' I A outer s1 HZ E fo un hr2 => pe_bm PySem.F.plainAttrs_list PySem.F.slot_list_append PySem.F.type_list_append mt_append (pv 1) (pa_cons (Lm.pe_do (W := fun cls d _ H => E cls d H) rfl rfl rfl (Lm.act_in I rfl rfl rfl act fo un) hr2 (takes_of rfl rfl rfl rfl) (fun _ _ _ _ h => h) rfl (Or.inr (Or.inr rfl))) pa_nil))))
    (pss_cons (ps_if (pt_cmp (pc_isN (pv 2))) (pss_one (ps_ret (pe_ix ix_list (pv 1) pe_int (fun _ _ => rfl)))) pss_nil)
    (pss_cons (ps_if (pt_val (pe_callB Ev.call_isV (by rfl) (C.nb _ (by decide)) bt_isinstance (pa_cons (pv 2) (pa_cons (pe_glob (v := .ref CU) (by rfl) W.gU rfl) pa_nil)))) pss_never pss_nil)
    (pss_cons (ps_if (pt_val (pe_callB Ev.call_isV (by rfl) (C.nb _ (by decide)) bt_isinstance (pa_cons (pv 2) (pa_cons (pe_glob (v := .ref CM) (by rfl) W.gM rfl) pa_nil)))) pss_never pss_nil)
    (pss_cons (ps_if (pt_val (pe_callB Ev.call_isV (by rfl) (C.nb _ (by decide)) bt_isinstance (pa_cons (pv 2) (pa_cons (pe_glob (v := .ref C0) (by rfl) W.gN rfl) pa_nil)))) (pss_one (ps_ret (pe_tup (pa_cons pe_str (pa_cons (Ev.pe_xv (pv 2)) pa_nil))))) pss_nil)
    pss_never))))), ?_⟩
  obtain ⟨hT, h⟩ := h
  refine ⟨by show 0 ≤ sizeLine; decide, fun To hTo => ?_⟩
  have sTo := L2.Same.upd (o := .lst []) hTo
  refine ⟨hT.ext sTo, fun H1 c q eN T1 hc F hF E1 Q1 hE hQ => ?_⟩
  have hTo1 : H1 To = some (.lst []) := eN To _ upd_same (fun ps z => by cases z)
  have hTF : To ≠ F := fun z => by rw [z, hF] at hTo1; cases hTo1
  have sF := L2.Same.upd (o := .lst []) hF
  have eN0 : ExtN H H1 := (ExtN.of sTo).trans eN
  refine ⟨sF _ _ hc, ?_⟩
  refine ⟨_, rfl, .inl ⟨rfl, _, .inl (.inl (sF _ _ hTo1))⟩, rfl, ?_⟩
  refine h _ (eN0.trans (ExtN.of sF)) (T1.ext sF) _ _ (fun dd H2 s2 hdd0 hdd hq => ?_) fun v H2 s2 hq => ?_
  · -- an error
    have hF2 : H2 F = some (.lst []) := s2 _ _ upd_same
    refine hE (.ref C0) (some dd) H2 hF2 W.ex fun a ha H3 s3 => ?_
    have hFa : F ≠ a := fun z => by rw [← z, hF2] at ha; cases ha
    have k3 : ∀ b o, H1 b = some o → H3 b = some o := fun b o e => by
      have e2 := s2 _ _ (sF _ _ e)
      have bF : b ≠ F := ne_of_none e hF
      have ba : b ≠ a := ne_of_none e2 ha
      refine s3 b o ?_
      rw [upd_ne ba, upd_ne bF]
      exact e2
    have hdF : dd ≠ F := fun z => by rw [z, upd_same] at hdd0; cases hdd0
    have hda : dd ≠ a := ne_of_none hdd ha
    have hdd3 : H3 dd = some (.xd [(Nt.fld, .int 0)]) := s3 _ _ (by rw [upd_ne hda, upd_ne hdF]; exact hdd)
    have ha3 : H3 a = some (Ev.ExV (.ref C0) (some dd) a) := s3 _ _ upd_same
    refine ⟨_, rfl, _, rfl, ?_⟩
    rw [decide_eq_false (by intro z; cases z)]
    refine iteF ⟨_, rfl, ⟨a, C0, dd, _, .ref CU, .ref CU, false, rfl, ha3, hdd3, .own CU, W.isa, W.kU, _, rfl, iteF ?_⟩⟩
    refine ⟨_, rfl, ⟨a, C0, dd, _, .ref CM, .ref CM, false, rfl, ha3, hdd3, .own CM, W.isa, W.kM, _, rfl, iteF ?_⟩⟩
    refine ⟨_, rfl, ⟨a, C0, dd, _, .ref C0, .ref C0, true, rfl, ha3, hdd3, .own C0, W.isa, W.kN, _, rfl, iteT ?_⟩⟩
    refine ⟨_, rfl, a, C0, dd, _, .int 0, rfl, ha3, hdd3, rfl, W.isa, W.no, by show 2 ≤ sizeLine; decide, fun Tt hTt => ?_⟩
    have sT := L2.Same.upd (o := .tup [.str "text", .int 0]) hTt
    exact hq _ Tt (eN0.trans (ExtN.of fun b o e => sT _ _ (k3 b o e))) (T1.ext fun b o e => sT _ _ (k3 b o e)) upd_same
  · -- a value
    have hF2 : H2 F = some (.lst []) := s2 _ _ upd_same
    have hTo2 : H2 To = some (.lst []) := s2 _ _ (sF _ _ hTo1)
    refine ⟨To, [], v, rfl, rfl, hTo2, by show 0 < sizeLine; decide, ?_⟩
    refine hQ .non _ ((upd_ne (Ne.symm hTF)).trans hF2) fun H3 s3 => ?_
    have kH : ∀ b o, H b = some o → (∀ ps, o ≠ .tbl ps) → H3 b = some o := fun b o e n => by
      have e2 := s2 _ _ (sF _ _ (eN0 b o e n))
      have bT : b ≠ To := ne_of_none e hTo
      exact s3 b o (by rw [upd_ne bT]; exact e2)
    have hTo3 : H3 To = some (.lst [v]) := s3 _ _ upd_same
    refine ⟨_, rfl, _, rfl, ?_⟩
    rw [decide_eq_true rfl]
    refine iteT ⟨_, rfl, To, [v], 0, v, rfl, rfl, .inl (.inl hTo3), rfl, ?_⟩
    refine hq H3 kH (tabs_but (T1.ext fun b o e => s2 _ _ (sF _ _ e)) fun b o e n => ?_) ((tupK_lst hTo2).trans (tupK_same s3))
    have bT : b ≠ To := fun z => by rw [z, hTo2] at e; exact n _ (Option.some.inj e).symm
    exact s3 b o (by rw [upd_ne bT]; exact e)
end
end Kw

set_option Elab.async false
set_option linter.all false
set_option maxRecDepth 100000
namespace Sb
open PySem
mutual
theorem depth_dep : ∀ {d : PyData}, wf d = true → d.depth = dep d
  | .tuple xs, h => by simp only [PyData.depth, dep]; rw [depthAll_dep (by simpa [wf] using h)]; omega
  | .none, _ => rfl
  | .str _, _ => rfl
  | .int _, _ => rfl
  | .bool _, h => by simp [wf] at h
  | .list _, h => by simp [wf] at h
  | .dict _, h => by simp [wf] at h
theorem depthAll_dep : ∀ {l : List PyData}, wfAll l = true → PyData.depthAll l = depAll l
  | [], _ => rfl
  | d :: r, h => by
    simp only [wfAll, Bool.and_eq_true] at h
    simp only [PyData.depthAll, depAll, depth_dep h.1, depthAll_dep h.2]
end
theorem word_small {l : List Nat} (h : isWordL l = true) : ∀ c ∈ l, 97 ≤ c ∧ c ≤ 122 := fun c hc => by
  have := (word_all h).2 c hc
  simpa [isSmall] using this
mutual
theorem canLay_wf : ∀ {d : PyData}, wf d = true → d.canLay0 = true
  | .tuple xs, h => by simp only [PyData.canLay0]; exact canLayAll_wf (by simpa [wf] using h)
  | .none, _ => rfl
  | .str x, h => by
    simp only [PyData.canLay0, PyData.strOk]
    have hw : isWordL x.cps.toList = true := by simpa [wf] using h
    rw [← Array.all_toList, List.all_eq_true]
    intro c hc
    have := word_small hw c hc
    simp
    omega
  | .int _, _ => rfl
  | .bool _, h => by simp [wf] at h
  | .list _, h => by simp [wf] at h
  | .dict _, h => by simp [wf] at h
theorem canLayAll_wf : ∀ {l : List PyData}, wfAll l = true → PyData.canLayAll0 l = true
  | [], _ => rfl
  | d :: r, h => by
    simp only [wfAll, Bool.and_eq_true] at h
    simp only [PyData.canLayAll0, canLay_wf h.1, canLayAll_wf h.2, Bool.and_self]
end
mutual
theorem showable_wf : ∀ {d : PyData}, wf d = true → d.showable = true ∧ d.hasDict = false
  | .tuple xs, h => by simp only [PyData.showable, PyData.hasDict]; exact showableAll_wf (by simpa [wf] using h)
  | .none, _ => ⟨rfl, rfl⟩
  | .str x, h => ⟨rfl, rfl⟩
  | .int i, h => by
    refine ⟨?_, rfl⟩
    have hz : i.natAbs < 1000000000000 := by simpa [wf] using h
    simp only [PyData.showable, decide_eq_true_eq]
    by_cases hz0 : i.natAbs = 0
    · rw [hz0]; decide
    · rw [Nat.log2_lt hz0]
      exact Nat.lt_of_lt_of_le hz (by decide)
  | .bool _, h => by simp [wf] at h
  | .list _, h => by simp [wf] at h
  | .dict _, h => by simp [wf] at h
theorem showableAll_wf : ∀ {l : List PyData}, wfAll l = true → PyData.showableAll l = true ∧ PyData.hasDictAll l = false
  | [], _ => ⟨rfl, rfl⟩
  | d :: r, h => by
    simp only [wfAll, Bool.and_eq_true] at h
    obtain ⟨a, b⟩ := showable_wf h.1
    obtain ⟨c, e⟩ := showableAll_wf h.2
    exact ⟨by simp only [PyData.showableAll, a, c, Bool.and_self], by simp only [PyData.hasDictAll, b, e, Bool.or_self]⟩
end
mutual
theorem eqv_wf : ∀ {d e : PyData}, wf d = true → wf e = true → PyData.eqv d e = true → d = e
  | .none, e, _, he, h => by cases e <;> simp_all [PyData.eqv, wf]
  | .int i, e, _, he, h => by cases e <;> simp_all [PyData.eqv, wf]
  | .str x, e, _, he, h => by cases e <;> simp_all [PyData.eqv, wf]
  | .tuple xs, e, hd, he, h => by
    cases e with
    | tuple ys =>
      have := eqvAll_wf (l := xs) (m := ys) (by simpa [wf] using hd) (by simpa [wf] using he) (by simpa [PyData.eqv] using h)
      rw [this]
    | _ => simp_all [PyData.eqv, wf]
  | .bool _, _, h, _, _ => by simp [wf] at h
  | .list _, _, h, _, _ => by simp [wf] at h
  | .dict _, _, h, _, _ => by simp [wf] at h
theorem eqvAll_wf : ∀ {l m : List PyData}, wfAll l = true → wfAll m = true → PyData.eqvAll l m = true → l = m
  | [], [], _, _, _ => rfl
  | [], _ :: _, _, _, h => by simp [PyData.eqvAll] at h
  | _ :: _, [], _, _, h => by simp [PyData.eqvAll] at h
  | d :: r, e :: s, hd, he, h => by
    simp only [wfAll, Bool.and_eq_true] at hd he
    simp only [PyData.eqvAll, Bool.and_eq_true] at h
    rw [eqv_wf hd.1 he.1 h.1, eqvAll_wf hd.2 he.2 h.2]
end
mutual
theorem vt_ascii : ∀ {d : PyData}, wf d = true → ∀ c ∈ vt d, c < 128
  | .tuple xs, h => fun c hc => by
    simp only [vt, List.mem_cons, List.mem_append, List.not_mem_nil, or_false] at hc
    rcases hc with z | z | z
    · omega
    · exact vtAll_ascii (l := xs) (by simpa [wf] using h) c z
    · omega
  | .none, _ => fun c hc => by simp [vt] at hc; omega
  | .str x, h => fun c hc => by
    have hw : isWordL x.cps.toList = true := by simpa [wf] using h
    have := word_small hw c (by simpa [vt] using hc)
    omega
  | .int i, h => fun c hc => by
    simp only [vt] at hc
    rcases intL_cases i with ⟨_, q⟩ | ⟨_, q⟩
    · rw [q] at hc
      rcases List.mem_cons.mp hc with z | z
      · omega
      · have := TL.numL_digits _ c z; omega
    · rw [q] at hc
      have := TL.numL_digits _ c hc; omega
  | .bool _, h => by simp [wf] at h
  | .list _, h => by simp [wf] at h
  | .dict _, h => by simp [wf] at h
theorem vtAll_ascii : ∀ {l : List PyData}, wfAll l = true → ∀ c ∈ vtAll l, c < 128
  | [], _ => fun c hc => by simp [vtAll] at hc
  | d :: r, h => fun c hc => by
    simp only [wfAll, Bool.and_eq_true] at h
    rw [vtAll_cons] at hc
    rcases List.mem_append.mp hc with z | z
    · exact vt_ascii h.1 c z
    · exact vtTail_ascii h.2 c z
theorem vtTail_ascii : ∀ {l : List PyData}, wfAll l = true → ∀ c ∈ vtTail l, c < 128
  | [], _ => fun c hc => by simp [vtTail] at hc
  | d :: r, h => fun c hc => by
    simp only [wfAll, Bool.and_eq_true] at h
    rw [vtTail_cons] at hc
    rcases List.mem_cons.mp hc with z | z
    · omega
    rcases List.mem_append.mp z with z | z
    · exact vt_ascii h.1 c z
    · exact vtTail_ascii h.2 c z
end
end Sb

set_option Elab.async false
set_option linter.all false
set_option maxRecDepth 100000
set_option maxHeartbeats 8000000
namespace Kw
open PySem PySem.Spec PyProof.Rows L2 Sb LamX
mutual
theorem dp_ext {K : PySem.W.Frag} {H H' : Hp} (h : ExtN H H') : ∀ {v : V} {d : PyData}, Dp K H v d → Dp K H' v d
  | _, _, .non => .non
  | _, _, .bl b => .bl b
  | _, _, .int i => .int i
  | _, _, .str x => .str x
  | _, _, .lst s a => .lst (by
      rcases s with (s | ⟨o, s⟩) | s
      · exact .inl (.inl (h _ _ s (fun ps z => by cases z)))
      · exact .inl (.inr ⟨o, h _ _ s (fun ps z => by cases z)⟩)
      · exact .inr s) (dpAll_ext h a)
  | _, _, .tup s a => .tup (by
      rcases s with (s | ⟨o, s⟩) | s
      · exact .inl (.inl (h _ _ s (fun ps z => by cases z)))
      · exact .inl (.inr ⟨o, h _ _ s (fun ps z => by cases z)⟩)
      · exact .inr s) (dpAll_ext h a)
theorem dpAll_ext {K : PySem.W.Frag} {H H' : Hp} (h : ExtN H H') : ∀ {vs : List V} {ds : List PyData}, DpAll K H vs ds → DpAll K H' vs ds
  | _, _, .nil => .nil
  | _, _, .cons a b => .cons (dp_ext h a) (dpAll_ext h b)
end
theorem StB.ext {H H' : Hp} {st G Cl : Addr} {n : Nat} (h : StB H st G Cl n) (s : ExtN H H') : StB H' st G Cl n := by
  obtain ⟨gs, cs, r, t, a, b⟩ := h
  exact ⟨gs, cs, r, t, ⟨s _ _ a.d (fun ps z => by cases z), s _ _ a.g (fun ps z => by cases z), s _ _ a.c (fun ps z => by cases z), a.g0, a.c0, a.r0, a.t0, a.n1, a.n2, a.n3⟩, b⟩
theorem tabs_kp {K : PySem.W.Frag} {T : List (Addr × Str)} {H H' : Hp} {st G Cl : Addr} {n : Nat} (t : Tabs T H) (h : StB H st G Cl n) (k : Kp K st G H H') : Tabs T H' := fun p hp => by
  obtain ⟨gs, cs, r, tt, a, b⟩ := h
  obtain ⟨ps, h1, h2, h3⟩ := t p hp
  have ne : ∀ {c : Addr} {o : HO}, H c = some o → (∀ kv, o ≠ .dK kv) → (∀ xs, o ≠ .lst xs) → H' c = some o := fun {c o} e n1 n2 =>
    k.at_ c o (fun z => by rw [z, a.d] at e; exact n1 _ (Option.some.inj e).symm) (fun z => by rw [z, a.g] at e; exact n2 _ (Option.some.inj e).symm) e
  refine ⟨ps, ne h1 (fun _ z => by cases z) (fun _ z => by cases z), h2, fun pos cv hc => ?_⟩
  obtain ⟨c, e1, e2⟩ := h3 pos cv hc
  exact ⟨c, e1, ne e2 (fun _ z => by cases z) (fun _ z => by cases z)⟩
theorem sql_kp {K : PySem.W.Frag} {H H' : Hp} {st G Cl a : Addr} {n : Nat} {xs : List V} (h : SqL K H a xs) (k : Kp K st G H H') (h1 : a ≠ st) (h2 : a ≠ G) : SqL K H' a xs := by
  rcases h with (h | ⟨o, h⟩) | h
  · exact .inl (.inl (k.at_ _ _ h1 h2 h))
  · exact .inl (.inr ⟨o, k.at_ _ _ h1 h2 h⟩)
  · exact .inr h
/-! ### the sizes of the values that are drawn -/
theorem intL_len {i : Int} (h : i.natAbs < 1000000000000) : (intL i).length ≤ 13 := by
  have hl : (TL.numL i.natAbs).length ≤ 12 := TL.numL_len (by decide) (by simpa using h)
  rcases intL_cases i with ⟨_, q⟩ | ⟨_, q⟩
  · rw [q]; simp; omega
  · rw [q]; omega
mutual
theorem vt_len : ∀ {d : PyData}, wf d = true → sm d = true → (vt d).length + 1 ≤ 20 * sz d
  | .tuple xs, h, hs => by
    have := vls_len (l := xs) (by simpa [wf] using h) (by simpa [sm] using hs)
    have e1 : (vt (.tuple xs)).length = (vtAll xs).length + 2 := by simp [vt]
    have e2 := vtAll_vls xs
    simp only [sz]
    omega
  | .none, _, _ => by simp [vt, sz]
  | .str x, h, hs => by
    have : x.length ≤ 13 := by simpa [sm] using hs
    have e : (vt (.str x)).length = x.length := by simp [vt, Str.length]
    simp only [sz]
    omega
  | .int i, h, _ => by
    have := intL_len (i := i) (by simpa [wf] using h)
    simp only [vt, sz]
    omega
  | .bool _, h, _ => by simp [wf] at h
  | .list _, h, _ => by simp [wf] at h
  | .dict _, h, _ => by simp [wf] at h
theorem vls_len : ∀ {l : List PyData}, wfAll l = true → smAll l = true → vls l ≤ 20 * szAll l
  | [], _, _ => by simp [vls]
  | d :: r, h, hs => by
    simp only [wfAll, Bool.and_eq_true] at h
    simp only [smAll, Bool.and_eq_true] at hs
    have h1 := vt_len h.1 hs.1
    have h2 := vls_len h.2 hs.2
    simp only [vls, szAll]
    omega
end
theorem word_codes {x : Str} (h : isWordL x.cps.toList = true) : ∀ c ∈ x.cps.toList, c < 16 ^ 8 := fun c hc => by
  have := word_small h c hc
  have e : (16 : Nat) ^ 8 = 4294967296 := by decide
  omega
theorem shownAll_len' : ∀ l : List PyData, (PyData.shownAll l).length = l.length
  | [] => rfl
  | d :: r => by simp [PyData.shownAll, shownAll_len' r]
mutual
theorem shown_len : ∀ {d : PyData}, wf d = true → sm d = true → d.shown.length + 2 ≤ 200 * sz d
  | .tuple xs, h, hs => by
    have h1 := shownAll_len (l := xs) (by simpa [wf] using h) (by simpa [sm] using hs)
    have h2 := tupleText_len_le (PyData.shownAll xs)
    have h3 := shownAll_len' xs
    have h4 := len_szAll xs
    simp only [PyData.shown, sz]
    omega
  | .none, _, _ => by
    have e : (PyData.shown .none).length = 4 := rfl
    simp only [sz]
    omega
  | .str x, h, hs => by
    have h1 : x.length ≤ 13 := by simpa [sm] using hs
    have h2 := StrLaws.reprText_len x (word_codes (by simpa [wf] using h))
    simp only [PyData.shown, sz]
    omega
  | .int i, h, _ => by
    have h1 := intL_len (i := i) (by simpa [wf] using h)
    have h2 : (PyData.shown (.int i)).length = (intL i).length := by
      show (Str.ofString (toString i)).length = _
      rw [strI, SX.S_len]
    simp only [sz]
    omega
  | .bool _, h, _ => by simp [wf] at h
  | .list _, h, _ => by simp [wf] at h
  | .dict _, h, _ => by simp [wf] at h
theorem shownAll_len : ∀ {l : List PyData}, wfAll l = true → smAll l = true → ((PyData.shownAll l).map (·.length)).sum + 2 * l.length ≤ 200 * szAll l
  | [], _, _ => by simp [PyData.shownAll]
  | d :: r, h, hs => by
    simp only [wfAll, Bool.and_eq_true] at h
    simp only [smAll, Bool.and_eq_true] at hs
    have h1 := shown_len h.1 hs.1
    have h2 := shownAll_len h.2 hs.2
    simp only [PyData.shownAll, List.map_cons, List.sum_cons, List.length_cons, szAll]
    omega
end
/-- what _law_is wants of a text -/
theorem is_text {K : PySem.W.Frag} {H : Hp} {l : List Nat} {Q : VK} {E : XK} (hc : ∀ c ∈ l, c < 128) (hl : l.length ≤ 100000) (q : ∀ H', Same H H' → Q (.bl true) H') : spIs K [.str (SX.S l), .str (SX.S l)] H Q E := by
  have e : (SX.S l).cps.toList = l := by simp
  have hs : PyData.strOk (SX.S l) = true := by
    simp only [PyData.strOk]
    rw [← Array.all_toList, List.all_eq_true]
    intro c hc'
    have := hc c (by rw [← e]; exact hc')
    simp
    omega
  refine ⟨_, _, .str (SX.S l), rfl, .str _, .str _, rfl, by simp [dep], ?_, rfl, rfl, ?_, q⟩
  · simp only [SeqAt.shaped, PyData.canLay0, hs, PyData.depth]
    rfl
  · have := StrLaws.reprText_len (SX.S l) (fun c hc' => by
      have z := hc c (by rw [← e]; exact hc')
      have e : (16 : Nat) ^ 8 = 4294967296 := by decide
      omega)
    have e2 := SX.S_len l
    show (reprText (SX.S l)).length ≤ sizeLine
    rw [sizeLine_eq]
    omega
/-- .. of a value -/
theorem is_data {K : PySem.W.Frag} {H : Hp} {v u : V} {d : PyData} {Q : VK} {E : XK} (hv : Dp K H v d) (hu : Dp K H u d) (hw : wf d = true) (hd : dep d ≤ 60) (hs : sm d = true) (hz : sz d ≤ 1000) (q : ∀ H', Same H H' → Q (.bl true) H') : spIs K [v, u] H Q E := by
  have h1 := shown_len hw hs
  refine ⟨v, u, d, rfl, hv, hu, wf_nol hw, by omega, shaped_wf hw (by omega), (showable_wf hw).1, (showable_wf hw).2, by rw [sizeLine_eq]; omega, q⟩
where
  shaped_wf {d : PyData} (hw : wf d = true) (hd : dep d ≤ 64) : SeqAt.shaped d = true := by
    simp only [SeqAt.shaped, canLay_wf hw, depth_dep hw, Bool.true_and, decide_eq_true_eq]
    exact hd
theorem shaped_wf {d : PyData} (hw : wf d = true) (hd : dep d ≤ 64) : SeqAt.shaped d = true := by
  simp only [SeqAt.shaped, canLay_wf hw, depth_dep hw, Bool.true_and, decide_eq_true_eq]
  exact hd
theorem eqv_self {d : PyData} (hw : wf d = true) : PyData.eqv d d = true := SeqAt.eqv_refl d (canLay_wf hw)
theorem eqv_ne {d e : PyData} (hd : wf d = true) (he : wf e = true) (h : d ≠ e) : PyData.eqv d e = false := by
  cases hq : PyData.eqv d e with
  | false => rfl
  | true => exact absurd (eqv_wf hd he hq) h
/-- ('text', 0) -/
def dTx : PyData := .tuple [.str "text", .int 0]
theorem dTx_wf : wf dTx = true := by decide +kernel
theorem dTx_dep : dep dTx ≤ 64 := by decide +kernel
theorem dp_tx {K : PySem.W.Frag} {H : Hp} {T : Addr} (h : H T = some (.tup [.str "text", .int 0])) : Dp K H (.ref T) dTx := .tup (.inl (.inl h)) (.cons (.str _) (.cons (.int 0) .nil))
end Kw

set_option Elab.async false
set_option linter.all false
set_option maxRecDepth 100000
set_option maxHeartbeats 8000000
namespace Kw
open PySem PySem.Spec PyProof.Rows L2 Sb LamX
theorem scL : FnScope ["script", "state", "thing", "deepest", "turn", "one", "other", "text", "at", "bent", "told"] ["script"] (defScope (top 43)) := ⟨rfl, rfl, rfl, by decide +kernel, rfl, by decide +kernel, by decide +kernel⟩
abbrev rAddS : R2 := fun x y H Q => ∃ i j, x = .str i ∧ y = .str j ∧ i.length + j.length ≤ sizeLine ∧ Q (.str (i ++ j)) H
abbrev rMulS : R2 := fun x y H Q => ∃ a n, x = .str a ∧ y = .int n ∧ MulOk a n ∧ Q (.str (Txt.mul a n)) H
def t60 : TE := tOp rAddS (tOp rAddS (tOp rMulS (tC (.str "(")) (tC (.int 60))) (tC (.str "a"))) (tOp rMulS (tC (.str ")")) (tC (.int 60)))
section
variable {X : Cx} {CX : CXT} {k j i : Nat} {x p1 : Str} {sp : Sp} {E1 : XK} {p pos : Pos} {kws : List Keyword} {tk : TA} {f' : Addr} {fd' : FuncData}
/-- f(k = v): its one parameter by name -/
theorem pe_qK (c : Cl X.prog X.w X.K X.mg X.base CX k x [p1] sp) (D : Df X.K X.mg x i f' fd')
    (b : ∀ (kV doc pm : Value) (an : Option Addr) (cdv ct : Value) (us ws : List Value), (us ++ ws).length = 1 → bindArgs (PySem.W.fnOf x x (defArgs (top i)) (defBody (top i)) (defScope (top i)) .none kV doc pm an cdv ct) ⟨us, [p1].zip ws⟩ = pure ([p1].zip (us ++ ws)))
    (hr : Room j X.A) (hk : k ≤ j) (hg : Gl X x) (hp : Passes CX X E1) (hkw : PK X kws tk) (hall : (backToKw pos (keywordEach kws X.env)).all (·.1.isSome) = true := by rfl) (hks : (backToKw pos (keywordEach kws X.env)).filterMap (·.1) = [p1] := by rfl)
    (hdb : (x == ("__debug__" : Str)) = false := by decide) (hpl : ((backTo pos (starEach [] X.env)).any (·.1) || (backToKw pos (keywordEach kws X.env)).any (·.1.isNone)) = false := by rfl) :
    PE X (.Call (.Name x p) [] kws pos) (tCallK sp (fun vs zs => vs ++ zs) E1 tNil tk) := by
  obtain ⟨f, fd, F, hm, kp, bb, oc, od, osl, lk⟩ := c.ex
  have ef : f = f' := by have := hm.symm.trans D.mgf; cases this; rfl
  subst ef
  obtain ⟨oc', od', kV, doc, pm, an, cdv, ct, osl', efd, lk', _⟩ := D.fn.ex
  have e2 : fd = fd' := by have := lk.symm.trans lk'; cases this; rfl
  subst e2
  subst efd
  exact Gd.pe_callK0 (g := fun us ws => us ++ ws) F (hr.mono hk) hg hm kp ⟨fun s us ws _ hl => .of_eq (b kV doc pm an cdv ct us ws hl), fun r rz => r.append rz⟩ hp hkw hall hks hdb hpl
end
/-- what stands for the law: each def's promise -/
structure Fs (P : Program) (w : World) (K : PySem.W.Frag) (mg : Str → Option Value) (base : Heap) (T : List (Addr × Str)) (C0 : Addr) (fI fW fV fR : Addr) (dI dW dV dR : FuncData) : Prop where
  begun : Cl P w K mg base CX0 1 "_law_begun" ["script"] (spBegun K)
  nested : Cl P w K mg base CX0 1 "_law_nested" ["many", "one"] (spNested K)
  sv : Cl P w K mg base CX0 7 "_law_some_value" ["state", "deep"] (spSv K 4)
  lt : Cl P w K mg base CX0 62 "_law_value_text" ["value"] (spLt K 62)
  draw : Cl P w K mg base CX0 2 "_law_draw" ["state", "room"] (spDraw K)
  pick : Cl P w K mg base CX0 3 "_law_pick" ["state", "some"] (spPick K)
  plain : Cl P w K mg base CX0 62 "_law_plain" ["value"] (spPlainL K 62)
  vt : Cl P w K mg base (L2.CX P w) 3 "value_text" ["value"] (spText K C0)
  rv : Cl P w K mg base (L2.CX P w) 4 "read_value" ["text"] (spRead K C0)
  is_ : Gd.FnG P w K mg base CX0 63 fI dI ["found", "due"] (spIs K)
  word : Lm.FnA P w K mg base 8 5 fW (TTw K T C0)
  DI : Df K mg "_law_is" 37 fI dI
  DW : Df K mg "_law_word" 40 fW dW
  DV : Df K mg "value_text" 26 fV dV
  DR : Df K mg "read_value" 30 fR dR
  bI : Binds K dI ["found", "due"] []
def spLaw (K : PySem.W.Frag) (T : List (Addr × Str)) : Sp := fun vs H Q _ => ∃ (a : Addr) (ns : List Int), vs = [.ref a] ∧ SqL K H a (ns.map V.int) ∧ ns.length ≤ 1000 ∧ Tabs T H ∧ ∀ H', Q (.bl true) H'
theorem fnG_code {CX : CXT} {P : Program} {w : World} {K : PySem.W.Frag} {mg : Str → Option Value} {base : Heap} {x qual : Str} {st : Stmt} {f c : Addr} {fd : FuncData} {N ps : List Str} {k : Nat} {sp : Sp} (F : Fun K x qual st f fd) (hcode : ∀ oc od fd' osl, K.lookup f = some ⟨oc, od, .func fd', osl⟩ → fd'.code = .ref c) (S : FnScope N ps (defScope st)) (len : ∀ vs H Q E, sp vs H Q E → vs.length = ps.length)
    (hbody : ∀ (A : Around) (outer : List Env) (s : Shared) (H : Hp) (vs : List V) (Q : VK) (E : XK), (A.deeper (envOfC qual (defScope st) s.heap.objs.size f (.ref c))).guards = some [] → Room k (A.deeper (envOfC qual (defScope st) s.heap.objs.size f (.ref c))) → sp vs H Q E →
      ∃ t, PSs (cxOf CX P w K mg base N qual (defScope st) f (.ref c) A outer s H E) (defBody st) t ∧ t { nx := fun _ H' => Q .non H', rt := Q } (start N vs) H) : Gd.FnG P w K mg base CX (k + 1) f fd ps sp := by
  obtain ⟨oc, od, kV, doc, pm, an, cdv, ct, osl, rfl, lk, hcd⟩ := F.ex
  have ecd : cdv = .ref c := hcode _ _ _ _ lk
  subst ecd
  refine ⟨len, fun A outer s H args us vs Q E hg hr e0 hb rv hsp => ?_⟩
  exact run_ofS (N := N) (ps := ps) (us := us) (vs := vs) lk hcd S hr e0 hb rv (len _ _ _ _ hsp) fun hr' => hbody A outer s H vs Q E hg hr' hsp
/-- the things that value_text refuses -/
def bad1 : List PyData := [.str "A", .str "", .str "a b", .str "a1", .str "-", .int (10 ^ (12 : Int).toNat), .int (0 - 10 ^ (12 : Int).toNat), .bool true, .list [.str "a"], .tuple [.str "a", .list [.str "b"]], .tuple [.str "a", .str "B"], nest 60 (.str "a"), .tuple [.str "a", .bool true]]
theorem bad1_ok : ∀ d ∈ bad1, isValue d = false ∧ sOk d = true ∧ sz d ≤ 16777216 := by
  have h : (bad1.all fun d => !isValue d && sOk d && decide (sz d ≤ 16777216)) = true := by decide +kernel
  intro d hd
  have := List.all_eq_true.mp h d hd
  simp only [Bool.and_eq_true, Bool.not_eq_true', decide_eq_true_eq] at this
  exact ⟨this.1.1, this.1.2, this.2⟩
/-- the things that read_value refuses -/
def bad2 : List PyData := [.none, .int 5, .str "", .str " ", .str "A", .str "a b", .str "01", .str "-0", .str "--1", .str "+1", .str "1000000000000", .str "(", .str ")", .str "(a", .str "a)", .str "(a))", .str "( a)", .str "(a )", .str "(a  b)", .str "()()", .str "(a)(b)", .str "a()", .str "1a", .str "a1", .str "- 1", .str "(-)-", .str "(a\nb)", .str "1/2"]
def bad2B : PyData → Bool
  | .str x => decide (x.length ≤ 1048576) && (readV x.cps.toList).isNone
  | _ => true
theorem bad2_ok : ∀ d ∈ bad2, (∀ x, d = .str x → x.length ≤ 1048576) ∧ readD d = none := by
  have h : (bad2.all bad2B) = true := by decide +kernel
  intro d hd
  have := List.all_eq_true.mp h d hd
  cases d with
  | str x =>
    simp only [bad2B, Bool.and_eq_true, decide_eq_true_eq, Option.isNone_iff_eq_none] at this
    exact ⟨fun y e => by cases e; exact this.1, this.2⟩
  | _ => exact ⟨fun y e => (by cases e), rfl⟩
def n59 : PyData := nest 59 (.str "a")
theorem n59_v : isValue n59 = true := by decide +kernel
theorem n59_wf : wf n59 = true ∧ dep n59 ≤ 60 ∧ sm n59 = true ∧ sz n59 ≤ 1000 ∧ sOk n59 = true ∧ (vt n59).length ≤ 1000 := by decide +kernel
theorem e59 : Txt.mul "(" 59 ++ "a" ++ Txt.mul ")" 59 = SX.S (vt n59) := by decide +kernel
theorem b60 : readV (Txt.mul "(" 60 ++ "a" ++ Txt.mul ")" 60).cps.toList = none := by
  have h : (readV (Txt.mul "(" 60 ++ "a" ++ Txt.mul ")" 60).cps.toList).isNone = true := by decide +kernel
  exact Option.isNone_iff_eq_none.mp h
theorem m59a : MulOk "(" 59 := by unfold MulOk; decide +kernel
theorem m59b : MulOk ")" 59 := by unfold MulOk; decide +kernel
theorem m60a : MulOk "(" 60 := by unfold MulOk; decide +kernel
theorem m60b : MulOk ")" 60 := by unfold MulOk; decide +kernel
theorem l59a : (Txt.mul "(" 59).length + (Str.ofString "a").length ≤ sizeLine := by decide +kernel
theorem l59b : (Txt.mul "(" 59 ++ "a").length + (Txt.mul ")" 59).length ≤ sizeLine := by decide +kernel
theorem l60a : (Txt.mul "(" 60).length + (Str.ofString "a").length ≤ sizeLine := by decide +kernel
theorem l60b : (Txt.mul "(" 60 ++ "a").length + (Txt.mul ")" 60).length ≤ sizeLine := by decide +kernel
theorem l60c : (Txt.mul "(" 60 ++ "a" ++ Txt.mul ")" 60).length ≤ 1048576 := by decide +kernel
def flatB : PyData → Bool
  | .none => true
  | .str _ => true
  | .int _ => true
  | _ => false
theorem dpAll_flat {K : PySem.W.Frag} {H : Hp} : ∀ {ds : List PyData}, ds.all flatB = true → DpAll K H (ds.map leafV) ds
  | [], _ => .nil
  | d :: r, h => by
    simp only [List.all_cons, Bool.and_eq_true] at h
    refine .cons ?_ (dpAll_flat h.2)
    cases d with
    | none => exact .non
    | str x => exact .str x
    | int i => exact .int i
    | _ => simp [flatB] at h
def xs2 : List V := bad2.map leafV
theorem b60' : readD (.str (Txt.mul "(" 60 ++ "a" ++ Txt.mul ")" 60)) = none := b60
/-- a refused thing: ('text', 0) -/
theorem word_bad {K : PySem.W.Frag} {T : List (Addr × Str)} {C0 : Addr} {t : XK → TE} {σ : L2.St} {H : Hp} {Z : Bool → Hp → Prop} (hT : Tabs T H) (ht : ∀ (E1 : XK) (Q1 : VK) (H2 : Hp), ExtN H H2 → Tabs T H2 → Rz C0 H2 E1 → t E1 σ H2 Q1) (q : ∀ H3, ExtN H H3 → Tabs T H3 → Z false H3) :
    tTest (tOp (rNeD K) (Lm.tLamA T (TTw K T C0) t) (tTup (tCons (tC (.str "text")) (tCons (tC (.int 0)) tNil)))) σ H Z := by
  refine ⟨hT, fun H1 c q' eN T1 hc => ⟨T1, fun H2 eN2 T2 E1 Q1 hE hQ => ⟨eN2 _ _ hc (fun ps z => by cases z), ?_⟩⟩⟩
  refine ht E1 Q1 H2 (eN.trans eN2) T2 fun dd H' h0 s' hx => hE dd H' s' h0 hx fun H3 Tt eN3 T3 hTt => ?_
  refine ⟨by show 2 ≤ sizeLine; decide, fun Tu hTu => ⟨dTx, dTx, dp_same (L2.Same.upd hTu) (dp_tx hTt), dp_tx upd_same, shaped_wf dTx_wf dTx_dep, shaped_wf dTx_wf dTx_dep, _, rfl, ?_⟩⟩
  rw [eqv_self dTx_wf]
  have sU := L2.Same.upd (o := .tup [.str "text", .int 0]) hTu
  exact q _ ((eN.trans eN3).trans (ExtN.of sU)) (T3.ext sU)
section
variable {P : Program} {w : World} {K : PySem.W.Frag} {mg : Str → Option Value} {base : Heap} {T : List (Addr × Str)} {C0 fI fW fV fR f cl Pl : Addr} {dI dW dV dR fd : FuncData}
theorem ok_law (D : Df K mg "law" 43 f fd) (C : Con mg) (F : Fs P w K mg base T C0 fI fW fV fR dI dW dV dR)
    (hcode : ∀ oc od fd' osl, K.lookup f = some ⟨oc, od, .func fd', osl⟩ → fd'.code = .ref cl) (TB : TabB base mg cl Pl) (hmT : (Pl, ("law.<locals>.<lambda>" : Str)) ∈ T) (huT : ∀ p ∈ T, p.1 = Pl → p.2 = ("law.<locals>.<lambda>" : Str)) :
    Gd.FnG P w K mg base CX0 65 f fd ["script"] (spLaw K T) := by
  refine fnG_code D.fn hcode scL (fun vs H Q E h => ?_) fun A outer s H vs Q E hgd hr h => ?_
  · obtain ⟨a, ns, rfl, _⟩ := h; rfl
  · have hu64 : (A.deeper (envOfC "law" (defScope (top 43)) s.heap.objs.size f (.ref cl))).units + 64 < cLine := hr.units
    refine ⟨_, PSs.nox (pss_cons (ps_set (i := 1) scL.nd rfl (Or.inl rfl) (pe_q F.begun hr (by decide) (by rfl) (pa_cons (pv 0) pa_nil)))
 (pss_cons (ps_for PassesOwn.never rfl (pi_list (pe_lst (pa_cons pe_str (pa_cons pe_str (pa_cons pe_str (pa_cons pe_str (pa_cons pe_str (pa_cons (pe_op op_pow pe_int pe_int) (pa_cons (pe_op op_sub pe_int (pe_op op_pow pe_int pe_int)) (pa_cons pe_bl (pa_cons (pe_lst (pa_cons pe_str pa_nil)) (pa_cons (pe_tup (pa_cons pe_str (pa_cons (pe_lst (pa_cons pe_str pa_nil)) pa_nil))) (pa_cons (pe_tup (pa_cons pe_str (pa_cons pe_str pa_nil))) (pa_cons (pe_q F.nested hr (by decide) (by rfl) (pa_cons pe_int (pa_cons pe_str pa_nil))) (pa_cons (pe_tup (pa_cons pe_str (pa_cons pe_bl pa_nil))) pa_nil))))))))))))))) (pg_name (i := 2) scL.nd rfl (Or.inr rfl))
 (pss_one (ps_if (pt_cmpR (op_neD hu64) (Lm.pe_lamA (T := T) (TT := TTw K T C0) (c := cl) (P := Pl) (k := 8) (j := 4) (t := fun E => tQ (spText K C0) E (tCons (tVar 2) tNil)) rfl (by rfl) F.DW.mgf F.DW.fn.kp F.word TB rfl hmT huT (hr.mono (by decide)) (lamS_by (sc := defScope (top 43)) (by decide +kernel)) rfl (fun _ _ _ _ _ => rfl) (fun pins s' σ H f c' I A outer s1 HZ E fo un hr2 => pe_qp F.vt hr2 (by decide) (by rfl) (passes_call (takes_of rfl rfl rfl rfl) (fun _ _ _ _ h => h)) (pa_cons (pv 2) pa_nil))) (pe_tup (pa_cons pe_str (pa_cons pe_int pa_nil))) (nomark _))
 (pss_one (ps_ret pe_bl))
 pss_nil)))
 (pss_cons (ps_set (i := 3) scL.nd rfl (Or.inl rfl) (pe_q F.nested hr (by decide) (by rfl) (pa_cons pe_int (pa_cons pe_str pa_nil))))
 (pss_cons (ps_if (PW.pt (pw_or (pt_not (pt_val (Gd.pe_callG hgd F.is_ (hr.mono (by decide)) (by rfl) F.DI.mgf F.DI.fn.kp F.bI pass0 (pa_cons (pe_qp F.vt hr (by decide) (by rfl) passL (pa_cons (pv 3) pa_nil)) (pa_cons (pe_op op_add_str (pe_op op_add_str (pe_op Gd.op_mulStr pe_str pe_int) pe_str) (pe_op Gd.op_mulStr pe_str pe_int)) pa_nil)))))
 (pw_or (pt_cmpR (op_neD hu64) (pe_qp F.rv hr (by decide) (by rfl) passL (pa_cons (pe_op op_add_str (pe_op op_add_str (pe_op Gd.op_mulStr pe_str pe_int) pe_str) (pe_op Gd.op_mulStr pe_str pe_int)) pa_nil)) (pv 3) (nomark _))
 (pw_or1 (pt_cmpR (op_neD hu64) (Lm.pe_lamA (T := T) (TT := TTw K T C0) (c := cl) (P := Pl) (k := 8) (j := 4) (t := fun E => tQ (spRead K C0) E (tCons t60 tNil)) rfl (by rfl) F.DW.mgf F.DW.fn.kp F.word TB rfl hmT huT (hr.mono (by decide)) (lamS_by (sc := defScope (top 43)) (by decide +kernel)) rfl (fun _ _ _ _ _ => rfl) (fun pins s' σ H f c' I A outer s1 HZ E fo un hr2 => pe_qp F.rv hr2 (by decide) (by rfl) (passes_call (takes_of rfl rfl rfl rfl) (fun _ _ _ _ h => h)) (pa_cons (pe_op op_add_str (pe_op op_add_str (pe_op Gd.op_mulStr pe_str pe_int) pe_str) (pe_op Gd.op_mulStr pe_str pe_int)) pa_nil))) (pe_tup (pa_cons pe_str (pa_cons pe_int pa_nil))) (nomark _))))))
 (pss_one (ps_ret pe_bl))
 pss_nil)
 (pss_cons (ps_for PassesOwn.never rfl (pi_list (pe_lst (pa_cons pe_non (pa_cons pe_int (pa_cons pe_str (pa_cons pe_str (pa_cons pe_str (pa_cons pe_str (pa_cons pe_str (pa_cons pe_str (pa_cons pe_str (pa_cons pe_str (pa_cons pe_str (pa_cons pe_str (pa_cons pe_str (pa_cons pe_str (pa_cons pe_str (pa_cons pe_str (pa_cons pe_str (pa_cons pe_str (pa_cons pe_str (pa_cons pe_str (pa_cons pe_str (pa_cons pe_str (pa_cons pe_str (pa_cons pe_str (pa_cons pe_str (pa_cons pe_str (pa_cons pe_str (pa_cons pe_str pa_nil)))))))))))))))))))))))))))))) (pg_name (i := 2) scL.nd rfl (Or.inr rfl))
 (pss_one (ps_if (pt_cmpR (op_neD hu64) (Lm.pe_lamA (T := T) (TT := TTw K T C0) (c := cl) (P := Pl) (k := 8) (j := 4) (t := fun E => tQ (spRead K C0) E (tCons (tVar 2) tNil)) rfl (by rfl) F.DW.mgf F.DW.fn.kp F.word TB rfl hmT huT (hr.mono (by decide)) (lamS_by (sc := defScope (top 43)) (by decide +kernel)) rfl (fun _ _ _ _ _ => rfl) (fun pins s' σ H f c' I A outer s1 HZ E fo un hr2 => pe_qp F.rv hr2 (by decide) (by rfl) (passes_call (takes_of rfl rfl rfl rfl) (fun _ _ _ _ h => h)) (pa_cons (pv 2) pa_nil))) (pe_tup (pa_cons pe_str (pa_cons pe_int pa_nil))) (nomark _))
 (pss_one (ps_ret pe_bl))
 pss_nil)))
 (pss_cons (ps_for PassesOwn.never rfl (pi_range1 (by rfl) (C.nb _ (by decide)) (pa_cons (pe_op op_add pe_int (pe_callB (call_min2 rfl) (by rfl) (C.nb _ (by decide)) bt_min (pa_cons (pe_callB (call_len_seq) (by rfl) (C.nb _ (by decide)) bt_len (pa_cons (pv 0) pa_nil)) (pa_cons pe_int pa_nil)))) pa_nil)) (pg_name (i := 4) scL.nd rfl (Or.inl rfl))
 (pss_cons (ps_par (i := 5) (j := 6) rfl scL.nd rfl rfl (by decide) rfl rfl (pa_cons (pe_q F.sv hr (by decide) (by rfl) (pa_cons (pv 1) (pa_cons pe_int pa_nil))) (pa_cons (pe_q F.sv hr (by decide) (by rfl) (pa_cons (pv 1) (pa_cons pe_int pa_nil))) pa_nil)) (by rfl))
 (pss_cons (ps_set (i := 7) scL.nd rfl (Or.inl rfl) (pe_q F.lt hr (by decide) (by rfl) (pa_cons (pv 5) pa_nil)))
 (pss_cons (ps_if (PW.pt (pw_or (pt_not (pt_val (Gd.pe_callG hgd F.is_ (hr.mono (by decide)) (by rfl) F.DI.mgf F.DI.fn.kp F.bI pass0 (pa_cons (pe_qp F.vt hr (by decide) (by rfl) passL (pa_cons (pv 5) pa_nil)) (pa_cons (pv 7) pa_nil)))))
 (pw_or (pt_not (pt_val (Gd.pe_callG hgd F.is_ (hr.mono (by decide)) (by rfl) F.DI.mgf F.DI.fn.kp F.bI pass0 (pa_cons (pe_qp F.rv hr (by decide) (by rfl) passL (pa_cons (pv 7) pa_nil)) (pa_cons (pv 5) pa_nil)))))
 (pw_or (pt_not (pt_val (Gd.pe_callG hgd F.is_ (hr.mono (by decide)) (by rfl) F.DI.mgf F.DI.fn.kp F.bI pass0 (pa_cons (pe_qK F.rv F.DR (fun _ _ _ _ _ _ us ws hl => match us, ws, hl with | [_], [], _ => rfl | [], [_], _ => rfl) hr (by decide) (by rfl) passL (pk_cons (pv 7) pk_nil)) (pa_cons (pv 5) pa_nil)))))
 (pw_or1 (pt_not (pt_val (Gd.pe_callG hgd F.is_ (hr.mono (by decide)) (by rfl) F.DI.mgf F.DI.fn.kp F.bI pass0 (pa_cons (pe_qK F.vt F.DV (fun _ _ _ _ _ _ us ws hl => match us, ws, hl with | [_], [], _ => rfl | [], [_], _ => rfl) hr (by decide) (by rfl) passL (pk_cons (pv 5) pk_nil)) (pa_cons (pv 7) pa_nil))))))))))
 (pss_one (ps_ret pe_bl))
 pss_nil)
 (pss_cons (ps_if (pt_cmpR op_ne (pe_cmpR op_eq (pe_qp F.vt hr (by decide) (by rfl) passL (pa_cons (pv 5) pa_nil)) (pe_qp F.vt hr (by decide) (by rfl) passL (pa_cons (pv 6) pa_nil)) (nomark _)) (pe_cmpR (op_eqD hu64) (pv 5) (pv 6) (nomark _)) (nomark _))
 (pss_one (ps_ret pe_bl))
 pss_nil)
 (pss_cons (ps_set (i := 8) scL.nd rfl (Or.inl rfl) (pe_q F.draw hr (by decide) (by rfl) (pa_cons (pv 1) (pa_cons (pe_op op_add (pe_callB (call_len_str) (by rfl) (C.nb _ (by decide)) bt_len (pa_cons (pv 7) pa_nil)) pe_int) pa_nil))))
 (pss_cons (ps_set (i := 9) scL.nd rfl (Or.inr rfl) (pe_q F.pick hr (by decide) (by rfl) (pa_cons (pv 1) (pa_cons (pe_lst (pa_cons (pe_op op_add_str (pe_op op_add_str (pe_slice C8.sl_txt (pv 7) po_none (po_some (pv 8))) (pe_q F.pick hr (by decide) (by rfl) (pa_cons (pv 1) (pa_cons (pe_lst (pa_cons pe_str (pa_cons pe_str (pa_cons pe_str (pa_cons pe_str pa_nil))))) pa_nil)))) (pe_slice C8.sl_txt (pv 7) (po_some (pv 8)) po_none)) (pa_cons (pe_op op_add_str (pe_slice C8.sl_txt (pv 7) po_none (po_some (pv 8))) (pe_slice C8.sl_txt (pv 7) (po_some (pe_op op_add (pv 8) pe_int)) po_none)) pa_nil))) pa_nil))))
 (pss_cons (ps_set (i := 10) scL.nd rfl (Or.inl rfl) (Lm.pe_lamA (T := T) (TT := TTw K T C0) (c := cl) (P := Pl) (k := 8) (j := 4) (t := fun E => tQ (spRead K C0) E (tCons (tVar 9) tNil)) rfl (by rfl) F.DW.mgf F.DW.fn.kp F.word TB rfl hmT huT (hr.mono (by decide)) (lamS_by (sc := defScope (top 43)) (by decide +kernel)) rfl (fun _ _ _ _ _ => rfl) (fun pins s' σ H f c' I A outer s1 HZ E fo un hr2 => pe_qp F.rv hr2 (by decide) (by rfl) (passes_call (takes_of rfl rfl rfl rfl) (fun _ _ _ _ h => h)) (pa_cons (pv 9) pa_nil))))
 (pss_one (ps_if (PW.pt (pw_and (pt_cmpR (op_neD hu64) (pv 10) (pe_tup (pa_cons pe_str (pa_cons pe_int pa_nil))) (nomark _))
 (pw_and1 (PW.pt (pw_or (pt_not (pt_val (pe_q F.plain hr (by decide) (by rfl) (pa_cons (pv 10) pa_nil))))
 (pw_or1 (pt_cmpR op_ne (pe_q F.lt hr (by decide) (by rfl) (pa_cons (pv 10) pa_nil)) (pv 9) (nomark _))))))))
 (pss_one (ps_ret pe_bl))
 pss_nil))))))))))
 (pss_one (ps_ret pe_bl)))))))), ?_⟩
    obtain ⟨a, ns, rfl, hS, hnl, hT, q⟩ := h
    refine ⟨_, rfl, a, ns, rfl, hS, hnl, fun H1 st G Cl s1 hst0 hG0 hCl0 st1 => ?_⟩
    have T1 := hT.ext s1
    have hS1 := s1.seq hS
    -- the things that value_text refuses
    refine ⟨_, _, rfl, rfl, ⟨by decide, by decide, by decide⟩, _, _, rfl, rfl, ⟨by decide, by decide, by decide⟩, _, _, rfl, rfl, by show 1 ≤ sizeLine; decide, fun La hLa => ⟨by show 1 ≤ sizeLine; decide, fun Lb hLb => ⟨by show 2 ≤ sizeLine; decide, fun T1' hT1 => ⟨by show 2 ≤ sizeLine; decide, fun T2' hT2 => ?_⟩⟩⟩⟩
    refine ⟨60, .str "a", .str "a", rfl, by decide, .str _, fun H2 u60 s2 hu60 => ⟨by show 2 ≤ sizeLine; decide, fun T3' hT3 => ⟨by show 13 ≤ sizeLine; decide, fun B hB => ?_⟩⟩⟩
    have sa := L2.Same.upd (o := .lst [.str "a"]) hLa
    have sb := L2.Same.upd (o := .lst [.str "b"]) hLb
    have sc := L2.Same.upd (o := .tup [.str "a", .ref Lb]) hT1
    have sd := L2.Same.upd (o := .tup [.str "a", .str "B"]) hT2
    have se := L2.Same.upd (o := .tup [.str "a", .bl true]) hT3
    have sf := L2.Same.upd (o := .lst [.str "A", .str "", .str "a b", .str "a1", .str "-", .int (10 ^ (12 : Int).toNat), .int (0 - 10 ^ (12 : Int).toNat), .bl true, .ref La, .ref T1', .ref T2', u60, .ref T3']) hB
    have hef := se.trans sf
    have hdf := s2.trans hef
    have hcf := sd.trans hdf
    have hbf := sc.trans hcf
    have haf := sb.trans hbf
    have h1f := sa.trans haf
    have eB : (upd (upd H2 T3' (.tup [.str "a", .bl true])) B (.lst [.str "A", .str "", .str "a b", .str "a1", .str "-", .int (10 ^ (12 : Int).toNat), .int (0 - 10 ^ (12 : Int).toNat), .bl true, .ref La, .ref T1', .ref T2', u60, .ref T3'])) B = some (.lst [.str "A", .str "", .str "a b", .str "a1", .str "-", .int (10 ^ (12 : Int).toNat), .int (0 - 10 ^ (12 : Int).toNat), .bl true, .ref La, .ref T1', .ref T2', u60, .ref T3']) := upd_same
    have e1 := haf La _ upd_same
    have e2 := hbf Lb _ upd_same
    have e3 := hcf T1' _ upd_same
    have e4 := hdf T2' _ upd_same
    have e5 := sf T3' _ upd_same
    have e6 := dp_same hef hu60
    generalize upd (upd H2 T3' (.tup [.str "a", .bl true])) B (.lst [.str "A", .str "", .str "a b", .str "a1", .str "-", .int (10 ^ (12 : Int).toNat), .int (0 - 10 ^ (12 : Int).toNat), .bl true, .ref La, .ref T1', .ref T2', u60, .ref T3']) = HB at eB e1 e2 e3 e4 e5 e6 h1f
    have hDp : DpAll K HB [.str "A", .str "", .str "a b", .str "a1", .str "-", .int (10 ^ (12 : Int).toNat), .int (0 - 10 ^ (12 : Int).toNat), .bl true, .ref La, .ref T1', .ref T2', u60, .ref T3'] bad1 :=
      .cons (.str _) (.cons (.str _) (.cons (.str _) (.cons (.str _) (.cons (.str _) (.cons (.int _) (.cons (.int _) (.cons (.bl _) (.cons (.lst (.inl (.inl e1)) (.cons (.str _) .nil)) (.cons (.tup (.inl (.inl e3)) (.cons (.str _) (.cons (.lst (.inl (.inl e2)) (.cons (.str _) .nil)) .nil)))
        (.cons (.tup (.inl (.inl e4)) (.cons (.str _) (.cons (.str _) .nil))) (.cons e6 (.cons (.tup (.inl (.inl e5)) (.cons (.str _) (.cons (.bl _) .nil))) .nil))))))))))))
    refine ⟨B, rfl, ⟨_, .inl (.inl eB)⟩, ?_⟩
    refine for_it walk_list (fun i σ Hi => ∃ th : Option V, σ = [some (.ref a), some (.ref st), th, none, none, none, none, none, none, none, none] ∧ ExtN HB Hi ∧ Tabs T Hi) ⟨none, rfl, ExtN.refl _, T1.ext h1f⟩ (fun i σ Hi _ ⟨_, _, e, _⟩ => .inl (.inl (e _ _ eB (fun ps z => by cases z)))) ?_ ?_
    · rintro i x σ Hi Hi' hi ⟨th, rfl, ei, ti⟩ ⟨hE, hx⟩
      obtain rfl := hE.symm
      obtain ⟨d, hd, hp⟩ := hDp.get hx
      obtain ⟨b1, b2, b3⟩ := bad1_ok d (List.mem_of_getElem? hd)
      dsimp only [gName, tIfS]
      refine word_bad ti (fun E1 Q1 H2 ee tt hz => ⟨_, rfl, x, d, rfl, dp_ext (ei.trans ee) hp, b2, b3, fun z => (by rw [b1] at z; cases z), fun _ => hz⟩) fun H3 ee tt => ?_
      exact iteF ⟨_, rfl, ei.trans ee, tt⟩
    rintro σ Hn ⟨th, rfl, en, Tn⟩
    have stn := (st1.same h1f).ext en
    have en1 : ExtN H1 Hn := (ExtN.of h1f).trans en
    clear hDp e1 e2 e3 e4 e5 e6 eB en sa sb sc sd se sf hef hdf hcf hbf haf s2
    -- the deepest value
    refine ⟨59, .str "a", .str "a", rfl, by decide, .str _, fun H3 u s3 hu => ?_⟩
    obtain ⟨nw, nd, ns', nz, no, nl⟩ := n59_wf
    have hu' : Dp K H3 u n59 := hu
    refine ⟨_, rfl, u, n59, rfl, hu', no, by omega, fun _ => ⟨by omega, fun H4 s4 => ?_⟩, fun z => by rw [n59_v] at z; cases z⟩
    refine ⟨_, _, rfl, rfl, m59a, _, _, rfl, rfl, l59a, _, _, rfl, rfl, m59b, _, _, rfl, rfl, l59b, ?_⟩
    rw [e59]
    dsimp only [tNil, List.cons_append, List.nil_append]
    refine is_text (K := K) (vt_ascii nw) (by omega) fun H5 s5 => ⟨_, rfl, iteF ?_⟩
    have s35 := s4.trans s5
    refine ⟨_, _, rfl, rfl, m59a, _, _, rfl, rfl, l59a, _, _, rfl, rfl, m59b, _, _, rfl, rfl, l59b, ?_⟩
    rw [e59]
    refine ⟨.str (SX.S (vt n59)), .str (SX.S (vt n59)), rfl, .str _, fun x e => ?_, fun e he H6 u6 s6 hu6 => ?_, fun z => ?_⟩
    · cases e; rw [SX.S_len]; omega
    · have e6 : e = n59 := by
        have z : readD (.str (SX.S (vt n59))) = some n59 := by
          have := readV_vt n59_v
          have y : (SX.S (vt n59)).cps.toList = vt n59 := by simp
          show readV (SX.S (vt n59)).cps.toList = _
          rw [y]; exact this
        rw [z] at he; cases he; rfl
      subst e6
      have s36 := s35.trans s6
      refine ⟨_, rfl, n59, n59, hu6, dp_same s36 hu', shaped_wf nw (by omega), shaped_wf nw (by omega), _, rfl, ?_⟩
      rw [eqv_self nw]
      refine iteF ?_
      have T6 := (Tn.ext s3).ext s36
      have S3n : Same Hn H6 := s3.trans s36
      refine word_bad T6 (fun E1 Q1 H7 ee tt hz => ?_) fun H7 e7 t7 => ?_
      · refine ⟨_, _, rfl, rfl, m60a, _, _, rfl, rfl, l60a, _, _, rfl, rfl, m60b, _, _, rfl, rfl, l60b, ?_⟩
        exact ⟨.str (Txt.mul "(" 60 ++ "a" ++ Txt.mul ")" 60), .str (Txt.mul "(" 60 ++ "a" ++ Txt.mul ")" 60), rfl, .str _, (fun x e => by cases e; exact l60c), (fun e he => by rw [b60'] at he; cases he), fun _ => hz⟩
      refine iteF ?_
      have en7 : ExtN H1 H7 := en1.trans ((ExtN.of S3n).trans e7)
      have st7 := (stn.same S3n).ext e7
      -- the things that read_value refuses
      refine ⟨by show 28 ≤ sizeLine; decide, fun B hB => ?_⟩
      have sB : Same H7 (upd H7 B (.lst xs2)) := L2.Same.upd hB
      have eB : upd H7 B (.lst xs2) B = some (.lst xs2) := upd_same
      have eq2 : HO.lst xs2 = HO.lst [.non, .int 5, .str "", .str " ", .str "A", .str "a b", .str "01", .str "-0", .str "--1", .str "+1", .str "1000000000000", .str "(", .str ")", .str "(a", .str "a)", .str "(a))", .str "( a)", .str "(a )", .str "(a  b)", .str "()()", .str "(a)(b)", .str "a()", .str "1a", .str "a1", .str "- 1", .str "(-)-", .str "(a\nb)", .str "1/2"] := rfl
      rw [← eq2]
      generalize upd H7 B (.lst xs2) = HB2 at sB eB
      have hDp2 : DpAll K HB2 xs2 bad2 := dpAll_flat (by decide +kernel)
      refine ⟨B, rfl, ⟨_, .inl (.inl eB)⟩, ?_⟩
      refine for_it walk_list (fun i σ Hi => ∃ th : Option V, σ = [some (.ref a), some (.ref st), th, some u, none, none, none, none, none, none, none] ∧ ExtN HB2 Hi ∧ Tabs T Hi) ⟨th, rfl, ExtN.refl _, t7.ext sB⟩ (fun i σ Hi _ ⟨_, _, e, _⟩ => .inl (.inl (e _ _ eB (fun ps z => by cases z)))) ?_ ?_
      · rintro i x σ Hi Hi' hi ⟨th, rfl, ei, ti⟩ ⟨hE, hx⟩
        obtain rfl := hE.symm
        obtain ⟨d, hd, hp⟩ := hDp2.get hx
        obtain ⟨b1, b2⟩ := bad2_ok d (List.mem_of_getElem? hd)
        dsimp only [gName, tIfS]
        refine word_bad ti (fun E1 Q1 H2 ee tt hz => ⟨_, rfl, x, d, rfl, dp_ext (ei.trans ee) hp, b1, fun e z => (by rw [b2] at z; cases z), fun _ => hz⟩) fun H3 ee tt => ?_
        exact iteF ⟨_, rfl, ei.trans ee, tt⟩
      rintro σ Hm ⟨th2, rfl, em, Tm⟩
      have stm := (st7.same sB).ext em
      have enm : ExtN H1 Hm := en7.trans ((ExtN.of sB).trans em)
      clear hDp2 eB em
      have hSm : SqL K Hm a (ns.map V.int) := by
        rcases hS1 with (h | ⟨o, h⟩) | h
        · exact .inl (.inl (enm _ _ h (fun ps z => by cases z)))
        · exact .inl (.inr ⟨o, enm _ _ h (fun ps z => by cases z)⟩)
        · exact .inr h
      -- the turns
      refine ⟨_, rfl, a, _, rfl, .inl hSm, _, _, rfl, _, _, rfl, rfl, _, rfl, by split <;> omega, by split <;> omega, ?_⟩
      have hN : (8 + (if (10 : Int) < ((ns.map V.int).length : Nat) then (10 : Int) else ((ns.map V.int).length : Nat))).toNat ≤ 18 := by split <;> omega
      refine for_it walk_range (fun i σ Hi => ∃ (th x4 x5 x6 x7 x8 x9 x10 : Option V), σ = [some (.ref a), some (.ref st), th, some u, x4, x5, x6, x7, x8, x9, x10] ∧ Tabs T Hi ∧ StB Hi st G Cl (i * 170)) ⟨th2, none, none, none, none, none, none, none, rfl, Tm, stm.mono (Nat.zero_le _)⟩ (fun _ _ _ _ _ => trivial) ?_ ?_
      · rintro i x σ Hi Hi' hi ⟨th, x4, x5, x6, x7, x8, x9, x10, rfl, ti, sti⟩ ⟨hE, rfl⟩
        obtain rfl := hE.symm
        have hi18 : i < 18 := by
          have : i < (8 + (if (10 : Int) < ((ns.map V.int).length : Nat) then (10 : Int) else ((ns.map V.int).length : Nat))).toNat := hi
          omega
        have c3 : cnt 3 = 80 := rfl
        refine ⟨_, rfl, st, G, Cl, _, 3, rfl, by decide, sti, by omega, fun H2 v1 d1 hd1 ok1 k1 st2 => ⟨_, rfl, st, G, Cl, _, 3, rfl, by decide, st2, by omega, fun H3 v2 d2 hd2 ok2 k2 st3 => ⟨_, _, rfl, ?_⟩⟩⟩
        obtain ⟨w1, p1, z1, m1⟩ := ok1
        obtain ⟨w2, p2, z2, m2⟩ := ok2
        have g3 : gz 3 = 40 := rfl
        rw [g3] at z1 z2
        have t3 := tabs_kp (tabs_kp ti sti k1) st2 k2
        have hd1 := dp_tup k2.tup (wf_nol w1) hd1
        have len1 := vt_len w1 m1
        have len2 := vt_len w2 m2
        have iv1 : isValue d1 = true := isValue_of w1 (by omega)
        have iv2 : isValue d2 = true := isValue_of w2 (by omega)
        have so1 : sOk d1 = true := wf_sOk w1 (by omega)
        have so2 : sOk d2 = true := wf_sOk w2 (by omega)
        have as1 := vt_ascii w1
        have hl1 : (SX.S (vt d1)).length = (vt d1).length := SX.S_len _
        have rd1 : readD (.str (SX.S (vt d1))) = some d1 := by
          have := readV_vt iv1
          have y : (SX.S (vt d1)).cps.toList = vt d1 := by simp
          show readV (SX.S (vt d1)).cps.toList = _
          rw [y]; exact this
        refine ⟨_, rfl, v1, d1, rfl, hd1, w1, by omega, by omega, fun H4 s4 => ?_⟩
        have hd4 := dp_same s4 hd1
        -- the four looks
        refine ⟨_, rfl, v1, d1, rfl, hd4, so1, by omega, fun _ => ⟨by omega, fun H5 s5 => ?_⟩, fun z => by rw [iv1] at z; cases z⟩
        refine ⟨_, rfl, ?_⟩
        dsimp only [tNil, List.cons_append, List.nil_append]
        refine is_text (K := K) as1 (by omega) fun H6 s6 => ⟨_, rfl, iteF ?_⟩
        have s46 := s5.trans s6
        refine ⟨_, rfl, .str (SX.S (vt d1)), .str (SX.S (vt d1)), rfl, .str _, fun x e => (by cases e; rw [hl1]; omega), fun e he H7 u7 s7 hu7 => ?_, fun z => by rw [rd1] at z; cases z⟩
        rw [rd1] at he
        cases he
        refine ⟨_, rfl, ?_⟩
        dsimp only [tNil, List.cons_append, List.nil_append]
        have s47 := s46.trans s7
        refine is_data (K := K) hu7 (dp_same s47 hd4) w1 (by omega) m1 (by omega) fun H8 s8 => ⟨_, rfl, iteF ?_⟩
        have s48 := s47.trans s8
        refine ⟨_, rfl, .str (SX.S (vt d1)), .str (SX.S (vt d1)), rfl, .str _, fun x e => (by cases e; rw [hl1]; omega), fun e he H9 u9 s9 hu9 => ?_, fun z => by rw [rd1] at z; cases z⟩
        rw [rd1] at he
        cases he
        refine ⟨_, rfl, ?_⟩
        dsimp only [tNil, List.cons_append, List.nil_append]
        have s49 := s48.trans s9
        refine is_data (K := K) hu9 (dp_same s49 hd4) w1 (by omega) m1 (by omega) fun H10 s10 => ⟨_, rfl, iteF ?_⟩
        have s410 := s49.trans s10
        refine ⟨_, rfl, v1, d1, rfl, dp_same s410 hd4, so1, by omega, fun _ => ⟨by omega, fun H11 s11 => ?_⟩, fun z => by rw [iv1] at z; cases z⟩
        refine ⟨_, rfl, ?_⟩
        dsimp only [tNil, List.cons_append, List.nil_append]
        refine is_text (K := K) as1 (by omega) fun H12 s12 => ⟨_, rfl, iteF ?_⟩
        have s412 := (s410.trans s11).trans s12
        clear s48 s47 s46 s49 hu7 hu9
        have hd12 := dp_same s412 hd4
        have he12 := dp_same (s4.trans s412) hd2
        -- two values, two texts
        refine ⟨_, rfl, v1, d1, rfl, hd12, so1, by omega, fun _ => ⟨by omega, fun H13 s13 => ?_⟩, fun z => by rw [iv1] at z; cases z⟩
        refine ⟨_, rfl, v2, d2, rfl, dp_same s13 he12, so2, by omega, fun _ => ⟨by omega, fun H14 s14 => ?_⟩, fun z => by rw [iv2] at z; cases z⟩
        have s1214 := s13.trans s14
        refine ⟨rfl, _, rfl, _, rfl, d1, d2, dp_same s1214 hd12, dp_same s1214 he12, shaped_wf w1 (by omega), shaped_wf w2 (by omega), rfl, _, rfl, ?_⟩
        have heq : (!decide (V.bl (decide (V.str (SX.S (vt d1)) = V.str (SX.S (vt d2)))) = V.bl (PyData.eqv d1 d2))) = false := by
          have e : decide (V.str (SX.S (vt d1)) = V.str (SX.S (vt d2))) = PyData.eqv d1 d2 := by
            cases hq : PyData.eqv d1 d2 with
            | true =>
              have := eqv_wf w1 w2 hq
              rw [this]
              exact decide_eq_true rfl
            | false =>
              refine decide_eq_false fun z => ?_
              have := vt_inj w1 w2 (SX.S_inj (V.str.inj z))
              rw [this, eqv_self w2] at hq
              cases hq
          rw [e]
          simp
        rw [heq]
        refine iteF ?_
        have sAll := s4.trans (s412.trans s1214)
        have tA := t3.ext sAll
        have stA := st3.same sAll
        -- at
        refine ⟨_, rfl, _, rfl, _, rfl, by rw [hl1, sizeLine_eq]; omega, _, _, rfl, rfl, st, G, Cl, _, _, rfl, stA, by omega, by rw [hl1]; omega, by rw [hl1]; omega, fun H15 ii hi0 hi1 k15 st15 => ?_⟩
        rw [hl1] at hi1
        obtain ⟨m, rfl⟩ : ∃ m : Nat, ii = (m : Int) := ⟨ii.toNat, by omega⟩
        have tB := tabs_kp tA stA k15
        -- bent
        refine ⟨_, rfl, _, rfl, _, rfl, _, rfl, SX.S (vt d1), rfl, by rw [hl1, sizeLine_eq]; omega, ?_⟩
        refine ⟨_, rfl, by show 4 ≤ sizeLine; decide, fun S4 hS4 => ?_⟩
        have st15' := st15.same (L2.Same.upd (o := .lst [.str "(", .str ")", .str " ", .str "A"]) hS4)
        have nS4 : S4 ≠ st ∧ S4 ≠ G := by
          obtain ⟨_, _, _, _, b, _⟩ := st15
          exact ⟨fun z => (by rw [z, b.d] at hS4; cases hS4), fun z => (by rw [z, b.g] at hS4; cases hS4)⟩
        refine ⟨st, G, Cl, _, S4, [.str "(", .str ")", .str " ", .str "A"], rfl, st15', by omega, upd_same, nS4.1, nS4.2, by simp, by simp, fun H16 jj xx hxx k16 st16 => ?_⟩
        obtain ⟨c, rfl⟩ : ∃ c : Nat, xx = V.str (SX.S [c]) := by
          match jj, hxx with
          | 0, hxx => exact ⟨40, (Option.some.inj hxx).symm⟩
          | 1, hxx => exact ⟨41, (Option.some.inj hxx).symm⟩
          | 2, hxx => exact ⟨32, (Option.some.inj hxx).symm⟩
          | 3, hxx => exact ⟨65, (Option.some.inj hxx).symm⟩
          | jj + 4, hxx => simp at hxx
        have tC := tabs_kp (tB.ext (L2.Same.upd (o := .lst [.str "(", .str ")", .str " ", .str "A"]) hS4)) st15' k16
        have slt : Txt.slice (SX.S (vt d1)) none (some (m : Int)) = SX.S ((vt d1).take m) := by rw [SX.slice_to (by omega), Int.toNat_natCast]
        have slf : Txt.slice (SX.S (vt d1)) (some (m : Int)) none = SX.S ((vt d1).drop m) := by rw [SX.slice_from (by omega), Int.toNat_natCast]
        have slg : Txt.slice (SX.S (vt d1)) (some ((m : Int) + 1)) none = SX.S ((vt d1).drop (m + 1)) := by rw [SX.slice_from (by omega)]; rfl
        have lt1 : ((vt d1).take m).length ≤ (vt d1).length := by rw [List.length_take]; omega
        have lt2 : ((vt d1).drop m).length ≤ (vt d1).length := by rw [List.length_drop]; omega
        have lt3 : ((vt d1).drop (m + 1)).length ≤ (vt d1).length := by rw [List.length_drop]; omega
        rw [slt]
        refine ⟨_, _, rfl, rfl, by rw [SX.S_len, SX.S_len, sizeLine_eq]; simp only [List.length_cons, List.length_nil]; omega, ?_⟩
        refine ⟨_, rfl, _, rfl, _, rfl, SX.S (vt d1), rfl, by rw [hl1, sizeLine_eq]; omega, ?_⟩
        rw [slf, SX.S_cat]
        refine ⟨_, _, rfl, rfl, by rw [SX.S_len, SX.S_len, sizeLine_eq, List.length_append]; simp only [List.length_cons, List.length_nil]; omega, ?_⟩
        rw [SX.S_cat]
        refine ⟨_, rfl, _, rfl, _, rfl, SX.S (vt d1), rfl, by rw [hl1, sizeLine_eq]; omega, ?_⟩
        rw [slt]
        refine ⟨_, rfl, _, rfl, _, _, rfl, rfl, _, rfl, SX.S (vt d1), rfl, by rw [hl1, sizeLine_eq]; omega, ?_⟩
        rw [slg]
        refine ⟨_, _, rfl, rfl, by rw [SX.S_len, SX.S_len, sizeLine_eq]; omega, ?_⟩
        rw [SX.S_cat]
        refine ⟨by show 2 ≤ sizeLine; decide, fun S2 hS2 => ?_⟩
        have b1l : ((vt d1).take m ++ [c] ++ (vt d1).drop m).length ≤ 2000 := by
          rw [List.length_append, List.length_append]; simp only [List.length_cons, List.length_nil]; omega
        have b2l : ((vt d1).take m ++ (vt d1).drop (m + 1)).length ≤ 2000 := by rw [List.length_append]; omega
        generalize (vt d1).take m ++ [c] ++ (vt d1).drop m = bA at b1l hS2 ⊢
        generalize (vt d1).take m ++ (vt d1).drop (m + 1) = bB at b2l hS2 ⊢
        have st16' := st16.same (L2.Same.upd (o := .lst [.str (SX.S bA), .str (SX.S bB)]) hS2)
        have nS2 : S2 ≠ st ∧ S2 ≠ G := by
          obtain ⟨_, _, _, _, b, _⟩ := st16
          exact ⟨fun z => (by rw [z, b.d] at hS2; cases hS2), fun z => (by rw [z, b.g] at hS2; cases hS2)⟩
        refine ⟨st, G, Cl, _, S2, [.str (SX.S bA), .str (SX.S bB)], rfl, st16', by omega, upd_same, nS2.1, nS2.2, by simp, by simp, fun H17 jj xx hxx k17 st17 => ?_⟩
        obtain ⟨bt, rfl, hbt⟩ : ∃ bt : List Nat, xx = V.str (SX.S bt) ∧ bt.length ≤ 2000 := by
          match jj, hxx with
          | 0, hxx => exact ⟨bA, (Option.some.inj hxx).symm, b1l⟩
          | 1, hxx => exact ⟨bB, (Option.some.inj hxx).symm, b2l⟩
          | jj + 2, hxx => simp at hxx
        have tD := tabs_kp (tC.ext (L2.Same.upd (o := .lst [.str (SX.S bA), .str (SX.S bB)]) hS2)) st16' k17
        have hbl : (SX.S bt).length = bt.length := SX.S_len bt
        have hbc : (SX.S bt).cps.toList = bt := by simp
        clear slt slf slg heq
        -- told
        refine ⟨tD, fun Ha cc qq eA tE hcc => ⟨tE, fun Hb eB tF E1 Q1 hE hQ => ⟨eB _ _ hcc (fun ps z => by cases z), ?_⟩⟩⟩
        have fin : ∀ (told : V) (Hc Hd : Hp), ExtN H17 Hc → Tabs T Hc → Same Hc Hd → ∃ (th_1 x4_1 x5_1 x6_1 x7_1 x8_1 x9_1 x10_1 : Option V), ([some (.ref a), some (.ref st), th, some u, some (.int (0 + (i : Int))), some v1, some v2, some (.str (SX.S (vt d1))), some (.int (m : Int)), some (.str (SX.S bt)), some told] : L2.St) = [some (.ref a), some (.ref st), th_1, some u, x4_1, x5_1, x6_1, x7_1, x8_1, x9_1, x10_1] ∧ Tabs T Hd ∧ StB Hd st G Cl ((i + 1) * 170) :=
          fun told Hc Hd eC tC' sC => ⟨_, _, _, _, _, _, _, _, rfl, tC'.ext sC, ((st17.ext eC).same sC).mono (by omega)⟩
        refine ⟨_, rfl, .str (SX.S bt), .str (SX.S bt), rfl, .str _, fun x e => (by cases e; rw [hbl]; omega), fun e he H' u' s' hu' => hQ u' H' s' fun Hc e3 t3' tup3 => ?_, fun hn dd H' h0 s' hx => hE dd H' s' h0 hx fun Hc Tt e3 t3' hTt => ?_⟩
        · -- it was read: its text is bent
          have he' : readV bt = some e := by
            have : readD (.str (SX.S bt)) = readV bt := by show readV (SX.S bt).cps.toList = _; rw [hbc]
            rw [← this]; exact he
          obtain ⟨ive, hve⟩ := readV_some he'
          obtain ⟨we, pe⟩ := of_isValue ive
          have hu3 := dp_tup tup3 (wf_nol we) hu'
          refine ⟨_, rfl, by show 2 ≤ sizeLine; decide, fun Tu hTu => ⟨e, dTx, dp_same (L2.Same.upd hTu) hu3, dp_tx upd_same, shaped_wf we (by omega), shaped_wf dTx_wf dTx_dep, _, rfl, ?_⟩⟩
          have sU := L2.Same.upd (o := .tup [.str "text", .int 0]) hTu
          cases hq : PyData.eqv e dTx with
          | true => exact iteF (iteF (fin u' Hc _ (eA.trans e3) t3' sU))
          | false =>
            refine iteT ⟨_, rfl, u', e, rfl, dp_same sU hu3, wf_nol we, by omega, fun He sE => ⟨_, rfl, iteF ?_⟩⟩
            refine ⟨_, rfl, u', e, rfl, dp_same (sU.trans sE) hu3, we, by omega, by rw [hve]; omega, fun Hf sF => ⟨_, rfl, rfl, _, rfl, ?_⟩⟩
            rw [hve, decide_eq_true rfl]
            exact iteF (fin u' Hc _ (eA.trans e3) t3' (sU.trans (sE.trans sF)))
        · refine ⟨_, rfl, by show 2 ≤ sizeLine; decide, fun Tu hTu => ⟨dTx, dTx, dp_same (L2.Same.upd hTu) (dp_tx hTt), dp_tx upd_same, shaped_wf dTx_wf dTx_dep, shaped_wf dTx_wf dTx_dep, _, rfl, ?_⟩⟩
          rw [eqv_self dTx_wf]
          exact iteF (iteF (fin (.ref Tt) Hc _ (eA.trans e3) t3' (L2.Same.upd hTu)))
      · rintro σ Hz ⟨th, x4, x5, x6, x7, x8, x9, x10, rfl, tz, stz⟩
        exact q Hz
    · have z2 : readD (.str (SX.S (vt n59))) = some n59 := by
        have := readV_vt n59_v
        have y : (SX.S (vt n59)).cps.toList = vt n59 := by simp
        show readV (SX.S (vt n59)).cps.toList = _
        rw [y]; exact this
      rw [z2] at z
      cases z
end
end Kw

set_option Elab.async false
set_option linter.all false
set_option maxRecDepth 100000
set_option maxHeartbeats 2000000
/-! the end of a law whose def is told of the guards -/
namespace Gd
open PySem PySem.Spec PyProof.Rows L2 LamX
/-- the abstract heap at the law's entry: the tables, the script's list unless the written part holds it -/
def H0 (K : PySem.W.Frag) (a : Addr) (o : Obj) (ns : List Int) (ts : List Addr) : Hp := fun b => if b ∈ ts then some (.tbl #[]) else if b = a ∧ K.lookup a = none then some (.frz o (.lst (ns.map V.int))) else none
theorem law_callG {P : Program} {w : World} {K : PySem.W.Frag} {mg mb : Str → Option Value} {k : Nat} {fa a : Addr} {cs : List (Addr × Addr)} {fd : FuncData} {x : Str} {sp : Sp} {s₁ : Shared} {vs : List Value} {ns : List Int}
    (KX : K.In s₁.heap) (hns : s₁.heap.Ns mainGlobals mg) (hb : s₁.heap.Ns builtinsNs mb) (hbb : ∀ x : Str, x ≠ "__name__" → mb x = bootBuiltins x) (hlim : s₁.heap.NoLimit) (hg : s₁.gens = #[])
    (hT : ∀ p ∈ cs, s₁.heap.get? p.2 = some { cls := .none, data := .fields #[] }) (nT : ∀ p ∈ cs, K.lookup p.2 = none) (C : ∀ p ∈ cs, PySem.W.CodeHd s₁.heap p.1 p.2)
    (hbm : ∃ (bm : Addr) (ob : Obj), mg "__builtins__" = some (.ref bm) ∧ bm ≠ builtinsNs ∧ s₁.heap.get? bm = some ob ∧ ob.cls = .type "module" ∧ ob.dict = some builtinsNs ∧ ob.data = .plain)
    (ha : s₁.heap.get? a = some { cls := .type "list", data := .seq vs.toArray }) (hi : IntsAre vs ns) (hl : ns.length ≤ sizeLine) (hr : Room k callerA)
    (F : ∀ base : Heap, K.In base → base.Ns mainGlobals mg → (∀ p ∈ cs, TabB base mg p.1 p.2) → FnG P w K mg base CX0 k fa fd [x] sp) (hbind : ∀ (s : Shared) (u : Value), BindsTo s fd ⟨[u], []⟩ [(x, u)])
    (hsp : ∀ H : Hp, (∀ p ∈ cs, H p.2 = some (.tbl #[])) → SqL K H a (ns.map V.int) → sp [.ref a] H (fun v _ => v = .bl true) fun _ _ _ => False) :
    codeAny (model P w) callerA (.call (.ref fa) ⟨[.ref a], []⟩) (fun r s' => r = .ok (.ret (.bool true)) ∧ OldK s₁.heap s'.heap ∧ s'.os = s₁.os ∧ AllBare s'.gens) s₁ := by
  obtain ⟨ts, hts⟩ : ∃ ts, ts = cs.map (·.2) := ⟨_, rfl⟩
  have tab : ∀ b ∈ ts, s₁.heap.get? b = some { cls := .none, data := .fields #[] } ∧ K.lookup b = none := fun b hb => by
    rw [hts] at hb
    obtain ⟨p, hp, e⟩ := List.mem_map.mp hb
    rw [← e]
    exact ⟨hT p hp, nT p hp⟩
  have mem : ∀ p ∈ cs, p.2 ∈ ts := fun p hp => by rw [hts]; exact List.mem_map.mpr ⟨p, hp, rfl⟩
  have aT : a ∉ ts := fun z => by
    have q := (tab a z).1
    rw [ha] at q
    cases congrArg Obj.data (Option.some.inj q)
  obtain ⟨H, hH⟩ : ∃ H, H = H0 K a { cls := .type "list", data := .seq vs.toArray } ns ts := ⟨_, rfl⟩
  have Ht : ∀ b ∈ ts, H b = some (.tbl #[]) := fun b hb => by rw [hH]; exact if_pos hb
  have Hn : ∀ b, b ∉ ts → b ≠ a → H b = none := fun b h1 h2 => by
    rw [hH]
    show (if b ∈ ts then some (HO.tbl #[]) else if b = a ∧ K.lookup a = none then some _ else none) = none
    rw [if_neg h1, if_neg fun z => h2 z.1]
  have Ha1 : K.lookup a = none → H a = some (.frz { cls := .type "list", data := .seq vs.toArray } (.lst (ns.map V.int))) := fun e => by
    rw [hH]
    show (if a ∈ ts then some (HO.tbl #[]) else if a = a ∧ K.lookup a = none then some _ else none) = some _
    rw [if_neg aT, if_pos ⟨rfl, e⟩]
  have Ha2 : K.lookup a ≠ none → H a = none := fun e => by
    rw [hH]
    show (if a ∈ ts then some (HO.tbl #[]) else if a = a ∧ K.lookup a = none then some _ else none) = none
    rw [if_neg aT, if_neg fun z => e z.2]
  have hSq : SqL K H a (ns.map V.int) := by
    cases e : K.lookup a with
    | none => exact .inl (.inr ⟨_, Ha1 e⟩)
    | some o =>
      have z := KX a o e
      rw [ha] at z
      cases z
      exact .inr ⟨_, vs.toArray, _, e, rfl, rfl, rfl, by rw [List.size_toArray, hi.length]; exact hl, by simpa using vals_ints hi⟩
  have hok : HOk P w H s₁.heap := fun b u e => by
    by_cases h1 : b ∈ ts
    · rw [Ht b h1] at e
      cases e
      exact (tab b h1).1
    · by_cases h2 : b = a
      · subst h2
        cases e2 : K.lookup b with
        | some o => rw [Ha2 (by rw [e2]; simp)] at e; cases e
        | none =>
          rw [Ha1 e2] at e
          cases e
          exact ⟨ha, by rw [List.length_map]; exact hl, vs, _, vals_ints hi, ha⟩
      · rw [Hn b h1 h2] at e
        cases e
  -- what is not hidden
  have low : ∀ {b : Addr} {o : Obj}, s₁.heap.get? b = some o → H b = none → (hidT s₁.heap H).get? b = some o := fun e n => hidT_get e n
  have free : ∀ {b : Addr} {o : Obj}, s₁.heap.get? b = some o → (∀ vs n, o.data ≠ .seq vs n) → o.data ≠ .fields #[] → H b = none := fun {b o} e h1 h2 => Hn b (fun z => by
    have q := (tab b z).1
    rw [e] at q
    cases q
    exact h2 rfl) fun z => by
    rw [z, ha] at e
    cases e
    exact h1 _ _ rfl
  have freeD : ∀ {b : Addr} {o : Obj} {es : Array DictEntry} {ep : Nat}, s₁.heap.get? b = some o → o.data = .dict es ep → H b = none := fun {b o es ep} e d => free e (fun vs n z => by rw [d] at z; cases z) fun z => by rw [d] at z; cases z
  have nsK : ∀ {b : Addr} {m : Str → Option Value}, s₁.heap.Ns b m → (hidT s₁.heap H).Ns b m := fun {b m} ⟨o, es, ep, e, d, r⟩ => ⟨o, es, ep, low e (freeD e d), d, r⟩
  have kin : K.In (hidT s₁.heap H) := fun b o e => low (KX b o e) (by
    by_cases h1 : b ∈ ts
    · rw [(tab b h1).2] at e; cases e
    · by_cases h2 : b = a
      · subst h2; exact Ha2 (by rw [e]; simp)
      · exact Hn b h1 h2)
  have md : L2.Mod K mg (hidT s₁.heap H) := ⟨kin, nsK hns, ⟨mb, nsK hb, hbb⟩, let ⟨mc, h1, h2⟩ := hlim; ⟨mc, nsK h1, h2⟩⟩
  have tb : ∀ p ∈ cs, TabB (hidT s₁.heap H) mg p.1 p.2 := fun p hp => by
    have hTp := hT p hp
    refine ⟨?_, ?_, fun z => ?_⟩
    · obtain ⟨o, us, file, tf, flags, tg, inF, text, tt, e1, r1, r2, r3, r⟩ := C p hp
      refine ⟨o, us, file, tf, flags, tg, inF, text, tt, low e1 (free e1 (fun vs n z => by rw [r2] at z; cases z) fun z => ?_), r1, r2, r3, r⟩
      rw [r2] at z
      cases z
      simp at r3
    · obtain ⟨bm, ob, b1, b2, b3, b4, b5, b6⟩ := hbm
      have nG : bm ≠ mainGlobals := fun q => by
        obtain ⟨o, es, ep, e, hd, _⟩ := hns
        rw [q, e] at b3
        cases b3
        rw [hd] at b6
        cases b6
      have nP : bm ≠ p.2 := fun q => by
        rw [q, hTp] at b3
        cases b3
        cases b6
      exact ⟨bm, ob, b1, b2, nG, nP, low b3 (free b3 (fun vs n z => by rw [b6] at z; cases z) fun z => by rw [b6] at z; cases z), b4, b5, b6⟩
    · obtain ⟨o, es, ep, e, hd, _⟩ := hns
      rw [z, hTp] at e
      cases e
      cases hd
  have e0 : Env0 P w K mg (hidT s₁.heap H) callerA [] s₁ H := ⟨rfl, md, fun b o e => of_hidT e, Nat.le_of_eq (hidT_size _ _), trivial, fun b hb => absurd (show b ∈ ([] : List Addr) from hb) (by simp), hok, .of_eq hg⟩
  refine codeAny_mono ((F _ kin (nsK hns) tb).run callerA [] s₁ H ⟨[.ref a], []⟩ [.ref a] [.ref a] _ _ rfl hr e0 (hbind s₁ (.ref a)) (.cons rfl .nil) (hsp H (fun p hp => Ht _ (mem p hp)) hSq)) fun r s' h => ?_
  cases r with
  | error e => exact (show False from h).elim
  | ok fl =>
    cases fl with
    | next => exact False.elim h
    | brk => exact False.elim h
    | cont => exact False.elim h
    | ret u =>
      obtain ⟨v, H', os, bare, un, hok', r', q⟩ := h
      have q' : v = .bl true := q
      subst q'
      obtain rfl : u = Value.bool true := r'
      have old : ∀ b o, b ∉ ts → s₁.heap.get? b = some o → s'.heap.get? b = some o := fun b o h1 e => by
        by_cases h2 : b = a
        · subst h2
          cases e2 : K.lookup b with
          | some o2 => exact un.keep b o e (Ha2 (by rw [e2]; simp)) (by intro z; exact absurd (show b ∈ ([] : List Addr) from z) (by simp)) (by simp)
          | none =>
            obtain ⟨e3, _⟩ := hok' b _ (un.frzs b _ _ (Ha1 e2))
            rw [ha] at e
            cases e
            exact e3
        · exact un.keep b o e (Hn b h1 h2) (by intro z; exact absurd (show b ∈ ([] : List Addr) from z) (by simp)) (by simp)
      have grown : ∀ p ∈ cs, ∃ more : Array Value, s'.heap.get? p.2 = some { cls := .none, data := .fields more } := fun p hp => by
        obtain ⟨more, z⟩ := un.tbls p.2 #[] (Ht _ (mem p hp))
        exact ⟨_, hok' p.2 _ z⟩
      have inT : ∀ b ∈ ts, ∃ p ∈ cs, p.2 = b := fun b hb => by rw [hts] at hb; obtain ⟨p, hp, e⟩ := List.mem_map.mp hb; exact ⟨p, hp, e⟩
      refine ⟨rfl, ⟨fun b o e => ?_, fun b o e => ?_⟩, os, bare⟩
      · by_cases hb : b ∈ ts
        · obtain ⟨p, hp, ep⟩ := inT b hb
          obtain ⟨more, hm⟩ := grown p hp
          rw [← ep] at e ⊢
          rw [hT p hp] at e
          cases e
          exact .inr (.inl ⟨((C p hp).tab (hT p hp)).isCodeTable, rfl, #[], more, rfl, by rw [Array.empty_append]; exact hm⟩)
        · exact .inl (old b o hb e)
      · by_cases hb : b ∈ ts
        · obtain ⟨p, hp, ep⟩ := inT b hb
          obtain ⟨more, hm⟩ := grown p hp
          rw [← ep]
          exact ⟨_, hm⟩
        · exact ⟨o, old b o hb e⟩
/-- what is known of the law at the head's heap h -/
def LawAtG (l : PySem.W.OpenLaw) (w : World) (K : PySem.W.Frag) (k n : Nat) (x : Str) (mg : Str → Option Value) (fa : Addr) (h : Heap) : Prop :=
  ∃ (fd : FuncData) (cs : List (Addr × Addr)) (sp : Sp), (∀ p ∈ cs, h.get? p.2 = some { cls := .none, data := .fields #[] }) ∧ (∀ p ∈ cs, K.lookup p.2 = none) ∧ (∀ p ∈ cs, PySem.W.CodeHd h p.1 p.2) ∧ (∀ (s : Shared) (u : Value), BindsTo s fd ⟨[u], []⟩ [(x, u)]) ∧
    (∀ (H : Hp) (a : Addr) (ns : List Int), ns.length ≤ n → (∀ p ∈ cs, H p.2 = some (.tbl #[])) → SqL K H a (ns.map V.int) → sp [.ref a] H (fun v _ => v = .bl true) fun _ _ _ => False) ∧
    ∀ base : Heap, K.In base → base.Ns mainGlobals mg → (∀ p ∈ cs, TabB base mg p.1 p.2) → FnG l.prog w K mg base CX0 k fa fd [x] sp
theorem walk_ofG {l : PySem.W.OpenLaw} {n k : Nat} {q : Program} {loose : List Str} {XP : (Str → Option Value) → Heap → Prop} {YP : World → Heap → Prop} {d : DefRec} {x : Str}
    (hn : l.most = some n) (hn2 : n ≤ sizeLine) (hdf : d.params.defaults = []) (hr : Room k callerA)
    (F : ∀ (w : World) (mg : Str → Option Value) (fa : Addr) (h : Heap), YP w h → h.Ns mainGlobals mg → mg d.name = some (.ref fa) → ∃ K : PySem.W.Frag, K.In h ∧ LawAtG l w K k n x mg fa h) :
    PySem.W.WalkO q loose XP YP l.row.toRowW d [] (fun f vs => PySem.call f vs) := by
  refine Att.attach_callB hn hdf fun w s₀ s₁ mg mb fa o pm cd doc a vs ns G Y ho hd hcd hmg hobj hints hlen hbits hg => ?_
  obtain ⟨K, KX, fd, cs, sp, hT, nT, C, hb, hsp, hF⟩ := F w mg fa _ Y G.T.g hmg
  exact law_callG KX G.T.g G.T.b G.T.builtins G.T.nolimit hg hT nT C G.T.bmain hobj hints (Nat.le_trans hlen hn2) hr hF hb fun H hH hS => hsp H a ns hlen hH hS
end Gd

set_option Elab.async false
set_option linter.all false
set_option maxRecDepth 100000
set_option maxHeartbeats 0
/-! what the head tells: the defs, the constants, NoText and its __init__ -/
namespace Kh
open PySem PySem.Spec PyProof.Rows L2
abbrev PR : Program := Kw.PR
/-! ### what is looked at -/
def pI : Str × Option Str := ("NoText", some "__init__")
def asZ (g : Addr → Option Obj) (n : Nat) : List Addr := cStatics :: He.asD g n
def frZ (g : Addr → Option Obj) (n : Nat) : PySem.W.Frag := He.frT g (asZ g n)
abbrev FnI : Type := Option (Str × Str × Arguments × FuncBody × Scope × Addr × List Str × Addr)
def fnI (K : PySem.W.Frag) : FnI := match K.lookup (He.fAd K pI) with
  | some ⟨_, _, .func fd, _⟩ => some (fd.name, fd.qualname, fd.params, fd.body, fd.scope, fd.globals, fd.closure.map (·.1), fd.builtins)
  | _ => none
def vI : FnI := some ("__init__", "NoText.__init__", Nt.iA, .stmts Nt.iB, Nt.iS, mainGlobals, ["__class__"], builtinsNs)
def ccOf (K : PySem.W.Frag) : Addr := match K.lookup (He.fAd K pI) with
  | some ⟨_, _, .func fd, _⟩ => (match fd.closure with
    | [(_, c)] => c
    | _ => 0)
  | _ => 0
def initB (K : PySem.W.Frag) : Bool := match K.lookup (He.fAd K pI) with
  | some ⟨_, _, .func fd, _⟩ => PySem.W.codeIn K fd.code "NoText.__init__" && (match fd.defaults with
    | .ref t => (match K.lookup t with
      | some ⟨_, _, .seq its _, _⟩ => decide (its = #[.none])
      | _ => false)
    | _ => false)
  | _ => false
def cellB (K : PySem.W.Frag) : Bool := match K.lookup (ccOf K) with
  | some ⟨_, _, .cell (some (.ref D)), _⟩ => decide (D = He.ga K "NoText")
  | _ => false
def fileB (K : PySem.W.Frag) : Bool := match K.lookup (He.codeOf K pI) with
  | some ⟨_, _, .fields vs, _⟩ => (match (vs[2]? : Option Value) with
    | some (Value.str f _) => PR.main.file == f
    | _ => false)
  | _ => false
def clsB (K : PySem.W.Frag) (C : Addr) : Bool := match K.lookup C with
  | some ⟨.type c, _, .cls cd, sl⟩ => decide (c = "type") && (cd.hasDict && (!cd.hasDel && ((match cd.mro with
    | .ref C' :: bm => decide (C' = C) && HandSPX.refsVE bm
    | _ => false) && (match sl.toList with
    | [_, _, _, _, some (.builtin n), _] => decide (n = "ValueError.__new__")
    | _ => false))))
  | _ => false
def facB (K : PySem.W.Frag) (C : Addr) (fI : Addr) : Bool :=
  decide (PySem.W.findIn K (.ref C) "__setattr__" = some (some (.builtin "object.__setattr__"))) && (decide (PySem.W.findIn K (.ref C) "line" = some none) && (decide (PySem.W.findIn K (.ref C) "__init__" = some (some (.ref fI))) && (decide (PySem.W.typeIn K (.ref fI) = some (.type "function")) &&
  (PySem.W.keepIn K (.ref C) && (decide (PySem.W.subIn K (.ref C) (.type "BaseException") = some true) && (decide (PySem.W.subIn K (.ref C) (.type "ValueError") = some true) && (decide (PySem.W.typeIn K (.ref C) = some (.type "type")) && (PySem.W.hasDictIn K C &&
  (decide (PySem.W.mroIn K C (.ref C) = some true) && (decide (PySem.W.nsIn K cStatics "thirdparty.any" = some none) && decide (PySem.W.ks_superIn K C C "__init__" = some (some (.builtin "ValueError.__init__")))))))))))))
def wdsB (K : PySem.W.Frag) (C0 CU CM CS : Addr) : Bool := Ev.isaB K C0 && (decide (PySem.W.kitOne K (.ref C0) (.ref CU) = some false) && (decide (PySem.W.kitOne K (.ref C0) (.ref CM) = some false) && (decide (PySem.W.kitOne K (.ref C0) (.ref C0) = some true) && decide (PySem.W.exmOne K (.ref C0) (.ref CS) = some true))))
def exB (K : PySem.W.Frag) : Bool := clsB K (He.ga K "NoText") && (facB K (He.ga K "NoText") (He.fAd K pI) && (initB K && (cellB K && (fileB K && (wdsB K (He.ga K "NoText") (He.ga K "Used") (He.ga K "TooMany") (He.ga K "SwitchError") && !decide ((He.cT K ("law", none)).2 = (He.cT K ("_law_word", none)).2))))))
def mkD (x : Str) (i : Nat) : He.DefD := ⟨(x, none), x, x, defArgs (Kw.top i), defBody (Kw.top i), defScope (Kw.top i), [], []⟩
def fn : List He.DefD := [mkD "is_word" 23, mkD "is_figure" 24, mkD "is_value" 25, mkD "value_text" 26, mkD "pieces_of" 27, mkD "plain_of" 28, mkD "value_of" 29, mkD "read_value" 30, mkD "_law_begun" 32, mkD "_law_mixed" 33, mkD "_law_draw" 34, mkD "_law_pick" 35, mkD "_law_plain" 36, mkD "_law_is" 37, mkD "_law_value_text" 38, mkD "_law_caught" 39, mkD "_law_word" 40, mkD "_law_some_value" 41, mkD "_law_nested" 42, mkD "law" 43]
def fa : List He.Fa := [.glo "is_word", .glo "is_figure", .glo "is_value", .glo "value_text", .glo "pieces_of", .glo "plain_of", .glo "value_of", .glo "read_value"] ++ [.glo "_law_begun", .glo "_law_mixed", .glo "_law_draw", .glo "_law_pick", .glo "_law_plain", .glo "_law_is", .glo "_law_value_text", .glo "_law_caught", .glo "_law_word", .glo "_law_some_value", .glo "_law_nested", .glo "law"] ++
  [.glo "NoText", .glo "Used", .glo "TooMany", .glo "SwitchError", .int "MOST_DEEP" 60, .int "MOST_FIGURES" 12, .int "MOST_NUMBER" 1000000000000, .str "SMALL" "abcdefghijklmnopqrstuvwxyz", .str "FIGURES" "0123456789"] ++
  [.free "isinstance", .free "str", .free "int", .free "bool", .free "tuple", .free "list", .free "dict", .free "all", .free "abs", .free "range", .free "len", .free "enumerate", .free "reversed", .free "min", .free "repr", .free "super"]
def tf : List He.Defn := [("law", none), ("_law_word", none)]
def obsZ (g : Addr → Option Obj) : (He.AlD × Bool) × FnI := ((He.obsD fa fn (frZ g 5), exB (frZ g 5) && He.tabsB g tf (frZ g 5)), fnI (frZ g 5))
def valZ : (He.AlD × Bool) × FnI := ((He.valD fn, true), vI)
/-- what is told -/
structure SaysZ (h : Heap) (K : PySem.W.Frag) : Prop where
  d : He.SaysD fa fn K
  ex : exB K = true
  i : fnI K = vI
  hd : ∀ p ∈ tf, PySem.W.codeHdIn K (He.cT K p).1 (He.cT K p).2 = true
  out : ∀ p ∈ tf, K.lookup (He.cT K p).2 = none
  empty : ∀ p ∈ tf, h.get? (He.cT K p).2 = some { cls := .none, data := .fields #[] }
theorem saysZ_of {h : Heap} (e : obsZ h.get? = valZ) : SaysZ h (frZ h.get? 5) := by
  have e1 : He.obsD fa fn (frZ h.get? 5) = He.valD fn := congrArg (fun z : (He.AlD × Bool) × FnI => z.1.1) e
  have e2 : (exB (frZ h.get? 5) && He.tabsB h.get? tf (frZ h.get? 5)) = true := congrArg (fun z : (He.AlD × Bool) × FnI => z.1.2) e
  have e3 : fnI (frZ h.get? 5) = vI := congrArg (fun z : (He.AlD × Bool) × FnI => z.2) e
  obtain ⟨h1, h2⟩ := He.ba e2
  have key : ∀ p ∈ tf, PySem.W.codeHdIn (frZ h.get? 5) (He.cT (frZ h.get? 5) p).1 (He.cT (frZ h.get? 5) p).2 = true ∧ ∃ o, h.get? (He.cT (frZ h.get? 5) p).2 = some o ∧ He.emptyTab o = true := fun p hp => by
    obtain ⟨h3, h4⟩ := He.ba (List.all_eq_true.mp h2 p hp)
    refine ⟨h3, ?_⟩
    cases q : h.get? (He.cT (frZ h.get? 5) p).2 with
    | none => rw [q] at h4; cases h4
    | some o => rw [q] at h4; exact ⟨o, rfl, h4⟩
  exact ⟨e1, h1, e3, fun p hp => (key p hp).1, fun p hp => by
    obtain ⟨_, o, q, z⟩ := key p hp
    exact He.frT_none q z, fun p hp => by
    obtain ⟨_, o, q, z⟩ := key p hp
    rw [q, He.emptyTab_eq z]⟩
def hk : PySem.W.Hook where
  α := (He.AlD × Bool) × FnI
  obs := fun s => obsZ s.heap.get?
  val := fun _ => valZ
  says := fun _ h => ∃ K : PySem.W.Frag, K.In h ∧ SaysZ h K
  of := fun _ _ e => ⟨_, He.frT_in, saysZ_of e⟩
  keeps := fun _ _ _ ⟨K, hK, c⟩ k => ⟨K, PySem.W.Frag.In.keeps hK k, ⟨c.d, c.ex, c.i, c.hd, c.out, fun p hp => k _ _ (c.empty p hp)⟩⟩
def ob (s : PySem.W.SharedT) : hk.α := obsZ (HandSHeadRun.getT s)
theorem ob_eq (s : PySem.W.SharedT) : ob s = hk.obs s.abs := by
  have e : HandSHeadRun.getT s = s.abs.heap.get? := funext (HandSHeadRun.getT_eq s)
  show obsZ _ = obsZ _
  rw [e]
abbrev R : PySem.W.OpenRow := PySem.W.OpenLaw.row PySem.Challenge.rw_switchbook_k88_values_written
abbrev qv : Program := PySem.W.view R.prog [43]
def names : List PySem.Str := (["SwitchError", "NoName", "NoNumber", "NoPoint", "NoTable", "NoKind", "NoBook", "NoState", "NoExpression", "NoLaw"] : List PySem.Str) ++ (["NoDeed", "NoPast", "Twice", "NoText", "Used", "TooMany", "MOST_DEEP", "MOST_FIGURES", "MOST_NUMBER", "SMALL"] : List PySem.Str) ++ (["FIGURES", "is_word", "is_figure", "is_value", "value_text", "pieces_of", "plain_of", "value_of", "read_value", "_law_begun"] : List PySem.Str) ++ (["_law_mixed", "_law_draw", "_law_pick", "_law_plain", "_law_is", "_law_value_text", "_law_caught", "_law_word", "_law_some_value", "_law_nested"] : List PySem.Str)
theorem run (w : World) : HandSHeadRun.RunEq R qv hk ob 6000 names w := by
  intro os
  kernel_rfl
end Kh

set_option Elab.async false
set_option linter.all false
set_option maxRecDepth 100000
set_option maxHeartbeats 4000000
/-! what the head tells, as the walk asks for it -/
namespace Kh
open PySem PySem.Spec PyProof.Rows L2 Kw
section
variable {P : Program} {K : PySem.W.Frag} {h : Heap} {mg : Str → Option Value}
theorem cls_of {C : Addr} (e : clsB K C = true) : ∃ nm q N bs bm sn sub ab col dd k0 k1 k2 k3 k5, K.lookup C = some (excClassObj nm q C N bs bm true sn sub ab col dd k0 k1 k2 k3 k5 "ValueError.__new__") ∧ HandSPX.refsVE bm = true := by
  unfold clsB at e
  split at e
  · rename_i c od cd sl lk
    obtain ⟨h1, e⟩ := He.ba e
    obtain ⟨h2, e⟩ := He.ba e
    obtain ⟨h3, e⟩ := He.ba e
    obtain ⟨h4, h5⟩ := He.ba e
    split at h4
    · rename_i C' bm hm
      obtain ⟨h6, h7⟩ := He.ba h4
      split at h5
      · rename_i k0 k1 k2 k3 n k5 hs
        obtain ⟨nm, bs, mro, N, q, hdct, sn, sub, ab, col, hdel⟩ := cd
        have e1 : c = "type" := of_decide_eq_true h1
        have e2 : hdct = true := h2
        have e3 : hdel = false := by simpa using h3
        have e4 : mro = .ref C' :: bm := hm
        have e5 : C' = C := of_decide_eq_true h6
        have e6 : n = "ValueError.__new__" := of_decide_eq_true h5
        have e7 : sl = #[k0, k1, k2, k3, some (.builtin n), k5] := by
          rw [← hs]
        subst e1 e2 e3 e4 e5 e6 e7
        exact ⟨nm, q, N, bs, bm, sn, sub, ab, col, od, k0, k1, k2, k3, k5, lk, h7⟩
      · cases h5
    · cases h4
  · cases e
def dfB (K : PySem.W.Frag) (dV : Value) : Bool := match dV with
  | .ref t => (match K.lookup t with
    | some ⟨_, _, .seq its _, _⟩ => decide (its = #[.none])
    | _ => false)
  | _ => false
theorem dfB_ok {dV : Value} (e : dfB K dV = true) : ∃ (t : Addr) (o : Obj) (n : Nat), dV = .ref t ∧ K.lookup t = some o ∧ o.data = .seq #[.none] n := by
  unfold dfB at e
  split at e
  · rename_i t
    split at e
    · rename_i a b its n s2 lk2
      have : its = #[.none] := of_decide_eq_true e
      subst this
      exact ⟨t, _, n, rfl, lk2, rfl⟩
    · cases e
  · cases e
/-- __init__ as it stands -/
theorem init_of (e : initB K = true) (i : fnI K = vI) (hc : cellB K = true) (hf : fileB K = true) : ∃ cc cda, (∃ (oc : Value) (od : Option Addr) (dV kV doc pm : Value) (an : Option Addr) (ct : Value) (osl : Array (Option Value)),
    K.lookup (He.fAd K pI) = some ⟨oc, od, .func (PySem.W.ksFn "__init__" "NoText.__init__" Nt.iA Nt.iB Nt.iS dV kV doc pm an (.ref cda) ct cc), osl⟩ ∧ PySem.W.codeIn K (.ref cda) "NoText.__init__" = true ∧ ∃ (t : Addr) (o : Obj) (n : Nat), dV = .ref t ∧ K.lookup t = some o ∧ o.data = .seq #[.none] n) ∧
    (∃ (ccl : Value) (cdd : Option Addr) (vs : Array Value) (ccs : Array (Option Value)) (file : Str) (tf : Tok), K.lookup cda = some ⟨ccl, cdd, .fields vs, ccs⟩ ∧ vs[2]? = some (.str file tf) ∧ ((PR.main.file : Str) == file) = true) ∧
    ∃ (cl : Value) (cld : Option Addr) (csl : Array (Option Value)), K.lookup cc = some ⟨cl, cld, .cell (some (.ref (He.ga K "NoText"))), csl⟩ := by
  unfold initB at e
  unfold fnI at i
  split at e
  · rename_i oc od fd osl lk
    rw [lk] at i
    obtain ⟨n1, n2, n3, n4, n5, n6, n7, n8, n9, n10, n11, n12, n13, n14, n15⟩ := fd
    have i2 : (some (n1, n2, n3, n4, n5, n6, n7.map (·.1), n15) : FnI) = vI := i
    unfold vI at i2
    simp only [Option.some.injEq, Prod.mk.injEq] at i2
    obtain ⟨h1, h2, h3, h4, h5, h6, h7, h8⟩ := i2
    subst h1 h2 h3 h4 h5 h6 h8
    obtain ⟨hcd, hdf⟩ := He.ba e
    have hcd' : PySem.W.codeIn K n13 "NoText.__init__" = true := hcd
    obtain ⟨cda, ecd⟩ := He.codeIn_ref hcd'
    subst ecd
    match n7, h7 with
    | [(x, cc)], h7 =>
      have ex : x = "__class__" := by simpa using h7
      subst ex
      have ecc : ccOf K = cc := by
        unfold ccOf
        rw [lk]
      have ecode : He.codeOf K pI = cda := He.codeOf_eq lk rfl
      refine ⟨cc, cda, ⟨oc, od, n8, n9, n10, n11, n12, n14, osl, lk, hcd', ?_⟩, ?_, ?_⟩
      · exact dfB_ok (show dfB K n8 = true from hdf)
      · unfold fileB at hf
        rw [ecode] at hf
        split at hf
        · rename_i a b vs s2 lk2
          split at hf
          · rename_i f tf hv
            exact ⟨a, b, vs, s2, f, tf, lk2, hv, hf⟩
          · cases hf
        · cases hf
      · unfold cellB at hc
        rw [ecc] at hc
        split at hc
        · rename_i a b D s2 lk2
          have : D = He.ga K "NoText" := of_decide_eq_true hc
          subst this
          exact ⟨a, b, s2, lk2⟩
        · cases hc
  · cases e
theorem txt_of (X : K.In h) (G : h.Ns mainGlobals mg) (c : SaysZ h K) : ∃ cc cda, Nt.Txt PR K mg "NoText" "NoText.__init__" (He.ga K "NoText") (He.fAd K pI) cc cda := by
  obtain ⟨e1, e⟩ := He.ba c.ex
  obtain ⟨e2, e⟩ := He.ba e
  obtain ⟨e3, e⟩ := He.ba e
  obtain ⟨e4, e⟩ := He.ba e
  obtain ⟨e5, e⟩ := He.ba e
  obtain ⟨cc, cda, f1, f2, f3⟩ := init_of e3 c.i e4 e5
  obtain ⟨a1, e2⟩ := He.ba e2
  obtain ⟨a2, e2⟩ := He.ba e2
  obtain ⟨a3, e2⟩ := He.ba e2
  obtain ⟨a4, e2⟩ := He.ba e2
  obtain ⟨a5, e2⟩ := He.ba e2
  obtain ⟨a6, e2⟩ := He.ba e2
  obtain ⟨a7, e2⟩ := He.ba e2
  obtain ⟨a8, e2⟩ := He.ba e2
  obtain ⟨a9, e2⟩ := He.ba e2
  obtain ⟨a10, e2⟩ := He.ba e2
  obtain ⟨a11, a12⟩ := He.ba e2
  exact ⟨cc, cda, ⟨He.glo_ok X G (c.d.facts (f := .glo "NoText") (List.mem_of_getElem? (i := 20) rfl)), He.free_ok X G (c.d.facts (f := .free "super") (List.mem_of_getElem? (i := 44) rfl)), cls_of e1, of_decide_eq_true a1, of_decide_eq_true a2, of_decide_eq_true a3, of_decide_eq_true a4, a5,
    of_decide_eq_true a6, of_decide_eq_true a7, of_decide_eq_true a8, a9, of_decide_eq_true a10, of_decide_eq_true a11, of_decide_eq_true a12, f1, f2, f3, by decide +kernel⟩⟩
theorem wds_of (X : K.In h) (G : h.Ns mainGlobals mg) (c : SaysZ h K) : Wds K mg (He.ga K "NoText") (He.ga K "Used") (He.ga K "TooMany") (.ref (He.ga K "SwitchError")) := by
  obtain ⟨e1, e⟩ := He.ba c.ex
  obtain ⟨e2, e⟩ := He.ba e
  obtain ⟨e3, e⟩ := He.ba e
  obtain ⟨e4, e⟩ := He.ba e
  obtain ⟨e5, e⟩ := He.ba e
  obtain ⟨e6, e⟩ := He.ba e
  obtain ⟨a1, e2⟩ := He.ba e2
  obtain ⟨a2, e2⟩ := He.ba e2
  obtain ⟨b1, e6⟩ := He.ba e6
  obtain ⟨b2, e6⟩ := He.ba e6
  obtain ⟨b3, e6⟩ := He.ba e6
  obtain ⟨b4, b5⟩ := He.ba e6
  exact ⟨He.glo_ok X G (c.d.facts (f := .glo "Used") (List.mem_of_getElem? (i := 21) rfl)), He.glo_ok X G (c.d.facts (f := .glo "TooMany") (List.mem_of_getElem? (i := 22) rfl)), He.glo_ok X G (c.d.facts (f := .glo "NoText") (List.mem_of_getElem? (i := 20) rfl)), He.glo_ok X G (c.d.facts (f := .glo "SwitchError") (List.mem_of_getElem? (i := 23) rfl)),
    Ev.isaB_ok b1, of_decide_eq_true b2, of_decide_eq_true b3, of_decide_eq_true b4, of_decide_eq_true b5, of_decide_eq_true a2⟩
theorem ne_of (c : SaysZ h K) : (He.cT K ("law", none)).2 ≠ (He.cT K ("_law_word", none)).2 := by
  obtain ⟨_, e⟩ := He.ba c.ex
  obtain ⟨_, e⟩ := He.ba e
  obtain ⟨_, e⟩ := He.ba e
  obtain ⟨_, e⟩ := He.ba e
  obtain ⟨_, e⟩ := He.ba e
  obtain ⟨_, e⟩ := He.ba e
  simpa using e
theorem con_of (X : K.In h) (G : h.Ns mainGlobals mg) (c : SaysZ h K) : Con mg := by
  refine ⟨fun x hx => ?_, He.int_ok X G (c.d.facts (f := .int "MOST_DEEP" 60) (List.mem_of_getElem? (i := 24) rfl)), He.int_ok X G (c.d.facts (f := .int "MOST_FIGURES" 12) (List.mem_of_getElem? (i := 25) rfl)), He.int_ok X G (c.d.facts (f := .int "MOST_NUMBER" 1000000000000) (List.mem_of_getElem? (i := 26) rfl)),
    He.str_ok X G (c.d.facts (f := .str "SMALL" "abcdefghijklmnopqrstuvwxyz") (List.mem_of_getElem? (i := 27) rfl)), He.str_ok X G (c.d.facts (f := .str "FIGURES" "0123456789") (List.mem_of_getElem? (i := 28) rfl))⟩
  refine He.free_ok X G (c.d.facts (f := .free x) ?_)
  have : x ∈ nbL ++ (["super"] : List Str) := List.mem_append_left _ hx
  refine List.mem_append_right _ ?_
  show He.Fa.free x ∈ (nbL ++ (["super"] : List Str)).map He.Fa.free
  exact List.mem_map_of_mem this
theorem df_of (X : K.In h) (G : h.Ns mainGlobals mg) (c : SaysZ h K) {x : Str} {i : Nat} (hd : mkD x i ∈ fn) (hg : He.Fa.glo x ∈ fa) : ∃ fd, Df K mg x i (He.ga K x) fd := by
  obtain ⟨fd, F⟩ := c.d.defs hd
  obtain ⟨oc, od, dV, kV, doc, pm, an, cdv, ct, osl, efd, lk, hcd, hD, _⟩ := F.ex
  rcases hD with ⟨_, rfl⟩ | ⟨e, _⟩
  · exact ⟨fd, ⟨⟨oc, od, kV, doc, pm, an, cdv, ct, osl, efd, lk, hcd⟩, F.kp⟩, He.glo_ok X G (c.d.facts hg)⟩
  · exact absurd rfl e
theorem code_of {x : Str} {i : Nat} {fd : FuncData} (D : Df K mg x i (He.ga K x) fd) : ∀ oc od fd' osl, K.lookup (He.ga K x) = some ⟨oc, od, .func fd', osl⟩ → fd'.code = .ref (He.cT K (x, none)).1 := by
  intro oc od fd' osl lk
  obtain ⟨oc', od', kV, doc, pm, an, cdv, ct, osl', efd, lk', hcd⟩ := D.fn.ex
  have e2 : fd' = fd := by have := lk.symm.trans lk'; cases this; rfl
  subst e2
  subst efd
  obtain ⟨cda, ecd⟩ := He.codeIn_ref hcd
  subst ecd
  show Value.ref cda = .ref (He.codeOf K (x, none))
  rw [He.codeOf_eq (p := (x, none)) lk' rfl]
end
def tabs (K : PySem.W.Frag) : List (Addr × Str) := [((He.cT K ("law", none)).2, "law.<locals>.<lambda>"), ((He.cT K ("_law_word", none)).2, "_law_word.<locals>.<lambda>")]
theorem facts {w : World} {K : PySem.W.Frag} {h : Heap} {mg : Str → Option Value} {f : Addr} (X : K.In h) (G : h.Ns mainGlobals mg) (hfa : mg ("law" : Str) = some (.ref f)) (c : SaysZ h K) :
    ∃ fd : FuncData, (∀ (s : Shared) (v : Value), BindsTo s fd ⟨[v], []⟩ [("script", v)]) ∧ ∀ base : Heap, K.In base → base.Ns mainGlobals mg → (∀ p ∈ tf.map (He.cT K), LamX.TabB base mg p.1 p.2) → Gd.FnG PR w K mg base CX0 65 f fd ["script"] (spLaw K (tabs K)) := by
  have C := con_of X G c
  obtain ⟨cc, cda, TN⟩ := txt_of X G c
  have W := wds_of X G c
  have ne := ne_of c
  obtain ⟨d23, D23⟩ := df_of X G c (x := "is_word") (i := 23) (by simp [fn]) (List.mem_of_getElem? (i := 0) rfl)
  obtain ⟨d24, D24⟩ := df_of X G c (x := "is_figure") (i := 24) (by simp [fn]) (List.mem_of_getElem? (i := 1) rfl)
  obtain ⟨d25, D25⟩ := df_of X G c (x := "is_value") (i := 25) (by simp [fn]) (List.mem_of_getElem? (i := 2) rfl)
  obtain ⟨d26, D26⟩ := df_of X G c (x := "value_text") (i := 26) (by simp [fn]) (List.mem_of_getElem? (i := 3) rfl)
  obtain ⟨d27, D27⟩ := df_of X G c (x := "pieces_of") (i := 27) (by simp [fn]) (List.mem_of_getElem? (i := 4) rfl)
  obtain ⟨d28, D28⟩ := df_of X G c (x := "plain_of") (i := 28) (by simp [fn]) (List.mem_of_getElem? (i := 5) rfl)
  obtain ⟨d29, D29⟩ := df_of X G c (x := "value_of") (i := 29) (by simp [fn]) (List.mem_of_getElem? (i := 6) rfl)
  obtain ⟨d30, D30⟩ := df_of X G c (x := "read_value") (i := 30) (by simp [fn]) (List.mem_of_getElem? (i := 7) rfl)
  obtain ⟨d32, D32⟩ := df_of X G c (x := "_law_begun") (i := 32) (by simp [fn]) (List.mem_of_getElem? (i := 8) rfl)
  obtain ⟨d33, D33⟩ := df_of X G c (x := "_law_mixed") (i := 33) (by simp [fn]) (List.mem_of_getElem? (i := 9) rfl)
  obtain ⟨d34, D34⟩ := df_of X G c (x := "_law_draw") (i := 34) (by simp [fn]) (List.mem_of_getElem? (i := 10) rfl)
  obtain ⟨d35, D35⟩ := df_of X G c (x := "_law_pick") (i := 35) (by simp [fn]) (List.mem_of_getElem? (i := 11) rfl)
  obtain ⟨d36, D36⟩ := df_of X G c (x := "_law_plain") (i := 36) (by simp [fn]) (List.mem_of_getElem? (i := 12) rfl)
  obtain ⟨d37, D37⟩ := df_of X G c (x := "_law_is") (i := 37) (by simp [fn]) (List.mem_of_getElem? (i := 13) rfl)
  obtain ⟨d38, D38⟩ := df_of X G c (x := "_law_value_text") (i := 38) (by simp [fn]) (List.mem_of_getElem? (i := 14) rfl)
  obtain ⟨d39, D39⟩ := df_of X G c (x := "_law_caught") (i := 39) (by simp [fn]) (List.mem_of_getElem? (i := 15) rfl)
  obtain ⟨d40, D40⟩ := df_of X G c (x := "_law_word") (i := 40) (by simp [fn]) (List.mem_of_getElem? (i := 16) rfl)
  obtain ⟨d41, D41⟩ := df_of X G c (x := "_law_some_value") (i := 41) (by simp [fn]) (List.mem_of_getElem? (i := 17) rfl)
  obtain ⟨d42, D42⟩ := df_of X G c (x := "_law_nested") (i := 42) (by simp [fn]) (List.mem_of_getElem? (i := 18) rfl)
  obtain ⟨d43, D43⟩ := df_of X G c (x := "law") (i := 43) (by simp [fn]) (List.mem_of_getElem? (i := 19) rfl)
  have e := hfa.symm.trans D43.mgf
  cases e
  refine ⟨d43, fun s v => ?_, fun base KX hns TB => ?_⟩
  · obtain ⟨oc, od, kV, doc, pm, an, cdv, ct, osl, rfl, lk, hcd⟩ := D43.fn.ex
    exact .of_eq rfl
  · have c_is_word := ok_is_word (P := PR) (w := w) (base := base) D23 C
    have c_is_figure := ok_is_figure (P := PR) (w := w) (base := base) D24 C
    have c_is_value := ok_is_value D25 C c_is_word c_is_figure
    have c_vt := ok_value_text D26 C TN c_is_value
    have c_pieces := ok_pieces_of (P := PR) (w := w) (base := base) D27 C
    have c_plain := ok_plain_of D28 C c_is_word
    have c_vo := ok_value_of D29 C c_plain
    have c_rv := ok_read_value D30 C TN c_is_value c_pieces c_vo c_vt
    have c_begun := ok_begun (P := PR) (w := w) (base := base) D32 C
    have c_mixed := ok_mixed (P := PR) (w := w) (base := base) D33 C
    have c_draw := ok_draw D34 C c_mixed
    have c_pick := ok_pick D35 C c_draw
    have c_nested := ok_nested (P := PR) (w := w) (base := base) D42 C
    have c_pl := ok_plain (P := PR) (w := w) (base := base) D36 C 62
    have c_lt := ok_lt (P := PR) (w := w) (base := base) D38 C 62
    have c_sv := ok_sv D41 C c_draw c_pick 4
    have c_is := ok_is D37 C c_pl
    have T1 : LamX.TabB base mg (He.cT K ("law", none)).1 (He.cT K ("law", none)).2 := TB _ (by simp [tf])
    have T2 : LamX.TabB base mg (He.cT K ("_law_word", none)).1 (He.cT K ("_law_word", none)).2 := TB _ (by simp [tf])
    have c_word := ok_word (P := PR) (w := w) (base := base) (j := 5) (T := tabs K) D40 D39 C W (code_of D40) T2 (by simp [tabs]) (fun p hp hq => by
      simp only [tabs, List.mem_cons, List.not_mem_nil, or_false] at hp
      rcases hp with rfl | rfl
      · exact absurd hq ne
      · rfl)
    exact ok_law (P := PR) (w := w) (base := base) (T := tabs K) D43 C ⟨c_begun, c_nested, c_sv, c_lt, c_draw, c_pick, c_pl, c_vt, c_rv, c_is, c_word, D37, D40, D26, D30, D37.fn.binds (fun _ _ _ _ _ _ us hl => match us, hl with | [_, _], _ => rfl)⟩ (code_of D43) T1 (by simp [tabs]) (fun p hp hq => by
      simp only [tabs, List.mem_cons, List.not_mem_nil, or_false] at hp
      rcases hp with rfl | rfl
      · rfl
      · exact absurd hq.symm ne)
theorem tabs_nil {K : PySem.W.Frag} {H : Hp} (e : ∀ p ∈ tf.map (He.cT K), H p.2 = some (.tbl #[])) : LamX.Tabs (tabs K) H := fun p hp => by
  simp only [tabs, List.mem_cons, List.not_mem_nil, or_false] at hp
  rcases hp with rfl | rfl
  · exact LamX.TabS.nil (e _ (by simp [tf]))
  · exact LamX.TabS.nil (e _ (by simp [tf]))
end Kh

set_option Elab.async false
set_option linter.all false
set_option maxRecDepth 100000
set_option maxHeartbeats 0
open PySem PySem.W PySem.Calls PyProof.Rows
theorem PySem.Challenge.cw_switchbook_k88_values_written_holds : PySem.Challenge.rw_switchbook_k88_values_written.Holds := by
  w_on; o_law
  refine HandSHeadRun.head_any (r := OpenLaw.row PySem.Challenge.rw_switchbook_k88_values_written) (q := view (OpenLaw.row PySem.Challenge.rw_switchbook_k88_values_written).prog [43]) (H := Kh.hk) (ob := Kh.ob) (M := 6000) (loose := Kh.names) (d := HandSHeadRun.topDef (OpenLaw.row PySem.Challenge.rw_switchbook_k88_values_written).prog 43) (kwd := []) Kh.ob_eq
    (by kernel_rfl) (fun s => by kernel_rfl) Kh.run (by kernel_rfl) (by kernel_rfl) (by kernel_rfl) (by rfl) (by first | assumption | decide +kernel) (by decide +kernel) ⟨rfl, rfl, rfl, rfl, rfl, by decide +kernel⟩ ?hw ?hc
  case hw => w_witness2
  case hc =>
    refine Gd.walk_ofG (l := PySem.Challenge.rw_switchbook_k88_values_written) (n := 63) (k := 65) (x := "script") rfl (by decide) (by kernel_rfl) ⟨rfl, by decide, by decide⟩ ?F
    intro w mg fa h Y G hmg0
    obtain ⟨K, KX, c⟩ := Y
    have hmg : mg ("law" : PySem.Str) = some (.ref fa) := by
      have e : (HandSHeadRun.topDef (OpenLaw.row PySem.Challenge.rw_switchbook_k88_values_written).prog 43).name = ("law" : PySem.Str) := by kernel_rfl
      rw [← e]
      exact hmg0
    obtain ⟨fd, hb, hF⟩ := Kh.facts (w := w) KX G hmg c
    have hm : ∀ p ∈ Kh.tf.map (He.cT K), ∃ q ∈ Kh.tf, p = He.cT K q := fun p hp => by
      obtain ⟨q, h1, h2⟩ := List.mem_map.mp hp
      exact ⟨q, h1, h2.symm⟩
    refine ⟨K, KX, fd, Kh.tf.map (He.cT K), Kw.spLaw K (Kh.tabs K), fun p hp => ?_, fun p hp => ?_, fun p hp => ?_, hb, fun H a ns hl ht hS => ⟨a, ns, rfl, hS, Nat.le_trans hl (by decide), Kh.tabs_nil ht, fun _ => rfl⟩, hF⟩
    · obtain ⟨q, h1, rfl⟩ := hm p hp
      exact c.empty q h1
    · obtain ⟨q, h1, rfl⟩ := hm p hp
      exact c.out q h1
    · obtain ⟨q, h1, rfl⟩ := hm p hp
      exact PySem.W.codeHd_of_K KX (c.hd q h1)
