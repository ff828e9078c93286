import PyProof.Rows.All
import Wide.All
import OpenK.AllK
import Wide.FinOn
import HandS.ForMost
import HandS.Codes
import HandS.Star
import HandS.Property
import HandS.DictComp
import HandS.IsInst
import HandS.TupAny
import HandS.Deep
import HandS.SetFor
import HandS.SortInts
import HandS.Conv
import HandS.Style
import HandS.Flow
import HandS.ListItems
import HandS.Small
import HandS.EndBits
import KE.KDictKeyed
import KE.SortData
import PySem.Challenge.RW_afterfall_k65_whole_contents
import KE.GoesEnum
import KE.GoesMore
import KE.DataFind
import HandS.TupSets
import HandS.Strs
import KE.KDictZip
import KE.KStateDown
import HandS.Head0
import HandS.Head1
import HandS.Head2
import HandS.HeadEnd
import HandS.HeadHook1
import HandS.HeadHook2
import HandS.HeadNt
set_option Elab.async false
set_option linter.all false
set_option maxRecDepth 100000
set_option maxHeartbeats 1000000
/-! ### plain mathematics: plans, falls, the peel -/
namespace Af

section
variable {α : Type}
/-- the value at a key -/
def kget (kvs : List (Int × α)) (k : Int) : Option α := (kvs.find? fun kv => decide (kv.1 = k)).map (·.2)
def kput (kvs : List (Int × α)) (k : Int) (x : α) : List (Int × α) :=
  if kvs.any fun kv => decide (kv.1 = k) then kvs.map fun kv => if kv.1 = k then (kv.1, x) else kv else kvs ++ [(k, x)]
def kdrop (kvs : List (Int × α)) (k : Int) : List (Int × α) := kvs.filter fun kv => decide (kv.1 ≠ k)
theorem kget_nil (k : Int) : kget ([] : List (Int × α)) k = none := rfl
theorem kget_cons (p : Int × α) (r : List (Int × α)) (k : Int) : kget (p :: r) k = if p.1 = k then some p.2 else kget r k := by
  unfold kget
  rw [List.find?_cons]
  by_cases h : p.1 = k
  · simp [h]
  · simp [h]
theorem kget_mem {k : Int} {x : α} : ∀ {kvs : List (Int × α)}, kget kvs k = some x → (k, x) ∈ kvs
  | [], h => by simp [kget_nil] at h
  | p :: r, h => by
    rw [kget_cons] at h
    by_cases e : p.1 = k
    · rw [if_pos e] at h
      injection h with h
      subst e h
      exact List.mem_cons_self
    · rw [if_neg e] at h
      exact List.mem_cons_of_mem _ (kget_mem h)
theorem kget_none {k : Int} : ∀ {kvs : List (Int × α)}, kget kvs k = none ↔ ∀ q ∈ kvs, q.1 ≠ k
  | [] => by simp [kget_nil]
  | p :: r => by
    rw [kget_cons]
    by_cases e : p.1 = k
    · rw [if_pos e]; simp [e]
    · rw [if_neg e, kget_none]; simp [e]
theorem kget_of {k : Int} {x : α} : ∀ {kvs : List (Int × α)}, (kvs.map (·.1)).Nodup → (k, x) ∈ kvs → kget kvs k = some x
  | [], _, h => by simp at h
  | p :: r, nd, h => by
    rw [List.map_cons, List.nodup_cons] at nd
    rw [kget_cons]
    rcases List.mem_cons.mp h with e | h
    · subst e; simp
    · have : p.1 ≠ k := fun e => nd.1 (e ▸ List.mem_map_of_mem (f := (·.1)) h)
      rw [if_neg this]; exact kget_of nd.2 h
theorem kget_map {β : Type} (f : α → β) (k : Int) : ∀ kvs : List (Int × α), kget (kvs.map fun p => (p.1, f p.2)) k = (kget kvs k).map f
  | [] => rfl
  | p :: r => by
    rw [List.map_cons, kget_cons, kget_cons, kget_map f k r]
    by_cases e : p.1 = k
    · simp [e]
    · simp [e]
theorem kget_filter {k : Int} {f : Int → Bool} (kvs : List (Int × α)) (hf : f k = true) : kget (kvs.filter fun p => f p.1) k = kget kvs k := by
  induction kvs with
  | nil => rfl
  | cons p r ih =>
    by_cases h : f p.1 = true
    · rw [List.filter_cons_of_pos (by simpa using h), kget_cons, kget_cons, ih]
    · rw [List.filter_cons_of_neg (by simpa using h), kget_cons, ih]
      have : p.1 ≠ k := fun e => h (by rw [e]; exact hf)
      rw [if_neg this]
end

abbrev Pat := List (Int × List Int)
/-- the cells of a piece and their worths -/
def cellsOf (first : Int) (ws : List Int) : List (Int × Int) := ws.zipIdx.map fun q => (first + (q.2 : Nat), q.1)
structure Pl where
  base : List Int
  /-- step, first, worths -/
  parts : List (Nat × Int × List Int)
  ranks : List Nat
  epochs : Nat
namespace Pl
def n (p : Pl) : Nat := p.parts.length
def rank (p : Pl) (i : Nat) : Nat := p.ranks.getD i 0
def wr (p : Pl) (i : Nat) : List (Int × Int) := cellsOf (p.parts.getD i (0, 0, [])).2.1 (p.parts.getD i (0, 0, [])).2.2
end Pl
theorem cellsOf_mem {f : Int} {ws : List Int} {k v : Int} : (k, v) ∈ cellsOf f ws ↔ ∃ j : Nat, ws[j]? = some v ∧ k = f + (j : Int) := by
  unfold cellsOf
  rw [List.mem_map]
  constructor
  · rintro ⟨⟨a, j⟩, h, e⟩
    rw [List.mem_zipIdx_iff_getElem?] at h
    simp at e h
    exact ⟨j, by rw [h, e.2], e.1.symm⟩
  · rintro ⟨j, h, e⟩
    exact ⟨(v, j), by rw [List.mem_zipIdx_iff_getElem?]; exact h, by simp [e]⟩
theorem cellsOf_nodup (f : Int) (ws : List Int) : ((cellsOf f ws).map (·.1)).Nodup := by
  unfold cellsOf
  rw [List.map_map]
  have : ((fun x : Int × Int => x.1) ∘ fun q : Int × Nat => (f + (q.2 : Int), q.1)) = (fun j : Nat => f + (j : Int)) ∘ Prod.snd := by funext q; rfl
  rw [this, ← List.map_map]
  rw [List.zipIdx_map_snd]
  unfold List.Nodup
  rw [List.pairwise_map]
  refine List.Pairwise.imp ?_ (List.nodup_range' (s := 0) (n := ws.length))
  intro a b h e
  exact h (by omega)
/-- the worth of a cell after pieces, from the last one back -/
def valR (p : Pl) (k : Int) : List Nat → Int → Int
  | [], b => b
  | i :: t, b => (kget (p.wr i) k).getD (valR p k t b)
theorem valR_append (p : Pl) (k : Int) : ∀ (s t : List Nat) (b : Int), valR p k (s ++ t) b = valR p k s (valR p k t b)
  | [], t, b => rfl
  | i :: s, t, b => by simp only [List.cons_append, valR, valR_append p k s t b]
/-- a content overwritten by a piece; by pieces in order -/
def over1 (c : List Int) (kvs : List (Int × Int)) : List Int := kvs.foldl (fun c q => c.set q.1.toNat q.2) c
def over (p : Pl) (c : List Int) (F : List Nat) : List Int := F.foldl (fun c i => over1 c (p.wr i)) c
theorem over1_len : ∀ (kvs : List (Int × Int)) (c : List Int), (over1 c kvs).length = c.length
  | [], c => rfl
  | q :: r, c => by
    show (over1 (c.set q.1.toNat q.2) r).length = _
    rw [over1_len r]; simp
theorem over_len (p : Pl) : ∀ (F : List Nat) (c : List Int), (over p c F).length = c.length
  | [], c => rfl
  | i :: F, c => by
    show (over p (over1 c (p.wr i)) F).length = _
    rw [over_len p F, over1_len]
theorem over_snoc (p : Pl) (c : List Int) (F : List Nat) (i : Nat) : over p c (F ++ [i]) = over1 (over p c F) (p.wr i) := by
  unfold over; rw [List.foldl_append]; rfl
theorem over1_get {k : Nat} : ∀ {kvs : List (Int × Int)} {c : List Int}, (kvs.map (·.1)).Nodup → (∀ q ∈ kvs, 0 ≤ q.1 ∧ q.1 < (c.length : Int)) → k < c.length →
    (over1 c kvs).getD k 0 = (kget kvs (k : Int)).getD (c.getD k 0)
  | [], c, _, _, _ => rfl
  | q :: r, c, nd, h, hk => by
    rw [List.map_cons, List.nodup_cons] at nd
    show (over1 (c.set q.1.toNat q.2) r).getD k 0 = _
    have hq := h q List.mem_cons_self
    rw [over1_get nd.2 (fun z hz => by rw [List.length_set]; exact h z (List.mem_cons_of_mem _ hz)) (by rw [List.length_set]; exact hk), kget_cons]
    by_cases e : q.1 = (k : Int)
    · have hn : kget r (k : Int) = none := kget_none.mpr fun z hz e2 => nd.1 (by rw [e, ← e2]; exact List.mem_map_of_mem (f := (·.1)) hz)
      rw [if_pos e, hn]
      have : q.1.toNat = k := by omega
      rw [this]
      simp [List.getD, hk]
    · rw [if_neg e]
      have : q.1.toNat ≠ k := by omega
      congr 1
      simp only [List.getD]
      rw [List.getElem?_set_ne this]
/-- every piece lies in the store, every piece has its epoch -/
structure Pl.WF (p : Pl) : Prop where
  len : p.ranks.length = p.parts.length
  inn : ∀ i, i < p.n → ∀ q ∈ p.wr i, 0 ≤ q.1 ∧ q.1 < (p.base.length : Int)
  top : ∀ i, i < p.n → p.rank i < p.epochs
  pos : 0 < p.epochs
theorem wr_nodup (p : Pl) (i : Nat) : ((p.wr i).map (·.1)).Nodup := cellsOf_nodup _ _
theorem over_get (p : Pl) (W : p.WF) {k : Nat} (hk : k < p.base.length) : ∀ (F : List Nat), (∀ i ∈ F, i < p.n) → (over p p.base F).getD k 0 = valR p (k : Int) F.reverse (p.base.getD k 0) := by
  have : ∀ (G : List Nat), (∀ i ∈ G, i < p.n) → (over p p.base G.reverse).getD k 0 = valR p (k : Int) G (p.base.getD k 0) := by
    intro G
    induction G with
    | nil => intro _; rfl
    | cons i G ih =>
      intro h
      rw [List.reverse_cons, over_snoc, over1_get (wr_nodup p i) (fun q hq => ?_) (by rw [over_len]; exact hk), ih fun j hj => h j (List.mem_cons_of_mem _ hj)]
      · rfl
      · rw [over_len]; exact W.inn i (h i List.mem_cons_self) q hq
  intro F h
  have := this F.reverse fun i hi => h i (List.mem_reverse.mp hi)
  rwa [List.reverse_reverse] at this
/-! falls -/
structure Fall (p : Pl) (F : List Nat) : Prop where
  nd : F.Nodup
  lt : ∀ i ∈ F, i < p.n
  low : ∀ (j : Nat) (x : Nat), F[j]? = some x → ∀ q, q < p.n → p.rank q < p.rank x → q ∈ F.take j
def Found (p : Pl) (c : List Int) : Prop := ∃ F, Fall p F ∧ over p p.base F = c
def Fits (pat : Pat) (c : List Int) : Prop := ∀ q ∈ pat, c.getD q.1.toNat 0 ∈ q.2
theorem Fall.nil (p : Pl) : Fall p [] := ⟨List.nodup_nil, by simp, by simp⟩
theorem Fall.init {p : Pl} {F : List Nat} {x : Nat} (h : Fall p (F ++ [x])) : Fall p F := by
  refine ⟨(List.nodup_append.mp h.nd).1, fun i hi => h.lt i (List.mem_append_left _ hi), fun j y hy q hq hr => ?_⟩
  have hj : j < F.length := (List.getElem?_eq_some_iff.mp hy).1
  have := h.low j y (by rw [List.getElem?_append_left hj]; exact hy) q hq hr
  rwa [List.take_append_of_le_length (by omega)] at this
theorem Fall.snoc {p : Pl} {F : List Nat} {x : Nat} (h : Fall p F) (hx : x ∉ F) (hn : x < p.n) (hl : ∀ q, q < p.n → p.rank q < p.rank x → q ∈ F) : Fall p (F ++ [x]) := by
  refine ⟨List.nodup_append.mpr ⟨h.nd, by simp, ?_⟩, fun i hi => ?_, fun j y hy q hq hr => ?_⟩
  · intro a ha b hb e
    have : b = x := by simpa using hb
    exact hx (this ▸ e ▸ ha)
  · rcases List.mem_append.mp hi with z | z
    · exact h.lt i z
    · have : i = x := by simpa using z
      rw [this]; exact hn
  · by_cases hj : j < F.length
    · rw [List.getElem?_append_left hj] at hy
      rw [List.take_append_of_le_length (by omega)]
      exact h.low j y hy q hq hr
    · have hj' : j = F.length := by
        have := (List.getElem?_eq_some_iff.mp hy).1
        simp at this; omega
      subst hj'
      have : y = x := by simpa using hy.symm
      subst this
      simpa using hl q hq hr
theorem Fall.last {p : Pl} {F : List Nat} {x : Nat} (h : Fall p (F ++ [x])) : x ∉ F ∧ x < p.n ∧ ∀ q, q < p.n → p.rank q < p.rank x → q ∈ F := by
  refine ⟨fun hx => (List.nodup_append.mp h.nd).2.2 x hx x (by simp) rfl, h.lt x (by simp), fun q hq hr => ?_⟩
  have := h.low F.length x (by simp) q hq hr
  simpa using this
/-- along a fall the epochs rise -/
theorem Fall.mono {p : Pl} {F : List Nat} (h : Fall p F) : F.Pairwise fun a b => p.rank a ≤ p.rank b := by
  rw [List.pairwise_iff_getElem]
  intro i j hi hj hij
  apply Nat.le_of_not_lt
  intro hr
  have := h.low i F[i] (by simp [hi]) F[j] (h.lt _ (List.getElem_mem hj)) hr
  obtain ⟨l, hl, e⟩ := List.mem_take_iff_getElem.mp this
  have hl2 : l < F.length := by omega
  have := (List.getElem_inj h.nd).mp e
  omega
/-! the peel: T are the pieces taken so far -/
def unw (p : Pl) (T : List Nat) (k : Int) : Bool := T.all fun i => (kget (p.wr i) k).isNone
def needed (p : Pl) (pat : Pat) (T : List Nat) : Pat := pat.filter fun q => unw p T q.1
def spoiltBy (nd : Pat) (ws : List (Int × Int)) : List Int := (nd.filter fun q => match kget ws q.1 with | some v => !q.2.contains v | none => false).map (·.1)
def okLast (p : Pl) (pat : Pat) (T : List Nat) (i : Nat) : Bool := (spoiltBy (needed p pat T) (p.wr i)).isEmpty
def left0 (p : Pl) (e : Nat) : List Nat := (List.range p.n).filter fun i => decide (p.rank i ≤ e)
def leftT (L : List Nat) (T : List Nat) : List Nat := L.filter fun i => !T.contains i
def pick (p : Pl) (pat : Pat) (L pcs T : List Nat) : Option Nat := (pcs.filter fun i => (leftT L T).contains i && okLast p pat T i).getLast?
def takeN (p : Pl) (pat : Pat) (L pcs : List Nat) : Nat → List Nat → List Nat
  | 0, T => T
  | m + 1, T => match pick p pat L pcs T with
    | none => T
    | some i => takeN p pat L pcs m (T ++ [i])
def baseD (p : Pl) : List (Int × Int) := cellsOf 0 p.base
/-- one epoch after another, down to the first: none where a sure piece is left -/
def goDown (p : Pl) (pat : Pat) (e : Nat) : Nat → List Nat → Option (List Nat)
  | 0, T =>
    let pcs := (leftT (left0 p e) T).filter fun i => decide (p.rank i = 0)
    let T' := takeN p pat (left0 p e) pcs pcs.length T
    if (pcs.filter fun i => (leftT (left0 p e) T').contains i).any (fun i => decide (p.rank i < e)) then none else some T'
  | r + 1, T =>
    let pcs := (leftT (left0 p e) T).filter fun i => decide (p.rank i = r + 1)
    let T' := takeN p pat (left0 p e) pcs pcs.length T
    if (pcs.filter fun i => (leftT (left0 p e) T').contains i).any (fun i => decide (p.rank i < e)) then none else goDown p pat e r T'
def peel (p : Pl) (pat : Pat) (e : Nat) : Option (List Nat) :=
  match goDown p pat e e [] with
  | none => none
  | some T => if (spoiltBy (needed p pat T) (baseD p)).isEmpty then some T.reverse else none
def sought (p : Pl) (pat : Pat) : Option (List Nat) := (List.range p.epochs).findSome? (peel p pat)

theorem unw_append (p : Pl) (T S : List Nat) (k : Int) : unw p (T ++ S) k = (unw p T k && unw p S k) := by unfold unw; rw [List.all_append]
theorem okLast_iff {p : Pl} {pat : Pat} {T : List Nat} {i : Nat} : okLast p pat T i = true ↔ ∀ q ∈ pat, unw p T q.1 = true → ∀ v, kget (p.wr i) q.1 = some v → v ∈ q.2 := by
  unfold okLast spoiltBy
  rw [List.isEmpty_iff, List.map_eq_nil_iff, List.filter_eq_nil_iff]
  constructor
  · intro h q hq hu v hv
    have := h q (List.mem_filter.mpr ⟨hq, hu⟩)
    rw [hv] at this
    simpa using this
  · intro h q hq
    obtain ⟨h1, h2⟩ := List.mem_filter.mp hq
    cases e : kget (p.wr i) q.1 with
    | none => simp
    | some v => simpa using h q h1 h2 v e
theorem baseOk_iff {p : Pl} {pat : Pat} {T : List Nat} (hp : ∀ q ∈ pat, 0 ≤ q.1 ∧ q.1 < (p.base.length : Int)) : (spoiltBy (needed p pat T) (baseD p)).isEmpty = true ↔ ∀ q ∈ pat, unw p T q.1 = true → p.base.getD q.1.toNat 0 ∈ q.2 := by
  unfold spoiltBy
  rw [List.isEmpty_iff, List.map_eq_nil_iff, List.filter_eq_nil_iff]
  have hb : ∀ q ∈ pat, kget (baseD p) q.1 = some (p.base.getD q.1.toNat 0) := fun q hq => by
    obtain ⟨h1, h2⟩ := hp q hq
    refine kget_of (cellsOf_nodup _ _) (cellsOf_mem.mpr ⟨q.1.toNat, ?_, by omega⟩)
    have : q.1.toNat < p.base.length := by omega
    simp [List.getD, this]
  constructor
  · intro h q hq hu
    have := h q (List.mem_filter.mpr ⟨hq, hu⟩)
    rw [hb q hq] at this
    simpa using this
  · intro h q hq
    obtain ⟨h1, h2⟩ := List.mem_filter.mp hq
    rw [hb q h1]
    simpa using h q h1 h2
theorem valR_unw {p : Pl} {k : Int} : ∀ {T : List Nat} {b : Int}, unw p T k = true → valR p k T b = b
  | [], b, _ => rfl
  | i :: T, b, h => by
    unfold unw at h
    rw [List.all_cons, Bool.and_eq_true] at h
    have : kget (p.wr i) k = none := by simpa using h.1
    simp only [valR, this, Option.getD_none]
    exact valR_unw h.2
/-- what a written cell holds does not hang on what was there -/
theorem valR_w {p : Pl} {k : Int} : ∀ {T : List Nat} (a b : Int), unw p T k = false → valR p k T a = valR p k T b
  | [], a, b, h => by simp [unw] at h
  | i :: T, a, b, h => by
    unfold unw at h
    rw [List.all_cons] at h
    cases e : kget (p.wr i) k with
    | some v => simp [valR, e]
    | none =>
      rw [e] at h
      simp only [valR, e, Option.getD_none]
      have h' : (true && unw p T k) = false := h
      rw [Bool.true_and] at h'
      exact valR_w a b h'
/-- all that has been taken lets the pattern -/
def Lets (p : Pl) (pat : Pat) (T : List Nat) : Prop := ∀ q ∈ pat, unw p T q.1 = false → ∀ b, valR p q.1 T b ∈ q.2
theorem Lets.nil (p : Pl) (pat : Pat) : Lets p pat [] := fun q _ h => by simp [unw] at h
theorem Lets.snoc {p : Pl} {pat : Pat} {T : List Nat} {i : Nat} (h : Lets p pat T) (ok : okLast p pat T i = true) : Lets p pat (T ++ [i]) := fun q hq hu b => by
  rw [valR_append]
  by_cases e : unw p T q.1 = true
  · rw [valR_unw e]
    rw [unw_append, e] at hu
    cases e2 : kget (p.wr i) q.1 with
    | none => simp [unw, e2] at hu
    | some v =>
      simp only [valR, e2, Option.getD_some]
      exact okLast_iff.mp ok q hq e v e2
  · exact h q hq (by simpa using e) _
theorem pick_some {p : Pl} {pat : Pat} {L pcs T : List Nat} {i : Nat} (h : pick p pat L pcs T = some i) : i ∈ pcs ∧ i ∈ L ∧ i ∉ T ∧ okLast p pat T i = true := by
  have := List.mem_of_getLast? h
  obtain ⟨h1, h2⟩ := List.mem_filter.mp this
  rw [Bool.and_eq_true] at h2
  have h3 : i ∈ leftT L T := by simpa using h2.1
  obtain ⟨h4, h5⟩ := List.mem_filter.mp h3
  exact ⟨h1, h4, by simpa using h5, h2.2⟩
theorem pick_none {p : Pl} {pat : Pat} {L pcs T : List Nat} (h : pick p pat L pcs T = none) : ∀ i ∈ pcs, i ∈ L → i ∉ T → okLast p pat T i = false := by
  intro i h1 h2 h3
  have := List.filter_eq_nil_iff.mp (List.getLast?_eq_none_iff.mp h) i h1
  have hm : (leftT L T).contains i = true := by
    rw [List.contains_iff_mem]
    exact List.mem_filter.mpr ⟨h2, by simpa using h3⟩
  rw [hm] at this
  simpa using this
/-- pieces that could still be taken -/
def avail (L pcs T : List Nat) : Nat := (pcs.filter fun i => (leftT L T).contains i).length
theorem filter_le {f g : Nat → Bool} (h : ∀ x, f x = true → g x = true) : ∀ l : List Nat, (l.filter f).length ≤ (l.filter g).length
  | [] => by simp
  | a :: r => by
    have ih := filter_le h r
    by_cases hb : f a = true
    · rw [List.filter_cons_of_pos hb, List.filter_cons_of_pos (h a hb)]; simp only [List.length_cons]; omega
    · rw [List.filter_cons_of_neg hb]
      by_cases hb2 : g a = true
      · rw [List.filter_cons_of_pos hb2]; simp only [List.length_cons]; omega
      · rw [List.filter_cons_of_neg hb2]; exact ih
theorem filter_lt {f g : Nat → Bool} {i : Nat} (h : ∀ x, f x = true → g x = true) : ∀ {l : List Nat}, i ∈ l → g i = true → f i = false → (l.filter f).length < (l.filter g).length
  | [], hm, _, _ => by simp at hm
  | a :: r, hm, hg, hf => by
    rcases List.mem_cons.mp hm with e | hm
    · subst e
      rw [List.filter_cons_of_neg (by rw [hf]; simp), List.filter_cons_of_pos hg]
      exact Nat.lt_succ_of_le (filter_le h r)
    · have ih := filter_lt h hm hg hf
      by_cases hb : f a = true
      · rw [List.filter_cons_of_pos hb, List.filter_cons_of_pos (h a hb)]; simp only [List.length_cons]; omega
      · rw [List.filter_cons_of_neg hb]
        by_cases hb2 : g a = true
        · rw [List.filter_cons_of_pos hb2]; simp only [List.length_cons]; omega
        · rw [List.filter_cons_of_neg hb2]; exact ih
theorem avail_lt {L pcs T : List Nat} {i : Nat} (h1 : i ∈ pcs) (h2 : i ∈ L) (h3 : i ∉ T) : avail L pcs (T ++ [i]) < avail L pcs T := by
  unfold avail
  have key : ∀ x, (leftT L (T ++ [i])).contains x = true → (leftT L T).contains x = true := by
    intro x hx
    rw [List.contains_iff_mem] at hx ⊢
    obtain ⟨a, b⟩ := List.mem_filter.mp hx
    refine List.mem_filter.mpr ⟨a, ?_⟩
    have : x ∉ T ++ [i] := by simpa using b
    simp only [Bool.not_eq_true', List.contains_eq_mem, decide_eq_false_iff_not]
    exact fun z => this (List.mem_append_left _ z)
  have hi : (leftT L T).contains i = true := by
    rw [List.contains_iff_mem]
    exact List.mem_filter.mpr ⟨h2, by simpa using h3⟩
  have hi' : (leftT L (T ++ [i])).contains i = false := by
    rw [List.contains_eq_mem, decide_eq_false_iff_not]
    intro z
    have := (List.mem_filter.mp z).2
    simp at this
  exact filter_lt key h1 hi hi'
theorem avail_le (L pcs T : List Nat) : avail L pcs T ≤ pcs.length := List.length_filter_le _ _
/-- what a run of takes keeps, and where it ends -/
theorem takeN_run {p : Pl} {pat : Pat} {L pcs : List Nat} (I : List Nat → Prop) (hI : ∀ T i, I T → i ∈ pcs → i ∈ L → i ∉ T → okLast p pat T i = true → I (T ++ [i])) :
    ∀ (m : Nat) (T : List Nat), avail L pcs T ≤ m → I T → I (takeN p pat L pcs m T) ∧ (∀ i ∈ T, i ∈ takeN p pat L pcs m T) ∧ pick p pat L pcs (takeN p pat L pcs m T) = none
  | 0, T, hm, h => by
    refine ⟨h, fun _ hi => hi, ?_⟩
    show pick p pat L pcs T = none
    cases e : pick p pat L pcs T with
    | none => rfl
    | some i =>
      obtain ⟨h1, h2, h3, _⟩ := pick_some e
      have := avail_lt h1 h2 h3
      omega
  | m + 1, T, hm, h => by
    show I (match pick p pat L pcs T with | none => T | some i => takeN p pat L pcs m (T ++ [i])) ∧ (∀ i ∈ T, i ∈ (match pick p pat L pcs T with | none => T | some i => takeN p pat L pcs m (T ++ [i]))) ∧ pick p pat L pcs (match pick p pat L pcs T with | none => T | some i => takeN p pat L pcs m (T ++ [i])) = none
    cases e : pick p pat L pcs T with
    | none => exact ⟨h, fun _ hi => hi, e⟩
    | some i =>
      obtain ⟨h1, h2, h3, h4⟩ := pick_some e
      have hlt := avail_lt h1 h2 h3
      obtain ⟨a, b, c⟩ := takeN_run I hI m (T ++ [i]) (by omega) (hI T i h h1 h2 h3 h4)
      exact ⟨a, fun j hj => b j (List.mem_append_left _ hj), c⟩
/-- the run does not hang on the fuel, if it is enough -/
theorem takeN_fuel {p : Pl} {pat : Pat} {L pcs : List Nat} : ∀ (m k : Nat) (T : List Nat), avail L pcs T ≤ m → avail L pcs T ≤ k → takeN p pat L pcs m T = takeN p pat L pcs k T
  | 0, 0, T, _, _ => rfl
  | 0, k + 1, T, hm, _ => by
    show T = match pick p pat L pcs T with | none => T | some i => _
    cases e : pick p pat L pcs T with
    | none => rfl
    | some i =>
      obtain ⟨h1, h2, h3, _⟩ := pick_some e
      have := avail_lt h1 h2 h3
      omega
  | m + 1, 0, T, _, hk => by
    show (match pick p pat L pcs T with | none => T | some i => _) = T
    cases e : pick p pat L pcs T with
    | none => rfl
    | some i =>
      obtain ⟨h1, h2, h3, _⟩ := pick_some e
      have := avail_lt h1 h2 h3
      omega
  | m + 1, k + 1, T, hm, hk => by
    show (match pick p pat L pcs T with | none => T | some i => takeN p pat L pcs m (T ++ [i])) = (match pick p pat L pcs T with | none => T | some i => takeN p pat L pcs k (T ++ [i]))
    cases e : pick p pat L pcs T with
    | none => rfl
    | some i =>
      obtain ⟨h1, h2, h3, _⟩ := pick_some e
      have := avail_lt h1 h2 h3
      exact takeN_fuel m k _ (by omega) (by omega)
end Af
set_option linter.all false
set_option maxRecDepth 100000
set_option maxHeartbeats 1000000
/-! ### the peel finds a fall, if there is one -/
namespace Af

/-- the invariant of what is taken, down to an epoch r (from above) -/
structure Tk (p : Pl) (pat : Pat) (e : Nat) (T : List Nat) : Prop where
  nd : T.Nodup
  le : ∀ i ∈ T, i < p.n ∧ p.rank i ≤ e
  lets : Lets p pat T
  down : T.Pairwise fun a b => p.rank b ≤ p.rank a
theorem mem_left0 {p : Pl} {e i : Nat} : i ∈ left0 p e ↔ i < p.n ∧ p.rank i ≤ e := by
  unfold left0
  rw [List.mem_filter, List.mem_range]; simp
theorem mem_leftT {L T : List Nat} {i : Nat} : i ∈ leftT L T ↔ i ∈ L ∧ i ∉ T := by
  unfold leftT
  rw [List.mem_filter]; simp
theorem Tk.snoc {p : Pl} {pat : Pat} {e : Nat} {T : List Nat} {i : Nat} (h : Tk p pat e T) (h1 : i ∈ left0 p e) (h2 : i ∉ T) (h3 : okLast p pat T i = true) (h4 : ∀ a ∈ T, p.rank i ≤ p.rank a) : Tk p pat e (T ++ [i]) := by
  refine ⟨List.nodup_append.mpr ⟨h.nd, by simp, ?_⟩, fun j hj => ?_, h.lets.snoc h3, List.pairwise_append.mpr ⟨h.down, by simp, ?_⟩⟩
  · intro a ha b hb z
    have : b = i := by simpa using hb
    exact h2 (this ▸ z ▸ ha)
  · rcases List.mem_append.mp hj with z | z
    · exact h.le j z
    · have : j = i := by simpa using z
      rw [this]; exact mem_left0.mp h1
  · intro a ha b hb
    have : b = i := by simpa using hb
    rw [this]; exact h4 a ha
/-- one epoch -/
def pcsOf (p : Pl) (e r : Nat) (T : List Nat) : List Nat := (leftT (left0 p e) T).filter fun i => decide (p.rank i = r)
def stepOf (p : Pl) (pat : Pat) (e r : Nat) (T : List Nat) : List Nat := takeN p pat (left0 p e) (pcsOf p e r T) (pcsOf p e r T).length T
theorem mem_pcs {p : Pl} {e r : Nat} {T : List Nat} {i : Nat} : i ∈ pcsOf p e r T ↔ i < p.n ∧ p.rank i ≤ e ∧ i ∉ T ∧ p.rank i = r := by
  unfold pcsOf
  rw [List.mem_filter, mem_leftT, mem_left0]; simp
  constructor
  · rintro ⟨⟨⟨a, b⟩, c⟩, d⟩; exact ⟨a, b, c, d⟩
  · rintro ⟨a, b, c, d⟩; exact ⟨⟨⟨a, b⟩, c⟩, d⟩
theorem step_spec {p : Pl} {pat : Pat} {e r : Nat} {T : List Nat} (h : Tk p pat e T) (hr : ∀ a ∈ T, r < p.rank a) :
    Tk p pat e (stepOf p pat e r T) ∧ (∀ i ∈ T, i ∈ stepOf p pat e r T) ∧ (∀ i ∈ stepOf p pat e r T, r ≤ p.rank i) ∧
    (∀ i, i < p.n → p.rank i ≤ e → p.rank i = r → i ∉ stepOf p pat e r T → okLast p pat (stepOf p pat e r T) i = false) := by
  have := takeN_run (p := p) (pat := pat) (L := left0 p e) (pcs := pcsOf p e r T) (fun S => Tk p pat e S ∧ (∀ a ∈ S, r ≤ p.rank a)) (fun S i hS h1 h2 h3 h4 => by
    have hi := (mem_pcs.mp h1).2.2.2
    refine ⟨hS.1.snoc h2 h3 h4 fun a ha => by rw [hi]; exact hS.2 a ha, fun a ha => ?_⟩
    rcases List.mem_append.mp ha with z | z
    · exact hS.2 a z
    · have : a = i := by simpa using z
      rw [this, hi]; exact Nat.le_refl _) _ T (avail_le _ _ _) ⟨h, fun a ha => Nat.le_of_lt (hr a ha)⟩
  obtain ⟨⟨a, b⟩, c, d⟩ := this
  refine ⟨a, c, b, fun i h1 h2 h3 h4 => ?_⟩
  refine pick_none d i (mem_pcs.mpr ⟨h1, h2, fun z => h4 (c i z), h3⟩) (mem_left0.mpr ⟨h1, h2⟩) h4
theorem goDown_zero (p : Pl) (pat : Pat) (e : Nat) (T : List Nat) : goDown p pat e 0 T = if ((pcsOf p e 0 T).filter fun i => (leftT (left0 p e) (stepOf p pat e 0 T)).contains i).any (fun i => decide (p.rank i < e)) then none else some (stepOf p pat e 0 T) := rfl
theorem goDown_succ (p : Pl) (pat : Pat) (e r : Nat) (T : List Nat) : goDown p pat e (r + 1) T = if ((pcsOf p e (r + 1) T).filter fun i => (leftT (left0 p e) (stepOf p pat e (r + 1) T)).contains i).any (fun i => decide (p.rank i < e)) then none else goDown p pat e r (stepOf p pat e (r + 1) T) := rfl
/-- nothing sure is left of an epoch -/
theorem left_none {p : Pl} {pat : Pat} {e r : Nat} {T : List Nat} (h : ((pcsOf p e r T).filter fun i => (leftT (left0 p e) (stepOf p pat e r T)).contains i).any (fun i => decide (p.rank i < e)) = false) (hT : ∀ i ∈ T, i ∈ stepOf p pat e r T) :
    r < e → ∀ i, i < p.n → p.rank i = r → i ∈ stepOf p pat e r T := by
  intro hr i hi hri
  apply Classical.byContradiction
  intro hn
  have hm : i ∈ (pcsOf p e r T).filter fun i => (leftT (left0 p e) (stepOf p pat e r T)).contains i := by
    refine List.mem_filter.mpr ⟨mem_pcs.mpr ⟨hi, by omega, fun z => hn (hT i z), hri⟩, ?_⟩
    rw [List.contains_iff_mem]
    exact mem_leftT.mpr ⟨mem_left0.mpr ⟨hi, by omega⟩, hn⟩
  have := List.any_eq_false.mp h i hm
  simp at this
  omega
theorem left_some {p : Pl} {pat : Pat} {e r : Nat} {T : List Nat} (h : r < e → ∀ i, i < p.n → p.rank i = r → i ∈ stepOf p pat e r T) : ((pcsOf p e r T).filter fun i => (leftT (left0 p e) (stepOf p pat e r T)).contains i).any (fun i => decide (p.rank i < e)) = false := by
  rw [List.any_eq_false]
  intro i hi
  obtain ⟨h1, h2⟩ := List.mem_filter.mp hi
  obtain ⟨a, b, c, d⟩ := mem_pcs.mp h1
  rw [List.contains_iff_mem] at h2
  have := (mem_leftT.mp h2).2
  simp
  apply Nat.le_of_not_lt
  intro z
  exact this (h (by omega) i a d)
/-- what comes out at the bottom -/
theorem goDown_sound {p : Pl} {pat : Pat} {e : Nat} : ∀ (r : Nat) (T S : List Nat), r ≤ e → Tk p pat e T → (∀ a ∈ T, r < p.rank a) → (∀ i, i < p.n → r < p.rank i → p.rank i < e → i ∈ T) → goDown p pat e r T = some S →
    Tk p pat e S ∧ ∀ i, i < p.n → p.rank i < e → i ∈ S
  | 0, T, S, hre, h, h1, h2, hg => by
    rw [goDown_zero] at hg
    obtain ⟨a, b, c, d⟩ := step_spec h h1
    split at hg
    · cases hg
    · rename_i hn
      have hn' := Bool.eq_false_iff.mpr hn
      cases hg
      refine ⟨a, fun i hi hr => ?_⟩
      by_cases z : p.rank i = 0
      · exact left_none hn' b (by omega) i hi z
      · exact b i (h2 i hi (by omega) hr)
  | r + 1, T, S, hre, h, h1, h2, hg => by
    rw [goDown_succ] at hg
    obtain ⟨a, b, c, d⟩ := step_spec h h1
    split at hg
    · cases hg
    · rename_i hn
      have hn' := Bool.eq_false_iff.mpr hn
      refine goDown_sound r _ S (by omega) a (fun x hx => c x hx) (fun i hi hr1 hr2 => ?_) hg
      by_cases z : p.rank i = r + 1
      · exact left_none hn' b (by omega) i hi z
      · exact b i (h2 i hi (by omega) hr2)
theorem Tk.nil (p : Pl) (pat : Pat) (e : Nat) : Tk p pat e [] := ⟨List.nodup_nil, by simp, .nil p pat, List.Pairwise.nil⟩
theorem Tk.fall {p : Pl} {pat : Pat} {e : Nat} {T : List Nat} (h : Tk p pat e T) (hl : ∀ i, i < p.n → p.rank i < e → i ∈ T) : Fall p T.reverse := by
  have nd : T.reverse.Nodup := by
    unfold List.Nodup
    rw [List.pairwise_reverse]
    exact h.nd.imp fun z => z.symm
  have up : T.reverse.Pairwise fun a b => p.rank a ≤ p.rank b := by rw [List.pairwise_reverse]; exact h.down
  refine ⟨nd, fun i hi => (h.le i (List.mem_reverse.mp hi)).1, fun j x hx q hq hr => ?_⟩
  have hxT : x ∈ T := List.mem_reverse.mp (List.mem_of_getElem? hx)
  have hqT : q ∈ T.reverse := List.mem_reverse.mpr (hl q hq (by have := (h.le x hxT).2; omega))
  obtain ⟨l, hl, e1⟩ := List.getElem_of_mem hqT
  obtain ⟨hj, e2⟩ := List.getElem?_eq_some_iff.mp hx
  refine List.mem_take_iff_getElem.mpr ⟨l, ?_, e1⟩
  apply Nat.lt_min.mpr
  refine ⟨?_, hl⟩
  apply Nat.lt_of_not_le
  intro z
  by_cases z2 : j = l
  · subst z2
    rw [e1] at e2
    rw [e2] at hr
    omega
  · have := List.pairwise_iff_getElem.mp up j l hj hl (by omega)
    rw [e2, e1] at this
    omega
/-- a pattern of the plan's cells -/
def InCells (p : Pl) (pat : Pat) : Prop := ∀ q ∈ pat, 0 ≤ q.1 ∧ q.1 < (p.base.length : Int)
theorem fits_iff {p : Pl} {pat : Pat} {F : List Nat} (W : p.WF) (hp : InCells p pat) (hF : ∀ i ∈ F, i < p.n) : Fits pat (over p p.base F) ↔ ∀ q ∈ pat, valR p q.1 F.reverse (p.base.getD q.1.toNat 0) ∈ q.2 := by
  unfold Fits
  constructor
  · intro h q hq
    have := h q hq
    obtain ⟨h1, h2⟩ := hp q hq
    rw [over_get p W (k := q.1.toNat) (by omega) F hF] at this
    rwa [show ((q.1.toNat : Nat) : Int) = q.1 by omega] at this
  · intro h q hq
    obtain ⟨h1, h2⟩ := hp q hq
    rw [over_get p W (k := q.1.toNat) (by omega) F hF]
    rw [show ((q.1.toNat : Nat) : Int) = q.1 by omega]
    exact h q hq
theorem peel_sound {p : Pl} {pat : Pat} {e : Nat} {F : List Nat} (W : p.WF) (hp : InCells p pat) (h : peel p pat e = some F) : Fall p F ∧ Fits pat (over p p.base F) := by
  unfold peel at h
  split at h
  · cases h
  · rename_i T hT
    split at h
    · rename_i hb
      cases h
      obtain ⟨a, b⟩ := goDown_sound e [] T (Nat.le_refl _) (.nil p pat e) (by simp) (fun i _ h1 h2 => by omega) hT
      have hF := a.fall b
      refine ⟨hF, (fits_iff W hp hF.lt).mpr fun q hq => ?_⟩
      rw [List.reverse_reverse]
      by_cases hu : unw p T q.1 = true
      · rw [valR_unw hu]; exact (baseOk_iff hp).mp hb q hq hu
      · exact a.lets q hq (by simpa using hu) _
    · cases h
/-- a fall in an epoch -/
structure InE (p : Pl) (e : Nat) (G : List Nat) : Prop where
  fall : Fall p G
  le : ∀ i ∈ G, p.rank i ≤ e
  low : ∀ i, i < p.n → p.rank i < e → i ∈ G
theorem valR_split {p : Pl} {k : Int} {s t : List Nat} {g : Nat} {v b : Int} (hs : unw p s k = true) (hv : kget (p.wr g) k = some v) : valR p k (s ++ g :: t) b = v := by
  rw [valR_append, valR_unw hs]; simp [valR, hv]
theorem unw_of {p : Pl} {k : Int} {s T : List Nat} (h : unw p T k = true) (hs : ∀ i ∈ s, i ∈ T) : unw p s k = true := by
  unfold unw at h ⊢
  rw [List.all_eq_true] at h ⊢
  exact fun i hi => h i (hs i hi)
/-- behind an epoch, all of the fall's pieces of it and above are taken -/
theorem step_all {p : Pl} {pat : Pat} {e r : Nat} {T G : List Nat} (W : p.WF) (hp : InCells p pat) (hG : InE p e G) (hm : Fits pat (over p p.base G)) (h : Tk p pat e T) (hr : ∀ a ∈ T, r < p.rank a) (hT : ∀ g ∈ G, r < p.rank g → g ∈ T) :
    ∀ g ∈ G, r ≤ p.rank g → g ∈ stepOf p pat e r T := by
  obtain ⟨a, b, c, d⟩ := step_spec h hr
  have hm' := (fits_iff W hp hG.fall.lt).mp hm
  -- G from behind
  have key : ∀ (n : Nat) (s t : List Nat), s.length = n → G.reverse = s ++ t → ∀ g ∈ s, r ≤ p.rank g → g ∈ stepOf p pat e r T := by
    intro n
    induction n with
    | zero => intro s t hn _ g hg; rw [List.length_eq_zero_iff.mp hn] at hg; simp at hg
    | succ n ih0 =>
      intro s0 t hn hst g hg hrg
      rcases List.eq_nil_or_concat s0 with e0 | ⟨s, x, e0⟩
      · rw [e0] at hg; simp at hg
      rw [List.concat_eq_append] at e0
      subst e0
      have ih' := ih0 s (x :: t) (by simpa using hn) (by rw [hst]; simp)
      rcases List.mem_append.mp hg with z | z
      · exact ih' g z hrg
      · have hgx : g = x := by simpa using z
        subst hgx
        have hgG : g ∈ G := by
          have : g ∈ G.reverse := by rw [hst]; simp
          exact List.mem_reverse.mp this
        by_cases hlt : r < p.rank g
        · exact b g (hT g hgG hlt)
        · have hre : p.rank g = r := by omega
          apply Classical.byContradiction
          intro hn
          have := d g (hG.fall.lt g hgG) (hG.le g hgG) hre hn
          have hok : okLast p pat (stepOf p pat e r T) g = true := by
            refine okLast_iff.mpr fun q hq hu v hv => ?_
            have h1 := hm' q hq
            rw [hst, List.append_assoc] at h1
            have hs : unw p s q.1 = true := by
              refine unw_of hu fun i hi => ih' i hi ?_
              -- pieces behind g in G have no lower epoch
              have hdown : G.reverse.Pairwise fun a b => p.rank b ≤ p.rank a := by rw [List.pairwise_reverse]; exact hG.fall.mono
              rw [hst, List.append_assoc] at hdown
              have := (List.pairwise_append.mp hdown).2.2 i hi g (by simp)
              omega
            rwa [show s ++ ([g] ++ t) = s ++ g :: t by simp, valR_split hs hv] at h1
          rw [hok] at this; cases this
  intro g hg hrg
  exact key _ G.reverse [] rfl (by simp) g (List.mem_reverse.mpr hg) hrg
theorem goDown_complete {p : Pl} {pat : Pat} {e : Nat} {G : List Nat} (W : p.WF) (hp : InCells p pat) (hG : InE p e G) (hm : Fits pat (over p p.base G)) :
    ∀ (r : Nat) (T : List Nat), r ≤ e → Tk p pat e T → (∀ a ∈ T, r < p.rank a) → (∀ g ∈ G, r < p.rank g → g ∈ T) → ∃ S, goDown p pat e r T = some S ∧ Tk p pat e S ∧ ∀ g ∈ G, g ∈ S
  | 0, T, hre, h, h1, h2 => by
    obtain ⟨a, b, c, d⟩ := step_spec h h1
    have hall := step_all W hp hG hm h h1 h2
    rw [goDown_zero, left_some fun hlt i hi hri => hall i (hG.low i hi (by omega)) (by omega)]
    exact ⟨_, rfl, a, fun g hg => hall g hg (Nat.zero_le _)⟩
  | r + 1, T, hre, h, h1, h2 => by
    obtain ⟨a, b, c, d⟩ := step_spec h h1
    have hall := step_all W hp hG hm h h1 h2
    rw [goDown_succ, left_some fun hlt i hi hri => hall i (hG.low i hi (by omega)) (by omega)]
    exact goDown_complete W hp hG hm r _ (by omega) a (fun x hx => c x hx) fun g hg hr => hall g hg hr
theorem peel_complete {p : Pl} {pat : Pat} {e : Nat} {G : List Nat} (W : p.WF) (hp : InCells p pat) (hG : InE p e G) (hm : Fits pat (over p p.base G)) : ∃ F, peel p pat e = some F := by
  obtain ⟨S, h1, h2, h3⟩ := goDown_complete W hp hG hm e [] (Nat.le_refl _) (.nil p pat e) (by simp) (fun g hg hr => by have := hG.le g hg; omega)
  have hb : (spoiltBy (needed p pat S) (baseD p)).isEmpty = true := by
    refine (baseOk_iff hp).mpr fun q hq hu => ?_
    have := (fits_iff W hp hG.fall.lt).mp hm q hq
    rwa [valR_unw (unw_of hu fun i hi => h3 i (List.mem_reverse.mp hi))] at this
  unfold peel
  rw [h1]
  simp only [hb, if_true]
  exact ⟨_, rfl⟩
/-- the epoch of a fall -/
theorem fall_epoch {p : Pl} {G : List Nat} (W : p.WF) (h : Fall p G) : ∃ e, e < p.epochs ∧ InE p e G := by
  rcases List.eq_nil_or_concat G with e | ⟨F, x, e⟩
  · subst e
    exact ⟨0, W.pos, h, by simp, fun i _ h => by omega⟩
  · rw [List.concat_eq_append] at e
    subst e
    obtain ⟨h1, h2, h3⟩ := h.last
    refine ⟨p.rank x, W.top x h2, h, fun i hi => ?_, fun i hi hr => List.mem_append_left _ (h3 i hi hr)⟩
    rcases List.mem_append.mp hi with z | z
    · exact (List.pairwise_append.mp h.mono).2.2 i z x (by simp)
    · have : i = x := by simpa using z
      rw [this]; exact Nat.le_refl _
theorem sought_some {p : Pl} {pat : Pat} {F : List Nat} (W : p.WF) (hp : InCells p pat) (h : sought p pat = some F) : Fall p F ∧ Fits pat (over p p.base F) := by
  unfold sought at h
  obtain ⟨e, _, he⟩ := List.exists_of_findSome?_eq_some h
  exact peel_sound W hp he
theorem sought_none {p : Pl} {pat : Pat} (W : p.WF) (hp : InCells p pat) : sought p pat = none ↔ ∀ c, Found p c → ¬ Fits pat c := by
  constructor
  · rintro h c ⟨G, hG, rfl⟩ hm
    obtain ⟨e, he, hE⟩ := fall_epoch W hG
    obtain ⟨F, hF⟩ := peel_complete W hp hE hm
    unfold sought at h
    have := List.findSome?_eq_none_iff.mp h e (List.mem_range.mpr he)
    rw [hF] at this; cases this
  · intro h
    cases hs : sought p pat with
    | none => rfl
    | some F =>
      obtain ⟨h1, h2⟩ := sought_some W hp hs
      exact absurd h2 (h _ ⟨F, h1, rfl⟩)
theorem sought_iff {p : Pl} {pat : Pat} (W : p.WF) (hp : InCells p pat) : (sought p pat).isSome = true ↔ ∃ c, Found p c ∧ Fits pat c := by
  cases h : sought p pat with
  | none =>
    have := (sought_none W hp).mp h
    simp
    exact fun c hc => this c hc
  | some F =>
    obtain ⟨h1, h2⟩ := sought_some W hp h
    simp
    exact ⟨_, ⟨F, h1, rfl⟩, h2⟩
end Af
set_option Elab.async false
set_option linter.all false
set_option maxRecDepth 100000
set_option maxHeartbeats 2000000
/-! ### data, and what stands for it -/
namespace Af
open PySem L2

inductive D where
  | non
  | bl (b : Bool)
  | int (i : Int)
  | ptr (a : Addr)
  | tup (xs : List D)
  | lst (xs : List D)
  | dic (kvs : List (Int × D))
  | ins (C : Addr) (fs : List (Str × D))

mutual
def Rep (S : Hp) : D → V → Prop
  | .non, v => v = .non
  | .bl b, v => v = .bl b
  | .int i, v => v = .int i
  | .ptr a, v => v = .ref a
  | .tup xs, v => ∃ a vs, v = .ref a ∧ S a = some (.tup vs) ∧ Reps S xs vs
  | .lst xs, v => ∃ a vs, v = .ref a ∧ S a = some (.lst vs) ∧ Reps S xs vs
  | .dic kvs, v => ∃ a ws, v = .ref a ∧ S a = some (.dK ws) ∧ RepK S kvs ws
  | .ins C fs, v => ∃ a dx ws, v = .ref a ∧ S a = some (.ins C dx ws) ∧ RepF S fs ws
def Reps (S : Hp) : List D → List V → Prop
  | [], vs => vs = []
  | x :: xs, vs => ∃ w ws, vs = w :: ws ∧ Rep S x w ∧ Reps S xs ws
def RepK (S : Hp) : List (Int × D) → List (Key × V) → Prop
  | [], vs => vs = []
  | (k, x) :: xs, vs => ∃ w ws, vs = (Sum.inl k, w) :: ws ∧ Rep S x w ∧ RepK S xs ws
def RepF (S : Hp) : List (Str × D) → List (Str × V) → Prop
  | [], vs => vs = []
  | (k, x) :: xs, vs => ∃ w ws, vs = (k, w) :: ws ∧ Rep S x w ∧ RepF S xs ws
end

/-- all that S tells stands in T -/
def Ext (S T : Hp) : Prop := ∀ a o, S a = some o → T a = some o
theorem Ext.refl (S : Hp) : Ext S S := fun _ _ h => h
theorem Ext.trans {S T U : Hp} (a : Ext S T) (b : Ext T U) : Ext S U := fun x o h => b x o (a x o h)
theorem Ext.new {H : Hp} {p : Addr} {o : HO} (h : H p = none) : Ext H (upd H p o) := fun a u e => by
  rw [upd_ne (ne_of_none e h)]
  exact e

mutual
theorem Rep.mono {S T : Hp} (h : Ext S T) : ∀ {x : D} {v : V}, Rep S x v → Rep T x v
  | .non, v, r => by rw [Rep] at r ⊢; exact r
  | .bl b, v, r => by rw [Rep] at r ⊢; exact r
  | .int i, v, r => by rw [Rep] at r ⊢; exact r
  | .ptr a, v, r => by rw [Rep] at r ⊢; exact r
  | .tup xs, v, r => by rw [Rep] at r ⊢; obtain ⟨a, vs, e, q, r⟩ := r; exact ⟨a, vs, e, h _ _ q, Reps.mono h r⟩
  | .lst xs, v, r => by rw [Rep] at r ⊢; obtain ⟨a, vs, e, q, r⟩ := r; exact ⟨a, vs, e, h _ _ q, Reps.mono h r⟩
  | .dic xs, v, r => by rw [Rep] at r ⊢; obtain ⟨a, vs, e, q, r⟩ := r; exact ⟨a, vs, e, h _ _ q, RepK.mono h r⟩
  | .ins C xs, v, r => by rw [Rep] at r ⊢; obtain ⟨a, d, vs, e, q, r⟩ := r; exact ⟨a, d, vs, e, h _ _ q, RepF.mono h r⟩
theorem Reps.mono {S T : Hp} (h : Ext S T) : ∀ {x : List D} {v : List V}, Reps S x v → Reps T x v
  | [], v, r => by rw [Reps] at r ⊢; exact r
  | x :: xs, v, r => by rw [Reps] at r ⊢; obtain ⟨w, ws, e, q, r⟩ := r; exact ⟨w, ws, e, Rep.mono h q, Reps.mono h r⟩
theorem RepK.mono {S T : Hp} (h : Ext S T) : ∀ {x : List (Int × D)} {v : List (Key × V)}, RepK S x v → RepK T x v
  | [], v, r => by rw [RepK] at r ⊢; exact r
  | (k, x) :: xs, v, r => by rw [RepK] at r ⊢; obtain ⟨w, ws, e, q, r⟩ := r; exact ⟨w, ws, e, Rep.mono h q, RepK.mono h r⟩
theorem RepF.mono {S T : Hp} (h : Ext S T) : ∀ {x : List (Str × D)} {v : List (Str × V)}, RepF S x v → RepF T x v
  | [], v, r => by rw [RepF] at r ⊢; exact r
  | (k, x) :: xs, v, r => by rw [RepF] at r ⊢; obtain ⟨w, ws, e, q, r⟩ := r; exact ⟨w, ws, e, Rep.mono h q, RepF.mono h r⟩
end

theorem Reps.nil {S : Hp} : Reps S [] [] := by rw [Reps]
theorem Reps.cons {S : Hp} {x : D} {v : V} {xs : List D} {vs : List V} (a : Rep S x v) (b : Reps S xs vs) : Reps S (x :: xs) (v :: vs) := by rw [Reps]; exact ⟨v, vs, rfl, a, b⟩
theorem Reps.uncons {S : Hp} {x : D} {xs : List D} {vs : List V} (h : Reps S (x :: xs) vs) : ∃ w ws, vs = w :: ws ∧ Rep S x w ∧ Reps S xs ws := by rw [Reps] at h; exact h
theorem Reps.none {S : Hp} {vs : List V} (h : Reps S [] vs) : vs = [] := by rw [Reps] at h; exact h
theorem Reps.len {S : Hp} : ∀ {xs : List D} {vs : List V}, Reps S xs vs → vs.length = xs.length
  | [], vs, h => by rw [h.none]; rfl
  | x :: xs, vs, h => by obtain ⟨w, ws, rfl, _, r⟩ := h.uncons; simp [Reps.len r]
theorem Reps.get {S : Hp} : ∀ {xs : List D} {vs : List V} {i : Nat} {x : D}, Reps S xs vs → xs[i]? = some x → ∃ v, vs[i]? = some v ∧ Rep S x v
  | [], vs, i, x, h, e => by simp at e
  | y :: ys, vs, 0, x, h, e => by obtain ⟨w, ws, rfl, a, r⟩ := h.uncons; simp at e; subst e; exact ⟨w, rfl, a⟩
  | y :: ys, vs, i + 1, x, h, e => by obtain ⟨w, ws, rfl, a, r⟩ := h.uncons; simpa using Reps.get (i := i) r (by simpa using e)
theorem Reps.append {S : Hp} : ∀ {xs ys : List D} {vs ws : List V}, Reps S xs vs → Reps S ys ws → Reps S (xs ++ ys) (vs ++ ws)
  | [], ys, vs, ws, h, k => by rw [h.none]; exact k
  | x :: xs, ys, vs, ws, h, k => by obtain ⟨w, us, rfl, a, r⟩ := h.uncons; exact Reps.cons a (Reps.append r k)
theorem Reps.set {S : Hp} {x : D} {v : V} (r : Rep S x v) : ∀ {xs : List D} {vs : List V} (i : Nat), Reps S xs vs → Reps S (xs.set i x) (vs.set i v)
  | [], vs, i, h => by rw [h.none]; simpa using Reps.nil
  | y :: ys, vs, 0, h => by obtain ⟨w, us, rfl, a, q⟩ := h.uncons; exact Reps.cons r q
  | y :: ys, vs, i + 1, h => by obtain ⟨w, us, rfl, a, q⟩ := h.uncons; exact Reps.cons a (Reps.set r i q)
theorem Reps.take {S : Hp} : ∀ {xs : List D} {vs : List V} (i : Nat), Reps S xs vs → Reps S (xs.take i) (vs.take i)
  | xs, vs, 0, h => by simpa using Reps.nil
  | [], vs, i + 1, h => by rw [h.none]; simpa using Reps.nil
  | y :: ys, vs, i + 1, h => by obtain ⟨w, us, rfl, a, q⟩ := h.uncons; exact Reps.cons a (Reps.take i q)
theorem Reps.drop {S : Hp} : ∀ {xs : List D} {vs : List V} (i : Nat), Reps S xs vs → Reps S (xs.drop i) (vs.drop i)
  | xs, vs, 0, h => by simpa using h
  | [], vs, i + 1, h => by rw [h.none]; simpa using Reps.nil
  | y :: ys, vs, i + 1, h => by obtain ⟨w, us, rfl, a, q⟩ := h.uncons; exact Reps.drop i q
theorem Reps.eraseIdx {S : Hp} : ∀ {xs : List D} {vs : List V} (i : Nat), Reps S xs vs → Reps S (xs.eraseIdx i) (vs.eraseIdx i)
  | [], vs, i, h => by rw [h.none]; simpa using Reps.nil
  | y :: ys, vs, 0, h => by obtain ⟨w, us, rfl, a, q⟩ := h.uncons; exact q
  | y :: ys, vs, i + 1, h => by obtain ⟨w, us, rfl, a, q⟩ := h.uncons; exact Reps.cons a (Reps.eraseIdx i q)
theorem Reps.dropLast {S : Hp} {xs : List D} {vs : List V} (h : Reps S xs vs) : Reps S xs.dropLast vs.dropLast := by
  rw [List.dropLast_eq_take, List.dropLast_eq_take, h.len]; exact h.take _
theorem Reps.reverse {S : Hp} : ∀ {xs : List D} {vs : List V}, Reps S xs vs → Reps S xs.reverse vs.reverse
  | [], vs, h => by rw [h.none]; simpa using Reps.nil
  | y :: ys, vs, h => by
    obtain ⟨w, us, rfl, a, q⟩ := h.uncons
    rw [List.reverse_cons, List.reverse_cons]
    exact (Reps.reverse q).append (.cons a .nil)
theorem Reps.ints {S : Hp} : ∀ {ns : List Int} {vs : List V}, Reps S (ns.map D.int) vs ↔ vs = ns.map V.int
  | [], vs => ⟨fun h => h.none, fun h => by rw [h]; exact .nil⟩
  | n :: ns, vs => by
    constructor
    · intro h
      obtain ⟨w, ws, rfl, a, r⟩ := Reps.uncons (x := .int n) (xs := ns.map D.int) h
      rw [Rep] at a
      rw [a, Reps.ints.mp r]; rfl
    · intro h; rw [h]; exact .cons (by rw [Rep]) (Reps.ints.mpr rfl)
theorem Reps.bls {S : Hp} : ∀ {ns : List Bool} {vs : List V}, Reps S (ns.map D.bl) vs ↔ vs = ns.map V.bl
  | [], vs => ⟨fun h => h.none, fun h => by rw [h]; exact .nil⟩
  | n :: ns, vs => by
    constructor
    · intro h
      obtain ⟨w, ws, rfl, a, r⟩ := Reps.uncons (x := .bl n) (xs := ns.map D.bl) h
      rw [Rep] at a
      rw [a, Reps.bls.mp r]; rfl
    · intro h; rw [h]; exact .cons (by rw [Rep]) (Reps.bls.mpr rfl)

theorem RepK.len {S : Hp} : ∀ {xs : List (Int × D)} {vs : List (Key × V)}, RepK S xs vs → vs.length = xs.length
  | [], vs, h => by rw [RepK] at h; rw [h]; rfl
  | (k, x) :: xs, vs, h => by rw [RepK] at h; obtain ⟨w, ws, rfl, _, r⟩ := h; simp [RepK.len r]
theorem RepK.nil {S : Hp} : RepK S [] [] := by rw [RepK]
theorem RepK.cons {S : Hp} {k : Int} {x : D} {v : V} {xs : List (Int × D)} {vs : List (Key × V)} (a : Rep S x v) (b : RepK S xs vs) : RepK S ((k, x) :: xs) ((Sum.inl k, v) :: vs) := by rw [RepK]; exact ⟨v, vs, rfl, a, b⟩
theorem RepK.append {S : Hp} : ∀ {xs ys : List (Int × D)} {vs ws : List (Key × V)}, RepK S xs vs → RepK S ys ws → RepK S (xs ++ ys) (vs ++ ws)
  | [], ys, vs, ws, h, k => by rw [RepK] at h; rw [h]; exact k
  | (j, x) :: xs, ys, vs, ws, h, k => by rw [RepK] at h; obtain ⟨w, us, rfl, a, r⟩ := h; exact RepK.cons a (RepK.append r k)
theorem inl_dec {a b : Int} : decide ((Sum.inl a : Key) = Sum.inl b) = decide (a = b) := by
  by_cases e : a = b
  · subst e; simp
  · have h : ¬ (Sum.inl a : Key) = Sum.inl b := fun q => e (Sum.inl.inj q)
    rw [decide_eq_false h, decide_eq_false e]
theorem RepK.get {S : Hp} {k : Int} : ∀ {xs : List (Int × D)} {vs : List (Key × V)}, RepK S xs vs → match kget xs k with
    | some x => ∃ v, valV vs (Sum.inl k : Key) = some v ∧ Rep S x v
    | none => valV vs (Sum.inl k : Key) = none
  | [], vs, h => by rw [RepK] at h; rw [h]; rfl
  | (j, x) :: xs, vs, h => by
    rw [RepK] at h; obtain ⟨w, us, rfl, a, r⟩ := h
    by_cases e : j = k
    · subst e
      have e1 : kget ((j, x) :: xs) j = some x := by simp [kget]
      rw [e1]
      exact ⟨w, by simp [valV], a⟩
    · have e1 : kget ((j, x) :: xs) k = kget xs k := by simp [kget, e]
      have e2 : valV ((Sum.inl j, w) :: us) (Sum.inl k : Key) = valV us (Sum.inl k : Key) := by
        have : ¬ (Sum.inl j : Key) = Sum.inl k := fun q => e (Sum.inl.inj q)
        simp [valV, this]
      rw [e1, e2]
      exact RepK.get r
theorem RepK.any {S : Hp} {k : Int} : ∀ {xs : List (Int × D)} {vs : List (Key × V)}, RepK S xs vs → (vs.any fun kv => decide (kv.1 = (Sum.inl k : Key))) = (xs.any fun kv => decide (kv.1 = k))
  | [], vs, h => by rw [RepK] at h; rw [h]; rfl
  | (j, x) :: xs, vs, h => by
    rw [RepK] at h; obtain ⟨w, us, rfl, a, r⟩ := h
    rw [List.any_cons, List.any_cons, RepK.any r, inl_dec]
theorem RepK.mapput {S : Hp} {k : Int} {x : D} {v : V} (q : Rep S x v) : ∀ {xs : List (Int × D)} {vs : List (Key × V)}, RepK S xs vs →
    RepK S (xs.map fun kv => if kv.1 = k then (kv.1, x) else kv) (vs.map fun kv => if kv.1 = (Sum.inl k : Key) then (kv.1, v) else kv)
  | [], vs, h => by rw [RepK] at h; rw [h]; exact RepK.nil
  | (j, y) :: xs, vs, h => by
    rw [RepK] at h; obtain ⟨w, us, rfl, a, r⟩ := h
    rw [List.map_cons, List.map_cons]
    by_cases e : j = k
    · subst e
      rw [if_pos rfl, if_pos rfl]
      exact .cons q (RepK.mapput q r)
    · have : ¬ (Sum.inl j : Key) = Sum.inl k := fun q => e (Sum.inl.inj q)
      rw [if_neg e, if_neg this]
      exact .cons a (RepK.mapput q r)
theorem RepK.put {S : Hp} {k : Int} {x : D} {v : V} {xs : List (Int × D)} {vs : List (Key × V)} (q : Rep S x v) (h : RepK S xs vs) : RepK S (kput xs k x) (putK vs (Sum.inl k : Key) v) := by
  unfold kput putK
  rw [h.any]
  split
  · exact RepK.mapput q h
  · exact h.append (.cons q .nil)
theorem RepK.drop {S : Hp} {k : Int} : ∀ {xs : List (Int × D)} {vs : List (Key × V)}, RepK S xs vs → RepK S (kdrop xs k) (dropK vs (Sum.inl k : Key))
  | [], vs, h => by rw [RepK] at h; rw [h]; exact RepK.nil
  | (j, y) :: xs, vs, h => by
    rw [RepK] at h; obtain ⟨w, us, rfl, a, r⟩ := h
    have ih := RepK.drop (k := k) r
    unfold kdrop dropK at ih ⊢
    by_cases e : j = k
    · subst e
      rw [List.filter_cons_of_neg (by simp), List.filter_cons_of_neg (by simp)]
      exact ih
    · have : ¬ (Sum.inl j : Key) = Sum.inl k := fun q => e (Sum.inl.inj q)
      rw [List.filter_cons_of_pos (by simpa using e), List.filter_cons_of_pos (by simpa using this)]
      exact .cons a ih
theorem RepF.nil {S : Hp} : RepF S [] [] := by rw [RepF]
theorem RepF.cons {S : Hp} {k : Str} {x : D} {v : V} {xs : List (Str × D)} {vs : List (Str × V)} (a : Rep S x v) (b : RepF S xs vs) : RepF S ((k, x) :: xs) ((k, v) :: vs) := by rw [RepF]; exact ⟨v, vs, rfl, a, b⟩
theorem RepF.len {S : Hp} : ∀ {xs : List (Str × D)} {vs : List (Str × V)}, RepF S xs vs → vs.length = xs.length
  | [], vs, h => by rw [RepF] at h; rw [h]; rfl
  | (k, x) :: xs, vs, h => by rw [RepF] at h; obtain ⟨w, ws, rfl, _, r⟩ := h; simp [RepF.len r]
theorem RepF.get {S : Hp} {k : Str} {x : D} : ∀ {xs : List (Str × D)} {vs : List (Str × V)}, RepF S xs vs → xs.lookup k = some x → ∃ v, vs.lookup k = some v ∧ Rep S x v
  | [], vs, h, e => by simp at e
  | (j, y) :: xs, vs, h, e => by
    rw [RepF] at h; obtain ⟨w, us, rfl, a, r⟩ := h
    rw [List.lookup_cons] at e ⊢
    by_cases q : (k == j) = true
    · rw [q] at e ⊢; simp at e; subst e; exact ⟨w, rfl, a⟩
    · have q' : (k == j) = false := by simpa using q
      rw [q'] at e ⊢; exact RepF.get r e
theorem RepF.no {S : Hp} {k : Str} : ∀ {xs : List (Str × D)} {vs : List (Str × V)}, RepF S xs vs → xs.lookup k = none → vs.lookup k = none
  | [], vs, h, e => by rw [RepF] at h; rw [h]; rfl
  | (j, y) :: xs, vs, h, e => by
    rw [RepF] at h; obtain ⟨w, us, rfl, a, r⟩ := h
    rw [List.lookup_cons] at e ⊢
    by_cases q : (k == j) = true
    · rw [q] at e; simp at e
    · have q' : (k == j) = false := by simpa using q
      rw [q'] at e ⊢; exact RepF.no r e
/-- a field stored -/
def fput (f : Str) (x : D) : List (Str × D) → List (Str × D)
  | [] => [(f, x)]
  | (j, y) :: r => if j = f then (f, x) :: r else (j, y) :: fput f x r
end Af
set_option Elab.async false
set_option linter.all false
set_option maxRecDepth 100000
set_option maxHeartbeats 2000000
/-! ### states: what stands for ever (S), the heap (H), the cells that one may write -/
namespace Af
open PySem L2

inductive CO where
  | lst (xs : List D)
  | dic (kvs : List (Int × D))
  | ins (C dx : Addr) (fs : List (Str × D))
  | raw (o : HO)
  | gen (φ : Hp → HO → Prop)
abbrev Cs := List (Addr × CO)
def CellRep (S H : Hp) (a : Addr) : CO → Prop
  | .lst xs => ∃ vs, H a = some (.lst vs) ∧ Reps S xs vs
  | .dic kvs => ∃ ws, H a = some (.dK ws) ∧ RepK S kvs ws
  | .ins C dx fs => ∃ ws, H a = some (.ins C dx ws) ∧ RepF S fs ws
  | .raw o => H a = some o
  | .gen φ => ∃ o, H a = some o ∧ ∀ S', Ext S S' → φ S' o
theorem CellRep.ex_ {S H : Hp} {a : Addr} {c : CO} (h : CellRep S H a c) : ∃ o, H a = some o := by
  cases c with
  | lst xs => obtain ⟨_, e, _⟩ := h; exact ⟨_, e⟩
  | dic xs => obtain ⟨_, e, _⟩ := h; exact ⟨_, e⟩
  | ins C dx xs => obtain ⟨_, e, _⟩ := h; exact ⟨_, e⟩
  | raw o => exact ⟨o, h⟩
  | gen φ => obtain ⟨o, e, _⟩ := h; exact ⟨o, e⟩
theorem CellRep.mono {S S' H H' : Hp} {a : Addr} {c : CO} (h : CellRep S H a c) (e : Ext S S') (k : ∀ o, H a = some o → H' a = some o) : CellRep S' H' a c := by
  cases c with
  | lst xs => obtain ⟨w, q, r⟩ := h; exact ⟨w, k _ q, r.mono e⟩
  | dic xs => obtain ⟨w, q, r⟩ := h; exact ⟨w, k _ q, r.mono e⟩
  | ins C dx xs => obtain ⟨w, q, r⟩ := h; exact ⟨w, k _ q, r.mono e⟩
  | raw o => exact k _ h
  | gen φ => obtain ⟨o, q, r⟩ := h; exact ⟨o, k _ q, fun S'' e' => r S'' (e.trans e')⟩

/-- S stands in H; while a dict is walked (lk) it stands there locked -/
def Lies (lk : List Addr) (S H : Hp) : Prop := ∀ a o, S a = some o → H a = some o ∨ (a ∈ lk ∧ (∃ kvs, o = .dK kvs) ∧ ∃ ob, H a = some (.frz ob o))
theorem Lies.ne {lk : List Addr} {S H : Hp} (h : Lies lk S H) {p : Addr} (e : H p = none) : S p = none := by
  cases q : S p with
  | none => rfl
  | some o =>
    rcases h p o q with z | ⟨_, _, _, z⟩
    · rw [e] at z; cases z
    · rw [e] at z; cases z
theorem Lies.tup {lk : List Addr} {S H : Hp} (h : Lies lk S H) {a : Addr} {vs : List V} (e : S a = some (.tup vs)) : H a = some (.tup vs) := by
  rcases h a _ e with z | ⟨_, ⟨_, z⟩, _⟩
  · exact z
  · cases z
theorem Lies.lst {lk : List Addr} {S H : Hp} (h : Lies lk S H) {a : Addr} {vs : List V} (e : S a = some (.lst vs)) : H a = some (.lst vs) := by
  rcases h a _ e with z | ⟨_, ⟨_, z⟩, _⟩
  · exact z
  · cases z
theorem Lies.ins {lk : List Addr} {S H : Hp} (h : Lies lk S H) {a C dx : Addr} {vs : List (Str × V)} (e : S a = some (.ins C dx vs)) : H a = some (.ins C dx vs) := by
  rcases h a _ e with z | ⟨_, ⟨_, z⟩, _⟩
  · exact z
  · cases z
theorem Lies.dK {lk : List Addr} {S H : Hp} (h : Lies lk S H) {a : Addr} {kvs : List (Key × V)} (e : S a = some (.dK kvs)) : Rd H a (.dK kvs) := by
  rcases h a _ e with z | ⟨_, _, ob, z⟩
  · exact .inl z
  · exact .inr ⟨ob, z⟩
theorem Lies.open {S H : Hp} (h : Lies [] S H) : Ext S H := fun a o e => by
  rcases h a o e with z | ⟨z, _⟩
  · exact z
  · cases z
theorem Lies.of {lk : List Addr} {S H : Hp} (h : Ext S H) : Lies lk S H := fun a o e => .inl (h a o e)

structure Own (lk : List Addr) (S H : Hp) (cs : Cs) : Prop where
  lies : Lies lk S H
  nd : (cs.map (·.1)).Nodup
  cell : ∀ p ∈ cs, S p.1 = none ∧ CellRep S H p.1 p.2
/-- from one state to another: what is not a cell stands -/
structure Stp (cs : Cs) (S H S' H' : Hp) (cs' : Cs) : Prop where
  ext : Ext S S'
  keep : ∀ a o, H a = some o → a ∉ cs.map (·.1) → H' a = some o
  out : ∀ a, H a ≠ none → a ∉ cs.map (·.1) → S' a = S a
  dom : ∀ a, H a ≠ none → H' a ≠ none
  new : ∀ a ∈ cs'.map (·.1), a ∈ cs.map (·.1) ∨ H a = none
section
variable {lk : List Addr} {cs cs1 cs2 fr : Cs} {S H S1 H1 S2 H2 : Hp}
theorem Stp.refl : Stp cs S H S H cs := ⟨.refl S, fun _ _ e _ => e, fun _ _ _ => rfl, fun _ e => e, fun _ h => .inl h⟩
theorem Stp.trans (a : Stp cs S H S1 H1 cs1) (b : Stp cs1 S1 H1 S2 H2 cs2) : Stp cs S H S2 H2 cs2 where
  ext := a.ext.trans b.ext
  keep := fun x o e n => b.keep x o (a.keep x o e n) fun z => (a.new x z).elim n fun q => by rw [e] at q; cases q
  out := fun x e n => (b.out x (a.dom x e) fun z => (a.new x z).elim n fun q => e q).trans (a.out x e n)
  dom := fun x e => b.dom x (a.dom x e)
  new := fun x h => by
    rcases b.new x h with z | z
    · exact a.new x z
    · refine .inr ?_
      cases q : H x with
      | none => rfl
      | some o => exact absurd z (a.dom x (by rw [q]; simp))
theorem Own.ne (O : Own lk S H cs) {p : Addr} (e : H p = none) : p ∉ cs.map (·.1) := fun h => by
  obtain ⟨q, hq, rfl⟩ := List.mem_map.mp h
  have r := (O.cell q hq).2
  obtain ⟨o, z⟩ := CellRep.ex_ r
  rw [e] at z; cases z
/-- a new object that never changes -/
theorem Own.alloc (O : Own lk S H cs) {p : Addr} {o : HO} (e : H p = none) : Own lk (upd S p o) (upd H p o) cs := by
  have es := O.lies.ne e
  refine ⟨fun a u h => ?_, O.nd, fun q hq => ?_⟩
  · by_cases ha : a = p
    · subst ha; rw [upd_same] at h ⊢; exact .inl h
    · rw [upd_ne ha] at h ⊢; exact O.lies a u h
  · have hne : q.1 ≠ p := fun z => O.ne e (z ▸ List.mem_map_of_mem hq)
    have c1 := (O.cell q hq).1
    have c2 := (O.cell q hq).2
    exact ⟨by rw [upd_ne hne]; exact c1, c2.mono (Ext.new es) fun o h => by rw [upd_ne hne]; exact h⟩
theorem Stp.alloc {p : Addr} {o : HO} (es : S p = none) (e : H p = none) : Stp cs S H (upd S p o) (upd H p o) cs := by
  refine ⟨Ext.new es, fun a u h _ => Ext.new e a u h, fun a h _ => ?_, fun a h => ?_, fun _ h => .inl h⟩
  · have : a ≠ p := fun z => h (z ▸ e)
    rw [upd_ne this]
  · have : a ≠ p := fun z => h (z ▸ e)
    rw [upd_ne this]; exact h
/-- a new cell -/
theorem Own.allocC (O : Own lk S H cs) {p : Addr} {o : HO} {c : CO} (e : H p = none) (r : CellRep S (upd H p o) p c) : Own lk S (upd H p o) (cs ++ [(p, c)]) := by
  have es := O.lies.ne e
  refine ⟨fun a u h => ?_, ?_, fun q hq => ?_⟩
  · have ha : a ≠ p := fun z => by rw [z, es] at h; cases h
    rw [upd_ne ha]; exact O.lies a u h
  · rw [List.map_append, List.nodup_append]
    refine ⟨O.nd, by simp, fun a ha b hb z => ?_⟩
    have hb' : b = p := by simpa using hb
    exact O.ne e (hb' ▸ z ▸ ha)
  · rcases List.mem_append.mp hq with hq | hq
    · have hne : q.1 ≠ p := fun z => O.ne e (z ▸ List.mem_map_of_mem hq)
      have c1 := (O.cell q hq).1
      have c2 := (O.cell q hq).2
      exact ⟨c1, c2.mono (.refl S) fun o h => by rw [upd_ne hne]; exact h⟩
    · have : q = (p, c) := by simpa using hq
      subst this
      exact ⟨es, r⟩
theorem Stp.allocC {p : Addr} {o : HO} {c : CO} (e : H p = none) : Stp cs S H S (upd H p o) (cs ++ [(p, c)]) := by
  refine ⟨.refl S, fun a u h _ => Ext.new e a u h, fun a h _ => rfl, fun a h => ?_, fun a h => ?_⟩
  · have : a ≠ p := fun z => h (z ▸ e)
    rw [upd_ne this]; exact h
  · rw [List.map_append] at h
    rcases List.mem_append.mp h with h | h
    · exact .inl h
    · have : a = p := by simpa using h
      exact .inr (this ▸ e)
theorem map_set_fst {i : Nat} {a : Addr} {c c' : CO} : ∀ {cs : Cs} {i : Nat}, cs[i]? = some (a, c) → (cs.set i (a, c')).map (·.1) = cs.map (·.1)
  | [], i, e => by simp at e
  | p :: r, 0, e => by simp at e; subst e; rfl
  | p :: r, i + 1, e => by
    have e' : r[i]? = some (a, c) := by simpa using e
    rw [List.set_cons_succ, List.map_cons, List.map_cons, map_set_fst (i := i) e']
theorem mem_set_ne {i : Nat} {a : Addr} {c c' : CO} : ∀ {cs : Cs} {i : Nat}, cs[i]? = some (a, c) → (cs.map (·.1)).Nodup → ∀ p ∈ cs.set i (a, c'), p = (a, c') ∨ (p ∈ cs ∧ p.1 ≠ a)
  | [], i, e, nd, p, h => by simp at e
  | q :: r, 0, e, nd, p, h => by
    simp at e; subst e
    rw [List.map_cons, List.nodup_cons] at nd
    rw [List.set_cons_zero] at h
    rcases List.mem_cons.mp h with h | h
    · exact .inl h
    · exact .inr ⟨List.mem_cons_of_mem _ h, fun z => nd.1 (z ▸ List.mem_map_of_mem (f := (·.1)) h)⟩
  | q :: r, i + 1, e, nd, p, h => by
    have e' : r[i]? = some (a, c) := by simpa using e
    rw [List.map_cons, List.nodup_cons] at nd
    rw [List.set_cons_succ] at h
    rcases List.mem_cons.mp h with h | h
    · subst h
      exact .inr ⟨List.mem_cons_self, fun z => nd.1 (z ▸ List.mem_map_of_mem (f := (·.1)) (List.mem_of_getElem? e'))⟩
    · rcases mem_set_ne (i := i) e' nd.2 p h with z | ⟨z1, z2⟩
      · exact .inl z
      · exact .inr ⟨List.mem_cons_of_mem _ z1, z2⟩
/-- a cell is written -/
theorem Own.write (O : Own lk S H cs) {i : Nat} {a : Addr} {c c' : CO} {o : HO} (hi : cs[i]? = some (a, c)) (r : CellRep S (upd H a o) a c') : Own lk S (upd H a o) (cs.set i (a, c')) := by
  have ha := O.cell _ (List.mem_of_getElem? hi)
  refine ⟨fun b u h => ?_, by rw [map_set_fst (i := i) hi]; exact O.nd, fun q hq => ?_⟩
  · have hb : b ≠ a := fun z => by rw [z, ha.1] at h; cases h
    rw [upd_ne hb]; exact O.lies b u h
  · rcases mem_set_ne (i := i) hi O.nd q hq with z | ⟨z1, z2⟩
    · subst z; exact ⟨ha.1, r⟩
    · have c1 := (O.cell q z1).1
      have c2 := (O.cell q z1).2
      exact ⟨c1, c2.mono (.refl S) fun o h => by rw [upd_ne z2]; exact h⟩
theorem Stp.write {i : Nat} {a : Addr} {c c' : CO} {o : HO} (hi : cs[i]? = some (a, c)) : Stp cs S H S (upd H a o) (cs.set i (a, c')) := by
  have ha : a ∈ cs.map (·.1) := List.mem_map_of_mem (f := (·.1)) (List.mem_of_getElem? hi)
  refine ⟨.refl S, fun b u h n => ?_, fun _ _ _ => rfl, fun b h => ?_, fun b h => ?_⟩
  · have hb : b ≠ a := fun z => n (by rw [z]; exact ha)
    rw [upd_ne hb]; exact h
  · by_cases z : b = a
    · subst z; rw [upd_same]; simp
    · rw [upd_ne z]; exact h
  · rw [map_set_fst (i := i) hi] at h; exact .inl h
theorem mem_erase {α : Type} {i : Nat} {l : List α} {x : α} (h : x ∈ l.eraseIdx i) : x ∈ l := List.mem_of_mem_eraseIdx h
theorem erase_ne {i : Nat} {a : Addr} {c : CO} : ∀ {cs : Cs} {i : Nat}, cs[i]? = some (a, c) → (cs.map (·.1)).Nodup → ∀ p ∈ cs.eraseIdx i, p.1 ≠ a
  | [], i, e, nd, p, h => by simp at e
  | q :: r, 0, e, nd, p, h => by
    simp at e; subst e
    rw [List.map_cons, List.nodup_cons] at nd
    exact fun z => nd.1 (z ▸ List.mem_map_of_mem (f := (·.1)) (show p ∈ r from h))
  | q :: r, i + 1, e, nd, p, h => by
    have e' : r[i]? = some (a, c) := by simpa using e
    rw [List.map_cons, List.nodup_cons] at nd
    rw [List.eraseIdx_cons_succ] at h
    rcases List.mem_cons.mp h with h | h
    · subst h
      exact fun z => nd.1 (z ▸ List.mem_map_of_mem (f := (·.1)) (List.mem_of_getElem? e'))
    · exact erase_ne (i := i) e' nd.2 p h
/-- a cell is never written again -/
theorem Own.freeze (O : Own lk S H cs) {i : Nat} {a : Addr} {c : CO} {o : HO} (hi : cs[i]? = some (a, c)) (h : H a = some o) : Own lk (upd S a o) H (cs.eraseIdx i) := by
  have ha := O.cell _ (List.mem_of_getElem? hi)
  refine ⟨fun b u e => ?_, ?_, fun q hq => ?_⟩
  · by_cases hb : b = a
    · subst hb; rw [upd_same] at e; exact .inl (h.trans e)
    · rw [upd_ne hb] at e; exact O.lies b u e
  · exact O.nd.sublist ((List.eraseIdx_sublist cs i).map _)
  · have c1 := (O.cell q (mem_erase hq)).1
    have c2 := (O.cell q (mem_erase hq)).2
    have ne := erase_ne (i := i) hi O.nd q hq
    exact ⟨by rw [upd_ne ne]; exact c1, c2.mono (Ext.new ha.1) fun _ z => z⟩
theorem Stp.freeze (O : Own lk S H cs) {i : Nat} {a : Addr} {c : CO} {o : HO} (hi : cs[i]? = some (a, c)) : Stp cs S H (upd S a o) H (cs.eraseIdx i) := by
  have ha := O.cell _ (List.mem_of_getElem? hi)
  have hm : a ∈ cs.map (·.1) := List.mem_map_of_mem (f := (·.1)) (List.mem_of_getElem? hi)
  refine ⟨Ext.new ha.1, fun b u h n => h, fun b h n => upd_ne (fun z => n (by rw [z]; exact hm)), fun b h => h, fun b h => .inl ?_⟩
  obtain ⟨q, hq, rfl⟩ := List.mem_map.mp h
  exact List.mem_map_of_mem (f := (·.1)) (mem_erase hq)
/-- cells that one gives away, and what is left -/
theorem Own.left (O : Own lk S H (cs ++ fr)) : Own lk S H cs := by
  refine ⟨O.lies, ?_, fun q hq => O.cell q (List.mem_append_left _ hq)⟩
  have := O.nd
  rw [List.map_append] at this
  exact (List.nodup_append.mp this).1
theorem Own.frame (O : Own lk S H (cs ++ fr)) (O1 : Own lk S1 H1 cs1) (st : Stp cs S H S1 H1 cs1) : Own lk S1 H1 (cs1 ++ fr) := by
  have nd := O.nd
  rw [List.map_append] at nd
  obtain ⟨n1, n2, n3⟩ := List.nodup_append.mp nd
  have hfr : ∀ q ∈ fr, q.1 ∉ cs.map (·.1) := fun q hq z => n3 _ z _ (List.mem_map_of_mem (f := (·.1)) hq) rfl
  have hs : ∀ q ∈ fr, ∃ o, H q.1 = some o := fun q hq => (O.cell q (List.mem_append_right _ hq)).2.ex_
  refine ⟨O1.lies, ?_, fun q hq => ?_⟩
  · rw [List.map_append, List.nodup_append]
    refine ⟨O1.nd, n2, fun a ha b hb z => ?_⟩
    subst z
    obtain ⟨q, hq, rfl⟩ := List.mem_map.mp hb
    rcases st.new _ ha with z | z
    · exact hfr q hq z
    · obtain ⟨o, e⟩ := hs q hq
      rw [z] at e; cases e
  · rcases List.mem_append.mp hq with hq | hq
    · exact O1.cell q hq
    · have c1 := (O.cell q (List.mem_append_right _ hq)).1
      have c2 := (O.cell q (List.mem_append_right _ hq)).2
      obtain ⟨o, e⟩ := hs q hq
      exact ⟨(st.out q.1 (by rw [e]; simp) (hfr q hq)).trans c1, c2.mono st.ext fun o h => st.keep _ _ h (hfr q hq)⟩
theorem Stp.frame (O : Own lk S H (cs ++ fr)) (st : Stp cs S H S1 H1 cs1) : Stp (cs ++ fr) S H S1 H1 (cs1 ++ fr) := by
  refine ⟨st.ext, fun a o e n => st.keep a o e fun z => n (by rw [List.map_append]; exact List.mem_append_left _ z), fun a e n => st.out a e fun z => n (by rw [List.map_append]; exact List.mem_append_left _ z), st.dom, fun a h => ?_⟩
  rw [List.map_append] at h ⊢
  rcases List.mem_append.mp h with h | h
  · rcases st.new a h with z | z
    · exact .inl (List.mem_append_left _ z)
    · exact .inr z
  · exact .inl (List.mem_append_right _ h)
end

/-! ### the slots -/
abbrev Ds := List (Option D)
structure Env (S : Hp) (ds : Ds) (σ : L2.St) : Prop where
  len : ds.length = σ.length
  at_ : ∀ (i : Nat) (x : D), ds[i]? = some (some x) → ∃ v, σ[i]? = some (some v) ∧ Rep S x v
theorem Env.mono {S T : Hp} {ds : Ds} {σ : L2.St} (E : Env S ds σ) (h : Ext S T) : Env T ds σ := ⟨E.len, fun i x e => let ⟨v, a, b⟩ := E.at_ i x e; ⟨v, a, b.mono h⟩⟩
theorem Env.set {S : Hp} {ds : Ds} {σ : L2.St} {i : Nat} {x : D} {v : V} (E : Env S ds σ) (r : Rep S x v) : Env S (ds.set i (some x)) (σ.set i (some v)) := by
  refine ⟨by simp [E.len], fun j y e => ?_⟩
  by_cases h : i = j
  · subst h
    by_cases hl : i < ds.length
    · rw [List.getElem?_set_self hl] at e
      cases e
      exact ⟨v, by rw [List.getElem?_set_self (by rw [← E.len]; exact hl)], r⟩
    · rw [List.getElem?_eq_none (by simpa using hl)] at e; cases e
  · rw [List.getElem?_set_ne h] at e ⊢
    exact E.at_ j y e
theorem Env.unset {S : Hp} {ds : Ds} {σ : L2.St} {i : Nat} {o : Option V} (E : Env S ds σ) : Env S (ds.set i none) (σ.set i o) := by
  refine ⟨by simp [E.len], fun j y e => ?_⟩
  by_cases h : i = j
  · subst h
    by_cases hl : i < ds.length
    · rw [List.getElem?_set_self hl] at e
      cases e
    · rw [List.getElem?_eq_none (by simpa using hl)] at e; cases e
  · rw [List.getElem?_set_ne h] at e ⊢
    exact E.at_ j y e
theorem Env.weak {S : Hp} {ds ds' : Ds} {σ : L2.St} (E : Env S ds σ) (hl : ds'.length = ds.length) (h : ∀ (i : Nat) (x : D), ds'[i]? = some (some x) → ds[i]? = some (some x)) : Env S ds' σ :=
  ⟨hl.trans E.len, fun i x e => E.at_ i x (h i x e)⟩
def wipeD (ds : Ds) : List Nat → Ds
  | [] => ds
  | v :: vs => (wipeD ds vs).set v none
theorem Env.wipe {S : Hp} {ds : Ds} {σ : L2.St} (E : Env S ds σ) : ∀ vs : List Nat, Env S (wipeD ds vs) (L2.wipe σ vs)
  | [] => E
  | v :: vs => (Env.wipe E vs).unset
theorem wipe_at {σ : L2.St} {v : V} {i : Nat} : ∀ {vs : List Nat}, i ∈ vs → L2.wipe (σ.set i (some v)) vs = L2.wipe σ vs
  | [], h => by simp at h
  | j :: vs, h => by
    by_cases hm : i ∈ vs
    · unfold L2.wipe; rw [wipe_at hm]
    · have hj : i = j := by
        rcases List.mem_cons.mp h with z | z
        · exact z
        · exact absurd z hm
      subst hj
      unfold L2.wipe
      have aux : ∀ (vs : List Nat), i ∉ vs → L2.wipe (σ.set i (some v)) vs = (L2.wipe σ vs).set i (some v) := by
        intro vs
        induction vs with
        | nil => intro _; rfl
        | cons k ks ih =>
          intro hk
          unfold L2.wipe
          rw [ih (fun z => hk (List.mem_cons_of_mem _ z)), List.set_comm _ _ (fun z => hk (by rw [z]; exact List.mem_cons_self))]
      rw [aux vs hm, List.set_set]
theorem wipe_twice {σ : L2.St} : ∀ {vs ws : List Nat}, (∀ i ∈ vs, i ∈ ws) → L2.wipe (L2.wipe σ vs) ws = L2.wipe σ ws := by
  intro vs
  induction vs with
  | nil => intro ws _; rfl
  | cons k ks ih =>
    intro ws h
    have aux : ∀ {τ : L2.St} {ws : List Nat}, k ∈ ws → L2.wipe (τ.set k none) ws = L2.wipe τ ws := by
      intro τ ws hk
      induction ws with
      | nil => simp at hk
      | cons j js ihj =>
        by_cases hm : k ∈ js
        · unfold L2.wipe; rw [ihj hm]
        · have hj : k = j := by
            rcases List.mem_cons.mp hk with z | z
            · exact z
            · exact absurd z hm
          subst hj
          have aux2 : ∀ (vs : List Nat), k ∉ vs → L2.wipe (τ.set k none) vs = (L2.wipe τ vs).set k none := by
            intro vs
            induction vs with
            | nil => intro _; rfl
            | cons l ls ihl =>
              intro hk
              unfold L2.wipe
              rw [ihl (fun z => hk (List.mem_cons_of_mem _ z)), List.set_comm _ _ (fun z => hk (by rw [z]; exact List.mem_cons_self))]
          unfold L2.wipe
          rw [aux2 js hm, List.set_set]
    show L2.wipe ((L2.wipe σ ks).set k none) ws = _
    rw [aux (h k List.mem_cons_self), ih fun i hi => h i (List.mem_cons_of_mem _ hi)]
end Af
set_option Elab.async false
set_option linter.all false
set_option maxRecDepth 100000
set_option maxHeartbeats 2000000
/-! ### expressions over data -/
namespace Af
open PySem L2

section
variable (X : Cx)
def wE (e : Expr) : TE := fun σ H Q => ∀ pins s, Inv X pins σ H s → wpAny (model X.prog X.w) X.A (eval e X.env) (EP X pins σ Q) X.xe s
def wT (e : Expr) : TT := fun σ H Q => ∀ pins s, Inv X pins σ H s → wpAny (model X.prog X.w) X.A (isTrue e X.env (eval e X.env)) (TP X pins σ Q) X.xe s
def wW (e : Expr) : TT := fun σ H Q => ∀ whole pins s, Inv X pins σ H s → wpAny (model X.prog X.w) X.A (isTrue e X.env whole) (TP X pins σ Q) X.xe s
def wA (es : List Expr) : TA := fun σ H Q => ∀ pos pins s, Inv X pins σ H s → wpAny (model X.prog X.w) X.A (spliced (backTo pos (starEach es X.env))) (AP X pins σ Q) X.xe s
def wOp (f : Value → Value → Sem Value) : R2 := fun x y H Q => ∀ pins s σ v u, Inv X pins σ H s → RelV x v → RelV y u → wpAny (model X.prog X.w) X.A (f v u) (EP X pins σ Q) X.xe s
def wCall (f : Value) : List V → Hp → VK → Prop := fun xs H Q => ∀ pins s σ us, Inv X pins σ H s → Vals xs us → wpAny (model X.prog X.w) X.A (call f us) (EP X pins σ Q) X.xe s
end
section
variable {X : Cx} {e : Expr} {σ : L2.St} {H : Hp}
theorem pe_w : PE X e (wE X e) := ⟨fun pins s σ H Q I h => h pins s I⟩
theorem pt_w : PT X e (wT X e) := ⟨fun pins s σ H Q I h => h pins s I⟩
theorem pw_w : PW X e (wW X e) := ⟨fun wh pins s σ H Q I h => h wh pins s I⟩
theorem pa_w {es : List Expr} : PA X es (wA X es) := ⟨fun pos pins s σ H Q I h => h pos pins s I⟩
theorem op_w {f : Value → Value → Sem Value} : OpR X f (wOp X f) := fun pins s σ H x y v u Q I rx ry h => h pins s σ v u I rx ry
theorem call_w {f : Value} : CallR X f (wCall X f) := fun pins s σ H xs us Q I r h => h pins s σ us I r
theorem run_e {t : TE} (h : PE X e t) {Q : VK} (q : t σ H Q) : wE X e σ H Q := fun pins s I => h.run pins s σ H Q I q
theorem run_t {t : TT} (h : PT X e t) {Q : Bool → Hp → Prop} (q : t σ H Q) : wT X e σ H Q := fun pins s I => h.run pins s σ H Q I q
theorem run_w {t : TT} (h : PW X e t) {Q : Bool → Hp → Prop} (q : t σ H Q) : wW X e σ H Q := fun wh pins s I => h.run wh pins s σ H Q I q
theorem run_a {es : List Expr} {t : TA} (h : PA X es t) {Q : List V → Hp → Prop} (q : t σ H Q) : wA X es σ H Q := fun pos pins s I => h.run pos pins s σ H Q I q
end

/-- what an expression hands on -/
def PostM (lk : List Addr) (cs : Cs) (S H : Hp) (cs' : Cs) (x : D) (Q : VK) : Prop := ∀ v S' H', Own lk S' H' cs' → Stp cs S H S' H' cs' → Rep S' x v → Q v H'
def EvM (lk : List Addr) (X : Cx) (e : Expr) (ds : Ds) (cs : Cs) (x : D) (cs' : Cs) : Prop :=
  ∀ σ S H, Own lk S H cs → Env S ds σ → ∀ Q, PostM lk cs S H cs' x Q → wE X e σ H Q
def EvP (lk : List Addr) (X : Cx) (e : Expr) (ds : Ds) (cs : Cs) (P : D → Cs → Prop) : Prop :=
  ∀ σ S H, Own lk S H cs → Env S ds σ → ∀ Q, (∀ x cs', P x cs' → PostM lk cs S H cs' x Q) → wE X e σ H Q
def PostT (lk : List Addr) (cs : Cs) (S H : Hp) (cs' : Cs) (b : Bool) (Q : Bool → Hp → Prop) : Prop := ∀ S' H', Own lk S' H' cs' → Stp cs S H S' H' cs' → Q b H'
def EvT (lk : List Addr) (X : Cx) (e : Expr) (ds : Ds) (cs : Cs) (b : Bool) (cs' : Cs) : Prop :=
  ∀ σ S H, Own lk S H cs → Env S ds σ → ∀ Q, PostT lk cs S H cs' b Q → wT X e σ H Q
def EvW (lk : List Addr) (X : Cx) (e : Expr) (ds : Ds) (cs : Cs) (b : Bool) (cs' : Cs) : Prop :=
  ∀ σ S H, Own lk S H cs → Env S ds σ → ∀ Q, PostT lk cs S H cs' b Q → wW X e σ H Q
def PostA (lk : List Addr) (cs : Cs) (S H : Hp) (cs' : Cs) (xs : List D) (Q : List V → Hp → Prop) : Prop := ∀ vs S' H', Own lk S' H' cs' → Stp cs S H S' H' cs' → Reps S' xs vs → Q vs H'
def EvA (lk : List Addr) (X : Cx) (es : List Expr) (ds : Ds) (cs : Cs) (xs : List D) (cs' : Cs) : Prop :=
  ∀ σ S H, Own lk S H cs → Env S ds σ → ∀ Q, PostA lk cs S H cs' xs Q → wA X es σ H Q
def OpD (lk : List Addr) (X : Cx) (f : Value → Value → Sem Value) (x y : D) (cs : Cs) (z : D) (cs' : Cs) : Prop :=
  ∀ S H v w, Own lk S H cs → Rep S x v → Rep S y w → ∀ Q, PostM lk cs S H cs' z Q → wOp X f v w H Q
def CallD (lk : List Addr) (X : Cx) (f : Value) (xs : List D) (cs : Cs) (z : D) (cs' : Cs) : Prop :=
  ∀ S H vs, Own lk S H cs → Reps S xs vs → ∀ Q, PostM lk cs S H cs' z Q → wCall X f vs H Q

section
variable {lk : List Addr} {X : Cx} {a b c e : Expr} {es : List Expr} {ds : Ds} {cs cs0 cs1 cs2 cs3 : Cs} {x y z : D} {xs : List D} {pos p2 : Pos} {P : D → Cs → Prop}

theorem PostM.step {S H S1 H1 : Hp} {Q : VK} (st : Stp cs S H S1 H1 cs1) (h : PostM lk cs S H cs2 x Q) : PostM lk cs1 S1 H1 cs2 x Q := fun v S' H' O s r => h v S' H' O (st.trans s) r
theorem PostT.step {S H S1 H1 : Hp} {t : Bool} {Q : Bool → Hp → Prop} (st : Stp cs S H S1 H1 cs1) (h : PostT lk cs S H cs2 t Q) : PostT lk cs1 S1 H1 cs2 t Q := fun S' H' O s => h S' H' O (st.trans s)
theorem PostA.step {S H S1 H1 : Hp} {Q : List V → Hp → Prop} (st : Stp cs S H S1 H1 cs1) (h : PostA lk cs S H cs2 xs Q) : PostA lk cs1 S1 H1 cs2 xs Q := fun v S' H' O s r => h v S' H' O (st.trans s) r
theorem PostM.here {S H : Hp} {v : V} {Q : VK} (O : Own lk S H cs) (h : PostM lk cs S H cs x Q) (r : Rep S x v) : Q v H := h v S H O .refl r
theorem PostM.new {S H : Hp} {o : HO} {p : Addr} {Q : VK} (O : Own lk S H cs) (h : PostM lk cs S H cs x Q) (e : H p = none) (r : Rep (upd S p o) x (.ref p)) : Q (.ref p) (upd H p o) :=
  h _ _ _ (O.alloc e) (.alloc (O.lies.ne e) e) r
theorem EvM.p (h : EvM lk X e ds cs x cs1) (hp : P x cs1) : EvP lk X e ds cs P := fun σ S H O E Q q => h σ S H O E Q (q x cs1 hp)

/-! names, constants -/
theorem ev_v (i : Nat) {n : Str} (h : ds[i]? = some (some x)) (hN : X.N[i]? = some n := by rfl) (hv : Vis X.env.scope n := by first | exact Or.inl rfl | exact Or.inr (Or.inl rfl) | exact Or.inr (Or.inr rfl))
    (hd : (n == ("__debug__" : Str)) = false := by decide) (hcd : (n == ("__classdict__" : Str)) = false := by decide) : EvM lk X (.Name n pos) ds cs x cs := fun σ S H O E Q q => by
  obtain ⟨v, ev, r⟩ := E.at_ i x h
  exact run_e (pe_var hN hv hd hcd) ⟨v, ev, q.here O r⟩
theorem ev_int {i : Int} {j} : EvM lk X (.Constant (.int i) j pos) ds cs (.int i) cs := fun σ S H O E Q q => run_e pe_int (q.here O (by rw [Rep]))
theorem ev_bl {i : Bool} {j} : EvM lk X (.Constant (.bool i) j pos) ds cs (.bl i) cs := fun σ S H O E Q q => run_e pe_bl (q.here O (by rw [Rep]))
theorem ev_non {j} : EvM lk X (.Constant .none j pos) ds cs .non cs := fun σ S H O E Q q => run_e pe_non (q.here O (by rw [Rep]))
theorem ev_glob {n : Str} {i : Int} {t : Tok} (hm : X.mg n = some (.int i t)) (hg : Gl X n := by rfl) (hd : (n == ("__debug__" : Str)) = false := by decide) : EvM lk X (.Name n pos) ds cs (.int i) cs := fun σ S H O E Q q =>
  run_e (pe_glob (v := .int i) hg hm ⟨t, rfl⟩ hd) (q.here O (by rw [Rep]))

/-! operators -/
theorem ev_op {op : Operator} (ha : EvM lk X a ds cs x cs1) (hb : EvM lk X b ds cs1 y cs2) (ho : OpD lk X (binaryOp op) x y cs2 z cs3) : EvM lk X (.BinOp a op b pos) ds cs z cs3 := fun σ S H O E Q q =>
  run_e (pe_op op_w pe_w pe_w) (ha σ S H O E _ fun v S1 H1 O1 s1 r1 => hb σ S1 H1 O1 (E.mono s1.ext) _ fun w S2 H2 O2 s2 r2 =>
    ho S2 H2 v w O2 (r1.mono s2.ext) r2 Q (q.step (s1.trans s2)))
theorem ev_cmp {op : CmpOp} (ha : EvM lk X a ds cs x cs1) (hb : EvM lk X b ds cs1 y cs2) (ho : OpD lk X (compareOp op) x y cs2 z cs3) (hm : behindInMarks op b = false := by first | exact nomark _ | rfl) :
    EvM lk X (.Compare a [op] [b] pos) ds cs z cs3 := fun σ S H O E Q q =>
  run_e (pe_cmpR op_w pe_w pe_w hm) (ha σ S H O E _ fun v S1 H1 O1 s1 r1 => hb σ S1 H1 O1 (E.mono s1.ext) _ fun w S2 H2 O2 s2 r2 =>
    ho S2 H2 v w O2 (r1.mono s2.ext) r2 Q (q.step (s1.trans s2)))
theorem et_cmp {op : CmpOp} {t : Bool} (ha : EvM lk X a ds cs x cs1) (hb : EvM lk X b ds cs1 y cs2) (ho : OpD lk X (compareOp op) x y cs2 (.bl t) cs3) (hm : behindInMarks op b = false := by first | exact nomark _ | rfl) :
    EvT lk X (.Compare a [op] [b] pos) ds cs t cs3 := fun σ S H O E Q q =>
  run_t (pt_cmpR op_w pe_w pe_w hm) (ha σ S H O E _ fun v S1 H1 O1 s1 r1 => hb σ S1 H1 O1 (E.mono s1.ext) _ fun w S2 H2 O2 s2 r2 =>
    ho S2 H2 v w O2 (r1.mono s2.ext) r2 _ fun u S3 H3 O3 s3 r3 => by
      rw [Rep] at r3
      exact ⟨t, r3, q S3 H3 O3 ((s1.trans s2).trans s3)⟩)
/-- an expression that is a bool, as a test -/
theorem et_val {t : Bool} (h : EvM lk X e ds cs (.bl t) cs1) (he : ∀ whole, isTrue e X.env whole = (do let v ← whole; standAt e.pos; holding [v] (truthy v)) := by intro _; rfl) : EvT lk X e ds cs t cs1 := fun σ S H O E Q q =>
  run_t (pt_val pe_w he) (h σ S H O E _ fun v S1 H1 O1 s1 r1 => by
    rw [Rep] at r1
    exact ⟨t, r1, q S1 H1 O1 s1⟩)
theorem et_w {t : Bool} (h : EvW lk X e ds cs t cs1) : EvT lk X e ds cs t cs1 := fun σ S H O E Q q => run_t (PW.pt pw_w) (h σ S H O E Q q)
theorem et_not {t : Bool} (h : EvT lk X a ds cs t cs1) : EvT lk X (.UnaryOp .Not a pos) ds cs (!t) cs1 := fun σ S H O E Q q =>
  run_t (pt_not pt_w) (h σ S H O E _ fun S1 H1 O1 s1 => q S1 H1 O1 s1)
theorem ew_and1 {t : Bool} (h : EvT lk X a ds cs t cs1) : EvW lk X (.BoolOp .And [a] pos) ds cs t cs1 := fun σ S H O E Q q => run_w (pw_and1 pt_w) (h σ S H O E Q q)
theorem ew_or1 {t : Bool} (h : EvT lk X a ds cs t cs1) : EvW lk X (.BoolOp .Or [a] pos) ds cs t cs1 := fun σ S H O E Q q => run_w (pw_or1 pt_w) (h σ S H O E Q q)
theorem ew_andT {t : Bool} {rest : List Expr} (ha : EvT lk X a ds cs true cs1) (hb : EvW lk X (.BoolOp .And (b :: rest) pos) ds cs1 t cs2) : EvW lk X (.BoolOp .And (a :: b :: rest) pos) ds cs t cs2 := fun σ S H O E Q q =>
  run_w (pw_and pt_w pw_w) (ha σ S H O E _ fun S1 H1 O1 s1 => by rw [if_pos rfl]; exact hb σ S1 H1 O1 (E.mono s1.ext) Q (q.step s1))
theorem ew_andF {rest : List Expr} (ha : EvT lk X a ds cs false cs1) : EvW lk X (.BoolOp .And (a :: b :: rest) pos) ds cs false cs1 := fun σ S H O E Q q =>
  run_w (pw_and pt_w pw_w) (ha σ S H O E _ fun S1 H1 O1 s1 => by rw [if_neg Bool.false_ne_true]; exact q S1 H1 O1 s1)
theorem ew_orF {t : Bool} {rest : List Expr} (ha : EvT lk X a ds cs false cs1) (hb : EvW lk X (.BoolOp .Or (b :: rest) pos) ds cs1 t cs2) : EvW lk X (.BoolOp .Or (a :: b :: rest) pos) ds cs t cs2 := fun σ S H O E Q q =>
  run_w (pw_or pt_w pw_w) (ha σ S H O E _ fun S1 H1 O1 s1 => by rw [if_neg Bool.false_ne_true]; exact hb σ S1 H1 O1 (E.mono s1.ext) Q (q.step s1))
theorem ew_orT {rest : List Expr} (ha : EvT lk X a ds cs true cs1) : EvW lk X (.BoolOp .Or (a :: b :: rest) pos) ds cs true cs1 := fun σ S H O E Q q =>
  run_w (pw_or pt_w pw_w) (ha σ S H O E _ fun S1 H1 O1 s1 => by rw [if_pos rfl]; exact q S1 H1 O1 s1)
/-- both, where the cells stay -/
theorem ew_and {t u : Bool} {rest : List Expr} (ha : EvT lk X a ds cs t cs) (hb : t = true → EvW lk X (.BoolOp .And (b :: rest) pos) ds cs u cs) : EvW lk X (.BoolOp .And (a :: b :: rest) pos) ds cs (t && u) cs := by
  cases t with
  | true => exact ew_andT ha (hb rfl)
  | false => exact ew_andF ha
theorem ew_or {t u : Bool} {rest : List Expr} (ha : EvT lk X a ds cs t cs) (hb : t = false → EvW lk X (.BoolOp .Or (b :: rest) pos) ds cs u cs) : EvW lk X (.BoolOp .Or (a :: b :: rest) pos) ds cs (t || u) cs := by
  cases t with
  | false => exact ew_orF ha (hb rfl)
  | true => exact ew_orT ha
/-- as values -/
theorem ev_one {op} (h : EvM lk X a ds cs x cs1) : EvM lk X (.BoolOp op [a] pos) ds cs x cs1 := fun σ S H O E Q q => run_e (pe_one pe_w) (h σ S H O E Q q)
theorem ev_andT {rest : List Expr} (ha : EvM lk X a ds cs (.bl true) cs1) (hb : EvM lk X (.BoolOp .And (b :: rest) pos) ds cs1 y cs2) : EvM lk X (.BoolOp .And (a :: b :: rest) pos) ds cs y cs2 := fun σ S H O E Q q =>
  run_e (pe_and pe_w pe_w) (ha σ S H O E _ fun v S1 H1 O1 s1 r1 => by
    rw [Rep] at r1
    exact ⟨true, r1, by rw [if_pos rfl]; exact hb σ S1 H1 O1 (E.mono s1.ext) Q (q.step s1)⟩)
theorem ev_andF {rest : List Expr} (ha : EvM lk X a ds cs (.bl false) cs1) : EvM lk X (.BoolOp .And (a :: b :: rest) pos) ds cs (.bl false) cs1 := fun σ S H O E Q q =>
  run_e (pe_and pe_w pe_w) (ha σ S H O E _ fun v S1 H1 O1 s1 r1 => by
    rw [Rep] at r1
    exact ⟨false, r1, by rw [if_neg Bool.false_ne_true]; exact q _ S1 H1 O1 s1 (by rw [Rep])⟩)
theorem ev_and {t u : Bool} {rest : List Expr} (ha : EvM lk X a ds cs (.bl t) cs) (hb : t = true → EvM lk X (.BoolOp .And (b :: rest) pos) ds cs (.bl u) cs) : EvM lk X (.BoolOp .And (a :: b :: rest) pos) ds cs (.bl (t && u)) cs := by
  cases t with
  | true => exact ev_andT ha (hb rfl)
  | false => exact ev_andF ha
theorem ev_orF {rest : List Expr} (ha : EvM lk X a ds cs (.bl false) cs1) (hb : EvM lk X (.BoolOp .Or (b :: rest) pos) ds cs1 y cs2) : EvM lk X (.BoolOp .Or (a :: b :: rest) pos) ds cs y cs2 := fun σ S H O E Q q =>
  run_e (pe_or pe_w pe_w) (ha σ S H O E _ fun v S1 H1 O1 s1 r1 => by
    rw [Rep] at r1
    exact ⟨false, r1, by rw [if_neg Bool.false_ne_true]; exact hb σ S1 H1 O1 (E.mono s1.ext) Q (q.step s1)⟩)
theorem ev_not {t : Bool} (h : EvM lk X a ds cs (.bl t) cs1) : EvM lk X (.UnaryOp .Not a pos) ds cs (.bl (!t)) cs1 := fun σ S H O E Q q =>
  run_e (pe_not pe_w) (h σ S H O E _ fun v S1 H1 O1 s1 r1 => by
    rw [Rep] at r1
    exact ⟨t, r1, q _ S1 H1 O1 s1 (by rw [Rep])⟩)
theorem ev_ifT (hc : EvT lk X c ds cs true cs1) (ha : EvM lk X a ds cs1 x cs2) : EvM lk X (.IfExp c a b pos) ds cs x cs2 := fun σ S H O E Q q =>
  run_e (pe_ifExp pt_w pe_w pe_w) (hc σ S H O E _ fun S1 H1 O1 s1 => by rw [if_pos rfl]; exact ha σ S1 H1 O1 (E.mono s1.ext) Q (q.step s1))
theorem ev_ifF (hc : EvT lk X c ds cs false cs1) (ha : EvM lk X b ds cs1 x cs2) : EvM lk X (.IfExp c a b pos) ds cs x cs2 := fun σ S H O E Q q =>
  run_e (pe_ifExp pt_w pe_w pe_w) (hc σ S H O E _ fun S1 H1 O1 s1 => by rw [if_neg Bool.false_ne_true]; exact ha σ S1 H1 O1 (E.mono s1.ext) Q (q.step s1))
theorem ev_if {t : Bool} (hc : EvT lk X c ds cs t cs1) (ha : t = true → EvM lk X a ds cs1 x cs2) (hb : t = false → EvM lk X b ds cs1 x cs2) : EvM lk X (.IfExp c a b pos) ds cs x cs2 := by
  cases t with
  | true => exact ev_ifT hc (ha rfl)
  | false => exact ev_ifF hc (hb rfl)
/-- lo <= e <= hi over ints -/
theorem ev_chain {op op' : CmpOp} {w : D} {t : Bool} (ha : EvM lk X a ds cs x cs1) (hb : EvM lk X b ds cs1 y cs2) (ho : OpD lk X (compareOp op) x y cs2 (.bl t) cs2) (hc : t = true → EvM lk X c ds cs2 z cs2) (ho' : t = true → OpD lk X (compareOp op') y z cs2 w cs2) (hw : t = false → w = .bl false) (hm : lastMarks [op, op'] [b, c] = false := by with_unfolding_all rfl) :
    EvM lk X (.Compare a [op, op'] [b, c] pos) ds cs w cs2 := fun σ S H O E Q q =>
  run_e (pe_chain op_w op_w pe_w pe_w pe_w hm) (ha σ S H O E _ fun v S1 H1 O1 s1 r1 => hb σ S1 H1 O1 (E.mono s1.ext) _ fun u S2 H2 O2 s2 r2 =>
    ho S2 H2 v u O2 (r1.mono s2.ext) r2 _ fun k S3 H3 O3 s3 r3 => by
      rw [Rep] at r3
      refine ⟨t, r3, ?_⟩
      cases t with
      | true =>
        rw [if_pos rfl]
        exact hc rfl σ S3 H3 O3 (E.mono ((s1.trans s2).trans s3).ext) _ fun k' S4 H4 O4 s4 r4 => ho' rfl S4 H4 u k' O4 (r2.mono (s3.trans s4).ext) r4 Q (q.step (((s1.trans s2).trans s3).trans s4))
      | false =>
        rw [if_neg Bool.false_ne_true]
        rw [hw rfl] at q
        exact q _ S3 H3 O3 ((s1.trans s2).trans s3) (by rw [Rep]))

/-! argument lists, displays -/
theorem ea_nil : EvA lk X [] ds cs [] cs := fun σ S H O E Q q => run_a pa_nil (q [] S H O .refl .nil)
theorem ea_cons (ha : EvM lk X a ds cs x cs1) (hr : EvA lk X es ds cs1 xs cs2) (hs : starEach (a :: es) X.env = (false, eval a X.env) :: starEach es X.env := by rfl) : EvA lk X (a :: es) ds cs (x :: xs) cs2 := fun σ S H O E Q q =>
  run_a (pa_cons pe_w pa_w hs) (ha σ S H O E _ fun v S1 H1 O1 s1 r1 => hr σ S1 H1 O1 (E.mono s1.ext) _ fun vs S2 H2 O2 s2 r2 => q _ S2 H2 O2 (s1.trans s2) (.cons (r1.mono s2.ext) r2))
theorem sz {n : Nat} (h : n ≤ 1000000) : n ≤ sizeLine := Nat.le_trans h (by decide)
theorem szl {n : Nat} (h : n < 1000000) : n < sizeLine := Nat.lt_of_lt_of_le h (by decide)
theorem ev_tup {x1} (h : EvA lk X es ds cs xs cs1) (hl : xs.length ≤ 1000000 := by decide) : EvM lk X (.Tuple es x1 pos) ds cs (.tup xs) cs1 := fun σ S H O E Q q =>
  run_e (pe_tup pa_w) (h σ S H O E _ fun vs S1 H1 O1 s1 r1 => ⟨by rw [r1.len]; exact sz hl, fun p hp => (q.step s1).new O1 hp (by rw [Rep]; exact ⟨p, vs, rfl, upd_same, r1.mono (.new (O1.lies.ne hp))⟩)⟩)
theorem ev_lst (h : EvA lk X es ds cs xs cs1) (hl : xs.length ≤ 1000000 := by decide) : EvM lk X (.List es pos) ds cs (.lst xs) cs1 := fun σ S H O E Q q =>
  run_e (pe_lst pa_w) (h σ S H O E _ fun vs S1 H1 O1 s1 r1 => ⟨by rw [r1.len]; exact sz hl, fun p hp => (q.step s1).new O1 hp (by rw [Rep]; exact ⟨p, vs, rfl, upd_same, r1.mono (.new (O1.lies.ne hp))⟩)⟩)
/-- a new list that will change -/
theorem ep_lst (h : EvA lk X es ds cs xs cs1) (hl : xs.length ≤ 1000000 := by decide) : EvP lk X (.List es pos) ds cs (fun y cs' => ∃ a, y = .ptr a ∧ cs' = cs1 ++ [(a, .lst xs)]) := fun σ S H O E Q q =>
  run_e (pe_lst pa_w) (h σ S H O E _ fun vs S1 H1 O1 s1 r1 => ⟨by rw [r1.len]; exact sz hl, fun p hp =>
    (q _ _ ⟨p, rfl, rfl⟩) _ S1 _ (O1.allocC hp ⟨vs, upd_same, r1⟩) (s1.trans (.allocC hp)) (by rw [Rep])⟩)
theorem ep_dict : EvP lk X (.Dict [] [] pos) ds cs (fun y cs' => ∃ a, y = .ptr a ∧ cs' = cs ++ [(a, .dic [])]) := fun σ S H O E Q q =>
  run_e pe_dnewK fun p hp => (q _ _ ⟨p, rfl, rfl⟩) _ S _ (O.allocC hp ⟨[], upd_same, .nil⟩) (.allocC hp) (by rw [Rep])
theorem ev_dict : EvM lk X (.Dict [] [] pos) ds cs (.dic []) cs := fun σ S H O E Q q =>
  run_e pe_dnewK fun p hp => q.new O hp (by rw [Rep]; exact ⟨p, [], rfl, upd_same, .nil⟩)

/-! calls of built-ins -/
theorem callD_of {f : Value} {r : List V → Hp → VK → Prop} (hc : CallR X f r) (h : ∀ S H vs, Own lk S H cs → Reps S xs vs → ∀ Q, PostM lk cs S H cs1 z Q → r vs H Q) : CallD lk X f xs cs z cs1 :=
  fun S H vs O rr Q q pins s σ us I r' => hc pins s σ H vs us Q I r' (h S H vs O rr Q q)
theorem ev_callB {n : Str} {id : String} (ha : EvA lk X (a :: es) ds cs xs cs1) (hc : CallD lk X (.builtin id) xs cs1 z cs2) (hm : X.mg n = none) (hv : bootBuiltins n = some (.builtin id)) (hg : Gl X n := by rfl)
    (hn : n ≠ "__name__" := by decide) (hdb : (n == ("__debug__" : Str)) = false := by decide)
    (he : starEach (a :: es) X.env = (false, eval a X.env) :: starEach es X.env := by rfl) (hpl : (backTo pos (starEach es X.env)).any (·.1) = false := by rfl) : EvM lk X (.Call (.Name n p2) (a :: es) [] pos) ds cs z cs2 := fun σ S H O E Q q =>
  run_e (pe_callB call_w hg hm hv pa_w hn hdb he hpl) (ha σ S H O E _ fun vs S1 H1 O1 s1 r1 => hc S1 H1 vs O1 r1 Q (q.step s1))
theorem ev_callTy {n : Str} {T : String} (ha : EvA lk X (a :: es) ds cs xs cs1) (hc : CallD lk X (.type T) xs cs1 z cs2) (hm : X.mg n = none) (hv : bootBuiltins n = some (.type T)) (hg : Gl X n := by rfl)
    (hn : n ≠ "__name__" := by decide) (hdb : (n == ("__debug__" : Str)) = false := by decide)
    (he : starEach (a :: es) X.env = (false, eval a X.env) :: starEach es X.env := by rfl) (hpl : (backTo pos (starEach es X.env)).any (·.1) = false := by rfl) : EvM lk X (.Call (.Name n p2) (a :: es) [] pos) ds cs z cs2 := fun σ S H O E Q q =>
  run_e (pe_callTy call_w hg hm hv pa_w hn hdb he hpl) (ha σ S H O E _ fun vs S1 H1 O1 s1 r1 => hc S1 H1 vs O1 r1 Q (q.step s1))
end
end Af
set_option Elab.async false
set_option linter.all false
set_option maxRecDepth 100000
set_option maxHeartbeats 2000000
/-! ### operators and built-ins over data -/
namespace Af
open PySem L2

theorem rep_int {S : Hp} {i : Int} {v : V} : Rep S (.int i) v ↔ v = .int i := by rw [Rep]
theorem rep_bl {S : Hp} {i : Bool} {v : V} : Rep S (.bl i) v ↔ v = .bl i := by rw [Rep]
theorem rep_non {S : Hp} {v : V} : Rep S .non v ↔ v = .non := by rw [Rep]
theorem rep_ptr {S : Hp} {a : Addr} {v : V} : Rep S (.ptr a) v ↔ v = .ref a := by rw [Rep]
theorem rep_tup {S : Hp} {xs : List D} {v : V} : Rep S (.tup xs) v ↔ ∃ a vs, v = .ref a ∧ S a = some (.tup vs) ∧ Reps S xs vs := by rw [Rep]
theorem rep_lst {S : Hp} {xs : List D} {v : V} : Rep S (.lst xs) v ↔ ∃ a vs, v = .ref a ∧ S a = some (.lst vs) ∧ Reps S xs vs := by rw [Rep]
theorem rep_dic {S : Hp} {xs : List (Int × D)} {v : V} : Rep S (.dic xs) v ↔ ∃ a vs, v = .ref a ∧ S a = some (.dK vs) ∧ RepK S xs vs := by rw [Rep]
theorem rep_ins {S : Hp} {C : Addr} {xs : List (Str × D)} {v : V} : Rep S (.ins C xs) v ↔ ∃ a dx vs, v = .ref a ∧ S a = some (.ins C dx vs) ∧ RepF S xs vs := by rw [Rep]
theorem sqt {lk : List Addr} {S H : Hp} {K : PySem.W.Frag} {a : Addr} {vs : List V} (L : Lies lk S H) (e : S a = some (.tup vs)) : SqT K H a vs := .inl (.inl (L.tup e))
theorem sql {lk : List Addr} {S H : Hp} {K : PySem.W.Frag} {a : Addr} {vs : List V} (L : Lies lk S H) (e : S a = some (.lst vs)) : SqL K H a vs := .inl (.inl (L.lst e))
theorem Own.at_ {lk : List Addr} {S H : Hp} {cs : Cs} {i : Nat} {a : Addr} {c : CO} (O : Own lk S H cs) (h : cs[i]? = some (a, c)) : CellRep S H a c := (O.cell _ (List.mem_of_getElem? h)).2

section
variable {lk : List Addr} {X : Cx} {a b c e : Expr} {es : List Expr} {ds : Ds} {cs cs0 cs1 cs2 cs3 : Cs} {x y z : D} {xs ys : List D} {pos p2 : Pos}

theorem opD_of {f : Value → Value → Sem Value} {r : R2} (ho : OpR X f r) (h : ∀ S H v w, Own lk S H cs → Rep S x v → Rep S y w → ∀ Q, PostM lk cs S H cs1 z Q → r v w H Q) : OpD lk X f x y cs z cs1 :=
  fun S H v w O r1 r2 Q q pins s σ u u' I ru ru' => ho pins s σ H v w u u' Q I ru ru' (h S H v w O r1 r2 Q q)
section
variable {i j : Int}
theorem od_I0 {f : Value → Value → Sem Value} {g : Int → Int → Int} (h : OpR X f (rI0 fun i j => .int (g i j))) : OpD lk X f (.int i) (.int j) cs (.int (g i j)) cs :=
  opD_of h fun S H v w O r1 r2 Q q => by rw [rep_int.mp r1, rep_int.mp r2]; exact ⟨i, j, rfl, rfl, q.here O (rep_int.mpr rfl)⟩
theorem od_I {f : Value → Value → Sem Value} {C : Int → Int → Prop} {g : Int → Int → Int} (h : OpR X f (rI C fun i j => .int (g i j))) (hc : C i j) : OpD lk X f (.int i) (.int j) cs (.int (g i j)) cs :=
  opD_of h fun S H v w O r1 r2 Q q => by rw [rep_int.mp r1, rep_int.mp r2]; exact ⟨i, j, rfl, rfl, hc, q.here O (rep_int.mpr rfl)⟩
theorem od_B0 {f : Value → Value → Sem Value} {g : Int → Int → Bool} (h : OpR X f (rI0 fun i j => .bl (g i j))) : OpD lk X f (.int i) (.int j) cs (.bl (g i j)) cs :=
  opD_of h fun S H v w O r1 r2 Q q => by rw [rep_int.mp r1, rep_int.mp r2]; exact ⟨i, j, rfl, rfl, q.here O (rep_bl.mpr rfl)⟩
theorem od_add : OpD lk X (binaryOp .Add) (.int i) (.int j) cs (.int (i + j)) cs := od_I0 op_add
theorem od_sub : OpD lk X (binaryOp .Sub) (.int i) (.int j) cs (.int (i - j)) cs := od_I0 op_sub
theorem od_mul (hc : CMul i j) : OpD lk X (binaryOp .Mult) (.int i) (.int j) cs (.int (i * j)) cs := od_I op_mul hc
theorem od_mod (hc : 0 < j) : OpD lk X (binaryOp .Mod) (.int i) (.int j) cs (.int (i % j)) cs := od_I op_mod hc
theorem od_fdiv (hc : 0 < j ∧ j < 1073741824) : OpD lk X (binaryOp .FloorDiv) (.int i) (.int j) cs (.int (i / j)) cs := od_I op_fdiv hc
theorem od_pow (hc : CPow i j) : OpD lk X (binaryOp .Pow) (.int i) (.int j) cs (.int (i ^ j.toNat)) cs := od_I op_pow hc
theorem od_lt : OpD lk X (compareOp .Lt) (.int i) (.int j) cs (.bl (decide (i < j))) cs := od_B0 op_lt
theorem od_le : OpD lk X (compareOp .LtE) (.int i) (.int j) cs (.bl (decide (i ≤ j))) cs := od_B0 op_le
theorem od_gt : OpD lk X (compareOp .Gt) (.int i) (.int j) cs (.bl (decide (j < i))) cs := od_B0 op_gt
theorem od_ge : OpD lk X (compareOp .GtE) (.int i) (.int j) cs (.bl (decide (j ≤ i))) cs := od_B0 op_ge
theorem od_eqI : OpD lk X (compareOp .Eq) (.int i) (.int j) cs (.bl (decide (i = j))) cs :=
  opD_of op_eq fun S H v w O r1 r2 Q q => by
    rw [rep_int.mp r1, rep_int.mp r2]
    refine ⟨rfl, ?_⟩
    have e : decide (V.int i = V.int j) = decide (i = j) := by simp
    rw [e]; exact q.here O (rep_bl.mpr rfl)
theorem od_neI : OpD lk X (compareOp .NotEq) (.int i) (.int j) cs (.bl (!decide (i = j))) cs :=
  opD_of op_ne fun S H v w O r1 r2 Q q => by
    rw [rep_int.mp r1, rep_int.mp r2]
    refine ⟨rfl, ?_⟩
    have e : decide (V.int i = V.int j) = decide (i = j) := by simp
    rw [e]; exact q.here O (rep_bl.mpr rfl)
end
theorem od_eqB {s t : Bool} : OpD lk X (compareOp .Eq) (.bl s) (.bl t) cs (.bl (s == t)) cs :=
  opD_of op_eq fun S H v w O r1 r2 Q q => by
    rw [rep_bl.mp r1, rep_bl.mp r2]
    refine ⟨rfl, ?_⟩
    have e : decide (V.bl s = V.bl t) = (s == t) := by cases s <;> cases t <;> rfl
    rw [e]; exact q.here O (rep_bl.mpr rfl)
def D.isNon : D → Bool
  | .non => true
  | _ => false
theorem Rep.non_iff {S : Hp} {x : D} {v : V} (r : Rep S x v) : decide (v = .non) = x.isNon := by
  cases x with
  | non => rw [rep_non.mp r]; rfl
  | bl _ => rw [rep_bl.mp r]; rfl
  | int _ => rw [rep_int.mp r]; rfl
  | ptr _ => rw [rep_ptr.mp r]; rfl
  | tup _ => obtain ⟨_, _, e, _⟩ := rep_tup.mp r; rw [e]; rfl
  | lst _ => obtain ⟨_, _, e, _⟩ := rep_lst.mp r; rw [e]; rfl
  | dic _ => obtain ⟨_, _, e, _⟩ := rep_dic.mp r; rw [e]; rfl
  | ins _ _ => obtain ⟨_, _, _, e, _⟩ := rep_ins.mp r; rw [e]; rfl
theorem od_is : OpD lk X (compareOp .Is) x .non cs (.bl x.isNon) cs :=
  opD_of op_isN fun S H v w O r1 r2 Q q => ⟨rep_non.mp r2, by rw [r1.non_iff]; exact q.here O (rep_bl.mpr rfl)⟩
theorem od_isnot : OpD lk X (compareOp .IsNot) x .non cs (.bl (!x.isNon)) cs :=
  opD_of op_notN fun S H v w O r1 r2 Q q => ⟨rep_non.mp r2, by rw [r1.non_iff]; exact q.here O (rep_bl.mpr rfl)⟩

/-! equality of nested data -/
mutual
def toPy : D → PyData
  | .bl b => .bool b
  | .int i => .int i
  | .tup xs => .tuple (toPys xs)
  | .lst xs => .list (toPys xs)
  | .non => .none
  | .ptr _ => .none
  | .dic _ => .none
  | .ins _ _ => .none
def toPys : List D → List PyData
  | [] => []
  | x :: xs => toPy x :: toPys xs
end
mutual
/-- ints and None, nested in tuples and lists -/
def plain : D → Bool
  | .non => true
  | .int _ => true
  | .tup xs => plains xs
  | .lst xs => plains xs
  | _ => false
def plains : List D → Bool
  | [] => true
  | x :: xs => plain x && plains xs
end
mutual
theorem plain_dp {S H : Hp} {K : PySem.W.Frag} (L : Lies lk S H) : ∀ {x : D} {v : V}, plain x = true → Rep S x v → Dp K H v (toPy x)
  | .non, v, h, r => by rw [rep_non.mp r, toPy]; exact .non
  | .int i, v, h, r => by rw [rep_int.mp r, toPy]; exact .int i
  | .tup xs, v, h, r => by
    obtain ⟨a, vs, rfl, e, q⟩ := rep_tup.mp r
    rw [plain] at h
    rw [toPy]; exact .tup (sqt L e) (plain_dps L h q)
  | .lst xs, v, h, r => by
    obtain ⟨a, vs, rfl, e, q⟩ := rep_lst.mp r
    rw [plain] at h
    rw [toPy]; exact .lst (sql L e) (plain_dps L h q)
  | .bl _, v, h, r => by simp [plain] at h
  | .ptr _, v, h, r => by simp [plain] at h
  | .dic _, v, h, r => by simp [plain] at h
  | .ins _ _, v, h, r => by simp [plain] at h
theorem plain_dps {S H : Hp} {K : PySem.W.Frag} (L : Lies lk S H) : ∀ {x : List D} {v : List V}, plains x = true → Reps S x v → DpAll K H v (toPys x)
  | [], v, h, r => by rw [r.none, toPys]; exact .nil
  | x :: xs, v, h, r => by
    obtain ⟨w, ws, rfl, r1, r2⟩ := r.uncons
    rw [plains, Bool.and_eq_true] at h
    rw [toPys]; exact .cons (plain_dp L h.1 r1) (plain_dps L h.2 r2)
end
mutual
theorem plain_can : ∀ x : D, plain x = true → (toPy x).canLay0 = true
  | .non, h => by rw [toPy]; rfl
  | .int i, h => by rw [toPy]; simp [PyData.canLay0]
  | .tup xs, h => by rw [plain] at h; rw [toPy, PyData.canLay0]; exact plains_can xs h
  | .lst xs, h => by rw [plain] at h; rw [toPy, PyData.canLay0]; exact plains_can xs h
  | .bl _, h => by simp [plain] at h
  | .ptr _, h => by simp [plain] at h
  | .dic _, h => by simp [plain] at h
  | .ins _ _, h => by simp [plain] at h
theorem plains_can : ∀ x : List D, plains x = true → PyData.canLayAll0 (toPys x) = true
  | [], h => by rw [toPys, PyData.canLayAll0]
  | x :: xs, h => by
    rw [plains, Bool.and_eq_true] at h
    rw [toPys, PyData.canLayAll0, plain_can x h.1, plains_can xs h.2]; rfl
end
mutual
theorem plain_eq : ∀ x y : D, plain x = true → plain y = true → (PyData.eqv (toPy x) (toPy y) = true ↔ x = y)
  | .non, .non, h, k => by simp [toPy, PyData.eqv]
  | .non, .int j, h, k => by simp [toPy, PyData.eqv]
  | .non, .tup ys, h, k => by simp [toPy, PyData.eqv]
  | .non, .lst ys, h, k => by simp [toPy, PyData.eqv]
  | .int i, .non, h, k => by simp [toPy, PyData.eqv]
  | .int i, .int j, h, k => by simp [toPy, PyData.eqv]
  | .int i, .tup ys, h, k => by simp [toPy, PyData.eqv]
  | .int i, .lst ys, h, k => by simp [toPy, PyData.eqv]
  | .tup xs, .non, h, k => by simp [toPy, PyData.eqv]
  | .tup xs, .int j, h, k => by simp [toPy, PyData.eqv]
  | .tup xs, .tup ys, h, k => by
    rw [plain] at h k
    rw [toPy, toPy, PyData.eqv, plains_eq xs ys h k]
    constructor
    · intro e; rw [e]
    · intro e; injection e
  | .tup xs, .lst ys, h, k => by simp [toPy, PyData.eqv]
  | .lst xs, .non, h, k => by simp [toPy, PyData.eqv]
  | .lst xs, .int j, h, k => by simp [toPy, PyData.eqv]
  | .lst xs, .tup ys, h, k => by simp [toPy, PyData.eqv]
  | .lst xs, .lst ys, h, k => by
    rw [plain] at h k
    rw [toPy, toPy, PyData.eqv, plains_eq xs ys h k]
    constructor
    · intro e; rw [e]
    · intro e; injection e
  | .bl _, _, h, k => by simp [plain] at h
  | .ptr _, _, h, k => by simp [plain] at h
  | .dic _, _, h, k => by simp [plain] at h
  | .ins _ _, _, h, k => by simp [plain] at h
  | .non, .bl _, h, k => by simp [plain] at k
  | .non, .ptr _, h, k => by simp [plain] at k
  | .non, .dic _, h, k => by simp [plain] at k
  | .non, .ins _ _, h, k => by simp [plain] at k
  | .int _, .bl _, h, k => by simp [plain] at k
  | .int _, .ptr _, h, k => by simp [plain] at k
  | .int _, .dic _, h, k => by simp [plain] at k
  | .int _, .ins _ _, h, k => by simp [plain] at k
  | .tup _, .bl _, h, k => by simp [plain] at k
  | .tup _, .ptr _, h, k => by simp [plain] at k
  | .tup _, .dic _, h, k => by simp [plain] at k
  | .tup _, .ins _ _, h, k => by simp [plain] at k
  | .lst _, .bl _, h, k => by simp [plain] at k
  | .lst _, .ptr _, h, k => by simp [plain] at k
  | .lst _, .dic _, h, k => by simp [plain] at k
  | .lst _, .ins _ _, h, k => by simp [plain] at k
theorem plains_eq : ∀ x y : List D, plains x = true → plains y = true → (PyData.eqvAll (toPys x) (toPys y) = true ↔ x = y)
  | [], [], h, k => by simp [toPys, PyData.eqvAll]
  | [], y :: ys, h, k => by simp [toPys, PyData.eqvAll]
  | x :: xs, [], h, k => by simp [toPys, PyData.eqvAll]
  | x :: xs, y :: ys, h, k => by
    rw [plains, Bool.and_eq_true] at h k
    rw [toPys, toPys, PyData.eqvAll, Bool.and_eq_true, plain_eq x y h.1 k.1, plains_eq xs ys h.2 k.2]
    constructor
    · rintro ⟨rfl, rfl⟩; rfl
    · intro e; injection e with e1 e2; exact ⟨e1, e2⟩
end
theorem toPys_any {d : D} : ∀ {xs : List D}, plain d = true → plains xs = true → (((toPys xs).any fun z => PyData.eqv z (toPy d)) = true ↔ d ∈ xs)
  | [], h, k => by simp [toPys]
  | x :: xs, h, k => by
    rw [plains, Bool.and_eq_true] at k
    rw [toPys, List.any_cons, Bool.or_eq_true, toPys_any h k.2, plain_eq x d k.1 h, List.mem_cons]
    constructor
    · rintro (e | e)
      · exact .inl e.symm
      · exact .inr e
    · rintro (e | e)
      · exact .inl e.symm
      · exact .inr e
theorem shaped_of (h : plain x = true) (hd : (toPy x).depth ≤ 64) : SeqAt.shaped (toPy x) = true := by
  unfold SeqAt.shaped
  rw [plain_can x h, decide_eq_true hd]; rfl
theorem bool_of {p q : Bool} {P : Prop} (h : p = true ↔ P) (k : q = true ↔ P) : p = q := by
  cases p <;> cases q <;> simp_all
theorem od_eqD {t : Bool} (hu : X.A.units + 64 < cLine) (hx : plain x = true) (hy : plain y = true) (dx : (toPy x).depth ≤ 64) (dy : (toPy y).depth ≤ 64) (ht : t = true ↔ x = y) : OpD lk X (compareOp .Eq) x y cs (.bl t) cs :=
  opD_of (op_eqD hu) fun S H v w O r1 r2 Q q => ⟨_, _, plain_dp O.lies hx r1, plain_dp O.lies hy r2, shaped_of hx dx, shaped_of hy dy, by
    rw [bool_of (plain_eq x y hx hy) ht]
    exact q.here O (rep_bl.mpr rfl)⟩
theorem od_neD {t : Bool} (hu : X.A.units + 64 < cLine) (hx : plain x = true) (hy : plain y = true) (dx : (toPy x).depth ≤ 64) (dy : (toPy y).depth ≤ 64) (ht : t = true ↔ x = y) : OpD lk X (compareOp .NotEq) x y cs (.bl (!t)) cs :=
  opD_of (op_neD hu) fun S H v w O r1 r2 Q q => ⟨_, _, plain_dp O.lies hx r1, plain_dp O.lies hy r2, shaped_of hx dx, shaped_of hy dy, by
    rw [bool_of (plain_eq x y hx hy) ht]
    exact q.here O (rep_bl.mpr rfl)⟩
theorem od_inD {t : Bool} (hu : X.A.units + 65 < cLine) (hx : plain x = true) (hy : plains ys = true) (dx : (toPy x).depth ≤ 64) (dy : (toPy (.lst ys)).depth ≤ 64) (ht : t = true ↔ x ∈ ys) : OpD lk X (compareOp .In) x (.lst ys) cs (.bl t) cs :=
  opD_of (op_inD hu) fun S H v w O r1 r2 Q q => ⟨_, toPys ys, plain_dp O.lies hx r1, by have := plain_dp (K := X.K) O.lies (x := .lst ys) (by rw [plain]; exact hy) r2; rwa [toPy] at this, shaped_of hx dx,
    by have := shaped_of (x := .lst ys) (by rw [plain]; exact hy) dy; rwa [toPy] at this, by
    rw [bool_of (toPys_any hx hy) ht]
    exact q.here O (rep_bl.mpr rfl)⟩
theorem od_ninD {t : Bool} (hu : X.A.units + 65 < cLine) (hx : plain x = true) (hy : plains ys = true) (dx : (toPy x).depth ≤ 64) (dy : (toPy (.lst ys)).depth ≤ 64) (ht : t = true ↔ x ∈ ys) : OpD lk X (compareOp .NotIn) x (.lst ys) cs (.bl (!t)) cs :=
  opD_of (op_notInD hu) fun S H v w O r1 r2 Q q => ⟨_, toPys ys, plain_dp O.lies hx r1, by have := plain_dp (K := X.K) O.lies (x := .lst ys) (by rw [plain]; exact hy) r2; rwa [toPy] at this, shaped_of hx dx,
    by have := shaped_of (x := .lst ys) (by rw [plain]; exact hy) dy; rwa [toPy] at this, by
    rw [bool_of (toPys_any hx hy) ht]
    exact q.here O (rep_bl.mpr rfl)⟩
/-! ints in lists and tuples -/
def dints (ns : List Int) : List D := ns.map .int
theorem plains_ints (ns : List Int) : plains (dints ns) = true := by
  induction ns with
  | nil => rw [show dints [] = [] from rfl, plains]
  | cons n ns ih => rw [show dints (n :: ns) = .int n :: dints ns from rfl, plains, plain, ih]; rfl
theorem depths_ints (ns : List Int) : PyData.depthAll (toPys (dints ns)) = 0 := by
  induction ns with
  | nil => rw [show dints [] = [] from rfl, toPys, PyData.depthAll]
  | cons n ns ih => rw [show dints (n :: ns) = .int n :: dints ns from rfl, toPys, PyData.depthAll, ih, toPy, PyData.depth]; rfl
theorem dints_inj {ns ms : List Int} : dints ns = dints ms ↔ ns = ms := by
  constructor
  · intro h
    exact (List.map_inj_right (f := D.int) (fun a b e => by injection e)).mp h
  · intro h; rw [h]
theorem flat_ints (ns : List Int) : (ns.map V.int).all flatV = true := by
  induction ns with
  | nil => rfl
  | cons n ns ih => rw [List.map_cons, List.all_cons, ih]; rfl
theorem inV_ints (k : Int) (ns : List Int) : inV (.int k) (ns.map V.int) = decide (k ∈ ns) := by
  induction ns with
  | nil => rfl
  | cons n ns ih =>
    unfold inV at ih ⊢
    rw [List.map_cons, List.any_cons, ih]
    have : eqV (.int n) (.int k) = decide (k = n) := by
      have : eqV (.int n) (.int k) = (n == k) := by simp [eqV]
      rw [this]
      by_cases h : n = k
      · subst h; simp
      · rw [beq_eq_false_iff_ne.mpr h, decide_eq_false (fun z => h z.symm)]
    rw [this]
    by_cases h : k = n
    · subst h; simp
    · simp [h]
theorem od_inL {k : Int} {ns : List Int} : OpD lk X (compareOp .In) (.int k) (.lst (dints ns)) cs (.bl (decide (k ∈ ns))) cs :=
  opD_of op_in_seq fun S H v w O r1 r2 Q q => by
    obtain ⟨p, vs, rfl, e, r⟩ := rep_lst.mp r2
    rw [rep_int.mp r1]
    have hv : vs = ns.map V.int := Reps.ints.mp r
    subst hv
    refine ⟨p, _, rfl, .inl (sql O.lies e), rfl, flat_ints ns, ?_⟩
    rw [if_neg (by decide), inV_ints]
    exact q.here O (rep_bl.mpr rfl)
theorem od_ninL {k : Int} {ns : List Int} : OpD lk X (compareOp .NotIn) (.int k) (.lst (dints ns)) cs (.bl (!decide (k ∈ ns))) cs :=
  opD_of op_notIn_seq fun S H v w O r1 r2 Q q => by
    obtain ⟨p, vs, rfl, e, r⟩ := rep_lst.mp r2
    rw [rep_int.mp r1]
    have hv : vs = ns.map V.int := Reps.ints.mp r
    subst hv
    refine ⟨p, _, rfl, .inl (sql O.lies e), rfl, flat_ints ns, ?_⟩
    rw [if_pos rfl, inV_ints]
    exact q.here O (rep_bl.mpr rfl)
theorem od_inU {k : Int} {ns : List Int} : OpD lk X (compareOp .In) (.int k) (.tup (dints ns)) cs (.bl (decide (k ∈ ns))) cs :=
  opD_of op_in_seq fun S H v w O r1 r2 Q q => by
    obtain ⟨p, vs, rfl, e, r⟩ := rep_tup.mp r2
    rw [rep_int.mp r1]
    have hv : vs = ns.map V.int := Reps.ints.mp r
    subst hv
    refine ⟨p, _, rfl, .inr (sqt O.lies e), rfl, flat_ints ns, ?_⟩
    rw [if_neg (by decide), inV_ints]
    exact q.here O (rep_bl.mpr rfl)
theorem od_ninU {k : Int} {ns : List Int} : OpD lk X (compareOp .NotIn) (.int k) (.tup (dints ns)) cs (.bl (!decide (k ∈ ns))) cs :=
  opD_of op_notIn_seq fun S H v w O r1 r2 Q q => by
    obtain ⟨p, vs, rfl, e, r⟩ := rep_tup.mp r2
    rw [rep_int.mp r1]
    have hv : vs = ns.map V.int := Reps.ints.mp r
    subst hv
    refine ⟨p, _, rfl, .inr (sqt O.lies e), rfl, flat_ints ns, ?_⟩
    rw [if_pos rfl, inV_ints]
    exact q.here O (rep_bl.mpr rfl)
/-- in a list that changes -/
theorem od_inC {k : Int} {ns : List Int} {p : Addr} (i : Nat) (hi : cs[i]? = some (p, .lst (dints ns))) : OpD lk X (compareOp .In) (.int k) (.ptr p) cs (.bl (decide (k ∈ ns))) cs :=
  opD_of op_in_seq fun S H v w O r1 r2 Q q => by
    rw [rep_int.mp r1, rep_ptr.mp r2]
    obtain ⟨vs, e, r⟩ := O.at_ hi
    have hv : vs = ns.map V.int := Reps.ints.mp r
    subst hv
    refine ⟨p, _, rfl, .inl (.of e), rfl, flat_ints ns, ?_⟩
    rw [if_neg (by decide), inV_ints]
    exact q.here O (rep_bl.mpr rfl)
/-- key in a dict -/
theorem ev_inK {k : Int} {kvs : List (Int × D)} (hu : X.A.units + 1 < cLine) (ha : EvM lk X a ds cs (.int k) cs1) (hb : EvM lk X b ds cs1 (.dic kvs) cs2) (hm : behindInMarks .In b = false := by rfl) :
    EvM lk X (.Compare a [.In] [b] pos) ds cs (.bl (kget kvs k).isSome) cs2 := fun σ S H O E Q q =>
  run_e (pe_cmp (pc_din hu pe_w pe_w) hm) (ha σ S H O E _ fun v S1 H1 O1 s1 r1 => hb σ S1 H1 O1 (E.mono s1.ext) _ fun w S2 H2 O2 s2 r2 => by
    obtain ⟨p, vs, rfl, e, r⟩ := rep_dic.mp r2
    rw [rep_int.mp r1]
    refine ⟨p, valV vs (Sum.inl k : Key), rfl, .inl ⟨vs, Sum.inl k, O2.lies.dK e, rfl, rfl⟩, ?_⟩
    have := r.get (k := k)
    cases h : kget kvs k with
    | none => rw [h] at this; rw [this]; rw [h] at q; exact (q.step (s1.trans s2)).here O2 (rep_bl.mpr rfl)
    | some y => rw [h] at this; obtain ⟨u, e, _⟩ := this; rw [e]; rw [h] at q; exact (q.step (s1.trans s2)).here O2 (rep_bl.mpr rfl))
theorem ev_ninK {k : Int} {kvs : List (Int × D)} (hu : X.A.units + 1 < cLine) (ha : EvM lk X a ds cs (.int k) cs1) (hb : EvM lk X b ds cs1 (.dic kvs) cs2) (hm : behindInMarks .NotIn b = false := by rfl) :
    EvM lk X (.Compare a [.NotIn] [b] pos) ds cs (.bl (!(kget kvs k).isSome)) cs2 := fun σ S H O E Q q =>
  run_e (pe_cmp (pc_dnotin hu pe_w pe_w) hm) (ha σ S H O E _ fun v S1 H1 O1 s1 r1 => hb σ S1 H1 O1 (E.mono s1.ext) _ fun w S2 H2 O2 s2 r2 => by
    obtain ⟨p, vs, rfl, e, r⟩ := rep_dic.mp r2
    rw [rep_int.mp r1]
    refine ⟨p, valV vs (Sum.inl k : Key), rfl, .inl ⟨vs, Sum.inl k, O2.lies.dK e, rfl, rfl⟩, ?_⟩
    have := r.get (k := k)
    cases h : kget kvs k with
    | none => rw [h] at this; rw [this]; rw [h] at q; exact (q.step (s1.trans s2)).here O2 (rep_bl.mpr rfl)
    | some y => rw [h] at this; obtain ⟨u, e, _⟩ := this; rw [e]; rw [h] at q; exact (q.step (s1.trans s2)).here O2 (rep_bl.mpr rfl))
theorem ev_inKC {k : Int} {kvs : List (Int × D)} {p : Addr} (i : Nat) (hu : X.A.units + 1 < cLine) (ha : EvM lk X a ds cs (.int k) cs1) (hb : EvM lk X b ds cs1 (.ptr p) cs2) (hi : cs2[i]? = some (p, .dic kvs)) (hm : behindInMarks .In b = false := by rfl) :
    EvM lk X (.Compare a [.In] [b] pos) ds cs (.bl (kget kvs k).isSome) cs2 := fun σ S H O E Q q =>
  run_e (pe_cmp (pc_din hu pe_w pe_w) hm) (ha σ S H O E _ fun v S1 H1 O1 s1 r1 => hb σ S1 H1 O1 (E.mono s1.ext) _ fun w S2 H2 O2 s2 r2 => by
    obtain ⟨vs, e, r⟩ := O2.at_ hi
    rw [rep_int.mp r1, rep_ptr.mp r2]
    refine ⟨p, valV vs (Sum.inl k : Key), rfl, DGet.k (k := Sum.inl k) e, ?_⟩
    have := r.get (k := k)
    cases h : kget kvs k with
    | none => rw [h] at this; rw [this]; rw [h] at q; exact (q.step (s1.trans s2)).here O2 (rep_bl.mpr rfl)
    | some y => rw [h] at this; obtain ⟨u, e, _⟩ := this; rw [e]; rw [h] at q; exact (q.step (s1.trans s2)).here O2 (rep_bl.mpr rfl))
theorem ev_ninKC {k : Int} {kvs : List (Int × D)} {p : Addr} (i : Nat) (hu : X.A.units + 1 < cLine) (ha : EvM lk X a ds cs (.int k) cs1) (hb : EvM lk X b ds cs1 (.ptr p) cs2) (hi : cs2[i]? = some (p, .dic kvs)) (hm : behindInMarks .NotIn b = false := by rfl) :
    EvM lk X (.Compare a [.NotIn] [b] pos) ds cs (.bl (!(kget kvs k).isSome)) cs2 := fun σ S H O E Q q =>
  run_e (pe_cmp (pc_dnotin hu pe_w pe_w) hm) (ha σ S H O E _ fun v S1 H1 O1 s1 r1 => hb σ S1 H1 O1 (E.mono s1.ext) _ fun w S2 H2 O2 s2 r2 => by
    obtain ⟨vs, e, r⟩ := O2.at_ hi
    rw [rep_int.mp r1, rep_ptr.mp r2]
    refine ⟨p, valV vs (Sum.inl k : Key), rfl, DGet.k (k := Sum.inl k) e, ?_⟩
    have := r.get (k := k)
    cases h : kget kvs k with
    | none => rw [h] at this; rw [this]; rw [h] at q; exact (q.step (s1.trans s2)).here O2 (rep_bl.mpr rfl)
    | some y => rw [h] at this; obtain ⟨u, e, _⟩ := this; rw [e]; rw [h] at q; exact (q.step (s1.trans s2)).here O2 (rep_bl.mpr rfl))
/-- d[k] -/
theorem ev_getK {k : Int} {kvs : List (Int × D)} (hu : X.A.units + 1 < cLine) (ha : EvM lk X a ds cs (.dic kvs) cs1) (hb : EvM lk X b ds cs1 (.int k) cs2) (hx : kget kvs k = some x) (hs : NoSl b := by intro _ _; rfl) : EvM lk X (.Subscript a b pos) ds cs x cs2 := fun σ S H O E Q q =>
  run_e (pe_dget hu pe_w pe_w hs) (ha σ S H O E _ fun v S1 H1 O1 s1 r1 => hb σ S1 H1 O1 (E.mono s1.ext) _ fun w S2 H2 O2 s2 r2 => by
    obtain ⟨p, vs, rfl, e, r⟩ := rep_dic.mp (r1.mono s2.ext)
    rw [rep_int.mp r2]
    have := r.get (k := k)
    rw [hx] at this
    obtain ⟨u, e2, r3⟩ := this
    exact ⟨p, u, rfl, .inl ⟨vs, Sum.inl k, O2.lies.dK e, rfl, e2.symm⟩, (q.step (s1.trans s2)).here O2 r3⟩)
theorem ev_getKC {k : Int} {kvs : List (Int × D)} {p : Addr} (i : Nat) (hu : X.A.units + 1 < cLine) (ha : EvM lk X a ds cs (.ptr p) cs1) (hb : EvM lk X b ds cs1 (.int k) cs2) (hi : cs2[i]? = some (p, .dic kvs)) (hx : kget kvs k = some x) (hs : NoSl b := by intro _ _; rfl) : EvM lk X (.Subscript a b pos) ds cs x cs2 := fun σ S H O E Q q =>
  run_e (pe_dget hu pe_w pe_w hs) (ha σ S H O E _ fun v S1 H1 O1 s1 r1 => hb σ S1 H1 O1 (E.mono s1.ext) _ fun w S2 H2 O2 s2 r2 => by
    obtain ⟨vs, e, r⟩ := O2.at_ hi
    rw [rep_ptr.mp r1, rep_int.mp r2]
    have := r.get (k := k)
    rw [hx] at this
    obtain ⟨u, e2, r3⟩ := this
    exact ⟨p, u, rfl, .inl ⟨vs, Sum.inl k, .inl e, rfl, e2.symm⟩, (q.step (s1.trans s2)).here O2 r3⟩)
end
end Af
set_option Elab.async false
set_option linter.all false
set_option maxRecDepth 100000
set_option maxHeartbeats 2000000
/-! ### built-ins, subscripts, attributes, methods of lists and dicts -/
namespace Af
open PySem L2

section
variable {lk : List Addr} {X : Cx} {a b c e o : Expr} {es : List Expr} {ds : Ds} {cs cs0 cs1 cs2 cs3 : Cs} {x y z : D} {xs ys : List D} {pos p2 apos cpos : Pos} {P : D → Cs → Prop}

theorem Reps.two {S : Hp} {vs : List V} (h : Reps S [x, y] vs) : ∃ v w, vs = [v, w] ∧ Rep S x v ∧ Rep S y w := by
  obtain ⟨v, ws, rfl, r1, r⟩ := h.uncons
  obtain ⟨w, ws, rfl, r2, r⟩ := r.uncons
  rw [r.none]; exact ⟨v, w, rfl, r1, r2⟩
theorem Reps.one {S : Hp} {vs : List V} (h : Reps S [x] vs) : ∃ v, vs = [v] ∧ Rep S x v := by
  obtain ⟨v, ws, rfl, r1, r⟩ := h.uncons
  rw [r.none]; exact ⟨v, rfl, r1⟩
def CallP (lk : List Addr) (X : Cx) (f : Value) (xs : List D) (cs : Cs) (P : D → Cs → Prop) : Prop :=
  ∀ S H vs, Own lk S H cs → Reps S xs vs → ∀ Q, (∀ z cs', P z cs' → PostM lk cs S H cs' z Q) → wCall X f vs H Q
theorem ep_callTy {n : Str} {T : String} (ha : EvA lk X (a :: es) ds cs xs cs1) (hc : CallP lk X (.type T) xs cs1 P) (hm : X.mg n = none) (hv : bootBuiltins n = some (.type T)) (hg : Gl X n := by rfl)
    (hn : n ≠ "__name__" := by decide) (hdb : (n == ("__debug__" : Str)) = false := by decide)
    (he : starEach (a :: es) X.env = (false, eval a X.env) :: starEach es X.env := by rfl) (hpl : (backTo pos (starEach es X.env)).any (·.1) = false := by rfl) : EvP lk X (.Call (.Name n p2) (a :: es) [] pos) ds cs P := fun σ S H O E Q q =>
  run_e (pe_callTy call_w hg hm hv pa_w hn hdb he hpl) (ha σ S H O E _ fun vs S1 H1 O1 s1 r1 => hc S1 H1 vs O1 r1 Q fun z cs' h => (q z cs' h).step s1)
/-! len, all, any, list, tuple, int, min, max, sorted -/
theorem cd_lenL : CallD lk X (.builtin "len") [.lst xs] cs (.int xs.length) cs := callD_of call_len_seq fun S H vs O rr Q q => by
  obtain ⟨v, rfl, r⟩ := rr.one
  obtain ⟨p, ws, rfl, e, r⟩ := rep_lst.mp r
  exact ⟨p, ws, rfl, .inl (sql O.lies e), by rw [r.len]; exact q.here O (rep_int.mpr rfl)⟩
theorem cd_lenU : CallD lk X (.builtin "len") [.tup xs] cs (.int xs.length) cs := callD_of call_len_seq fun S H vs O rr Q q => by
  obtain ⟨v, rfl, r⟩ := rr.one
  obtain ⟨p, ws, rfl, e, r⟩ := rep_tup.mp r
  exact ⟨p, ws, rfl, .inr (sqt O.lies e), by rw [r.len]; exact q.here O (rep_int.mpr rfl)⟩
theorem cd_lenC {p : Addr} (i : Nat) (hi : cs[i]? = some (p, .lst xs)) : CallD lk X (.builtin "len") [.ptr p] cs (.int xs.length) cs := callD_of call_len_seq fun S H vs O rr Q q => by
  obtain ⟨v, rfl, r⟩ := rr.one
  rw [rep_ptr.mp r]
  obtain ⟨ws, e, r⟩ := O.at_ hi
  exact ⟨p, ws, rfl, .inl (.of e), by rw [r.len]; exact q.here O (rep_int.mpr rfl)⟩
theorem cd_all {bs : List Bool} (hc : X.calm = true := by rfl) : CallD lk X (.builtin "all") [.lst (bs.map .bl)] cs (.bl (bs.all id)) cs := callD_of (cr_all hc) fun S H vs O rr Q q => by
  obtain ⟨v, rfl, r⟩ := rr.one
  obtain ⟨p, ws, rfl, e, r⟩ := rep_lst.mp r
  have := Reps.bls.mp r; subst this
  exact ⟨p, bs, rfl, sql O.lies e, q.here O (rep_bl.mpr rfl)⟩
theorem cd_any {bs : List Bool} (hc : X.calm = true := by rfl) : CallD lk X (.builtin "any") [.lst (bs.map .bl)] cs (.bl (bs.any id)) cs := callD_of (cr_any hc) fun S H vs O rr Q q => by
  obtain ⟨v, rfl, r⟩ := rr.one
  obtain ⟨p, ws, rfl, e, r⟩ := rep_lst.mp r
  have := Reps.bls.mp r; subst this
  exact ⟨p, bs, rfl, sql O.lies e, q.here O (rep_bl.mpr rfl)⟩
theorem cd_listL : CallD lk X (.type "list") [.lst xs] cs (.lst xs) cs := callD_of call_list_of fun S H vs O rr Q q => by
  obtain ⟨v, rfl, r⟩ := rr.one
  obtain ⟨p, ws, rfl, e, r⟩ := rep_lst.mp r
  exact ⟨p, ws, rfl, .inl (sql O.lies e), fun l hl => q.new O hl (rep_lst.mpr ⟨l, ws, rfl, upd_same, r.mono (.new (O.lies.ne hl))⟩)⟩
theorem cd_listU : CallD lk X (.type "list") [.tup xs] cs (.lst xs) cs := callD_of call_list_of fun S H vs O rr Q q => by
  obtain ⟨v, rfl, r⟩ := rr.one
  obtain ⟨p, ws, rfl, e, r⟩ := rep_tup.mp r
  exact ⟨p, ws, rfl, .inr (sqt O.lies e), fun l hl => q.new O hl (rep_lst.mpr ⟨l, ws, rfl, upd_same, r.mono (.new (O.lies.ne hl))⟩)⟩
theorem callP_of {f : Value} {r : List V → Hp → VK → Prop} (hc : CallR X f r) (h : ∀ S H vs, Own lk S H cs → Reps S xs vs → ∀ Q, (∀ z cs', P z cs' → PostM lk cs S H cs' z Q) → r vs H Q) : CallP lk X f xs cs P :=
  fun S H vs O rr Q q pins s σ us I r' => hc pins s σ H vs us Q I r' (h S H vs O rr Q q)
theorem cp_listL : CallP lk X (.type "list") [.lst xs] cs (fun y cs' => ∃ a, y = .ptr a ∧ cs' = cs ++ [(a, .lst xs)]) := callP_of call_list_of fun S H vs O rr Q q => by
  obtain ⟨v, rfl, r⟩ := rr.one
  obtain ⟨p, ws, rfl, e, r⟩ := rep_lst.mp r
  exact ⟨p, ws, rfl, .inl (sql O.lies e), fun l hl => q _ _ ⟨l, rfl, rfl⟩ _ S _ (O.allocC hl ⟨ws, upd_same, r⟩) (.allocC hl) (rep_ptr.mpr rfl)⟩
theorem cp_listU : CallP lk X (.type "list") [.tup xs] cs (fun y cs' => ∃ a, y = .ptr a ∧ cs' = cs ++ [(a, .lst xs)]) := callP_of call_list_of fun S H vs O rr Q q => by
  obtain ⟨v, rfl, r⟩ := rr.one
  obtain ⟨p, ws, rfl, e, r⟩ := rep_tup.mp r
  exact ⟨p, ws, rfl, .inr (sqt O.lies e), fun l hl => q _ _ ⟨l, rfl, rfl⟩ _ S _ (O.allocC hl ⟨ws, upd_same, r⟩) (.allocC hl) (rep_ptr.mpr rfl)⟩
theorem cp_dictD {kvs : List (Int × D)} : CallP lk X (.type "dict") [.dic kvs] cs (fun y cs' => ∃ a, y = .ptr a ∧ cs' = cs ++ [(a, .dic kvs)]) := callP_of call_dictD fun S H vs O rr Q q => by
  obtain ⟨v, rfl, r⟩ := rr.one
  obtain ⟨p, ws, rfl, e, r⟩ := rep_dic.mp r
  exact ⟨p, ws, rfl, O.lies.dK e, fun l hl => q _ _ ⟨l, rfl, rfl⟩ _ S _ (O.allocC hl ⟨ws, upd_same, r⟩) (.allocC hl) (rep_ptr.mpr rfl)⟩
theorem cd_tupL : CallD lk X (.type "tuple") [.lst xs] cs (.tup xs) cs := callD_of call_tuple_of fun S H vs O rr Q q => by
  obtain ⟨v, rfl, r⟩ := rr.one
  obtain ⟨p, ws, rfl, e, r⟩ := rep_lst.mp r
  exact ⟨p, ws, rfl, .inl ⟨sql O.lies e, fun l hl => q.new O hl (rep_tup.mpr ⟨l, ws, rfl, upd_same, r.mono (.new (O.lies.ne hl))⟩)⟩⟩
theorem cd_tupC {p : Addr} (i : Nat) (hi : cs[i]? = some (p, .lst xs)) : CallD lk X (.type "tuple") [.ptr p] cs (.tup xs) cs := callD_of call_tuple_of fun S H vs O rr Q q => by
  obtain ⟨v, rfl, r⟩ := rr.one
  rw [rep_ptr.mp r]
  obtain ⟨ws, e, r⟩ := O.at_ hi
  exact ⟨p, ws, rfl, .inl ⟨.of e, fun l hl => q.new O hl (rep_tup.mpr ⟨l, ws, rfl, upd_same, r.mono (.new (O.lies.ne hl))⟩)⟩⟩
theorem cd_int {i : Int} : CallD lk X (.type "int") [.int i] cs (.int i) cs := callD_of call_int1 fun S H vs O rr Q q => by
  obtain ⟨v, rfl, r⟩ := rr.one
  rw [rep_int.mp r]
  exact .inl ⟨i, rfl, q.here O (rep_int.mpr rfl)⟩
theorem cd_min {i j : Int} (hc : X.calm = true := by rfl) : CallD lk X (.builtin "min") [.int i, .int j] cs (.int (if j < i then j else i)) cs := callD_of (call_min2 hc) fun S H vs O rr Q q => by
  obtain ⟨v, w, rfl, r1, r2⟩ := rr.two
  rw [rep_int.mp r1, rep_int.mp r2]
  exact ⟨i, j, rfl, q.here O (rep_int.mpr rfl)⟩
theorem cd_max {ns : List Int} {m : Int} (h1 : m ∈ ns) (h2 : ∀ y ∈ ns, y ≤ m) (hc : X.calm = true := by rfl) : CallD lk X (.builtin "max") [.lst (dints ns)] cs (.int m) cs := callD_of (cr_max hc) fun S H vs O rr Q q => by
  obtain ⟨v, rfl, r⟩ := rr.one
  obtain ⟨p, ws, rfl, e, r⟩ := rep_lst.mp r
  have := Reps.ints.mp r; subst this
  refine ⟨p, ns, rfl, sql O.lies e, List.length_pos_of_mem h1, fun k k1 k2 => ?_⟩
  have : k = m := Int.le_antisymm (h2 k k1) (k2 m h1)
  rw [this]; exact q.here O (rep_int.mpr rfl)
theorem sorted_one {ns ms ks : List Int} (h1 : ms.Perm ns) (h2 : ms.Pairwise (· ≤ ·)) (k1 : ks.Perm ns) (k2 : ks.Pairwise (· ≤ ·)) : ks = ms :=
  (k1.trans h1.symm).eq_of_pairwise (fun a b _ _ h k => Int.le_antisymm h k) k2 h2
theorem cd_sorted {ns ms : List Int} (h1 : ms.Perm ns) (h2 : ms.Pairwise (· ≤ ·)) : CallD lk X (.builtin "sorted") [.lst (dints ns)] cs (.lst (dints ms)) cs := callD_of cr_sortedI fun S H vs O rr Q q => by
  obtain ⟨v, rfl, r⟩ := rr.one
  obtain ⟨p, ws, rfl, e, r⟩ := rep_lst.mp r
  have := Reps.ints.mp r; subst this
  refine ⟨p, ns, rfl, sql O.lies e, fun ks l k1 k2 hl => ?_⟩
  rw [sorted_one h1 h2 k1 k2]
  exact q.new O hl (rep_lst.mpr ⟨l, _, rfl, upd_same, Reps.ints.mpr rfl⟩)
/-! isinstance against a written built-in class -/
theorem ev_isi {n1 T : Str} {T' t : String} {p3 : Pos} {r : Bool} (ha : EvM lk X a ds cs x cs1) (hx : ∀ S H v, Own lk S H cs1 → Rep S x v → TyX X.K H v (.type t)) (h : kitB t T' = some r) (hm : X.mg n1 = none) (hmT : X.mg T = none)
    (h1 : bootBuiltins n1 = some (.builtin "isinstance")) (hvT : bootBuiltins T = some (.type T')) (hg : Gl X n1 := by rfl) (hgT : Gl X T := by rfl)
    (hn : n1 ≠ "__name__" := by decide) (hdb : (n1 == ("__debug__" : Str)) = false := by decide) (hnT : T ≠ "__name__" := by decide) (hdT : (T == ("__debug__" : Str)) = false := by decide)
    (he : starEach (a :: [.Name T p3]) X.env = (false, eval a X.env) :: starEach [.Name T p3] X.env := by rfl) (he2 : starEach (.Name T p3 :: []) X.env = (false, eval (.Name T p3) X.env) :: starEach [] X.env := by rfl) (hpl : (backTo pos (starEach [.Name T p3] X.env)).any (·.1) = false := by rfl) :
    EvM lk X (.Call (.Name n1 p2) [a, .Name T p3] [] pos) ds cs (.bl r) cs1 := fun σ S H O E Q q =>
  run_e (pe_callB call_isi hg hm h1 (pa_cons pe_w (pa_cons (pe_bltn (v := .ty T') hgT hmT hvT rfl hnT hdT) pa_nil he2) he) hn hdb he hpl) (ha σ S H O E _ fun v S1 H1 O1 s1 r1 =>
    ⟨v, .ty T', .type t, .type T', r, rfl, .ty T', hx S1 H1 v O1 r1, kit_ty h, q _ S1 H1 O1 s1 (rep_bl.mpr rfl)⟩)
theorem ty_int {i : Int} : ∀ S H v, Own lk S H cs → Rep S (.int i) v → TyX X.K H v (.type "int") := fun S H v O r => by rw [rep_int.mp r]; exact .base (.int i)
theorem ty_tup : ∀ S H v, Own lk S H cs → Rep S (.tup xs) v → TyX X.K H v (.type "tuple") := fun S H v O r => by
  obtain ⟨a, vs, rfl, e, _⟩ := rep_tup.mp r; exact .base (.tup (O.lies.tup e))
theorem ty_lst : ∀ S H v, Own lk S H cs → Rep S (.lst xs) v → TyX X.K H v (.type "list") := fun S H v O r => by
  obtain ⟨a, vs, rfl, e, _⟩ := rep_lst.mp r; exact .base (.lst (O.lies.lst e))
theorem ty_dic {kvs : List (Int × D)} : ∀ S H v, Own lk S H cs → Rep S (.dic kvs) v → TyX X.K H v (.type "dict") := fun S H v O r => by
  obtain ⟨a, vs, rfl, e, _⟩ := rep_dic.mp r
  rcases O.lies.dK e with z | ⟨ob, z⟩
  · exact .base (.dK z)
  · exact .fDict z
/-! subscripts -/
theorem Reps.atI {S : Hp} {vs : List V} {i : Int} (r : Reps S xs vs) (h : atI xs i = some x) : ∃ v, L2.atI vs i = some v ∧ Rep S x v := by
  unfold L2.atI at h ⊢
  rw [r.len]
  cases e : ixN xs.length i with
  | none => rw [e] at h; cases h
  | some j =>
    rw [e] at h
    exact r.get h
theorem ev_ixL {i : Int} (ha : EvM lk X a ds cs (.lst xs) cs1) (hb : EvM lk X b ds cs1 (.int i) cs2) (h : atI xs i = some x) (hs : PlainIx b := by intro _ _; rfl) : EvM lk X (.Subscript a b pos) ds cs x cs2 := fun σ S H O E Q q =>
  run_e (pe_ix ix_list pe_w pe_w hs) (ha σ S H O E _ fun v S1 H1 O1 s1 r1 => hb σ S1 H1 O1 (E.mono s1.ext) _ fun w S2 H2 O2 s2 r2 => by
    obtain ⟨p, ws, rfl, e, r⟩ := rep_lst.mp (r1.mono s2.ext)
    obtain ⟨u, e2, r3⟩ := r.atI h
    rw [rep_int.mp r2]
    exact ⟨p, ws, i, u, rfl, rfl, sql O2.lies e, e2, (q.step (s1.trans s2)).here O2 r3⟩)
theorem ev_ixU {i : Int} (ha : EvM lk X a ds cs (.tup xs) cs1) (hb : EvM lk X b ds cs1 (.int i) cs2) (h : atI xs i = some x) (hs : PlainIx b := by intro _ _; rfl) : EvM lk X (.Subscript a b pos) ds cs x cs2 := fun σ S H O E Q q =>
  run_e (pe_ix ix_tup pe_w pe_w hs) (ha σ S H O E _ fun v S1 H1 O1 s1 r1 => hb σ S1 H1 O1 (E.mono s1.ext) _ fun w S2 H2 O2 s2 r2 => by
    obtain ⟨p, ws, rfl, e, r⟩ := rep_tup.mp (r1.mono s2.ext)
    obtain ⟨u, e2, r3⟩ := r.atI h
    rw [rep_int.mp r2]
    exact ⟨p, ws, i, u, rfl, rfl, sqt O2.lies e, e2, (q.step (s1.trans s2)).here O2 r3⟩)
theorem ev_ixC {i : Int} {p : Addr} (j : Nat) (ha : EvM lk X a ds cs (.ptr p) cs1) (hb : EvM lk X b ds cs1 (.int i) cs2) (hj : cs2[j]? = some (p, .lst xs)) (h : atI xs i = some x) (hs : PlainIx b := by intro _ _; rfl) : EvM lk X (.Subscript a b pos) ds cs x cs2 := fun σ S H O E Q q =>
  run_e (pe_ix ix_list pe_w pe_w hs) (ha σ S H O E _ fun v S1 H1 O1 s1 r1 => hb σ S1 H1 O1 (E.mono s1.ext) _ fun w S2 H2 O2 s2 r2 => by
    obtain ⟨ws, e, r⟩ := O2.at_ hj
    obtain ⟨u, e2, r3⟩ := r.atI h
    rw [rep_ptr.mp r1, rep_int.mp r2]
    exact ⟨p, ws, i, u, rfl, rfl, .of e, e2, (q.step (s1.trans s2)).here O2 r3⟩)
/-! slices -/
def cutD (xs : List D) (lo hi : Option Int) : List D := (xs.drop (HT.sIx xs.length 0 lo)).take (HT.sIx xs.length xs.length hi - HT.sIx xs.length 0 lo)
theorem Reps.cut {S : Hp} {vs : List V} {lo hi : Option Int} (r : Reps S xs vs) : Reps S (cutD xs lo hi) (cutV vs lo hi) := by
  unfold cutD cutV
  rw [r.len]
  exact (r.drop _).take _
def wO (X : Cx) (oe : Option Expr) : TO := fun σ H Q => ∀ pins s, Inv X pins σ H s → wpAny (model X.prog X.w) X.A (evalPart oe X.env) (fun u s' => ∃ o H', Inv X pins σ H' s' ∧ IsPart u o ∧ Q o H') X.xe s
theorem po_w {oe : Option Expr} : PO X oe (wO X oe) := ⟨fun pins s σ H Q I h => h pins s I⟩
def EvO (lk : List Addr) (X : Cx) (oe : Option Expr) (ds : Ds) (cs : Cs) (o : Option Int) (cs' : Cs) : Prop :=
  ∀ σ S H, Own lk S H cs → Env S ds σ → ∀ Q : Option Int → Hp → Prop, (∀ S' H', Own lk S' H' cs' → Stp cs S H S' H' cs' → Q o H') → wO X oe σ H Q
theorem eo_none : EvO lk X none ds cs none cs := fun σ S H O E Q q pins s I => po_none.run pins s σ H Q I (q S H O .refl)
theorem eo_some {i : Int} (h : EvM lk X e ds cs (.int i) cs1) : EvO lk X (some e) ds cs (some i) cs1 := fun σ S H O E Q q pins s I =>
  (po_some pe_w).run pins s σ H Q I (h σ S H O E _ fun v S1 H1 O1 s1 r1 => ⟨i, rep_int.mp r1, q S1 H1 O1 s1⟩)
theorem ev_slL {lo hi : Option Expr} {i j : Option Int} (ha : EvM lk X a ds cs (.lst xs) cs1) (hl : EvO lk X lo ds cs1 i cs2) (hh : EvO lk X hi ds cs2 j cs3) : EvM lk X (.Subscript a (.Slice lo hi none p2) pos) ds cs (.lst (cutD xs i j)) cs3 := fun σ S H O E Q q =>
  run_e (pe_slice sl_list pe_w po_w po_w) (ha σ S H O E _ fun v S1 H1 O1 s1 r1 => hl σ S1 H1 O1 (E.mono s1.ext) _ fun S2 H2 O2 s2 => hh σ S2 H2 O2 (E.mono (s1.trans s2).ext) _ fun S3 H3 O3 s3 => by
    obtain ⟨p, ws, rfl, e, r⟩ := rep_lst.mp (r1.mono (s2.trans s3).ext)
    exact ⟨p, ws, rfl, sql O3.lies e, fun l hl => (q.step ((s1.trans s2).trans s3)).new O3 hl (rep_lst.mpr ⟨l, _, rfl, upd_same, r.cut.mono (.new (O3.lies.ne hl))⟩)⟩)
theorem cut_whole {ws : List V} {lo hi : Option Int} (h : HT.sIx ws.length 0 lo = 0 ∧ HT.sIx ws.length ws.length hi = ws.length) : cutV ws lo hi = ws := by
  unfold cutV; rw [h.1, h.2]; simp
theorem ev_slU {lo hi : Option Expr} {i j : Option Int} (ha : EvM lk X a ds cs (.tup xs) cs1) (hl : EvO lk X lo ds cs1 i cs2) (hh : EvO lk X hi ds cs2 j cs3) : EvM lk X (.Subscript a (.Slice lo hi none p2) pos) ds cs (.tup (cutD xs i j)) cs3 := fun σ S H O E Q q =>
  run_e (pe_slice sl_tupA pe_w po_w po_w) (ha σ S H O E _ fun v S1 H1 O1 s1 r1 => hl σ S1 H1 O1 (E.mono s1.ext) _ fun S2 H2 O2 s2 => hh σ S2 H2 O2 (E.mono (s1.trans s2).ext) _ fun S3 H3 O3 s3 => by
    obtain ⟨p, ws, rfl, e, r⟩ := rep_tup.mp (r1.mono (s2.trans s3).ext)
    refine ⟨p, ws, rfl, sqt O3.lies e, fun h => (q.step ((s1.trans s2).trans s3)).here O3 (rep_tup.mpr ⟨p, ws, rfl, e, ?_⟩), fun h l hl => (q.step ((s1.trans s2).trans s3)).new O3 hl (rep_tup.mpr ⟨l, _, rfl, upd_same, r.cut.mono (.new (O3.lies.ne hl))⟩)⟩
    have := r.cut (lo := i) (hi := j)
    rwa [cut_whole h] at this)
theorem ev_rev {k : Nat} {p1 p3 p4 : Pos} (ha : EvM lk X a ds cs (.lst xs) cs1) : EvM lk X (.Subscript a (.Slice none none (some (.UnaryOp .USub (.Constant (.int 1) k p1) p3)) p4) pos) ds cs (.lst xs.reverse) cs1 := fun σ S H O E Q q =>
  run_e (pe_revL pe_w) (ha σ S H O E _ fun v S1 H1 O1 s1 r1 => by
    obtain ⟨p, ws, rfl, e, r⟩ := rep_lst.mp r1
    exact ⟨p, ws, rfl, sql O1.lies e, fun l hl => (q.step s1).new O1 hl (rep_lst.mpr ⟨l, _, rfl, upd_same, r.reverse.mono (.new (O1.lies.ne hl))⟩)⟩)
/-! attributes -/
theorem ev_fldI {C : Addr} {f : Str} {fs : List (Str × D)} (c : Cls X.K C) (n : NoAttr X.K C f) (ha : EvM lk X a ds cs (.ins C fs) cs1) (h : fs.lookup f = some x) (hb : attributeBase a f X.env (eval a X.env) = eval a X.env := by rfl) : EvM lk X (.Attribute a f pos) ds cs x cs1 := fun σ S H O E Q q =>
  run_e (pe_fld pe_w hb) (ha σ S H O E _ fun v S1 H1 O1 s1 r1 => by
    obtain ⟨p, dx, ws, rfl, e, r⟩ := rep_ins.mp r1
    obtain ⟨u, e2, r3⟩ := r.get h
    exact ⟨p, C, dx, ws, u, rfl, O1.lies.ins e, c, n, e2, (q.step s1).here O1 r3⟩)
theorem ev_fldC {C dx p : Addr} {f : Str} {fs : List (Str × D)} (i : Nat) (c : Cls X.K C) (n : NoAttr X.K C f) (ha : EvM lk X a ds cs (.ptr p) cs1) (hi : cs1[i]? = some (p, .ins C dx fs)) (h : fs.lookup f = some x) (hb : attributeBase a f X.env (eval a X.env) = eval a X.env := by rfl) : EvM lk X (.Attribute a f pos) ds cs x cs1 := fun σ S H O E Q q =>
  run_e (pe_fld pe_w hb) (ha σ S H O E _ fun v S1 H1 O1 s1 r1 => by
    obtain ⟨ws, e, r⟩ := O1.at_ hi
    obtain ⟨u, e2, r3⟩ := r.get h
    rw [rep_ptr.mp r1]
    exact ⟨p, C, dx, ws, u, rfl, e, c, n, e2, (q.step s1).here O1 r3⟩)
/-! methods of lists and dicts that change -/
theorem ev_append {p : Addr} (i : Nat) (ho : EvM lk X o ds cs (.ptr p) cs1) (h1 : cs1[i]? = some (p, .lst ys)) (he : EvM lk X e ds cs1 x cs2) (h2 : cs2[i]? = some (p, .lst xs)) (hl : xs.length < 1000000)
    (hbase : attributeBase o "append" X.env (eval o X.env) = eval o X.env := by rfl)
    (hfew : ((backTo cpos (starEach [e] X.env)).all (fun x => !x.1) && (backToKw cpos (keywordEach [] X.env)).all (fun x => x.1.isSome)
      && decide (([e] : List Expr).length + ([] : List Keyword).length + (if ([] : List Keyword).isEmpty then 0 else 1) < 30)) = true := by rfl)
    (hline : (apos.endLine == cpos.line) = true := by rfl) (hs : starEach [e] X.env = (false, eval e X.env) :: starEach [] X.env := by rfl) (hplain : (backTo cpos (starEach [] X.env)).any (·.1) = false := by rfl) :
    EvM lk X (.Call (.Attribute o "append" apos) [e] [] cpos) ds cs .non (cs2.set i (p, .lst (xs ++ [x]))) := fun σ S H O E Q q =>
  run_e (pe_bm PySem.F.plainAttrs_list PySem.F.slot_list_append PySem.F.type_list_append mt_append pe_w (pa_cons pe_w pa_nil hs) hbase hfew hline hs hplain) (ho σ S H O E _ fun v S1 H1 O1 s1 r1 => by
    obtain ⟨ws, e1, _⟩ := O1.at_ h1
    rw [rep_ptr.mp r1]
    refine ⟨.inl ⟨rfl, ws, .of e1⟩, he σ S1 H1 O1 (E.mono s1.ext) _ fun w S2 H2 O2 s2 r2 => ?_⟩
    obtain ⟨us, e2, r3⟩ := O2.at_ h2
    refine ⟨p, us, w, rfl, rfl, e2, by rw [r3.len]; exact szl hl, ?_⟩
    exact q _ S2 _ (O2.write h2 ⟨_, upd_same, r3.append (.cons r2 .nil)⟩) ((s1.trans s2).trans (.write h2)) (rep_non.mpr rfl))
theorem ev_pop {p : Addr} (i : Nat) (ho : EvM lk X o ds cs (.ptr p) cs1) (h1 : cs1[i]? = some (p, .lst xs)) (hx : xs[xs.length - 1]? = some x)
    (hbase : attributeBase o "pop" X.env (eval o X.env) = eval o X.env := by rfl) (hline : (apos.endLine == cpos.line) = true := by rfl) :
    EvM lk X (.Call (.Attribute o "pop" apos) [] [] cpos) ds cs x (cs1.set i (p, .lst xs.dropLast)) := fun σ S H O E Q q =>
  run_e (pe_bm0 PySem.F.plainAttrs_list PySem.F.slot_list_pop PySem.F.type_list_pop mt_pop pe_w hbase hline) (ho σ S H O E _ fun v S1 H1 O1 s1 r1 => by
    obtain ⟨ws, e1, r⟩ := O1.at_ h1
    rw [rep_ptr.mp r1]
    obtain ⟨u, e3, r3⟩ := r.get hx
    refine ⟨.inl ⟨rfl, ws, .of e1⟩, p, ws, u, rfl, rfl, e1, by rw [r.len]; exact e3, ?_⟩
    exact q _ S1 _ (O1.write h1 ⟨_, upd_same, r.dropLast⟩) (s1.trans (.write h1)) r3)
theorem ev_popAt {p : Addr} {j : Int} {k : Nat} (i : Nat) (ho : EvM lk X o ds cs (.ptr p) cs1) (h1 : cs1[i]? = some (p, .lst ys)) (he : EvM lk X e ds cs1 (.int j) cs2) (h2 : cs2[i]? = some (p, .lst xs)) (hj : j = (k : Int)) (hx : xs[k]? = some x) (hz : xs.length < 1000000)
    (hbase : attributeBase o "pop" X.env (eval o X.env) = eval o X.env := by rfl)
    (hfew : ((backTo cpos (starEach [e] X.env)).all (fun x => !x.1) && (backToKw cpos (keywordEach [] X.env)).all (fun x => x.1.isSome)
      && decide (([e] : List Expr).length + ([] : List Keyword).length + (if ([] : List Keyword).isEmpty then 0 else 1) < 30)) = true := by rfl)
    (hline : (apos.endLine == cpos.line) = true := by rfl) (hs : starEach [e] X.env = (false, eval e X.env) :: starEach [] X.env := by rfl) (hplain : (backTo cpos (starEach [] X.env)).any (·.1) = false := by rfl) :
    EvM lk X (.Call (.Attribute o "pop" apos) [e] [] cpos) ds cs x (cs2.set i (p, .lst (xs.eraseIdx k))) := fun σ S H O E Q q =>
  run_e (pe_bm PySem.F.plainAttrs_list PySem.F.slot_list_pop PySem.F.type_list_pop mt_popAt pe_w (pa_cons pe_w pa_nil hs) hbase hfew hline hs hplain) (ho σ S H O E _ fun v S1 H1 O1 s1 r1 => by
    obtain ⟨ws, e1, _⟩ := O1.at_ h1
    rw [rep_ptr.mp r1]
    refine ⟨.inl ⟨rfl, ws, .of e1⟩, he σ S1 H1 O1 (E.mono s1.ext) _ fun w S2 H2 O2 s2 r2 => ?_⟩
    obtain ⟨us, e2, r3⟩ := O2.at_ h2
    obtain ⟨u, e4, r4⟩ := r3.get hx
    have hk : k < xs.length := (List.getElem?_eq_some_iff.mp hx).1
    rw [rep_int.mp r2, hj]
    refine ⟨p, us, (k : Int), k, u, rfl, rfl, e2, by omega, by omega, ?_, e4, ?_⟩
    · rw [seqIndex_of (by omega) (by rw [r3.len]; omega)]; simp
    exact q _ S2 _ (O2.write h2 ⟨_, upd_same, r3.eraseIdx k⟩) ((s1.trans s2).trans (.write h2)) r4)
theorem ev_remove {p : Addr} {ns ms : List Int} {k : Int} {j : Nat} (i : Nat) (ho : EvM lk X o ds cs (.ptr p) cs1) (h1 : cs1[i]? = some (p, .lst ys)) (he : EvM lk X e ds cs1 (.int k) cs2) (h2 : cs2[i]? = some (p, .lst (dints ns)))
    (hj : ns[j]? = some k) (hf : ∀ m : Nat, m < j → ns[m]? ≠ some k) (hms : ms = ns.eraseIdx j)
    (hbase : attributeBase o "remove" X.env (eval o X.env) = eval o X.env := by rfl)
    (hfew : ((backTo cpos (starEach [e] X.env)).all (fun x => !x.1) && (backToKw cpos (keywordEach [] X.env)).all (fun x => x.1.isSome)
      && decide (([e] : List Expr).length + ([] : List Keyword).length + (if ([] : List Keyword).isEmpty then 0 else 1) < 30)) = true := by rfl)
    (hline : (apos.endLine == cpos.line) = true := by rfl) (hs : starEach [e] X.env = (false, eval e X.env) :: starEach [] X.env := by rfl) (hplain : (backTo cpos (starEach [] X.env)).any (·.1) = false := by rfl) :
    EvM lk X (.Call (.Attribute o "remove" apos) [e] [] cpos) ds cs .non (cs2.set i (p, .lst (dints ms))) := fun σ S H O E Q q =>
  run_e (pe_bm PySem.F.plainAttrs_list PySem.F.slot_list_remove PySem.F.type_list_remove mt_remove pe_w (pa_cons pe_w pa_nil hs) hbase hfew hline hs hplain) (ho σ S H O E _ fun v S1 H1 O1 s1 r1 => by
    obtain ⟨ws, e1, _⟩ := O1.at_ h1
    rw [rep_ptr.mp r1]
    refine ⟨.inl ⟨rfl, ws, .of e1⟩, he σ S1 H1 O1 (E.mono s1.ext) _ fun w S2 H2 O2 s2 r2 => ?_⟩
    obtain ⟨us, e2, r3⟩ := O2.at_ h2
    have := Reps.ints.mp r3; subst this
    rw [rep_int.mp r2]
    refine ⟨p, ns, k, j, rfl, rfl, e2, hj, hf, ?_⟩
    rw [hms] at q
    exact q _ S2 _ (O2.write h2 ⟨_, upd_same, Reps.ints.mpr rfl⟩) ((s1.trans s2).trans (.write h2)) (rep_non.mpr rfl))
theorem ev_dpop {p : Addr} {f : Expr} {kvs : List (Int × D)} {k : Int} (i : Nat) (ho : EvM lk X o ds cs (.ptr p) cs1) (h1 : cs1[i]? = some (p, .dic kvs)) (he : EvM lk X e ds cs1 (.int k) cs1) (hf : EvM lk X f ds cs1 .non cs1)
    (m : M2 X o "pop" apos e f cpos := by exact ⟨rfl, rfl, rfl, rfl⟩) : EvP lk X (.Call (.Attribute o "pop" apos) [e, f] [] cpos) ds cs (fun y cs' => cs' = cs1.set i (p, .dic (kdrop kvs k))) := fun σ S H O E Q q =>
  run_e (pe_dpop2 pe_w pe_w pe_w m) (ho σ S H O E _ fun v S1 H1 O1 s1 r1 => by
    obtain ⟨ws, e1, _⟩ := O1.at_ h1
    rw [rep_ptr.mp r1]
    refine ⟨p, rfl, .inl ⟨ws, .inl e1⟩, he σ S1 H1 O1 (E.mono s1.ext) _ fun w S2 H2 O2 s2 r2 => hf σ S2 H2 O2 (E.mono (s1.trans s2).ext) _ fun w' S3 H3 O3 s3 r3 => ?_⟩
    obtain ⟨us, e3, r4⟩ := O3.at_ h1
    rw [rep_int.mp r2]
    have g := r4.get (k := k)
    refine ⟨us, Sum.inl k, e3, rfl, fun v2 hv => ?_, fun hv => ?_⟩
    · cases h : kget kvs k with
      | none => rw [h] at g; rw [g] at hv; cases hv
      | some y =>
        rw [h] at g
        obtain ⟨u, e5, r5⟩ := g
        rw [e5] at hv; cases hv
        exact q y _ rfl _ S3 _ (O3.write h1 ⟨_, upd_same, r4.drop⟩) (((s1.trans s2).trans s3).trans (.write h1)) r5
    · have hn : kget kvs k = none := by
        cases h : kget kvs k with
        | none => rfl
        | some y => rw [h] at g; obtain ⟨u, e5, _⟩ := g; rw [e5] at hv; cases hv
      have hd : kdrop kvs k = kvs := by
        unfold kdrop
        refine List.filter_eq_self.mpr fun q hq => ?_
        have : ¬ q.1 = k := fun z => by
          have := List.find?_eq_none.mp (by simpa [kget] using hn : (kvs.find? fun kv => decide (kv.1 = k)) = none) q hq
          simp [z] at this
        simp [this]
      rw [rep_non.mp r3]
      have e6 : cs1.set i (p, .dic (kdrop kvs k)) = cs1 := by
        rw [hd]
        have hl : i < cs1.length := (List.getElem?_eq_some_iff.mp h1).1
        have : cs1[i] = (p, .dic kvs) := (List.getElem?_eq_some_iff.mp h1).2
        rw [← this]; exact List.set_getElem_self hl
      exact q .non _ e6.symm _ S3 _ O3 ((s1.trans s2).trans s3) (rep_non.mpr rfl))
/-- d.get(k, x) -/
theorem ev_get2 {f : Expr} {kvs : List (Int × D)} {k : Int} (hu : X.A.units + 1 < cLine) (ho : EvM lk X o ds cs (.dic kvs) cs1) (he : EvM lk X e ds cs1 (.int k) cs2) (hf : EvM lk X f ds cs2 x cs3)
    (m : M2 X o "get" apos e f cpos := by exact ⟨rfl, rfl, rfl, rfl⟩) : EvM lk X (.Call (.Attribute o "get" apos) [e, f] [] cpos) ds cs ((kget kvs k).getD x) cs3 := fun σ S H O E Q q =>
  run_e (pe_dget2 hu pe_w pe_w pe_w m) (ho σ S H O E _ fun v S1 H1 O1 s1 r1 => by
    obtain ⟨p, ws, rfl, e1, r⟩ := rep_dic.mp r1
    refine ⟨p, rfl, .inl ⟨ws, O1.lies.dK e1⟩, he σ S1 H1 O1 (E.mono s1.ext) _ fun w S2 H2 O2 s2 r2 => hf σ S2 H2 O2 (E.mono (s1.trans s2).ext) _ fun w' S3 H3 O3 s3 r3 => ?_⟩
    rw [rep_int.mp r2]
    have g := (r.mono (s2.trans s3).ext).get (k := k)
    refine ⟨valV ws (Sum.inl k : Key), .inl ⟨ws, Sum.inl k, O3.lies.dK ((s2.trans s3).ext _ _ e1), rfl, rfl⟩, ?_⟩
    cases h : kget kvs k with
    | none => rw [h] at g q; rw [g]; exact (q.step ((s1.trans s2).trans s3)).here O3 r3
    | some y => rw [h] at g q; obtain ⟨u, e5, r5⟩ := g; rw [e5]; exact (q.step ((s1.trans s2).trans s3)).here O3 r5)
theorem ev_get1 {kvs : List (Int × D)} {k : Int} (hu : X.A.units + 1 < cLine) (ho : EvM lk X o ds cs (.dic kvs) cs1) (he : EvM lk X e ds cs1 (.int k) cs2)
    (m : M1 X o "get" apos e cpos := by exact ⟨rfl, rfl, rfl, rfl⟩) : EvM lk X (.Call (.Attribute o "get" apos) [e] [] cpos) ds cs ((kget kvs k).getD .non) cs2 := fun σ S H O E Q q =>
  run_e (pe_dget1 hu pe_w pe_w m) (ho σ S H O E _ fun v S1 H1 O1 s1 r1 => by
    obtain ⟨p, ws, rfl, e1, r⟩ := rep_dic.mp r1
    refine ⟨p, rfl, .inl ⟨ws, O1.lies.dK e1⟩, he σ S1 H1 O1 (E.mono s1.ext) _ fun w S2 H2 O2 s2 r2 => ?_⟩
    rw [rep_int.mp r2]
    have g := (r.mono s2.ext).get (k := k)
    refine ⟨valV ws (Sum.inl k : Key), .inl ⟨ws, Sum.inl k, O2.lies.dK (s2.ext _ _ e1), rfl, rfl⟩, ?_⟩
    cases h : kget kvs k with
    | none => rw [h] at g q; rw [g]; exact (q.step (s1.trans s2)).here O2 (rep_non.mpr rfl)
    | some y => rw [h] at g q; obtain ⟨u, e5, r5⟩ := g; rw [e5]; exact (q.step (s1.trans s2)).here O2 r5)
/-! starred items -/
theorem ea_starL (ha : EvM lk X a ds cs (.lst xs) cs1) (hr : EvA lk X es ds cs1 ys cs2) (hs : starEach (.Starred a p2 :: es) X.env = (true, eval a X.env) :: starEach es X.env := by rfl) : EvA lk X (.Starred a p2 :: es) ds cs (xs ++ ys) cs2 := fun σ S H O E Q q =>
  run_a (StX.pa_star pe_w pa_w hs) (ha σ S H O E _ fun v S1 H1 O1 s1 r1 => by
    obtain ⟨p, ws, rfl, e, r⟩ := rep_lst.mp r1
    exact ⟨p, ws, rfl, .inr (sql O1.lies e), hr σ S1 H1 O1 (E.mono s1.ext) _ fun vs S2 H2 O2 s2 r2 => q _ S2 H2 O2 (s1.trans s2) ((r.mono s2.ext).append r2)⟩)
theorem ea_starU (ha : EvM lk X a ds cs (.tup xs) cs1) (hr : EvA lk X es ds cs1 ys cs2) (hs : starEach (.Starred a p2 :: es) X.env = (true, eval a X.env) :: starEach es X.env := by rfl) : EvA lk X (.Starred a p2 :: es) ds cs (xs ++ ys) cs2 := fun σ S H O E Q q =>
  run_a (StX.pa_star pe_w pa_w hs) (ha σ S H O E _ fun v S1 H1 O1 s1 r1 => by
    obtain ⟨p, ws, rfl, e, r⟩ := rep_tup.mp r1
    exact ⟨p, ws, rfl, .inl (sqt O1.lies e), hr σ S1 H1 O1 (E.mono s1.ext) _ fun vs S2 H2 O2 s2 r2 => q _ S2 H2 O2 (s1.trans s2) ((r.mono s2.ext).append r2)⟩)
end
end Af
set_option Elab.async false
set_option linter.all false
set_option maxRecDepth 100000
set_option maxHeartbeats 2000000
/-! ### statements, loops -/
namespace Af
open PySem L2

structure KE where
  nx : Ds → Cs → Prop
  rt : D → Cs → Prop
  bk : Ds → Cs → Prop := fun _ _ => False
  ct : Ds → Cs → Prop := fun _ _ => False
structure PostS (lk : List Addr) (cs : Cs) (S H : Hp) (k : KE) (D0 : Ends) : Prop where
  nx : ∀ ds' cs' σ' S' H', k.nx ds' cs' → Own lk S' H' cs' → Env S' ds' σ' → Stp cs S H S' H' cs' → D0.nx σ' H'
  rt : ∀ x cs' v S' H', k.rt x cs' → Own lk S' H' cs' → Stp cs S H S' H' cs' → Rep S' x v → D0.rt v H'
  bk : ∀ ds' cs' σ' S' H', k.bk ds' cs' → Own lk S' H' cs' → Env S' ds' σ' → Stp cs S H S' H' cs' → D0.bk σ' H'
  ct : ∀ ds' cs' σ' S' H', k.ct ds' cs' → Own lk S' H' cs' → Env S' ds' σ' → Stp cs S H S' H' cs' → D0.ct σ' H'
theorem PostS.step {lk : List Addr} {cs cs1 : Cs} {S H S1 H1 : Hp} {k : KE} {D0 : Ends} (st : Stp cs S H S1 H1 cs1) (p : PostS lk cs S H k D0) : PostS lk cs1 S1 H1 k D0 :=
  ⟨fun ds' cs' σ' S' H' h O E s => p.nx ds' cs' σ' S' H' h O E (st.trans s), fun x cs' v S' H' h O s r => p.rt x cs' v S' H' h O (st.trans s) r,
   fun ds' cs' σ' S' H' h O E s => p.bk ds' cs' σ' S' H' h O E (st.trans s), fun ds' cs' σ' S' H' h O E s => p.ct ds' cs' σ' S' H' h O E (st.trans s)⟩

section
variable (X : Cx)
def wS (st : Stmt) : TS := fun D0 σ H => ∀ pins s, Inv X pins σ H s → wpAny (model X.prog X.w) X.A (exec st X.env) (SP X pins D0) X.xe s
def wB (ss : List Stmt) : TS := fun D0 σ H => ∀ pins s, Inv X pins σ H s → wpAny (model X.prog X.w) X.A (execs ss X.env) (SP X pins D0) X.xe s
def wG (tg : Expr) : TG := fun v σ H Q => ∀ pins s u, Inv X pins σ H s → RelV v u → wpAny (model X.prog X.w) X.A (assign tg X.env u) (fun _ s' => ∃ σ' H', Inv X pins σ' H' s' ∧ Q σ' H') X.xe s
def wI (tg iter : Expr) : TI := fun σ H R => ∀ pins s, Inv X pins σ H s → wpAny (model X.prog X.w) X.A (eval iter X.env) (fun v s1 => wpAny (model X.prog X.w) X.A (pyIter v) (PIE X pins σ tg R) X.xe s1) X.xe s
end
section
variable {X : Cx}
theorem ps_w {st : Stmt} : PS X st (wS X st) := ⟨fun pins s σ H D0 I h => h pins s I⟩
theorem pss_w {ss : List Stmt} : PSs X ss (wB X ss) := ⟨fun pins s σ H D0 I h => h pins s I⟩
theorem pg_w {tg : Expr} : PG X tg (wG X tg) := ⟨fun pins s σ H v u Q I r h => h pins s u I r⟩
theorem pi_w {tg iter : Expr} : PI X tg iter (wI X tg iter) := ⟨fun pins s σ H R I h => h pins s I⟩
theorem run_s {st : Stmt} {t : TS} (h : PS X st t) {D0 : Ends} {σ : L2.St} {H : Hp} (q : t D0 σ H) : wS X st D0 σ H := fun pins s I => h.run pins s σ H D0 I q
theorem run_b {ss : List Stmt} {t : TS} (h : PSs X ss t) {D0 : Ends} {σ : L2.St} {H : Hp} (q : t D0 σ H) : wB X ss D0 σ H := fun pins s I => h.run pins s σ H D0 I q
theorem run_g {tg : Expr} {t : TG} (h : PG X tg t) {v : V} {σ : L2.St} {H : Hp} {Q : L2.St → Hp → Prop} (q : t v σ H Q) : wG X tg v σ H Q := fun pins s u I r => h.run pins s σ H v u Q I r q
theorem run_i {tg iter : Expr} {t : TI} (h : PI X tg iter t) {σ : L2.St} {H : Hp} {R : It → Hp → Prop} (q : t σ H R) : wI X tg iter σ H R := fun pins s I => h.run pins s σ H R I q
end

def SF (lk : List Addr) (X : Cx) (ss : List Stmt) (ds : Ds) (cs : Cs) (k : KE) : Prop := ∀ σ S H, Own lk S H cs → Env S ds σ → ∀ D0, PostS lk cs S H k D0 → wB X ss D0 σ H
def S1 (lk : List Addr) (X : Cx) (st : Stmt) (ds : Ds) (cs : Cs) (k : KE) : Prop := ∀ σ S H, Own lk S H cs → Env S ds σ → ∀ D0, PostS lk cs S H k D0 → wS X st D0 σ H
/-- a target takes a value -/
def TgB (X : Cx) (tg : Expr) (vs : List Nat) (x : D) (ds ds' : Ds) : Prop :=
  ∀ lk S H cs v σ, Own lk S H cs → Rep S x v → Env S ds σ → ∀ Q : L2.St → Hp → Prop, (∀ σ', Env S ds' σ' → L2.wipe σ' vs = L2.wipe σ vs → Q σ' H) → wG X tg v σ H Q
/-- what an iterator yields -/
structure Yl (lk : List Addr) (G : Cs → Prop) (J : It) (cs0 : Cs) (S H0 : Hp) (xs : List D) : Prop where
  stop : ∀ S' H' cs', Stp cs0 S H0 S' H' cs' → Own lk S' H' cs' → G cs' → J.stop xs.length H'
  go : ∀ i S' H' cs', i < xs.length → Stp cs0 S H0 S' H' cs' → Own lk S' H' cs' → G cs' → J.go i H'
  yld : ∀ i x S' H' cs' v H'', xs[i]? = some x → Stp cs0 S H0 S' H' cs' → Own lk S' H' cs' → G cs' → J.yld i H' v H'' → ∃ S'', Own lk S'' H'' cs' ∧ Stp cs' S' H' S'' H'' cs' ∧ Rep S'' x v
def EvI (lk : List Addr) (X : Cx) (tg iter : Expr) (ds : Ds) (cs : Cs) (xs : List D) (cs' : Cs) (G : Cs → Prop) : Prop :=
  ∀ σ S H, Own lk S H cs → Env S ds σ → ∀ R : It → Hp → Prop, (∀ J S' H', Own lk S' H' cs' → Stp cs S H S' H' cs' → Yl lk G J cs' S' H' xs → R J H') → wI X tg iter σ H R

section
variable {lk : List Addr} {X : Cx} {a b c e o tg iter : Expr} {es : List Expr} {st : Stmt} {ss rest body : List Stmt} {ds ds' ds'' : Ds} {cs cs0 cs1 cs2 cs3 : Cs} {x y z : D} {xs ys : List D} {pos p2 apos cpos : Pos} {P : D → Cs → Prop} {k : KE} {G : Cs → Prop}

theorem sf_nil (h : k.nx ds cs) : SF lk X [] ds cs k := fun σ S H O E D0 p => run_b pss_nil (p.nx _ _ _ _ _ h O E .refl)
theorem sf_cons (h : S1 lk X st ds cs { k with nx := fun ds' cs' => SF lk X rest ds' cs' k }) : SF lk X (st :: rest) ds cs k := fun σ S H O E D0 p =>
  run_b (pss_cons ps_w pss_w) (h σ S H O E { D0 with nx := wB X rest D0 } ⟨fun ds' cs' σ' S' H' q O' E' s => q σ' S' H' O' E' D0 (p.step s), p.rt, p.bk, p.ct⟩)
theorem SF.mono {k' : KE} (h : SF lk X ss ds cs k) (h1 : ∀ ds cs, k.nx ds cs → k'.nx ds cs) (h2 : ∀ x cs, k.rt x cs → k'.rt x cs) (h3 : ∀ ds cs, k.bk ds cs → k'.bk ds cs) (h4 : ∀ ds cs, k.ct ds cs → k'.ct ds cs) : SF lk X ss ds cs k' := fun σ S H O E D0 p =>
  h σ S H O E D0 ⟨fun _ _ _ _ _ q => p.nx _ _ _ _ _ (h1 _ _ q), fun _ _ _ _ _ q => p.rt _ _ _ _ _ (h2 _ _ q), fun _ _ _ _ _ q => p.bk _ _ _ _ _ (h3 _ _ q), fun _ _ _ _ _ q => p.ct _ _ _ _ _ (h4 _ _ q)⟩
/-- slots may be forgotten -/
theorem SF.weak (h : SF lk X ss ds' cs k) (hl : ds'.length = ds.length) (hw : ∀ (i : Nat) (x : D), ds'[i]? = some (some x) → ds[i]? = some (some x)) : SF lk X ss ds cs k := fun σ S H O E D0 p => h σ S H O (E.weak hl hw) D0 p
/-- a cell is given up -/
theorem SF.freezeL {p : Addr} (i j : Nat) (hi : ds[i]? = some (some (.ptr p))) (hj : cs[j]? = some (p, .lst xs)) (h : SF lk X ss (ds.set i (some (.lst xs))) (cs.eraseIdx j) k) : SF lk X ss ds cs k := fun σ S H O E D0 q => by
  obtain ⟨vs, e, r⟩ := O.at_ hj
  have hs : S p = none := (O.cell _ (List.mem_of_getElem? hj)).1
  obtain ⟨v, ev, rv⟩ := E.at_ i _ hi
  have E' : Env (upd S p (.lst vs)) (ds.set i (some (.lst xs))) σ := by
    have := (E.mono (Ext.new (o := .lst vs) hs)).set (i := i) (x := .lst xs) (v := v) (by
      rw [rep_ptr.mp rv]; exact rep_lst.mpr ⟨p, vs, rfl, upd_same, r.mono (.new hs)⟩)
    have hl : i < σ.length := (List.getElem?_eq_some_iff.mp ev).1
    have e2 : σ.set i (some v) = σ := by
      have : σ[i] = some v := (List.getElem?_eq_some_iff.mp ev).2
      rw [← this]; exact List.set_getElem_self hl
    rwa [e2] at this
  exact h σ _ H (O.freeze hj e) E' D0 (q.step (.freeze O hj))
theorem SF.freezeK {p : Addr} {kvs : List (Int × D)} (i j : Nat) (hi : ds[i]? = some (some (.ptr p))) (hj : cs[j]? = some (p, .dic kvs)) (h : SF lk X ss (ds.set i (some (.dic kvs))) (cs.eraseIdx j) k) : SF lk X ss ds cs k := fun σ S H O E D0 q => by
  obtain ⟨vs, e, r⟩ := O.at_ hj
  have hs : S p = none := (O.cell _ (List.mem_of_getElem? hj)).1
  obtain ⟨v, ev, rv⟩ := E.at_ i _ hi
  have E' : Env (upd S p (.dK vs)) (ds.set i (some (.dic kvs))) σ := by
    have := (E.mono (Ext.new (o := .dK vs) hs)).set (i := i) (x := .dic kvs) (v := v) (by
      rw [rep_ptr.mp rv]; exact rep_dic.mpr ⟨p, vs, rfl, upd_same, r.mono (.new hs)⟩)
    have hl : i < σ.length := (List.getElem?_eq_some_iff.mp ev).1
    have e2 : σ.set i (some v) = σ := by
      have : σ[i] = some v := (List.getElem?_eq_some_iff.mp ev).2
      rw [← this]; exact List.set_getElem_self hl
    rwa [e2] at this
  exact h σ _ H (O.freeze hj e) E' D0 (q.step (.freeze O hj))

theorem s_pass (h : k.nx ds cs) : S1 lk X (.Pass pos) ds cs k := fun σ S H O E D0 p => run_s ps_pass (p.nx _ _ _ _ _ h O E .refl)
theorem s_set (i : Nat) {n : Str} {pos' : Pos} (nd : X.N.Nodup) (he : EvM lk X e ds cs x cs1) (h : k.nx (ds.set i (some x)) cs1) (hi : X.N[i]? = some n := by rfl) (hx : Loc X.env.scope n := by first | exact Or.inl rfl | exact Or.inr rfl)
    (hs : swapsWith e (some (.Name n pos')) pos.line X.env = pure false := by rfl) (hf : X.fn n = true ∨ X.env.scope.names.lookup n = some .local := by first | exact .inl rfl | exact .inr rfl) : S1 lk X (.Assign [.Name n pos'] e pos) ds cs k := fun σ S H O E D0 p =>
  run_s (ps_set nd hi hx pe_w hs hf) (he σ S H O E _ fun v S1 H1 O1 s1 r1 => p.nx _ _ _ _ _ h O1 ((E.mono s1.ext).set r1) s1)
theorem s_setP (i : Nat) {n : Str} {pos' : Pos} (nd : X.N.Nodup) (he : EvP lk X e ds cs P) (h : ∀ x cs1, P x cs1 → k.nx (ds.set i (some x)) cs1) (hi : X.N[i]? = some n := by rfl) (hx : Loc X.env.scope n := by first | exact Or.inl rfl | exact Or.inr rfl)
    (hs : swapsWith e (some (.Name n pos')) pos.line X.env = pure false := by rfl) (hf : X.fn n = true ∨ X.env.scope.names.lookup n = some .local := by first | exact .inl rfl | exact .inr rfl) : S1 lk X (.Assign [.Name n pos'] e pos) ds cs k := fun σ S H O E D0 p =>
  run_s (ps_set nd hi hx pe_w hs hf) (he σ S H O E _ fun x cs1 hp v S1 H1 O1 s1 r1 => p.nx _ _ _ _ _ (h x cs1 hp) O1 ((E.mono s1.ext).set r1) s1)
theorem s_expr (he : EvM lk X e ds cs x cs1) (h : k.nx ds cs1) (hs : swapsWith e none pos.line X.env = pure false := by rfl) : S1 lk X (.Expr e pos) ds cs k := fun σ S H O E D0 p =>
  run_s (ps_expr pe_w hs) (he σ S H O E _ fun v S1 H1 O1 s1 r1 => p.nx _ _ _ _ _ h O1 (E.mono s1.ext) s1)
theorem s_exprP (he : EvP lk X e ds cs P) (h : ∀ x cs1, P x cs1 → k.nx ds cs1) (hs : swapsWith e none pos.line X.env = pure false := by rfl) : S1 lk X (.Expr e pos) ds cs k := fun σ S H O E D0 p =>
  run_s (ps_expr pe_w hs) (he σ S H O E _ fun x cs1 hp v S1 H1 O1 s1 r1 => p.nx _ _ _ _ _ (h x cs1 hp) O1 (E.mono s1.ext) s1)
theorem s_ret (he : EvM lk X e ds cs x cs1) (h : k.rt x cs1) : S1 lk X (.Return (some e) pos) ds cs k := fun σ S H O E D0 p =>
  run_s (ps_ret pe_w) (he σ S H O E _ fun v S1 H1 O1 s1 r1 => p.rt _ _ _ _ _ h O1 s1 r1)
theorem s_retP (he : EvP lk X e ds cs P) (h : ∀ x cs1, P x cs1 → k.rt x cs1) : S1 lk X (.Return (some e) pos) ds cs k := fun σ S H O E D0 p =>
  run_s (ps_ret pe_w) (he σ S H O E _ fun x cs1 hp v S1 H1 O1 s1 r1 => p.rt _ _ _ _ _ (h x cs1 hp) O1 s1 r1)
theorem s_retN (h : k.rt .non cs) : S1 lk X (.Return none pos) ds cs k := fun σ S H O E D0 p => run_s ps_retN (p.rt _ _ _ _ _ h O .refl (rep_non.mpr rfl))
theorem s_ifT (hc : EvT lk X c ds cs true cs1) (h : SF lk X ss ds cs1 k) : S1 lk X (.If c ss rest pos) ds cs k := fun σ S H O E D0 p =>
  run_s (ps_if pt_w pss_w pss_w) (hc σ S H O E _ fun S1 H1 O1 s1 => by rw [if_pos rfl]; exact h σ S1 H1 O1 (E.mono s1.ext) D0 (p.step s1))
theorem s_ifF (hc : EvT lk X c ds cs false cs1) (h : SF lk X rest ds cs1 k) : S1 lk X (.If c ss rest pos) ds cs k := fun σ S H O E D0 p =>
  run_s (ps_if pt_w pss_w pss_w) (hc σ S H O E _ fun S1 H1 O1 s1 => by rw [if_neg Bool.false_ne_true]; exact h σ S1 H1 O1 (E.mono s1.ext) D0 (p.step s1))
theorem s_if {t : Bool} (hc : EvT lk X c ds cs t cs1) (h1 : t = true → SF lk X ss ds cs1 k) (h2 : t = false → SF lk X rest ds cs1 k) : S1 lk X (.If c ss rest pos) ds cs k := by
  cases t with
  | true => exact s_ifT hc (h1 rfl)
  | false => exact s_ifF hc (h2 rfl)
/-- self.f = e -/
theorem ffput {S : Hp} {f : Str} {v : V} (r : Rep S x v) : ∀ {fs : List (Str × D)} {ws : List (Str × V)}, RepF S fs ws → RepF S (fput f x fs) (putF f v ws)
  | [], ws, h => by rw [RepF] at h; rw [h]; exact .cons r .nil
  | (j, y) :: fs, ws, h => by
    rw [RepF] at h; obtain ⟨w, us, rfl, q, t⟩ := h
    unfold fput putF
    by_cases e : j = f
    · rw [if_pos e, if_pos e, e]; exact .cons r t
    · rw [if_neg e, if_neg e]; exact .cons q (ffput r t)
theorem s_fld {C dx p : Addr} {f : Str} {fs : List (Str × D)} {pos' : Pos} (i : Nat) (cl : Cls X.K C) (n : NoAttr X.K C f) (he : EvM lk X e ds cs x cs1) (ho : EvM lk X o ds cs1 (.ptr p) cs2) (hi : cs2[i]? = some (p, .ins C dx fs)) (hl : fs.length < 1000)
    (h : k.nx ds (cs2.set i (p, .ins C dx (fput f x fs)))) (hs : swapsWith e (some (.Attribute o f pos')) pos.line X.env = pure false := by rfl) : S1 lk X (.Assign [.Attribute o f pos'] e pos) ds cs k := fun σ S H O E D0 q =>
  run_s (ps_fld pe_w pe_w hs) (he σ S H O E _ fun v S1 H1 O1 s1 r1 => ho σ S1 H1 O1 (E.mono s1.ext) _ fun w S2 H2 O2 s2 r2 => by
    obtain ⟨ws, e2, r3⟩ := O2.at_ hi
    rw [rep_ptr.mp r2]
    refine ⟨p, C, dx, ws, rfl, e2, cl, n, by rw [r3.len]; exact hl, ?_⟩
    exact q.nx _ _ _ _ _ h (O2.write hi ⟨_, upd_same, ffput (r1.mono s2.ext) r3⟩) (E.mono (s1.trans s2).ext) ((s1.trans s2).trans (.write hi)))
theorem s_fldP {C dx p : Addr} {f : Str} {fs : List (Str × D)} {pos' : Pos} (i : Nat) (cl : Cls X.K C) (n : NoAttr X.K C f) (he : EvP lk X e ds cs P) (ho : ∀ x cs1, P x cs1 → EvM lk X o ds cs1 (.ptr p) cs1) (hi : ∀ x cs1, P x cs1 → cs1[i]? = some (p, .ins C dx fs)) (hl : fs.length < 1000)
    (h : ∀ x cs1, P x cs1 → k.nx ds (cs1.set i (p, .ins C dx (fput f x fs)))) (hs : swapsWith e (some (.Attribute o f pos')) pos.line X.env = pure false := by rfl) : S1 lk X (.Assign [.Attribute o f pos'] e pos) ds cs k := fun σ S H O E D0 q =>
  run_s (ps_fld pe_w pe_w hs) (he σ S H O E _ fun x cs1 hp v S1 H1 O1 s1 r1 => ho x cs1 hp σ S1 H1 O1 (E.mono s1.ext) _ fun w S2 H2 O2 s2 r2 => by
    obtain ⟨ws, e2, r3⟩ := O2.at_ (hi x cs1 hp)
    rw [rep_ptr.mp r2]
    refine ⟨p, C, dx, ws, rfl, e2, cl, n, by rw [r3.len]; exact hl, ?_⟩
    exact q.nx _ _ _ _ _ (h x cs1 hp) (O2.write (hi x cs1 hp) ⟨_, upd_same, ffput (r1.mono s2.ext) r3⟩) (E.mono (s1.trans s2).ext) ((s1.trans s2).trans (.write (hi x cs1 hp))))
/-- xs[i] = e, a list that changes -/
theorem s_idx {p : Addr} {j : Int} {m : Nat} (i : Nat) (he : EvM lk X e ds cs x cs1) (ha : EvM lk X a ds cs1 (.ptr p) cs2) (hb : EvM lk X b ds cs2 (.int j) cs3) (hi : cs3[i]? = some (p, .lst xs)) (hj : ixN xs.length j = some m) (h : k.nx ds (cs3.set i (p, .lst (xs.set m x))))
    (hs : swapsWithSole [.Subscript a b p2] e pos.line X.env = pure false := by rfl) (hw : swappedStores [.Subscript a b p2] e X.env = pure none := by rfl) (h1 : (assignEach [.Subscript a b p2] X.env).map (·.2) = [assign (.Subscript a b p2) X.env] := by rfl)
    (ha' : ∀ v, assign (.Subscript a b p2) X.env v = (do
      let ov ← holding [v] (eval a X.env)
      let iv ← holding [v, ov] (eval b X.env)
      standAt p2
      holding [v, ov, iv] (setItem ov iv v)
      release [v, ov, iv] []) := by intro _; rfl) : S1 lk X (.Assign [.Subscript a b p2] e pos) ds cs k := fun σ S H O E D0 q =>
  run_s (ps_asg pe_w (pg_sub pe_w pe_w set_list ha') hs hw h1) (he σ S H O E _ fun v S1 H1 O1 s1 r1 => ha σ S1 H1 O1 (E.mono s1.ext) _ fun w S2 H2 O2 s2 r2 => hb σ S2 H2 O2 (E.mono (s1.trans s2).ext) _ fun u S3 H3 O3 s3 r3 => by
    obtain ⟨ws, e2, r4⟩ := O3.at_ hi
    rw [rep_ptr.mp r2, rep_int.mp r3]
    refine ⟨p, ws, j, m, rfl, rfl, e2, by rw [r4.len]; exact hj, ?_⟩
    exact q.nx _ _ _ _ _ h (O3.write hi ⟨_, upd_same, Reps.set (r1.mono (s2.trans s3).ext) m r4⟩) (E.mono ((s1.trans s2).trans s3).ext) (((s1.trans s2).trans s3).trans (.write hi)))
/-- d[k] = e, a dict that changes -/
theorem s_dput {p : Addr} {j : Int} {kvs : List (Int × D)} (i : Nat) (hu : X.A.units + 1 < cLine) (he : EvM lk X e ds cs x cs1) (ha : EvM lk X a ds cs1 (.ptr p) cs2) (hb : EvM lk X b ds cs2 (.int j) cs3) (hi : cs3[i]? = some (p, .dic kvs)) (hl : kvs.length < 1000000) (h : k.nx ds (cs3.set i (p, .dic (kput kvs j x))))
    (hs : swapsWith e (some (.Subscript a b p2)) pos.line X.env = pure false := by rfl) : S1 lk X (.Assign [.Subscript a b p2] e pos) ds cs k := fun σ S H O E D0 q =>
  run_s (ps_dput hu pe_w pe_w pe_w hs) (he σ S H O E _ fun v S1 H1 O1 s1 r1 => ha σ S1 H1 O1 (E.mono s1.ext) _ fun w S2 H2 O2 s2 r2 => hb σ S2 H2 O2 (E.mono (s1.trans s2).ext) _ fun u S3 H3 O3 s3 r3 => by
    obtain ⟨ws, e2, r4⟩ := O3.at_ hi
    rw [rep_ptr.mp r2, rep_int.mp r3]
    refine ⟨p, _, rfl, DPut.k (k := Sum.inl j) e2 (by rw [r4.len]; exact szl hl), ?_⟩
    exact q.nx _ _ _ _ _ h (O3.write hi ⟨_, upd_same, r4.put (r1.mono (s2.trans s3).ext)⟩) (E.mono ((s1.trans s2).trans s3).ext) (((s1.trans s2).trans s3).trans (.write hi)))
/-! targets -/
theorem tg_name (i : Nat) {n : Str} {vs : List Nat} (nd : X.N.Nodup) (hv : i ∈ vs := by simp) (hi : X.N[i]? = some n := by rfl) (hx : Loc X.env.scope n := by first | exact Or.inl rfl | exact Or.inr rfl)
    (hf : X.fn n = true ∨ X.env.scope.names.lookup n = some .local := by first | exact .inl rfl | exact .inr rfl) : TgB X (.Name n pos) vs x ds (ds.set i (some x)) := fun lk S H cs v σ O r E Q q =>
  run_g (pg_name nd hi hx hf) (q _ (E.set r) (wipe_at hv))
theorem s_tgt {vs : List Nat} (he : EvM lk X e ds cs x cs1) (ht : TgB X tg vs x ds ds') (h : k.nx ds' cs1) (hs : swapsWithSole [tg] e pos.line X.env = pure false := by rfl) (hw : swappedStores [tg] e X.env = pure none := by rfl)
    (h1 : (assignEach [tg] X.env).map (·.2) = [assign tg X.env] := by rfl) : S1 lk X (.Assign [tg] e pos) ds cs k := fun σ S H O E D0 p =>
  run_s (ps_asg pe_w pg_w hs hw h1) (he σ S H O E _ fun v S1 H1 O1 s1 r1 => ht lk S1 H1 cs1 v σ O1 r1 (E.mono s1.ext) _ fun σ' E' _ => p.nx _ _ _ _ _ h O1 E' s1)
/-- names in a tuple, by slots -/
def sets (ds : Ds) : List Nat → List D → Ds
  | i :: is, x :: xs => sets (ds.set i (some x)) is xs
  | _, _ => ds
theorem tg_tup2 (i j : Nat) {n m : Str} {kk : Nat} {p3 p4 : Pos} {vs : List Nat} (nd : X.N.Nodup) (hc : X.calm = true := by rfl) (hv : i ∈ vs := by simp) (hv2 : j ∈ vs := by simp) (hi : X.N[i]? = some n := by rfl) (hj : X.N[j]? = some m := by rfl)
    (hx : Loc X.env.scope n := by first | exact Or.inl rfl | exact Or.inr rfl) (hy : Loc X.env.scope m := by first | exact Or.inl rfl | exact Or.inr rfl)
    (hf : X.fn n = true ∨ X.env.scope.names.lookup n = some .local := by first | exact .inl rfl | exact .inr rfl) (hg : X.fn m = true ∨ X.env.scope.names.lookup m = some .local := by first | exact .inl rfl | exact .inr rfl)
    (hn : (assignEach [.Name n p3, .Name m p4] X.env).length = 2 := by rfl) (hst : (assignEach [.Name n p3, .Name m p4] X.env).findIdx? (·.1) = none := by rfl)
    (h1 : (assignEach [.Name n p3, .Name m p4] X.env).map (·.2) = assign (.Name n p3) X.env :: (assignEach [.Name m p4] X.env).map (·.2) := by rfl) (h2 : (assignEach [.Name m p4] X.env).map (·.2) = assign (.Name m p4) X.env :: (assignEach [] X.env).map (·.2) := by rfl) :
    TgB X (.Tuple [.Name n p3, .Name m p4] kk pos) vs (.tup [x, y]) ds ((ds.set i (some x)).set j (some y)) := fun lk S H cs v σ O r E Q q =>
  run_g (pg_tup hc (pgs_cons (pg_name nd hi hx hf) (pgs_cons (pg_name nd hj hy hg) pgs_nil h2) h1) hn hst) (by
    obtain ⟨p, ws, rfl, e, r⟩ := rep_tup.mp r
    obtain ⟨v, w, rfl, r1, r2⟩ := r.two
    exact ⟨p, _, rfl, sqt O.lies e, rfl, v, [w], rfl, w, [], rfl, rfl, q _ ((E.set r1).set r2) (by rw [wipe_at hv2, wipe_at hv])⟩)
theorem tg_tup3 (i j l : Nat) {n m t : Str} {kk : Nat} {p3 p4 p5 : Pos} {vs : List Nat} (nd : X.N.Nodup) (hc : X.calm = true := by rfl) (hv : i ∈ vs := by simp) (hv2 : j ∈ vs := by simp) (hv3 : l ∈ vs := by simp) (hi : X.N[i]? = some n := by rfl) (hj : X.N[j]? = some m := by rfl) (hl : X.N[l]? = some t := by rfl)
    (hx : Loc X.env.scope n := by first | exact Or.inl rfl | exact Or.inr rfl) (hy : Loc X.env.scope m := by first | exact Or.inl rfl | exact Or.inr rfl) (hz : Loc X.env.scope t := by first | exact Or.inl rfl | exact Or.inr rfl)
    (hf : X.fn n = true ∨ X.env.scope.names.lookup n = some .local := by first | exact .inl rfl | exact .inr rfl) (hg : X.fn m = true ∨ X.env.scope.names.lookup m = some .local := by first | exact .inl rfl | exact .inr rfl) (hh : X.fn t = true ∨ X.env.scope.names.lookup t = some .local := by first | exact .inl rfl | exact .inr rfl)
    (hn : (assignEach [.Name n p3, .Name m p4, .Name t p5] X.env).length = 3 := by rfl) (hst : (assignEach [.Name n p3, .Name m p4, .Name t p5] X.env).findIdx? (·.1) = none := by rfl)
    (h1 : (assignEach [.Name n p3, .Name m p4, .Name t p5] X.env).map (·.2) = assign (.Name n p3) X.env :: (assignEach [.Name m p4, .Name t p5] X.env).map (·.2) := by rfl) (h2 : (assignEach [.Name m p4, .Name t p5] X.env).map (·.2) = assign (.Name m p4) X.env :: (assignEach [.Name t p5] X.env).map (·.2) := by rfl) (h3 : (assignEach [.Name t p5] X.env).map (·.2) = assign (.Name t p5) X.env :: (assignEach [] X.env).map (·.2) := by rfl) :
    TgB X (.Tuple [.Name n p3, .Name m p4, .Name t p5] kk pos) vs (.tup [x, y, z]) ds (((ds.set i (some x)).set j (some y)).set l (some z)) := fun lk S H cs v σ O r E Q q =>
  run_g (pg_tup hc (pgs_cons (pg_name nd hi hx hf) (pgs_cons (pg_name nd hj hy hg) (pgs_cons (pg_name nd hl hz hh) pgs_nil h3) h2) h1) hn hst) (by
    obtain ⟨p, ws, rfl, e, r⟩ := rep_tup.mp r
    obtain ⟨v, us, rfl, r1, r⟩ := r.uncons
    obtain ⟨w, u, rfl, r2, r3⟩ := r.two
    exact ⟨p, _, rfl, sqt O.lies e, rfl, v, _, rfl, w, _, rfl, u, [], rfl, rfl, q _ (((E.set r1).set r2).set r3) (by rw [wipe_at hv3, wipe_at hv2, wipe_at hv])⟩)
/-- a, b = e1, e2 -/
theorem s_par (i j : Nat) {n m : Str} {px py pt : Pos} {kt k2 : Nat} {pt2 : Pos} (nd : X.N.Nodup) (ha : EvA lk X [a, b] ds cs [x, y] cs1) (h : k.nx ((ds.set i (some x)).set j (some y)) cs1) (hc : X.calm = true := by rfl) (hi : X.N[i]? = some n := by rfl) (hj : X.N[j]? = some m := by rfl) (hij : i ≠ j := by decide)
    (hx : X.env.scope.names.lookup n = some .local := by rfl) (hy : X.env.scope.names.lookup m = some .local := by rfl) (hw : swappedStores [.Tuple [.Name n px, .Name m py] kt pt] (.Tuple [a, b] k2 pt2) X.env = pure (some [n, m]) := by rfl)
    (hs : swapsWithSole [.Tuple [.Name n px, .Name m py] kt pt] (.Tuple [a, b] k2 pt2) pos.line X.env = pure false := by rfl) : S1 lk X (.Assign [.Tuple [.Name n px, .Name m py] kt pt] (.Tuple [a, b] k2 pt2) pos) ds cs k := fun σ S H O E D0 p =>
  run_s (ps_par hc nd hi hj hij hx hy pa_w hw hs) (ha σ S H O E _ fun vs S1 H1 O1 s1 r1 => by
    obtain ⟨v, w, rfl, r1, r2⟩ := r1.two
    exact ⟨v, w, rfl, p.nx _ _ _ _ _ h O1 (((E.mono s1.ext).set r1).set r2) s1⟩)
/-! what is walked -/
theorem ei_lst (h : EvM lk X e ds cs (.lst xs) cs1) : EvI lk X tg e ds cs xs cs1 (fun _ => True) := fun σ S H O E R q =>
  run_i (pi_list pe_w) (h σ S H O E _ fun v S1 H1 O1 s1 r1 => by
    obtain ⟨p, vs, rfl, e1, r⟩ := rep_lst.mp r1
    refine ⟨p, rfl, ⟨vs, sql O1.lies e1⟩, q _ S1 H1 O1 s1 ⟨fun S' H' cs' x O _ => ⟨vs, sql O.lies (x.ext _ _ e1), by rw [r.len]; exact Nat.le_refl _⟩, fun i S' H' cs' h x O _ => ?_, fun i y S' H' cs' v H'' h x O _ g => ?_⟩⟩
    · obtain ⟨w, hw, _⟩ := r.get (i := i) (x := xs[i]) (by simp [h])
      exact ⟨vs, w, sql O.lies (x.ext _ _ e1), hw⟩
    · obtain ⟨e2, g⟩ := g
      subst e2
      obtain ⟨w, hw, rw_⟩ := r.get h
      have := g vs (sql O.lies (x.ext _ _ e1))
      rw [hw] at this
      cases this
      exact ⟨S', O, .refl, rw_.mono x.ext⟩)
theorem ei_tup (h : EvM lk X e ds cs (.tup xs) cs1) : EvI lk X tg e ds cs xs cs1 (fun _ => True) := fun σ S H O E R q =>
  run_i (pi_tup pe_w) (h σ S H O E _ fun v S1 H1 O1 s1 r1 => by
    obtain ⟨p, vs, rfl, e1, r⟩ := rep_tup.mp r1
    refine ⟨p, rfl, ⟨vs, sqt O1.lies e1⟩, q _ S1 H1 O1 s1 ⟨fun S' H' cs' x O _ => ⟨vs, sqt O.lies (x.ext _ _ e1), by rw [r.len]; exact Nat.le_refl _⟩, fun i S' H' cs' h x O _ => ?_, fun i y S' H' cs' v H'' h x O _ g => ?_⟩⟩
    · obtain ⟨w, hw, _⟩ := r.get (i := i) (x := xs[i]) (by simp [h])
      exact ⟨vs, w, sqt O.lies (x.ext _ _ e1), hw⟩
    · obtain ⟨e2, g⟩ := g
      subst e2
      obtain ⟨w, hw, rw_⟩ := r.get h
      have := g vs (sqt O.lies (x.ext _ _ e1))
      rw [hw] at this
      cases this
      exact ⟨S', O, .refl, rw_.mono x.ext⟩)
/-- a list that may change, but does not while it is walked -/
theorem ei_cell {p : Addr} (j : Nat) (h : EvM lk X e ds cs (.ptr p) cs1) (hj : cs1[j]? = some (p, .lst xs)) : EvI lk X tg e ds cs xs cs1 (fun cs' => cs'[j]? = some (p, .lst xs)) := fun σ S H O E R q =>
  run_i (pi_list pe_w) (h σ S H O E _ fun v S1 H1 O1 s1 r1 => by
    obtain ⟨vs, e1, r⟩ := O1.at_ hj
    rw [rep_ptr.mp r1]
    refine ⟨p, rfl, ⟨vs, .of e1⟩, q _ S1 H1 O1 s1 ⟨fun S' H' cs' x O g => ?_, fun i S' H' cs' h x O g => ?_, fun i y S' H' cs' v H'' h x O gg g => ?_⟩⟩
    · obtain ⟨ws, e2, r2⟩ := O.at_ g
      exact ⟨ws, .of e2, by rw [r2.len]; exact Nat.le_refl _⟩
    · obtain ⟨ws, e2, r2⟩ := O.at_ g
      obtain ⟨w, hw, _⟩ := r2.get (i := i) (x := xs[i]) (by simp [h])
      exact ⟨ws, w, .of e2, hw⟩
    · obtain ⟨e3, g⟩ := g
      subst e3
      obtain ⟨ws, e2, r2⟩ := O.at_ gg
      obtain ⟨w, hw, rw_⟩ := r2.get h
      have := g ws (.of e2)
      rw [hw] at this
      cases this
      exact ⟨S', O, .refl, rw_⟩)
def rng (lo : Int) (n : Nat) : List D := (List.range n).map fun i => D.int (lo + (i : Nat))
theorem rng_len (lo : Int) (n : Nat) : (rng lo n).length = n := by unfold rng; simp
theorem rng_get {lo : Int} {n i : Nat} (h : (rng lo n)[i]? = some x) : i < n ∧ x = .int (lo + (i : Nat)) := by
  unfold rng at h
  rw [List.getElem?_map] at h
  by_cases hi : i < n
  · rw [List.getElem?_range hi] at h
    simp at h
    exact ⟨hi, h.symm⟩
  · rw [List.getElem?_eq_none (by simpa using hi)] at h; cases h
theorem yl_rng {lo : Int} {n : Nat} {S0 H0 : Hp} {cs0 : Cs} : Yl lk (fun _ => True) (Itr lo n) cs0 S0 H0 (rng lo n) := by
  refine ⟨fun S' H' cs' x O _ => by rw [rng_len]; exact Nat.le_refl _, fun i S' H' cs' h x O _ => by rw [rng_len] at h; exact h, fun i y S' H' cs' v H'' h x O _ g => ?_⟩
  obtain ⟨e1, e2⟩ := g
  subst e1
  exact ⟨S', O, .refl, by rw [(rng_get h).2, e2]; exact rep_int.mpr rfl⟩
theorem ei_range1 {j : Int} {p : Pos} (hm : X.mg "range" = none) (ha : EvM lk X a ds cs (.int j) cs1) (h : -(2 ^ 62) ≤ j ∧ j < 2 ^ 62) (hg : Gl X "range" := by rfl) (hs : starEach [a] X.env = (false, eval a X.env) :: starEach [] X.env := by rfl) :
    EvI lk X tg (.Call (.Name "range" p) [a] [] pos) ds cs (rng 0 j.toNat) cs1 (fun _ => True) := fun σ S H O E R q =>
  run_i (pi_range1 hg hm (pa_cons pe_w pa_nil hs) (by rw [hs]; rfl)) (ha σ S H O E _ fun v S1 H1 O1 s1 r1 => ⟨j, by rw [rep_int.mp r1], h.1, h.2, q _ S1 H1 O1 s1 yl_rng⟩)
theorem ei_range2 {i j : Int} {p : Pos} (hm : X.mg "range" = none) (ha : EvM lk X a ds cs (.int i) cs1) (hb : EvM lk X b ds cs1 (.int j) cs2) (h : -(2 ^ 62) ≤ i ∧ i < 2 ^ 62 ∧ -(2 ^ 62) ≤ j ∧ j < 2 ^ 62) (hg : Gl X "range" := by rfl)
    (hs : starEach [a, b] X.env = (false, eval a X.env) :: starEach [b] X.env := by rfl) (hs2 : starEach [b] X.env = (false, eval b X.env) :: starEach [] X.env := by rfl) :
    EvI lk X tg (.Call (.Name "range" p) [a, b] [] pos) ds cs (rng i (j - i).toNat) cs2 (fun _ => True) := fun σ S H O E R q =>
  run_i (pi_range2 hg hm (pa_cons pe_w (pa_cons pe_w pa_nil hs2) hs) (by rw [hs, hs2]; rfl) (by rw [hs2]; rfl)) (ha σ S H O E _ fun v S1 H1 O1 s1 r1 => hb σ S1 H1 O1 (E.mono s1.ext) _ fun w S2 H2 O2 s2 r2 => ⟨i, j, by rw [rep_int.mp r1, rep_int.mp r2], h, q _ S2 H2 O2 (s1.trans s2) yl_rng⟩)
def rngC (lo c : Int) (n : Nat) : List D := (List.range n).map fun i => D.int (lo + (i : Nat) * c)
theorem rngC_len (lo c : Int) (n : Nat) : (rngC lo c n).length = n := by unfold rngC; simp
theorem rngC_get {lo c : Int} {n i : Nat} (h : (rngC lo c n)[i]? = some x) : i < n ∧ x = .int (lo + (i : Nat) * c) := by
  unfold rngC at h
  rw [List.getElem?_map] at h
  by_cases hi : i < n
  · rw [List.getElem?_range hi] at h
    simp at h
    exact ⟨hi, h.symm⟩
  · rw [List.getElem?_eq_none (by simpa using hi)] at h; cases h
theorem ei_range3 {i j c' : Int} {n : Nat} {p : Pos} (hm : X.mg "range" = none) (ha : EvM lk X a ds cs (.int i) cs1) (hb : EvM lk X b ds cs1 (.int j) cs2) (hc : EvM lk X c ds cs2 (.int c') cs3) (h : RgC i j c' n) (hg : Gl X "range" := by rfl)
    (hs : starEach [a, b, c] X.env = (false, eval a X.env) :: starEach [b, c] X.env := by rfl) (hs2 : starEach [b, c] X.env = (false, eval b X.env) :: starEach [c] X.env := by rfl) (hs3 : starEach [c] X.env = (false, eval c X.env) :: starEach [] X.env := by rfl) :
    EvI lk X tg (.Call (.Name "range" p) [a, b, c] [] pos) ds cs (rngC i c' n) cs3 (fun _ => True) := fun σ S H O E R q =>
  run_i (pi_range3 hg hm (pa_cons pe_w (pa_cons pe_w (pa_cons pe_w pa_nil hs3) hs2) hs) hs (by rw [hs2, hs3]; rfl)) (ha σ S H O E _ fun v S1 H1 O1 s1 r1 => hb σ S1 H1 O1 (E.mono s1.ext) _ fun w S2 H2 O2 s2 r2 => hc σ S2 H2 O2 (E.mono (s1.trans s2).ext) _ fun u S3 H3 O3 s3 r3 =>
    ⟨i, j, c', n, by rw [rep_int.mp r1, rep_int.mp r2, rep_int.mp r3], h, q _ S3 H3 O3 ((s1.trans s2).trans s3) ⟨fun S' H' cs' x O _ => by rw [rngC_len]; exact Nat.le_refl _, fun i S' H' cs' h x O _ => by rw [rngC_len] at h; exact h, fun i y S' H' cs' v H'' h x O _ g => by
      obtain ⟨e1, e2⟩ := g
      subst e1
      exact ⟨S', O, .refl, by rw [(rngC_get h).2, e2]; exact rep_int.mpr rfl⟩⟩⟩)
/-! loops -/
theorem for_in {vs : List Nat} {J : It} {S1 H1 : Hp} {σ : L2.St} {D0 : Ends} (I : Nat → Ds → Cs → Prop) (O1 : Own lk S1 H1 cs1) (E : Env S1 ds σ) (yl : Yl lk G J cs1 S1 H1 xs) (p : PostS lk cs1 S1 H1 k D0) (h0 : I 0 ds cs1) (hG : ∀ i ds' cs', I i ds' cs' → G cs')
    (hs : ∀ i x ds' cs', xs[i]? = some x → I i ds' cs' → ∃ ds'', TgB X tg vs x ds' ds'' ∧ SF lk X body ds'' cs' { nx := I (i + 1), ct := I (i + 1), bk := k.nx, rt := k.rt }) (hd : ∀ ds' cs', I xs.length ds' cs' → k.nx ds' cs') :
    ∃ W : Nat → Nat → L2.St → Hp → Prop, (∃ m, W 0 m σ H1) ∧ ∀ i m σ H, W i m σ H →
      (J.stop i H ∧ D0.nx σ H) ∨ (J.go i H ∧ ∃ N : L2.St → Hp → Prop, (∀ σ' H', N σ' H' → ∃ m', m' < m ∧ W (i + 1) m' σ' H') ∧ ∀ x H', J.yld i H x H' → (wG X tg) x σ H' fun σ2 H2 => (wB X body) { D0 with nx := N, ct := N, bk := D0.nx } σ2 H2) := by
    refine ⟨fun i m σ' H' => m = xs.length - i ∧ i ≤ xs.length ∧ ∃ S' ds' cs', Own lk S' H' cs' ∧ Env S' ds' σ' ∧ Stp cs1 S1 H1 S' H' cs' ∧ I i ds' cs', ⟨xs.length, by simp, Nat.zero_le _, S1, ds, cs1, O1, E, .refl, h0⟩, ?_⟩
    rintro i m σ' H' ⟨rfl, hi, S', ds', cs', O', E', s', inv⟩
    by_cases hlt : i < xs.length
    · refine .inr ⟨yl.go i S' H' cs' hlt s' O' (hG _ _ _ inv), fun σ2 H2 => i + 1 ≤ xs.length ∧ ∃ S2 ds2 cs2, Own lk S2 H2 cs2 ∧ Env S2 ds2 σ2 ∧ Stp cs1 S1 H1 S2 H2 cs2 ∧ I (i + 1) ds2 cs2,
        fun σ2 H2 ⟨h1, h2⟩ => ⟨xs.length - (i + 1), by omega, rfl, h1, h2⟩, fun v H2 hy => ?_⟩
      have hx : xs[i]? = some xs[i] := by simp [hlt]
      obtain ⟨S2, O2, s2, r2⟩ := yl.yld i _ S' H' cs' v H2 hx s' O' (hG _ _ _ inv) hy
      obtain ⟨ds2, ht, hb⟩ := hs i _ ds' cs' hx inv
      refine ht lk S2 H2 cs' v σ' O2 r2 (E'.mono s2.ext) _ fun σ3 E3 _ => ?_
      have st := s'.trans s2
      exact hb σ3 S2 H2 O2 E3 _ ⟨fun d4 c4 σ4 S4 H4 q O4 E4 s4 => ⟨hlt, S4, d4, c4, O4, E4, st.trans s4, q⟩, fun x c4 v S4 H4 q O4 s4 r4 => p.rt x c4 v S4 H4 q O4 (st.trans s4) r4,
        fun d4 c4 σ4 S4 H4 q O4 E4 s4 => p.nx d4 c4 σ4 S4 H4 q O4 E4 (st.trans s4), fun d4 c4 σ4 S4 H4 q O4 E4 s4 => ⟨hlt, S4, d4, c4, O4, E4, st.trans s4, q⟩⟩
    · have e : i = xs.length := by omega
      subst e
      exact .inl ⟨yl.stop S' H' cs' s' O' (hG _ _ _ inv), p.nx _ _ _ _ _ (hd _ _ inv) O' E' s'⟩
theorem s_for {vs : List Nat} (hi : EvI lk X tg iter ds cs xs cs1 G) (I : Nat → Ds → Cs → Prop) (h0 : I 0 ds cs1) (hG : ∀ i ds' cs', I i ds' cs' → G cs')
    (hs : ∀ i x ds' cs', xs[i]? = some x → I i ds' cs' → ∃ ds'', TgB X tg vs x ds' ds'' ∧ SF lk X body ds'' cs' { nx := I (i + 1), ct := I (i + 1), bk := k.nx, rt := k.rt }) (hd : ∀ ds' cs', I xs.length ds' cs' → k.nx ds' cs')
    (hc : X.calm = true := by rfl) (hp : PassesOwn (model X.prog X.w) X.A X.env X.xe := by exact PassesOwn.never) (hfs : ∀ x, foldedSetIterable iter X.env x = pure x := by intro _; rfl) : S1 lk X (.For tg iter body [] pos) ds cs k := fun σ S H O E D0 p =>
  run_s (ps_for hp hc pi_w pg_w pss_w hfs) (hi σ S H O E _ fun J S1 H1 O1 s1 yl => for_in I O1 (E.mono s1.ext) yl (p.step s1) h0 hG hs hd)
theorem s_while (I : Nat → Ds → Cs → Prop) (m0 : Nat) (h0 : I m0 ds cs) (hs : ∀ m ds' cs', I m ds' cs' → ∃ t cs'', EvT lk X c ds' cs' t cs'' ∧ (t = true → SF lk X body ds' cs'' { nx := fun d c => ∃ m', m' < m ∧ I m' d c, ct := fun d c => ∃ m', m' < m ∧ I m' d c, bk := k.nx, rt := k.rt }) ∧ (t = false → k.nx ds' cs''))
    (hp : PassesOwn (model X.prog X.w) X.A X.env X.xe := by exact PassesOwn.never) : S1 lk X (.While c body [] pos) ds cs k := fun σ S H O E D0 p =>
  run_s (ps_while hp pt_w pss_w) (by
    refine ⟨fun m σ' H' => ∃ S' ds' cs', Own lk S' H' cs' ∧ Env S' ds' σ' ∧ Stp cs S H S' H' cs' ∧ I m ds' cs', ⟨m0, S, ds, cs, O, E, .refl, h0⟩, ?_⟩
    rintro m σ' H' ⟨S', ds', cs', O', E', s', inv⟩
    obtain ⟨t, cs'', hc, h1, h2⟩ := hs m ds' cs' inv
    refine hc σ' S' H' O' E' _ fun S2 H2 O2 s2 => ?_
    cases t with
    | true =>
      rw [if_pos rfl]
      have st := s'.trans s2
      refine ⟨fun σ3 H3 => ∃ m', m' < m ∧ ∃ S3 ds3 cs3, Own lk S3 H3 cs3 ∧ Env S3 ds3 σ3 ∧ Stp cs S H S3 H3 cs3 ∧ I m' ds3 cs3, fun σ3 H3 q => q, ?_⟩
      exact h1 rfl σ' S2 H2 O2 (E'.mono s2.ext) _ ⟨fun d4 c4 σ4 S4 H4 ⟨m', hm, q⟩ O4 E4 s4 => ⟨m', hm, S4, d4, c4, O4, E4, st.trans s4, q⟩, fun x c4 v S4 H4 q O4 s4 r4 => p.rt x c4 v S4 H4 q O4 (st.trans s4) r4,
        fun d4 c4 σ4 S4 H4 q O4 E4 s4 => p.nx d4 c4 σ4 S4 H4 q O4 E4 (st.trans s4), fun d4 c4 σ4 S4 H4 ⟨m', hm, q⟩ O4 E4 s4 => ⟨m', hm, S4, d4, c4, O4, E4, st.trans s4, q⟩⟩
    | false =>
      rw [if_neg Bool.false_ne_true]
      exact p.nx _ _ _ _ _ (h2 rfl) O2 (E'.mono s2.ext) (s'.trans s2))
end
end Af
set_option Elab.async false
set_option linter.all false
set_option maxRecDepth 100000
set_option maxHeartbeats 2000000
/-! ### enumerate over a tuple -/
namespace Af
open PySem L2 PySem.Spec PyProof.Rows

theorem newEnum1 {v : Value} {o : Obj} {H : Heap → Prop} (B : Begins v o H) :
    Meets (Builtin.«enumerate.__new__» ⟨[.type "enumerate", v], []⟩) (fun _ R s => H s.heap ∧
      R (.ok (.ret (.ref (s.heap.push o).objs.size))) { s with heap := (s.heap.push o).push { cls := .type "enumerate", data := .fields #[.none, .bool false, .ref s.heap.objs.size, rawInt 0, .none, .none] } }) :=
  .of_wp fun prog w A R s h => by
    obtain ⟨hp, g, d, tk, os⟩ := s; obtain ⟨h1, h⟩ := h
    have hsub := sub_enumerate
    have q1 : ∀ {A' : Around} {E : Value → Shared → Prop} {Q : Value → Shared → Prop}, Q (.ref hp.objs.size) ⟨hp.push o, g, d, tk, os⟩ → wpAny (model prog w) A' (pyIter v) Q E ⟨hp, g, d, tk, os⟩ :=
      fun q => B.iter prog w _ _ ⟨hp, g, d, tk, os⟩ _ h1 q
    wp_walk using q1
    refine wpAny_stack_any fun st => wpAny_pure ?_
    split
    · rename_i c _ _ _ _ _
      cases (c == Value.type "enumerate")
      · wp_walk using q1
        exact ⟨_, rfl, h⟩
      · wp_walk using q1
        exact ⟨_, rfl, h⟩
    · wp_walk using q1
      exact ⟨_, rfl, h⟩
section
variable {prog : Program} {w : World} {A : Around} {E : Value → Shared → Prop} {s : Shared}
theorem enumTup_begins {t : Addr} {items : Array Value} {Q : Value → Shared → Prop} (h1 : s.heap.IsTuple t items)
    (h : ∀ h', IsEnum h' (s.heap.objs.size + 1) s.heap.objs.size 0 .none → h'.IsTupleIter s.heap.objs.size t 0 → h'.objs.size = s.heap.objs.size + 2 →
      (∀ b o, s.heap.get? b = some o → h'.get? b = some o) → Q (.ref (s.heap.objs.size + 1)) { s with heap := h' }) :
    wpAny (model prog w) A (call (.type "enumerate") [.ref t]) Q E s := by
  have B := begins_tuple t items
  refine callType_new F.called_enumerate (by decide) (F.typeCall_enumerate_1 _) (F.newCall_enumerate_1 _) (fun obj => F.args_object_init_2 obj _) F.entry_enumerate_new
    (newEnum1 B) ⟨h1, ?_⟩
  have hz : (s.heap.push { cls := .type "tuple_iterator", data := .fields #[.ref t, .int 0 0] }).objs.size = s.heap.objs.size + 1 := Heap.size_push ..
  show _ ∧ _
  rw [hz]
  have he : IsEnum ((s.heap.push { cls := .type "tuple_iterator", data := .fields #[.ref t, .int 0 0] }).push { cls := .type "enumerate", data := .fields #[.none, .bool false, .ref s.heap.objs.size, rawInt 0, .none, .none] }) (s.heap.objs.size + 1) s.heap.objs.size 0 .none := by
    have := Heap.get?_push_size (s.heap.push { cls := .type "tuple_iterator", data := .fields #[.ref t, .int 0 0] }) (o := { cls := .type "enumerate", data := .fields #[.none, .bool false, .ref s.heap.objs.size, rawInt 0, .none, .none] }) rfl
    rw [hz] at this; exact this
  exact ⟨⟨_, he, rfl⟩, h _ he ⟨_, Heap.get?_push_of_some _ (Heap.get?_push_size _ rfl), rfl, rfl⟩ (by rw [Heap.size_push, hz]) fun b o x => Heap.get?_push_of_some _ (Heap.get?_push_of_some _ x)⟩
end
section
variable {prog : Program} {w : World} {A : Around} {E : Value → Shared → Prop} {s : Shared}
theorem enumTup_end {e it t : Addr} {i : Nat} {items : Array Value} {old : Value} {Q : Option Value → Shared → Prop} (hh : A.handled = none)
    (he : IsEnum s.heap e it i old) (hit : s.heap.IsTupleIter it t i) (hl : s.heap.IsTuple t items) (hx : items[i]? = none)
    (hQ : ∀ h', Heap.ExtBut it s.heap h' → Q none { s with heap := h' }) : wpAny (model prog w) A (pyNext (.ref e)) Q E s := by
  have hT : s.TypeIs (.ref e) "enumerate" := ⟨_, he, rfl⟩
  unfold pyNext
  refine wpAny_bind (wpAny_attempt (wpAny_callSpecial?_slot (name := Str.ofString "__next__") hT F.slot_enumerate_next
    (wpAny_call_entry F.slot_enumerate_next hT F.entry_enumerate_next ?_ (F.args_enumerate_next_1 _))))
  show wpAny _ _ (field (.ref e) 2 >>= _) _ _ _
  refine wpAny_bind (wpAny_field he rfl (x := .ref it) rfl ?_)
  refine wpAny_bind (wpAny_nextOf_tuple_end hh hit hl hx fun h' x he' hx' => ?_)
  obtain ⟨o, ho, hc⟩ := hx'
  refine wpAny_bind (wpAny_isInstance (T := "StopIteration") (b := true) ⟨o, ho, hc⟩ isSubtype_stop ?_)
  exact wpAny_pure (hQ _ he')
end
def IteT (K : PySem.W.Frag) (a : Addr) : It :=
  ⟨fun i H => ∃ (xs : List V) (x : V), SqT K H a xs ∧ xs[i]? = some x, fun i H v H' => ∃ T x, v = .ref T ∧ H T = none ∧ H' = upd H T (.tup [.int (i : Nat), x]) ∧ ∀ xs, SqT K H a xs → xs[i]? = some x, fun i H => ∃ xs : List V, SqT K H a xs ∧ xs.length ≤ i⟩
theorem turn_enumT {P : Program} {w : World} {K : PySem.W.Frag} {elts : List Expr} {kk : Nat} {tpos : Pos} (a e it : Addr) :
    Turn P w K (.Tuple elts kk tpos) (IteT K a) [e, it] e (fun i h => (∃ old, IsEnum h e it ((i : Nat) : Int) old) ∧ h.IsTupleIter it a i ∧ e ≠ it ∧ a ≠ it ∧ a ≠ e) where
  mem := by simp
  obj := fun i h st b hb => by
    obtain ⟨⟨old, he⟩, ⟨o, ho, hc, hd⟩, _⟩ := st
    have e' : b = e ∨ b = it := by simpa using hb
    rcases e' with z | z
    · rw [z]; exact ⟨_, he, fun v q => nomatch q⟩
    · rw [z]; exact ⟨o, ho, fun v q => by rw [hd] at q; cases q⟩
  keep := fun i h h' st k => let ⟨⟨old, he⟩, hi, hne⟩ := st; ⟨⟨old, k e (by simp) _ he⟩, hi.at fun o q => k it (by simp) o q, hne⟩
  item := by
    intro X hP hw hK hc i pins s σ H E I hf st hg
    subst hP hw hK
    obtain ⟨⟨old, he⟩, hit, hne, hai, hae⟩ := st
    obtain ⟨xs, x, hq, hx⟩ := hg
    obtain ⟨its, rv, p, hz⟩ := I.tuple hq
    have p' : s.heap.IsTuple a its.toArray := p
    obtain ⟨u, hu, ru⟩ := rv.get hx
    have hel : e < s.heap.objs.size := Heap.lt_size he
    have hil : it < s.heap.objs.size := by obtain ⟨_, q, _⟩ := hit; exact Heap.lt_size q
    have hlt : i < its.toArray.size := by simpa using (List.getElem?_eq_some_iff.mp hu).1
    refine wpAny_pyNext_enum_itemD (Draws.tuple (A := X.A.in1) (I.ok.hd hc) it a hai its.toArray) he ⟨hit, p'⟩ hlt hne (by simp [hne, Ne.symm hae]) fun y h' tk hy ho hst hT hsz hk => ?_
    have ey : y = u := by
      have h1 : its[i]? = some y := by simpa using hy
      rw [hu] at h1; exact (Option.some.inj h1).symm
    subst ey
    refine ⟨_, rfl, wpAny_letOwnedTupleGo_enum (s := { s with heap := h', toks := tk + 1 }) ho fun h'' he' sb => ?_⟩
    have hT2 : h''.get? s.heap.objs.size = some { cls := .type "tuple", data := .seq #[.int i tk, y] } := (sb.2 _ (Nat.ne_of_gt hel)).trans hT
    have new : ObjOk X.prog X.w (upd H s.heap.objs.size (.tup [.int (i : Nat), x])) h'' s.heap.objs.size (.tup [.int (i : Nat), x]) :=
      ⟨by show 2 ≤ sizeLine; decide, [.int i tk, y], .cons ⟨_, rfl⟩ (.cons ru .nil), ⟨_, hT2, rfl, _, rfl⟩⟩
    have I1 : Inv X pins σ (upd H s.heap.objs.size (.tup [.int (i : Nat), x])) { s with heap := h'', toks := tk + 1 } :=
      I.turnedNew (ch := [e, it]) (fun b ob hb q => (sb.2 b (fun z => hb (by simp [z]))).trans (hk b ob (fun z => hb (by simp [z])) (fun z => hb (by simp [z])) q)) hf (Nat.le_refl _) new
    refine ⟨.ref s.heap.objs.size, _, I1, rfl, ⟨_, x, rfl, I.hok.fresh (Nat.le_refl _), rfl, fun ys hy => by rw [I.tuple_inj hy hq]; exact hx⟩, ⟨⟨y, ?_⟩, hst.1.at fun o q => (sb.2 it (Ne.symm hne)).trans q, hne, hai, hae⟩, fun b hb => ?_⟩
    · have e1 : ((i + 1 : Nat) : Int) = (i : Int) + 1 := by omega
      rw [e1]; exact he'
    · have hb' : b < s.heap.objs.size := by
        have e' : b = e ∨ b = it := by simpa using hb
        rcases e' with z | z
        · rw [z]; exact hel
        · rw [z]; exact hil
      rw [upd_ne (Nat.ne_of_lt hb')]
      exact (hf b hb).1
  done := by
    intro X hP hw hK hc i pins s σ H E I hf st hg
    subst hP hw hK
    obtain ⟨⟨old, he⟩, hit, hne, hai, hae⟩ := st
    obtain ⟨xs, hq, hx⟩ := hg
    obtain ⟨its, rv, p, hz⟩ := I.tuple hq
    have p' : s.heap.IsTuple a its.toArray := p
    obtain ⟨f0, f1, f2, f3, f4, f5⟩ := hf it (by simp)
    have hl := rv.length
    exact enumTup_end (I.ok.hd hc) he hit p' (by simp; omega) fun h' eb => ⟨rfl, I.turned (t' := s.toks) (fun b o hb q => eb b o hb q) f0 f1 f3 f4 f5⟩
  self := fun A i s Q E st h => let ⟨⟨_, he⟩, _⟩ := st; wpAny_pyIter_enum he h
def iEnumT (K : PySem.W.Frag) (ta : TA) : TI := fun σ H R => ta σ H fun vs H1 => ∃ a xs, vs = [.ref a] ∧ SqT K H1 a xs ∧ R (IteT K a) H1
theorem pi_enumT {X : Cx} {e : Expr} {ta : TA} {p pos tpos : Pos} {elts : List Expr} {kk : Nat} (hg : Gl X "enumerate") (hm : X.mg "enumerate" = none) (ha : PA X [e] ta) (hs : starEach [e] X.env = [(false, eval e X.env)] := by rfl) :
    PI X (.Tuple elts kk tpos) (.Call (.Name "enumerate" p) [e] [] pos) (iEnumT X.K ta) := by
  refine ⟨fun pins s σ H R I h => ?_⟩
  refine Call_ (ld_blt I hg hm boot_enumerate (PyProof.Rows.callWith_type1 (thn (ha.run pos pins s σ H _ I h) fun us s1 ⟨vs, H1, I1, r1, q1⟩ => ?_) hs rfl))
  obtain ⟨a, xs, ex, hq, q⟩ := q1
  subst ex
  cases r1 with
  | cons r rr =>
    cases rr
    cases r
    obtain ⟨its, rv, p', hz⟩ := I1.tuple hq
    have p2 : s1.heap.IsTuple a its.toArray := p'
    have hal : a < s1.heap.objs.size := by obtain ⟨_, z, _⟩ := p2; exact Heap.lt_size z
    refine enumTup_begins p2 fun h' he hit hsz hk => wpAny_pyIter_enum he ?_
    have I2 : Inv X pins σ H1 { s1 with heap := h' } := I1.kept (t' := s1.toks) hk
    refine ⟨s1.heap.objs.size + 1, [s1.heap.objs.size + 1, s1.heap.objs.size], _, _, H1, rfl, I2, turn_enumT a (s1.heap.objs.size + 1) s1.heap.objs.size, ⟨⟨.none, he⟩, hit, Nat.succ_ne_self _, Nat.ne_of_lt hal, Nat.ne_of_lt (Nat.lt_succ_of_lt hal)⟩, fun b hb => ?_, q⟩
    have hb' : s1.heap.objs.size ≤ b := by
      have e' : b = s1.heap.objs.size + 1 ∨ b = s1.heap.objs.size := by simpa using hb
      rcases e' with z | z
      · rw [z]; exact Nat.le_succ _
      · rw [z]; exact Nat.le_refl _
    exact I1.fpOk hb' (I1.hok.fresh hb')

section
variable {lk : List Addr} {X : Cx} {e : Expr} {elts : List Expr} {ds : Ds} {cs cs1 : Cs} {xs : List D} {pos p tpos : Pos} {kk : Nat}
def enumD (xs : List D) : List D := xs.zipIdx.map fun p => D.tup [.int (p.2 : Nat), p.1]
theorem enumD_len (xs : List D) : (enumD xs).length = xs.length := by unfold enumD; simp
theorem enumD_get {i : Nat} {x : D} (h : (enumD xs)[i]? = some x) : ∃ y, xs[i]? = some y ∧ x = .tup [.int (i : Nat), y] := by
  unfold enumD at h
  rw [List.getElem?_map, List.getElem?_zipIdx] at h
  cases e : xs[i]? with
  | none => rw [e] at h; cases h
  | some y => rw [e] at h; simp at h; exact ⟨y, rfl, h.symm⟩
theorem ei_enumU (hm : X.mg "enumerate" = none) (ha : EvM lk X e ds cs (.tup xs) cs1) (hg : Gl X "enumerate" := by rfl) (hs : starEach [e] X.env = (false, eval e X.env) :: starEach [] X.env := by rfl) :
    EvI lk X (.Tuple elts kk tpos) (.Call (.Name "enumerate" p) [e] [] pos) ds cs (enumD xs) cs1 (fun _ => True) := fun σ S H O E R q =>
  run_i (pi_enumT hg hm (pa_cons pe_w pa_nil hs) (by rw [hs]; rfl)) (ha σ S H O E _ fun v S1 H1 O1 s1 r1 => by
    obtain ⟨a, vs, rfl, e1, r⟩ := rep_tup.mp r1
    refine ⟨a, vs, rfl, sqt O1.lies e1, q _ S1 H1 O1 s1 ⟨fun S' H' cs' x O _ => ⟨vs, sqt O.lies (x.ext _ _ e1), by rw [enumD_len, r.len]; exact Nat.le_refl _⟩, fun i S' H' cs' h x O _ => ?_, fun i y S' H' cs' v H'' h x O _ g => ?_⟩⟩
    · rw [enumD_len] at h
      obtain ⟨w, hw, _⟩ := r.get (i := i) (x := xs[i]) (by simp [h])
      exact ⟨vs, w, sqt O.lies (x.ext _ _ e1), hw⟩
    · obtain ⟨T, u, rfl, hT, rfl, g⟩ := g
      obtain ⟨z, hz, rfl⟩ := enumD_get h
      obtain ⟨w, hw, rw_⟩ := r.get hz
      have := g vs (sqt O.lies (x.ext _ _ e1))
      rw [hw] at this
      cases this
      exact ⟨_, O.alloc hT, .alloc (O.lies.ne hT) hT, rep_tup.mpr ⟨T, _, rfl, upd_same, .cons (rep_int.mpr rfl) (.cons ((rw_.mono x.ext).mono (.new (O.lies.ne hT))) .nil)⟩⟩)
theorem ei_enumL (hm : X.mg "enumerate" = none) (ha : EvM lk X e ds cs (.lst xs) cs1) (hg : Gl X "enumerate" := by rfl) (hs : starEach [e] X.env = (false, eval e X.env) :: starEach [] X.env := by rfl) :
    EvI lk X (.Tuple elts kk tpos) (.Call (.Name "enumerate" p) [e] [] pos) ds cs (enumD xs) cs1 (fun _ => True) := fun σ S H O E R q =>
  run_i (pi_enum hg hm (pa_cons pe_w pa_nil hs) (by rw [hs]; rfl)) (ha σ S H O E _ fun v S1 H1 O1 s1 r1 => by
    obtain ⟨a, vs, rfl, e1, r⟩ := rep_lst.mp r1
    refine ⟨a, vs, rfl, sql O1.lies e1, q _ S1 H1 O1 s1 ⟨fun S' H' cs' x O _ => ⟨vs, sql O.lies (x.ext _ _ e1), by rw [enumD_len, r.len]; exact Nat.le_refl _⟩, fun i S' H' cs' h x O _ => ?_, fun i y S' H' cs' v H'' h x O _ g => ?_⟩⟩
    · rw [enumD_len] at h
      obtain ⟨w, hw, _⟩ := r.get (i := i) (x := xs[i]) (by simp [h])
      exact ⟨vs, w, sql O.lies (x.ext _ _ e1), hw⟩
    · obtain ⟨T, u, rfl, hT, rfl, g⟩ := g
      obtain ⟨z, hz, rfl⟩ := enumD_get h
      obtain ⟨w, hw, rw_⟩ := r.get hz
      have := g vs (sql O.lies (x.ext _ _ e1))
      rw [hw] at this
      cases this
      exact ⟨_, O.alloc hT, .alloc (O.lies.ne hT) hT, rep_tup.mpr ⟨T, _, rfl, upd_same, .cons (rep_int.mpr rfl) (.cons ((rw_.mono x.ext).mono (.new (O.lies.ne hT))) .nil)⟩⟩)
end
end Af
set_option Elab.async false
set_option linter.all false
set_option maxRecDepth 100000
set_option maxHeartbeats 2000000
/-! ### comprehensions, calls of defs, walks of dicts -/
namespace Af
open PySem L2

section
variable {lk : List Addr} {X : Cx} {a b c e : Expr} {es : List Expr} {ds : Ds} {cs cs1 cs2 fr : Cs} {x y : D} {xs : List D}
/-- cells that nobody touches -/
theorem EvM.frame (h : EvM lk X e ds cs x cs1) : EvM lk X e ds (cs ++ fr) x (cs1 ++ fr) := fun σ S H O E Q q =>
  h σ S H O.left E Q fun v S' H' O' s r => q v S' H' (O.frame O' s) (.frame O s) r
theorem EvT.frame {t : Bool} (h : EvT lk X e ds cs t cs1) : EvT lk X e ds (cs ++ fr) t (cs1 ++ fr) := fun σ S H O E Q q =>
  h σ S H O.left E Q fun S' H' O' s => q S' H' (O.frame O' s) (.frame O s)
end

structure Bl where
  s : Shared
  H : Hp
  C : Addr
  cl : List (Str × Addr)
  fp : List Addr
/-- the context of a comprehension's block -/
abbrev Bl.cx (b : Bl) (X : Cx) (scope : Scope) : Cx := X.blk b.s b.H scope (compEnvC scope b.cl b.C X.env) b.fp
section
variable (X : Cx) (scope : Scope)
def wGb (tg : Expr) : TG := fun v σ H Q => ∀ b : Bl, wG (b.cx X scope) tg v σ H Q
def wTb (c : Expr) : TT := fun σ H Q => ∀ b : Bl, wT (b.cx X scope) c σ H Q
def wEb (e : Expr) : TE := fun σ H Q => ∀ b : Bl, wE (b.cx X scope) e σ H Q
end
section
variable {lk : List Addr} {X : Cx} {tg iter elt c kx vx : Expr} {scope : Scope} {own : List (Str × Nat)} {ds ds' : Ds} {cs cs0 cs1 cs2 : Cs} {x y : D} {xs : List D} {pos spos : Pos} {G : Cs → Prop} {k : KE}

/-- the test of a turn: none, or one -/
inductive TestB (lk : List Addr) (X : Cx) (scope : Scope) : List Expr → Ds → Cs → Bool → Cs → Prop where
  | no {d : Ds} {s : Cs} : TestB lk X scope [] d s true s
  | one {c : Expr} {d : Ds} {s : Cs} {t : Bool} {s' : Cs} (h : ∀ b : Bl, EvT lk (b.cx X scope) c d s t s') : TestB lk X scope [c] d s t s'
def tTb (X : Cx) (scope : Scope) : List Expr → TT
  | [] => tYes
  | [c] => wTb X scope c
  | _ => fun _ _ _ => False
theorem pts_b (ifs : List Expr) (b : Bl) : PTs (b.cx X scope) ifs (tTb X scope ifs) := by
  match ifs with
  | [] => exact pts_nil
  | [c] => exact pts_one ⟨fun pins s σ H Q I h => h b pins s I⟩
  | _ :: _ :: _ => exact ⟨fun _ _ _ _ _ _ h => h.elim⟩
theorem TestB.run {ifs : List Expr} {t : Bool} (h : TestB lk X scope ifs ds cs t cs1) {σ : L2.St} {S H : Hp} (O : Own lk S H cs) (E : Env S ds σ) {Q : Bool → Hp → Prop} (q : PostT lk cs S H cs1 t Q) : tTb X scope ifs σ H Q := by
  cases h with
  | no => exact q S H O .refl
  | one h => exact fun b => h b σ S H O E Q q
theorem TestB.frame {ifs : List Expr} {t : Bool} {fr : Cs} (h : TestB lk X scope ifs ds cs t cs1) : TestB lk X scope ifs ds (cs ++ fr) t (cs1 ++ fr) := by
  cases h with
  | no => exact .no
  | one h => exact .one fun b => (h b).frame

theorem pg_b (s : Shared) (H : Hp) (C : Addr) (cl : List (Str × Addr)) (fp : List Addr) : PG (X.blk s H scope (compEnvC scope cl C X.env) fp) tg (wGb X scope tg) := ⟨fun pins s' σ H' v u Q I r h => h ⟨s, H, C, cl, fp⟩ pins s' u I r⟩
theorem pe_b (s : Shared) (H : Hp) (C : Addr) (cl : List (Str × Addr)) (fp : List Addr) : PE (X.blk s H scope (compEnvC scope cl C X.env) fp) elt (wEb X scope elt) := ⟨fun pins s' σ H' Q I h => h ⟨s, H, C, cl, fp⟩ pins s' I⟩
/-- a turn of a list comprehension -/
def TurnL (lk : List Addr) (X : Cx) (scope : Scope) (tg elt : Expr) (ifs : List Expr) (vs : List Nat) (ds : Ds) (x : D) (c0 c1 : Cs) (a0 a1 : List D) : Prop :=
  ∃ ds', (∀ b : Bl, TgB (b.cx X scope) tg vs x (wipeD ds vs) ds') ∧
    ((∃ c y, TestB lk X scope ifs ds' c0 true c ∧ (∀ b : Bl, EvM lk (b.cx X scope) elt ds' c y c1) ∧ a1 = a0 ++ [y]) ∨ (TestB lk X scope ifs ds' c0 false c1 ∧ a1 = a0))
theorem lc_in0 {ifs : List Expr} {vs : List Nat} {J : It} (acc : Nat → List D) (C : Nat → Cs) (ha : acc 0 = []) (hG : ∀ i, i ≤ xs.length → ∀ fr, G (C i ++ fr)) (hl : ∀ i, i ≤ xs.length → (acc i).length < 1000000)
    (turn : ∀ i x, xs[i]? = some x → TurnL lk X scope tg elt ifs vs ds x (C i) (C (i + 1)) (acc i) (acc (i + 1)))
    {σ : L2.St} {S1 H1 : Hp} (O1 : Own lk S1 H1 (C 0)) (E : Env S1 ds σ) (yl : Yl lk G J (C 0) S1 H1 xs) {Q : VK} (q : ∀ L S' H', Own lk S' H' (C xs.length ++ [(L, .lst (acc xs.length))]) → Stp (C 0) S1 H1 S' H' (C xs.length ++ [(L, .lst (acc xs.length))]) → Q (.ref L) H') :
    ∀ D, H1 D = none → ∃ W : Nat → Nat → Hp → Prop, (∃ m, W 0 m (upd H1 D (.lst []))) ∧ ∀ i m H, W i m H →
      (J.stop i H ∧ Q (.ref D) H) ∨ (J.go i H ∧ ∃ Nx : Hp → Prop, (∀ H', Nx H' → ∃ m', m' < m ∧ W (i + 1) m' H') ∧ ∀ x H', J.yld i H x H' → (wGb X scope tg) x (L2.wipe σ vs) H' fun σ2 H2 => L2.wipe σ2 vs = L2.wipe σ vs ∧ (tTb X scope ifs) σ2 H2 fun b H3 =>
        if b = true then (wEb X scope elt) σ2 H3 fun y H4 => ∃ acc, H4 D = some (.lst acc) ∧ acc.length < sizeLine ∧ Nx (upd H4 D (.lst (acc ++ [y]))) else Nx H3) := by
    intro L hL
    have s1 : Stp (C 0) S1 H1 S1 H1 (C 0) := .refl
    have r0 : CellRep S1 (upd H1 L (.lst [])) L (.lst (acc 0)) := ⟨[], upd_same, by rw [ha]; exact .nil⟩
    refine ⟨fun i m H' => m = xs.length - i ∧ i ≤ xs.length ∧ ∃ S', Ext S1 S' ∧ Own lk S' H' (C i ++ [(L, .lst (acc i))]) ∧ Stp (C 0) S1 H1 S' H' (C i ++ [(L, .lst (acc i))]), ⟨xs.length, by simp, Nat.zero_le _, S1, .refl S1, O1.allocC hL r0, s1.trans (.allocC hL)⟩, ?_⟩
    rintro i m H' ⟨rfl, hi, S', x1, O', s'⟩
    have at_ : ∀ (cc : Cs) (aa : List D), (cc ++ [(L, CO.lst aa)])[cc.length]? = some (L, .lst aa) := fun cc aa => by simp
    by_cases hlt : i < xs.length
    · have hx : xs[i]? = some xs[i] := by simp [hlt]
      obtain ⟨ds', ht, hb⟩ := turn i _ hx
      refine .inr ⟨yl.go i S' H' _ hlt s' O' (hG i hi _), fun H2 => i + 1 ≤ xs.length ∧ ∃ S2, Ext S1 S2 ∧ Own lk S2 H2 (C (i + 1) ++ [(L, .lst (acc (i + 1)))]) ∧ Stp (C 0) S1 H1 S2 H2 (C (i + 1) ++ [(L, .lst (acc (i + 1)))]),
        fun H2 ⟨h1, h2⟩ => ⟨xs.length - (i + 1), by omega, rfl, h1, h2⟩, fun v H2 hy b => ?_⟩
      obtain ⟨S2, O2, s2, r2⟩ := yl.yld i _ S' H' _ v H2 hx s' O' (hG i hi _) hy
      refine ht b lk S2 H2 _ v _ O2 r2 ((E.mono (s'.trans s2).ext).wipe vs) _ fun σ3 E3 hw => ⟨hw.trans (wipe_twice fun _ h => h), ?_⟩
      rcases hb with ⟨cc, y, h1, h2, h3⟩ | ⟨h1, h3⟩
      · refine h1.frame.run O2 E3 fun S3 H3 O3 s3 => ?_
        rw [if_pos rfl]
        intro b2
        refine (h2 b2).frame σ3 S3 H3 O3 (E3.mono s3.ext) _ fun w S4 H4 O4 s4 r4 => ?_
        obtain ⟨us, e5, r5⟩ := O4.at_ (at_ _ _)
        refine ⟨us, e5, by rw [r5.len]; exact szl (hl i hi), hlt, S4, x1.trans ((s2.trans s3).trans s4).ext, ?_⟩
        have hset : (C (i + 1) ++ [(L, CO.lst (acc i))]).set (C (i + 1)).length (L, .lst (acc i ++ [y])) = C (i + 1) ++ [(L, .lst (acc (i + 1)))] := by rw [h3]; simp
        have O5 := O4.write (at_ _ _) (c' := .lst (acc i ++ [y])) (o := .lst (us ++ [w])) ⟨_, upd_same, r5.append (.cons r4 .nil)⟩
        have s5 := Stp.write (S := S4) (H := H4) (o := .lst (us ++ [w])) (c' := .lst (acc i ++ [y])) (at_ (C (i + 1)) (acc i))
        rw [hset] at O5 s5
        exact ⟨O5, (((s'.trans s2).trans s3).trans s4).trans s5⟩
      · refine h1.frame.run O2 E3 fun S3 H3 O3 s3 => ?_
        rw [if_neg Bool.false_ne_true]
        refine ⟨hlt, S3, x1.trans (s2.trans s3).ext, ?_, ?_⟩
        · rw [h3]; exact O3
        · rw [h3]; exact (s'.trans s2).trans s3
    · have e : i = xs.length := by omega
      subst e
      refine .inl ⟨yl.stop S' H' _ s' O' (hG _ hi _), ?_⟩
      exact q L S' H' O' s'
theorem lc_in {ifs : List Expr} {vs : List Nat} {J : It} (acc : Nat → List D) (C : Nat → Cs) (ha : acc 0 = []) (hG : ∀ i, i ≤ xs.length → ∀ fr, G (C i ++ fr)) (hl : ∀ i, i ≤ xs.length → (acc i).length < 1000000)
    (turn : ∀ i x, xs[i]? = some x → TurnL lk X scope tg elt ifs vs ds x (C i) (C (i + 1)) (acc i) (acc (i + 1)))
    {σ : L2.St} {S1 H1 : Hp} (O1 : Own lk S1 H1 (C 0)) (E : Env S1 ds σ) (yl : Yl lk G J (C 0) S1 H1 xs) {Q : VK} (q : PostM lk (C 0) S1 H1 (C xs.length) (.lst (acc xs.length)) Q) :
    ∀ D, H1 D = none → ∃ W : Nat → Nat → Hp → Prop, (∃ m, W 0 m (upd H1 D (.lst []))) ∧ ∀ i m H, W i m H →
      (J.stop i H ∧ Q (.ref D) H) ∨ (J.go i H ∧ ∃ Nx : Hp → Prop, (∀ H', Nx H' → ∃ m', m' < m ∧ W (i + 1) m' H') ∧ ∀ x H', J.yld i H x H' → (wGb X scope tg) x (L2.wipe σ vs) H' fun σ2 H2 => L2.wipe σ2 vs = L2.wipe σ vs ∧ (tTb X scope ifs) σ2 H2 fun b H3 =>
        if b = true then (wEb X scope elt) σ2 H3 fun y H4 => ∃ acc, H4 D = some (.lst acc) ∧ acc.length < sizeLine ∧ Nx (upd H4 D (.lst (acc ++ [y]))) else Nx H3) :=
  lc_in0 acc C ha hG hl turn O1 E yl fun L S' H' O' s' => by
    have at_ : (C xs.length ++ [(L, CO.lst (acc xs.length))])[(C xs.length).length]? = some (L, .lst (acc xs.length)) := by simp
    obtain ⟨us, e5, r5⟩ := O'.at_ at_
    have hs : S' L = none := (O'.cell _ (List.mem_of_getElem? at_)).1
    have O6 := O'.freeze at_ e5
    have s6 := Stp.freeze O' (o := .lst us) at_
    have her : (C xs.length ++ [(L, CO.lst (acc xs.length))]).eraseIdx (C xs.length).length = C xs.length := by
      rw [List.eraseIdx_append_of_length_le (Nat.le_refl _)]; simp
    rw [her] at O6 s6
    exact q _ _ _ O6 (s'.trans s6) (rep_lst.mpr ⟨L, us, rfl, upd_same, r5.mono (.new hs)⟩)
theorem lc_read {ifs : List Expr} {vs : List Nat} (hi : EvI lk X tg iter ds cs xs cs0 G) (acc : Nat → List D) (C : Nat → Cs) (hC : C 0 = cs0) (ha : acc 0 = []) (hG : ∀ i, i ≤ xs.length → ∀ fr, G (C i ++ fr)) (hl : ∀ i, i ≤ xs.length → (acc i).length < 1000000)
    (turn : ∀ i x, xs[i]? = some x → TurnL lk X scope tg elt ifs vs ds x (C i) (C (i + 1)) (acc i) (acc (i + 1)))
    {σ : L2.St} {S H : Hp} (O : Own lk S H cs) (E : Env S ds σ) {Q : VK} (q : PostM lk cs S H (C xs.length) (.lst (acc xs.length)) Q) : tLc (wI X tg iter) (wGb X scope tg) (tTb X scope ifs) (wEb X scope elt) vs σ H Q :=
  hi σ S H O E _ fun J S1 H1 O1 s1 yl => by
    rw [← hC] at O1 s1
    exact lc_in acc C ha hG hl turn O1 (E.mono s1.ext) (hC ▸ yl) (q.step s1)
theorem ev_lc {ifs : List Expr} (nd : X.N.Nodup) (ok : BlkOk X.N X.env.scope scope own) (hi : EvI lk X tg iter ds cs xs cs0 G) (acc : Nat → List D) (C : Nat → Cs) (hC : C 0 = cs0) (ha : acc 0 = []) (hG : ∀ i, i ≤ xs.length → ∀ fr, G (C i ++ fr)) (hl : ∀ i, i ≤ xs.length → (acc i).length < 1000000)
    (turn : ∀ i x, xs[i]? = some x → TurnL lk X scope tg elt ifs (own.map (·.2)) ds x (C i) (C (i + 1)) (acc i) (acc (i + 1))) (hc : X.calm = true := by rfl) (hs : ∀ x, foldedSetIterable iter X.env x = pure x := by intro _; rfl) :
    EvM lk X (.ListComp elt [⟨tg, iter, ifs, 0⟩] scope pos) ds cs (.lst (acc xs.length)) (C xs.length) := fun σ S H O E Q q =>
  run_e (pe_lc hc nd pi_w ok pg_b (fun s H C cl fp => pts_b ifs ⟨s, H, C, cl, fp⟩) pe_b hs)
    (lc_read hi acc C hC ha hG hl turn O E q)
/-- .. a list that will change -/
theorem ep_lc {ifs : List Expr} (nd : X.N.Nodup) (ok : BlkOk X.N X.env.scope scope own) (hi : EvI lk X tg iter ds cs xs cs0 G) (acc : Nat → List D) (C : Nat → Cs) (hC : C 0 = cs0) (ha : acc 0 = []) (hG : ∀ i, i ≤ xs.length → ∀ fr, G (C i ++ fr)) (hl : ∀ i, i ≤ xs.length → (acc i).length < 1000000)
    (turn : ∀ i x, xs[i]? = some x → TurnL lk X scope tg elt ifs (own.map (·.2)) ds x (C i) (C (i + 1)) (acc i) (acc (i + 1))) (hc : X.calm = true := by rfl) (hs : ∀ x, foldedSetIterable iter X.env x = pure x := by intro _; rfl) :
    EvP lk X (.ListComp elt [⟨tg, iter, ifs, 0⟩] scope pos) ds cs (fun y cs' => ∃ a, y = .ptr a ∧ cs' = C xs.length ++ [(a, .lst (acc xs.length))]) := fun σ S H O E Q q =>
  run_e (pe_lc hc nd pi_w ok pg_b (fun s H C cl fp => pts_b ifs ⟨s, H, C, cl, fp⟩) pe_b hs)
    (hi σ S H O E _ fun J S1 H1 O1 s1 yl => by
      rw [← hC] at O1 s1
      exact lc_in0 acc C ha hG hl turn O1 (E.mono s1.ext) (hC ▸ yl) fun L S' H' O' s' => q _ _ ⟨L, rfl, rfl⟩ _ S' H' O' (s1.trans s') (rep_ptr.mpr rfl))
/-- name = [..] on one line -/
theorem s_setLc {ifs : List Expr} (i : Nat) {n : Str} {py : Pos} (nd : X.N.Nodup) (ok : BlkOk X.N X.env.scope scope own) (hi : EvI lk X tg iter ds cs xs cs0 G) (acc : Nat → List D) (C : Nat → Cs) (hC : C 0 = cs0) (ha : acc 0 = []) (hG : ∀ i, i ≤ xs.length → ∀ fr, G (C i ++ fr)) (hl : ∀ i, i ≤ xs.length → (acc i).length < 1000000)
    (turn : ∀ i x, xs[i]? = some x → TurnL lk X scope tg elt ifs (own.map (·.2)) ds x (C i) (C (i + 1)) (acc i) (acc (i + 1))) (h : k.nx (ds.set i (some (.lst (acc xs.length)))) (C xs.length))
    (hy : X.N[i]? = some n := by rfl) (hyl : X.env.scope.names.lookup n = some .local := by rfl) (hsw : swapsWith (.ListComp elt [⟨tg, iter, ifs, 0⟩] scope pos) (some (.Name n py)) spos.line X.env = pure true := by exact sw_true rfl rfl rfl (by decide +kernel))
    (hc : X.calm = true := by rfl) (hs : ∀ x, foldedSetIterable iter X.env x = pure x := by intro _; rfl) :
    S1 lk X (.Assign [.Name n py] (.ListComp elt [⟨tg, iter, ifs, 0⟩] scope pos) spos) ds cs k := fun σ S H O E D0 p =>
  run_s (ps_setLc hc nd hy hyl hsw pi_w ok pg_b (fun s H C cl fp => pts_b ifs ⟨s, H, C, cl, fp⟩) pe_b hs)
    (lc_read hi acc C hC ha hG hl turn O E (Q := fun v H' => D0.nx (σ.set i (some v)) H') fun v S1 H1 O1 s1 r1 => p.nx _ _ _ _ _ h O1 ((E.mono s1.ext).set r1) s1)
/-! where the cells stay: maps and filters -/
theorem turn_map {vs : List Nat} {f : D → D} (h : ∃ ds', (∀ b : Bl, TgB (b.cx X scope) tg vs x (wipeD ds vs) ds') ∧ ∀ b : Bl, EvM lk (b.cx X scope) elt ds' cs y cs) {a0 : List D} : TurnL lk X scope tg elt [] vs ds x cs cs a0 (a0 ++ [y]) := by
  obtain ⟨ds', h1, h2⟩ := h
  exact ⟨ds', h1, .inl ⟨cs, y, .no, h2, rfl⟩⟩
theorem ev_map {ys : List D} (nd : X.N.Nodup) (ok : BlkOk X.N X.env.scope scope own) (hi : EvI lk X tg iter ds cs xs cs0 G) (hy : ys.length = xs.length) (hl : xs.length < 1000000) (hG : ∀ fr, G (cs0 ++ fr))
    (turn : ∀ (i : Nat) x y, xs[i]? = some x → ys[i]? = some y → ∃ ds', (∀ b : Bl, TgB (b.cx X scope) tg (own.map (·.2)) x (wipeD ds (own.map (·.2))) ds') ∧ ∀ b : Bl, EvM lk (b.cx X scope) elt ds' cs0 y cs0) (hc : X.calm = true := by rfl) (hs : ∀ x, foldedSetIterable iter X.env x = pure x := by intro _; rfl) :
    EvM lk X (.ListComp elt [⟨tg, iter, [], 0⟩] scope pos) ds cs (.lst ys) cs0 := by
  have := ev_lc (ifs := []) (pos := pos) (elt := elt) nd ok hi (fun i => ys.take i) (fun _ => cs0) rfl (by simp) (fun _ _ => hG) (fun i hi => by rw [List.length_take]; omega) (fun i x hx => by
    have hi' : i < ys.length := by rw [hy]; exact (List.getElem?_eq_some_iff.mp hx).1
    obtain ⟨ds', h1, h2⟩ := turn i x ys[i] hx (by simp [hi'])
    exact ⟨ds', h1, .inl ⟨cs0, ys[i], .no, h2, by rw [List.take_add_one]; simp [hi']⟩⟩) hc hs
  rwa [show ys.take xs.length = ys by rw [← hy]; simp] at this
/-- the items kept, and what is made of them -/
def fm (p : Nat → Bool) (f : Nat → D) (n : Nat) : List D := ((List.range n).filter p).map f
theorem ev_filter (p : Nat → Bool) (f : Nat → D) {c : Expr} (nd : X.N.Nodup) (ok : BlkOk X.N X.env.scope scope own) (hi : EvI lk X tg iter ds cs xs cs0 G) (hl : xs.length < 1000000) (hG : ∀ fr, G (cs0 ++ fr))
    (turn : ∀ (i : Nat) x, xs[i]? = some x → ∃ ds', (∀ b : Bl, TgB (b.cx X scope) tg (own.map (·.2)) x (wipeD ds (own.map (·.2))) ds') ∧ (∀ b : Bl, EvT lk (b.cx X scope) c ds' cs0 (p i) cs0) ∧ (p i = true → ∀ b : Bl, EvM lk (b.cx X scope) elt ds' cs0 (f i) cs0)) (hc : X.calm = true := by rfl) (hs : ∀ x, foldedSetIterable iter X.env x = pure x := by intro _; rfl) :
    EvM lk X (.ListComp elt [⟨tg, iter, [c], 0⟩] scope pos) ds cs (.lst (fm p f xs.length)) cs0 := by
  refine ev_lc (ifs := [c]) (pos := pos) (elt := elt) nd ok hi (fun i => fm p f i) (fun _ => cs0) rfl (by simp [fm]) (fun _ _ => hG) (fun i hi => ?_) (fun i x hx => ?_) hc hs
  · unfold fm
    have := List.length_filter_le p (List.range i)
    rw [List.length_range] at this
    rw [List.length_map]; omega
  · obtain ⟨ds', h1, h2, h3⟩ := turn i x hx
    refine ⟨ds', h1, ?_⟩
    cases e : p i with
    | true =>
      rw [e] at h2
      exact .inl ⟨cs0, f i, .one h2, h3 e, by unfold fm; rw [List.range_succ, List.filter_append]; simp [e]⟩
    | false =>
      rw [e] at h2
      exact .inr ⟨.one h2, by unfold fm; rw [List.range_succ, List.filter_append]; simp [e]⟩
end
end Af
set_option Elab.async false
set_option linter.all false
set_option maxRecDepth 100000
set_option maxHeartbeats 2000000
/-! ### walks of dicts -/
namespace Af
open PySem L2

def NoF (X : Cx) (d : Addr) : Prop := ∀ o' u', X.H_0 d ≠ some (.frz o' u')
/-- the value is locked as soon as it is there -/
def tFrz (X : Cx) (td : TE) : TE := fun σ H Q => td σ H fun x H1 => ∃ d u, x = .ref d ∧ H1 d = some u ∧ Mut (some u) ∧ ∀ od, NoF X d → Q x (upd H1 d (.frz od u))
theorem pe_frz {X : Cx} {e : Expr} {td : TE} (he : PE X e td) : PE X e (tFrz X td) := by
  refine ⟨fun pins s σ H Q I h => ?_⟩
  refine thn (he.run pins s σ H _ I h) fun v s1 ⟨x, H1, I1, r, d, u, ex, hd, mu, q⟩ => ?_
  obtain ⟨od, I2⟩ := I1.lock hd mu
  exact ⟨x, _, I2, r, q od (I1.nofrz hd mu)⟩
def Dk (X : Cx) (D : Ends) : Ends :=
  ⟨fun σ' H' => ∃ d od u, H' d = some (.frz od u) ∧ NoF X d ∧ D.nx σ' (upd H' d u), fun v H' => ∃ d od u, H' d = some (.frz od u) ∧ NoF X d ∧ D.rt v (upd H' d u),
   fun σ' H' => ∃ d od u, H' d = some (.frz od u) ∧ NoF X d ∧ D.bk σ' (upd H' d u), fun σ' H' => ∃ d od u, H' d = some (.frz od u) ∧ NoF X d ∧ D.ct σ' (upd H' d u)⟩
theorem ps_unlk {X : Cx} {st : Stmt} {t : TS} (h : PS X st t) : PS X st (fun D σ H => t (Dk X D) σ H) := by
  refine ⟨fun pins s σ H D I hw => ?_⟩
  refine thn (h.run pins s σ H (Dk X D) I hw) fun f s1 q => ?_
  cases f with
  | next => obtain ⟨σ', H', I2, d, od, u, e, nf, q⟩ := q; exact ⟨σ', _, I2.unlock e nf, q⟩
  | brk => obtain ⟨σ', H', I2, d, od, u, e, nf, q⟩ := q; exact ⟨σ', _, I2.unlock e nf, q⟩
  | cont => obtain ⟨σ', H', I2, d, od, u, e, nf, q⟩ := q; exact ⟨σ', _, I2.unlock e nf, q⟩
  | ret v => obtain ⟨v', σ', H', I2, r, d, od, u, e, nf, q⟩ := q; exact ⟨v', σ', _, I2.unlock e nf, r, q⟩
theorem pe_unlk {X : Cx} {e : Expr} {t : TE} (h : PE X e t) : PE X e (fun σ H Q => t σ H fun v H' => ∃ d od u, H' d = some (.frz od u) ∧ NoF X d ∧ Q v (upd H' d u)) := by
  refine ⟨fun pins s σ H Q I hw => ?_⟩
  refine thn (h.run pins s σ H _ I hw) fun v s1 ⟨x, H', I2, r, d, od, u, e, nf, q⟩ => ⟨x, _, I2.unlock e nf, r, q⟩

section
variable {cs cs1 : Cs} {S H S' H' : Hp} {d : Addr} {od : Obj} {ws : List (Key × V)}
theorem Own.lock (O : Own [] S H cs) (hS : S d = some (.dK ws)) : Own [d] S (upd H d (.frz od (.dK ws))) cs := by
  have hH := O.lies.open d _ hS
  refine ⟨fun a o e => ?_, O.nd, fun p hp => ?_⟩
  · by_cases h : a = d
    · subst h
      rw [hS] at e; cases e
      exact .inr ⟨by simp, ⟨ws, rfl⟩, od, upd_same⟩
    · rw [upd_ne h]; exact .inl (O.lies.open a o e)
  · have h1 := (O.cell p hp).1
    have h2 := (O.cell p hp).2
    have hne : p.1 ≠ d := fun z => by rw [z, hS] at h1; cases h1
    exact ⟨h1, h2.mono (.refl S) fun o e => by rw [upd_ne hne]; exact e⟩
theorem Own.unlock (O : Own [d] S H cs) (hS : S d = some (.dK ws)) (hH : H d = some (.frz od (.dK ws))) : Own [] S (upd H d (.dK ws)) cs := by
  refine ⟨fun a o e => ?_, O.nd, fun p hp => ?_⟩
  · by_cases h : a = d
    · subst h
      rw [hS] at e; cases e
      exact .inl upd_same
    · rw [upd_ne h]
      rcases O.lies a o e with z | ⟨z, _⟩
      · exact .inl z
      · exact absurd (by simpa using z) h
  · have h1 := (O.cell p hp).1
    have h2 := (O.cell p hp).2
    have hne : p.1 ≠ d := fun z => by rw [z, hS] at h1; cases h1
    exact ⟨h1, h2.mono (.refl S) fun o e => by rw [upd_ne hne]; exact e⟩
theorem Stp.locked (O : Own [] S H cs) (hS : S d = some (.dK ws)) (st : Stp cs S (upd H d (.frz od (.dK ws))) S' H' cs1) : Stp cs S H S' (upd H' d (.dK ws)) cs1 ∧ H' d = some (.frz od (.dK ws)) ∧ S' d = some (.dK ws) := by
  have hH := O.lies.open d _ hS
  have hdc : d ∉ cs.map (·.1) := fun z => by
    obtain ⟨p, hp, rfl⟩ := List.mem_map.mp z
    rw [(O.cell p hp).1] at hS; cases hS
  refine ⟨⟨st.ext, fun a o e n => ?_, fun a e n => ?_, fun a e => ?_, fun a h => ?_⟩, st.keep d _ upd_same hdc, st.ext d _ hS⟩
  · by_cases h : a = d
    · subst h; rw [hH] at e; cases e; exact upd_same
    · rw [upd_ne h]; exact st.keep a o (by rw [upd_ne h]; exact e) n
  · refine st.out a ?_ n
    by_cases h : a = d
    · subst h; rw [upd_same]; simp
    · rw [upd_ne h]; exact e
  · by_cases h : a = d
    · subst h; rw [upd_same]; simp
    · rw [upd_ne h]; exact st.dom a (by rw [upd_ne h]; exact e)
  · rcases st.new a h with z | z
    · exact .inl z
    · by_cases q : a = d
      · subst q; rw [upd_same] at z; cases z
      · rw [upd_ne q] at z; exact .inr z
end
def keysD (kvs : List (Int × D)) : List D := kvs.map fun p => .int p.1
def itemsD (kvs : List (Int × D)) : List D := kvs.map fun p => .tup [.int p.1, p.2]
theorem keys_V {S : Hp} : ∀ {kvs : List (Int × D)} {ws : List (Key × V)} {i : Nat} {k : Int} {x : D}, RepK S kvs ws → kvs[i]? = some (k, x) → ∃ v, ws[i]? = some (Sum.inl k, v) ∧ Rep S x v
  | [], ws, i, k, x, h, e => by simp at e
  | (j, y) :: kvs, ws, 0, k, x, h, e => by rw [RepK] at h; obtain ⟨w, us, rfl, q, t⟩ := h; simp at e; obtain ⟨rfl, rfl⟩ := e; exact ⟨w, rfl, q⟩
  | (j, y) :: kvs, ws, i + 1, k, x, h, e => by rw [RepK] at h; obtain ⟨w, us, rfl, q, t⟩ := h; simpa using keys_V (i := i) t (by simpa using e)
/-- a dict that is walked, within its lock -/
def EvK (X : Cx) (e : Expr) (ds : Ds) (cs : Cs) (kvs : List (Int × D)) (cs' : Cs) : Prop := EvM [] X e ds cs (.dic kvs) cs'
section
variable {X : Cx} {tg e elt : Expr} {scope : Scope} {own : List (Str × Nat)} {elts : List Expr} {body : List Stmt} {ds : Ds} {cs cs1 : Cs} {kvs : List (Int × D)} {pos apos cpos tpos : Pos} {kk : Nat} {k : KE}

theorem yl_keys {d : Addr} {od : Obj} {ws : List (Key × V)} {S H : Hp} (O0 : Own [] S H cs) (hS : S d = some (.dK ws)) (r : RepK S kvs ws) : Yl [d] (fun _ => True) (Itk d od ws) cs S (upd H d (.frz od (.dK ws))) (keysD kvs) := by
  refine ⟨fun S' H' cs' x O _ => ⟨(Stp.locked O0 hS x).2.1, by unfold keysD; rw [List.length_map, r.len]; exact Nat.le_refl _⟩, fun i S' H' cs' h x O _ => ⟨(Stp.locked O0 hS x).2.1, by unfold keysD at h; rw [List.length_map] at h; rw [r.len]; exact h⟩, fun i y S' H' cs' v H'' h x O _ g => ?_⟩
  obtain ⟨e1, k, u, e2, e3⟩ := g
  subst e1
  unfold keysD at h
  rw [List.getElem?_map] at h
  cases q : kvs[i]? with
  | none => rw [q] at h; cases h
  | some p =>
    rw [q] at h
    simp at h
    obtain ⟨w, e4, _⟩ := keys_V (k := p.1) (x := p.2) r q
    rw [e4] at e2
    cases e2
    exact ⟨S', O, .refl, by rw [← h, e3]; exact rep_int.mpr rfl⟩
theorem yl_items {d : Addr} {od : Obj} {ws : List (Key × V)} {S H : Hp} (O0 : Own [] S H cs) (hS : S d = some (.dK ws)) (r : RepK S kvs ws) : Yl [d] (fun _ => True) (Iti d od ws) cs S (upd H d (.frz od (.dK ws))) (itemsD kvs) := by
  refine ⟨fun S' H' cs' x O _ => ⟨(Stp.locked O0 hS x).2.1, by unfold itemsD; rw [List.length_map, r.len]; exact Nat.le_refl _⟩, fun i S' H' cs' h x O _ => ⟨(Stp.locked O0 hS x).2.1, by unfold itemsD at h; rw [List.length_map] at h; rw [r.len]; exact h⟩, fun i y S' H' cs' v H'' h x O _ g => ?_⟩
  obtain ⟨T, k, u, e2, e3, hT, e1⟩ := g
  unfold itemsD at h
  rw [List.getElem?_map] at h
  cases q : kvs[i]? with
  | none => rw [q] at h; cases h
  | some p =>
    rw [q] at h
    simp at h
    obtain ⟨w, e4, r4⟩ := keys_V (k := p.1) (x := p.2) r q
    rw [e4] at e2
    cases e2
    subst e1
    exact ⟨_, O.alloc hT, .alloc (O.lies.ne hT) hT, by rw [← h, e3]; exact rep_tup.mpr ⟨T, _, rfl, upd_same, .cons (rep_int.mpr rfl) (.cons ((r4.mono x.ext).mono (.new (O.lies.ne hT))) .nil)⟩⟩

/-- the state while the dict is walked -/
theorem postS_lock {d : Addr} {od : Obj} {ws : List (Key × V)} {S H : Hp} {D0 : Ends} (O : Own [] S H cs) (hS : S d = some (.dK ws)) (nf : NoF X d) (p : PostS [] cs S H k D0) : PostS [d] cs S (upd H d (.frz od (.dK ws))) k (Dk X D0) := by
  refine ⟨fun ds' cs' σ' S' H' h O' E' s => ?_, fun x cs' v S' H' h O' s r => ?_, fun ds' cs' σ' S' H' h O' E' s => ?_, fun ds' cs' σ' S' H' h O' E' s => ?_⟩
  · obtain ⟨s1, e1, e2⟩ := Stp.locked O hS s
    exact ⟨d, od, _, e1, nf, p.nx _ _ _ _ _ h (O'.unlock e2 e1) E' s1⟩
  · obtain ⟨s1, e1, e2⟩ := Stp.locked O hS s
    exact ⟨d, od, _, e1, nf, p.rt _ _ _ _ _ h (O'.unlock e2 e1) s1 r⟩
  · obtain ⟨s1, e1, e2⟩ := Stp.locked O hS s
    exact ⟨d, od, _, e1, nf, p.bk _ _ _ _ _ h (O'.unlock e2 e1) E' s1⟩
  · obtain ⟨s1, e1, e2⟩ := Stp.locked O hS s
    exact ⟨d, od, _, e1, nf, p.ct _ _ _ _ _ h (O'.unlock e2 e1) E' s1⟩
theorem s_forKeys {vs : List Nat} (he : EvM [] X e ds cs (.dic kvs) cs1) (I : Nat → Ds → Cs → Prop) (h0 : I 0 ds cs1)
    (hs : ∀ d i x ds' cs', (keysD kvs)[i]? = some x → I i ds' cs' → ∃ ds'', TgB X tg vs x ds' ds'' ∧ SF [d] X body ds'' cs' { nx := I (i + 1), ct := I (i + 1), bk := k.nx, rt := k.rt }) (hd : ∀ ds' cs', I kvs.length ds' cs' → k.nx ds' cs')
    (hc : X.calm = true := by rfl) (hp : PassesOwn (model X.prog X.w) X.A X.env X.xe := by exact PassesOwn.never) (hfs : ∀ x, foldedSetIterable e X.env x = pure x := by intro _; rfl) : S1 [] X (.For tg e body [] pos) ds cs k := fun σ S H O E D0 p =>
  run_s (ps_unlk (ps_for hp hc (pi_keys (pe_frz pe_w)) pg_w pss_w hfs)) (he σ S H O E _ fun v S1 H1 O1 s1 r1 => by
    obtain ⟨d, ws, rfl, hS, r⟩ := rep_dic.mp r1
    refine ⟨d, .dK ws, rfl, O1.lies.open _ _ hS, trivial, fun od nf => ⟨d, od, rfl, .inl ⟨ws, upd_same, ?_⟩⟩⟩
    exact for_in (G := fun _ => True) I (O1.lock hS) (E.mono s1.ext) (yl_keys O1 hS r) (postS_lock O1 hS nf (p.step s1)) h0 (fun _ _ _ _ => trivial) (hs d) (fun ds' cs' h => hd ds' cs' (by rwa [show (keysD kvs).length = kvs.length by simp [keysD]] at h)))
theorem s_forItems {vs : List Nat} (he : EvM [] X e ds cs (.dic kvs) cs1) (I : Nat → Ds → Cs → Prop) (h0 : I 0 ds cs1)
    (hs : ∀ d i x ds' cs', (itemsD kvs)[i]? = some x → I i ds' cs' → ∃ ds'', TgB X (.Tuple elts kk tpos) vs x ds' ds'' ∧ SF [d] X body ds'' cs' { nx := I (i + 1), ct := I (i + 1), bk := k.nx, rt := k.rt }) (hd : ∀ ds' cs', I kvs.length ds' cs' → k.nx ds' cs')
    (hbase : attributeBase e "items" X.env (eval e X.env) = eval e X.env := by rfl) (hline : (apos.endLine == cpos.line) = true := by rfl)
    (hc : X.calm = true := by rfl) (hp : PassesOwn (model X.prog X.w) X.A X.env X.xe := by exact PassesOwn.never) (hfs : ∀ x, foldedSetIterable (.Call (.Attribute e "items" apos) [] [] cpos) X.env x = pure x := by intro _; rfl) : S1 [] X (.For (.Tuple elts kk tpos) (.Call (.Attribute e "items" apos) [] [] cpos) body [] pos) ds cs k := fun σ S H O E D0 p =>
  run_s (ps_unlk (ps_for hp hc (pi_items (pe_frz pe_w) hbase hline) pg_w pss_w hfs)) (he σ S H O E _ fun v S1 H1 O1 s1 r1 => by
    obtain ⟨d, ws, rfl, hS, r⟩ := rep_dic.mp r1
    refine ⟨d, .dK ws, rfl, O1.lies.open _ _ hS, trivial, fun od nf => ⟨d, od, ws, rfl, upd_same, ?_⟩⟩
    exact for_in (G := fun _ => True) I (O1.lock hS) (E.mono s1.ext) (yl_items O1 hS r) (postS_lock O1 hS nf (p.step s1)) h0 (fun _ _ _ _ => trivial) (hs d) (fun ds' cs' h => hd ds' cs' (by rwa [show (itemsD kvs).length = kvs.length by simp [itemsD]] at h)))
theorem post_lock {d : Addr} {od : Obj} {ws : List (Key × V)} {S H : Hp} {x : D} {Q : VK} (O : Own [] S H cs) (hS : S d = some (.dK ws)) (nf : NoF X d) (p : PostM [] cs S H cs1 x Q) :
    PostM [d] cs S (upd H d (.frz od (.dK ws))) cs1 x (fun v H' => ∃ d od u, H' d = some (.frz od u) ∧ NoF X d ∧ Q v (upd H' d u)) := fun v S' H' O' s r => by
  obtain ⟨s1, e1, e2⟩ := Stp.locked O hS s
  exact ⟨d, od, _, e1, nf, p v S' _ (O'.unlock e2 e1) s1 r⟩
theorem ev_lcKeys {ifs : List Expr} (nd : X.N.Nodup) (ok : BlkOk X.N X.env.scope scope own) (he : EvM [] X e ds cs (.dic kvs) cs1) (acc : Nat → List D) (C : Nat → Cs) (hC : C 0 = cs1) (ha : acc 0 = []) (hl : ∀ i, i ≤ kvs.length → (acc i).length < 1000000)
    (turn : ∀ d i x, (keysD kvs)[i]? = some x → TurnL [d] X scope tg elt ifs (own.map (·.2)) ds x (C i) (C (i + 1)) (acc i) (acc (i + 1))) (hc : X.calm = true := by rfl) (hs : ∀ x, foldedSetIterable e X.env x = pure x := by intro _; rfl) :
    EvM [] X (.ListComp elt [⟨tg, e, ifs, 0⟩] scope pos) ds cs (.lst (acc kvs.length)) (C kvs.length) := fun σ S H O E Q q =>
  run_e (pe_unlk (pe_lc hc nd (pi_keys (pe_frz pe_w)) ok pg_b (fun s H C cl fp => pts_b ifs ⟨s, H, C, cl, fp⟩) pe_b hs))
    (he σ S H O E _ fun v S1 H1 O1 s1 r1 => by
      obtain ⟨d, ws, rfl, hS, r⟩ := rep_dic.mp r1
      refine ⟨d, .dK ws, rfl, O1.lies.open _ _ hS, trivial, fun od nf => ⟨d, od, rfl, .inl ⟨ws, upd_same, ?_⟩⟩⟩
      have hkl : (keysD kvs).length = kvs.length := by simp [keysD]
      rw [← hC] at O1 s1
      have pl := post_lock (od := od) O1 hS nf (q.step s1)
      rw [← hkl] at pl
      exact lc_in (G := fun _ => True) acc C ha (fun _ _ _ => trivial) (fun i hi => hl i (by rwa [hkl] at hi)) (turn d) (O1.lock hS) (E.mono s1.ext) (yl_keys O1 hS r) pl)
theorem ev_lcItems {ifs : List Expr} (nd : X.N.Nodup) (ok : BlkOk X.N X.env.scope scope own) (he : EvM [] X e ds cs (.dic kvs) cs1) (acc : Nat → List D) (C : Nat → Cs) (hC : C 0 = cs1) (ha : acc 0 = []) (hl : ∀ i, i ≤ kvs.length → (acc i).length < 1000000)
    (turn : ∀ d i x, (itemsD kvs)[i]? = some x → TurnL [d] X scope (.Tuple elts kk tpos) elt ifs (own.map (·.2)) ds x (C i) (C (i + 1)) (acc i) (acc (i + 1)))
    (hbase : attributeBase e "items" X.env (eval e X.env) = eval e X.env := by rfl) (hline : (apos.endLine == cpos.line) = true := by rfl) (hc : X.calm = true := by rfl) (hs : ∀ x, foldedSetIterable (.Call (.Attribute e "items" apos) [] [] cpos) X.env x = pure x := by intro _; rfl) :
    EvM [] X (.ListComp elt [⟨.Tuple elts kk tpos, .Call (.Attribute e "items" apos) [] [] cpos, ifs, 0⟩] scope pos) ds cs (.lst (acc kvs.length)) (C kvs.length) := fun σ S H O E Q q =>
  run_e (pe_unlk (pe_lc hc nd (pi_items (pe_frz pe_w) hbase hline) ok pg_b (fun s H C cl fp => pts_b ifs ⟨s, H, C, cl, fp⟩) pe_b hs))
    (he σ S H O E _ fun v S1 H1 O1 s1 r1 => by
      obtain ⟨d, ws, rfl, hS, r⟩ := rep_dic.mp r1
      refine ⟨d, .dK ws, rfl, O1.lies.open _ _ hS, trivial, fun od nf => ⟨d, od, ws, rfl, upd_same, ?_⟩⟩
      have hkl : (itemsD kvs).length = kvs.length := by simp [itemsD]
      rw [← hC] at O1 s1
      have pl := post_lock (od := od) O1 hS nf (q.step s1)
      rw [← hkl] at pl
      exact lc_in (G := fun _ => True) acc C ha (fun _ _ _ => trivial) (fun i hi => hl i (by rwa [hkl] at hi)) (turn d) (O1.lock hS) (E.mono s1.ext) (yl_items O1 hS r) pl)
end
end Af
set_option Elab.async false
set_option linter.all false
set_option maxRecDepth 100000
set_option maxHeartbeats 2000000
/-! ### dict comprehensions, defs and their calls -/
namespace Af
open PySem L2

section
variable {lk : List Addr} {X : Cx} {tg iter kx vx c e : Expr} {scope : Scope} {own : List (Str × Nat)} {ds ds' : Ds} {cs cs0 cs1 cs2 : Cs} {x y : D} {xs : List D} {pos spos : Pos} {G : Cs → Prop} {k : KE}

/-- name = {k: v for ..} on one line, the name a local -/
theorem ps_setDc {i : Nat} {y : Str} {py : Pos} {ifs : List Expr} {wi : TI} {g : TG} {tt : TT} {tk tv : TE} (hc : X.calm = true) (hN : X.N.Nodup) (hy : X.N[i]? = some y) (hyl : X.env.scope.names.lookup y = some .local)
    (hsw : swapsWith (.DictComp kx vx [⟨tg, iter, ifs, 0⟩] scope pos) (some (.Name y py)) spos.line X.env = pure true) (hi : PI X tg iter wi) (ok : BlkOk X.N X.env.scope scope own)
    (hg : ∀ (s : Shared) (H : Hp) (C : Addr) (cl : List (Str × Addr)) (fp : List Addr), PG (X.blk s H scope (compEnvC scope cl C X.env) fp) tg g) (ht : ∀ (s : Shared) (H : Hp) (C : Addr) (cl : List (Str × Addr)) (fp : List Addr), PTs (X.blk s H scope (compEnvC scope cl C X.env) fp) ifs tt)
    (hk : ∀ (s : Shared) (H : Hp) (C : Addr) (cl : List (Str × Addr)) (fp : List Addr), PE (X.blk s H scope (compEnvC scope cl C X.env) fp) kx tk)
    (he : ∀ (s : Shared) (H : Hp) (C : Addr) (cl : List (Str × Addr)) (fp : List Addr), PE (X.blk s H scope (compEnvC scope cl C X.env) fp) vx tv) (hs : ∀ x, foldedSetIterable iter X.env x = pure x := by intro _; rfl) :
    PS X (.Assign [.Name y py] (.DictComp kx vx [⟨tg, iter, ifs, 0⟩] scope pos) spos) (tAsg (tDc wi g tt tk tv (own.map (·.2))) (gName i)) := by
  refine ⟨fun pins s σ H D I h => ?_⟩
  rw [exec_Assign_Name_used _ _ _ _ hsw]
  refine wpAny_bind (wpAny_standAt (wpAny_bind ?_))
  show wpAny _ X.A (do let _ ← comprehension (.DictComp kx vx [⟨tg, iter, ifs, 0⟩] scope pos) scope X.env (firstIterPos [⟨tg, iter, ifs, 0⟩] pos) newDict false (eval iter X.env) (some (assign (.Name y py) X.env))) _ _ s
  have h : tDc wi g tt tk tv (own.map (·.2)) σ H (fun x H1 => gName i x σ H1 D.nx) := h
  refine wpAny_bind (thn (dc_core (Qf := fun _ s' => SP X pins D .next s') hc hN I hi ok hg ht hk he hs h fun L C s' m H' I' q hn f => ?_) fun _ s' hq => wpAny_pure (wpAny_pure hq))
  show wpAny _ _ (assign (.Name y py) X.env (.ref L)) _ _ _
  refine wpAny_assign_Name (store_ok2 (v := V.ref L) I' hN hy (.inl hyl) rfl (fun s2 I2 ⟨a, sb, ha⟩ => ?_) (.inr hyl))
  obtain ⟨f0, f1, f2, f3, f4, f5⟩ := f
  have haC : C ≠ a := by
    rcases ha with z | z
    · rw [z]; exact f1
    · exact fun e => f4 y a z e.symm
  refine ⟨m, hn.sameBut sb haC, fun h3 sb3 => ?_⟩
  exact ⟨_, H', I2.turned (t' := s2.toks) (fun b o hb e => (sb3.2 b hb).trans e) f0 f1 f3 f4 f5, q⟩

/-- a turn of a dict comprehension without a test, the cells staying -/
def TurnK (lk : List Addr) (X : Cx) (scope : Scope) (tg kx vx : Expr) (vs : List Nat) (ds : Ds) (x : D) (cs : Cs) (j : Int) (y : D) : Prop :=
  ∃ ds', (∀ b : Bl, TgB (b.cx X scope) tg vs x (wipeD ds vs) ds') ∧ (∀ b : Bl, EvM lk (b.cx X scope) kx ds' cs (.int j) cs) ∧ (∀ b : Bl, EvM lk (b.cx X scope) vx ds' cs y cs)
def kputs (kvs : List (Int × D)) : List (Int × D) := kvs.foldl (fun a p => kput a p.1 p.2) []
theorem kput_len (kvs : List (Int × D)) (j : Int) (x : D) : (kput kvs j x).length ≤ kvs.length + 1 := by
  unfold kput
  split
  · rw [List.length_map]; omega
  · simp
theorem kputs_len (kvs : List (Int × D)) : (kputs kvs).length ≤ kvs.length := by
  unfold kputs
  have : ∀ (l : List (Int × D)) (a : List (Int × D)), (l.foldl (fun a p => kput a p.1 p.2) a).length ≤ a.length + l.length := by
    intro l
    induction l with
    | nil => intro a; simp
    | cons p r ih => intro a; rw [List.foldl_cons]; have := ih (kput a p.1 p.2); have := kput_len a p.1 p.2; simp only [List.length_cons]; omega
  simpa using this kvs []
theorem kputs_snoc (kvs : List (Int × D)) (p : Int × D) : kputs (kvs ++ [p]) = kput (kputs kvs) p.1 p.2 := by unfold kputs; rw [List.foldl_append]; rfl
/-- without a key twice -/
theorem kputs_nodup : ∀ (kvs : List (Int × D)), (kvs.map (·.1)).Nodup → kputs kvs = kvs := by
  have : ∀ (l a : List (Int × D)), ((a ++ l).map (·.1)).Nodup → l.foldl (fun a p => kput a p.1 p.2) a = a ++ l := by
    intro l
    induction l with
    | nil => intro a _; simp
    | cons p r ih =>
      intro a h
      rw [List.foldl_cons]
      have hp : kput a p.1 p.2 = a ++ [p] := by
        unfold kput
        have : (a.any fun kv => decide (kv.1 = p.1)) = false := by
          rw [List.any_eq_false]
          intro q hq
          rw [List.map_append, List.nodup_append] at h
          have := h.2.2 q.1 (List.mem_map_of_mem hq) p.1 (by simp)
          simpa using this
        rw [this]; simp
      rw [hp, ih (a ++ [p]) (by simpa using h)]; simp
  intro kvs h
  exact this kvs [] (by simpa using h)
theorem dc_read {vs : List Nat} (hi : EvI lk X tg iter ds cs xs cs0 G) (kvs : List (Int × D)) (hk : kvs.length = xs.length) (hG : ∀ fr, G (cs0 ++ fr)) (hl : xs.length < 1000000)
    (turn : ∀ (i : Nat) x p, xs[i]? = some x → kvs[i]? = some p → TurnK lk X scope tg kx vx vs ds x cs0 p.1 p.2)
    {σ : L2.St} {S H : Hp} (O : Own lk S H cs) (E : Env S ds σ) {Q : VK} (q : ∀ a, PostM lk cs S H (cs0 ++ [(a, .dic (kputs kvs))]) (.ptr a) Q) : tDc (wI X tg iter) (wGb X scope tg) tYes (wEb X scope kx) (wEb X scope vx) vs σ H Q :=
  hi σ S H O E _ fun J S1 H1 O1 s1 yl => by
    intro L hL
    have r0 : CellRep S1 (upd H1 L (.dK [])) L (.dic (kputs (kvs.take 0))) := ⟨[], upd_same, by simpa [kputs] using RepK.nil⟩
    have at_ : ∀ (cc : Cs) (aa : List (Int × D)), (cc ++ [(L, CO.dic aa)])[cc.length]? = some (L, .dic aa) := fun cc aa => by simp
    have toS : ∀ {S' H' cc}, Stp cs0 S1 H1 S' H' cc → Stp cs S H S' H' cc := fun s => s1.trans s
    refine ⟨fun i m H' => m = xs.length - i ∧ i ≤ xs.length ∧ ∃ S', Own lk S' H' (cs0 ++ [(L, .dic (kputs (kvs.take i)))]) ∧ Stp cs0 S1 H1 S' H' (cs0 ++ [(L, .dic (kputs (kvs.take i)))]), ⟨xs.length, by simp, Nat.zero_le _, S1, O1.allocC hL r0, .allocC hL⟩, ?_⟩
    rintro i m H' ⟨rfl, hi, S', O', s'⟩
    by_cases hlt : i < xs.length
    · have hx : xs[i]? = some xs[i] := by simp [hlt]
      have hlk : i < kvs.length := by omega
      have hp : kvs[i]? = some kvs[i] := by simp [hlk]
      obtain ⟨ds', ht, h1, h2⟩ := turn i _ _ hx hp
      refine .inr ⟨yl.go i S' H' _ hlt s' O' (hG _), fun H2 => i + 1 ≤ xs.length ∧ ∃ S2, Own lk S2 H2 (cs0 ++ [(L, .dic (kputs (kvs.take (i + 1))))]) ∧ Stp cs0 S1 H1 S2 H2 (cs0 ++ [(L, .dic (kputs (kvs.take (i + 1))))]),
        fun H2 ⟨h1, h2⟩ => ⟨xs.length - (i + 1), by omega, rfl, h1, h2⟩, fun v H2 hy b => ?_⟩
      obtain ⟨S2, O2, s2, r2⟩ := yl.yld i _ S' H' _ v H2 hx s' O' (hG _) hy
      refine ht b lk S2 H2 _ v _ O2 r2 ((E.mono (toS (s'.trans s2)).ext).wipe vs) _ fun σ3 E3 hw => ⟨hw.trans (wipe_twice fun _ h => h), ?_⟩
      simp only [tYes, if_true]
      intro b2
      refine (h1 b2).frame σ3 S2 H2 O2 E3 _ fun w S3 H3 O3 s3 r3 b3 => ?_
      refine (h2 b3).frame σ3 S3 H3 O3 (E3.mono s3.ext) _ fun z S4 H4 O4 s4 r4 => ?_
      obtain ⟨us, e5, r5⟩ := O4.at_ (at_ _ _)
      rw [rep_int.mp r3]
      refine ⟨us, Sum.inl kvs[i].1, rfl, e5, by rw [r5.len]; have := kputs_len (kvs.take i); rw [List.length_take] at this; exact szl (by omega), hlt, S4, ?_⟩
      have e6 : kputs (kvs.take (i + 1)) = kput (kputs (kvs.take i)) kvs[i].1 kvs[i].2 := by
        rw [List.take_add_one, hp]; exact kputs_snoc _ _
      have hset : (cs0 ++ [(L, CO.dic (kputs (kvs.take i)))]).set cs0.length (L, .dic (kput (kputs (kvs.take i)) kvs[i].1 kvs[i].2)) = cs0 ++ [(L, .dic (kputs (kvs.take (i + 1))))] := by rw [e6]; simp
      have O5 := O4.write (at_ _ _) (c' := .dic (kput (kputs (kvs.take i)) kvs[i].1 kvs[i].2)) (o := .dK (putK us (Sum.inl kvs[i].1) z)) ⟨_, upd_same, r5.put r4⟩
      have s5 := Stp.write (S := S4) (H := H4) (o := .dK (putK us (Sum.inl kvs[i].1) z)) (c' := .dic (kput (kputs (kvs.take i)) kvs[i].1 kvs[i].2)) (at_ cs0 (kputs (kvs.take i)))
      rw [hset] at O5 s5
      exact ⟨O5, (((s'.trans s2).trans s3).trans s4).trans s5⟩
    · have e : i = xs.length := by omega
      subst e
      refine .inl ⟨yl.stop S' H' _ s' O' (hG _), ?_⟩
      rw [← hk, List.take_length] at O' s'
      exact q L _ _ _ O' (toS s') (rep_ptr.mpr rfl)
theorem ep_dc (nd : X.N.Nodup) (ok : BlkOk X.N X.env.scope scope own) (hi : EvI lk X tg iter ds cs xs cs0 G) (kvs : List (Int × D)) (hk : kvs.length = xs.length) (hG : ∀ fr, G (cs0 ++ fr)) (hl : xs.length < 1000000)
    (turn : ∀ (i : Nat) x p, xs[i]? = some x → kvs[i]? = some p → TurnK lk X scope tg kx vx (own.map (·.2)) ds x cs0 p.1 p.2) (hc : X.calm = true := by rfl) (hs : ∀ x, foldedSetIterable iter X.env x = pure x := by intro _; rfl) :
    EvP lk X (.DictComp kx vx [⟨tg, iter, [], 0⟩] scope pos) ds cs (fun y cs' => ∃ a, y = .ptr a ∧ cs' = cs0 ++ [(a, .dic (kputs kvs))]) := fun σ S H O E Q q =>
  run_e (pe_dc hc nd pi_w ok pg_b (fun _ _ _ _ _ => pts_nil) pe_b pe_b hs) (dc_read hi kvs hk hG hl turn O E fun a => q _ _ ⟨a, rfl, rfl⟩)
theorem s_setDc (i : Nat) {n : Str} {py : Pos} (nd : X.N.Nodup) (ok : BlkOk X.N X.env.scope scope own) (hi : EvI lk X tg iter ds cs xs cs0 G) (kvs : List (Int × D)) (hk : kvs.length = xs.length) (hG : ∀ fr, G (cs0 ++ fr)) (hl : xs.length < 1000000)
    (turn : ∀ (i : Nat) x p, xs[i]? = some x → kvs[i]? = some p → TurnK lk X scope tg kx vx (own.map (·.2)) ds x cs0 p.1 p.2) (h : ∀ a, k.nx (ds.set i (some (.ptr a))) (cs0 ++ [(a, .dic (kputs kvs))]))
    (hy : X.N[i]? = some n := by rfl) (hyl : X.env.scope.names.lookup n = some .local := by rfl) (hsw : swapsWith (.DictComp kx vx [⟨tg, iter, [], 0⟩] scope pos) (some (.Name n py)) spos.line X.env = pure true := by rfl)
    (hc : X.calm = true := by rfl) (hs : ∀ x, foldedSetIterable iter X.env x = pure x := by intro _; rfl) : S1 lk X (.Assign [.Name n py] (.DictComp kx vx [⟨tg, iter, [], 0⟩] scope pos) spos) ds cs k := fun σ S H O E D0 p =>
  run_s (ps_setDc hc nd hy hyl hsw pi_w ok pg_b (fun _ _ _ _ _ => pts_nil) pe_b pe_b hs) (dc_read hi kvs hk hG hl turn O E (Q := fun v H' => D0.nx (σ.set i (some v)) H') fun a v S1 H1 O1 s1 r1 => p.nx _ _ _ _ _ (h a) O1 ((E.mono s1.ext).set r1) s1)
/-- a new cell that is given up at once -/
theorem EvP.dic {kvs : List (Int × D)} (h : EvP lk X e ds cs (fun y cs' => ∃ a, y = .ptr a ∧ cs' = cs1 ++ [(a, .dic kvs)])) : EvM lk X e ds cs (.dic kvs) cs1 := fun σ S H O E Q q =>
  h σ S H O E Q fun y cs' ⟨a, ey, ec⟩ v S1 H1 O1 s1 r1 => by
    subst ey ec
    have at_ : (cs1 ++ [(a, CO.dic kvs)])[cs1.length]? = some (a, .dic kvs) := by simp
    obtain ⟨us, e5, r5⟩ := O1.at_ at_
    have hs : S1 a = none := (O1.cell _ (List.mem_of_getElem? at_)).1
    have O6 := O1.freeze at_ e5
    have s6 := Stp.freeze O1 (o := .dK us) at_
    have her : (cs1 ++ [(a, CO.dic kvs)]).eraseIdx cs1.length = cs1 := by rw [List.eraseIdx_append_of_length_le (Nat.le_refl _)]; simp
    rw [her] at O6 s6
    exact q v _ _ O6 (s1.trans s6) (rep_dic.mpr ⟨a, us, rep_ptr.mp r1, upd_same, r5.mono (.new hs)⟩)
end

/-! ### what a def promises -/
/-- called with data xs while the cells cs are there: y, and the cells cs'; ok: also while a dict is walked -/
def spM (ok : Bool) (R : List D → Cs → D → Cs → Prop) : Sp := fun vs H Q _ => ∃ lk S xs cs y cs', (ok = true ∨ lk = []) ∧ Own lk S H cs ∧ Reps S xs vs ∧ R xs cs y cs' ∧ PostM lk cs S H cs' y Q
/-- .. where the machine chooses among some ends -/
def spN (Pre : List D → Cs → Prop) (R : List D → Cs → D → Cs → Prop) : Sp := fun vs H Q _ => ∃ S xs cs, Own [] S H cs ∧ Reps S xs vs ∧ Pre xs cs ∧ ∀ y cs', R xs cs y cs' → PostM [] cs S H cs' y Q
structure Cal (P : Program) (w : World) (K : PySem.W.Frag) (mg : Str → Option Value) (base : Heap) (k : Nat) (n : Str) (sp : Sp) : Prop where
  ex : ∃ (f : Addr) (fd : FuncData) (ps : List Str), FnOk P w K mg base CX0 k f fd ps sp ∧ mg n = some (.ref f) ∧ PySem.W.keepIn K (.ref f) = true ∧ Binds K fd ps []
structure Met (P : Program) (w : World) (K : PySem.W.Frag) (mg : Str → Option Value) (base : Heap) (k : Nat) (C : Addr) (m : Str) (sp : Sp) : Prop where
  ex : ∃ (f : Addr) (fd : FuncData) (ps : List Str), Cls K C ∧ Meth K C m f ∧ FnOk P w K mg base CX0 k f fd ps sp ∧ Binds K fd ps []
structure Mak (P : Program) (w : World) (K : PySem.W.Frag) (mg : Str → Option Value) (base : Heap) (k : Nat) (n : Str) (C : Addr) (sp : Sp) : Prop where
  ex : ∃ (f : Addr) (fd : FuncData) (ps : List Str), Mk K C f ∧ mg n = some (.ref C) ∧ FnOk P w K mg base CX0 k f fd ps sp ∧ Binds K fd ps []
structure Prp (P : Program) (w : World) (K : PySem.W.Frag) (mg : Str → Option Value) (base : Heap) (k : Nat) (C : Addr) (m : Str) (sp : Sp) : Prop where
  ex : ∃ (p g : Addr) (fd : FuncData) (ps : List Str), Cls K C ∧ PropOf K C m p g ∧ FnOk P w K mg base CX0 k g fd ps sp ∧ Binds K fd ps []
section
variable {lk : List Addr} {X : Cx} {a b c e o : Expr} {es : List Expr} {ds ds' : Ds} {cs cs0 cs1 cs2 fr : Cs} {x y : D} {xs : List D} {pos p2 apos : Pos} {k j : Nat} {n : Str} {ok : Bool} {R : List D → Cs → D → Cs → Prop} {Pre : List D → Cs → Prop}
/-- a call: the cells that it wants stand first -/
theorem ev_call (c : Cal X.prog X.w X.K X.mg X.base k n (spM ok R)) (hr : Room j X.A) (hk : k ≤ j) (ha : EvA lk X (a :: es) ds cs xs (cs0 ++ fr)) (h : R xs cs0 y cs1) (hlk : ok = true ∨ lk = []) (hg : Gl X n := by rfl)
    (hdb : (n == ("__debug__" : Str)) = false := by decide) (he : starEach (a :: es) X.env = (false, eval a X.env) :: starEach es X.env := by rfl) (hpl : (backTo pos (starEach es X.env)).any (·.1) = false := by rfl) :
    EvM lk X (.Call (.Name n p2) (a :: es) [] pos) ds cs y (cs1 ++ fr) := fun σ S H O E Q q => by
  obtain ⟨f, fd, ps, F, hm, kp, b⟩ := c.ex
  refine run_e (pe_call F (hr.mono hk) hg hm kp b .nil (E := E0) pass0 pa_w hdb he hpl) (ha σ S H O E _ fun vs S1 H1 O1 s1 r1 => ?_)
  rw [List.append_nil]
  exact ⟨lk, S1, xs, cs0, y, cs1, hlk, O1.left, r1, h, fun v S2 H2 O2 s2 r2 => q v S2 H2 (O1.frame O2 s2) (s1.trans (.frame O1 s2)) r2⟩
theorem ev_call0 (c : Cal X.prog X.w X.K X.mg X.base k n (spM ok R)) (hr : Room j X.A) (hk : k ≤ j) (h : R [] [] y []) (hlk : ok = true ∨ lk = []) (hg : Gl X n := by rfl)
    (hdb : (n == ("__debug__" : Str)) = false := by decide) : EvM lk X (.Call (.Name n p2) [] [] pos) ds cs y cs := fun σ S H O E Q q => by
  obtain ⟨f, fd, ps, F, hm, kp, b⟩ := c.ex
  refine run_e (pe_call0 F (hr.mono hk) hg hm kp b .nil (E := E0) pass0 hdb) ?_
  have O' : Own lk S H ([] ++ cs) := O
  exact ⟨lk, S, [], [], y, [], hlk, O'.left, .nil, h, fun v S2 H2 O2 s2 r2 => q v S2 H2 (O'.frame O2 s2) (.frame O' s2) r2⟩
theorem ep_call (c : Cal X.prog X.w X.K X.mg X.base k n (spN Pre R)) (hr : Room j X.A) (hk : k ≤ j) (ha : EvA [] X (a :: es) ds cs xs (cs0 ++ fr)) (h : Pre xs cs0) (hg : Gl X n := by rfl)
    (hdb : (n == ("__debug__" : Str)) = false := by decide) (he : starEach (a :: es) X.env = (false, eval a X.env) :: starEach es X.env := by rfl) (hpl : (backTo pos (starEach es X.env)).any (·.1) = false := by rfl) :
    EvP [] X (.Call (.Name n p2) (a :: es) [] pos) ds cs (fun y cs' => ∃ cs1, R xs cs0 y cs1 ∧ cs' = cs1 ++ fr) := fun σ S H O E Q q => by
  obtain ⟨f, fd, ps, F, hm, kp, b⟩ := c.ex
  refine run_e (pe_call F (hr.mono hk) hg hm kp b .nil (E := E0) pass0 pa_w hdb he hpl) (ha σ S H O E _ fun vs S1 H1 O1 s1 r1 => ?_)
  rw [List.append_nil]
  exact ⟨S1, xs, cs0, O1.left, r1, h, fun y cs1 hR v S2 H2 O2 s2 r2 => q y _ ⟨cs1, hR, rfl⟩ v S2 H2 (O1.frame O2 s2) (s1.trans (.frame O1 s2)) r2⟩
/-- a method of an instance that changes (a cell), or of one that stays -/
theorem ev_meth {C dx p : Addr} {m : Str} {fs : List (Str × D)} {pl : Sem Bool} (i : Nat) (c : Met X.prog X.w X.K X.mg X.base k C m (spM ok R)) (hr : Room j X.A) (hk : k ≤ j) (ho : EvM lk X o ds cs (.ptr p) cs2) (hi : cs2[i]? = some (p, .ins C dx fs)) (hf : fs.lookup m = none) (ha : EvA lk X (a :: es) ds cs2 xs (cs0 ++ fr)) (h : R (.ptr p :: xs) cs0 y cs1) (hlk : ok = true ∨ lk = [])
    (hst : starEach (a :: es) X.env = (false, eval a X.env) :: starEach es X.env := by rfl) (hpl : (backTo pos (starEach es X.env)).any (·.1) = false := by rfl)
    (ht : eval (.Call (.Attribute o m apos) (a :: es) [] pos) X.env = (do
      let ov ← eval o X.env
      standAt apos.atName
      let (f, first) ← holding [ov] (getMethod ov m pl)
      callWith pos f first (backTo pos (starEach (a :: es) X.env)) (backToKw pos (keywordEach [] X.env))) := by rfl) :
    EvM lk X (.Call (.Attribute o m apos) (a :: es) [] pos) ds cs y (cs1 ++ fr) := fun σ S H O E Q q => by
  obtain ⟨f, fd, ps, hc, hm, F, b⟩ := c.ex
  refine run_e (pe_meth (pl := pl) pe_w hc hm F (hr.mono hk) b .nil (E := E0) pass0 pa_w hst hpl ht) (ho σ S H O E _ fun v S1 H1 O1 s1 r1 => ?_)
  obtain ⟨ws, e1, r3⟩ := O1.at_ hi
  rw [rep_ptr.mp r1]
  refine ⟨p, dx, ws, rfl, e1, r3.no hf, ha σ S1 H1 O1 (E.mono s1.ext) _ fun vs S2 H2 O2 s2 r2 => ?_⟩
  rw [List.append_nil]
  exact ⟨lk, S2, .ptr p :: xs, cs0, y, cs1, hlk, O2.left, .cons (rep_ptr.mpr rfl) r2, h, fun v S3 H3 O3 s3 r4 => q v S3 H3 (O2.frame O3 s3) ((s1.trans s2).trans (.frame O2 s3)) r4⟩
theorem ev_meth0 {C dx p : Addr} {m : Str} {fs : List (Str × D)} {pl : Sem Bool} (i : Nat) (c : Met X.prog X.w X.K X.mg X.base k C m (spM ok R)) (hr : Room j X.A) (hk : k ≤ j) (ho : EvM lk X o ds cs (.ptr p) (cs0 ++ fr)) (hi : (cs0 ++ fr)[i]? = some (p, .ins C dx fs)) (hf : fs.lookup m = none) (h : R [.ptr p] cs0 y cs1) (hlk : ok = true ∨ lk = [])
    (ht : eval (.Call (.Attribute o m apos) [] [] pos) X.env = (do
      let ov ← eval o X.env
      standAt apos.atName
      let (f, first) ← holding [ov] (getMethod ov m pl)
      callWith pos f first (backTo pos (starEach [] X.env)) (backToKw pos (keywordEach [] X.env))) := by rfl) :
    EvM lk X (.Call (.Attribute o m apos) [] [] pos) ds cs y (cs1 ++ fr) := fun σ S H O E Q q => by
  obtain ⟨f, fd, ps, hc, hm, F, b⟩ := c.ex
  refine run_e (pe_meth0 (pl := pl) pe_w hc hm F (hr.mono hk) b .nil (E := E0) pass0 ht) (ho σ S H O E _ fun v S1 H1 O1 s1 r1 => ?_)
  obtain ⟨ws, e1, r3⟩ := O1.at_ hi
  rw [rep_ptr.mp r1]
  exact ⟨p, dx, ws, rfl, e1, r3.no hf, lk, S1, [.ptr p], cs0, y, cs1, hlk, O1.left, .cons (rep_ptr.mpr rfl) .nil, h, fun v S3 H3 O3 s3 r4 => q v S3 H3 (O1.frame O3 s3) (s1.trans (.frame O1 s3)) r4⟩
/-- .. of an instance that stays -/
theorem ev_methI {C : Addr} {m : Str} {fs : List (Str × D)} {pl : Sem Bool} (c : Met X.prog X.w X.K X.mg X.base k C m (spM ok R)) (hr : Room j X.A) (hk : k ≤ j) (ho : EvM lk X o ds cs (.ins C fs) cs2) (hf : fs.lookup m = none) (ha : EvA lk X (a :: es) ds cs2 xs (cs0 ++ fr)) (h : R (.ins C fs :: xs) cs0 y cs1) (hlk : ok = true ∨ lk = [])
    (hst : starEach (a :: es) X.env = (false, eval a X.env) :: starEach es X.env := by rfl) (hpl : (backTo pos (starEach es X.env)).any (·.1) = false := by rfl)
    (ht : eval (.Call (.Attribute o m apos) (a :: es) [] pos) X.env = (do
      let ov ← eval o X.env
      standAt apos.atName
      let (f, first) ← holding [ov] (getMethod ov m pl)
      callWith pos f first (backTo pos (starEach (a :: es) X.env)) (backToKw pos (keywordEach [] X.env))) := by rfl) :
    EvM lk X (.Call (.Attribute o m apos) (a :: es) [] pos) ds cs y (cs1 ++ fr) := fun σ S H O E Q q => by
  obtain ⟨f, fd, ps, hc, hm, F, b⟩ := c.ex
  refine run_e (pe_meth (pl := pl) pe_w hc hm F (hr.mono hk) b .nil (E := E0) pass0 pa_w hst hpl ht) (ho σ S H O E _ fun v S1 H1 O1 s1 r1 => ?_)
  obtain ⟨p, dx, ws, rfl, e1, r3⟩ := rep_ins.mp r1
  refine ⟨p, dx, ws, rfl, O1.lies.ins e1, r3.no hf, ha σ S1 H1 O1 (E.mono s1.ext) _ fun vs S2 H2 O2 s2 r2 => ?_⟩
  rw [List.append_nil]
  exact ⟨lk, S2, .ins C fs :: xs, cs0, y, cs1, hlk, O2.left, .cons (r1.mono s2.ext) r2, h, fun v S3 H3 O3 s3 r4 => q v S3 H3 (O2.frame O3 s3) ((s1.trans s2).trans (.frame O2 s3)) r4⟩
/-- a property of an instance that stays -/
theorem ev_prop {C : Addr} {m : Str} {fs : List (Str × D)} (c : Prp X.prog X.w X.K X.mg X.base k C m (spM ok R)) (hr : Room j X.A) (hk : k + 1 ≤ j) (ho : EvM lk X o ds cs (.ins C fs) cs1) (h : R [.ins C fs] [] y []) (hlk : ok = true ∨ lk = [])
    (hab : attributeBase o m X.env (eval o X.env) = eval o X.env := by rfl) : EvM lk X (.Attribute o m pos) ds cs y cs1 := fun σ S H O E Q q => by
  obtain ⟨p, g, fd, ps, hc, hp, F, b⟩ := c.ex
  refine run_e (pe_prop pe_w hc hp F (hr.mono hk) b .nil (E := E0) pass0 hab) (ho σ S H O E _ fun v S1 H1 O1 s1 r1 => ?_)
  obtain ⟨a, dx, ws, rfl, e1, r3⟩ := rep_ins.mp r1
  have O' : Own lk S1 H1 ([] ++ cs1) := O1
  exact ⟨a, dx, ws, rfl, O1.lies.ins e1, lk, S1, [.ins C fs], [], y, [], hlk, O'.left, .cons r1 .nil, h, fun v S2 H2 O2 s2 r2 => q v S2 H2 (O'.frame O2 s2) (s1.trans (.frame O' s2)) r2⟩
/-- a new instance: __init__ makes of the empty one what R says, with further cells -/
theorem ep_make {C : Addr} (c : Mak X.prog X.w X.K X.mg X.base k n C (spN Pre R)) (hr : Room j X.A) (hk : k + 1 ≤ j) (ha : EvA [] X (a :: es) ds cs xs cs2) (h : ∀ x dx, Pre (.ptr x :: xs) [(x, .ins C dx [])]) (hn : ∀ x dx y cs', R (.ptr x :: xs) [(x, .ins C dx [])] y cs' → y = .non) (hg : Gl X n := by rfl)
    (hdb : (n == ("__debug__" : Str)) = false := by decide) (he : starEach (a :: es) X.env = (false, eval a X.env) :: starEach es X.env := by rfl) (hpl : (backTo pos (starEach es X.env)).any (·.1) = false := by rfl) :
    EvP [] X (.Call (.Name n p2) (a :: es) [] pos) ds cs (fun y cs' => ∃ x dx y0 cs1, y = .ptr x ∧ R (.ptr x :: xs) [(x, .ins C dx [])] y0 cs1 ∧ cs' = cs1 ++ cs2) := fun σ S H O E Q q => by
  obtain ⟨f, fd, ps, M, hm, F, b⟩ := c.ex
  refine run_e (pe_make M F (hr.mono hk) hg hm b .nil (E := E0) pass0 pa_w hdb he hpl) (ha σ S H O E _ fun vs S1 H1 O1 s1 r1 => ?_)
  intro x dx hx hdx hne
  have hSx := O1.lies.ne hx
  have hSd := O1.lies.ne hdx
  have hxd : upd H1 dx (.own x) x = none := by rw [upd_ne (Ne.symm hne)]; exact hx
  -- the own dict is tracked, but stands neither in S nor among the cells
  have O2 : Own [] S1 (upd H1 dx (.own x)) cs2 := by
    refine ⟨fun a o e => .inl ?_, O1.nd, fun p hp => ⟨(O1.cell p hp).1, (O1.cell p hp).2.mono (.refl S1) fun o e => ?_⟩⟩
    · rw [upd_ne (fun z => by rw [z, hSd] at e; cases e)]; exact O1.lies.open a o e
    · rw [upd_ne (fun z => by rw [z, hdx] at e; cases e)]; exact e
  have s2 : Stp cs2 S1 H1 S1 (upd H1 dx (.own x)) cs2 := by
    refine ⟨.refl S1, fun a o e _ => ?_, fun _ _ _ => rfl, fun a e => ?_, fun _ h => .inl h⟩
    · rw [upd_ne (fun z => by rw [z, hdx] at e; cases e)]; exact e
    · rw [upd_ne (fun z => e (by rw [z]; exact hdx))]; exact e
  have O3 : Own [] S1 (upd (upd H1 dx (.own x)) x (.ins C dx [])) (cs2 ++ [(x, .ins C dx [])]) := O2.allocC hxd ⟨[], upd_same, .nil⟩
  have s3 : Stp cs2 S1 (upd H1 dx (.own x)) S1 (upd (upd H1 dx (.own x)) x (.ins C dx [])) (cs2 ++ [(x, .ins C dx [])]) := .allocC hxd
  have O4 : Own [] S1 (upd (upd H1 dx (.own x)) x (.ins C dx [])) ([(x, .ins C dx [])] ++ cs2) := by
    refine ⟨O3.lies, ?_, fun p hp => O3.cell p ?_⟩
    · have := O3.nd
      rw [List.map_append] at this ⊢
      exact (List.perm_append_comm.nodup_iff).mp this
    · rcases List.mem_append.mp hp with h | h
      · exact List.mem_append_right _ h
      · exact List.mem_append_left _ h
  have s4 : Stp cs2 S1 (upd H1 dx (.own x)) S1 (upd (upd H1 dx (.own x)) x (.ins C dx [])) ([(x, .ins C dx [])] ++ cs2) := by
    refine ⟨s3.ext, s3.keep, s3.out, s3.dom, fun a h => s3.new a ?_⟩
    rw [List.map_append] at h ⊢
    rcases List.mem_append.mp h with h | h
    · exact List.mem_append_right _ h
    · exact List.mem_append_left _ h
  rw [List.append_nil]
  refine ⟨S1, .ptr x :: xs, [(x, .ins C dx [])], O4.left, .cons (rep_ptr.mpr rfl) r1, h x dx, fun y cs1 hR v S5 H5 O5 s5 r5 => ?_⟩
  have hy := hn x dx y cs1 hR
  subst hy
  exact ⟨rep_non.mp r5, q (.ptr x) _ ⟨x, dx, .non, cs1, rfl, hR, rfl⟩ _ S5 H5 (O4.frame O5 s5) (((s1.trans s2).trans s4).trans (.frame O4 s5)) (rep_ptr.mpr rfl)⟩
end
/-! ### a def keeps its promise -/
theorem spM_len {ok : Bool} {R : List D → Cs → D → Cs → Prop} {m : Nat} (h : ∀ xs cs y cs', R xs cs y cs' → xs.length = m) : ∀ vs H Q E, spM ok R vs H Q E → vs.length = m := fun vs H Q E ⟨lk, S, xs, cs, y, cs', _, _, r, hR, _⟩ => by
  rw [r.len]; exact h _ _ _ _ hR
theorem spN_len {Pre : List D → Cs → Prop} {R : List D → Cs → D → Cs → Prop} {m : Nat} (h : ∀ xs cs, Pre xs cs → xs.length = m) : ∀ vs H Q E, spN Pre R vs H Q E → vs.length = m := fun vs H Q E ⟨S, xs, cs, _, r, hP, _⟩ => by
  rw [r.len]; exact h _ _ hP
abbrev bcx (P : Program) (w : World) (K : PySem.W.Frag) (mg : Str → Option Value) (base : Heap) (N : List Str) (qual : Str) (st : Stmt) (f : Addr) (cdv : Value) (A : Around) (outer : List PySem.Env) (s : Shared) (H : Hp) (E : XK) : Cx :=
  (cxOf CX0 P w K mg base N qual (defScope st) f cdv A outer s H E).nox
/-- the slots at a def's entry -/
def ds0 (N : List Str) (xs : List D) : Ds := xs.map some ++ List.replicate (N.length - xs.length) none
theorem env0 {S : Hp} {N : List Str} {xs : List D} {vs : List V} (r : Reps S xs vs) : Env S (ds0 N xs) (L2.start N vs) := by
  unfold ds0 L2.start
  refine ⟨by simp [r.len], fun i x e => ?_⟩
  by_cases h : i < xs.length
  · rw [List.getElem?_append_left (by simpa using h), List.getElem?_map] at e
    rw [List.getElem?_append_left (by simpa [r.len] using h), List.getElem?_map]
    cases q : xs[i]? with
    | none => rw [q] at e; cases e
    | some z =>
      rw [q] at e
      simp at e; subst e
      obtain ⟨v, hv, rv⟩ := r.get q
      exact ⟨v, by rw [hv]; rfl, rv⟩
  · rw [List.getElem?_append_right (by simpa using Nat.le_of_not_lt h)] at e
    exact absurd (List.mem_of_getElem? e) (by simp)
section
variable {P : Program} {w : World} {K : PySem.W.Frag} {mg : Str → Option Value} {base : Heap}
theorem fn_okM {nm qual : Str} {st : Stmt} {f : Addr} {fd : FuncData} {N ps : List Str} {k : Nat} {ok : Bool} {R : List D → Cs → D → Cs → Prop} (F : Fun K nm qual st f fd) (S : FnScope N ps (defScope st)) (hl : ∀ xs cs y cs', R xs cs y cs' → xs.length = ps.length)
    (hb : ∀ lk cdv A outer s H E xs cs y cs', (ok = true ∨ lk = []) → Room k (bcx P w K mg base N qual st f cdv A outer s H E).A → R xs cs y cs' →
      SF lk (bcx P w K mg base N qual st f cdv A outer s H E) (defBody st) (ds0 N xs) cs { nx := fun _ c => y = .non ∧ c = cs', rt := fun z c => z = y ∧ c = cs' }) : FnOk P w K mg base CX0 (k + 1) f fd ps (spM ok R) := by
  refine F.ok S (spM_len hl) fun cdv A outer s H vs Q E hr h => ?_
  obtain ⟨lk, S0, xs, cs, y, cs', hlk, O, r, hR, q⟩ := h
  refine ⟨_, pss_w, hb lk cdv A outer s H E xs cs y cs' hlk hr hR _ S0 H O (env0 r) _ ⟨?_, ?_, ?_, ?_⟩⟩
  · rintro ds1 cs1 σ1 S1 H1 ⟨rfl, rfl⟩ O1 E1 s1
    exact q _ S1 H1 O1 s1 (rep_non.mpr rfl)
  · rintro x cs1 v S1 H1 ⟨rfl, rfl⟩ O1 s1 r1
    exact q v S1 H1 O1 s1 r1
  · intro _ _ _ _ _ h; exact h.elim
  · intro _ _ _ _ _ h; exact h.elim
theorem fn_okN {nm qual : Str} {st : Stmt} {f : Addr} {fd : FuncData} {N ps : List Str} {k : Nat} {Pre : List D → Cs → Prop} {R : List D → Cs → D → Cs → Prop} (F : Fun K nm qual st f fd) (S : FnScope N ps (defScope st)) (hl : ∀ xs cs, Pre xs cs → xs.length = ps.length)
    (hb : ∀ cdv A outer s H E xs cs, Room k (bcx P w K mg base N qual st f cdv A outer s H E).A → Pre xs cs →
      SF [] (bcx P w K mg base N qual st f cdv A outer s H E) (defBody st) (ds0 N xs) cs { nx := fun _ c => R xs cs .non c, rt := fun z c => R xs cs z c }) : FnOk P w K mg base CX0 (k + 1) f fd ps (spN Pre R) := by
  refine F.ok S (spN_len hl) fun cdv A outer s H vs Q E hr h => ?_
  obtain ⟨S0, xs, cs, O, r, hP, q⟩ := h
  refine ⟨_, pss_w, hb cdv A outer s H E xs cs hr hP _ S0 H O (env0 r) _ ⟨?_, ?_, ?_, ?_⟩⟩
  · intro ds1 cs1 σ1 S1 H1 h O1 E1 s1
    exact q _ _ h _ S1 H1 O1 s1 (rep_non.mpr rfl)
  · intro x cs1 v S1 H1 h O1 s1 r1
    exact q _ _ h v S1 H1 O1 s1 r1
  · intro _ _ _ _ _ h; exact h.elim
  · intro _ _ _ _ _ h; exact h.elim
end
end Af
set_option Elab.async false
set_option linter.all false
set_option maxRecDepth 100000
set_option maxHeartbeats 2000000
/-! ### the text by places; what the top has left -/
namespace Af
open PySem L2

def top (i : Nat) : Stmt := PySem.Challenge.pw_afterfall_k65_whole_contents.main.body.getD i (.Pass ⟨0, 0, 0, 0⟩)
structure Txt (K : PySem.W.Frag) (mg : Str → Option Value) : Prop where
  mMAX_CELLS : ∃ t, mg "MAX_CELLS" = some (.int 24 t)
  mWORTHS : ∃ t, mg "WORTHS" = some (.int 8 t)
  mMAX_STEPS : ∃ t, mg "MAX_STEPS" = some (.int 40 t)
  mMAX_PIECES : ∃ t, mg "MAX_PIECES" = some (.int 40 t)
  mBASE : ∃ t, mg "BASE" = some (.int (-1) t)
  mMAX_CONTENTS : ∃ t, mg "MAX_CONTENTS" = some (.int 99 t)
  mMAX_TOGETHER : ∃ t, mg "MAX_TOGETHER" = some (.int 3 t)
  zlen : mg "len" = none
  zall : mg "all" = none
  zany : mg "any" = none
  zsorted : mg "sorted" = none
  zmax : mg "max" = none
  zmin : mg "min" = none
  zisinstance : mg "isinstance" = none
  zlist : mg "list" = none
  ztuple : mg "tuple" = none
  zdict : mg "dict" = none
  zset : mg "set" = none
  zint : mg "int" = none
  zbool : mg "bool" = none
  zrange : mg "range" = none
  zenumerate : mg "enumerate" = none
theorem ev_glob' {lk : List Addr} {X : Cx} {ds : Ds} {cs : Cs} {pos : Pos} {n : Str} {i : Int} (h : ∃ t, X.mg n = some (.int i t)) (hg : Gl X n := by rfl) (hd : (n == ("__debug__" : Str)) = false := by decide) : EvM lk X (.Name n pos) ds cs (.int i) cs := by
  obtain ⟨t, h⟩ := h
  exact ev_glob h hg hd
theorem ev_callP {lk : List Addr} {X : Cx} {a : Expr} {es : List Expr} {ds : Ds} {cs cs1 : Cs} {y : D} {xs : List D} {pos p2 : Pos} {k j : Nat} {n : Str} {ok : Bool} {R : List D → Cs → D → Cs → Prop}
    (c : Cal X.prog X.w X.K X.mg X.base k n (spM ok R)) (hr : Room j X.A) (hk : k ≤ j) (ha : EvA lk X (a :: es) ds cs xs cs1) (h : R xs [] y []) (hlk : ok = true ∨ lk = []) (hg : Gl X n := by rfl)
    (hdb : (n == ("__debug__" : Str)) = false := by decide) (he : starEach (a :: es) X.env = (false, eval a X.env) :: starEach es X.env := by rfl) (hpl : (backTo pos (starEach es X.env)).any (·.1) = false := by rfl) :
    EvM lk X (.Call (.Name n p2) (a :: es) [] pos) ds cs y cs1 := ev_call (cs0 := []) (cs1 := []) (fr := cs1) c hr hk ha h hlk hg hdb he hpl
theorem cal_of {P : Program} {w : World} {K : PySem.W.Frag} {mg : Str → Option Value} {base : Heap} {nm n : Str} {st : Stmt} {f : Addr} {fd : FuncData} {ps : List Str} {k : Nat} {sp : Sp}
    (F : Fun K nm nm st f fd) (hm : mg n = some (.ref f)) (b : Binds K fd ps []) (h : FnOk P w K mg base CX0 k f fd ps sp) : Cal P w K mg base k n sp := ⟨f, fd, ps, h, hm, F.kp, b⟩

theorem b_isi : bootBuiltins "isinstance" = some (.builtin "isinstance") := by decide +kernel
theorem b_len : bootBuiltins "len" = some (.builtin "len") := by decide +kernel
theorem b_all : bootBuiltins "all" = some (.builtin "all") := by decide +kernel
theorem b_any : bootBuiltins "any" = some (.builtin "any") := by decide +kernel
theorem b_sorted : bootBuiltins "sorted" = some (.builtin "sorted") := by decide +kernel
theorem b_max : bootBuiltins "max" = some (.builtin "max") := by decide +kernel
theorem b_min : bootBuiltins "min" = some (.builtin "min") := by decide +kernel
theorem b_int : bootBuiltins "int" = some (.type "int") := by decide +kernel
theorem b_bool : bootBuiltins "bool" = some (.type "bool") := by decide +kernel
theorem b_list : bootBuiltins "list" = some (.type "list") := by decide +kernel
theorem b_tuple : bootBuiltins "tuple" = some (.type "tuple") := by decide +kernel
theorem b_dict : bootBuiltins "dict" = some (.type "dict") := by decide +kernel
theorem b_set : bootBuiltins "set" = some (.type "set") := by decide +kernel
theorem k_int_int : kitB "int" "int" = some true := by decide +kernel
theorem k_int_bool : kitB "int" "bool" = some false := by decide +kernel
theorem k_tuple : kitB "tuple" "tuple" = some true := by decide +kernel
theorem k_list : kitB "list" "list" = some true := by decide +kernel
theorem k_dict : kitB "dict" "dict" = some true := by decide +kernel
/-! ### afterfall.cells -/
def R_is_integer (xs : List D) (cs : Cs) (y : D) (cs' : Cs) : Prop := ∃ i, xs = [.int i] ∧ cs = [] ∧ y = .bl true ∧ cs' = []
def R_is_below (xs : List D) (cs : Cs) (y : D) (cs' : Cs) : Prop := ∃ i n, xs = [.int i, .int n] ∧ cs = [] ∧ y = .bl (decide (0 ≤ i ∧ i < n)) ∧ cs' = []
section
variable {P : Program} {w : World} {K : PySem.W.Frag} {mg : Str → Option Value} {base : Heap} {f : Addr} {fd : FuncData}
theorem sc17 : FnScope ["thing"] ["thing"] (defScope (top 17)) := ⟨rfl, rfl, rfl, by decide +kernel, rfl, by decide +kernel, by decide +kernel⟩
theorem ok_is_integer (T : Txt K mg) (F : Fun K "is_integer" "is_integer" (top 17) f fd) : FnOk P w K mg base CX0 1 f fd ["thing"] (spM true R_is_integer) := by
  refine fn_okM F sc17 (by rintro _ _ _ _ ⟨i, rfl, _⟩; rfl) fun lk cdv A outer s H E xs cs y cs' hlk hr hR => ?_
  obtain ⟨i, rfl, rfl, rfl, rfl⟩ := hR
  exact sf_cons (s_ret (ev_and (ev_isi (ev_v 0 rfl) ty_int k_int_int T.zisinstance T.zint b_isi b_int) (fun _ => (ev_one (ev_not (ev_isi (ev_v 0 rfl) ty_int k_int_bool T.zisinstance T.zbool b_isi b_bool))))) ⟨rfl, rfl⟩)
theorem sc18 : FnScope ["thing", "count"] ["thing", "count"] (defScope (top 18)) := ⟨rfl, rfl, rfl, by decide +kernel, rfl, by decide +kernel, by decide +kernel⟩
theorem ok_is_below (T : Txt K mg) (F : Fun K "is_below" "is_below" (top 18) f fd) (c_is_integer : Cal P w K mg base 1 "is_integer" (spM true R_is_integer)) : FnOk P w K mg base CX0 2 f fd ["thing", "count"] (spM true R_is_below) := by
  refine fn_okM F sc18 (by rintro _ _ _ _ ⟨i, n, rfl, _⟩; rfl) fun lk cdv A outer s H E xs cs y cs' hlk hr hR => ?_
  obtain ⟨i, n, rfl, rfl, rfl, rfl⟩ := hR
  refine sf_cons (s_ret (ev_and (ev_callP c_is_integer hr (by decide) (ea_cons (ev_v 0 rfl) ea_nil) ⟨i, rfl, rfl, rfl, rfl⟩ (.inl rfl)) (fun _ => (ev_one (ev_chain ev_int (ev_v 0 rfl) od_le (fun _ => (ev_v 1 rfl)) (fun h => ?_) (w := .bl (decide (0 ≤ i ∧ i < n))) ?_)))) ⟨?_, rfl⟩)
  · have h' : (0 : Int) ≤ i := of_decide_eq_true h
    have e : decide (0 ≤ i ∧ i < n) = decide (i < n) := by simp [h']
    rw [e]; exact od_lt
  · intro h
    have h' : ¬ (0 : Int) ≤ i := of_decide_eq_false h
    simp [h']
  · rfl
end
end Af
set_option Elab.async false
set_option linter.all false
set_option maxRecDepth 100000
set_option maxHeartbeats 2000000
/-! ### further rules -/
namespace Af
open PySem L2

section
variable {lk : List Addr} {X : Cx} {a b c e o : Expr} {es : List Expr} {ds : Ds} {cs cs0 cs1 cs2 cs3 : Cs} {x y z : D} {xs ys zs : List D} {pos p2 apos cpos : Pos} {P : D → Cs → Prop}
theorem ev_neg {i : Int} (h : EvM lk X a ds cs (.int i) cs1) : EvM lk X (.UnaryOp .USub a pos) ds cs (.int (-i)) cs1 := fun σ S H O E Q q =>
  run_e (pe_un un_neg pe_w) (h σ S H O E _ fun v S1 H1 O1 s1 r1 => ⟨i, rep_int.mp r1, q _ S1 H1 O1 s1 (rep_int.mpr rfl)⟩)
theorem od_catL (hl : xs.length + ys.length ≤ 1000000) : OpD lk X (binaryOp .Add) (.lst xs) (.lst ys) cs (.lst (xs ++ ys)) cs := opD_of op_cat fun S H v w O r1 r2 Q q => by
  obtain ⟨p, vs, rfl, e1, k1⟩ := rep_lst.mp r1
  obtain ⟨p', ws, rfl, e2, k2⟩ := rep_lst.mp r2
  exact ⟨p, p', vs, ws, rfl, rfl, O.lies.lst e1, O.lies.lst e2, by rw [k1.len, k2.len]; exact sz hl, fun l h => q.new O h (rep_lst.mpr ⟨l, _, rfl, upd_same, (k1.append k2).mono (.new (O.lies.ne h))⟩)⟩
theorem od_catU (hl : xs.length + ys.length ≤ 1000000) : OpD lk X (binaryOp .Add) (.tup xs) (.tup ys) cs (.tup (xs ++ ys)) cs := opD_of op_catA fun S H v w O r1 r2 Q q => by
  obtain ⟨p, vs, rfl, e1, k1⟩ := rep_tup.mp r1
  obtain ⟨p', ws, rfl, e2, k2⟩ := rep_tup.mp r2
  refine ⟨p, p', vs, ws, rfl, rfl, sqt O.lies e1, sqt O.lies e2, by rw [k1.len, k2.len]; exact sz hl, fun h => ?_, fun h h' => ?_, fun h h' l hn => ?_⟩
  · have h0 : xs = [] := List.length_eq_zero_iff.mp (by rw [← k1.len, h]; rfl)
    subst h0
    exact q.here O (rep_tup.mpr ⟨p', ws, rfl, e2, k2⟩)
  · have h0 : ys = [] := List.length_eq_zero_iff.mp (by rw [← k2.len, h']; rfl)
    subst h0
    rw [List.append_nil] at q
    exact q.here O (rep_tup.mpr ⟨p, vs, rfl, e1, k1⟩)
  · exact q.new O hn (rep_tup.mpr ⟨l, _, rfl, upd_same, (k1.append k2).mono (.new (O.lies.ne hn))⟩)
theorem ev_extend {p : Addr} (i : Nat) (ho : EvM lk X o ds cs (.ptr p) cs1) (h1 : cs1[i]? = some (p, .lst ys)) (he : EvM lk X e ds cs1 (.lst zs) cs2) (h2 : cs2[i]? = some (p, .lst xs)) (hl : xs.length + zs.length ≤ 1000000)
    (hbase : attributeBase o "extend" X.env (eval o X.env) = eval o X.env := by rfl)
    (hfew : ((backTo cpos (starEach [e] X.env)).all (fun x => !x.1) && (backToKw cpos (keywordEach [] X.env)).all (fun x => x.1.isSome)
      && decide (([e] : List Expr).length + ([] : List Keyword).length + (if ([] : List Keyword).isEmpty then 0 else 1) < 30)) = true := by rfl)
    (hline : (apos.endLine == cpos.line) = true := by rfl) (hs : starEach [e] X.env = (false, eval e X.env) :: starEach [] X.env := by rfl) (hplain : (backTo cpos (starEach [] X.env)).any (·.1) = false := by rfl) :
    EvM lk X (.Call (.Attribute o "extend" apos) [e] [] cpos) ds cs .non (cs2.set i (p, .lst (xs ++ zs))) := fun σ S H O E Q q =>
  run_e (pe_bm PySem.F.plainAttrs_list PySem.F.slot_list_extend PySem.F.type_list_extend mt_extend pe_w (pa_cons pe_w pa_nil hs) hbase hfew hline hs hplain) (ho σ S H O E _ fun v S1 H1 O1 s1 r1 => by
    obtain ⟨ws, e1, _⟩ := O1.at_ h1
    rw [rep_ptr.mp r1]
    refine ⟨.inl ⟨rfl, ws, .of e1⟩, he σ S1 H1 O1 (E.mono s1.ext) _ fun w S2 H2 O2 s2 r2 => ?_⟩
    obtain ⟨us, e2, r3⟩ := O2.at_ h2
    obtain ⟨p', vs, rfl, e4, r4⟩ := rep_lst.mp r2
    refine ⟨p, p', us, vs, rfl, rfl, e2, O2.lies.lst e4, by rw [r3.len, r4.len]; exact sz hl, ?_⟩
    exact q _ S2 _ (O2.write h2 ⟨_, upd_same, r3.append r4⟩) ((s1.trans s2).trans (.write h2)) (rep_non.mpr rfl))
/-! list.count -/
def rCountD (K : PySem.W.Frag) : V → List V → Hp → VK → Prop := fun x xs H Q => ∃ (a : Addr) (y : V) (d : PyData) (ds : List PyData), x = V.ref a ∧ xs = [y] ∧ Dp K H (V.ref a) (.list ds) ∧ Dp K H y d ∧
  PyData.plainAll ds = true ∧ d.plain = true ∧ d.depth ≤ 64 ∧ Q (.int ((ds.countP fun y => PyData.eqv y d : Nat) : Int)) H
theorem mt_countD (hu : X.A.units + 65 < cLine) : MtR X "list.count" (rCountD X.K) := by
  intro pins s σ H x xs v us Q I rx rxs h
  obtain ⟨a, y, d, ds, rfl, rfl, hl, hy, hp, hd, hdep, q⟩ := h
  cases rx
  cases rxs with
  | cons ry rt =>
    rename_i uy ut
    cases rt
    obtain ⟨bs, r1⟩ := Dp.reads I d y uy hy ry
    cases hl with
    | lst hs ha =>
      obtain ⟨its, rv, pl, hlen⟩ := I.list hs
      obtain ⟨as, h4⟩ := Dp.readsAll I ds _ its ha rv
      exact SeqAt.count_list_data (vs := its.toArray) pl.isList (by simpa using h4) r1 hp hd (by omega) ⟨.int _, H, I.tok _, ⟨_, rfl⟩, q⟩
theorem toPys_count : ∀ {xs : List D}, plains xs = true → (toPys xs).countP (fun y => PyData.eqv y .none) = xs.countP D.isNon
  | [], _ => by simp [toPys]
  | x :: xs, k => by
    rw [plains, Bool.and_eq_true] at k
    rw [toPys, List.countP_cons, List.countP_cons, toPys_count k.2]
    have : PyData.eqv (toPy x) .none = D.isNon x := by
      cases x <;> simp_all [plain, toPy, PyData.eqv, D.isNon]
    rw [this]
theorem plainAll_toPys (h : plains xs = true) : PyData.plainAll (toPys xs) = true := PyData.plainAll_of_canLay0 _ (plains_can xs h)
theorem ev_count (hu : X.A.units + 65 < cLine) (ho : EvM lk X o ds cs (.lst xs) cs1) (he : EvM lk X e ds cs1 .non cs2) (hp : plains xs = true)
    (hbase : attributeBase o "count" X.env (eval o X.env) = eval o X.env := by rfl)
    (hfew : ((backTo cpos (starEach [e] X.env)).all (fun x => !x.1) && (backToKw cpos (keywordEach [] X.env)).all (fun x => x.1.isSome)
      && decide (([e] : List Expr).length + ([] : List Keyword).length + (if ([] : List Keyword).isEmpty then 0 else 1) < 30)) = true := by rfl)
    (hline : (apos.endLine == cpos.line) = true := by rfl) (hs : starEach [e] X.env = (false, eval e X.env) :: starEach [] X.env := by rfl) (hplain : (backTo cpos (starEach [] X.env)).any (·.1) = false := by rfl) :
    EvM lk X (.Call (.Attribute o "count" apos) [e] [] cpos) ds cs (.int (xs.countP D.isNon : Nat)) cs2 := fun σ S H O E Q q =>
  run_e (pe_bm PySem.F.plainAttrs_list PySem.F.slot_list_count PySem.F.type_list_count (mt_countD hu) pe_w (pa_cons pe_w pa_nil hs) hbase hfew hline hs hplain) (ho σ S H O E _ fun v S1 H1 O1 s1 r1 => by
    obtain ⟨p, vs, rfl, e1, r3⟩ := rep_lst.mp r1
    refine ⟨.inl ⟨rfl, vs, sql O1.lies e1⟩, he σ S1 H1 O1 (E.mono s1.ext) _ fun w S2 H2 O2 s2 r2 => ?_⟩
    rw [rep_non.mp r2]
    refine ⟨p, .non, .none, toPys xs, rfl, rfl, ?_, .non, plainAll_toPys hp, rfl, by rw [PyData.depth]; decide, ?_⟩
    · have := plain_dp (K := X.K) O2.lies (x := .lst xs) (by rw [plain]; exact hp) (r1.mono s2.ext)
      rwa [toPy] at this
    · rw [toPys_count hp]
      exact (q.step (s1.trans s2)).here O2 (rep_int.mpr rfl))
/-! sorted(xs) of a tuple of ints -/
def rSortedU (K : PySem.W.Frag) : List V → Hp → VK → Prop := fun vs H Q => ∃ (a : Addr) (ns : List Int), vs = [V.ref a] ∧ SqT K H a (ns.map V.int) ∧ ns.length < 64 ∧
  ∀ (ns' : List Int) (p : Addr), ns'.Perm ns → ns'.Pairwise (· ≤ ·) → H p = none → Q (.ref p) (upd H p (.lst (ns'.map V.int)))
theorem cr_sortedU : CallR X (.builtin "sorted") (rSortedU X.K) := by
  intro pins s σ H vs us Q I r h
  obtain ⟨a, ns, rfl, hs, h64, q⟩ := h
  obtain ⟨its, rv, ⟨o, ho, hc, n, hd⟩, _⟩ := I.tuple hs
  rw [Vals.ref1 r]
  have hi : PyProof.Rows.IntsAre its ns := ints_of_vals rv
  have hl : its.length = ns.length := hi.length
  refine Calls.call_function_entry PyProof.Rows.kind_sorted PyProof.Rows.plain_sorted PyProof.Rows.entry_sorted (PyProof.Rows.args_sorted1 _) ?_
  unfold Builtin.«sorted»
  refine wpAny_bind (m := checkCount "sorted" 1 1 _) (wpAny_pure ?_)
  refine wpAny_bind (wpAny_collect_seq (A := X.A.in1) a (.inr rfl) ho hc hd (fun h' hk => ?_) (by rw [List.size_toArray, sizeLine_eq]; omega))
  have e0 : its.toArray.toList = its := by simp
  rw [e0]
  have I1 : Inv X pins σ H { s with heap := h' } := I.kept (t' := s.toks) hk
  refine wpAny_bind (wpAny_newList ?_ (by rw [sizeLine_eq]; omega))
  have hoL : (h'.push (PyProof.Rows.seqObj "list" its.toArray 0)).get? h'.objs.size = some (PyProof.Rows.seqObj "list" its.toArray 0) := Heap.get?_push_size _ rfl
  refine wpAny_bind (wpAny_holding (wpAny_call_entry PyProof.Rows.slot_list_sort ⟨_, hoL, rfl⟩ PyProof.Rows.entry_list_sort (PyProof.Rows.list_sort_tree hoL hi (by omega) fun out ns' a1 a2 a3 => ⟨_, rfl, ?_⟩) (PyProof.Rows.args_list_sort _)))
  obtain ⟨c, hc'⟩ := PyProof.Rows.sortedHeap_at (vs := its) (out := out) hoL
  refine wpAny_pure ⟨_, rfl, ?_⟩
  refine ⟨.ref _, upd H h'.objs.size (.lst (ns'.map V.int)), I1.laid (t' := s.toks) (fun b u e => ?_) (Nat.le_refl _) ⟨by rw [List.length_map, a2.length_eq]; exact small64 h64, out.toList, c, vals_of_ints a1, hc'⟩, rfl, q ns' _ a2 a3 (I1.hok.fresh (Nat.le_refl _))⟩
  have hlt := Heap.lt_size e
  show (PyProof.Rows.sortedHeap (h'.push (PyProof.Rows.seqObj "list" its.toArray 0)) h'.objs.size its out).get? b = some u
  rw [PyProof.Rows.sortedHeap_old (Nat.ne_of_lt hlt) (by rw [PyProof.Rows.size_push']; exact Nat.lt_succ_of_lt hlt)]
  exact Heap.get?_push_of_some _ e
theorem cd_sortedU {ns ms : List Int} (h1 : ms.Perm ns) (h2 : ms.Pairwise (· ≤ ·)) (h64 : ns.length < 64) : CallD lk X (.builtin "sorted") [.tup (dints ns)] cs (.lst (dints ms)) cs := callD_of cr_sortedU fun S H vs O rr Q q => by
  obtain ⟨v, rfl, r⟩ := rr.one
  obtain ⟨p, ws, rfl, e, r⟩ := rep_tup.mp r
  have := Reps.ints.mp r; subst this
  refine ⟨p, ns, rfl, sqt O.lies e, h64, fun ks l k1 k2 hl => ?_⟩
  rw [sorted_one h1 h2 k1 k2]
  exact q.new O hl (rep_lst.mpr ⟨l, _, rfl, upd_same, Reps.ints.mpr rfl⟩)
end
end Af
set_option Elab.async false
set_option linter.all false
set_option maxRecDepth 100000
set_option maxHeartbeats 2000000
/-! ### dicts: starred, displayed, from pairs, into items; ranges as sequences -/
namespace Af
open PySem L2

section
variable {lk : List Addr} {X : Cx} {a b c e o : Expr} {es : List Expr} {ds : Ds} {cs cs0 cs1 cs2 cs3 : Cs} {x y z : D} {xs ys zs : List D} {pos p2 apos cpos : Pos} {P : D → Cs → Prop}
/-- many new objects at once -/
def growS (S H H' : Hp) : Hp := fun b => match H b with | none => H' b | some _ => S b
theorem growS_new {S H H' : Hp} {b : Addr} (h : H b = none) : growS S H H' b = H' b := by unfold growS; rw [h]
theorem growS_old {S H H' : Hp} {b : Addr} (h : H b ≠ none) : growS S H H' b = S b := by
  unfold growS
  cases q : H b with
  | none => exact absurd q h
  | some o => rfl
theorem Own.grow {S H H' : Hp} (O : Own lk S H cs) (k : ∀ b o, H b = some o → H' b = some o) : Own lk (growS S H H') H' cs ∧ Stp cs S H (growS S H H') H' cs := by
  have ext : Ext S (growS S H H') := fun b u e => by
    by_cases h : H b = none
    · rw [O.lies.ne h] at e; cases e
    · rw [growS_old h]; exact e
  have cellH : ∀ q ∈ cs, H q.1 ≠ none := fun q hq => by
    obtain ⟨u, e⟩ := CellRep.ex_ (O.cell q hq).2
    rw [e]; simp
  refine ⟨⟨fun b u e => ?_, O.nd, fun q hq => ⟨?_, ?_⟩⟩, ⟨ext, fun b u e _ => k b u e, fun b h _ => growS_old h, fun b h => ?_, fun _ h => .inl h⟩⟩
  · by_cases h : H b = none
    · rw [growS_new h] at e; exact .inl e
    · rw [growS_old h] at e
      rcases O.lies b u e with z | ⟨z1, z2, ob, z3⟩
      · exact .inl (k _ _ z)
      · exact .inr ⟨z1, z2, ob, k _ _ z3⟩
  · rw [growS_old (cellH q hq)]; exact (O.cell q hq).1
  · exact (O.cell q hq).2.mono ext fun u e => k _ _ e
  · cases q : H b with
    | none => exact absurd q h
    | some u => rw [k b u q]; simp
/-! *d -/
theorem star_dic {pins : List (Addr × Obj)} {σ : L2.St} {H : Hp} {s : Shared} {d : Addr} {kvs : List (Key × V)} {ks : List Int} {E : Value → Shared → Prop} {Q : List Value → Shared → Prop} (hc : X.calm = true) (I : Inv X pins σ H s) (hd : Rd H d (.dK kvs)) (hks : kvs.map (·.1) = ks.map Sum.inl)
    (hQ : ∀ us s', Inv X pins σ H s' → Vals (ks.map V.int) us → Q us s') : PySem.W.StarOf (model X.prog X.w) X.A E (.ref d) Q s := by
  obtain ⟨z, lo, vs, rel, dd⟩ := dk_rd I.hok hd
  obtain ⟨ep, hat⟩ := dd.dictAt
  have hkeys : vs.map (·.1) = ks.map Sum.inl := rel.keys.symm.trans hks
  have hl : vs.length = ks.length := by
    have e := congrArg List.length hkeys
    rw [List.length_map, List.length_map] at e
    exact e
  have h16 : vs.length ≤ sizeLine := by rw [← Paired.length rel]; exact z
  have hT : s.TypeIs (.ref d) "dict" := dd.typeIs
  have z : wpAny (model X.prog X.w) X.A (collect (.ref d)) Q E s := by
    refine PySem.W.kdu_collect (PySem.W.kdl_dict (knd := mixKind X.prog X.w) (kvs := vs) (ep := ep) lo) (I.ok.hd hc) hat h16 fun h' tk acc hk hacc => ?_
    have hal : acc.toList.length = ks.length := by rw [Array.length_toList, hacc.1, hl]
    have hS : PyProof.Rows.IntsAre acc.toList ks := ints_each hal fun j v e => by
      obtain ⟨k, x, e1, e2⟩ := hacc.2 j v (by rw [← Array.getElem?_toList]; exact e)
      have e3 : (vs.map (·.1))[j]? = some k := by rw [List.getElem?_map, e1]; rfl
      rw [hkeys, List.getElem?_map] at e3
      cases e4 : ks[j]? with
      | none => rw [e4] at e3; cases e3
      | some y =>
        rw [e4] at e3
        have e5 : Sum.inl y = k := Option.some.inj e3
        subst e5
        rcases keyIs_shape (show keyIs (Sum.inl y) v = true from e2) with ⟨i, t, ek, ev⟩ | ⟨z, t, ek, ev⟩
        · cases ek
          exact ⟨y, t, rfl, ev⟩
        · cases ek
    exact hQ _ _ (I.kept hk) (vals_of_ints hS)
  unfold PySem.W.StarOf notIterableAtAll
  exact wpAny_bind (wpAny_specialOf hT PySem.F.slot_dict_iter.lookup (wpAny_pure ⟨rfl, z⟩))
def tStarD (te : TE) (t : TA) : TA := fun σ H Q => te σ H fun x H1 => ∃ (d : Addr) (kvs : List (Key × V)) (ks : List Int), x = V.ref d ∧ Rd H1 d (.dK kvs) ∧ kvs.map (·.1) = ks.map (Sum.inl (α := Int) (β := Str)) ∧ t σ H1 fun ys H2 => Q (ks.map V.int ++ ys) H2
theorem pa_starD {te : TE} {t : TA} {p : Pos} (hc : X.calm = true) (he : PE X e te) (hr : PA X es t) (hs : starEach (.Starred e p :: es) X.env = (true, eval e X.env) :: starEach es X.env := by rfl) : PA X (.Starred e p :: es) (tStarD te t) := by
  refine ⟨fun pos pins s σ H Q I h => ?_⟩
  refine PySem.W.items_star (thn (he.run pins s σ H _ I h) fun v s1 ⟨y, H1, I1, ry, d, kvs, ks, ey, hx, hks, q⟩ => ?_) hs
  subst ey
  obtain rfl : v = Value.ref d := ry
  refine star_dic hc I1 hx hks fun us s2 I2 rv => ?_
  exact thn (hr.run pos pins s2 σ H1 _ I2 q) fun ws s3 ⟨vs, H3, I3, r3, q3⟩ => ⟨ks.map V.int ++ vs, H3, I3, rv.append r3, q3⟩
theorem RepK.keys {S : Hp} : ∀ {kvs : List (Int × D)} {vs : List (Key × V)}, RepK S kvs vs → vs.map (·.1) = (kvs.map (·.1)).map Sum.inl
  | [], vs, h => by rw [RepK] at h; rw [h]; rfl
  | (k, x) :: r, vs, h => by
    rw [RepK] at h
    obtain ⟨v, ws, rfl, _, h2⟩ := h
    simp only [List.map_cons, RepK.keys h2]
theorem ea_starD {kvs : List (Int × D)} (ha : EvM lk X a ds cs (.dic kvs) cs1) (hr : EvA lk X es ds cs1 ys cs2) (hc : X.calm = true := by rfl) (hs : starEach (.Starred a p2 :: es) X.env = (true, eval a X.env) :: starEach es X.env := by rfl) : EvA lk X (.Starred a p2 :: es) ds cs (dints (kvs.map (·.1)) ++ ys) cs2 := fun σ S H O E Q q =>
  run_a (pa_starD hc pe_w pa_w hs) (ha σ S H O E _ fun v S1 H1 O1 s1 r1 => by
    obtain ⟨p, ws, rfl, e, r⟩ := rep_dic.mp r1
    exact ⟨p, ws, kvs.map (fun (p : Int × D) => p.1), rfl, O1.lies.dK e, r.keys, hr σ S1 H1 O1 (E.mono s1.ext) _ fun vs S2 H2 O2 s2 r2 => q _ S2 H2 O2 (s1.trans s2) ((Reps.ints.mpr rfl).append r2)⟩)
/-! {k: v} -/
theorem ev_disp1 {k v : Expr} {i : Int} (hk : ∀ p, EvM lk X k ds (cs ++ [(p, .dic [])]) (.int i) (cs ++ [(p, .dic [])])) (hv : ∀ p, EvM lk X v ds (cs ++ [(p, .dic [])]) y (cs ++ [(p, .dic [])])) : EvM lk X (.Dict [some k] [v] pos) ds cs (.dic [(i, y)]) cs := fun σ S H O E Q q =>
  run_e (pe_disp (pps_cons pe_w pe_w pps_nil) rfl rfl (by simp) (by simp)) fun p hp => by
    have r0 : CellRep S (upd H p (.dK [])) p (.dic []) := ⟨[], upd_same, .nil⟩
    have O0 := O.allocC hp r0
    have s0 : Stp cs S H S (upd H p (.dK [])) (cs ++ [(p, .dic [])]) := .allocC hp
    refine hk p σ S _ O0 E _ fun w S1 H1 O1 s1 r1 => hv p σ S1 H1 O1 (E.mono s1.ext) _ fun u S2 H2 O2 s2 r2 => ?_
    have at_ : (cs ++ [(p, CO.dic [])])[cs.length]? = some (p, .dic []) := by simp
    obtain ⟨us, e5, r5⟩ := O2.at_ at_
    have hus : us = [] := List.length_eq_zero_iff.mp (by rw [r5.len]; rfl)
    subst hus
    rw [rep_int.mp r1]
    refine ⟨e5, [(Sum.inl i, u)], rfl, by simp, ?_⟩
    have em : mergeK [] [((Sum.inl i : Key), u)] = [(Sum.inl i, u)] := by simp [mergeK, putK]
    rw [em]
    have hS : S2 p = none := (O2.cell _ (List.mem_of_getElem? at_)).1
    have O3 := O2.write at_ (c' := .dic [(i, y)]) (o := .dK [(Sum.inl i, u)]) ⟨_, upd_same, .cons r2 .nil⟩
    have s3 := Stp.write (S := S2) (H := H2) (o := .dK [((Sum.inl i : Key), u)]) (c' := .dic [(i, y)]) at_
    have hset : (cs ++ [(p, CO.dic [])]).set cs.length (p, .dic [(i, y)]) = cs ++ [(p, .dic [(i, y)])] := by simp
    rw [hset] at O3 s3
    have at3 : (cs ++ [(p, CO.dic [(i, y)])])[cs.length]? = some (p, .dic [(i, y)]) := by simp
    have O6 := O3.freeze at3 (o := .dK [((Sum.inl i : Key), u)]) upd_same
    have s6 := Stp.freeze O3 (o := .dK [((Sum.inl i : Key), u)]) at3
    have her : (cs ++ [(p, CO.dic [(i, y)])]).eraseIdx cs.length = cs := by rw [List.eraseIdx_append_of_length_le (Nat.le_refl _)]; simp
    rw [her] at O6 s6
    exact q _ _ _ O6 ((((s0.trans s1).trans s2).trans s3).trans s6) (rep_dic.mpr ⟨p, _, rfl, upd_same, .cons (r2.mono (.new hS)) .nil⟩)
/-! dict(xs) of pairs -/
theorem pairs_rep {S : Hp} : ∀ {kvs : List (Int × D)} {vs : List V}, Reps S (kvs.map fun p => .tup [.int p.1, p.2]) vs → ∃ (ps : List Addr) (ws : List (Key × V)), vs = ps.map V.ref ∧ RepK S kvs ws ∧ Paired (fun p (kv : Key × V) => S p = some (.tup [kV kv.1, kv.2])) ps ws
  | [], vs, r => ⟨[], [], r.none, .nil, .nil⟩
  | (k, x) :: kvs, vs, r => by
    obtain ⟨v, us, rfl, r1, r2⟩ := r.uncons
    obtain ⟨p, ts, rfl, e, r3⟩ := rep_tup.mp r1
    obtain ⟨a, b, rfl, ra, rb⟩ := r3.two
    obtain ⟨ps, ws, rfl, rk, pr⟩ := pairs_rep r2
    exact ⟨p :: ps, (Sum.inl k, b) :: ws, rfl, .cons rb rk, .cons (by rw [e, rep_int.mp ra]; rfl) pr⟩
theorem paired_mono {α β : Type} {F G : α → β → Prop} (h : ∀ a b, F a b → G a b) : ∀ {xs : List α} {ys : List β}, Paired F xs ys → Paired G xs ys
  | _, _, .nil => .nil
  | _, _, .cons a t => .cons (h _ _ a) (paired_mono h t)
theorem RepK.merge {S : Hp} : ∀ {more : List (Int × D)} {acc : List (Int × D)} {vs ws : List (Key × V)}, RepK S acc vs → RepK S more ws → RepK S (more.foldl (fun a p => kput a p.1 p.2) acc) (mergeK vs ws)
  | [], acc, vs, ws, h, k => by rw [RepK] at k; rw [k]; exact h
  | (j, x) :: more, acc, vs, ws, h, k => by
    rw [RepK] at k
    obtain ⟨v, us, rfl, k1, k2⟩ := k
    show RepK S (more.foldl (fun a p => kput a p.1 p.2) (kput acc j x)) (mergeK (putK vs (Sum.inl j) v) us)
    exact RepK.merge (h.put k1) k2
theorem cd_dictP {kvs : List (Int × D)} (hc : X.calm = true := by rfl) : CallD lk X (.type "dict") [.lst (kvs.map fun p => .tup [.int p.1, p.2])] cs (.dic (kputs kvs)) cs := callD_of (call_dictP hc) fun S H vs O rr Q q => by
  obtain ⟨v, rfl, r⟩ := rr.one
  obtain ⟨p, ws, rfl, e, r⟩ := rep_lst.mp r
  obtain ⟨ps, us, rfl, rk, pr⟩ := pairs_rep r
  exact ⟨p, ps, us, rfl, sql O.lies e, paired_mono (fun a b h => sqt O.lies h) pr, fun l hl => q.new O hl (rep_dic.mpr ⟨l, _, rfl, upd_same, (RepK.merge .nil rk).mono (.new (O.lies.ne hl))⟩)⟩
/-! list(d.items()) -/
theorem reps_pairs {S : Hp} : ∀ {kvs : List (Int × D)} {ps : List Addr} {ws : List (Key × V)}, RepK S kvs ws → Paired (fun p (kv : Key × V) => S p = some (.tup [kV kv.1, kv.2])) ps ws → Reps S (kvs.map fun p => .tup [.int p.1, p.2]) (ps.map V.ref)
  | [], ps, ws, r, pr => by
    rw [RepK] at r; subst r
    cases pr
    exact .nil
  | (k, x) :: kvs, ps, ws, r, pr => by
    rw [RepK] at r
    obtain ⟨v, us, rfl, r1, r2⟩ := r
    cases pr with
    | cons h t => exact .cons (rep_tup.mpr ⟨_, _, rfl, h, .cons (rep_int.mpr rfl) (.cons r1 .nil)⟩) (reps_pairs r2 t)
theorem ev_listItems {d : Addr} {kvs : List (Int × D)} {p q3 : Pos} (i : Nat) (ha : EvM lk X a ds cs (.ptr d) cs1) (hi : cs1[i]? = some (d, .dic kvs)) (hm : X.mg "list" = none) (hv : bootBuiltins "list" = some (.type "list")) (hg : Gl X "list" := by rfl) (hc : X.calm = true := by rfl)
    (hbase : attributeBase a "items" X.env (eval a X.env) = eval a X.env := by rfl) (hline : (apos.endLine == cpos.line) = true := by rfl)
    (hs : starEach [.Call (.Attribute a "items" apos) [] [] cpos] X.env = (false, eval (.Call (.Attribute a "items" apos) [] [] cpos) X.env) :: starEach [] X.env := by rfl) :
    EvM lk X (.Call (.Name "list" p) [.Call (.Attribute a "items" apos) [] [] cpos] [] pos) ds cs (.lst (kvs.map fun p => .tup [.int p.1, p.2])) cs1 := fun σ S H O E Q q =>
  run_e (LiI.pe_listItems hc pe_w hg hm hv hbase hline hs) (ha σ S H O E _ fun v S1 H1 O1 s1 r1 => by
    obtain ⟨ws, e1, rk⟩ := O1.at_ hi
    rw [rep_ptr.mp r1]
    refine ⟨d, ws, rfl, e1, fun H' p ts kp hp ht hpt hl pr => ?_⟩
    obtain ⟨O2, s2⟩ := O1.grow kp
    refine q _ _ _ O2 (s1.trans s2) (rep_lst.mpr ⟨p, _, rfl, by rw [growS_new hp]; exact hl, reps_pairs (rk.mono s2.ext) ?_⟩)
    have : ∀ {ts : List Addr} {ws : List (Key × V)}, (∀ t ∈ ts, H1 t = none) → Paired (fun (t : Addr) (q : Key × V) => H' t = some (.tup [kV q.1, q.2])) ts ws → Paired (fun p (kv : Key × V) => growS S1 H1 H' p = some (.tup [kV kv.1, kv.2])) ts ws := by
      intro ts
      induction ts with
      | nil => intro ws _ h; cases h; exact .nil
      | cons t ts ih =>
        intro ws ht h
        cases h with
        | cons h1 h2 => exact .cons (by rw [growS_new (ht t (by simp))]; exact h1) (ih (fun u hu => ht u (List.mem_cons_of_mem _ hu)) h2)
    exact this ht pr)
/-! list(range(..)), tuple(range(..)) -/
def rgI (a b : Int) : List Int := (List.range (b - a).toNat).map fun i => a + (i : Nat)
theorem rgV_ints (a b : Int) : rgV a b = (rgI a b).map V.int := by unfold rgV rgI; rw [List.map_map]; rfl
theorem ev_listRg {n : Int} {p p3 pos3 : Pos} (ha : EvM lk X a ds cs (.int n) cs1) (hn : 0 ≤ n ∧ n ≤ 1000000) (hm : X.mg "list" = none) (hmr : X.mg "range" = none) (hg : Gl X "list" := by rfl) (hgr : Gl X "range" := by rfl) (hc : X.calm = true := by rfl)
    (na1 : starEach [a] X.env = (false, eval a X.env) :: starEach [] X.env := by rfl)
    (na : starEach [.Call (.Name "range" p3) [a] [] pos3] X.env = (false, eval (.Call (.Name "range" p3) [a] [] pos3) X.env) :: starEach [] X.env := by rfl) :
    EvM lk X (.Call (.Name "list" p) [.Call (.Name "range" p3) [a] [] pos3] [] pos) ds cs (.lst (dints (rgI 0 n))) cs1 := fun σ S H O E Q q =>
  run_e (pe_listRg hc hg hm (prg_1 hgr hmr pe_w na1) na) (ha σ S H O E _ fun v S1 H1 O1 s1 r1 => ⟨n, rep_int.mp r1, RgOk.of_le (by omega) (by omega) (by omega) (by omega), fun l hl => by
    rw [rgV_ints]
    exact (q.step s1).new O1 hl (rep_lst.mpr ⟨l, _, rfl, upd_same, Reps.ints.mpr rfl⟩)⟩)
theorem ev_tupRg {i j : Int} {p p3 pos3 : Pos} (ha : EvM lk X a ds cs (.int i) cs1) (hb : EvM lk X b ds cs1 (.int j) cs2) (hi : 0 ≤ i ∧ i ≤ 1000000) (hj : 0 ≤ j ∧ j ≤ 1000000) (hm : X.mg "tuple" = none) (hmr : X.mg "range" = none) (hg : Gl X "tuple" := by rfl) (hgr : Gl X "range" := by rfl) (hc : X.calm = true := by rfl)
    (na1 : starEach [a, b] X.env = (false, eval a X.env) :: starEach [b] X.env := by rfl) (nb1 : starEach [b] X.env = (false, eval b X.env) :: starEach [] X.env := by rfl) (hp : (backTo pos3 (starEach [b] X.env)).any (·.1) = false := by rfl)
    (na : starEach [.Call (.Name "range" p3) [a, b] [] pos3] X.env = (false, eval (.Call (.Name "range" p3) [a, b] [] pos3) X.env) :: starEach [] X.env := by rfl) :
    EvM lk X (.Call (.Name "tuple" p) [.Call (.Name "range" p3) [a, b] [] pos3] [] pos) ds cs (.tup (dints (rgI i j))) cs2 := fun σ S H O E Q q =>
  run_e (pe_tupRg hc hg hm (prg_2 hgr hmr pe_w pe_w na1 nb1 hp) na) (ha σ S H O E _ fun v S1 H1 O1 s1 r1 => hb σ S1 H1 O1 (E.mono s1.ext) _ fun w S2 H2 O2 s2 r2 => ⟨i, j, rep_int.mp r1, rep_int.mp r2, RgOk.of_le (by omega) (by omega) (by omega) (by omega), fun l hl => by
    rw [rgV_ints]
    exact (q.step (s1.trans s2)).new O2 hl (rep_tup.mpr ⟨l, _, rfl, upd_same, Reps.ints.mpr rfl⟩)⟩)
end
end Af
set_option Elab.async false
set_option linter.all false
set_option maxRecDepth 100000
set_option maxHeartbeats 3200000
/-! ### set(xs) of lists: ints and tuples of ints, many items but few different ones -/
namespace Af
open PySem L2 PySem.Spec PyProof.Rows

section
variable {P : Program} {w : World} {A : Around} {E : Value → Shared → Prop} {s : Shared}
/-- one item more -/
def AddsTo (P : Program) (w : World) (h0 : Heap) (S : Addr) (items : Array Value) (T : Nat → Heap → Prop) (u : Nat) : Prop :=
  ∀ (B : Around) (E : Value → Shared → Prop) (i : Nat) (v : Value) (s : Shared) (Q : Unit → Shared → Prop), B.units = u → items[i]? = some v → T i s.heap → (∀ b o, h0.get? b = some o → s.heap.get? b = some o) →
    (∀ h' tk, Heap.SameBut S s.heap h' → s.toks ≤ tk → T (i + 1) h' → Q () { s with heap := h', toks := tk }) → wpAny (model P w) B (setAdd S v) (fun _ s' => Q () s') E s
theorem set_loop {I l S : Addr} {items : Array Value} {T : Nat → Heap → Prop} {h0 : Heap} {R : Result → Shared → Prop} {n : Nat}
    (W : WalksS P w A.in1 I [I, l] [I] (fun a b => b = a) n (fun i v => items[i]? = some v) (fun i s => s.heap.IsListIter I l i ∧ s.heap.IsList l items)) (hSf : S ∉ [I, l]) (hS0 : h0.get? S = none) (hI0 : h0.get? I = none)
    (keep : ∀ i h h', T i h → (∀ b o, b ≠ I → h.get? b = some o → h'.get? b = some o) → T i h') (add : AddsTo P w h0 S items T A.in1.units) :
    ∀ (k i : Nat) (s : Shared), n - i = k → i ≤ n → (s.heap.IsListIter I l i ∧ s.heap.IsList l items) → (∀ b o, h0.get? b = some o → s.heap.get? b = some o) → T i s.heap →
      (∀ s', Moved (S :: [I]) (fun a b => b = a) s s' → T n s'.heap → (∀ b o, h0.get? b = some o → s'.heap.get? b = some o) → R (.ok (.ret .none)) s') →
      codeAny (model P w) A (.builtin "set.update.loop" ⟨[.ref S, .ref I], []⟩) R s := by
  have hSI : S ≠ I := fun e => hSf (by rw [e]; simp)
  have hsub : ∀ b ∈ [I], b ∈ S :: [I] := fun b hb => List.mem_cons_of_mem _ hb
  have old : ∀ {s s' : Shared}, Moved [I] (fun a b => b = a) s s' → (∀ b o, h0.get? b = some o → s.heap.get? b = some o) → ∀ b o, h0.get? b = some o → s'.heap.get? b = some o := fun hm kp b o e =>
    hm.heap b o (fun hb => by rw [List.mem_singleton.mp hb, hI0] at e; cases e) (kp b o e)
  intro k
  induction k with
  | zero =>
    intro i s hk hi hst kp t hR
    have hin : i = n := by omega
    subst hin
    refine codeAny_builtin F.entry_set_update_loop ?_
    rw [Around.under_plainId F.plain_set_update_loop _]
    show wpAny _ A.in1 (pyNext (.ref I) >>= _) _ _ s
    refine wpAny_bind (W.done s _ _ hst fun s' hm => ?_)
    show wpAny _ A.in1 (ret Value.none) _ _ s'
    exact wpAny_pure (hR s' (hm.mono hsub) (keep _ _ _ t fun b o hb e => hm.heap b o (by simpa using hb) e) (old hm kp))
  | succ k ih =>
    intro i s hk hi hst kp t hR
    have hlt : i < n := by omega
    refine codeAny_builtin F.entry_set_update_loop ?_
    rw [Around.under_plainId F.plain_set_update_loop _]
    show wpAny _ A.in1 (pyNext (.ref I) >>= _) _ _ s
    refine wpAny_bind (W.item i s _ _ hlt hst fun v s' hP hst' hm => ?_)
    have t' : T i s'.heap := keep _ _ _ t fun b o hb e => hm.heap b o (by simpa using hb) e
    show wpAny _ A.in1 (holding [v] (setAdd S v) >>= _) _ _ s'
    refine wpAny_bind (wpAny_holding ?_)
    refine wpAny_mono (add A.in1 _ i v s' (fun _ s'' => wpAny _ A.in1 (again (.builtin "set.update.loop" ⟨[.ref S, .ref I], []⟩)) _ _ s'') rfl hP t' (old hm kp) fun h' tk sb htk t2 => ?_) (fun _ s'' q => q) fun _ _ q => q
    refine wpAny_pure ⟨plainId_quiet F.plain_set_update_loop _, ih (i + 1) _ (by omega) hlt (W.frame _ s' _ _ hst' htk fun b hb o e => ?_) (fun b o e => (sb.2 b (fun z => by rw [z, hS0] at e; cases e)).trans (old hm kp b o e)) t2 fun s'' hm'' t'' kp'' => ?_⟩
    · rw [sb.2 b (fun z => hSf (by rw [← z]; exact hb))]; exact e
    · refine hR s'' (Moved.trans W.gtrans ((hm.mono hsub).then_heap htk fun b o hb e => ?_) hm'') t'' kp''
      rw [sb.2 b (fun z => hb (by rw [z]; exact List.mem_cons_self))]; exact e
/-- the empty set -/
abbrev nilSet (w : World) : Obj := { cls := .type "set", dict := none, data := .set #[] 0 (.fresh 0 0 (!w.params.followText "set-order")) }
/-- set(xs) of a list -/
theorem set_of_list {l : Addr} {items : Array Value} {T : Nat → Heap → Prop} {Q : Value → Shared → Prop} (hh : A.handled = none) (hl : s.heap.IsList l items)
    (st0 : ∀ h, h.get? s.heap.objs.size = some (nilSet w) → (∀ b o, s.heap.get? b = some o → h.get? b = some o) → T 0 h)
    (keep : ∀ i h h', T i h → (∀ b o, b ≠ s.heap.objs.size + 1 → h.get? b = some o → h'.get? b = some o) → T i h') (add : AddsTo P w s.heap s.heap.objs.size items T (A.units + 3))
    (h : ∀ (h' : Heap) (tk : Nat), T items.size h' → (∀ b o, s.heap.get? b = some o → h'.get? b = some o) → Q (.ref s.heap.objs.size) { s with heap := h', toks := tk }) :
    wpAny (model P w) A (call (.type "set") [.ref l]) Q E s := by
  obtain ⟨c, tl, hmro⟩ := F.called_set.mro
  have hmade := F.called_set.made
  have hsub := F.called_set.sub
  refine wpAny_call (codeAny_of_tree ?_)
  show wpAny _ _ (callAny (.type "set") _) _ _ _
  refine wpAny_pure ⟨Code.quiet_builtin _ (by decide +kernel), codeAny_builtin F.entry_type_call ?_⟩
  rw [Around.under_plain (weight_type_call_type "set" [.ref l] []) rfl]
  have h1 := F.called_set.notType
  have h2 := F.called_set.canCreate
  have hct := F.typeCall_set_1 (.ref l)
  repeat (any_goals (first | assumption | wp_step))
  refine codeAny_mono (code_set_led1 (.ref l) (E := E) (Q₁ := fun obj s₁ => obj = .ref s.heap.objs.size ∧ s₁ = { s with heap := s.heap.push (nilSet w) }) ⟨rfl, rfl⟩) fun r s₁ hr => ?_
  cases r with
  | error e => exact hr
  | ok fl =>
    cases fl with
    | ret obj =>
      obtain ⟨rfl, rfl⟩ := hr
      have hS : (s.heap.push (nilSet w)).get? s.heap.objs.size = some (nilSet w) := Heap.get?_push_size _ rfl
      have hT : Shared.TypeIs { s with heap := s.heap.push (nilSet w) } (.ref s.heap.objs.size) "set" := ⟨_, hS, rfl⟩
      have hli := F.called_set.init.lookup
      have hbi := F.called_set.init.bind (.ref s.heap.objs.size)
      repeat (any_goals (first | assumption | wp_step))
      refine codeAny_mono (codeAny_call_builtin (R := wants (fun r s₂ => r = .none ∧ ∃ h' tk, s₂ = { s with heap := h', toks := tk } ∧ T items.size h' ∧ (∀ b o, s.heap.get? b = some o → h'.get? b = some o)) E) F.called_set.init.plain F.entry_set_init (check_set_init_1 hT ?_)) fun r₂ s₂ hr₂ => ?_
      · obtain ⟨ol, hol, hcl, nl, hdl⟩ := hl
        obtain ⟨ocls, odict, odata, oslots⟩ := ol
        simp only at hcl hdl
        subst hcl; subst hdl
        have hol' : (s.heap.push (nilSet w)).get? l = some { cls := .type "list", dict := odict, data := .seq items nl, slots := oslots } := Heap.get?_push_of_some _ hol
        have hsls := F.sub_list_set
        have hslf := F.sub_list_frozenset
        have hne : (Value.type "list" == Value.type "dict") = false := by decide
        have hl1 : (s.heap.push (nilSet w)).IsList l items := ⟨_, hol', rfl, nl, rfl⟩
        unfold Builtin.«set.__init__» noKeywords Builtin.Frozenset.updateFrom
        generalize hPI : pyIter = PI
        wp_walk
        subst hPI
        refine wpAny_pyIter_list hl1 ?_
        refine wpAny_bind (wpAny_runValue ?_)
        have hlS : l < s.heap.objs.size := Heap.lt_size hol
        have hh3 : A.in1.in1.in1.handled = none := by simp [hh]
        have hz1 : (s.heap.push (nilSet w)).objs.size = s.heap.objs.size + 1 := Heap.size_push ..
        have none_of : ∀ b, s.heap.objs.size ≤ b → s.heap.get? b = none := fun b hb => by
          cases q : s.heap.get? b with
          | none => rfl
          | some o => exact absurd (Nat.lt_of_lt_of_le (Heap.lt_size q) hb) (Nat.lt_irrefl _)
        show codeAny _ _ (.builtin "set.update.loop" ⟨[.ref s.heap.objs.size, .ref (s.heap.push (nilSet w)).objs.size], []⟩) _ _
        rw [hz1]
        have hneI : l ≠ s.heap.objs.size + 1 := Nat.ne_of_lt (Nat.lt_succ_of_lt hlS)
        have hget : ∀ b o, s.heap.get? b = some o → ((s.heap.push (nilSet w)).push { cls := .type "list_iterator", data := .fields #[.ref l, .int 0 0] }).get? b = some o := fun b o e => Heap.get?_push_of_some _ (Heap.get?_push_of_some _ e)
        refine set_loop ((Walks.list hh3 _ l hneI items).toS) (S := s.heap.objs.size) (by
            simp only [List.mem_cons, List.not_mem_nil, or_false, not_or]
            exact ⟨Nat.ne_of_lt (Nat.lt_succ_self _), Nat.ne_of_gt hlS⟩) (none_of _ (Nat.le_refl _)) (none_of _ (Nat.le_succ _)) keep add (items.size - 0) 0 _ (by omega) (Nat.zero_le _)
          ⟨⟨_, by rw [← hz1]; exact Heap.get?_push_size _ rfl, rfl, rfl⟩, (hl1.push _)⟩ hget (st0 _ (Heap.get?_push_of_some _ hS) hget) ?hR
        case hR =>
          intro s' hm t' kp
          obtain ⟨h', g2, d', tk', os'⟩ := s'
          have eg : g2 = s.gens := hm.gens
          have ed : d' = s.drawn := hm.drawn
          have eo : os' = s.os := hm.os
          subst eg; subst ed; subst eo
          show wpAny _ _ _ _ _ _
          refine wpAny_pure ?_
          show wpAny _ _ (ret Value.none) _ _ _
          exact wpAny_pure ⟨rfl, h', tk', rfl, t', kp⟩
      · cases r₂ with
        | error e => exact hr₂
        | ok fl₂ =>
          cases fl₂ with
          | ret r =>
            obtain ⟨rfl, h', tk, rfl, t', kp⟩ := hr₂
            repeat (any_goals (first | assumption | wp_step))
            exact h _ _ t' kp
          | _ => exact hr₂.elim
    | _ => exact hr.elim
end
end Af
set_option Elab.async false
set_option linter.all false
set_option maxRecDepth 100000
set_option maxHeartbeats 2000000
/-! ### sorted(set(xs)) -/
namespace Af
open PySem L2 PySem.Spec PyProof.Rows

section
variable {P : Program} {w : World} {A : Around} {E : Value → Shared → Prop} {s : Shared}
theorem set_list_ints {l : Addr} {items : Array Value} (ns : List Int) {Q : Value → Shared → Prop} (hh : A.handled = none) (hl : s.heap.IsList l items) (hit : IntsAre items.toList ns) (hb : ns.length + 1 < scanBound)
    (h : ∀ (h' : Heap) (tk c : Nat), SetR w h' s.heap.objs.size (fun j => decide (j ∈ ns)) c → c ≤ ns.length → (∀ b o, s.heap.get? b = some o → h'.get? b = some o) → Q (.ref s.heap.objs.size) { s with heap := h', toks := tk }) :
    wpAny (model P w) A (call (.type "set") [.ref l]) Q E s := by
  have hisz : items.size = ns.length := by
    have q := IntsAre.length hit
    rw [Array.length_toList] at q
    exact q
  refine set_of_list (T := fun i h => ∃ c, c ≤ i ∧ SetR w h s.heap.objs.size (fun j => decide (j ∈ ns.take i)) c) hh hl (fun h hS _ => ⟨0, Nat.le_refl 0, setR_new_at hS⟩) (fun i h h' ⟨c, hc, R⟩ k => ⟨c, hc, R.at fun o e => k _ o (Nat.ne_of_lt (Nat.lt_succ_self _)) e⟩) ?_ fun h' tk ⟨c, hc, R⟩ kp => ?_
  · intro B E i v s1 Q hB hv ⟨c, hc, R⟩ kp q
    obtain ⟨hi, _⟩ := Array.getElem?_eq_some_iff.mp hv
    have hi' : i < ns.length := by omega
    obtain ⟨t, e⟩ := PyProof.Rows.IntsAre.int_at hit i v (by rw [Array.getElem?_toList]; exact hv)
    have hz : ns[i]? = some (ns.getD i 0) := by rw [List.getD_eq_getElem?_getD, List.getElem?_eq_getElem hi']; rfl
    generalize ns.getD i 0 = z at e hz
    subst e
    unfold setAdd
    refine wpAny_holding ?_
    refine wpAny_bind ((intKind P w).pyHash (k := z) (intKind_is _ _ _ _) ?_)
    refine setR_add_hashed (s := { s1 with toks := s1.toks + 1 }) R (by omega) fun h' hsb hS2 => ?_
    refine q h' _ hsb (Nat.le_succ _) ⟨_, ?_, hS2.congr fun j => ?_⟩
    · split <;> omega
    · rw [List.take_add_one, hz]
      simp [List.mem_append]
  · rw [hisz] at hc R
    rw [List.take_length] at R
    exact h h' tk c R hc kp
/-- few different tuples among many -/
def FewD (ks : List (Addr × List Int)) : Prop := ∀ L : List (Addr × List Int), (∀ p ∈ L, p ∈ ks) → (L.map (·.2)).Nodup → L.length + 1 < 64
theorem set_list_tups {l : Addr} {items : Array Value} (ks : List (Addr × List Int)) {Q : Value → Shared → Prop} (hh : A.handled = none) (hl : s.heap.IsList l items) (hit : items.toList = ks.map fun p => Value.ref p.1)
    (hk : ∀ p ∈ ks, IsT P w s.heap p.2 p.1) (hfew : FewD ks) (hu : A.units + 3 < cLine)
    (h : ∀ (h' : Heap) (tk : Nat) L es ep t, SetTR P w h' s.heap.objs.size L es ep t → Got ks ks.length L → (∀ b o, s.heap.get? b = some o → h'.get? b = some o) → Q (.ref s.heap.objs.size) { s with heap := h', toks := tk }) :
    wpAny (model P w) A (call (.type "set") [.ref l]) Q E s := by
  have hisz : items.size = ks.length := by
    have q := congrArg List.length hit
    rw [Array.length_toList, List.length_map] at q
    exact q
  have none_of : ∀ b, s.heap.objs.size ≤ b → s.heap.get? b = none := fun b hb => by
    cases q : s.heap.get? b with
    | none => rfl
    | some o => exact absurd (Nat.lt_of_lt_of_le (Heap.lt_size q) hb) (Nat.lt_irrefl _)
  have tks : ∀ h : Heap, (∀ b o, s.heap.get? b = some o → h.get? b = some o) → ∀ {i L}, Got ks i L → ∀ p ∈ L, IsT P w h p.2 p.1 := fun h kp i L g p hp => isT_keep (hk p (List.mem_of_mem_take (g.sub p hp))) kp
  refine set_of_list (T := fun i h => (∀ b o, s.heap.get? b = some o → h.get? b = some o) ∧ ∃ L es ep t, SetTR P w h s.heap.objs.size L es ep t ∧ Got ks i L) hh hl (fun h hS kp => ⟨kp, [], #[], 0, _, setTR_fresh hS, Got.zero ks⟩)
    (fun i h h' ⟨kp, L, es, ep, t, R, g⟩ k => ?_) ?_ fun h' tk ⟨_, L, es, ep, t, R, g⟩ kp => ?_
  · have kp' : ∀ b o, s.heap.get? b = some o → h'.get? b = some o := fun b o e => k b o (fun z => by rw [z, none_of _ (Nat.le_succ _)] at e; cases e) (kp b o e)
    exact ⟨kp', L, es, ep, t, R.keep (fun o e => k _ o (Nat.ne_of_lt (Nat.lt_succ_self _)) e) (tks h' kp' g), g⟩
  · intro B E i v s1 Q hB hv ⟨_, L, es, ep, t, R, g⟩ kp q
    obtain ⟨p, hp, rfl⟩ : ∃ p, ks[i]? = some p ∧ v = .ref p.1 := by
      have e : items.toList[i]? = some v := by rw [Array.getElem?_toList]; exact hv
      rw [hit, List.getElem?_map] at e
      cases hq : ks[i]? with
      | none => rw [hq] at e; cases e
      | some p => rw [hq] at e; exact ⟨p, rfl, (Option.some.inj e).symm⟩
    have hx : IsT P w s1.heap p.2 p.1 := isT_keep (hk p (List.mem_of_getElem? hp)) kp
    unfold setAdd
    refine wpAny_holding ?_
    refine wpAny_bind (wpAny_pyHash_tuple (by rw [hB]; exact hu) hx ?_)
    refine add_at (s := { s1 with toks := s1.toks + (p.2.length + 1) }) R hx (by rw [hB]; exact hu) (hfew L (fun p hp => List.mem_of_mem_take (g.sub p hp)) R.nd) fun b h' L' es' ep' t' hsb hS2 c1 c2 => ?_
    have g' : Got ks (i + 1) L' := by
      rcases Classical.em (p.2 ∈ L.map (·.2)) with c | c
      · rw [c1 c]; exact g.same hp c
      · exact g.more hp (c2 c)
    exact q h' _ hsb (Nat.le_add_right _ _) ⟨fun b o e => (hsb.2 b (fun z => by rw [z, none_of _ (Nat.le_refl _)] at e; cases e)).trans (kp b o e), L', es', ep', t', hS2, g'⟩
  · rw [hisz] at g
    exact h h' tk L es ep t R g kp
end
section
variable {X : Cx}
/-- set(xs), a list of ints -/
def rSetL (K : PySem.W.Frag) (w : World) : List V → Hp → VK → Prop := fun xs H Q => ∃ (l : Addr) (ns : List Int), xs = [V.ref l] ∧ SqL K H l (ns.map V.int) ∧ ns.length ≤ 1000 ∧
  ∀ a c, H a = none → c ≤ ns.length → Q (.ref a) (upd H a (SetO w a (fun j => decide (j ∈ ns)) c))
theorem cr_setL (hc : X.calm = true) : CallR X (.type "set") (rSetL X.K X.w) := by
  intro pins s σ H xs us Q I r h
  obtain ⟨l, ns, rfl, hl, hn, q⟩ := h
  rw [Vals.ref1 r]
  obtain ⟨its, rv, pl, hz⟩ := I.list hl
  refine set_list_ints ns (I.ok.hd hc) pl.isList (by simpa using ints_of_vals rv) (by unfold scanBound; omega) fun h' tk c R hcn k => ?_
  exact ⟨.ref s.heap.objs.size, upd H s.heap.objs.size (SetO X.w s.heap.objs.size _ c), I.laid (t' := tk) k (Nat.le_refl _) (setO_new R), rfl, q _ c (I.hok.fresh (Nat.le_refl _)) hcn⟩
/-- .. a tuple of ints -/
def rSetU (K : PySem.W.Frag) (w : World) : List V → Hp → VK → Prop := fun xs H Q => ∃ (l : Addr) (ns : List Int), xs = [V.ref l] ∧ SqT K H l (ns.map V.int) ∧ ns.length ≤ 1000 ∧
  ∀ a c, H a = none → c ≤ ns.length → Q (.ref a) (upd H a (SetO w a (fun j => decide (j ∈ ns)) c))
theorem cr_setU (hc : X.calm = true) : CallR X (.type "set") (rSetU X.K X.w) := by
  intro pins s σ H xs us Q I r h
  obtain ⟨l, ns, rfl, hl, hn, q⟩ := h
  rw [Vals.ref1 r]
  obtain ⟨its, rv, pt, hz⟩ := I.tuple hl
  refine call_set_tupI ns (I.ok.hd hc) (show s.heap.IsTuple l its.toArray from pt) (by simpa using ints_of_vals rv) (by unfold scanBound; omega) fun h' tk c R hcn k => ?_
  exact ⟨.ref s.heap.objs.size, upd H s.heap.objs.size (SetO X.w s.heap.objs.size _ c), I.laid (t' := tk) k (Nat.le_refl _) (setO_new R), rfl, q _ c (I.hok.fresh (Nat.le_refl _)) hcn⟩
/-- .. a list of tuples of ints -/
def rSetTL (K : PySem.W.Frag) (P : Program) (w : World) : List V → Hp → VK → Prop := fun xs H Q => ∃ (l : Addr) (ks : List (Addr × List Int)), xs = [V.ref l] ∧ SqL K H l (ks.map fun p => V.ref p.1) ∧ (∀ p ∈ ks, SqT K H p.1 (p.2.map V.int)) ∧ FewD ks ∧
  ∀ a L, H a = none → (∀ p ∈ L, p ∈ ks) → (∀ p ∈ ks, p.2 ∈ L.map (·.2)) → Q (.ref a) (upd H a (SetTO P w a L))
theorem cr_setTL (hc : X.calm = true) (hu : X.A.units + 64 < cLine) : CallR X (.type "set") (rSetTL X.K X.prog X.w) := by
  intro pins s σ H xs us Q I r h
  obtain ⟨l, ks, rfl, hl, hk, hf, q⟩ := h
  rw [Vals.ref1 r]
  obtain ⟨its, rv, pl, hz⟩ := I.list hl
  refine set_list_tups (P := X.prog) (w := X.w) ks (I.ok.hd hc) pl.isList (by simpa using refs_of_vals rv) (fun p hp => I.isT (hk p hp)) hf (by omega) fun h' tk L es ep t R g k => ?_
  refine ⟨.ref s.heap.objs.size, upd H s.heap.objs.size (SetTO X.prog X.w s.heap.objs.size L), I.laid (t' := tk) k (Nat.le_refl _) (setTO_new R.t0), rfl, q _ L (I.hok.fresh (Nat.le_refl _)) (fun p hp => List.mem_of_mem_take (g.sub p hp)) fun p hp => g.all p (by rw [List.take_length]; exact hp)⟩
end
/-! the rules -/
theorem strict_one {ms ks : List Int} (h1 : ms.Pairwise (· < ·)) (h2 : ks.Pairwise (· < ·)) (h : ∀ k, k ∈ ms ↔ k ∈ ks) : ms = ks := by
  have n1 : ms.Nodup := h1.imp fun h e => by omega
  have n2 : ks.Nodup := h2.imp fun h e => by omega
  exact ((List.perm_ext_iff_of_nodup n1 n2).mpr h).eq_of_pairwise (fun a b _ _ h k => by omega) h1 h2
section
variable {lk : List Addr} {X : Cx} {a : Expr} {ds : Ds} {cs cs1 : Cs} {ns ms : List Int} {pos p p2 q0 : Pos}
theorem ev_sortedSetL (ha : EvM lk X a ds cs (.lst (dints ns)) cs1) (hn : ns.length < 64) (h1 : ms.Pairwise (· < ·)) (h2 : ∀ k, k ∈ ms ↔ k ∈ ns) (hm : X.mg "sorted" = none) (hm2 : X.mg "set" = none) (hg : Gl X "sorted" := by rfl) (hg2 : Gl X "set" := by rfl) (hc : X.calm = true := by rfl)
    (he : starEach [a] X.env = (false, eval a X.env) :: starEach [] X.env := by rfl) (he2 : starEach [.Call (.Name "set" p2) [a] [] q0] X.env = (false, eval (.Call (.Name "set" p2) [a] [] q0) X.env) :: starEach [] X.env := by rfl)
    (hpl : (backTo q0 (starEach [] X.env)).any (·.1) = false := by rfl) (hpl2 : (backTo pos (starEach [] X.env)).any (·.1) = false := by rfl) :
    EvM lk X (.Call (.Name "sorted" p) [.Call (.Name "set" p2) [a] [] q0] [] pos) ds cs (.lst (dints ms)) cs1 := fun σ S H O E Q q =>
  run_e (pe_callB (cr_sortedSet hc) hg hm b_sorted (pa_cons (pe_callTy (cr_setL hc) hg2 hm2 b_set (pa_cons pe_w pa_nil he) (by decide) (by decide) he hpl) pa_nil he2) (by decide) (by decide) he2 hpl2) (ha σ S H O E _ fun v S1 H1 O1 s1 r1 => by
    obtain ⟨l, ws, rfl, e, r⟩ := rep_lst.mp r1
    have := Reps.ints.mp r; subst this
    refine ⟨l, ns, rfl, sql O1.lies e, by omega, fun b c hb hcn => ⟨b, _, c, rfl, upd_same, by omega, fun ks p hs hk hl hp => ?_⟩⟩
    have e0 : ks = ms := strict_one hs h1 fun k => by rw [hk, h2]; simp
    subst e0
    exact ((q.step s1).step (.alloc (O1.lies.ne hb) hb)).new (O1.alloc hb) hp (rep_lst.mpr ⟨p, _, rfl, upd_same, Reps.ints.mpr rfl⟩))
theorem ev_sortedSetU (ha : EvM lk X a ds cs (.tup (dints ns)) cs1) (hn : ns.length < 64) (h1 : ms.Pairwise (· < ·)) (h2 : ∀ k, k ∈ ms ↔ k ∈ ns) (hm : X.mg "sorted" = none) (hm2 : X.mg "set" = none) (hg : Gl X "sorted" := by rfl) (hg2 : Gl X "set" := by rfl) (hc : X.calm = true := by rfl)
    (he : starEach [a] X.env = (false, eval a X.env) :: starEach [] X.env := by rfl) (he2 : starEach [.Call (.Name "set" p2) [a] [] q0] X.env = (false, eval (.Call (.Name "set" p2) [a] [] q0) X.env) :: starEach [] X.env := by rfl)
    (hpl : (backTo q0 (starEach [] X.env)).any (·.1) = false := by rfl) (hpl2 : (backTo pos (starEach [] X.env)).any (·.1) = false := by rfl) :
    EvM lk X (.Call (.Name "sorted" p) [.Call (.Name "set" p2) [a] [] q0] [] pos) ds cs (.lst (dints ms)) cs1 := fun σ S H O E Q q =>
  run_e (pe_callB (cr_sortedSet hc) hg hm b_sorted (pa_cons (pe_callTy (cr_setU hc) hg2 hm2 b_set (pa_cons pe_w pa_nil he) (by decide) (by decide) he hpl) pa_nil he2) (by decide) (by decide) he2 hpl2) (ha σ S H O E _ fun v S1 H1 O1 s1 r1 => by
    obtain ⟨l, ws, rfl, e, r⟩ := rep_tup.mp r1
    have := Reps.ints.mp r; subst this
    refine ⟨l, ns, rfl, sqt O1.lies e, by omega, fun b c hb hcn => ⟨b, _, c, rfl, upd_same, by omega, fun ks p hs hk hl hp => ?_⟩⟩
    have e0 : ks = ms := strict_one hs h1 fun k => by rw [hk, h2]; simp
    subst e0
    exact ((q.step s1).step (.alloc (O1.lies.ne hb) hb)).new (O1.alloc hb) hp (rep_lst.mpr ⟨p, _, rfl, upd_same, Reps.ints.mpr rfl⟩))
/-- len(set(xs)), different ints -/
theorem ev_lenSet (ha : EvM lk X a ds cs (.lst (dints ns)) cs1) (hn : ns.length < 64) (hd : ns.Nodup) (hm : X.mg "len" = none) (hm2 : X.mg "set" = none) (hg : Gl X "len" := by rfl) (hg2 : Gl X "set" := by rfl) (hc : X.calm = true := by rfl)
    (he : starEach [a] X.env = (false, eval a X.env) :: starEach [] X.env := by rfl) :
    EvM lk X (.Call (.Name "len" p) [.Call (.Name "set" p2) [a] [] q0] [] pos) ds cs (.int ns.length) cs1 := fun σ S H O E Q q =>
  run_e (pe_lenSetI hc hg hm hg2 hm2 pe_w he) (ha σ S H O E _ fun v S1 H1 O1 s1 r1 => by
    obtain ⟨l, ws, rfl, e, r⟩ := rep_lst.mp r1
    have := Reps.ints.mp r; subst this
    exact ⟨l, ns, rfl, sql O1.lies e, hn, hd, (q.step s1).here O1 (rep_int.mpr rfl)⟩)
/-! tuples -/
def dtups (ks : List (List Int)) : List D := ks.map fun k => .tup (dints k)
theorem tups_rep {S : Hp} : ∀ {ks : List (List Int)} {vs : List V}, Reps S (dtups ks) vs → ∃ L : List (Addr × List Int), vs = L.map (fun p => V.ref p.1) ∧ L.map (·.2) = ks ∧ ∀ p ∈ L, S p.1 = some (.tup (p.2.map V.int))
  | [], vs, r => ⟨[], r.none, rfl, fun _ h => by cases h⟩
  | k :: ks, vs, r => by
    obtain ⟨v, us, rfl, r1, r2⟩ := Reps.uncons r
    obtain ⟨p, ts, rfl, e, r3⟩ := rep_tup.mp r1
    have := Reps.ints.mp r3; subst this
    obtain ⟨L, rfl, rfl, h⟩ := tups_rep r2
    exact ⟨(p, k) :: L, rfl, rfl, fun q hq => by
      rcases List.mem_cons.mp hq with z | z
      · rw [z]; exact e
      · exact h q z⟩
theorem reps_tups {S : Hp} : ∀ {L : List (Addr × List Int)}, (∀ p ∈ L, S p.1 = some (.tup (p.2.map V.int))) → Reps S (dtups (L.map (·.2))) (L.map fun p => V.ref p.1)
  | [], _ => .nil
  | p :: L, h => .cons (rep_tup.mpr ⟨_, _, rfl, h p (by simp), Reps.ints.mpr rfl⟩) (reps_tups fun q hq => h q (List.mem_cons_of_mem _ hq))
theorem code_one {B : Int} {ms ks : List (List Int)} (h1 : ms.Pairwise (fun a b => TS.code B a < TS.code B b)) (h2 : ks.Pairwise (fun a b => TS.code B a ≤ TS.code B b)) (hn : ks.Nodup) (h : ∀ k, k ∈ ms ↔ k ∈ ks) : ks = ms := by
  have n1 : ms.Nodup := h1.imp fun h e => by rw [e] at h; omega
  have pm : ms.Perm ks := (List.perm_ext_iff_of_nodup n1 hn).mpr h
  have h3 : ms.Pairwise (fun a b => TS.code B a ≤ TS.code B b) := h1.imp fun h => by omega
  refine (pm.symm).eq_of_pairwise (fun a b ha hb k1 k2 => ?_) h2 h3
  -- the codes are different in ms
  have ha' : a ∈ ms := (h a).mpr ha
  have key : ∀ l : List (List Int), l.Pairwise (fun a b => TS.code B a < TS.code B b) → a ∈ l → b ∈ l → TS.code B a = TS.code B b → a = b := by
    intro l
    induction l with
    | nil => intro _ h; cases h
    | cons x l ih =>
      intro hp h1 h2 e
      obtain ⟨q1, q2⟩ := List.pairwise_cons.mp hp
      rcases List.mem_cons.mp h1 with z1 | z1
      · rcases List.mem_cons.mp h2 with z2 | z2
        · rw [z1, z2]
        · have := q1 b z2; rw [z1] at e; omega
      · rcases List.mem_cons.mp h2 with z2 | z2
        · have := q1 a z1; rw [z2] at e; omega
        · exact ih q2 z1 z2 e
  exact key ms h1 ha' hb (by omega)
theorem ev_sortedSetT {ks ms : List (List Int)} {d : Nat} {B : Int} (hu : X.A.units + 64 < cLine) (ha : EvM lk X a ds cs (.lst (dtups ks)) cs1) (hf : ∀ l : List (List Int), l.Nodup → (∀ k ∈ l, k ∈ ks) → l.length < 63) (hd : 1 ≤ d) (hB : ∀ k ∈ ks, k.length = d ∧ TS.Bd B k)
    (h1 : ms.Pairwise (fun a b => TS.code B a < TS.code B b)) (h2 : ∀ k, k ∈ ms ↔ k ∈ ks) (hm : X.mg "sorted" = none) (hm2 : X.mg "set" = none) (hg : Gl X "sorted" := by rfl) (hg2 : Gl X "set" := by rfl) (hc : X.calm = true := by rfl)
    (he : starEach [a] X.env = (false, eval a X.env) :: starEach [] X.env := by rfl) (he2 : starEach [.Call (.Name "set" p2) [a] [] q0] X.env = (false, eval (.Call (.Name "set" p2) [a] [] q0) X.env) :: starEach [] X.env := by rfl)
    (hpl : (backTo q0 (starEach [] X.env)).any (·.1) = false := by rfl) (hpl2 : (backTo pos (starEach [] X.env)).any (·.1) = false := by rfl) :
    EvM lk X (.Call (.Name "sorted" p) [.Call (.Name "set" p2) [a] [] q0] [] pos) ds cs (.lst (dtups ms)) cs1 := fun σ S H O E Q q =>
  run_e (pe_callB (cr_sortedT hc) hg hm b_sorted (pa_cons (pe_callTy (cr_setTL hc hu) hg2 hm2 b_set (pa_cons pe_w pa_nil he) (by decide) (by decide) he hpl) pa_nil he2) (by decide) (by decide) he2 hpl2) (ha σ S H O E _ fun v S1 H1 O1 s1 r1 => by
    obtain ⟨l, ws, rfl, e, r⟩ := rep_lst.mp r1
    obtain ⟨L0, rfl, hks, hS⟩ := tups_rep r
    have keyof : ∀ p ∈ L0, p.2 ∈ ks := fun p hp => by rw [← hks]; exact List.mem_map_of_mem hp
    refine ⟨l, L0, rfl, sql O1.lies e, fun p hp => sqt O1.lies (hS p hp), fun L hL hnd => ?_, fun b L hb hL hK => ?_⟩
    · have := hf (L.map (·.2)) hnd fun k hk => by
        obtain ⟨p, hp, rfl⟩ := List.mem_map.mp hk
        exact keyof p (hL p hp)
      rw [List.length_map] at this; omega
    · have O2 := O1.alloc (o := SetTO X.prog X.w b L) hb
      refine ⟨b, L, d, B, rfl, upd_same, fun p hp => sqt O2.lies ((Ext.new (O1.lies.ne hb)) _ _ (hS p (hL p hp))), hd, fun p hp => hB p.2 (keyof p (hL p hp)), fun L' p' pm nd h64 pw hp' => ?_⟩
      have e0 : L'.map (·.2) = ms := code_one h1 (List.pairwise_map.mpr pw) nd fun k => by
        rw [h2, (pm.map (·.2)).mem_iff]
        constructor
        · intro hk
          rw [← hks] at hk
          obtain ⟨p, hp, rfl⟩ := List.mem_map.mp hk
          exact hK p hp
        · intro hk
          obtain ⟨p, hp, rfl⟩ := List.mem_map.mp hk
          exact keyof p (hL p hp)
      refine ((q.step s1).step (.alloc (O1.lies.ne hb) hb)).new O2 hp' (rep_lst.mpr ⟨p', _, rfl, upd_same, ?_⟩)
      rw [← e0]
      exact (reps_tups fun p hp => (Ext.new (O1.lies.ne hb)) _ _ (hS p (hL p (pm.mem_iff.mp hp)))).mono (.new (O2.lies.ne hp')))
end
end Af
set_option Elab.async false
set_option linter.all false
set_option maxRecDepth 100000
set_option maxHeartbeats 2000000
/-! ### x not in d.values() -/
namespace Af
open PySem L2 PySem.Spec PyProof.Rows

theorem vals_no_contains : typeLookup (.type "dict_values") "__contains__" = pure none := am_miss_of_fast (by decide +kernel)
theorem entry_ciloop : entryFor table "proto.contains_iter" = some Builtin.«proto.contains_iter» := entryFor_of_fast (by kernel_rfl)
theorem plain_ciloop : plainId "proto.contains_iter" = true := by decide +kernel
section
variable {P : Program} {w : World} {A : Around} {E : Value → Shared → Prop} {s : Shared}
theorem ci_loop {I : Addr} {fp : List Addr} {n : Nat} {Pv : Nat → Value → Prop} {St : Nat → Shared → Prop} {R : Result → Shared → Prop} {x : Value} {h0 : Heap} (e : Nat → Bool)
    (W : WalksS P w A.in1 I fp [I] (fun a b => b = a) n Pv St) (hI : h0.get? I = none) (he : ∀ (i : Nat) v s, Pv i v → (∀ b o, h0.get? b = some o → s.heap.get? b = some o) → SeqAt.EqAt A.in1 s v x (e i)) :
    ∀ (k i : Nat) (s : Shared), n - i = k → i ≤ n → St i s → (∀ b o, h0.get? b = some o → s.heap.get? b = some o) →
      (∀ s', Moved [I] (fun a b => b = a) s s' → R (.ok (.ret (.bool (((List.range n).drop i).any e)))) s') → codeAny (model P w) A (.builtin "proto.contains_iter" ⟨[.ref I, x], []⟩) R s := by
  have old : ∀ {s s' : Shared}, Moved [I] (fun a b => b = a) s s' → (∀ b o, h0.get? b = some o → s.heap.get? b = some o) → ∀ b o, h0.get? b = some o → s'.heap.get? b = some o := fun hm kp b o e =>
    hm.heap b o (fun hb => by rw [List.mem_singleton.mp hb, hI] at e; cases e) (kp b o e)
  intro k
  induction k with
  | zero =>
    intro i s hk hi hst kp hR
    have hin : i = n := by omega
    subst hin
    refine codeAny_builtin entry_ciloop ?_
    rw [Around.under_plainId plain_ciloop _]
    show wpAny _ A.in1 (pyNext (.ref I) >>= _) _ _ s
    refine wpAny_bind (W.done s _ _ hst fun s' hm => ?_)
    show wpAny _ A.in1 (rule _ >>= fun _ => ret (Value.bool false)) _ _ s'
    have h := hR s' hm
    rw [List.drop_of_length_le (by simp)] at h
    exact wpAny_bind (wpAny_rule (wpAny_pure h))
  | succ k ih =>
    intro i s hk hi hst kp hR
    have hlt : i < n := by omega
    have hd : (List.range n).drop i = i :: (List.range n).drop (i + 1) := by
      rw [List.drop_eq_getElem_cons (by simpa using hlt)]; simp
    rw [hd] at hR
    refine codeAny_builtin entry_ciloop ?_
    rw [Around.under_plainId plain_ciloop _]
    show wpAny _ A.in1 (pyNext (.ref I) >>= _) _ _ s
    refine wpAny_bind (W.item i s _ _ hlt hst fun v s' hP hst' hm => ?_)
    show wpAny _ A.in1 (eqBool v x >>= _) _ _ s'
    refine wpAny_bind (he i v s' hP (old hm kp) P w _ _ ?_)
    cases q : e i with
    | true =>
      have h := hR s' hm
      rw [List.any_cons, q, Bool.true_or] at h
      show wpAny _ A.in1 (rule _ >>= fun _ => ret (Value.bool true)) _ _ s'
      exact wpAny_bind (wpAny_rule (wpAny_pure h))
    | false =>
      show wpAny _ A.in1 (again (.builtin "proto.contains_iter" ⟨[.ref I, x], []⟩)) _ _ s'
      refine wpAny_pure ⟨plainId_quiet plain_ciloop _, ih (i + 1) s' (by omega) hlt hst' (old hm kp) fun s'' hm'' => ?_⟩
      have h := hR s'' (Moved.trans W.gtrans hm hm'')
      rw [List.any_cons, q, Bool.false_or] at h
      exact h
theorem contains_values {knd : KeyKind P w Key} {v d : Addr} {kvs : List (Key × Value)} {ep : Nat} {x : Value} {Q : Bool → Shared → Prop} (e : Nat → Bool) (hh : A.handled = none) (hv : s.heap.IsValuesView v d) (hm : s.heap.DictAt knd d kvs ep)
    (he : ∀ (i : Nat) k y s', kvs[i]? = some (k, y) → (∀ b o, s.heap.get? b = some o → s'.heap.get? b = some o) → SeqAt.EqAt A.in1 s' y x (e i))
    (h : ∀ h' tk, (∀ b o, s.heap.get? b = some o → h'.get? b = some o) → Q ((List.range kvs.length).any e) { s with heap := h', toks := tk }) : wpAny (model P w) A (contains (.ref v) x) Q E s := by
  have hT : s.TypeIs (.ref v) "dict_values" := hv.typeIs
  unfold contains
  refine wpAny_holding ?_
  rw [stdlibNamesSay?_ref]
  refine wpAny_bind (wpAny_specialOf hT vals_no_contains ?_)
  simp only [beq_iff_eq, reduceCtorEq, if_false]
  refine wpAny_bind (wpAny_callSpecialUnlessNone?_none hT vals_no_contains ?_)
  dsimp only
  refine wpAny_bind (wpAny_rule ?_)
  refine wpAny_bind (wpAny_tryCatch (wpAny_pyIter_values hv hm ?_))
  have hI : s.heap.get? s.heap.objs.size = none := by
    cases q : s.heap.get? s.heap.objs.size with
    | none => rfl
    | some o => exact absurd (Heap.lt_size q) (Nat.lt_irrefl _)
  have hdl : d < s.heap.objs.size := by obtain ⟨o, _, ho, _⟩ := hm; exact Heap.lt_size ho
  refine wpAny_bind (wpAny_runValue ?_)
  have W := (Walks.dictValues (knd := knd) (prog := P) (w := w) (A := A.in1) (by simp [hh]) s.heap.objs.size d (Nat.ne_of_lt hdl) kvs ep).toS
  refine ci_loop (A := A) (h0 := s.heap) e W hI (fun i v s' hP kp => ?_) (kvs.length - 0) 0 _ (by omega) (Nat.zero_le _) ?st ?kp fun s' hmv => ?_
  case st => exact ⟨⟨_, Heap.get?_push_size _ rfl, rfl, rfl⟩, hm.push _⟩
  case kp => exact fun b o e => Heap.get?_push_of_some _ e
  · obtain ⟨k, hk⟩ := hP
    exact he i k v s' hk kp
  · obtain ⟨h', g2, d', tk', os'⟩ := s'
    have eg : g2 = s.gens := hmv.gens
    have ed : d' = s.drawn := hmv.drawn
    have eo : os' = s.os := hmv.os
    subst eg; subst ed; subst eo
    refine wpAny_pure ?_
    rw [List.drop_zero]
    exact h h' tk' fun b o e => hmv.heap b o (fun hb => by rw [List.mem_singleton.mp hb, hI] at e; cases e) (Heap.get?_push_of_some _ e)
end
section
variable {X : Cx}
def valsO (p d : Addr) : HO := .ext fun h => h.IsValuesView p d
theorem valsO_ok {P : Program} {w : World} {H : Hp} {h : Heap} {p d : Addr} (e : h.IsValuesView p d) : ObjOk P w H h p (valsO p d) := ⟨e, let ⟨o, ho, _⟩ := e; ⟨o, ho⟩, fun h1 h2 ⟨o, ho, r⟩ k => ⟨o, k _ ho, r⟩⟩
/-- e.values(), the view -/
def tVals (t : TE) : TE := fun σ H Q => t σ H fun x H1 => ∃ d kvs, x = .ref d ∧ H1 d = some (.dK kvs) ∧ ∀ p, H1 p = none → Q (.ref p) (upd H1 p (valsO p d))
theorem pe_vals {e : Expr} {td : TE} {apos cpos : Pos} (he : PE X e td) (hbase : attributeBase e "values" X.env (eval e X.env) = eval e X.env := by rfl) (hline : (apos.endLine == cpos.line) = true := by rfl) : PE X (.Call (.Attribute e "values" apos) [] [] cpos) (tVals td) := by
  refine ⟨fun pins s σ H Q I h => ?_⟩
  refine wpAny_Call_method (T := "dict") (id := "dict.values") hbase rfl hline F.plainAttrs_dict F.slot_dict_values F.type_dict_values (thn (he.run pins s σ H _ I h) fun u s1 ⟨x, H1, I1, rx, d, kvs, ex, hd, q⟩ => ?_)
  subst ex
  obtain rfl : u = Value.ref d := rx
  obtain ⟨z, hs, vs, kv, hm⟩ := dk_of I1.hok hd
  refine ⟨hm.typeIs, hm.mapOf.noDict, ?_⟩
  have fin : EP X pins σ Q (.ref s1.heap.objs.size) { s1 with heap := s1.heap.push { cls := .type "dict_values", data := .fields #[.ref d] } } :=
    ⟨.ref s1.heap.objs.size, _, I1.laid (t' := s1.toks) (fun b o q => Heap.get?_push_of_some _ q) (Nat.le_refl _) (valsO_ok ⟨_, Heap.get?_push_size _ rfl, rfl, rfl⟩), rfl, q _ (I1.hok.fresh (Nat.le_refl _))⟩
  show wpAny _ _ (callWith cpos (.builtin "dict.values") [.ref d] [] []) _ X.xe s1
  exact method_meetsIn F.slot_dict_values F.entry_dict_values rfl (PySem.evalArgs_none ⟨rfl, hm.typeIs, F.args_dict_values_1 _, _, meets_dict_values (mixKind X.prog X.w) d hs, ⟨vs, hm⟩, fin⟩)
def rNinVals (K : PySem.W.Frag) : R2 := fun x y H Q => ∃ (dx : PyData) (p d : Addr) (ws : List (Key × V)) (dys : List PyData), Dp K H x dx ∧ y = V.ref p ∧ H p = some (valsO p d) ∧ H d = some (.dK ws) ∧ DpAll K H (ws.map (·.2)) dys ∧ dx.plain = true ∧ PyData.plainAll dys = true ∧ dx.depth ≤ 60 ∧
  Q (.bl (!(dys.any fun z => PyData.eqv z dx))) H
theorem or_ninVals (hc : X.calm = true) (hu : X.A.units + 64 < cLine) : OpR X (compareOp .NotIn) (rNinVals X.K) := by
  intro pins s σ H x y v u Q I rx ry h
  obtain ⟨dx, p, d, ws, dys, hx, rfl, hp, hd, hy, px, py, hdx, q⟩ := h
  cases ry
  obtain ⟨z, hs, vs, kv, hm⟩ := dk_of I.hok hd
  obtain ⟨ep, hat⟩ := hm.dictAt
  obtain ⟨as, r1⟩ := Dp.reads I dx x v hx rx
  have hv : s.heap.IsValuesView p d := (I.hok p _ hp).1
  have hvals : Vals (ws.map (·.2)) (vs.map (·.2)) := by
    have : ∀ {ws : List (Key × V)} {vs : List (Key × Value)}, KV ws vs → Vals (ws.map (·.2)) (vs.map (·.2)) := by
      intro ws vs r
      unfold KV at r
      induction r with
      | nil => exact .nil
      | cons h t ih => exact .cons h.2 ih
    exact this kv
  obtain ⟨bs, r2⟩ := Dp.readsAll I dys _ _ hy hvals
  have hlen : vs.length = dys.length := by
    have := SeqAt.ReadsAll.length dys _ bs r2
    rw [List.length_map] at this; exact this
  show wpAny _ _ (do return Value.bool (!(← contains (.ref p) v))) _ _ s
  refine wpAny_bind (contains_values (knd := mixKind X.prog X.w) (fun i => PyData.eqv (dys.getD i .none) dx) (I.ok.hd hc) hv hat (fun i k y s' hk kp => ?_) fun h' tk kp => ?_)
  · have hi : i < dys.length := by rw [← hlen]; exact (List.getElem?_eq_some_iff.mp hk).1
    have hm' : ∀ (xs : List PyData) (us : List Value) (as : List Addr), ReadsAll s.heap us xs as → PyData.plainAll xs = true → ∀ i u, us[i]? = some u → ∃ as, Reads s.heap u (xs.getD i .none) as ∧ (xs.getD i .none).plain = true := by
      intro xs
      induction xs with
      | nil => intro us as r _ i u e; cases r; simp at e
      | cons x xs ih =>
        intro us as r pl i u e
        cases r with
        | cons h1 h2 =>
          rw [PyData.plainAll, Bool.and_eq_true] at pl
          cases i with
          | zero => simp at e; subst e; exact ⟨_, h1, pl.1⟩
          | succ i => exact ih _ _ h2 pl.2 i u (by simpa using e)
    obtain ⟨cs, r3, p3⟩ := hm' dys _ bs r2 py i y (by rw [List.getElem?_map, hk]; rfl)
    refine PySem.SeqAt.eqAt_plain _ dx _ s' y v cs as (PyProof.Rows.Reads.keeps kp r3) (PyProof.Rows.Reads.keeps kp r1) p3 px ?_
    have e2 : X.A.in1.units = X.A.units + 1 := rfl
    rw [e2]
    have := Nat.min_le_right (dys.getD i .none).depth dx.depth
    omega
  · have e : (List.range vs.length).any (fun i => PyData.eqv (dys.getD i .none) dx) = dys.any fun z => PyData.eqv z dx := by
      rw [hlen]
      have : ∀ l : List PyData, (List.range l.length).any (fun i => PyData.eqv (l.getD i .none) dx) = l.any fun z => PyData.eqv z dx := by
        intro l
        induction l with
        | nil => rfl
        | cons z l ih => rw [List.length_cons, List.range_succ_eq_map, List.any_cons, List.any_cons, List.any_map, ← ih]; rfl
      exact this dys
    rw [e]
    exact wpAny_pure ⟨.bl _, H, I.kept kp, rfl, q⟩
end
section
variable {lk : List Addr} {X : Cx} {a b c e o : Expr} {es : List Expr} {ds : Ds} {cs cs0 cs1 cs2 cs3 : Cs} {x y z : D} {xs ys zs : List D} {pos p2 apos cpos : Pos} {P : D → Cs → Prop}
theorem RepK.vals {S : Hp} : ∀ {kvs : List (Int × D)} {ws : List (Key × V)}, RepK S kvs ws → Reps S (kvs.map (·.2)) (ws.map (·.2))
  | [], ws, r => by rw [RepK] at r; subst r; exact .nil
  | (k, x) :: kvs, ws, r => by
    rw [RepK] at r
    obtain ⟨v, us, rfl, r1, r2⟩ := r
    exact .cons r1 (RepK.vals r2)
theorem ev_ninVals {d : Addr} {kvs : List (Int × D)} {t : Bool} (i : Nat) (hu : X.A.units + 64 < cLine) (ha : EvM lk X a ds cs x cs1) (ho : EvM lk X o ds cs1 (.ptr d) cs2) (hi : cs2[i]? = some (d, .dic kvs)) (hx : plain x = true) (hy : plains (kvs.map (·.2)) = true) (hd : (toPy x).depth ≤ 60) (ht : t = true ↔ x ∈ kvs.map (·.2))
    (hc : X.calm = true := by rfl) (hbase : attributeBase o "values" X.env (eval o X.env) = eval o X.env := by rfl) (hline : (apos.endLine == cpos.line) = true := by rfl)
    (hm : behindInMarks .NotIn (.Call (.Attribute o "values" apos) [] [] cpos) = false := by first | exact nomark _ | rfl) :
    EvM lk X (.Compare a [.NotIn] [.Call (.Attribute o "values" apos) [] [] cpos] pos) ds cs (.bl (!t)) cs2 := fun σ S H O E Q q =>
  run_e (pe_cmpR (or_ninVals hc hu) pe_w (pe_vals pe_w hbase hline) hm) (ha σ S H O E _ fun v S1 H1 O1 s1 r1 => ho σ S1 H1 O1 (E.mono s1.ext) _ fun w S2 H2 O2 s2 r2 => by
    obtain ⟨ws, e1, rk⟩ := O2.at_ hi
    rw [rep_ptr.mp r2]
    refine ⟨d, ws, rfl, e1, fun p hp => ?_⟩
    have hS := O2.lies.ne hp
    have O3 := O2.alloc (o := valsO p d) hp
    have rk3 := rk.mono (Ext.new (o := valsO p d) hS)
    have hdp : d ≠ p := fun z => by rw [z, hp] at e1; cases e1
    refine ⟨toPy x, p, d, ws, toPys (kvs.map (·.2)), plain_dp O3.lies hx (r1.mono (s2.ext.trans (Ext.new hS))), rfl, upd_same, by rw [upd_ne hdp]; exact e1, plain_dps O3.lies hy rk3.vals, PyData.plain_of_canLay0 _ (plain_can x hx), plainAll_toPys hy, hd, ?_⟩
    rw [bool_of (toPys_any hx hy) ht]
    exact q _ _ _ O3 ((s1.trans s2).trans (.alloc hS hp)) (rep_bl.mpr rfl))
end
end Af
set_option Elab.async false
set_option linter.all false
set_option maxRecDepth 100000
set_option maxHeartbeats 2000000
/-! ### dict(enumerate(t)) of a tuple -/
namespace Af
open PySem L2 PySem.Spec PyProof.Rows

section
variable {prog : Program} {w : World} {A : Around} {E : Value → Shared → Prop} {s : Shared}
theorem enumT_next_held {e it l T : Addr} {i : Nat} {items : Array Value} {x old : Value} {f : Bool} {oT : Obj} {Q : Value → Shared → Prop}
    (he : IsEnumHeld s.heap e it i old T f) (hT : s.heap.get? T = some oT) (hTe : T ≠ e) (hTi : T ≠ it) (hit : s.heap.IsTupleIter it l i) (hl : s.heap.IsTuple l items) (hx : items[i]? = some x) (hne : e ≠ it)
    (hQ : ∀ h' tk, IsEnumHeld h' e it ((i : Int) + 1) old T true → h'.IsTupleIter it l (i + 1) →
      h'.get? s.heap.objs.size = some { cls := .type "tuple", data := .seq #[.int i s.toks, x] } → (∀ b o, b ≠ e → b ≠ it → s.heap.get? b = some o → h'.get? b = some o) → Q (.ref s.heap.objs.size) { s with heap := h', toks := tk }) :
    wpAny (model prog w) A (Builtin.«enumerate.__next__» ⟨[.ref e], []⟩) (fun fin s' => ∃ v, fin = .done (.ret v) ∧ Q v s') E s := by
  obtain ⟨hp, g, d, tk, os⟩ := s
  show wpAny _ _ (field (.ref e) 2 >>= _) _ _ _
  refine wpAny_bind (wpAny_field he rfl (x := .ref it) rfl ?_)
  refine wpAny_bind (wpAny_nextOf_tuple_item hit hl hx fun h1 hit1 hs1 => ?_)
  replace hs1 : Heap.SameBut it hp h1 := hs1
  have he1 : IsEnumHeld h1 e it i old T f := (hs1.2 e hne).trans he
  show wpAny _ _ (field (.ref e) 3 >>= _) _ _ ⟨h1, g, d, tk, os⟩
  refine wpAny_bind (wpAny_field he1 rfl (x := rawInt i) rfl ?_)
  show wpAny _ _ (field (.ref e) 4 >>= _) _ _ ⟨h1, g, d, tk, os⟩
  refine wpAny_bind (wpAny_field he1 rfl (x := .none) rfl ?_)
  show wpAny _ _ (mkInt i >>= _) _ _ ⟨h1, g, d, tk, os⟩
  refine wpAny_bind (wpAny_mkInt ?_)
  show wpAny _ _ (setField (.ref e) 3 (rawInt ((i : Int) + 1)) >>= _) _ _ ⟨h1, g, d, tk + 1, os⟩
  refine wpAny_bind (wpAny_setField_rec he1 (by simp) fun h2 he2 hs2 => ?_)
  replace hs2 : Heap.SameBut e h1 h2 := hs2
  replace he2 : IsEnumHeld h2 e it ((i : Int) + 1) old T f := he2
  show wpAny _ _ (setField (.ref e) 4 .none >>= _) _ _ ⟨h2, g, d, tk + 1, os⟩
  refine wpAny_bind (wpAny_setField_rec he2 (by simp) fun h3 he3 hs3 => ?_)
  replace hs3 : Heap.SameBut e h2 h3 := hs3
  replace he3 : IsEnumHeld h3 e it ((i : Int) + 1) old T f := he3
  show wpAny _ _ (newTuple [.int i tk, x] >>= _) _ _ ⟨h3, g, d, tk + 1, os⟩
  refine wpAny_bind (wpAny_newTuple ?_)
  have hsz : h3.objs.size = hp.objs.size := by rw [hs3.1, hs2.1, hs1.1]
  have hel : e < hp.objs.size := Heap.lt_size he
  have ht : (h3.push { cls := .type "tuple", data := .seq #[.int i tk, x] }).get? hp.objs.size = some { cls := .type "tuple", data := .seq #[.int i tk, x] } := by rw [← hsz]; exact Heap.get?_push_size _ rfl
  have hk4 : ∀ b o, b ≠ e → b ≠ it → hp.get? b = some o → (h3.push { cls := .type "tuple", data := .seq #[.int i tk, x] }).get? b = some o := fun b o hbe hbi hb =>
    Heap.get?_push_of_some _ (hs3.extBut b o hbe (hs2.extBut b o hbe (hs1.extBut b o hbi hb)))
  have hit4 : (h3.push { cls := .type "tuple", data := .seq #[.int i tk, x] }).IsTupleIter it l (i + 1) :=
    hit1.at fun o q => Heap.get?_push_of_some _ ((hs3.extBut it o (Ne.symm hne)) (hs2.extBut it o (Ne.symm hne) q))
  have he4 : IsEnumHeld (h3.push { cls := .type "tuple", data := .seq #[.int i tk, x] }) e it ((i : Int) + 1) old T f := Heap.get?_push_of_some _ he3
  show wpAny _ _ (Builtin.SmallTypes.ownedTupleIsFree (.ref e) >>= _) _ _ ⟨h3.push { cls := .type "tuple", data := .seq #[.int i tk, x] }, g, d, tk + 1, os⟩
  rw [hsz]
  refine wpAny_bind (wpAny_tupleHeld_enum (s := ⟨h3.push { cls := .type "tuple", data := .seq #[.int i tk, x] }, g, d, tk + 1, os⟩) he4 (hk4 T oT hTe hTi hT) fun h5 he5 hs5 => ?_)
  replace hs5 : Heap.SameBut e (h3.push { cls := .type "tuple", data := .seq #[.int i tk, x] }) h5 := hs5
  simp only [Bool.false_eq_true, if_false]
  exact wpAny_pure ⟨_, rfl, hQ h5 _ he5 (hit4.at fun o q => hs5.extBut it o (Ne.symm hne) q) (hs5.extBut _ _ (Nat.ne_of_gt hel) ht) fun b o hbe hbi hb => hs5.extBut b o hbe (hk4 b o hbe hbi hb)⟩
theorem enumT_item_held {e it l T : Addr} {i : Nat} {items : Array Value} {x old : Value} {f : Bool} {oT : Obj} {Q : Option Value → Shared → Prop}
    (he : IsEnumHeld s.heap e it i old T f) (hT : s.heap.get? T = some oT) (hTe : T ≠ e) (hTi : T ≠ it) (hit : s.heap.IsTupleIter it l i) (hl : s.heap.IsTuple l items) (hx : items[i]? = some x) (hne : e ≠ it)
    (hQ : ∀ h' tk, IsEnumHeld h' e it ((i : Int) + 1) old T true → h'.IsTupleIter it l (i + 1) →
      h'.get? s.heap.objs.size = some { cls := .type "tuple", data := .seq #[.int i s.toks, x] } → (∀ b o, b ≠ e → b ≠ it → s.heap.get? b = some o → h'.get? b = some o) → Q (some (.ref s.heap.objs.size)) { s with heap := h', toks := tk }) :
    wpAny (model prog w) A (pyNext (.ref e)) Q E s := by
  have hTy : s.TypeIs (.ref e) "enumerate" := ⟨_, he, rfl⟩
  unfold pyNext
  exact wpAny_bind (wpAny_attempt (wpAny_callSpecial?_slot (name := Str.ofString "__next__") hTy F.slot_enumerate_next
    (wpAny_call_entry F.slot_enumerate_next hTy F.entry_enumerate_next
      (enumT_next_held he hT hTe hTi hit hl hx hne fun h' tk a1 a2 a3 a5 => wpAny_pure (hQ h' tk a1 a2 a3 a5)) (F.args_enumerate_next_1 _))))
theorem enumT_end_held {e it l T : Addr} {i : Nat} {items : Array Value} {old : Value} {f : Bool} {Q : Option Value → Shared → Prop} (hh : A.handled = none)
    (he : IsEnumHeld s.heap e it i old T f) (hit : s.heap.IsTupleIter it l i) (hl : s.heap.IsTuple l items) (hx : items[i]? = none)
    (hQ : ∀ h', Heap.ExtBut it s.heap h' → Q none { s with heap := h' }) : wpAny (model prog w) A (pyNext (.ref e)) Q E s := by
  have hTy : s.TypeIs (.ref e) "enumerate" := ⟨_, he, rfl⟩
  unfold pyNext
  refine wpAny_bind (wpAny_attempt (wpAny_callSpecial?_slot (name := Str.ofString "__next__") hTy F.slot_enumerate_next
    (wpAny_call_entry F.slot_enumerate_next hTy F.entry_enumerate_next ?_ (F.args_enumerate_next_1 _))))
  show wpAny _ _ (field (.ref e) 2 >>= _) _ _ _
  refine wpAny_bind (wpAny_field he rfl (x := .ref it) rfl ?_)
  refine wpAny_bind (wpAny_nextOf_tuple_end hh hit hl hx fun h' x he' hx' => ?_)
  obtain ⟨o, ho, hc⟩ := hx'
  refine wpAny_bind (wpAny_isInstance (T := "StopIteration") (b := true) ⟨o, ho, hc⟩ isSubtype_stop ?_)
  exact wpAny_pure (hQ _ he')
end
section
variable {prog : Program} {w : World}
theorem pairs_enumT (e it l : Addr) (hei : e ≠ it) (hle : l ≠ e) (hli : l ≠ it) (items : Array Value) :
    PairArg prog w "enumerate" e [e, it, l] [e, it] items.size (fun i k v => (∃ t, k = .int i t) ∧ items[i]? = some v)
      (fun h => (∃ old, IsEnum h e it 0 old) ∧ h.IsTupleIter it l 0 ∧ h.IsTuple l items) where
  type := fun s ok => let ⟨⟨_, he⟩, _⟩ := ok; ⟨_, he, rfl⟩
  notDict := by decide
  keep := fun h h' ok hk => by
    obtain ⟨⟨old, he⟩, hit, o, ho, r⟩ := ok
    exact ⟨⟨old, hk _ _ he⟩, hit.at fun o x => hk _ o x, o, hk _ _ ho, r⟩
  there := fun h ok b hb => by
    obtain ⟨⟨old, he⟩, ⟨o1, h1, _⟩, ⟨o2, h2, _⟩⟩ := ok
    simp only [List.mem_cons, List.not_mem_nil, or_false] at hb
    rcases hb with rfl | rfl | rfl
    all_goals first | exact ⟨_, he⟩ | exact ⟨_, h1⟩ | exact ⟨_, h2⟩
  sub := fun b hb => by simp at hb ⊢; rcases hb with rfl | rfl <;> simp
  noKeys := fun A s Q E hA ok h => let ⟨⟨_, he⟩, _⟩ := ok; getAttrOr_miss_enumerate he rfl rfl rfl enumerate_no_keys (by decide +kernel) hA h
  iter := fun A s d Q E hA ok hd hdf h => by
    obtain ⟨⟨old, he⟩, hit, hl⟩ := ok
    simp only [List.mem_cons, List.not_mem_nil, or_false, not_or] at hdf
    obtain ⟨de, dit, dl⟩ := hdf
    have tupAt : ∀ {h h' : Heap}, h.IsTuple l items → (∀ o, h.get? l = some o → h'.get? l = some o) → h'.IsTuple l items := fun ⟨o, ho, r⟩ k => ⟨o, k _ ho, r⟩
    refine wpAny_pyIter_enum he (h e [e, it] (fun i h => h.IsTupleIter it l i ∧ h.IsTuple l items ∧ ((∃ old, IsEnum h e it i old) ∨ ∃ old T f oT, IsEnumHeld h e it i old T f ∧ h.get? T = some oT ∧ T ≠ e ∧ T ≠ it ∧ T ≠ d)) s.heap s.toks ?_
      ⟨hit, hl, .inl ⟨old, he⟩⟩ (fun _ _ e => e) fun b hb => .inl hb)
    exact {
      off := fun hm => by
        simp only [List.mem_cons, List.not_mem_nil, or_false] at hm
        rcases hm with x | x
        · exact de x
        · exact dit x
      frame := fun i h1 h2 st hk => by
        obtain ⟨hit, hl, he⟩ := st
        refine ⟨hit.at fun o x => hk _ o (Ne.symm dit) x, tupAt hl fun o x => hk _ o (Ne.symm dl) x, ?_⟩
        rcases he with ⟨old, he⟩ | ⟨old, T, f, oT, he, hT, r1, r2, r3⟩
        · exact .inl ⟨old, hk _ _ (Ne.symm de) he⟩
        · exact .inr ⟨old, T, f, oT, hk _ _ (Ne.symm de) he, hk _ _ r3 hT, r1, r2, r3⟩
      item := fun i s1 Q1 E1 hi st hds hQ => by
        obtain ⟨hit, hl, he⟩ := st
        have ex := Array.getElem?_eq_getElem hi
        have ec : ((i + 1 : Nat) : Int) = (i : Int) + 1 := by omega
        have nit : s1.heap.objs.size ≠ it := let ⟨_, x, _⟩ := hit; Nat.ne_of_gt (Heap.lt_size x)
        rcases he with ⟨old, he⟩ | ⟨old, T, f, oT, he, hT, r1, r2, r3⟩
        · refine wpAny_pyNext_enum_itemD (Draws.tuple (A := A.in1) (by simpa using hA) it l hli items) he ⟨hit, hl⟩ hi hei (by simp [hei, Ne.symm hle]) fun y h' tk hy ho hst hT hsz hk => ?_
          have hy' : items[i]? = some y := hy
          exact hQ s1.heap.objs.size _ _ h' _ ⟨⟨_, rfl⟩, hy'⟩ (.inl ⟨_, hT, rfl, _, rfl⟩)
            ⟨hst.1, tupAt hl fun o x => hk l o hle hli x, .inr ⟨_, s1.heap.objs.size, false, _, (by rw [ec]; exact ho), hT, Nat.ne_of_gt (Heap.lt_size he), nit, Nat.ne_of_gt hds⟩⟩
            fun b o hb x => hk b o (fun y => hb (by simp [y])) (fun y => hb (by simp [y])) x
        · refine enumT_item_held he hT r1 r2 hit hl ex hei fun h' tk ho hit' hT' hk => ?_
          exact hQ s1.heap.objs.size _ _ h' _ ⟨⟨_, rfl⟩, ex⟩ (.inl ⟨_, hT', rfl, _, rfl⟩)
            ⟨hit', tupAt hl fun o x => hk l o hle hli x, .inr ⟨old, T, true, oT, (by rw [ec]; exact ho), hk _ _ r1 r2 hT, r1, r2, r3⟩⟩
            fun b o hb x => hk b o (fun y => hb (by simp [y])) (fun y => hb (by simp [y])) x
      done := fun s1 Q1 E1 st hQ => by
        obtain ⟨hit, hl, he⟩ := st
        have hx : items[items.size]? = none := Array.getElem?_eq_none (Nat.le_refl _)
        rcases he with ⟨old, he⟩ | ⟨old, T, f, oT, he, hT, r1, r2, r3⟩
        · exact enumTup_end hA he hit hl hx fun h' hk => hQ h' s1.toks fun b o hb x => hk b o (fun y => hb (by simp [y])) x
        · exact enumT_end_held hA he hit hl hx fun h' hk => hQ h' s1.toks fun b o hb x => hk b o (fun y => hb (by simp [y])) x }
end
section
variable {X : Cx}
def enumK (xs : List V) : List (Key × V) := xs.zipIdx.map fun p => (Sum.inl ((p.2 : Nat) : Int), p.1)
theorem enumK_nodup (xs : List V) : ∀ n, (((xs.zipIdx n).map fun p => ((Sum.inl ((p.2 : Nat) : Int), p.1) : Key × V)).map (·.1)).Nodup := by
  induction xs with
  | nil => intro n; simp
  | cons x xs ih =>
    intro n
    rw [List.zipIdx_cons, List.map_cons, List.map_cons, List.nodup_cons]
    refine ⟨fun h => ?_, ih (n + 1)⟩
    rw [List.map_map] at h
    obtain ⟨⟨y, j⟩, hy, e⟩ := List.mem_map.mp h
    have := List.mem_zipIdx hy
    have e' : ((j : Nat) : Int) = ((n : Nat) : Int) := by
      have := congrArg (fun z : Key => match z with | .inl i => i | .inr _ => 0) e
      exact this
    omega
theorem enumK_rep : ∀ (ys : List V) (us : List Value) (n : Nat), Vals ys us → KV ((ys.zipIdx n).map fun p => ((Sum.inl ((p.2 : Nat) : Int), p.1) : Key × V)) ((us.zipIdx n).map fun p => ((Sum.inl ((p.2 : Nat) : Int), p.1) : Key × Value))
  | _, _, n, .nil => .nil
  | _, _, n, .cons r t => by
    rw [List.zipIdx_cons, List.zipIdx_cons, List.map_cons, List.map_cons]
    exact .cons ⟨rfl, r⟩ (enumK_rep _ _ (n + 1) t)
/-- dict(enumerate(t)) -/
def tDictEnum (K : PySem.W.Frag) (ta : TA) : TE := fun σ H Q => ta σ H fun vs H1 => ∃ (a : Addr) (ys : List V), vs = [.ref a] ∧ SqT K H1 a ys ∧ ∀ p, H1 p = none → Q (.ref p) (upd H1 p (.dK (enumK ys)))
theorem pe_dictEnum {e : Expr} {ta : TA} {p p2 q0 pos : Pos} (hc : X.calm = true) (hg : Gl X "dict") (hm : X.mg "dict" = none) (hge : Gl X "enumerate") (hme : X.mg "enumerate" = none) (ha : PA X [e] ta)
    (hs : starEach [e] X.env = [(false, eval e X.env)] := by rfl)
    (hs2 : starEach [.Call (.Name "enumerate" p2) [e] [] q0] X.env = (false, eval (.Call (.Name "enumerate" p2) [e] [] q0) X.env) :: starEach [] X.env := by rfl) :
    PE X (.Call (.Name "dict" p) [.Call (.Name "enumerate" p2) [e] [] q0] [] pos) (tDictEnum X.K ta) := by
  refine ⟨fun pins s σ H Q I h => ?_⟩
  refine Call_ (ld_blt I hg hm b_dict ?_)
  refine PyProof.Rows.callWith_type1 (PyProof.Rows.args_cons ?_ hs2) hs2 rfl
  refine Call_ (ld_blt I hge hme boot_enumerate (PyProof.Rows.callWith_type1 (thn (ha.run q0 pins s σ H _ I h) fun us s1 ⟨vs, H1, I1, r1, q1⟩ => ?_) hs rfl))
  obtain ⟨a, ys, ex, hq, q⟩ := q1
  subst ex
  cases r1 with
  | cons r rr =>
    cases rr
    cases r
    obtain ⟨its, rv, p', hz⟩ := I1.tuple hq
    have p2 : s1.heap.IsTuple a its.toArray := p'
    have hal : a < s1.heap.objs.size := by obtain ⟨_, z, _⟩ := p2; exact Heap.lt_size z
    refine enumTup_begins p2 fun h' he hit hsz hk => PyProof.Rows.args_nil ?_
    have I2 : Inv X pins σ H1 { s1 with heap := h' } := I1.kept (t' := s1.toks) hk
    have tup' : h'.IsTuple a its.toArray := by obtain ⟨o, ho, r⟩ := p2; exact ⟨o, hk _ _ ho, r⟩
    refine PySem.call_dict_pairs (s := { s1 with heap := h' }) (knd := mixKind X.prog X.w) (kvs := its.zipIdx.map fun p => ((Sum.inl ((p.2 : Nat) : Int), p.1) : Key × Value)) (pairs_enumT (s1.heap.objs.size + 1) s1.heap.objs.size a (Nat.succ_ne_self _) (Nat.ne_of_lt (Nat.lt_succ_of_lt hal)) (Nat.ne_of_lt hal) its.toArray) (I2.ok.hd hc) ⟨⟨.none, he⟩, hit, tup'⟩ ⟨by simp, fun i k v ⟨⟨t, ek⟩, ev⟩ => ?_⟩ (by simpa [rv.length] using hz) fun h2 tk hd hkp => ?_
    · subst ek
      have ev' : its[i]? = some v := by simpa using ev
      refine ⟨Sum.inl ((i : Nat) : Int), ?_, kV_is (P := X.prog) (w := X.w) (k := Sum.inl ((i : Nat) : Int)) ⟨t, rfl⟩⟩
      rw [List.getElem?_map, List.getElem?_zipIdx, ev']; simp
    · have nd : ((its.zipIdx.map fun p => ((Sum.inl ((p.2 : Nat) : Int), p.1) : Key × Value)).map (·.1)).Nodup := by
        have := enumK_nodup ys 0
        have e : (its.zipIdx.map fun p => ((Sum.inl ((p.2 : Nat) : Int), p.1) : Key × Value)).map (·.1) = ((ys.zipIdx 0).map fun p => ((Sum.inl ((p.2 : Nat) : Int), p.1) : Key × V)).map (·.1) := ((enumK_rep ys its 0 rv).keys).symm
        rw [e]; exact this
      rw [PySem.merged_nil_of_nodup _ nd] at hd
      have hme' : (h'.objs.size == sysModules) = false := beq_eq_false_iff_ne.mpr (Nat.ne_of_gt I2.big)
      have hn : H1 h'.objs.size = none := I2.hok.fresh (Nat.le_refl _)
      refine ⟨.ref h'.objs.size, upd H1 h'.objs.size (.dK (enumK ys)), ?_, rfl, q _ hn⟩
      have hlen : (enumK ys).length ≤ sizeLine := by unfold enumK; rw [List.length_map, List.length_zipIdx]; exact hz
      have kp1 : ∀ b o, s1.heap.get? b = some o → h2.get? b = some o := fun b o e => hkp b o (by
        have := Heap.lt_size e
        simp only [List.mem_cons, List.not_mem_nil, or_false, not_or]
        exact ⟨Nat.ne_of_lt (Nat.lt_succ_of_lt this), Nat.ne_of_lt this⟩) (hk b o e)
      exact I1.laid (t' := tk) kp1 (by omega) (show ObjOk X.prog X.w _ _ _ (.dK (enumK ys)) from ⟨hlen, hme', _, enumK_rep ys its 0 rv, hd⟩)
end
section
variable {lk : List Addr} {X : Cx} {a : Expr} {ds : Ds} {cs cs1 : Cs} {xs : List D} {pos p p2 q0 : Pos}
def enumKD (xs : List D) : List (Int × D) := xs.zipIdx.map fun p => ((p.2 : Nat), p.1)
theorem enumKD_rep {S : Hp} : ∀ (xs : List D) (vs : List V) (n : Nat), Reps S xs vs → RepK S ((xs.zipIdx n).map fun p => (((p.2 : Nat) : Int), p.1)) ((vs.zipIdx n).map fun p => ((Sum.inl ((p.2 : Nat) : Int), p.1) : Key × V))
  | [], vs, n, r => by rw [r.none]; exact .nil
  | x :: xs, vs, n, r => by
    obtain ⟨v, us, rfl, r1, r2⟩ := r.uncons
    rw [List.zipIdx_cons, List.zipIdx_cons, List.map_cons, List.map_cons]
    exact .cons r1 (enumKD_rep xs us (n + 1) r2)
theorem ev_dictEnum (ha : EvM lk X a ds cs (.tup xs) cs1) (hm : X.mg "dict" = none) (hme : X.mg "enumerate" = none) (hg : Gl X "dict" := by rfl) (hge : Gl X "enumerate" := by rfl) (hc : X.calm = true := by rfl)
    (hs : starEach [a] X.env = [(false, eval a X.env)] := by rfl)
    (hs2 : starEach [.Call (.Name "enumerate" p2) [a] [] q0] X.env = (false, eval (.Call (.Name "enumerate" p2) [a] [] q0) X.env) :: starEach [] X.env := by rfl) :
    EvM lk X (.Call (.Name "dict" p) [.Call (.Name "enumerate" p2) [a] [] q0] [] pos) ds cs (.dic (enumKD xs)) cs1 := fun σ S H O E Q q =>
  run_e (pe_dictEnum hc hg hm hge hme (pa_cons pe_w pa_nil hs) hs hs2) (ha σ S H O E _ fun v S1 H1 O1 s1 r1 => by
    obtain ⟨p, vs, rfl, e, r⟩ := rep_tup.mp r1
    exact ⟨p, vs, rfl, sqt O1.lies e, fun l hl => (q.step s1).new O1 hl (rep_dic.mpr ⟨l, _, rfl, upd_same, (enumKD_rep xs vs 0 r).mono (.new (O1.lies.ne hl))⟩)⟩)
end
end Af
set_option Elab.async false
set_option linter.all false
set_option maxRecDepth 100000
set_option maxHeartbeats 2000000
/-! ### the dict of the nodes met: keys that are pairs of tuples of ints -/
namespace Af
open PySem L2 PySem.Spec

abbrev Node := List Int × List Int
def keyN (n : Node) : NestedKey := .tup [.tup (n.1.map .num), .tup (n.2.map .num)]
def nodeD (n : Node) : D := .tup [.tup (dints n.1), .tup (dints n.2)]
theorem keyN_inj {n m : Node} : keyN n = keyN m ↔ n = m := by
  constructor
  · intro h
    have h1 : [NestedKey.tup (n.1.map .num), .tup (n.2.map .num)] = [.tup (m.1.map .num), .tup (m.2.map .num)] := by injection h
    injection h1 with a b
    injection b with b _
    injection a with a
    injection b with b
    have inj : ∀ x y : Int, NestedKey.num x = NestedKey.num y → x = y := fun x y e => by injection e
    exact Prod.ext ((List.map_inj_right inj).mp a) ((List.map_inj_right inj).mp b)
  · intro h; rw [h]
theorem depth_nums (ns : List Int) : NestedKey.depthAll (ns.map .num) = 0 := by
  induction ns with
  | nil => rfl
  | cons n ns ih => rw [List.map_cons, NestedKey.depthAll, ih, NestedKey.depth]; rfl
theorem depth_key (n : Node) : (keyN n).depth ≤ 8 := by
  unfold keyN
  simp only [NestedKey.depth, NestedKey.depthAll, depth_nums]
  decide
def entsN (L : List (Addr × Node)) : List (NestedKey × Addr × Value) := L.map fun p => (keyN p.2, p.1, .bool true)
def MetAt (P : Program) (w : World) (h : Heap) (d : Addr) (L : List (Addr × Node)) : Prop :=
  (d == sysModules) = false ∧ L.length ≤ sizeLine ∧ ((entsN L).map (·.1)).Nodup ∧ ∃ o es ep, h.get? d = some o ∧ o.ExactDict ∧ o.data = .dict es ep ∧ es.toList = (entsN L).map (entryOfKey (nestedKind P w))
def metO (P : Program) (w : World) (d : Addr) (L : List (Addr × Node)) : HO := .ext fun h => MetAt P w h d L
theorem metO_ok {P : Program} {w : World} {H : Hp} {h : Heap} {d : Addr} {L : List (Addr × Node)} (m : MetAt P w h d L) : ObjOk P w H h d (metO P w d L) :=
  ⟨m, let ⟨_, _, _, o, _, _, ho, _⟩ := m; ⟨o, ho⟩, fun h1 h2 ⟨a, b, c, o, es, ep, ho, r⟩ k => ⟨a, b, c, o, es, ep, k _ ho, r⟩⟩
def NodeH (K : PySem.W.Frag) (H : Hp) (a : Addr) (n : Node) : Prop := ∃ a1 a2, SqT K H a [.ref a1, .ref a2] ∧ SqT K H a1 (n.1.map V.int) ∧ SqT K H a2 (n.2.map V.int)
theorem nums_are {h : Heap} : ∀ {ns : List Int} {us : List Value}, Vals (ns.map V.int) us → NestedAll h (ns.map .num) us
  | [], _, .nil => .nil
  | n :: ns, _, .cons r t => by
    obtain ⟨tk, rfl⟩ := r
    exact .cons (.int n tk) (nums_are t)
section
variable {X : Cx} {pins : List (Addr × Obj)} {σ : L2.St} {H : Hp} {s : Shared}
theorem nodeAt {a : Addr} {n : Node} (I : Inv X pins σ H s) (h : NodeH X.K H a n) : (nestedKind X.prog X.w).is s.heap (keyN n) a := by
  obtain ⟨a1, a2, h0, h1, h2⟩ := h
  obtain ⟨i0, r0, ⟨o0, g0, c0, m0, d0⟩, _⟩ := I.tuple h0
  obtain ⟨i1, r1, ⟨o1, g1, c1, m1, d1⟩, _⟩ := I.tuple h1
  obtain ⟨i2, r2, ⟨o2, g2, c2, m2, d2⟩, _⟩ := I.tuple h2
  refine ⟨?_, depth_key n⟩
  cases r0 with
  | cons ra rest =>
    cases rest with
    | cons rb rest2 =>
      cases rest2
      cases ra
      cases rb
      exact .tup g0 c0 d0 (.cons (.tup g1 c1 d1 (by simpa using nums_are r1)) (.cons (.tup g2 c2 d2 (by simpa using nums_are r2)) .nil))
theorem dictMet {d : Addr} {L : List (Addr × Node)} (I : Inv X pins σ H s) (m : MetAt X.prog X.w s.heap d L) (hL : ∀ p ∈ L, NodeH X.K H p.1 p.2) : s.heap.DictOfH (nestedKind X.prog X.w) d (entsN L) := by
  obtain ⟨_, _, nd, o, es, ep, ho, hex, hd, he⟩ := m
  refine ⟨o, es, ep, ho, hex, hd, he, fun x hx => ?_, nd⟩
  obtain ⟨p, hp, rfl⟩ := List.mem_map.mp hx
  exact nodeAt I (hL p hp)
theorem atKey_mem (L : List (Addr × Node)) (n : Node) : (atKey (entsN L) (keyN n)).isSome = decide (n ∈ L.map (·.2)) := by
  rw [← any_pairsH]
  refine bool_of (P := n ∈ L.map (·.2)) ?_ (by simp)
  rw [List.any_eq_true]
  unfold pairsH entsN
  rw [List.map_map]
  constructor
  · rintro ⟨x, hx, e⟩
    obtain ⟨p, hp, rfl⟩ := List.mem_map.mp hx
    have : keyN p.2 = keyN n := of_decide_eq_true e
    exact List.mem_map.mpr ⟨p, hp, keyN_inj.mp this⟩
  · intro h
    obtain ⟨p, hp, e⟩ := List.mem_map.mp h
    exact ⟨_, List.mem_map.mpr ⟨p, hp, rfl⟩, decide_eq_true (by show keyN p.2 = keyN n; rw [e])⟩
end
section
variable {X : Cx}
def tDNewM (P : Program) (w : World) : TE := fun _ H Q => ∀ p, H p = none → Q (.ref p) (upd H p (metO P w p []))
theorem pe_dnewM {pos : Pos} : PE X (.Dict [] [] pos) (tDNewM X.prog X.w) := ⟨fun pins s σ H Q I h =>
  wpAny_Dict_empty ⟨.ref s.heap.objs.size, _, I.laid (a := s.heap.objs.size) (o := metO X.prog X.w s.heap.objs.size []) (t' := s.toks) (fun _ _ q => Heap.get?_push_of_some _ q) (Nat.le_refl _)
    (metO_ok ⟨beq_eq_false_iff_ne.mpr (Nat.ne_of_gt I.big), Nat.zero_le _, List.nodup_nil, _, #[], 0, Heap.get?_push_size _ rfl, ⟨rfl, rfl, rfl⟩, rfl, rfl⟩), rfl, h _ (I.hok.fresh (Nat.le_refl _))⟩⟩
def rMetNin (K : PySem.W.Frag) (P : Program) (w : World) : R2 := fun x y H Q => ∃ (a d : Addr) (n : Node) (L : List (Addr × Node)), x = .ref a ∧ y = .ref d ∧ H d = some (metO P w d L) ∧ NodeH K H a n ∧ (∀ p ∈ L, NodeH K H p.1 p.2) ∧ Q (.bl (!decide (n ∈ L.map (·.2)))) H
theorem or_metNin (hu : X.A.units + 64 < cLine) : OpR X (compareOp .NotIn) (rMetNin X.K X.prog X.w) := by
  intro pins s σ H x y v u Q I rx ry h
  obtain ⟨a, d, n, L, rfl, rfl, hd, ha, hL, q⟩ := h
  cases rx
  cases ry
  have m : MetAt X.prog X.w s.heap d L := (I.hok d _ hd).1
  refine PyProof.Rows.wpAny_notIn_heap (knd := nestedKind X.prog X.w) (k := keyN n) (by show X.A.in1.units + 8 < cLine; have : X.A.in1.units = X.A.units + 1 := rfl; omega) (nodeAt I ha) m.1 (dictMet I m hL) ?_
  rw [atKey_mem]
  exact ⟨.bl _, H, I.tok _, rfl, q⟩
def sMetPut (K : PySem.W.Frag) (P : Program) (w : World) (td ty tv : TE) : TS := fun D σ H => tv σ H fun v H1 => td σ H1 fun x H2 => ty σ H2 fun y H3 => ∃ (d a : Addr) (n : Node) (L : List (Addr × Node)), v = .bl true ∧ x = .ref d ∧ y = .ref a ∧ H3 d = some (metO P w d L) ∧ NodeH K H3 a n ∧ (∀ p ∈ L, NodeH K H3 p.1 p.2) ∧ n ∉ L.map (·.2) ∧ L.length < sizeLine ∧
  D.nx σ (upd H3 d (metO P w d (L ++ [(a, n)])))
theorem ps_metPut {o i value : Expr} {pos pos' : Pos} {td ty tv : TE} (hu : X.A.units + 64 < cLine) (ho : PE X o td) (hi : PE X i ty) (hv : PE X value tv) (hs : swapsWith value (some (.Subscript o i pos')) pos.line X.env = pure false) :
    PS X (.Assign [.Subscript o i pos'] value pos) (sMetPut X.K X.prog X.w td ty tv) := by
  refine ⟨fun pins s σ H D I h => ?_⟩
  refine wpAny_Assign_Subscript (thn (hv.run pins s σ H _ I h) fun r s1 ⟨v, H1, I1, rv, q1⟩ => thn (ho.run pins s1 σ H1 _ I1 q1) fun u s2 ⟨x, H2, I2, rx, q2⟩ => thn (hi.run pins s2 σ H2 _ I2 q2) fun iv s3 ⟨y, H3, I3, ry, d, a, n, L, ev, ex, ey, hd, ha, hL, hn, hz, q3⟩ => ?_) hs
  subst ev ex ey
  obtain rfl : u = Value.ref d := rx
  obtain rfl : iv = Value.ref a := ry
  obtain rfl : r = Value.bool true := rv
  have m : MetAt X.prog X.w s3.heap d L := (I3.hok d _ hd).1
  have hk : atKey (entsN L) (keyN n) = none := by
    have := atKey_mem L n
    rw [decide_eq_false hn] at this
    cases q : atKey (entsN L) (keyN n) with
    | none => rfl
    | some z => rw [q] at this; cases this
  refine wpAny_setItem_heap (knd := nestedKind X.prog X.w) (k := keyN n) (hsz := by unfold entsN; rw [List.length_map]; exact Nat.le_of_lt hz) (by show X.A.in1.units + 8 < cLine; have : X.A.in1.units = X.A.units + 1 := rfl; omega) (nodeAt I3 ha) (dictMet I3 m hL) fun h' dd hs => ?_
  rw [storedH_new hk] at dd
  obtain ⟨o, es, ep, ho, h2, h3, h4, _, h5⟩ := dd
  have e : entsN (L ++ [(a, n)]) = entsN L ++ [(keyN n, a, .bool true)] := by unfold entsN; rw [List.map_append]; rfl
  exact ⟨σ, _, d_write I3 (by rw [hd]; trivial) hs ⟨o, ho⟩ (metO_ok ⟨m.1, by rw [List.length_append]; exact hz, by rw [e]; exact h5, o, es, ep, ho, h2, h3, by rw [e]; exact h4⟩), q3⟩
/-! walking its keys -/
def exO (d : Addr) (ob : Obj) : HO := .ext fun h => h.get? d = some ob
theorem exO_ok {P : Program} {w : World} {H : Hp} {h : Heap} {d : Addr} {ob : Obj} (e : h.get? d = some ob) : ObjOk P w H h d (exO d ob) := ⟨e, ⟨ob, e⟩, fun h1 h2 p k => k _ p⟩
def ItM (d : Addr) (ob : Obj) (L : List (Addr × Node)) : It :=
  ⟨fun i H => H d = some (exO d ob) ∧ i < L.length, fun i H v H' => H' = H ∧ ∃ p, L[i]? = some p ∧ v = .ref p.1, fun i H => H d = some (exO d ob) ∧ L.length ≤ i⟩
theorem turn_met {P : Program} {w : World} {K : PySem.W.Frag} {tg : Expr} {d : Addr} {ob : Obj} {L : List (Addr × Node)} {es : Array DictEntry} {ep : Nat} (it : Addr) (hex : ob.ExactDict) (hod : ob.data = .dict es ep) (he : es.toList = (entsN L).map (entryOfKey (nestedKind P w))) :
    Turn P w K tg (ItM d ob L) [it] it (fun i h => h.IsKeyIter it d i es.size ep) where
  mem := by simp
  obj := fun i h st b hb => by
    have e : b = it := by simpa using hb
    subst e
    obtain ⟨o, e, c, dd⟩ := st
    exact ⟨o, e, fun v z => by rw [dd] at z; cases z⟩
  keep := fun i h h' st k => st.at fun o e => k it (by simp) o e
  item := by
    intro X hP hw hK hc i pins s σ H E I hf st hg
    subst hP hw hK
    obtain ⟨hd, hi⟩ := hg
    obtain ⟨f0, f1, f2, f3, f4, f5⟩ := hf it (by simp)
    have hraw : s.heap.DictRaw d es ep := ⟨ob, (I.hok d _ hd).1, hex, hod⟩
    have hsz : es.size = L.length := by
      have := congrArg List.length he
      unfold entsN at this
      simpa using this
    have hi' : i < es.size := by omega
    have hkey : es[i].key = .ref (L[i]).1 := by
      have e1 : es.toList[i]? = some es[i] := by rw [Array.getElem?_toList]; simp [hi']
      rw [he] at e1
      unfold entsN at e1
      rw [List.getElem?_map, List.getElem?_map, List.getElem?_eq_getElem hi] at e1
      have := Option.some.inj e1
      rw [← this]; rfl
    refine wpAny_pyNext_keys_item_raw st hraw hi' fun h' st' sb => ?_
    have I1 : Inv X pins σ H { s with heap := h' } := I.turned (t' := s.toks) (fun b ob hb e => (sb.2 b hb).trans e) f0 f1 f3 f4 f5
    obtain ⟨oi, e, c, dd⟩ := id st'
    rw [hkey]
    exact ⟨.ref (L[i]).1, rfl, go_of (s := { s with heap := h' }) e c dd (by decide) ⟨.ref (L[i]).1, H, I1, rfl, ⟨rfl, L[i], List.getElem?_eq_getElem hi, rfl⟩, st', fun b hb => (hf b hb).1⟩⟩
  done := by
    intro X hP hw hK hc i pins s σ H E I hf st hg
    subst hP hw hK
    obtain ⟨hd, hi⟩ := hg
    obtain ⟨f0, f1, f2, f3, f4, f5⟩ := hf it (by simp)
    have hraw : s.heap.DictRaw d es ep := ⟨ob, (I.hok d _ hd).1, hex, hod⟩
    have hsz : es.size = L.length := by
      have := congrArg List.length he
      unfold entsN at this
      simpa using this
    exact wpAny_pyNext_keys_end_raw (I.ok.hd hc) st hraw (by omega) fun h' eb => ⟨rfl, I.turned (t' := s.toks) (fun b ob hb e => eb b ob hb e) f0 f1 f3 f4 f5⟩
  self := fun A i s Q E st h => wpAny_pyIter_keyiter st h
def iMet (P : Program) (w : World) (te : TE) : TI := fun σ H R => te σ H fun x H1 => ∃ (d : Addr) (L : List (Addr × Node)), x = .ref d ∧ H1 d = some (metO P w d L) ∧ ∀ ob, R (ItM d ob L) (upd H1 d (exO d ob))
theorem pi_met {tg e : Expr} {te : TE} (he : PE X e te) : PI X tg e (iMet X.prog X.w te) := by
  refine ⟨fun pins s σ H R I h => ?_⟩
  refine thn (he.run pins s σ H _ I h) fun u s1 ⟨x, H1, I1, rx, d, L, ex, hd, q⟩ => ?_
  subst ex
  obtain rfl : u = Value.ref d := rx
  obtain ⟨hs, hlen, nd, o, es, ep, ho, hex, hod, hes⟩ := (show MetAt X.prog X.w s1.heap d L from (I1.hok d _ hd).1)
  have I2 : Inv X pins σ (upd H1 d (exO d o)) s1 := I1.write (x := d) (e := d) (t' := s1.toks) (by rw [hd]; trivial) (.inl rfl) (fun b q hb z => z) ⟨o, ho⟩ (exO_ok ho)
  refine wpAny_pyIter_dict_raw hs ⟨o, ho, hex, hod⟩ (pi_one (tk := s1.toks) I2 _ (turn_met _ hex hod hes) ⟨_, Heap.get?_push_size _ rfl, rfl, rfl⟩ (q o))
end
/-! the rules -/
def metP (P : Program) (w : World) (d : Addr) (ns : List Node) : Hp → HO → Prop := fun S o => ∃ L, o = metO P w d L ∧ L.map (·.2) = ns ∧ ∀ p ∈ L, Rep S (nodeD p.2) (.ref p.1)
section
variable {lk : List Addr} {X : Cx} {a b c e o : Expr} {es : List Expr} {ds : Ds} {cs cs0 cs1 cs2 cs3 : Cs} {x y z : D} {xs ys zs : List D} {pos p2 apos cpos : Pos} {P : D → Cs → Prop} {k : KE}
theorem metP_mono {P : Program} {w : World} {d : Addr} {L : List (Addr × Node)} {S : Hp} (h : ∀ p ∈ L, Rep S (nodeD p.2) (.ref p.1)) : ∀ S', Ext S S' → metP P w d (L.map (·.2)) S' (metO P w d L) := fun S' e => ⟨L, rfl, rfl, fun p hp => (h p hp).mono e⟩
theorem node_rep {S H : Hp} {K : PySem.W.Frag} (l : Lies lk S H) {n : Node} {v : V} (r : Rep S (nodeD n) v) : ∃ t, v = .ref t ∧ NodeH K H t n := by
  obtain ⟨t, vs, rfl, e, r2⟩ := rep_tup.mp r
  obtain ⟨v, w, rfl, ra, rb⟩ := r2.two
  obtain ⟨t1, us, rfl, e1, k1⟩ := rep_tup.mp ra
  obtain ⟨t2, ws, rfl, e2, k2⟩ := rep_tup.mp rb
  have := Reps.ints.mp k1; subst this
  have := Reps.ints.mp k2; subst this
  exact ⟨t, rfl, t1, t2, sqt l e, sqt l e1, sqt l e2⟩
theorem ep_dictMet : EvP lk X (.Dict [] [] pos) ds cs (fun y cs' => ∃ a, y = .ptr a ∧ cs' = cs ++ [(a, .gen (metP X.prog X.w a []))]) := fun σ S H O E Q q =>
  run_e pe_dnewM fun p hp => (q _ _ ⟨p, rfl, rfl⟩) _ S _ (O.allocC hp ⟨_, upd_same, fun S' _ => ⟨[], rfl, rfl, fun _ h => by cases h⟩⟩) (.allocC hp) (rep_ptr.mpr rfl)
theorem et_ninMet {d : Addr} {n : Node} {ns : List Node} (i : Nat) (hu : X.A.units + 64 < cLine) (ha : EvM lk X a ds cs (nodeD n) cs1) (hb : EvM lk X b ds cs1 (.ptr d) cs2) (hi : cs2[i]? = some (d, .gen (metP X.prog X.w d ns)))
    (hm : behindInMarks .NotIn b = false := by first | exact nomark _ | rfl) : EvT lk X (.Compare a [.NotIn] [b] pos) ds cs (!decide (n ∈ ns)) cs2 := fun σ S H O E Q q =>
  run_t (pt_cmpR (or_metNin hu) pe_w pe_w hm) (ha σ S H O E _ fun v S1 H1 O1 s1 r1 => hb σ S1 H1 O1 (E.mono s1.ext) _ fun w S2 H2 O2 s2 r2 => by
    obtain ⟨ob, e1, hg⟩ := O2.at_ hi
    obtain ⟨L, rfl, rfl, hL⟩ := hg S2 (.refl S2)
    obtain ⟨t, rfl, hn⟩ := node_rep (K := X.K) O2.lies (r1.mono s2.ext)
    rw [rep_ptr.mp r2]
    refine ⟨t, d, n, L, rfl, rfl, e1, hn, fun p hp => ?_, _, rfl, q S2 H2 O2 (s1.trans s2)⟩
    obtain ⟨t', e, h⟩ := node_rep (K := X.K) O2.lies (hL p hp)
    cases e
    exact h)
theorem s_metPut {d : Addr} {n : Node} {ns : List Node} (i : Nat) (hu : X.A.units + 64 < cLine) (he : EvM lk X e ds cs (.bl true) cs1) (ha : EvM lk X a ds cs1 (.ptr d) cs2) (hb : EvM lk X b ds cs2 (nodeD n) cs3) (hi : cs3[i]? = some (d, .gen (metP X.prog X.w d ns))) (hn : n ∉ ns) (hl : ns.length < 1000000)
    (h : k.nx ds (cs3.set i (d, .gen (metP X.prog X.w d (ns ++ [n]))))) (hs : swapsWith e (some (.Subscript a b p2)) pos.line X.env = pure false := by rfl) : S1 lk X (.Assign [.Subscript a b p2] e pos) ds cs k := fun σ S H O E D0 q =>
  run_s (ps_metPut hu pe_w pe_w pe_w hs) (he σ S H O E _ fun v S1 H1 O1 s1 r1 => ha σ S1 H1 O1 (E.mono s1.ext) _ fun w S2 H2 O2 s2 r2 => hb σ S2 H2 O2 (E.mono (s1.trans s2).ext) _ fun u S3 H3 O3 s3 r3 => by
    obtain ⟨ob, e1, hg⟩ := O3.at_ hi
    obtain ⟨L, rfl, rfl, hL⟩ := hg S3 (.refl S3)
    obtain ⟨t, rfl, hN⟩ := node_rep (K := X.K) O3.lies r3
    rw [rep_ptr.mp r2, rep_bl.mp r1]
    refine ⟨d, t, n, L, rfl, rfl, rfl, e1, hN, fun p hp => ?_, hn, by rw [List.length_map] at hl; exact szl hl, ?_⟩
    · obtain ⟨t', e, h⟩ := node_rep (K := X.K) O3.lies (hL p hp)
      cases e
      exact h
    · refine q.nx _ _ _ _ _ h (O3.write hi ⟨_, upd_same, ?_⟩) (E.mono ((s1.trans s2).trans s3).ext) (((s1.trans s2).trans s3).trans (.write hi))
      have em : (L ++ [(t, n)]).map (·.2) = L.map (·.2) ++ [n] := by simp
      rw [← em]
      refine metP_mono fun p hp => ?_
      rcases List.mem_append.mp hp with z | z
      · exact hL p z
      · rw [List.mem_singleton.mp z]; exact r3)
theorem ei_met {d : Addr} {ns : List Node} {tg : Expr} (i : Nat) (h : EvM lk X e ds cs (.ptr d) cs1) (hi : cs1[i]? = some (d, .gen (metP X.prog X.w d ns))) : EvI lk X tg e ds cs (ns.map nodeD) (cs1.eraseIdx i) (fun _ => True) := fun σ S H O E R q =>
  run_i (pi_met pe_w) (h σ S H O E _ fun v S1 H1 O1 s1 r1 => by
    obtain ⟨ob, e1, hg⟩ := O1.at_ hi
    obtain ⟨L, rfl, rfl, hL⟩ := hg S1 (.refl S1)
    rw [rep_ptr.mp r1]
    refine ⟨d, L, rfl, e1, fun ob => ?_⟩
    have O2 := O1.write hi (c' := .raw (exO d ob)) (o := exO d ob) upd_same
    have s2 := Stp.write (S := S1) (H := H1) (o := exO d ob) (c' := .raw (exO d ob)) hi
    have hi2 : (cs1.set i (d, CO.raw (exO d ob)))[i]? = some (d, .raw (exO d ob)) := by
      have := (List.getElem?_eq_some_iff.mp hi).1
      simp [this]
    have O3 := O2.freeze hi2 upd_same
    have s3 := Stp.freeze O2 (o := exO d ob) hi2
    have he : (cs1.set i (d, CO.raw (exO d ob))).eraseIdx i = cs1.eraseIdx i := by
      rw [List.eraseIdx_set_eq]
    rw [he] at O3 s3
    have st := (s1.trans s2).trans s3
    have hSd : upd S1 d (exO d ob) d = some (exO d ob) := upd_same
    have at_ : ∀ {S' H' cs'}, Stp (cs1.eraseIdx i) (upd S1 d (exO d ob)) (upd H1 d (exO d ob)) S' H' cs' → Own lk S' H' cs' → H' d = some (exO d ob) := fun x O => by
      rcases O.lies d _ (x.ext _ _ hSd) with z | ⟨_, ⟨_, z⟩, _⟩
      · exact z
      · cases z
    refine q _ _ _ O3 st ⟨fun S' H' cs' x O _ => ⟨at_ x O, by simp⟩, fun j S' H' cs' hj x O _ => ⟨at_ x O, by simpa using hj⟩, fun j y S' H' cs' v H'' hy x O _ g => ?_⟩
    obtain ⟨rfl, p, hp, rfl⟩ := g
    rw [List.map_map, List.getElem?_map, hp] at hy
    have := Option.some.inj hy
    subst this
    exact ⟨S', O, .refl, ((hL p (List.mem_of_getElem? hp)).mono (s2.trans s3).ext).mono x.ext⟩)
end
end Af
set_option Elab.async false
set_option linter.all false
set_option maxRecDepth 100000
set_option maxHeartbeats 2000000
/-! ### the last rules -/
namespace Af
open PySem L2

section
variable {lk : List Addr} {X : Cx} {a b c e o : Expr} {es : List Expr} {ss : List Stmt} {ds ds' : Ds} {cs cs0 cs1 cs2 cs3 : Cs} {x y z : D} {xs ys zs : List D} {pos p2 apos cpos : Pos} {P : D → Cs → Prop} {k : KE} {G : Cs → Prop}
theorem Reps.split {S : Hp} : ∀ {xs ys : List D} {vs : List V}, Reps S (xs ++ ys) vs → ∃ us ts, vs = us ++ ts ∧ Reps S xs us ∧ Reps S ys ts
  | [], ys, vs, h => ⟨[], vs, rfl, .nil, h⟩
  | x :: xs, ys, vs, h => by
    obtain ⟨v, ws, rfl, r1, r2⟩ := Reps.uncons h
    obtain ⟨us, ts, rfl, r3, r4⟩ := Reps.split r2
    exact ⟨v :: us, ts, rfl, .cons r1 r3, r4⟩
/-- two loops over nothing -/
theorem ev_lc2nil {tg iter tg1 iter1 elt : Expr} {ifs ifs1 : List Expr} {scope : Scope} {own : List (Str × Nat)} {vs1 : List Nat} (nd : X.N.Nodup) (ok : BlkOk X.N X.env.scope scope own) (hi : EvI lk X tg iter ds cs [] cs0 G) (hG : ∀ fr, G (cs0 ++ fr)) (hv : ∀ i ∈ vs1, i ∈ own.map (·.2) := by simp) (hc : X.calm = true := by rfl)
    (hs : ∀ x, foldedSetIterable iter X.env x = pure x := by intro _; rfl) (hs1 : ∀ env x, foldedSetIterable iter1 env x = pure x := by intro _ _; rfl) :
    EvM lk X (.ListComp elt [⟨tg, iter, ifs, 0⟩, ⟨tg1, iter1, ifs1, 0⟩] scope pos) ds cs (.lst []) cs0 := fun σ S H O E Q q =>
  run_e (pe_lc2 (vs1 := vs1) (wi := wI X tg iter) (g := fun _ _ _ _ => False) (tt := fun _ _ _ => False) (wi1 := fun _ _ _ => False) (g1 := fun _ _ _ _ => False) (tt1 := fun _ _ _ => False) (te := fun _ _ _ => False) hc nd pi_w ok hv
      (fun _ _ _ _ _ => ⟨fun _ _ _ _ _ _ _ _ _ h => h.elim⟩) (fun _ _ _ _ _ => ⟨fun _ _ _ _ _ _ h => h.elim⟩) (fun _ _ _ _ _ => ⟨fun _ _ _ _ _ _ h => h.elim⟩) (fun _ _ _ _ _ => ⟨fun _ _ _ _ _ _ _ _ _ h => h.elim⟩) (fun _ _ _ _ _ => ⟨fun _ _ _ _ _ _ h => h.elim⟩) (fun _ _ _ _ _ => ⟨fun _ _ _ _ _ _ h => h.elim⟩) hs hs1)
    (hi σ S H O E _ fun J S1 H1 O1 s1 yl D hD => by
      refine ⟨fun i m H' => i = 0 ∧ H' = upd H1 D (.lst []), ⟨0, rfl, rfl⟩, ?_⟩
      rintro i m H' ⟨rfl, rfl⟩
      have r0 : CellRep S1 (upd H1 D (.lst [])) D (.lst []) := ⟨[], upd_same, .nil⟩
      refine .inl ⟨yl.stop _ _ _ (.allocC hD) (O1.allocC hD r0) (hG _), ?_⟩
      exact (q.step s1).new O1 hD (rep_lst.mpr ⟨D, [], rfl, upd_same, .nil⟩))
/-- a, b = e1, e2 with new cells -/
theorem s_parP {P1 : D → Cs → Prop} {P2 : D → Cs → D → Cs → Prop} (i j : Nat) {n m : Str} {px py pt : Pos} {kt k2 : Nat} {pt2 : Pos} (nd : X.N.Nodup) (ha : EvP lk X a ds cs P1) (hb : ∀ x c1, P1 x c1 → EvP lk X b ds c1 (P2 x c1)) (h : ∀ x c1 y c2, P1 x c1 → P2 x c1 y c2 → k.nx ((ds.set i (some x)).set j (some y)) c2)
    (hc : X.calm = true := by rfl) (hi : X.N[i]? = some n := by rfl) (hj : X.N[j]? = some m := by rfl) (hij : i ≠ j := by decide)
    (hx : X.env.scope.names.lookup n = some .local := by rfl) (hy : X.env.scope.names.lookup m = some .local := by rfl) (hw : swappedStores [.Tuple [.Name n px, .Name m py] kt pt] (.Tuple [a, b] k2 pt2) X.env = pure (some [n, m]) := by rfl)
    (hs : swapsWithSole [.Tuple [.Name n px, .Name m py] kt pt] (.Tuple [a, b] k2 pt2) pos.line X.env = pure false := by rfl)
    (hsa : starEach [a, b] X.env = (false, eval a X.env) :: starEach [b] X.env := by rfl) (hsb : starEach [b] X.env = (false, eval b X.env) :: starEach [] X.env := by rfl) : S1 lk X (.Assign [.Tuple [.Name n px, .Name m py] kt pt] (.Tuple [a, b] k2 pt2) pos) ds cs k := fun σ S H O E D0 p =>
  run_s (ps_par hc nd hi hj hij hx hy (pa_cons pe_w (pa_cons pe_w pa_nil hsb) hsa) hw hs) (ha σ S H O E _ fun x c1 h1 v S1 H1 O1 s1 r1 => hb x c1 h1 σ S1 H1 O1 (E.mono s1.ext) _ fun y c2 h2 w S2 H2 O2 s2 r2 => by
    exact ⟨v, w, rfl, p.nx _ _ _ _ _ (h x c1 y c2 h1 h2) O2 (((E.mono (s1.trans s2).ext).set (r1.mono s2.ext)).set r2) (s1.trans s2)⟩)
/-- xs[::-1], a list that may change -/
theorem ev_revC {k : Nat} {p1 p3 p4 : Pos} {p : Addr} (i : Nat) (ha : EvM lk X a ds cs (.ptr p) cs1) (hi : cs1[i]? = some (p, .lst xs)) : EvM lk X (.Subscript a (.Slice none none (some (.UnaryOp .USub (.Constant (.int 1) k p1) p3)) p4) pos) ds cs (.lst xs.reverse) cs1 := fun σ S H O E Q q =>
  run_e (pe_revL pe_w) (ha σ S H O E _ fun v S1 H1 O1 s1 r1 => by
    obtain ⟨ws, e, r⟩ := O1.at_ hi
    rw [rep_ptr.mp r1]
    exact ⟨p, ws, rfl, .of e, fun l hl => (q.step s1).new O1 hl (rep_lst.mpr ⟨l, _, rfl, upd_same, r.reverse.mono (.new (O1.lies.ne hl))⟩)⟩)
/-- an instance that is given up: it stands first -/
theorem EvP.ins {C : Addr} {Q : List (Str × D) → Prop} {fs : List (Str × D)} (h : EvP lk X e ds cs (fun y cs' => ∃ x dx, y = .ptr x ∧ cs' = (x, .ins C dx fs) :: cs1)) : EvM lk X e ds cs (.ins C fs) cs1 := fun σ S H O E Q q =>
  h σ S H O E Q fun y cs' ⟨a, dx, ey, ec⟩ v S1 H1 O1 s1 r1 => by
    subst ey ec
    have at_ : ((a, CO.ins C dx fs) :: cs1)[0]? = some (a, .ins C dx fs) := rfl
    obtain ⟨us, e5, r5⟩ := O1.at_ at_
    have hs : S1 a = none := (O1.cell _ (List.mem_of_getElem? at_)).1
    have O6 := O1.freeze at_ e5
    have s6 := Stp.freeze O1 (o := .ins C dx us) at_
    exact q v _ _ O6 (s1.trans s6) (rep_ins.mpr ⟨a, dx, us, rep_ptr.mp r1, upd_same, r5.mono (.new hs)⟩)
/-- the last pair's dict will not change any more -/
theorem SF.settle {L d : Addr} {ps : List D} {r : Int} {kvs : List (Int × D)} (h : SF lk X ss ds [(L, .lst (ps ++ [.tup [.int r, .dic kvs]]))] k) : SF lk X ss ds [(L, .lst (ps ++ [.tup [.int r, .ptr d]])), (d, .dic kvs)] k := fun σ S H O E D0 q => by
  have at1 : [(L, CO.lst (ps ++ [.tup [.int r, .ptr d]])), (d, .dic kvs)][1]? = some (d, .dic kvs) := rfl
  obtain ⟨ws, e, rk⟩ := O.at_ at1
  have hS : S d = none := (O.cell _ (List.mem_of_getElem? at1)).1
  have O2 : Own lk (upd S d (.dK ws)) H [(L, .lst (ps ++ [.tup [.int r, .ptr d]]))] := O.freeze at1 e
  have s2 : Stp [(L, CO.lst (ps ++ [.tup [.int r, .ptr d]])), (d, .dic kvs)] S H (upd S d (.dK ws)) H [(L, .lst (ps ++ [.tup [.int r, .ptr d]]))] := Stp.freeze O (o := .dK ws) at1
  have O3 : Own lk (upd S d (.dK ws)) H [(L, .lst (ps ++ [.tup [.int r, .dic kvs]]))] := by
    refine ⟨O2.lies, O2.nd, fun p hp => ?_⟩
    have hp' : p = (L, .lst (ps ++ [.tup [.int r, .dic kvs]])) := by simpa using hp
    subst hp'
    have c := O2.cell (L, .lst (ps ++ [.tup [.int r, .ptr d]])) (by simp)
    refine ⟨c.1, ?_⟩
    obtain ⟨vs, e1, rr⟩ := c.2
    obtain ⟨us, ts, rfl, r1, r2⟩ := rr.split
    obtain ⟨t, rfl, rt⟩ := r2.one
    obtain ⟨q0, zs, rfl, e2, r3⟩ := rep_tup.mp rt
    obtain ⟨v, w, rfl, ra, rb⟩ := r3.two
    refine ⟨_, e1, r1.append (.cons (rep_tup.mpr ⟨q0, _, rfl, e2, .cons ra (.cons ?_ .nil)⟩) .nil)⟩
    rw [rep_ptr.mp rb]
    exact rep_dic.mpr ⟨d, ws, rfl, upd_same, rk.mono (.new hS)⟩
  have s3 : Stp [(L, CO.lst (ps ++ [.tup [.int r, .ptr d]])), (d, .dic kvs)] S H (upd S d (.dK ws)) H [(L, .lst (ps ++ [.tup [.int r, .dic kvs]]))] :=
    ⟨s2.ext, s2.keep, s2.out, s2.dom, fun a h => s2.new a (by simpa using h)⟩
  exact h σ _ H O3 (E.mono (.new hS)) D0 (q.step s3)
end
/-! ### walking the keys of a dict that may change -/
def lkC (od : Obj) (ws : List (Key × V)) (kvs : List (Int × D)) : CO := .gen fun S o => o = .frz od (.dK ws) ∧ RepK S kvs ws
section
variable {X : Cx} {a b tg e elt : Expr} {scope : Scope} {own : List (Str × Nat)} {ds : Ds} {cs cs1 cs2 : Cs} {x : D} {kvs : List (Int × D)} {pos : Pos}
theorem ev_getKL {lk : List Addr} {k : Int} {p : Addr} {od : Obj} {ws : List (Key × V)} (i : Nat) (hu : X.A.units + 1 < cLine) (ha : EvM lk X a ds cs (.ptr p) cs1) (hb : EvM lk X b ds cs1 (.int k) cs2) (hi : cs2[i]? = some (p, lkC od ws kvs)) (hx : kget kvs k = some x) (hs : NoSl b := by intro _ _; rfl) : EvM lk X (.Subscript a b pos) ds cs x cs2 := fun σ S H O E Q q =>
  run_e (pe_dget hu pe_w pe_w hs) (ha σ S H O E _ fun v S1 H1 O1 s1 r1 => hb σ S1 H1 O1 (E.mono s1.ext) _ fun w S2 H2 O2 s2 r2 => by
    obtain ⟨ob, e, hg⟩ := O2.at_ hi
    obtain ⟨rfl, r⟩ := hg S2 (.refl S2)
    rw [rep_ptr.mp r1, rep_int.mp r2]
    have := r.get (k := k)
    rw [hx] at this
    obtain ⟨u, e2, r3⟩ := this
    exact ⟨p, u, rfl, .inl ⟨ws, Sum.inl k, .inr ⟨od, e⟩, rfl, e2.symm⟩, (q.step (s1.trans s2)).here O2 r3⟩)
theorem ev_lcKeysC {ifs : List Expr} {d : Addr} (i : Nat) (nd : X.N.Nodup) (ok : BlkOk X.N X.env.scope scope own) (he : EvM [] X e ds cs (.ptr d) cs1) (hi : cs1[i]? = some (d, .dic kvs)) (acc : Nat → List D) (ha : acc 0 = []) (hl : ∀ i, i ≤ kvs.length → (acc i).length < 1000000)
    (turn : ∀ od ws j x, (keysD kvs)[j]? = some x → TurnL [] X scope tg elt ifs (own.map (·.2)) ds x (cs1.set i (d, lkC od ws kvs)) (cs1.set i (d, lkC od ws kvs)) (acc j) (acc (j + 1))) (hc : X.calm = true := by rfl) (hs : ∀ x, foldedSetIterable e X.env x = pure x := by intro _; rfl) :
    EvM [] X (.ListComp elt [⟨tg, e, ifs, 0⟩] scope pos) ds cs (.lst (acc kvs.length)) cs1 := fun σ S H O E Q q =>
  run_e (pe_unlk (pe_lc hc nd (pi_keys (pe_frz pe_w)) ok pg_b (fun s H C cl fp => pts_b ifs ⟨s, H, C, cl, fp⟩) pe_b hs))
    (he σ S H O E _ fun v S1 H1 O1 s1 r1 => by
      obtain ⟨ws, e1, rk⟩ := O1.at_ hi
      rw [rep_ptr.mp r1]
      refine ⟨d, .dK ws, rfl, e1, trivial, fun od nf => ⟨d, od, rfl, .inl ⟨ws, upd_same, ?_⟩⟩⟩
      have hil : i < cs1.length := (List.getElem?_eq_some_iff.mp hi).1
      have hkl : (keysD kvs).length = kvs.length := by simp [keysD]
      have O2 := O1.write hi (c' := lkC od ws kvs) (o := .frz od (.dK ws)) ⟨_, upd_same, fun S' e => ⟨rfl, rk.mono e⟩⟩
      have s2 := Stp.write (S := S1) (H := H1) (o := .frz od (.dK ws)) (c' := lkC od ws kvs) hi
      have at_ : ∀ fr, (cs1.set i (d, lkC od ws kvs) ++ fr)[i]? = some (d, lkC od ws kvs) := fun fr => by
        rw [List.getElem?_append_left (by simpa using hil)]; simp [hil]
      have yl : Yl [] (fun cs' => cs'[i]? = some (d, lkC od ws kvs)) (Itk d od ws) (cs1.set i (d, lkC od ws kvs)) S1 (upd H1 d (.frz od (.dK ws))) (keysD kvs) := by
        have locked : ∀ {S' H' cs'}, Own [] S' H' cs' → cs'[i]? = some (d, lkC od ws kvs) → H' d = some (.frz od (.dK ws)) := fun O g => by
          obtain ⟨ob, e, hg⟩ := O.at_ g
          obtain ⟨rfl, _⟩ := hg _ (.refl _)
          exact e
        refine ⟨fun S' H' cs' x O g => ⟨locked O g, by rw [hkl, rk.len]; exact Nat.le_refl _⟩, fun j S' H' cs' h x O g => ⟨locked O g, by rw [hkl] at h; rw [rk.len]; exact h⟩, fun j y S' H' cs' v H'' h x O g gg => ?_⟩
        obtain ⟨e1, k, u, e2, e3⟩ := gg
        subst e1
        unfold keysD at h
        rw [List.getElem?_map] at h
        cases q : kvs[j]? with
        | none => rw [q] at h; cases h
        | some p =>
          rw [q] at h
          simp at h
          obtain ⟨w, e4, _⟩ := keys_V (k := p.1) (x := p.2) rk q
          rw [e4] at e2
          cases e2
          exact ⟨S', O, .refl, by rw [← h, e3]; exact rep_int.mpr rfl⟩
      have pl : PostM [] (cs1.set i (d, lkC od ws kvs)) S1 (upd H1 d (.frz od (.dK ws))) (cs1.set i (d, lkC od ws kvs)) (.lst (acc (keysD kvs).length)) (fun v H' => ∃ d od u, H' d = some (.frz od u) ∧ NoF X d ∧ Q v (upd H' d u)) := by
        rw [hkl]
        intro v S' H' O' s' r
        have ati : (cs1.set i (d, lkC od ws kvs))[i]? = some (d, lkC od ws kvs) := by simp [hil]
        obtain ⟨ob, e2, hg⟩ := O'.at_ ati
        obtain ⟨rfl, rk'⟩ := hg _ (.refl _)
        refine ⟨d, od, .dK ws, e2, nf, ?_⟩
        have O3 := O'.write ati (c' := .dic kvs) (o := .dK ws) ⟨ws, upd_same, rk'⟩
        have s3 := Stp.write (S := S') (H := H') (o := .dK ws) (c' := .dic kvs) ati
        have hcs : (cs1.set i (d, lkC od ws kvs)).set i (d, .dic kvs) = cs1 := by
          rw [List.set_set]
          have : cs1[i] = (d, .dic kvs) := (List.getElem?_eq_some_iff.mp hi).2
          rw [← this]; exact List.set_getElem_self hil
        rw [hcs] at O3 s3
        exact q v S' _ O3 (((s1.trans s2).trans s').trans s3) r
      exact lc_in (G := fun cs' => cs'[i]? = some (d, lkC od ws kvs)) acc (fun _ => cs1.set i (d, lkC od ws kvs)) ha (fun _ _ fr => at_ fr) (fun i hi => hl i (by rwa [hkl] at hi)) (turn od ws) O2 (E.mono s1.ext) yl pl)
end
end Af
set_option Elab.async false
set_option linter.all false
set_option maxRecDepth 100000
set_option maxHeartbeats 2000000
/-! ### afterfall.cells -/
namespace Af
open PySem L2

theorem lk_nil {lk : List Addr} (h : false = true ∨ lk = []) : lk = [] := h.resolve_left (by decide)
section
variable {lk : List Addr} {X : Cx} {a b : Expr} {ds : Ds} {cs cs1 cs2 : Cs} {pos : Pos}
theorem et_inK {k : Int} {kvs : List (Int × D)} (hu : X.A.units + 1 < cLine) (ha : EvM lk X a ds cs (.int k) cs1) (hb : EvM lk X b ds cs1 (.dic kvs) cs2) (hm : behindInMarks .In b = false := by rfl) : EvT lk X (.Compare a [.In] [b] pos) ds cs (kget kvs k).isSome cs2 := fun σ S H O E Q q =>
  run_t (pt_cmp (pc_din hu pe_w pe_w) hm) (ha σ S H O E _ fun v S1 H1 O1 s1 r1 => hb σ S1 H1 O1 (E.mono s1.ext) _ fun w S2 H2 O2 s2 r2 => by
    obtain ⟨p, vs, rfl, e, r⟩ := rep_dic.mp r2
    rw [rep_int.mp r1]
    refine ⟨p, valV vs (Sum.inl k : Key), rfl, .inl ⟨vs, Sum.inl k, O2.lies.dK e, rfl, rfl⟩, _, rfl, ?_⟩
    have := r.get (k := k)
    cases h : kget kvs k with
    | none => rw [h] at this; rw [this]; rw [h] at q; exact q S2 H2 O2 (s1.trans s2)
    | some y => rw [h] at this; obtain ⟨u, e, _⟩ := this; rw [e]; rw [h] at q; exact q S2 H2 O2 (s1.trans s2))
theorem et_ninK {k : Int} {kvs : List (Int × D)} (hu : X.A.units + 1 < cLine) (ha : EvM lk X a ds cs (.int k) cs1) (hb : EvM lk X b ds cs1 (.dic kvs) cs2) (hm : behindInMarks .NotIn b = false := by rfl) : EvT lk X (.Compare a [.NotIn] [b] pos) ds cs (!(kget kvs k).isSome) cs2 := fun σ S H O E Q q =>
  run_t (pt_cmp (pc_dnotin hu pe_w pe_w) hm) (ha σ S H O E _ fun v S1 H1 O1 s1 r1 => hb σ S1 H1 O1 (E.mono s1.ext) _ fun w S2 H2 O2 s2 r2 => by
    obtain ⟨p, vs, rfl, e, r⟩ := rep_dic.mp r2
    rw [rep_int.mp r1]
    refine ⟨p, valV vs (Sum.inl k : Key), rfl, .inl ⟨vs, Sum.inl k, O2.lies.dK e, rfl, rfl⟩, _, rfl, ?_⟩
    have := r.get (k := k)
    cases h : kget kvs k with
    | none => rw [h] at this; rw [this]; rw [h] at q; exact q S2 H2 O2 (s1.trans s2)
    | some y => rw [h] at this; obtain ⟨u, e, _⟩ := this; rw [e]; rw [h] at q; exact q S2 H2 O2 (s1.trans s2))
theorem et_inKC {k : Int} {kvs : List (Int × D)} {p : Addr} (i : Nat) (hu : X.A.units + 1 < cLine) (ha : EvM lk X a ds cs (.int k) cs1) (hb : EvM lk X b ds cs1 (.ptr p) cs2) (hi : cs2[i]? = some (p, .dic kvs)) (hm : behindInMarks .In b = false := by rfl) : EvT lk X (.Compare a [.In] [b] pos) ds cs (kget kvs k).isSome cs2 := fun σ S H O E Q q =>
  run_t (pt_cmp (pc_din hu pe_w pe_w) hm) (ha σ S H O E _ fun v S1 H1 O1 s1 r1 => hb σ S1 H1 O1 (E.mono s1.ext) _ fun w S2 H2 O2 s2 r2 => by
    obtain ⟨vs, e, r⟩ := O2.at_ hi
    rw [rep_int.mp r1, rep_ptr.mp r2]
    refine ⟨p, valV vs (Sum.inl k : Key), rfl, DGet.k (k := Sum.inl k) e, _, rfl, ?_⟩
    have := r.get (k := k)
    cases h : kget kvs k with
    | none => rw [h] at this; rw [this]; rw [h] at q; exact q S2 H2 O2 (s1.trans s2)
    | some y => rw [h] at this; obtain ⟨u, e, _⟩ := this; rw [e]; rw [h] at q; exact q S2 H2 O2 (s1.trans s2))
theorem et_ninKC {k : Int} {kvs : List (Int × D)} {p : Addr} (i : Nat) (hu : X.A.units + 1 < cLine) (ha : EvM lk X a ds cs (.int k) cs1) (hb : EvM lk X b ds cs1 (.ptr p) cs2) (hi : cs2[i]? = some (p, .dic kvs)) (hm : behindInMarks .NotIn b = false := by rfl) : EvT lk X (.Compare a [.NotIn] [b] pos) ds cs (!(kget kvs k).isSome) cs2 := fun σ S H O E Q q =>
  run_t (pt_cmp (pc_dnotin hu pe_w pe_w) hm) (ha σ S H O E _ fun v S1 H1 O1 s1 r1 => hb σ S1 H1 O1 (E.mono s1.ext) _ fun w S2 H2 O2 s2 r2 => by
    obtain ⟨vs, e, r⟩ := O2.at_ hi
    rw [rep_int.mp r1, rep_ptr.mp r2]
    refine ⟨p, valV vs (Sum.inl k : Key), rfl, DGet.k (k := Sum.inl k) e, _, rfl, ?_⟩
    have := r.get (k := k)
    cases h : kget kvs k with
    | none => rw [h] at this; rw [this]; rw [h] at q; exact q S2 H2 O2 (s1.trans s2)
    | some y => rw [h] at this; obtain ⟨u, e, _⟩ := this; rw [e]; rw [h] at q; exact q S2 H2 O2 (s1.trans s2))
end
def blkB (N : List Str) (names : List (Str × NameKind)) (scope : Scope) (own : List (Str × Nat)) : Bool :=
  decide (scope.kind = .function) && decide (∀ y ∈ scope.names, scope.names.lookup y.1 = some y.2) && decide (∀ p ∈ own, N[p.2]? = some p.1) && decide (∀ y ∈ scope.names, y.2 = .free → names.lookup y.1 = some .cell ∨ names.lookup y.1 = some .free) &&
    decide (∀ y ∈ scope.names, y.2 = .local ∨ y.2 = .cell → y.1 ∈ own.map (·.1) ∨ y.1 ∉ N)
theorem blk {X : Cx} {scope : Scope} {own : List (Str × Nat)} (st : Stmt) (N : List Str) (hN : X.N = N) (hs : X.env.scope = defScope st) (h : blkB N (defScope st).names scope own = true := by decide +kernel) : BlkOk X.N X.env.scope scope own := by
  unfold blkB at h
  simp only [Bool.and_eq_true, decide_eq_true_eq] at h
  obtain ⟨⟨⟨⟨h1, h2⟩, h3⟩, h4⟩, h5⟩ := h
  rw [hN, hs]
  exact ⟨h1, h2, h3, h4, h5⟩
def Worths (ws : List Int) : Prop := ws ≠ [] ∧ (∀ w ∈ ws, 0 ≤ w ∧ w < 8) ∧ ws.length ≤ 24
def Choice (ws : List Int) : Prop := Worths ws ∧ ws.Pairwise (· < ·)
def patD (p : Pat) : List (Int × D) := p.map fun q => (q.1, .tup (dints q.2))
def GoodPat (n : Int) (p : Pat) : Prop := (∀ q ∈ p, (0 ≤ q.1 ∧ q.1 < n) ∧ Choice q.2) ∧ (p.map (·.1)).Nodup ∧ p.length ≤ 100
def R_are_worths (xs : List D) (cs : Cs) (y : D) (cs' : Cs) : Prop := ∃ ws, Worths ws ∧ xs = [.tup (dints ws)] ∧ cs = [] ∧ y = .bl true ∧ cs' = []
def R_is_choice (xs : List D) (cs : Cs) (y : D) (cs' : Cs) : Prop := ∃ ws, Choice ws ∧ xs = [.tup (dints ws)] ∧ cs = [] ∧ y = .bl true ∧ cs' = []
def R_is_pattern (xs : List D) (cs : Cs) (y : D) (cs' : Cs) : Prop := ∃ n p, GoodPat n p ∧ xs = [.int n, .dic (patD p)] ∧ cs = [] ∧ y = .bl true ∧ cs' = []
def R_check_pattern (xs : List D) (cs : Cs) (y : D) (cs' : Cs) : Prop := ∃ n p, GoodPat n p ∧ xs = [.int n, .dic (patD p)] ∧ cs = [] ∧ y = .non ∧ cs' = []
theorem nd_of {N : List Str} (h : decide N.Nodup = true) : N.Nodup := of_decide_eq_true h
theorem dints_get {ns : List Int} {i : Nat} {x : D} (h : (dints ns)[i]? = some x) : ∃ k, ns[i]? = some k ∧ x = .int k := by
  unfold dints at h
  rw [List.getElem?_map] at h
  cases e : ns[i]? with
  | none => rw [e] at h; cases h
  | some k => rw [e] at h; exact ⟨k, rfl, (Option.some.inj h).symm⟩
theorem dints_len (ns : List Int) : (dints ns).length = ns.length := by simp [dints]
theorem all_true (n : Nat) : (List.replicate n true).all id = true := by simp
theorem bls_true (n : Nat) : List.replicate n (D.bl true) = (List.replicate n true).map D.bl := by simp
theorem depth_tup (ns : List Int) : (toPy (.tup (dints ns))).depth ≤ 60 := by rw [toPy, PyData.depth, depths_ints]; decide
theorem depth_lst (ns : List Int) : (toPy (.lst (dints ns))).depth ≤ 60 := by rw [toPy, PyData.depth, depths_ints]; decide
theorem plain_tup (ns : List Int) : plain (.tup (dints ns)) = true := by rw [plain]; exact plains_ints ns
theorem plain_lst (ns : List Int) : plain (.lst (dints ns)) = true := by rw [plain]; exact plains_ints ns
section
variable {P : Program} {w : World} {K : PySem.W.Frag} {mg : Str → Option Value} {base : Heap} {f : Addr} {fd : FuncData}
theorem sc19 : FnScope ["thing", "worth"] ["thing"] (defScope (top 19)) := ⟨rfl, rfl, rfl, by decide +kernel, rfl, by decide +kernel, by decide +kernel⟩
theorem ok_are_worths (T : Txt K mg) (F : Fun K "are_worths" "are_worths" (top 19) f fd) (c_is_below : Cal P w K mg base 2 "is_below" (spM true R_is_below)) : FnOk P w K mg base CX0 3 f fd ["thing"] (spM true R_are_worths) := by
  refine fn_okM F sc19 (by rintro _ _ _ _ ⟨ws, _, rfl, _⟩; rfl) fun lk cdv A outer s H E xs cs y cs' hlk hr hR => ?_
  obtain ⟨ws, ⟨h1, h2, h3⟩, rfl, rfl, rfl, rfl⟩ := hR
  have nd : (["thing", "worth"] : List Str).Nodup := nd_of (by decide +kernel)
  have hu := hr.units
  refine sf_cons (s_ret (ev_andT (ev_isi (ev_v 0 rfl) ty_tup k_tuple T.zisinstance T.ztuple b_isi b_tuple) (ev_andT (ev_cmp (ev_v 0 rfl) (ev_tup ea_nil) (od_neD (t := false) (by omega) (plain_tup ws) (by rw [plain]; rfl) (Nat.le_trans (depth_tup ws) (by decide)) (by decide) (by
      constructor
      · intro h; cases h
      · intro h; injection h with h; exact absurd (dints_inj (ms := []).mp h) h1)))
    (ev_one (ev_callB (ea_cons (ev_map (own := [("worth", 1)]) (ys := List.replicate (dints ws).length (.bl true)) nd (blk (top 19) ["thing", "worth"] rfl rfl) (ei_tup (ev_v 0 rfl)) (by simp) (by rw [dints_len]; omega) (fun _ => trivial) fun i x y hx hy => ?_) ea_nil)
      (by rw [bls_true]; exact cd_all) T.zall b_all)))) ⟨by simp, rfl⟩)
  obtain ⟨k, hk, rfl⟩ := dints_get hx
  have hy' : y = .bl true := by
    have := List.mem_of_getElem? hy
    exact List.eq_of_mem_replicate this
  subst hy'
  have hb := h2 k (List.mem_of_getElem? hk)
  exact ⟨_, fun b => tg_name 1 nd, fun b => ev_callP c_is_below hr (by decide) (ea_cons (ev_v 1 rfl) (ea_cons (ev_glob' T.mWORTHS) ea_nil)) ⟨k, 8, rfl, rfl, by simp [hb.1, hb.2], rfl⟩ (.inl rfl)⟩
theorem sc20 : FnScope ["thing"] ["thing"] (defScope (top 20)) := ⟨rfl, rfl, rfl, by decide +kernel, rfl, by decide +kernel, by decide +kernel⟩
theorem ok_is_content (T : Txt K mg) (F : Fun K "is_content" "is_content" (top 20) f fd) (c_are_worths : Cal P w K mg base 3 "are_worths" (spM true R_are_worths)) : FnOk P w K mg base CX0 4 f fd ["thing"] (spM true R_are_worths) := by
  refine fn_okM F sc20 (by rintro _ _ _ _ ⟨ws, _, rfl, _⟩; rfl) fun lk cdv A outer s H E xs cs y cs' hlk hr hR => ?_
  obtain ⟨ws, h, rfl, rfl, rfl, rfl⟩ := hR
  refine sf_cons (s_ret (ev_andT (ev_callP c_are_worths hr (by decide) (ea_cons (ev_v 0 rfl) ea_nil) ⟨ws, h, rfl, rfl, rfl, rfl⟩ (.inl rfl)) (ev_one (ev_cmp (ev_callB (ea_cons (ev_v 0 rfl) ea_nil) cd_lenU T.zlen b_len) (ev_glob' T.mMAX_CELLS) od_le))) ⟨?_, rfl⟩)
  have : (dints ws).length ≤ 24 := by rw [dints_len]; exact h.2.2
  simp; omega
theorem sc21 : FnScope ["thing"] ["thing"] (defScope (top 21)) := ⟨rfl, rfl, rfl, by decide +kernel, rfl, by decide +kernel, by decide +kernel⟩
theorem ok_is_choice (T : Txt K mg) (F : Fun K "is_choice" "is_choice" (top 21) f fd) (c_are_worths : Cal P w K mg base 3 "are_worths" (spM true R_are_worths)) : FnOk P w K mg base CX0 4 f fd ["thing"] (spM true R_is_choice) := by
  refine fn_okM F sc21 (by rintro _ _ _ _ ⟨ws, _, rfl, _⟩; rfl) fun lk cdv A outer s H E xs cs y cs' hlk hr hR => ?_
  obtain ⟨ws, ⟨h, h2⟩, rfl, rfl, rfl, rfl⟩ := hR
  have hu := hr.units
  have hl := h.2.2
  exact sf_cons (s_ret (ev_andT (ev_callP c_are_worths hr (by decide) (ea_cons (ev_v 0 rfl) ea_nil) ⟨ws, h, rfl, rfl, rfl, rfl⟩ (.inl rfl)) (ev_one (ev_cmp (ev_callTy (ea_cons (ev_v 0 rfl) ea_nil) cd_listU T.zlist b_list)
    (ev_sortedSetU (ms := ws) (ev_v 0 rfl) (by omega) h2 (fun _ => .rfl) T.zsorted T.zset) (od_eqD (t := true) (by omega) (plain_lst ws) (plain_lst ws) (Nat.le_trans (depth_lst ws) (by decide)) (Nat.le_trans (depth_lst ws) (by decide)) (by simp))))) ⟨rfl, rfl⟩)
theorem patD_get {p : Pat} {i : Nat} {x : D} (h : (itemsD (patD p))[i]? = some x) : ∃ q, p[i]? = some q ∧ x = .tup [.int q.1, .tup (dints q.2)] := by
  unfold itemsD patD at h
  rw [List.map_map, List.getElem?_map] at h
  cases e : p[i]? with
  | none => rw [e] at h; cases h
  | some q => rw [e] at h; exact ⟨q, rfl, (Option.some.inj h).symm⟩
theorem patD_keys (p : Pat) : keysD (patD p) = dints (p.map (·.1)) := by unfold keysD patD dints; rw [List.map_map, List.map_map]; rfl
theorem patD_len (p : Pat) : (patD p).length = p.length := by simp [patD]
theorem patD_get1 (p : Pat) (k : Int) : kget (patD p) k = (kget p k).map fun ws => .tup (dints ws) := kget_map (fun ws => D.tup (dints ws)) k p
theorem sc22 : FnScope ["cells", "thing", "cell", "choice"] ["cells", "thing"] (defScope (top 22)) := ⟨rfl, rfl, rfl, by decide +kernel, rfl, by decide +kernel, by decide +kernel⟩
theorem ok_is_pattern (T : Txt K mg) (F : Fun K "is_pattern" "is_pattern" (top 22) f fd) (c_is_below : Cal P w K mg base 2 "is_below" (spM true R_is_below)) (c_is_choice : Cal P w K mg base 4 "is_choice" (spM true R_is_choice)) : FnOk P w K mg base CX0 5 f fd ["cells", "thing"] (spM false R_is_pattern) := by
  refine fn_okM F sc22 (by rintro _ _ _ _ ⟨n, p, _, rfl, _⟩; rfl) fun lk cdv A outer s H E xs cs y cs' hlk hr hR => ?_
  obtain ⟨n, p, ⟨h1, h2, h3⟩, rfl, rfl, rfl, rfl⟩ := hR
  obtain rfl := lk_nil hlk
  have nd : (["cells", "thing", "cell", "choice"] : List Str).Nodup := nd_of (by decide +kernel)
  refine sf_cons (s_ifF (et_not (t := true) (et_val (ev_isi (ev_v 1 rfl) ty_dic k_dict T.zisinstance T.zdict b_isi b_dict))) ?_)
  refine sf_nil (sf_cons (s_ret (ev_callB (ea_cons (ev_lcItems (own := [("cell", 2), ("choice", 3)]) nd (blk (top 22) ["cells", "thing", "cell", "choice"] rfl rfl) (ev_v 1 rfl) (fun i => List.replicate i (.bl true)) (fun _ => []) rfl rfl (fun i hi => by rw [patD_len] at hi; simp; omega) fun d i x hx => ?_) ea_nil)
    (by rw [bls_true]; exact cd_all) T.zall b_all) ⟨by simp, rfl⟩))
  obtain ⟨q, hq, rfl⟩ := patD_get hx
  have hm := h1 q (List.mem_of_getElem? hq)
  rw [List.replicate_succ']
  refine turn_map (f := id) ?_
  exact ⟨_, fun b => tg_tup2 2 3 nd, fun b => ev_andT (ev_callP c_is_below hr (by decide) (ea_cons (ev_v 2 rfl) (ea_cons (ev_v 0 rfl) ea_nil)) ⟨q.1, n, rfl, rfl, by simp [hm.1.1, hm.1.2], rfl⟩ (.inl rfl)) (ev_one (ev_callP c_is_choice hr (by decide) (ea_cons (ev_v 3 rfl) ea_nil) ⟨q.2, hm.2, rfl, rfl, rfl, rfl⟩ (.inl rfl)))⟩
theorem sc23 : FnScope ["cells", "thing"] ["cells", "thing"] (defScope (top 23)) := ⟨rfl, rfl, rfl, by decide +kernel, rfl, by decide +kernel, by decide +kernel⟩
theorem ok_check_pattern (T : Txt K mg) (F : Fun K "check_pattern" "check_pattern" (top 23) f fd) (c_is_pattern : Cal P w K mg base 5 "is_pattern" (spM false R_is_pattern)) : FnOk P w K mg base CX0 6 f fd ["cells", "thing"] (spM false R_check_pattern) := by
  refine fn_okM F sc23 (by rintro _ _ _ _ ⟨n, p, _, rfl, _⟩; rfl) fun lk cdv A outer s H E xs cs y cs' hlk hr hR => ?_
  obtain ⟨n, p, h, rfl, rfl, rfl, rfl⟩ := hR
  exact sf_cons (s_ifF (et_not (t := true) (et_val (ev_callP c_is_pattern hr (by decide) (ea_cons (ev_v 0 rfl) (ea_cons (ev_v 1 rfl) ea_nil)) ⟨n, p, h, rfl, rfl, rfl, rfl⟩ hlk))) (sf_nil (sf_nil ⟨rfl, rfl⟩)))
/-! both patterns at once -/
def hasK (p : Pat) (c : Int) : Bool := (kget p c).isSome
def unionK (p o : Pat) : List Int := (p.map (·.1) ++ (o.map (·.1)).filter (fun c => !hasK p c)).mergeSort (fun a b => decide (a ≤ b))
/-- what stands in both at a cell that one of them has -/
def metC (p o : Pat) (c : Int) : List Int :=
  let ch := ((kget p c).getD ((kget o c).getD []))
  ch.filter fun w => decide (w ∈ (kget o c).getD ch)
def metB (p o : Pat) : Pat := (unionK p o).map fun c => (c, metC p o c)
def metR (p o : Pat) : Option Pat := if [] ∈ (metB p o).map (·.2) then none else some (metB p o)
def optPat : Option Pat → D
  | none => .non
  | some p => .dic (patD p)
def OkPat (p : Pat) : Prop := (p.map (·.1)).Nodup ∧ p.length ≤ 100 ∧ ∀ q ∈ p, q.2.length ≤ 1000
def R_met_by_both (xs : List D) (cs : Cs) (y : D) (cs' : Cs) : Prop := ∃ p o, OkPat p ∧ OkPat o ∧ xs = [.dic (patD p), .dic (patD o)] ∧ cs = [] ∧ y = optPat (metR p o) ∧ cs' = []
theorem unionK_perm (p o : Pat) : (unionK p o).Perm (p.map (·.1) ++ (o.map (·.1)).filter (fun c => !hasK p c)) := List.mergeSort_perm _ _
theorem unionK_sorted (p o : Pat) : (unionK p o).Pairwise (· ≤ ·) := by
  have := List.pairwise_mergeSort (le := fun a b : Int => decide (a ≤ b)) (fun a b c h1 h2 => by simp at *; omega) (fun a b => by simp; omega) (p.map (·.1) ++ (o.map (·.1)).filter (fun c => !hasK p c))
  exact this.imp fun h => by simpa using h
theorem mem_unionK {p o : Pat} {c : Int} : c ∈ unionK p o ↔ hasK p c = true ∨ hasK o c = true := by
  rw [(unionK_perm p o).mem_iff, List.mem_append, List.mem_filter]
  have key : ∀ (q : Pat) (c : Int), c ∈ q.map (·.1) ↔ hasK q c = true := fun q c => by
    unfold hasK
    cases e : kget q c with
    | none =>
      simp only [Option.isSome_none, Bool.false_eq_true, iff_false]
      intro h
      obtain ⟨z, hz, e2⟩ := List.mem_map.mp h
      exact kget_none.mp e z hz e2
    | some v => simp only [Option.isSome_some, iff_true]; exact List.mem_map.mpr ⟨_, kget_mem e, rfl⟩
  rw [key, key]
  constructor
  · rintro (h | ⟨h, _⟩)
    · exact .inl h
    · exact .inr h
  · rintro (h | h)
    · exact .inl h
    · cases e : hasK p c with
      | true => exact .inl rfl
      | false => exact .inr ⟨h, by simp⟩
theorem unionK_nodup {p o : Pat} (hp : (p.map (·.1)).Nodup) (ho : (o.map (·.1)).Nodup) : (unionK p o).Nodup := by
  rw [(unionK_perm p o).nodup_iff, List.nodup_append]
  refine ⟨hp, ho.filter _, fun a ha b hb e => ?_⟩
  subst e
  have h2 := (List.mem_filter.mp hb).2
  obtain ⟨z, hz, e2⟩ := List.mem_map.mp ha
  have : hasK p a = true := by
    unfold hasK
    rw [kget_of hp (k := a) (x := z.2) (by rw [← e2]; exact hz)]; rfl
  rw [this] at h2; cases h2
theorem metB_keys (p o : Pat) : (metB p o).map (·.1) = unionK p o := by unfold metB; rw [List.map_map]; simp [Function.comp_def]
end
end Af
set_option Elab.async false
set_option linter.all false
set_option maxRecDepth 100000
set_option maxHeartbeats 2000000
/-! ### comprehensions in handy forms; afterfall.cells.met_by_both -/
namespace Af
open PySem L2

section
variable {lk : List Addr} {X : Cx} {tg iter elt c a o e : Expr} {scope : Scope} {own : List (Str × Nat)} {ds ds' : Ds} {cs cs0 cs1 cs2 : Cs} {x y : D} {xs : List D} {pos apos cpos : Pos} {G : Cs → Prop}
theorem EvM.drop {a : Addr} {c : CO} (h : EvM lk X e ds cs x (cs1 ++ [(a, c)])) : EvM lk X e ds cs x cs1 := fun σ S H O E Q q =>
  h σ S H O E Q fun v S1 H1 O1 s1 r1 => by
    have at_ : (cs1 ++ [(a, c)])[cs1.length]? = some (a, c) := by simp
    have hc := O1.cell _ (List.mem_of_getElem? at_)
    obtain ⟨o, e⟩ := CellRep.ex_ hc.2
    have O6 := O1.freeze at_ e
    have s6 := Stp.freeze O1 (o := o) at_
    have her : (cs1 ++ [(a, c)]).eraseIdx cs1.length = cs1 := by rw [List.eraseIdx_append_of_length_le (Nat.le_refl _)]; simp
    rw [her] at O6 s6
    exact q v _ _ O6 (s1.trans s6) (r1.mono (.new hc.1))
theorem et_ninVals {d : Addr} {kvs : List (Int × D)} {t : Bool} (i : Nat) (hu : X.A.units + 64 < cLine) (ha : EvM lk X a ds cs x cs1) (ho : EvM lk X o ds cs1 (.ptr d) cs2) (hi : cs2[i]? = some (d, .dic kvs)) (hx : plain x = true) (hy : plains (kvs.map (·.2)) = true) (hd : (toPy x).depth ≤ 60) (ht : t = true ↔ x ∈ kvs.map (·.2))
    (hc : X.calm = true := by rfl) (hbase : attributeBase o "values" X.env (eval o X.env) = eval o X.env := by rfl) (hline : (apos.endLine == cpos.line) = true := by rfl)
    (hm : behindInMarks .NotIn (.Call (.Attribute o "values" apos) [] [] cpos) = false := by first | exact nomark _ | rfl) :
    EvT lk X (.Compare a [.NotIn] [.Call (.Attribute o "values" apos) [] [] cpos] pos) ds cs (!t) cs2 := fun σ S H O E Q q =>
  run_t (pt_cmpR (or_ninVals hc hu) pe_w (pe_vals pe_w hbase hline) hm) (ha σ S H O E _ fun v S1 H1 O1 s1 r1 => ho σ S1 H1 O1 (E.mono s1.ext) _ fun w S2 H2 O2 s2 r2 => by
    obtain ⟨ws, e1, rk⟩ := O2.at_ hi
    rw [rep_ptr.mp r2]
    refine ⟨d, ws, rfl, e1, fun p hp => ?_⟩
    have hS := O2.lies.ne hp
    have O3 := O2.alloc (o := valsO p d) hp
    have rk3 := rk.mono (Ext.new (o := valsO p d) hS)
    have hdp : d ≠ p := fun z => by rw [z, hp] at e1; cases e1
    refine ⟨toPy x, p, d, ws, toPys (kvs.map (·.2)), plain_dp O3.lies hx (r1.mono (s2.ext.trans (Ext.new hS))), rfl, upd_same, by rw [upd_ne hdp]; exact e1, plain_dps O3.lies hy rk3.vals, PyData.plain_of_canLay0 _ (plain_can x hx), plainAll_toPys hy, hd, _, rfl, ?_⟩
    rw [bool_of (toPys_any hx hy) ht]
    exact q _ _ O3 ((s1.trans s2).trans (.alloc hS hp)))
/-- [out k for k in xs] -/
theorem ev_mapG {α : Type} (ns : List α) (enc out : α → D) (nd : X.N.Nodup) (ok : BlkOk X.N X.env.scope scope own) (hi : EvI lk X tg iter ds cs xs cs0 G) (hx : xs = ns.map enc) (hl : ns.length < 1000000) (hG : ∀ fr, G (cs0 ++ fr))
    (turn : ∀ (i : Nat) k, ns[i]? = some k → ∃ ds', (∀ b : Bl, TgB (b.cx X scope) tg (own.map (·.2)) (enc k) (wipeD ds (own.map (·.2))) ds') ∧ ∀ b : Bl, EvM lk (b.cx X scope) elt ds' cs0 (out k) cs0) (hc : X.calm = true := by rfl) (hs : ∀ x, foldedSetIterable iter X.env x = pure x := by intro _; rfl) :
    EvM lk X (.ListComp elt [⟨tg, iter, [], 0⟩] scope pos) ds cs (.lst (ns.map out)) cs0 := by
  subst hx
  refine ev_map nd ok hi (by simp) (by simpa using hl) hG (fun i x y hx hy => ?_) hc hs
  rw [List.getElem?_map] at hx hy
  cases e : ns[i]? with
  | none => rw [e] at hx; cases hx
  | some k =>
    rw [e] at hx hy
    have h1 := Option.some.inj hx
    have h2 := Option.some.inj hy
    subst h1 h2
    exact turn i k e
/-- [out k for k in xs if g k] -/
theorem ev_filterG {α : Type} (ns : List α) (enc : α → D) (g : α → Bool) (out : α → D) (nd : X.N.Nodup) (ok : BlkOk X.N X.env.scope scope own) (hi : EvI lk X tg iter ds cs xs cs0 G) (hx : xs = ns.map enc) (hl : ns.length < 1000000) (hG : ∀ fr, G (cs0 ++ fr))
    (turn : ∀ (i : Nat) k, ns[i]? = some k → ∃ ds', (∀ b : Bl, TgB (b.cx X scope) tg (own.map (·.2)) (enc k) (wipeD ds (own.map (·.2))) ds') ∧ (∀ b : Bl, EvT lk (b.cx X scope) c ds' cs0 (g k) cs0) ∧ (g k = true → ∀ b : Bl, EvM lk (b.cx X scope) elt ds' cs0 (out k) cs0)) (hc : X.calm = true := by rfl) (hs : ∀ x, foldedSetIterable iter X.env x = pure x := by intro _; rfl) :
    EvM lk X (.ListComp elt [⟨tg, iter, [c], 0⟩] scope pos) ds cs (.lst ((ns.filter g).map out)) cs0 := by
  subst hx
  have hlen : (ns.map enc).length = ns.length := by simp
  have := ev_lc (ifs := [c]) (pos := pos) (elt := elt) nd ok hi (fun i => ((ns.take i).filter g).map out) (fun _ => cs0) rfl (by simp) (fun _ _ => hG) (fun i hi => by
    have := List.length_filter_le g (ns.take i)
    rw [List.length_map]; rw [List.length_take] at this; omega) (fun i x hx => by
    rw [List.getElem?_map] at hx
    cases e : ns[i]? with
    | none => rw [e] at hx; cases hx
    | some k =>
      rw [e] at hx
      have h1 := Option.some.inj hx
      subst h1
      obtain ⟨ds', t1, t2, t3⟩ := turn i k e
      refine ⟨ds', t1, ?_⟩
      have etk : ns.take (i + 1) = ns.take i ++ [k] := by rw [List.take_add_one, e]; rfl
      cases q : g k with
      | true =>
        rw [q] at t2
        exact .inl ⟨cs0, out k, .one t2, t3 q, by rw [etk, List.filter_append]; simp [q]⟩
      | false =>
        rw [q] at t2
        exact .inr ⟨.one t2, by rw [etk, List.filter_append]; simp [q]⟩) hc hs
  rwa [hlen, List.take_length] at this
end
section
variable {X : Cx} {tg elt c e : Expr} {scope : Scope} {own : List (Str × Nat)} {ds : Ds} {cs cs1 : Cs} {kvs : List (Int × D)} {pos : Pos}
/-- [k for k in d if g k] -/
theorem ev_filterK (g : Int → Bool) (nd : X.N.Nodup) (ok : BlkOk X.N X.env.scope scope own) (he : EvM [] X e ds cs (.dic kvs) cs1) (hl : kvs.length < 1000000)
    (turn : ∀ d (i : Nat) p, kvs[i]? = some p → ∃ ds', (∀ b : Bl, TgB (b.cx X scope) tg (own.map (·.2)) (.int p.1) (wipeD ds (own.map (·.2))) ds') ∧ (∀ b : Bl, EvT [d] (b.cx X scope) c ds' cs1 (g p.1) cs1) ∧ (g p.1 = true → ∀ b : Bl, EvM [d] (b.cx X scope) elt ds' cs1 (.int p.1) cs1)) (hc : X.calm = true := by rfl) (hs : ∀ x, foldedSetIterable e X.env x = pure x := by intro _; rfl) :
    EvM [] X (.ListComp elt [⟨tg, e, [c], 0⟩] scope pos) ds cs (.lst (dints ((kvs.map (·.1)).filter g))) cs1 := by
  have := ev_lcKeys (ifs := [c]) (pos := pos) (elt := elt) (tg := tg) nd ok he (fun i => dints (((kvs.take i).map (·.1)).filter g)) (fun _ => cs1) rfl (by simp [dints]) (fun i hi => by
    have := List.length_filter_le g ((kvs.take i).map (·.1))
    rw [dints_len]; rw [List.length_map, List.length_take] at this; omega) (fun d i x hx => by
    unfold keysD at hx
    rw [List.getElem?_map] at hx
    cases q : kvs[i]? with
    | none => rw [q] at hx; cases hx
    | some p =>
      rw [q] at hx
      have h1 := Option.some.inj hx
      subst h1
      obtain ⟨ds', t1, t2, t3⟩ := turn d i p q
      refine ⟨ds', t1, ?_⟩
      have etk : kvs.take (i + 1) = kvs.take i ++ [p] := by rw [List.take_add_one, q]; rfl
      cases z : g p.1 with
      | true =>
        rw [z] at t2
        exact .inl ⟨cs1, .int p.1, .one t2, t3 z, by rw [etk, List.map_append, List.filter_append]; simp [z, dints]⟩
      | false =>
        rw [z] at t2
        exact .inr ⟨.one t2, by rw [etk, List.map_append, List.filter_append]; simp [z]⟩) hc hs
  rwa [List.take_length] at this
end
section
variable {P : Program} {w : World} {K : PySem.W.Frag} {mg : Str → Option Value} {base : Heap} {f : Addr} {fd : FuncData}
abbrev N24 : List Str := ["pattern", "other", "found", "cell", "choice", "one", "worth"]
theorem sc24 : FnScope N24 ["pattern", "other"] (defScope (top 24)) := ⟨rfl, rfl, rfl, by decide +kernel, rfl, by decide +kernel, by decide +kernel⟩
theorem nodup_at {α : Type} {l : List α} (h : l.Nodup) {i j : Nat} {x : α} (hi : l[i]? = some x) (hj : l[j]? = some x) : i = j := by
  obtain ⟨h1, e1⟩ := List.getElem?_eq_some_iff.mp hi
  obtain ⟨h2, e2⟩ := List.getElem?_eq_some_iff.mp hj
  exact (List.getElem_inj h).mp (e1.trans e2.symm)
theorem kput_new {α : Type} {kvs : List (Int × α)} {k : Int} {x : α} (h : k ∉ kvs.map (·.1)) : kput kvs k x = kvs ++ [(k, x)] := by
  unfold kput
  rw [if_neg]
  intro e
  obtain ⟨p, hp, e⟩ := List.any_eq_true.mp e
  exact h (List.mem_map.mpr ⟨p, hp, of_decide_eq_true e⟩)
theorem plains_pat (p : Pat) : plains ((patD p).map (·.2)) = true := by
  induction p with
  | nil => rw [show (patD []).map (·.2) = [] from rfl, plains]
  | cons q p ih => rw [show (patD (q :: p)).map (·.2) = .tup (dints q.2) :: (patD p).map (·.2) from rfl, plains, plain_tup, ih]; rfl
theorem ok_met_by_both (T : Txt K mg) (F : Fun K "met_by_both" "met_by_both" (top 24) f fd) : FnOk P w K mg base CX0 1 f fd ["pattern", "other"] (spM false R_met_by_both) := by
  refine fn_okM F sc24 (by rintro _ _ _ _ ⟨p, o, _, _, rfl, _⟩; rfl) fun lk cdv A outer s H E xs cs y cs' hlk hr hR => ?_
  obtain ⟨p, o, ⟨p1, p2, p3⟩, ⟨o1, o2, o3⟩, rfl, rfl, rfl, rfl⟩ := hR
  obtain rfl := lk_nil hlk
  have nd : N24.Nodup := nd_of (by decide +kernel)
  have hu := hr.units
  have hu1 : (bcx P w K mg base N24 "met_by_both" (top 24) f cdv A outer s H E).A.units + 1 < cLine := by omega
  have hlu : (unionK p o).length ≤ 200 := by
    rw [(unionK_perm p o).length_eq, List.length_append, List.length_map]
    have := List.length_filter_le (fun c => !hasK p c) (o.map (·.1))
    rw [List.length_map] at this; omega
  refine sf_cons (s_setP 2 nd ep_dict fun x cs1 hx => ?_)
  obtain ⟨a, rfl, rfl⟩ := hx
  refine sf_cons (s_for (G := fun _ => True) (vs := [3]) (xs := dints (unionK p o)) (ei_lst (ev_callB (ea_cons (ev_lst (ea_starD (ev_v 0 rfl) (ea_starL (ev_filterK (own := [("one", 5)]) (kvs := patD o) (fun c => !hasK p c) nd (blk (top 24) N24 rfl rfl) (ev_v 1 rfl) (by rw [patD_len]; omega) ?turn) ea_nil)) ?len) ea_nil) ?srt T.zsorted b_sorted))
    (fun i ds' cs' => cs' = [(a, .dic (patD ((metB p o).take i)))] ∧ ∃ v3 v4 v5 v6, ds' = [some (.dic (patD p)), some (.dic (patD o)), some (.ptr a), v3, v4, v5, v6]) ⟨rfl, _, _, _, _, rfl⟩ (fun _ _ _ _ => trivial) ?step ?fin)
  case turn =>
    intro d i q hq
    have hq1 : ∃ z, o[i]? = some z ∧ q = (z.1, .tup (dints z.2)) := by
      unfold patD at hq
      rw [List.getElem?_map] at hq
      cases e : o[i]? with
      | none => rw [e] at hq; cases hq
      | some z => rw [e] at hq; exact ⟨z, rfl, (Option.some.inj hq).symm⟩
    refine ⟨_, fun b => tg_name 5 nd, fun b => ?_, fun _ b => ev_v 5 rfl⟩
    rw [show (!hasK p q.1) = !(kget (patD p) q.1).isSome by rw [patD_get1]; simp [hasK]]
    exact et_ninK hu1 (ev_v 5 rfl) (ev_v 0 rfl)
  case len =>
    rw [List.length_append, List.length_append, dints_len, dints_len]
    have := List.length_filter_le (fun c => !hasK p c) ((patD o).map (·.1))
    simp only [List.length_map, patD_len, List.length_nil] at *
    omega
  case srt =>
    have e : dints ((patD p).map (·.1)) ++ (dints (((patD o).map (·.1)).filter fun c => !hasK p c) ++ []) = dints (p.map (·.1) ++ (o.map (·.1)).filter fun c => !hasK p c) := by
      have k : ∀ z : Pat, (patD z).map (·.1) = z.map (·.1) := fun z => by unfold patD; rw [List.map_map]; rfl
      rw [k, k]; unfold dints; simp
    rw [e]
    exact cd_sorted (unionK_perm p o) (unionK_sorted p o)
  case step =>
    rintro i x ds' cs' hx ⟨rfl, v3, v4, v5, v6, rfl⟩
    obtain ⟨c, hc, rfl⟩ := dints_get hx
    have hcm : c ∈ unionK p o := List.mem_of_getElem? hc
    refine ⟨_, tg_name 3 nd, ?_⟩
    have hch : (kget (patD p) c).getD ((kget (patD o) c).getD .non) = .tup (dints ((kget p c).getD ((kget o c).getD []))) := by
      rw [patD_get1, patD_get1]
      rcases mem_unionK.mp hcm with h | h
      · unfold hasK at h
        cases e : kget p c with
        | none => rw [e] at h; cases h
        | some v => rfl
      · unfold hasK at h
        cases e : kget p c with
        | none =>
          cases e2 : kget o c with
          | none => rw [e2] at h; cases h
          | some v => rfl
        | some v => rfl
    have hln : ∀ z : Pat, (∀ q ∈ z, q.2.length ≤ 1000) → ((kget z c).getD []).length ≤ 1000 := fun z hz => by
      cases e : kget z c with
      | none => simp
      | some v => exact hz _ (kget_mem e)
    have hl : ((kget p c).getD ((kget o c).getD [])).length ≤ 1000 := by
      cases e : kget p c with
      | none => exact hln o o3
      | some v => have := hln p p3; rw [e] at this; exact this
    generalize hg : (kget p c).getD ((kget o c).getD []) = ch at hch hl
    refine sf_cons (s_set 4 nd (x := .tup (dints ch)) (by rw [← hch]; exact ev_get2 hu1 (ev_v 0 rfl) (ev_v 3 rfl) (ev_get1 hu1 (ev_v 1 rfl) (ev_v 3 rfl))) ?_)
    have hoc : (kget (patD o) c).getD (.tup (dints ch)) = .tup (dints ((kget o c).getD ch)) := by
      rw [patD_get1]
      cases e : kget o c with
      | none => rfl
      | some v => rfl
    have hmc : metC p o c = ch.filter fun w => decide (w ∈ (kget o c).getD ch) := by unfold metC; rw [hg]
    refine sf_cons (s_dput 0 hu1 (ev_callTy (ea_cons (ev_filterG (own := [("worth", 6)]) ch D.int (fun w => decide (w ∈ (kget o c).getD ch)) D.int nd (blk (top 24) N24 rfl rfl) (ei_tup (ev_v 4 rfl)) rfl (by omega) (fun _ => trivial) fun j k hk => ?_) ea_nil) cd_tupL T.ztuple b_tuple)
      (ev_v 2 rfl) (ev_v 3 rfl) rfl (by rw [patD_len, List.length_take]; unfold metB; rw [List.length_map]; omega) ?_)
    · refine ⟨_, fun b => tg_name 6 nd, fun b => ?_, fun _ b => ev_v 6 rfl⟩
      refine et_cmp (ev_v 6 rfl) (y := .tup (dints ((kget o c).getD ch))) (by rw [← hoc]; exact ev_get2 hu1 (ev_v 1 rfl) (ev_v 3 rfl) (ev_v 4 rfl)) od_inU
    · refine sf_nil ⟨?_, _, _, _, _, rfl⟩
      have hlen : (metB p o).length = (unionK p o).length := by unfold metB; simp
      have hi : i < (metB p o).length := by rw [hlen]; exact (List.getElem?_eq_some_iff.mp hc).1
      have hgi : (metB p o)[i]? = some (c, metC p o c) := by unfold metB; rw [List.getElem?_map, hc]; rfl
      have hnk : c ∉ ((patD ((metB p o).take i)).map (·.1)) := by
        have k : ∀ z : Pat, (patD z).map (·.1) = z.map (·.1) := fun z => by unfold patD; rw [List.map_map]; rfl
        rw [k, List.map_take, metB_keys]
        intro h
        obtain ⟨j, hj, e⟩ := List.getElem_of_mem h
        rw [List.length_take] at hj
        rw [List.getElem_take] at e
        have e2 : (unionK p o)[j]? = some c := by rw [List.getElem?_eq_getElem (by omega), e]
        have := nodup_at (unionK_nodup p1 o1) e2 hc
        omega
      rw [kput_new hnk]
      have : patD ((metB p o).take (i + 1)) = patD ((metB p o).take i) ++ [(c, .tup (dints (metC p o c)))] := by
        rw [List.take_add_one, hgi]; unfold patD; simp
      rw [this, hmc]
      rfl
  case fin =>
    rintro ds' cs' ⟨rfl, v3, v4, v5, v6, rfl⟩
    have hlen : (dints (unionK p o)).length = (metB p o).length := by unfold metB; rw [dints_len, List.length_map]
    rw [hlen, List.take_length]
    have hmem : (D.tup (dints [])) ∈ (patD (metB p o)).map (·.2) ↔ [] ∈ (metB p o).map (·.2) := by
      unfold patD
      rw [List.map_map]
      constructor
      · intro h
        obtain ⟨q, hq, e⟩ := List.mem_map.mp h
        have : dints q.2 = dints [] := by injection e
        exact List.mem_map.mpr ⟨q, hq, dints_inj.mp this⟩
      · intro h
        obtain ⟨q, hq, e⟩ := List.mem_map.mp h
        exact List.mem_map.mpr ⟨q, hq, by show D.tup (dints q.2) = _; rw [e]⟩
    refine sf_cons (s_ret (ev_if (t := !decide ([] ∈ (metB p o).map (·.2))) (et_ninVals 0 (by omega) (ev_tup ea_nil) (ev_v 2 rfl) rfl (by rw [plain]; rfl) (plains_pat _) (by decide) (by rw [decide_eq_true_iff]; exact hmem.symm))
      (x := optPat (metR p o)) (fun h => ?_) (fun h => ?_)) ⟨rfl, rfl⟩)
    · have : metR p o = some (metB p o) := by unfold metR; rw [if_neg (by simpa using h)]
      rw [this]
      exact EvP.dic ((ev_v 2 rfl).p ⟨a, rfl, rfl⟩)
    · have : metR p o = none := by unfold metR; rw [if_pos (by simpa using h)]
      rw [this]
      exact EvM.drop (cs1 := []) ev_non
end
end Af
set_option Elab.async false
set_option linter.all false
set_option maxRecDepth 100000
set_option maxHeartbeats 2000000
/-! ### afterfall.plans: steps, pieces -/
namespace Af
open PySem L2

abbrev Step := Option (Int × List Int)
def stepD : Step → D
  | none => .non
  | some (f, ws) => .tup [.int f, .tup (dints ws)]
def GoodStep (n : Int) : Step → Prop
  | none => True
  | some (f, ws) => 0 ≤ f ∧ f < n ∧ Worths ws ∧ f + (ws.length : Int) ≤ n
abbrev Piece := Nat × Int × List Int
def pieceD (p : Piece) : D := .tup [.int p.1, .int p.2.1, .tup (dints p.2.2)]
/-- the pieces of one write, the first k places seen -/
def brkN (idx : Nat) (f : Int) (ws : List Int) (w : Int) : Nat → List Piece × Nat
  | 0 => ([], 0)
  | k + 1 => let r := brkN idx f ws w k
    if k + 1 = ws.length ∨ (f + ((k + 1 : Nat) : Int)) % w = 0 then (r.1 ++ [(idx, f + (r.2 : Int), (ws.drop r.2).take (k + 1 - r.2))], k + 1) else r
def brk (idx : Nat) (f : Int) (ws : List Int) (w : Int) : List Piece := (brkN idx f ws w ws.length).1
theorem brkN_le (idx : Nat) (f : Int) (ws : List Int) (w : Int) : ∀ k, (brkN idx f ws w k).2 ≤ k ∧ (brkN idx f ws w k).1.length ≤ k
  | 0 => ⟨Nat.le_refl _, Nat.le_refl _⟩
  | k + 1 => by
    have ih := brkN_le idx f ws w k
    unfold brkN
    dsimp only
    split
    · refine ⟨Nat.le_refl _, ?_⟩
      rw [List.length_append]; simp; exact ih.2
    · exact ⟨Nat.le_succ_of_le ih.1, Nat.le_succ_of_le ih.2⟩
def stepPcs (w : Int) (i : Nat) : Step → List Piece
  | none => []
  | some (f, ws) => brk i f ws w
def pcsN (w : Int) (st : List Step) : List Piece := st.zipIdx.flatMap fun s => stepPcs w s.2 s.1
theorem cut_nat {xs : List D} {a b : Nat} (h : a ≤ b) (hb : b ≤ xs.length) : cutD xs (some (a : Int)) (some (b : Int)) = (xs.drop a).take (b - a) := by
  unfold cutD
  rw [HT.sIx_nat, HT.sIx_nat, Nat.min_eq_left (Nat.le_trans h hb), Nat.min_eq_left hb]
theorem cut_to {xs : List D} {b : Nat} (hb : b ≤ xs.length) : cutD xs none (some (b : Int)) = xs.take b := by
  unfold cutD
  rw [HT.sIx_nat, HT.sIx_none, Nat.min_eq_left hb]; simp
theorem cut_from {xs : List D} {a : Nat} (ha : a ≤ xs.length) : cutD xs (some (a : Int)) none = xs.drop a := by
  unfold cutD
  rw [HT.sIx_nat, HT.sIx_none, Nat.min_eq_left ha]
  exact List.take_of_length_le (by simp)
theorem dints_cut (ws : List Int) (a b : Nat) : ((dints ws).drop a).take b = dints ((ws.drop a).take b) := by unfold dints; rw [← List.map_drop, ← List.map_take]
def R_is_step (xs : List D) (cs : Cs) (y : D) (cs' : Cs) : Prop := ∃ n s, GoodStep n s ∧ xs = [.int n, stepD s] ∧ cs = [] ∧ y = .bl true ∧ cs' = []
def R_broken (xs : List D) (cs : Cs) (y : D) (cs' : Cs) : Prop := ∃ (i : Nat) (f : Int) (ws : List Int) (w : Int), 0 < w ∧ ws.length ≤ 1000 ∧ xs = [.int i, .tup [.int f, .tup (dints ws)], .int w] ∧ cs = [] ∧ y = .lst ((brk i f ws w).map pieceD) ∧ cs' = []
def R_pieces_of (xs : List D) (cs : Cs) (y : D) (cs' : Cs) : Prop := ∃ (st : List Step) (w : Int), 0 < w ∧ st.length ≤ 100 ∧ (∀ s ∈ st, ∀ f ws, s = some (f, ws) → ws.length ≤ 24) ∧ xs = [.lst (st.map stepD), .int w] ∧ cs = [] ∧ y = .lst ((pcsN w st).map pieceD) ∧ cs' = []
section
variable {P : Program} {w : World} {K : PySem.W.Frag} {mg : Str → Option Value} {base : Heap} {f : Addr} {fd : FuncData}
theorem sc28 : FnScope ["cells", "thing"] ["cells", "thing"] (defScope (top 28)) := ⟨rfl, rfl, rfl, by decide +kernel, rfl, by decide +kernel, by decide +kernel⟩
theorem ok_is_step (T : Txt K mg) (F : Fun K "is_step" "is_step" (top 28) f fd) (c_is_below : Cal P w K mg base 2 "is_below" (spM true R_is_below)) (c_are_worths : Cal P w K mg base 3 "are_worths" (spM true R_are_worths)) : FnOk P w K mg base CX0 4 f fd ["cells", "thing"] (spM true R_is_step) := by
  refine fn_okM F sc28 (by rintro _ _ _ _ ⟨n, s, _, rfl, _⟩; rfl) fun lk cdv A outer s H E xs cs y cs' hlk hr hR => ?_
  obtain ⟨n, st, hg, rfl, rfl, rfl, rfl⟩ := hR
  cases st with
  | none => exact sf_cons (s_ifT (et_cmp (ev_v 1 rfl) ev_non od_is) (sf_cons (s_ret ev_bl ⟨rfl, rfl⟩)))
  | some q =>
    obtain ⟨g, ws⟩ := q
    obtain ⟨h1, h2, h3, h4⟩ := hg
    refine sf_cons (s_ifF (et_cmp (ev_v 1 rfl) ev_non od_is) (sf_nil ?_))
    refine sf_cons (s_ifF (et_w (ew_orF (et_not (t := true) (et_val (ev_isi (ev_v 1 rfl) ty_tup k_tuple T.zisinstance T.ztuple b_isi b_tuple))) (ew_orF (et_cmp (ev_callB (ea_cons (ev_v 1 rfl) ea_nil) cd_lenU T.zlen b_len) ev_int od_neI)
      (ew_orF (et_not (t := true) (et_val (ev_callP c_is_below hr (by decide) (ea_cons (ev_ixU (ev_v 1 rfl) ev_int rfl) (ea_cons (ev_v 0 rfl) ea_nil)) ⟨g, n, rfl, rfl, by simp [h1, h2], rfl⟩ (.inl rfl))))
        (ew_or1 (et_not (t := true) (et_val (ev_callP c_are_worths hr (by decide) (ea_cons (ev_ixU (ev_v 1 rfl) ev_int rfl) ea_nil) ⟨ws, h3, rfl, rfl, rfl, rfl⟩ (.inl rfl)))))))) ) (sf_nil ?_))
    refine sf_cons (s_ret (ev_cmp (ev_op (ev_ixU (ev_v 1 rfl) ev_int rfl) (ev_callB (ea_cons (ev_ixU (ev_v 1 rfl) ev_int rfl) ea_nil) cd_lenU T.zlen b_len) od_add) (ev_v 0 rfl) od_le) ⟨?_, rfl⟩)
    rw [dints_len]; simp [h4]
abbrev N29 : List Str := ["index", "step", "width", "first", "worths", "found", "start", "place"]
theorem sc29 : FnScope N29 ["index", "step", "width"] (defScope (top 29)) := ⟨rfl, rfl, rfl, by decide +kernel, rfl, by decide +kernel, by decide +kernel⟩
theorem ok_broken (T : Txt K mg) (F : Fun K "broken" "broken" (top 29) f fd) : FnOk P w K mg base CX0 1 f fd ["index", "step", "width"] (spM true R_broken) := by
  refine fn_okM F sc29 (by rintro _ _ _ _ ⟨i, f, ws, w, _, _, rfl, _⟩; rfl) fun lk cdv A outer s H E xs cs y cs' hlk hr hR => ?_
  obtain ⟨ix, g, ws, wd, hw, hl, rfl, rfl, rfl, rfl⟩ := hR
  have nd : N29.Nodup := nd_of (by decide +kernel)
  refine sf_cons (s_tgt (vs := [3, 4]) (ev_v 1 rfl) (tg_tup2 3 4 nd) ?_)
  refine sf_cons (s_setP 5 nd (ep_lst ea_nil) fun x cs1 hx => ?_)
  obtain ⟨a, rfl, rfl⟩ := hx
  refine sf_cons (s_set 6 nd ev_int ?_)
  refine sf_cons (s_for (G := fun _ => True) (vs := [7]) (ei_range2 T.zrange ev_int (ev_op (ev_callB (ea_cons (ev_v 4 rfl) ea_nil) cd_lenU T.zlen b_len) ev_int od_add) (by rw [dints_len]; omega))
    (fun k ds' cs' => cs' = [(a, .lst ((brkN ix g ws wd k).1.map pieceD))] ∧ ∃ v7, ds' = [some (.int ix), some (.tup [.int g, .tup (dints ws)]), some (.int wd), some (.int g), some (.tup (dints ws)), some (.ptr a), some (.int ((brkN ix g ws wd k).2 : Int)), v7]) ⟨rfl, _, rfl⟩ (fun _ _ _ _ => trivial) ?step ?fin)
  case step =>
    rintro k x ds' cs' hx ⟨rfl, v7, rfl⟩
    obtain ⟨hk, rfl⟩ := rng_get hx
    have hk' : k < ws.length := by rw [dints_len] at hk; omega
    have e1 : (1 : Int) + (k : Int) = ((k + 1 : Nat) : Int) := by omega
    rw [e1]
    refine ⟨_, tg_name 7 nd, ?_⟩
    have hb := brkN_le ix g ws wd k
    refine sf_cons (s_if (et_w (ew_or (et_cmp (ev_v 7 rfl) (ev_callB (ea_cons (ev_v 4 rfl) ea_nil) cd_lenU T.zlen b_len) od_eqI) (fun _ => ew_or1 (et_cmp (ev_op (ev_op (ev_v 3 rfl) (ev_v 7 rfl) od_add) (ev_v 2 rfl) (od_mod hw)) ev_int od_eqI)))) (fun ht => ?_) fun ht => ?_)
    · have hc : k + 1 = ws.length ∨ (g + ((k + 1 : Nat) : Int)) % wd = 0 := by
        rw [dints_len, Bool.or_eq_true, decide_eq_true_eq, decide_eq_true_eq] at ht
        rcases ht with z | z
        · left; omega
        · right; exact z
      have er : brkN ix g ws wd (k + 1) = ((brkN ix g ws wd k).1 ++ [(ix, g + ((brkN ix g ws wd k).2 : Int), (ws.drop (brkN ix g ws wd k).2).take (k + 1 - (brkN ix g ws wd k).2))], k + 1) := by
        show (if _ then _ else _) = _
        rw [if_pos hc]
      refine sf_cons (s_expr (ev_append 0 (ev_v 5 rfl) rfl (ev_tup (ea_cons (ev_v 0 rfl) (ea_cons (ev_op (ev_v 3 rfl) (ev_v 6 rfl) od_add) (ea_cons (ev_slU (ev_v 4 rfl) (eo_some (ev_v 6 rfl)) (eo_some (ev_v 7 rfl))) ea_nil))) (by simp)) rfl (by rw [List.length_map]; omega)) ?_)
      refine sf_cons (s_set 6 nd (ev_v 7 rfl) (sf_nil (sf_nil ⟨?_, some (.int ((k + 1 : Nat) : Int)), ?_⟩)))
      · rw [er, cut_nat (by omega) (by rw [dints_len]; omega), dints_cut]
        simp [pieceD]
      · rw [er]; rfl
    · have hc : ¬ (k + 1 = ws.length ∨ (g + ((k + 1 : Nat) : Int)) % wd = 0) := by
        rw [dints_len, Bool.or_eq_false_iff, decide_eq_false_iff_not, decide_eq_false_iff_not] at ht
        rintro (z | z)
        · exact ht.1 (by omega)
        · exact ht.2 z
      have er : brkN ix g ws wd (k + 1) = brkN ix g ws wd k := by
        show (if _ then _ else _) = _
        rw [if_neg hc]
      exact sf_nil (sf_nil ⟨by rw [er], some (.int ((k + 1 : Nat) : Int)), by rw [er]; rfl⟩)
  case fin =>
    rintro ds' cs' ⟨rfl, v7, rfl⟩
    have e : (rng 1 (((dints ws).length : Int) + 1 - 1).toNat).length = ws.length := by rw [rng_len, dints_len]; omega
    rw [e]
    exact SF.freezeL 5 0 rfl rfl (sf_cons (s_ret (ev_v 5 rfl) ⟨rfl, rfl⟩))
abbrev N30 : List Str := ["steps", "width", "found", "index", "step"]
theorem sc30 : FnScope N30 ["steps", "width"] (defScope (top 30)) := ⟨rfl, rfl, rfl, by decide +kernel, rfl, by decide +kernel, by decide +kernel⟩
theorem ok_pieces_of (T : Txt K mg) (F : Fun K "pieces_of" "pieces_of" (top 30) f fd) (c_broken : Cal P w K mg base 1 "broken" (spM true R_broken)) : FnOk P w K mg base CX0 2 f fd ["steps", "width"] (spM false R_pieces_of) := by
  refine fn_okM F sc30 (by rintro _ _ _ _ ⟨st, w, _, _, _, rfl, _⟩; rfl) fun lk cdv A outer s H E xs cs y cs' hlk hr hR => ?_
  obtain ⟨st, wd, hw, hl, hs, rfl, rfl, rfl, rfl⟩ := hR
  obtain rfl := lk_nil hlk
  have nd : N30.Nodup := nd_of (by decide +kernel)
  have hlen : ∀ k, k ≤ st.length → (pcsN wd (st.take k)).length ≤ 24 * k := by
    intro k
    induction k with
    | zero => intro _; simp [pcsN]
    | succ k ih =>
      intro hk
      have hi : st[k]? = some st[k] := List.getElem?_eq_getElem (by omega)
      have e : st.take (k + 1) = st.take k ++ [st[k]] := by rw [List.take_add_one, hi]; rfl
      have e2 : pcsN wd (st.take (k + 1)) = pcsN wd (st.take k) ++ stepPcs wd k st[k] := by
        unfold pcsN
        rw [e, List.zipIdx_append, List.flatMap_append]; simp [Nat.min_eq_left (show k ≤ st.length by omega)]
      rw [e2, List.length_append]
      have := ih (by omega)
      have h2 : (stepPcs wd k st[k]).length ≤ 24 := by
        cases q : st[k] with
        | none => simp [stepPcs]
        | some v =>
          obtain ⟨g, ws⟩ := v
          have := hs st[k] (List.getElem_mem _) g ws q
          have h3 := (brkN_le k g ws wd ws.length).2
          show (brkN k g ws wd ws.length).1.length ≤ 24
          omega
      omega
  refine sf_cons (s_setP 2 nd (ep_lst ea_nil) fun x cs1 hx => ?_)
  obtain ⟨a, rfl, rfl⟩ := hx
  refine sf_cons (s_for (G := fun _ => True) (vs := [3, 4]) (ei_enumL T.zenumerate (ev_v 0 rfl))
    (fun k ds' cs' => cs' = [(a, .lst ((pcsN wd (st.take k)).map pieceD))] ∧ ∃ v3 v4, ds' = [some (.lst (st.map stepD)), some (.int wd), some (.ptr a), v3, v4]) ⟨rfl, _, _, rfl⟩ (fun _ _ _ _ => trivial) ?step ?fin)
  case step =>
    rintro k x ds' cs' hx ⟨rfl, v3, v4, rfl⟩
    obtain ⟨sd, hs2, rfl⟩ := enumD_get hx
    rw [List.getElem?_map] at hs2
    cases hi : st[k]? with
    | none => rw [hi] at hs2; cases hs2
    | some sp =>
      rw [hi] at hs2
      have e0 := Option.some.inj hs2
      subst e0
      have hk : k < st.length := (List.getElem?_eq_some_iff.mp hi).1
      refine ⟨_, tg_tup2 3 4 nd, ?_⟩
      have e : st.take (k + 1) = st.take k ++ [sp] := by rw [List.take_add_one, hi]; rfl
      have e2 : pcsN wd (st.take (k + 1)) = pcsN wd (st.take k) ++ stepPcs wd k sp := by
        unfold pcsN
        rw [e, List.zipIdx_append, List.flatMap_append]; simp [Nat.min_eq_left (Nat.le_of_lt hk)]
      cases sp with
      | none =>
        refine sf_cons (s_ifF (et_cmp (ev_v 4 rfl) ev_non od_isnot) (sf_nil (sf_nil ⟨?_, _, _, rfl⟩)))
        rw [e2]; simp [stepPcs]
      | some v =>
        obtain ⟨g, ws⟩ := v
        have hws := hs _ (List.mem_of_getElem? hi) g ws rfl
        have hl1 := hlen k (Nat.le_of_lt hk)
        have hl2 : (brk k g ws wd).length ≤ 24 := by
          have h3 := (brkN_le k g ws wd ws.length).2
          show (brkN k g ws wd ws.length).1.length ≤ 24
          omega
        refine sf_cons (s_ifT (et_cmp (ev_v 4 rfl) ev_non od_isnot) (sf_cons (s_expr (ev_extend 0 (ev_v 2 rfl) rfl (ev_callP c_broken hr (by decide) (ea_cons (ev_v 3 rfl) (ea_cons (ev_v 4 rfl) (ea_cons (ev_v 1 rfl) ea_nil))) ⟨k, g, ws, wd, hw, by omega, rfl, rfl, rfl, rfl⟩ (.inl rfl)) rfl (by rw [List.length_map, List.length_map]; omega)) (sf_nil (sf_nil ⟨?_, _, _, rfl⟩)))))
        rw [e2]; simp [stepPcs]
  case fin =>
    rintro ds' cs' ⟨rfl, v3, v4, rfl⟩
    have e : (enumD (st.map stepD)).length = st.length := by rw [enumD_len, List.length_map]
    rw [e, List.take_length]
    exact SF.freezeL 2 0 rfl rfl (sf_cons (s_ret (ev_v 2 rfl) ⟨rfl, rfl⟩))
end
end Af
set_option Elab.async false
set_option linter.all false
set_option maxRecDepth 100000
set_option maxHeartbeats 2000000
/-! ### afterfall.plans.Plan -/
namespace Af
open PySem L2

theorem OpD.cast {lk : List Addr} {X : Cx} {f : Value → Value → Sem Value} {x y : D} {cs cs1 : Cs} {t u : Bool} (h : OpD lk X f x y cs (.bl t) cs1) (e : t = u) : OpD lk X f x y cs (.bl u) cs1 := e ▸ h
theorem EvT.cast {lk : List Addr} {X : Cx} {e : Expr} {ds : Ds} {cs cs1 : Cs} {t u : Bool} (h : EvT lk X e ds cs t cs1) (q : t = u) : EvT lk X e ds cs u cs1 := q ▸ h
theorem EvM.cast {lk : List Addr} {X : Cx} {e : Expr} {ds : Ds} {cs cs1 : Cs} {x y : D} (h : EvM lk X e ds cs x cs1) (q : x = y) : EvM lk X e ds cs y cs1 := q ▸ h
theorem et_chainT {lk : List Addr} {X : Cx} {a b c : Expr} {ds : Ds} {cs cs1 cs2 : Cs} {x y z : D} {pos : Pos} {op op' : CmpOp} {t : Bool} (ha : EvM lk X a ds cs x cs1) (hb : EvM lk X b ds cs1 y cs2) (ho : OpD lk X (compareOp op) x y cs2 (.bl true) cs2) (hc : EvM lk X c ds cs2 z cs2) (ho' : OpD lk X (compareOp op') y z cs2 (.bl t) cs2) (hm : lastMarks [op, op'] [b, c] = false := by with_unfolding_all rfl) :
    EvT lk X (.Compare a [op, op'] [b, c] pos) ds cs t cs2 := fun σ S H O E Q q =>
  run_t (pt_chain op_w op_w pe_w pe_w pe_w hm) (ha σ S H O E _ fun v S1 H1 O1 s1 r1 => hb σ S1 H1 O1 (E.mono s1.ext) _ fun u S2 H2 O2 s2 r2 =>
    ho S2 H2 v u O2 (r1.mono s2.ext) r2 _ fun k S3 H3 O3 s3 r3 => by
      rw [Rep] at r3
      refine ⟨true, r3, ?_⟩
      rw [if_pos rfl]
      exact hc σ S3 H3 O3 (E.mono ((s1.trans s2).trans s3).ext) _ fun k' S4 H4 O4 s4 r4 => ho' S4 H4 u k' O4 (r2.mono (s3.trans s4).ext) r4 _ fun k5 S5 H5 O5 s5 r5 =>
        ⟨t, rep_bl.mp r5, q S5 H5 O5 ((((s1.trans s2).trans s3).trans s4).trans s5)⟩)
theorem fput_add {f : Str} {x : D} : ∀ {fs : List (Str × D)}, ((fs.map (·.1)).all fun g => !decide (g = f)) = true → fput f x fs = fs ++ [(f, x)]
  | [], _ => rfl
  | q :: r, h => by
    rw [List.map_cons, List.all_cons, Bool.and_eq_true] at h
    have hq : q.1 ≠ f := by simpa using h.1
    unfold fput
    rw [if_neg hq, fput_add h.2]; rfl
structure ClsPlan (K : PySem.W.Frag) (C : Addr) : Prop where
  cls : Cls K C
  nstart : NoAttr K C "start"
  nspan : NoAttr K C "span"
  ndeeds : NoAttr K C "deeds"
  nparts : NoAttr K C "parts"
  nranks : NoAttr K C "ranks"
def rksN (w : Int) (st : List Step) : List Nat := (pcsN w st).map fun p => (st.take p.1).countP (·.isNone)
/-- a plan as it is given -/
structure PIn where
  b : List Int
  w : Int
  st : List Step
namespace PIn
def pl (p : PIn) : Pl := { base := p.b, parts := pcsN p.w p.st, ranks := rksN p.w p.st, epochs := p.st.countP (·.isNone) + 1 }
def flds (p : PIn) : List (Str × D) := [("start", .tup (dints p.b)), ("span", .int p.w), ("deeds", .lst (p.st.map stepD)), ("parts", .lst ((pcsN p.w p.st).map pieceD)), ("ranks", .lst (dints ((rksN p.w p.st).map fun (r : Nat) => (r : Int))))]
structure Good (p : PIn) : Prop where
  base : Worths p.b
  w1 : 1 ≤ p.w
  w2 : p.w ≤ 24
  len : p.st.length ≤ 40
  steps : ∀ s ∈ p.st, GoodStep p.b.length s
  few : (pcsN p.w p.st).length ≤ 40
end PIn
def planD (C : Addr) (p : PIn) : D := .ins C p.flds
def R_init (C : Addr) (xs : List D) (cs : Cs) (y : D) (cs' : Cs) : Prop := ∃ x dx p, PIn.Good p ∧ xs = [.ptr x, .tup (dints p.b), .int p.w, .lst (p.st.map stepD)] ∧ cs = [(x, .ins C dx [])] ∧ y = .non ∧ cs' = [(x, .ins C dx p.flds)]
def R_base (C : Addr) (xs : List D) (cs : Cs) (y : D) (cs' : Cs) : Prop := ∃ p, xs = [planD C p] ∧ cs = [] ∧ y = .tup (dints p.b) ∧ cs' = []
def R_epochs (C : Addr) (xs : List D) (cs : Cs) (y : D) (cs' : Cs) : Prop := ∃ p, xs = [planD C p] ∧ cs = [] ∧ y = .int (p.pl.epochs : Nat) ∧ cs' = []
def PIn.with_ (p : PIn) (i : Nat) (s : Step) : PIn := { p with st := p.st.take i ++ s :: p.st.drop i }
def PIn.without (p : PIn) (i : Nat) : PIn := { p with st := p.st.take i ++ p.st.drop (i + 1) }
def R_with_step (C : Addr) (xs : List D) (cs : Cs) (y : D) (cs' : Cs) : Prop := ∃ (p : PIn) (i : Nat) (s : Step), p.Good ∧ i ≤ p.st.length ∧ GoodStep p.b.length s ∧ (p.with_ i s).Good ∧ xs = [planD C p, .int i, stepD s] ∧ cs = [] ∧ y = planD C (p.with_ i s) ∧ cs' = []
def R_without_step (C : Addr) (xs : List D) (cs : Cs) (y : D) (cs' : Cs) : Prop := ∃ (p : PIn) (i : Nat), p.Good ∧ i < p.st.length ∧ (p.without i).Good ∧ xs = [planD C p, .int i] ∧ cs = [] ∧ y = planD C (p.without i) ∧ cs' = []
def cellD (kvs : List (Int × Int)) : List (Int × D) := kvs.map fun q => (q.1, .int q.2)
def R_cells_in (C : Addr) (xs : List D) (cs : Cs) (y : D) (cs' : Cs) : Prop := ∃ (p : PIn) (i : Nat), p.Good ∧ i < p.pl.n ∧ xs = [planD C p, .int i] ∧ cs = [] ∧ y = .dic (cellD (p.pl.wr i)) ∧ cs' = []
section
variable {X : Cx} {a e : Expr} {es : List Expr} {ds : Ds} {cs cs2 : Cs} {xs : List D} {pos p2 : Pos} {k j : Nat} {n : Str} {R : List D → Cs → D → Cs → Prop}
/-- a new instance that stays as __init__ has left it -/
theorem ev_make {C : Addr} {fs : List (Str × D)} {ok : Bool} (c : Mak X.prog X.w X.K X.mg X.base k n C (spM ok R)) (hr : Room j X.A) (hk : k + 1 ≤ j) (ha : EvA [] X (a :: es) ds cs xs cs2) (h : ∀ x dx, R (.ptr x :: xs) [(x, .ins C dx [])] .non [(x, .ins C dx fs)]) (hg : Gl X n := by rfl)
    (hdb : (n == ("__debug__" : Str)) = false := by decide) (he : starEach (a :: es) X.env = (false, eval a X.env) :: starEach es X.env := by rfl) (hpl : (backTo pos (starEach es X.env)).any (·.1) = false := by rfl) :
    EvM [] X (.Call (.Name n p2) (a :: es) [] pos) ds cs (.ins C fs) cs2 := by
  refine EvP.ins (Q := fun _ => True) fun σ S H O E Q q => ?_
  obtain ⟨f, fd, ps, M, hm, F, b⟩ := c.ex
  refine run_e (pe_make M F (hr.mono hk) hg hm b .nil (E := E0) pass0 pa_w hdb he hpl) (ha σ S H O E _ fun vs S1 H1 O1 s1 r1 => ?_)
  intro x dx hx hdx hne
  have hSx := O1.lies.ne hx
  have hSd := O1.lies.ne hdx
  have hxd : upd H1 dx (.own x) x = none := by rw [upd_ne (Ne.symm hne)]; exact hx
  have O2 : Own [] S1 (upd H1 dx (.own x)) cs2 := by
    refine ⟨fun a o e => .inl ?_, O1.nd, fun p hp => ⟨(O1.cell p hp).1, (O1.cell p hp).2.mono (.refl S1) fun o e => ?_⟩⟩
    · rw [upd_ne (fun z => by rw [z, hSd] at e; cases e)]; exact O1.lies.open a o e
    · rw [upd_ne (fun z => by rw [z, hdx] at e; cases e)]; exact e
  have s2 : Stp cs2 S1 H1 S1 (upd H1 dx (.own x)) cs2 := by
    refine ⟨.refl S1, fun a o e _ => ?_, fun _ _ _ => rfl, fun a e => ?_, fun _ h => .inl h⟩
    · rw [upd_ne (fun z => by rw [z, hdx] at e; cases e)]; exact e
    · rw [upd_ne (fun z => e (by rw [z]; exact hdx))]; exact e
  have O3 : Own [] S1 (upd (upd H1 dx (.own x)) x (.ins C dx [])) (cs2 ++ [(x, .ins C dx [])]) := O2.allocC hxd ⟨[], upd_same, .nil⟩
  have s3 : Stp cs2 S1 (upd H1 dx (.own x)) S1 (upd (upd H1 dx (.own x)) x (.ins C dx [])) (cs2 ++ [(x, .ins C dx [])]) := .allocC hxd
  have O4 : Own [] S1 (upd (upd H1 dx (.own x)) x (.ins C dx [])) ([(x, .ins C dx [])] ++ cs2) := by
    refine ⟨O3.lies, ?_, fun p hp => O3.cell p ?_⟩
    · have := O3.nd
      rw [List.map_append] at this ⊢
      exact (List.perm_append_comm.nodup_iff).mp this
    · rcases List.mem_append.mp hp with h | h
      · exact List.mem_append_right _ h
      · exact List.mem_append_left _ h
  have s4 : Stp cs2 S1 (upd H1 dx (.own x)) S1 (upd (upd H1 dx (.own x)) x (.ins C dx [])) ([(x, .ins C dx [])] ++ cs2) := by
    refine ⟨s3.ext, s3.keep, s3.out, s3.dom, fun a h => s3.new a ?_⟩
    rw [List.map_append] at h ⊢
    rcases List.mem_append.mp h with h | h
    · exact List.mem_append_right _ h
    · exact List.mem_append_left _ h
  rw [List.append_nil]
  refine ⟨[], S1, .ptr x :: xs, [(x, .ins C dx [])], .non, [(x, .ins C dx fs)], .inr rfl, O4.left, .cons (rep_ptr.mpr rfl) r1, h x dx, fun v S5 H5 O5 s5 r5 => ?_⟩
  exact ⟨rep_non.mp r5, q (.ptr x) _ ⟨x, dx, rfl, rfl⟩ _ S5 H5 (O4.frame O5 s5) (((s1.trans s2).trans s4).trans (.frame O4 s5)) (rep_ptr.mpr rfl)⟩
end
theorem stepD_plain (s : Step) : plain (stepD s) = true := by
  cases s with
  | none => rfl
  | some q => obtain ⟨g, ws⟩ := q; simp [stepD, plain, plains, plains_ints]
theorem steps_plain : ∀ st : List Step, plains (st.map stepD) = true
  | [] => by rw [List.map_nil, plains]
  | s :: st => by rw [List.map_cons, plains, stepD_plain, steps_plain st]; rfl
theorem steps_none (st : List Step) : (st.map stepD).countP D.isNon = st.countP (·.isNone) := by
  rw [List.countP_map]
  congr 1
  funext s
  cases s <;> rfl
section
variable {P : Program} {w : World} {K : PySem.W.Frag} {mg : Str → Option Value} {base : Heap} {f : Addr} {fd : FuncData} {C : Addr}
abbrev Ninit : List Str := ["self", "base", "width", "steps", "step", "part"]
theorem sc31_0 : FnScope Ninit ["self", "base", "width", "steps"] (defScope (inClass (top 31) 0)) := ⟨rfl, rfl, rfl, by decide +kernel, rfl, by decide +kernel, by decide +kernel⟩
theorem GoodStep.len {n : Int} {s : Step} (h : GoodStep n s) : ∀ g ws, s = some (g, ws) → ws.length ≤ 24 := fun g ws e => by subst e; exact h.2.2.1.2.2
theorem GoodStep.ww {n : Int} {s : Step} (h : GoodStep n s) : ∀ g ws, s = some (g, ws) → Worths ws := fun g ws e => by subst e; exact h.2.2.1
theorem pcs_idx {w : Int} {st : List Step} {p : Piece} (h : p ∈ pcsN w st) : p.1 < st.length := by
  unfold pcsN at h
  obtain ⟨⟨s, i⟩, hs, hp⟩ := List.mem_flatMap.mp h
  have hi := List.mem_zipIdx hs
  have e : p.1 = i := by
    cases s with
    | none => simp [stepPcs] at hp
    | some v =>
      obtain ⟨g, ws⟩ := v
      have : ∀ k, ∀ q ∈ (brkN i g ws w k).1, q.1 = i := by
        intro k
        induction k with
        | zero => intro q hq; simp [brkN] at hq
        | succ k ih =>
          intro q hq
          unfold brkN at hq
          dsimp only at hq
          split at hq
          · rcases List.mem_append.mp hq with z | z
            · exact ih q z
            · rw [List.mem_singleton.mp z]
          · exact ih q hq
      exact this ws.length p hp
  rw [e]; omega
theorem ok_init (T : Txt K mg) (L : ClsPlan K C) (F : Fun K "__init__" "Plan.__init__" (inClass (top 31) 0) f fd) (c_is_content : Cal P w K mg base 4 "is_content" (spM true R_are_worths)) (c_is_integer : Cal P w K mg base 1 "is_integer" (spM true R_is_integer))
    (c_is_step : Cal P w K mg base 4 "is_step" (spM true R_is_step)) (c_pieces_of : Cal P w K mg base 2 "pieces_of" (spM false R_pieces_of)) : FnOk P w K mg base CX0 5 f fd ["self", "base", "width", "steps"] (spM false (R_init C)) := by
  refine fn_okM F sc31_0 (by rintro _ _ _ _ ⟨x, dx, p, _, rfl, _⟩; rfl) fun lk cdv A outer s H E xs cs y cs' hlk hr hR => ?_
  obtain ⟨x, dx, p, G, rfl, rfl, rfl, rfl⟩ := hR
  obtain rfl := lk_nil hlk
  have nd : Ninit.Nodup := nd_of (by decide +kernel)
  have hu65 : (bcx P w K mg base Ninit "Plan.__init__" (inClass (top 31) 0) f cdv A outer s H E).A.units + 65 < cLine := by have := hr.un; omega
  have hl := G.len
  have hw1 := G.w1
  have hw2 := G.w2
  have hf := G.few
  refine sf_cons (s_ifF (et_w (ew_orF (et_not (t := true) (et_val (ev_call c_is_content hr (by decide) (fr := [(x, .ins C dx [])]) (cs0 := []) (cs1 := []) (ea_cons (ev_v 1 rfl) ea_nil) ⟨p.b, G.base, rfl, rfl, rfl, rfl⟩ (.inl rfl))))
    (ew_orF (et_not (t := true) (et_val (ev_call c_is_integer hr (by decide) (fr := [(x, .ins C dx [])]) (cs0 := []) (cs1 := []) (ea_cons (ev_v 2 rfl) ea_nil) ⟨p.w, rfl, rfl, rfl, rfl⟩ (.inl rfl))))
      (ew_or1 (et_not (t := true) (et_chainT ev_int (ev_v 2 rfl) (od_le.cast (by simp [hw1])) (ev_glob' T.mMAX_CELLS) (od_le.cast (by simp [hw2])))))))) (sf_nil ?_))
  refine sf_cons (s_ifF (et_w (ew_orF (et_not (t := true) (et_val (ev_isi (ev_v 3 rfl) ty_lst k_list T.zisinstance T.zlist b_isi b_list))) (ew_or1 (et_cmp (ev_callB (ea_cons (ev_v 3 rfl) ea_nil) cd_lenL T.zlen b_len) (ev_glob' T.mMAX_STEPS) (od_gt.cast (by simp; omega)))))) (sf_nil ?_))
  refine sf_cons (s_ifF (et_not (t := true) (et_val (ev_callB (ea_cons (ev_mapG (own := [("step", 4)]) p.st stepD (fun _ => .bl true) nd (blk (inClass (top 31) 0) Ninit rfl rfl) (ei_lst (ev_v 3 rfl)) rfl (by omega) (fun _ => trivial) fun i k hk => ?_) ea_nil)
    (by rw [show (p.st.map fun _ => D.bl true) = (List.replicate p.st.length true).map D.bl by rw [← bls_true, List.map_const']]; exact (by have := cd_all (lk := []) (X := bcx P w K mg base Ninit "Plan.__init__" (inClass (top 31) 0) f cdv A outer s H E) (bs := List.replicate p.st.length true) (cs := [] ++ [(x, .ins C dx [])]); rwa [all_true] at this)) T.zall b_all))) (sf_nil ?_))
  · exact ⟨_, fun b => tg_name 4 nd, fun b => ev_call c_is_step hr (by decide) (fr := [(x, .ins C dx [])]) (cs0 := []) (cs1 := []) (ea_cons (ev_callB (ea_cons (ev_v 1 rfl) ea_nil) cd_lenU T.zlen b_len) (ea_cons (ev_v 4 rfl) ea_nil)) ⟨p.b.length, k, G.steps k (List.mem_of_getElem? hk), by rw [dints_len], rfl, rfl, rfl⟩ (.inl rfl)⟩
  refine sf_cons (s_fld 0 L.cls L.nstart (ev_v 1 rfl) (ev_v 0 rfl) rfl (by simp) ?_)
  refine sf_cons (s_fld 0 L.cls L.nspan (ev_v 2 rfl) (ev_v 0 rfl) rfl (by rw [fput_add rfl]; simp) ?_)
  rw [fput_add rfl, fput_add rfl]
  refine sf_cons (s_fld 0 L.cls L.ndeeds (ev_callTy (ea_cons (ev_v 3 rfl) ea_nil) cd_listL T.zlist b_list) (ev_v 0 rfl) rfl (by simp) ?_)
  rw [fput_add rfl]
  refine sf_cons (s_fld 0 L.cls L.nparts (ev_call c_pieces_of hr (by decide) (fr := [(x, _)]) (cs0 := []) (cs1 := []) (ea_cons (ev_v 3 rfl) (ea_cons (ev_v 2 rfl) ea_nil)) ⟨p.st, p.w, by omega, by omega, fun s hs => (G.steps s hs).len, rfl, rfl, rfl, rfl⟩ (.inr rfl)) (ev_v 0 rfl) rfl (by simp) ?_)
  rw [fput_add rfl]
  refine sf_cons (s_ifF (et_cmp (ev_callB (ea_cons (ev_fldC 0 L.cls L.nparts (ev_v 0 rfl) rfl rfl) ea_nil) cd_lenL T.zlen b_len) (ev_glob' T.mMAX_PIECES) (od_gt.cast (by simp; omega))) (sf_nil ?_))
  refine sf_cons (s_fld 0 L.cls L.nranks (ev_mapG (own := [("part", 5)]) (pcsN p.w p.st) pieceD (fun q => .int (((p.st.take q.1).countP (·.isNone) : Nat) : Int)) nd (blk (inClass (top 31) 0) Ninit rfl rfl) (ei_lst (ev_fldC 0 L.cls L.nparts (ev_v 0 rfl) rfl rfl)) rfl (by omega) (fun _ => trivial) fun i q hq => ?_) (ev_v 0 rfl) rfl (by simp) ?_)
  · refine ⟨_, fun b => tg_name 5 nd, fun b => ?_⟩
    have hi := pcs_idx (List.mem_of_getElem? hq)
    refine EvM.cast (ev_count hu65 (ev_slL (ev_v 3 rfl) eo_none (eo_some (ev_ixU (ev_v 5 rfl) ev_int rfl))) ev_non ?_) ?_
    · rw [cut_to (by rw [List.length_map]; omega), ← List.map_take]; exact steps_plain _
    · rw [cut_to (by rw [List.length_map]; omega), ← List.map_take, steps_none]
  · rw [fput_add rfl]
    refine sf_nil ⟨rfl, ?_⟩
    simp only [PIn.flds, rksN, dints, List.map_map]
    rfl
theorem sc31_1 : FnScope ["self"] ["self"] (defScope (inClass (top 31) 1)) := ⟨rfl, rfl, rfl, by decide +kernel, rfl, by decide +kernel, by decide +kernel⟩
theorem ok_base (L : ClsPlan K C) (F : Fun K "base" "Plan.base" (inClass (top 31) 1) f fd) : FnOk P w K mg base CX0 1 f fd ["self"] (spM true (R_base C)) := by
  refine fn_okM F sc31_1 (by rintro _ _ _ _ ⟨p, rfl, _⟩; rfl) fun lk cdv A outer s H E xs cs y cs' hlk hr hR => ?_
  obtain ⟨p, rfl, rfl, rfl, rfl⟩ := hR
  exact sf_cons (s_ret (ev_fldI L.cls L.nstart (ev_v 0 rfl) rfl) ⟨rfl, rfl⟩)
theorem sc31_5 : FnScope ["self"] ["self"] (defScope (inClass (top 31) 5)) := ⟨rfl, rfl, rfl, by decide +kernel, rfl, by decide +kernel, by decide +kernel⟩
theorem ok_epochs (L : ClsPlan K C) (F : Fun K "epochs" "Plan.epochs" (inClass (top 31) 5) f fd) : FnOk P w K mg base CX0 1 f fd ["self"] (spM true (R_epochs C)) := by
  refine fn_okM F sc31_5 (by rintro _ _ _ _ ⟨p, rfl, _⟩; rfl) fun lk cdv A outer s H E xs cs y cs' hlk hr hR => ?_
  obtain ⟨p, rfl, rfl, rfl, rfl⟩ := hR
  have hu65 : (bcx P w K mg base ["self"] "Plan.epochs" (inClass (top 31) 5) f cdv A outer s H E).A.units + 65 < cLine := by have := hr.un; omega
  refine sf_cons (s_ret (ev_op (ev_count hu65 (ev_fldI L.cls L.ndeeds (ev_v 0 rfl) rfl) ev_non (steps_plain _)) ev_int od_add) ⟨?_, rfl⟩)
  rw [steps_none]; rfl
end
end Af
set_option Elab.async false
set_option linter.all false
set_option maxRecDepth 100000
set_option maxHeartbeats 2000000
namespace Af
open PySem L2
section
variable {P : Program} {w : World} {K : PySem.W.Frag} {mg : Str → Option Value} {base : Heap} {f : Addr} {fd : FuncData} {C : Addr}
theorem sc31_7 : FnScope ["self", "index", "step"] ["self", "index", "step"] (defScope (inClass (top 31) 7)) := ⟨rfl, rfl, rfl, by decide +kernel, rfl, by decide +kernel, by decide +kernel⟩
theorem ok_with_step (T : Txt K mg) (L : ClsPlan K C) (F : Fun K "with_step" "Plan.with_step" (inClass (top 31) 7) f fd) (c_is_below : Cal P w K mg base 2 "is_below" (spM true R_is_below)) (c_is_step : Cal P w K mg base 4 "is_step" (spM true R_is_step)) (c_Plan : Mak P w K mg base 5 "Plan" C (spM false (R_init C))) :
    FnOk P w K mg base CX0 7 f fd ["self", "index", "step"] (spM false (R_with_step C)) := by
  refine fn_okM F sc31_7 (by rintro _ _ _ _ ⟨p, i, s, _, _, _, _, rfl, _⟩; rfl) fun lk cdv A outer s H E xs cs y cs' hlk hr hR => ?_
  obtain ⟨p, i, st, G, hi, hs, G', rfl, rfl, rfl, rfl⟩ := hR
  obtain rfl := lk_nil hlk
  have hl : (p.st.map stepD).length = p.st.length := List.length_map _
  have e1 : cutD (p.st.map stepD) none (some (i : Int)) ++ stepD st :: (cutD (p.st.map stepD) (some (i : Int)) none ++ []) = (p.with_ i st).st.map stepD := by
    rw [cut_to (by rw [hl]; exact hi), cut_from (by rw [hl]; exact hi), List.append_nil, ← List.map_take, ← List.map_drop]
    simp [PIn.with_]
  have hlen : (p.with_ i st).st.length ≤ 40 := G'.len
  refine sf_cons (s_ifF (et_not (t := true) (et_val (ev_callP c_is_below hr (by decide) (ea_cons (ev_v 1 rfl) (ea_cons (ev_op (ev_callB (ea_cons (ev_fldI L.cls L.ndeeds (ev_v 0 rfl) rfl) ea_nil) cd_lenL T.zlen b_len) ev_int od_add) ea_nil)) ⟨i, p.st.length + 1, by rw [hl], rfl, by simp; omega, rfl⟩ (.inl rfl)))) (sf_nil ?_))
  refine sf_cons (s_ifF (et_not (t := true) (et_val (ev_callP c_is_step hr (by decide) (ea_cons (ev_callB (ea_cons (ev_fldI L.cls L.nstart (ev_v 0 rfl) rfl) ea_nil) cd_lenU T.zlen b_len) (ea_cons (ev_v 2 rfl) ea_nil)) ⟨p.b.length, st, hs, by rw [dints_len], rfl, rfl, rfl⟩ (.inl rfl)))) (sf_nil ?_))
  refine sf_cons (s_ret (ev_make c_Plan hr (by decide) (ea_cons (ev_fldI L.cls L.nstart (ev_v 0 rfl) rfl) (ea_cons (ev_fldI L.cls L.nspan (ev_v 0 rfl) rfl) (ea_cons (ev_lst (ea_starL (ev_slL (ev_fldI L.cls L.ndeeds (ev_v 0 rfl) rfl) eo_none (eo_some (ev_v 1 rfl))) (ea_cons (ev_v 2 rfl) (ea_starL (ev_slL (ev_fldI L.cls L.ndeeds (ev_v 0 rfl) rfl) (eo_some (ev_v 1 rfl)) eo_none) ea_nil))) ?_) ea_nil))) (fs := (p.with_ i st).flds) fun x dx => ⟨x, dx, p.with_ i st, G', by rw [e1]; rfl, rfl, rfl, rfl⟩) ⟨rfl, rfl⟩)
  rw [e1, List.length_map]; omega
theorem sc31_8 : FnScope ["self", "index"] ["self", "index"] (defScope (inClass (top 31) 8)) := ⟨rfl, rfl, rfl, by decide +kernel, rfl, by decide +kernel, by decide +kernel⟩
theorem ok_without_step (T : Txt K mg) (L : ClsPlan K C) (F : Fun K "without_step" "Plan.without_step" (inClass (top 31) 8) f fd) (c_is_below : Cal P w K mg base 2 "is_below" (spM true R_is_below)) (c_Plan : Mak P w K mg base 5 "Plan" C (spM false (R_init C))) :
    FnOk P w K mg base CX0 7 f fd ["self", "index"] (spM false (R_without_step C)) := by
  refine fn_okM F sc31_8 (by rintro _ _ _ _ ⟨p, i, _, _, _, rfl, _⟩; rfl) fun lk cdv A outer s H E xs cs y cs' hlk hr hR => ?_
  obtain ⟨p, i, G, hi, G', rfl, rfl, rfl, rfl⟩ := hR
  obtain rfl := lk_nil hlk
  have hl : (p.st.map stepD).length = p.st.length := List.length_map _
  have e2 : ((i : Nat) : Int) + 1 = ((i + 1 : Nat) : Int) := by omega
  have e1 : cutD (p.st.map stepD) none (some (i : Int)) ++ cutD (p.st.map stepD) (some ((i : Int) + 1)) none = (p.without i).st.map stepD := by
    rw [e2, cut_to (by rw [hl]; omega), cut_from (by rw [hl]; omega), ← List.map_take, ← List.map_drop]
    simp [PIn.without]
  have hll := G.len
  refine sf_cons (s_ifF (et_not (t := true) (et_val (ev_callP c_is_below hr (by decide) (ea_cons (ev_v 1 rfl) (ea_cons (ev_callB (ea_cons (ev_fldI L.cls L.ndeeds (ev_v 0 rfl) rfl) ea_nil) cd_lenL T.zlen b_len) ea_nil)) ⟨i, p.st.length, by rw [hl], rfl, by simp; omega, rfl⟩ (.inl rfl)))) (sf_nil ?_))
  refine sf_cons (s_ret (ev_make c_Plan hr (by decide) (ea_cons (ev_fldI L.cls L.nstart (ev_v 0 rfl) rfl) (ea_cons (ev_fldI L.cls L.nspan (ev_v 0 rfl) rfl) (ea_cons (ev_op (ev_slL (ev_fldI L.cls L.ndeeds (ev_v 0 rfl) rfl) eo_none (eo_some (ev_v 1 rfl))) (ev_slL (ev_fldI L.cls L.ndeeds (ev_v 0 rfl) rfl) (eo_some (ev_op (ev_v 1 rfl) ev_int od_add)) eo_none) (od_catL ?_)) ea_nil))) (fs := (p.without i).flds) fun x dx => ⟨x, dx, p.without i, G', by rw [e1]; rfl, rfl, rfl, rfl⟩) ⟨rfl, rfl⟩)
  rw [e2, cut_to (by rw [hl]; omega), cut_from (by rw [hl]; omega)]
  simp; omega
/-! cells_in -/
abbrev N32 : List Str := ["plan", "piece", "index", "first", "worths", "place", "worth"]
theorem sc32 : FnScope N32 ["plan", "piece"] (defScope (top 32)) := ⟨rfl, rfl, rfl, by decide +kernel, rfl, by decide +kernel, by decide +kernel⟩
theorem atI_nat {xs : List D} {i : Nat} (h : i < xs.length) : L2.atI xs (i : Int) = some xs[i] := by
  unfold L2.atI
  have : ixN xs.length (i : Int) = some i := by
    unfold ixN
    rw [if_pos (by omega), if_pos (by omega)]; simp
  rw [this]; simp [h]
theorem pcs_len {w : Int} {st : List Step} {p : Piece} {n : Int} (hs : ∀ s ∈ st, GoodStep n s) (h : p ∈ pcsN w st) : p.2.2.length ≤ 24 := by
  unfold pcsN at h
  obtain ⟨⟨s, i⟩, hm, hp⟩ := List.mem_flatMap.mp h
  have hsm : s ∈ st := by
    have := List.mem_zipIdx_iff_getElem?.mp hm
    exact List.mem_of_getElem? this
  cases s with
  | none => simp [stepPcs] at hp
  | some v =>
    obtain ⟨g, ws⟩ := v
    have hl := (hs _ hsm).len g ws rfl
    have : ∀ k, ∀ q ∈ (brkN i g ws w k).1, q.2.2.length ≤ ws.length := by
      intro k
      induction k with
      | zero => intro q hq; simp [brkN] at hq
      | succ k ih =>
        intro q hq
        unfold brkN at hq
        dsimp only at hq
        split at hq
        · rcases List.mem_append.mp hq with z | z
          · exact ih q z
          · rw [List.mem_singleton.mp z]
            simp only [List.length_take, List.length_drop]; omega
        · exact ih q hq
    have := this ws.length p hp
    omega
theorem ok_cells_in (T : Txt K mg) (L : ClsPlan K C) (F : Fun K "cells_in" "cells_in" (top 32) f fd) : FnOk P w K mg base CX0 1 f fd ["plan", "piece"] (spM true (R_cells_in C)) := by
  refine fn_okM F sc32 (by rintro _ _ _ _ ⟨p, i, _, _, rfl, _⟩; rfl) fun lk cdv A outer s H E xs cs y cs' hlk hr hR => ?_
  obtain ⟨p, i, G, hi, rfl, rfl, rfl, rfl⟩ := hR
  have nd : N32.Nodup := nd_of (by decide +kernel)
  have hi' : i < (pcsN p.w p.st).length := hi
  generalize hq : (pcsN p.w p.st)[i] = q at *
  obtain ⟨ix, g, ws⟩ := q
  have hws : ws.length ≤ 24 := by
    have := pcs_len G.steps (List.getElem_mem hi')
    rw [hq] at this; exact this
  have hat : L2.atI ((pcsN p.w p.st).map pieceD) (i : Int) = some (pieceD (ix, g, ws)) := by
    rw [atI_nat (by rw [List.length_map]; exact hi')]
    rw [List.getElem_map, hq]
  refine sf_cons (s_tgt (vs := [2, 3, 4]) (ev_ixL (ev_fldI L.cls L.nparts (ev_v 0 rfl) rfl) (ev_v 1 rfl) hat) (tg_tup3 2 3 4 nd) ?_)
  have hwr : p.pl.wr i = cellsOf g ws := by
    unfold Pl.wr
    show cellsOf ((pcsN p.w p.st).getD i (0, 0, [])).2.1 ((pcsN p.w p.st).getD i (0, 0, [])).2.2 = _
    rw [List.getD_eq_getElem?_getD, List.getElem?_eq_getElem hi', hq]; rfl
  have hk : kputs (cellD (p.pl.wr i)) = cellD (p.pl.wr i) := kputs_nodup _ (by
    have : (cellD (p.pl.wr i)).map (·.1) = (p.pl.wr i).map (·.1) := by unfold cellD; rw [List.map_map]; rfl
    rw [this]; exact wr_nodup _ _)
  have hcl : (cellD (p.pl.wr i)).length = ws.length := by rw [hwr]; simp [cellD, cellsOf]
  refine sf_cons (s_ret (EvP.dic (kvs := cellD (p.pl.wr i)) (cs1 := []) ?_) ⟨rfl, rfl⟩)
  rw [← hk]
  refine ep_dc (own := [("place", 5), ("worth", 6)]) nd (blk (top 32) N32 rfl rfl) (ei_enumU T.zenumerate (ev_v 4 rfl)) (cellD (p.pl.wr i)) (by rw [hcl, enumD_len, dints_len]) (fun _ => trivial) (by rw [enumD_len, dints_len]; show ws.length < 1000000; omega) fun j x e hx he => ?_
  obtain ⟨v, hv, rfl⟩ := enumD_get hx
  obtain ⟨z, hz, rfl⟩ := dints_get hv
  have hee : e = (g + ((j : Nat) : Int), .int z) := by
    rw [hwr] at he
    unfold cellD cellsOf at he
    rw [List.map_map, List.getElem?_map, List.getElem?_zipIdx, hz] at he
    simp at he; exact he.symm
  subst hee
  exact ⟨_, fun b => tg_tup2 5 6 nd, fun b => ev_op (ev_v 3 rfl) (ev_v 5 rfl) od_add, fun b => ev_v 6 rfl⟩
end
end Af
set_option Elab.async false
set_option linter.all false
set_option maxRecDepth 100000
set_option maxHeartbeats 2000000
/-! ### afterfall.falls -/
namespace Af
open PySem L2

def nints (l : List Nat) : List Int := l.map fun (i : Nat) => (i : Int)
def natD (l : List Nat) : D := .lst (dints (nints l))
theorem nints_len (l : List Nat) : (nints l).length = l.length := by simp [nints]
theorem nints_get {l : List Nat} {i : Nat} {k : Int} (h : (nints l)[i]? = some k) : ∃ j, l[i]? = some j ∧ k = (j : Int) := by
  unfold nints at h
  rw [List.getElem?_map] at h
  cases e : l[i]? with
  | none => rw [e] at h; cases h
  | some j => rw [e] at h; exact ⟨j, rfl, (Option.some.inj h).symm⟩
theorem nints_mem {l : List Nat} {i : Nat} : ((i : Int) ∈ nints l) ↔ i ∈ l := by
  unfold nints
  rw [List.mem_map]
  constructor
  · rintro ⟨j, hj, e⟩; have : j = i := by omega
    rw [← this]; exact hj
  · intro h; exact ⟨i, h, rfl⟩
theorem nints_nodup {l : List Nat} (h : l.Nodup) : (nints l).Nodup := by
  unfold nints List.Nodup
  rw [List.pairwise_map]
  exact h.imp fun h e => h (by omega)
theorem natD_map (l : List Nat) : dints (nints l) = l.map fun (i : Nat) => .int (i : Int) := by unfold dints nints; rw [List.map_map]; rfl
theorem enumD_range (xs : List D) : enumD xs = (List.range xs.length).map fun i => .tup [.int (i : Nat), xs.getD i .non] := by
  apply List.ext_getElem?
  intro i
  rw [List.getElem?_map]
  by_cases hi : i < xs.length
  · rw [List.getElem?_range hi]
    unfold enumD
    rw [List.getElem?_map, List.getElem?_zipIdx, List.getElem?_eq_getElem hi]
    simp [List.getD_eq_getElem?_getD, hi]
  · have h1 : (enumD xs)[i]? = none := List.getElem?_eq_none (by rw [enumD_len]; omega)
    have h2 : (List.range xs.length)[i]? = none := List.getElem?_eq_none (by simp; omega)
    rw [h1, h2]; rfl
theorem rks_len (p : PIn) : p.pl.ranks.length = p.pl.n := by show (rksN p.w p.st).length = (pcsN p.w p.st).length; simp [rksN]
theorem rk_at (p : PIn) {i : Nat} (h : i < p.pl.n) : L2.atI (dints ((rksN p.w p.st).map fun (r : Nat) => (r : Int))) (i : Int) = some (.int (p.pl.rank i : Nat)) := by
  have hl : i < (rksN p.w p.st).length := by have := rks_len p; show i < p.pl.ranks.length; omega
  rw [atI_nat (by simp [dints]; exact hl)]
  simp only [dints, List.getElem_map, Option.some.injEq, D.int.injEq]
  show (((rksN p.w p.st)[i] : Nat) : Int) = (((rksN p.w p.st).getD i 0 : Nat) : Int)
  rw [List.getD_eq_getElem?_getD, List.getElem?_eq_getElem hl]; rfl
def lowerN (p : PIn) (e : Nat) : List Nat := (List.range p.pl.n).filter fun i => decide (p.pl.rank i < e)
def R_are_pieces (C : Addr) (xs : List D) (cs : Cs) (y : D) (cs' : Cs) : Prop := ∃ (p : PIn) (T : List Nat), p.Good ∧ T.Nodup ∧ (∀ i ∈ T, i < p.pl.n) ∧ xs = [planD C p, natD T] ∧ cs = [] ∧ y = .bl true ∧ cs' = []
def R_lower_pieces (C : Addr) (xs : List D) (cs : Cs) (y : D) (cs' : Cs) : Prop := ∃ (p : PIn) (e : Nat), p.Good ∧ xs = [planD C p, .int e] ∧ cs = [] ∧ y = natD (lowerN p e) ∧ cs' = []
def R_is_fall (C : Addr) (xs : List D) (cs : Cs) (y : D) (cs' : Cs) : Prop := ∃ (p : PIn) (F : List Nat), p.Good ∧ Fall p.pl F ∧ xs = [planD C p, natD F] ∧ cs = [] ∧ y = .bl true ∧ cs' = []
def R_check_fall (C : Addr) (xs : List D) (cs : Cs) (y : D) (cs' : Cs) : Prop := ∃ (p : PIn) (F : List Nat), p.Good ∧ Fall p.pl F ∧ xs = [planD C p, natD F] ∧ cs = [] ∧ y = .non ∧ cs' = []
def R_overwritten (C : Addr) (xs : List D) (cs : Cs) (y : D) (cs' : Cs) : Prop := ∃ (p : PIn) (c : List Int) (F : List Nat), p.Good ∧ p.pl.WF ∧ c.length = p.b.length ∧ (∀ i ∈ F, i < p.pl.n) ∧ F.length ≤ 100 ∧ xs = [planD C p, .tup (dints c), natD F] ∧ cs = [] ∧ y = .tup (dints (over p.pl c F)) ∧ cs' = []
def R_content_after (C : Addr) (xs : List D) (cs : Cs) (y : D) (cs' : Cs) : Prop := ∃ (p : PIn) (F : List Nat), p.Good ∧ p.pl.WF ∧ Fall p.pl F ∧ xs = [planD C p, natD F] ∧ cs = [] ∧ y = .tup (dints (over p.pl p.b F)) ∧ cs' = []
theorem fall_len {p : PIn} (G : p.Good) {F : List Nat} (h1 : F.Nodup) (h2 : ∀ i ∈ F, i < p.pl.n) : F.length ≤ 40 := by
  have := nat_nodup_len F (List.range p.pl.n) h1 fun x hx => List.mem_range.mpr (h2 x hx)
  rw [List.length_range] at this
  have h3 : p.pl.n ≤ 40 := G.few
  omega
section
variable {P : Program} {w : World} {K : PySem.W.Frag} {mg : Str → Option Value} {base : Heap} {f : Addr} {fd : FuncData} {C : Addr}
theorem cd_allT {lk : List Addr} {X : Cx} {cs : Cs} {α : Type} (l : List α) (hc : X.calm = true := by rfl) : CallD lk X (.builtin "all") [.lst (l.map fun _ => .bl true)] cs (.bl true) cs := by
  have := cd_all (lk := lk) (X := X) (cs := cs) (bs := l.map fun _ => true) hc
  have e1 : (l.map fun _ => true).all id = true := by simp
  rw [List.map_map, e1] at this
  exact this
abbrev N34 : List Str := ["plan", "thing", "piece"]
theorem sc34 : FnScope N34 ["plan", "thing"] (defScope (top 34)) := ⟨rfl, rfl, rfl, by decide +kernel, rfl, by decide +kernel, by decide +kernel⟩
theorem ok_are_pieces (T : Txt K mg) (L : ClsPlan K C) (F : Fun K "are_pieces" "are_pieces" (top 34) f fd) (c_is_below : Cal P w K mg base 2 "is_below" (spM true R_is_below)) : FnOk P w K mg base CX0 3 f fd ["plan", "thing"] (spM true (R_are_pieces C)) := by
  refine fn_okM F sc34 (by rintro _ _ _ _ ⟨p, t, _, _, _, rfl, _⟩; rfl) fun lk cdv A outer s H E xs cs y cs' hlk hr hR => ?_
  obtain ⟨p, t, G, h1, h2, rfl, rfl, rfl, rfl⟩ := hR
  have nd : N34.Nodup := nd_of (by decide +kernel)
  have hl := fall_len G h1 h2
  refine sf_cons (s_ifF (et_w (ew_orF (et_not (t := true) (et_val (ev_isi (ev_v 1 rfl) ty_lst k_list T.zisinstance T.zlist b_isi b_list))) (ew_or1 (et_not (t := true) (et_val (ev_callB (ea_cons (ev_mapG (own := [("piece", 2)]) t (fun i => .int (i : Int)) (fun _ => .bl true) nd (blk (top 34) N34 rfl rfl) (ei_lst (ev_v 1 rfl)) (natD_map t) (by omega) (fun _ => trivial) fun i k hk => ?_) ea_nil) (cd_allT t) T.zall b_all)))))) (sf_nil ?_))
  · refine ⟨_, fun b => tg_name 2 nd, fun b => ev_callP c_is_below hr (by decide) (ea_cons (ev_v 2 rfl) (ea_cons (ev_callB (ea_cons (ev_fldI L.cls L.nparts (ev_v 0 rfl) rfl) ea_nil) cd_lenL T.zlen b_len) ea_nil)) ⟨(k : Int), (p.pl.n : Int), ?_, rfl, ?_, rfl⟩ (.inl rfl)⟩
    · simp only [List.length_map]; rfl
    · have := h2 k (List.mem_of_getElem? hk); simp; omega
  · refine sf_cons (s_ret (ev_cmp (ev_lenSet (ev_v 1 rfl) (by rw [nints_len]; omega) (nints_nodup h1) T.zlen T.zset) (ev_callB (ea_cons (ev_v 1 rfl) ea_nil) cd_lenL T.zlen b_len) (od_eqI.cast (u := true) (by simp [dints_len]))) ⟨rfl, rfl⟩)
abbrev N35 : List Str := ["plan", "epoch", "piece", "rank"]
theorem sc35 : FnScope N35 ["plan", "epoch"] (defScope (top 35)) := ⟨rfl, rfl, rfl, by decide +kernel, rfl, by decide +kernel, by decide +kernel⟩
theorem rk_enum (p : PIn) : enumD (dints ((rksN p.w p.st).map fun (r : Nat) => (r : Int))) = (List.range p.pl.n).map fun i => .tup [.int (i : Int), .int (p.pl.rank i : Nat)] := by
  rw [enumD_range]
  have hl : (dints ((rksN p.w p.st).map fun (r : Nat) => (r : Int))).length = p.pl.n := by rw [dints_len, List.length_map]; exact rks_len p
  rw [hl]
  refine List.map_congr_left fun i hi => ?_
  have hi' : i < (rksN p.w p.st).length := by have := rks_len p; have := List.mem_range.mp hi; show i < p.pl.ranks.length; omega
  have : (dints ((rksN p.w p.st).map fun (r : Nat) => (r : Int))).getD i .non = .int (p.pl.rank i : Nat) := by
    simp only [dints, List.getD_eq_getElem?_getD, List.getElem?_map, List.getElem?_eq_getElem hi']
    show D.int _ = D.int (((rksN p.w p.st).getD i 0 : Nat) : Int)
    rw [List.getD_eq_getElem?_getD, List.getElem?_eq_getElem hi']; rfl
  rw [this]
theorem ok_lower_pieces (T : Txt K mg) (L : ClsPlan K C) (F : Fun K "lower_pieces" "lower_pieces" (top 35) f fd) : FnOk P w K mg base CX0 1 f fd ["plan", "epoch"] (spM true (R_lower_pieces C)) := by
  refine fn_okM F sc35 (by rintro _ _ _ _ ⟨p, e, _, rfl, _⟩; rfl) fun lk cdv A outer s H E xs cs y cs' hlk hr hR => ?_
  obtain ⟨p, e, G, rfl, rfl, rfl, rfl⟩ := hR
  have nd : N35.Nodup := nd_of (by decide +kernel)
  have hn : p.pl.n ≤ 40 := G.few
  refine sf_cons (s_ret (EvM.cast (ev_filterG (own := [("piece", 2), ("rank", 3)]) (List.range p.pl.n) (fun i => .tup [.int (i : Int), .int (p.pl.rank i : Nat)]) (fun i => decide (p.pl.rank i < e)) (fun i => .int (i : Int)) nd (blk (top 35) N35 rfl rfl) (ei_enumL T.zenumerate (ev_fldI L.cls L.nranks (ev_v 0 rfl) rfl)) (rk_enum p) (by simp; omega) (fun _ => trivial) fun i k hk => ?_) ?_) ⟨rfl, rfl⟩)
  · exact ⟨_, fun b => tg_tup2 2 3 nd, fun b => et_cmp (ev_v 3 rfl) (ev_v 1 rfl) (od_lt.cast (by simp)), fun _ b => ev_v 2 rfl⟩
  · unfold natD lowerN; rw [natD_map]
abbrev N36 : List Str := ["plan", "thing", "place", "piece", "other"]
theorem sc36 : FnScope N36 ["plan", "thing"] (defScope (top 36)) := ⟨rfl, rfl, rfl, by decide +kernel, rfl, by decide +kernel, by decide +kernel⟩
theorem ok_is_fall (T : Txt K mg) (L : ClsPlan K C) (F : Fun K "is_fall" "is_fall" (top 36) f fd) (c_are_pieces : Cal P w K mg base 3 "are_pieces" (spM true (R_are_pieces C))) (c_lower_pieces : Cal P w K mg base 1 "lower_pieces" (spM true (R_lower_pieces C))) : FnOk P w K mg base CX0 4 f fd ["plan", "thing"] (spM true (R_is_fall C)) := by
  refine fn_okM F sc36 (by rintro _ _ _ _ ⟨p, t, _, _, rfl, _⟩; rfl) fun lk cdv A outer s H E xs cs y cs' hlk hr hR => ?_
  obtain ⟨p, t, G, hf, rfl, rfl, rfl, rfl⟩ := hR
  have nd : N36.Nodup := nd_of (by decide +kernel)
  have hl := fall_len G hf.nd hf.lt
  have hn : p.pl.n ≤ 40 := G.few
  refine sf_cons (s_ifF (et_not (t := true) (et_val (ev_callP c_are_pieces hr (by decide) (ea_cons (ev_v 0 rfl) (ea_cons (ev_v 1 rfl) ea_nil)) ⟨p, t, G, hf.nd, hf.lt, rfl, rfl, rfl, rfl⟩ (.inl rfl)))) (sf_nil ?_))
  refine sf_cons (s_for (G := fun _ => True) (vs := [2, 3]) (ei_enumL T.zenumerate (ev_v 1 rfl)) (fun k ds' cs' => cs' = [] ∧ ∃ v2 v3 v4, ds' = [some (planD C p), some (natD t), v2, v3, v4]) ⟨rfl, _, _, _, rfl⟩ (fun _ _ _ _ => trivial) ?step ?fin)
  case step =>
    rintro k x ds' cs' hx ⟨rfl, v2, v3, v4, rfl⟩
    obtain ⟨e, he, rfl⟩ := enumD_get hx
    obtain ⟨z, hz, rfl⟩ := dints_get he
    obtain ⟨i, hi, rfl⟩ := nints_get hz
    have hk : k < t.length := (List.getElem?_eq_some_iff.mp hi).1
    have hip : i < p.pl.n := hf.lt i (List.mem_of_getElem? hi)
    refine ⟨_, tg_tup2 2 3 nd, ?_⟩
    have hll : (lowerN p (p.pl.rank i)).length ≤ 40 := by
      unfold lowerN
      have := List.length_filter_le (fun j => decide (p.pl.rank j < p.pl.rank i)) (List.range p.pl.n)
      rw [List.length_range] at this; omega
    refine sf_cons (s_ifF (et_not (t := true) (et_val (ev_callB (ea_cons (ev_mapG (own := [("other", 4)]) (lowerN p (p.pl.rank i)) (fun i => .int (i : Int)) (fun _ => .bl true) nd (blk (top 36) N36 rfl rfl) (ei_lst (ev_callP c_lower_pieces hr (by decide) (ea_cons (ev_v 0 rfl) (ea_cons (ev_ixL (ev_fldI L.cls L.nranks (ev_v 0 rfl) rfl) (ev_v 3 rfl) (rk_at p hip)) ea_nil)) ⟨p, p.pl.rank i, G, rfl, rfl, rfl, rfl⟩ (.inl rfl))) (natD_map _) (by omega) (fun _ => trivial) fun j q hq => ?_) ea_nil) (cd_allT _) T.zall b_all))) (sf_nil (sf_nil ⟨rfl, _, _, _, rfl⟩)))
    have hq' := List.mem_filter.mp (List.mem_of_getElem? hq)
    have hin : q ∈ t.take k := hf.low k i hi q (List.mem_range.mp hq'.1) (by simpa using hq'.2)
    refine ⟨_, fun b => tg_name 4 nd, fun b => ev_cmp (ev_v 4 rfl) (EvM.cast (ev_slL (ev_v 1 rfl) eo_none (eo_some (ev_v 2 rfl))) ?_) (OpD.cast (od_inL (ns := nints (t.take k))) ?_)⟩
    · rw [cut_to (by rw [dints_len, nints_len]; omega)]
      unfold dints nints; rw [← List.map_take, ← List.map_take]
    · simp [nints_mem, hin]
  case fin =>
    rintro ds' cs' ⟨rfl, v2, v3, v4, rfl⟩
    exact sf_cons (s_ret ev_bl ⟨rfl, rfl⟩)
theorem sc37 : FnScope ["plan", "thing"] ["plan", "thing"] (defScope (top 37)) := ⟨rfl, rfl, rfl, by decide +kernel, rfl, by decide +kernel, by decide +kernel⟩
theorem ok_check_fall (T : Txt K mg) (F : Fun K "check_fall" "check_fall" (top 37) f fd) (c_is_fall : Cal P w K mg base 4 "is_fall" (spM true (R_is_fall C))) : FnOk P w K mg base CX0 5 f fd ["plan", "thing"] (spM true (R_check_fall C)) := by
  refine fn_okM F sc37 (by rintro _ _ _ _ ⟨p, t, _, _, rfl, _⟩; rfl) fun lk cdv A outer s H E xs cs y cs' hlk hr hR => ?_
  obtain ⟨p, t, G, hf, rfl, rfl, rfl, rfl⟩ := hR
  exact sf_cons (s_ifF (et_not (t := true) (et_val (ev_callP c_is_fall hr (by decide) (ea_cons (ev_v 0 rfl) (ea_cons (ev_v 1 rfl) ea_nil)) ⟨p, t, G, hf, rfl, rfl, rfl, rfl⟩ (.inl rfl)))) (sf_nil (sf_nil ⟨rfl, rfl⟩)))
abbrev N38 : List Str := ["plan", "content", "pieces", "found", "piece", "cell", "worth"]
theorem sc38 : FnScope N38 ["plan", "content", "pieces"] (defScope (top 38)) := ⟨rfl, rfl, rfl, by decide +kernel, rfl, by decide +kernel, by decide +kernel⟩
theorem dints_set (l : List Int) (m : Nat) (v : Int) : (dints l).set m (.int v) = dints (l.set m v) := by unfold dints; rw [List.map_set]
theorem ok_overwritten (T : Txt K mg) (F : Fun K "overwritten" "overwritten" (top 38) f fd) (c_cells_in : Cal P w K mg base 1 "cells_in" (spM true (R_cells_in C))) : FnOk P w K mg base CX0 2 f fd ["plan", "content", "pieces"] (spM false (R_overwritten C)) := by
  refine fn_okM F sc38 (by rintro _ _ _ _ ⟨p, c, t, _, _, _, _, _, rfl, _⟩; rfl) fun lk cdv A outer s H E xs cs y cs' hlk hr hR => ?_
  obtain ⟨p, c, t, G, W, hcl, ht, htl, rfl, rfl, rfl, rfl⟩ := hR
  obtain rfl := lk_nil hlk
  have nd : N38.Nodup := nd_of (by decide +kernel)
  refine sf_cons (s_setP 3 nd (ep_callTy (ea_cons (ev_v 1 rfl) ea_nil) cp_listU T.zlist b_list) fun x cs1 hx => ?_)
  obtain ⟨a, rfl, rfl⟩ := hx
  refine sf_cons (s_for (G := fun _ => True) (vs := [4]) (ei_lst (ev_v 2 rfl)) (fun k ds' cs' => cs' = [(a, .lst (dints (over p.pl c (t.take k))))] ∧ ∃ v4 v5 v6, ds' = [some (planD C p), some (.tup (dints c)), some (natD t), some (.ptr a), v4, v5, v6]) ⟨rfl, _, _, _, rfl⟩ (fun _ _ _ _ => trivial) ?step ?fin)
  case step =>
    rintro k x ds' cs' hx ⟨rfl, v4, v5, v6, rfl⟩
    obtain ⟨z, hz, rfl⟩ := dints_get hx
    obtain ⟨i, hi, rfl⟩ := nints_get hz
    have hip : i < p.pl.n := ht i (List.mem_of_getElem? hi)
    refine ⟨_, tg_name 4 nd, ?_⟩
    have hlen : (over p.pl c (t.take k)).length = p.b.length := by rw [over_len, hcl]
    refine sf_cons (s_forItems (vs := [5, 6]) (cs1 := [(a, .lst (dints (over p.pl c (t.take k))))]) (ev_call c_cells_in hr (by decide) (fr := [(a, .lst (dints (over p.pl c (t.take k))))]) (cs0 := []) (cs1 := []) (ea_cons (ev_v 0 rfl) (ea_cons (ev_v 4 rfl) ea_nil)) ⟨p, i, G, hip, rfl, rfl, rfl, rfl⟩ (.inl rfl))
      (fun j ds' cs' => cs' = [(a, .lst (dints (over1 (over p.pl c (t.take k)) ((p.pl.wr i).take j))))] ∧ ∃ v5 v6, ds' = [some (planD C p), some (.tup (dints c)), some (natD t), some (.ptr a), some (.int (i : Int)), v5, v6]) ⟨rfl, _, _, rfl⟩ ?step2 ?fin2)
    case step2 =>
      rintro d j x ds' cs' hx ⟨rfl, v5, v6, rfl⟩
      have hq : ∃ q, (p.pl.wr i)[j]? = some q ∧ x = .tup [.int q.1, .int q.2] := by
        unfold itemsD cellD at hx
        rw [List.map_map, List.getElem?_map] at hx
        cases e : (p.pl.wr i)[j]? with
        | none => rw [e] at hx; cases hx
        | some q => rw [e] at hx; exact ⟨q, rfl, (Option.some.inj hx).symm⟩
      obtain ⟨q, hq, rfl⟩ := hq
      have hb := W.inn i hip q (List.mem_of_getElem? hq)
      have hb2 : p.pl.base.length = p.b.length := rfl
      have hl1 : (over1 (over p.pl c (t.take k)) ((p.pl.wr i).take j)).length = p.b.length := by rw [over1_len, hlen]
      refine ⟨_, tg_tup2 5 6 nd, ?_⟩
      refine sf_cons (s_idx 0 (ev_v 6 rfl) (ev_v 3 rfl) (ev_v 5 rfl) rfl (m := q.1.toNat) ?_ (sf_nil ⟨?_, _, _, rfl⟩))
      · unfold ixN
        rw [dints_len, hl1, if_pos (by omega), if_pos (by omega)]
      · have e : (p.pl.wr i).take (j + 1) = (p.pl.wr i).take j ++ [q] := by rw [List.take_add_one, hq]; rfl
        rw [e, dints_set]
        unfold over1
        rw [List.foldl_append]; rfl
    case fin2 =>
      rintro ds' cs' ⟨rfl, v5, v6, rfl⟩
      have e : (cellD (p.pl.wr i)).length = (p.pl.wr i).length := by simp [cellD]
      rw [e, List.take_length]
      refine sf_nil ⟨?_, _, _, _, rfl⟩
      have e2 : t.take (k + 1) = t.take k ++ [i] := by rw [List.take_add_one, hi]; rfl
      rw [e2, over_snoc]
  case fin =>
    rintro ds' cs' ⟨rfl, v4, v5, v6, rfl⟩
    have e : (dints (nints t)).length = t.length := by rw [dints_len, nints_len]
    rw [e, List.take_length]
    exact sf_cons (s_ret (EvM.drop (cs1 := []) (ev_callTy (ea_cons (ev_v 3 rfl) ea_nil) (cd_tupC 0 rfl) T.ztuple b_tuple)) ⟨rfl, rfl⟩)
theorem sc39 : FnScope ["plan", "fall"] ["plan", "fall"] (defScope (top 39)) := ⟨rfl, rfl, rfl, by decide +kernel, rfl, by decide +kernel, by decide +kernel⟩
theorem ok_content_after (T : Txt K mg) (F : Fun K "content_after" "content_after" (top 39) f fd) (c_check_fall : Cal P w K mg base 5 "check_fall" (spM true (R_check_fall C))) (c_overwritten : Cal P w K mg base 2 "overwritten" (spM false (R_overwritten C))) (p_base : Prp P w K mg base 1 C "base" (spM true (R_base C))) : FnOk P w K mg base CX0 6 f fd ["plan", "fall"] (spM false (R_content_after C)) := by
  refine fn_okM F sc39 (by rintro _ _ _ _ ⟨p, t, _, _, _, rfl, _⟩; rfl) fun lk cdv A outer s H E xs cs y cs' hlk hr hR => ?_
  obtain ⟨p, t, G, W, hf, rfl, rfl, rfl, rfl⟩ := hR
  obtain rfl := lk_nil hlk
  have hl := fall_len G hf.nd hf.lt
  refine sf_cons (s_expr (ev_callP c_check_fall hr (by decide) (ea_cons (ev_v 0 rfl) (ea_cons (ev_v 1 rfl) ea_nil)) ⟨p, t, G, hf, rfl, rfl, rfl, rfl⟩ (.inl rfl)) ?_)
  exact sf_cons (s_ret (ev_callP c_overwritten hr (by decide) (ea_cons (ev_v 0 rfl) (ea_cons (ev_prop p_base hr (by decide) (ev_v 0 rfl) ⟨p, rfl, rfl, rfl, rfl⟩ (.inl rfl)) (ea_cons (ev_v 1 rfl) ea_nil))) ⟨p, p.b, t, G, W, rfl, hf.lt, by omega, rfl, rfl, rfl, rfl⟩ (.inr rfl)) ⟨rfl, rfl⟩)
end
end Af
set_option Elab.async false
set_option linter.all false
set_option maxRecDepth 100000
set_option maxHeartbeats 2000000
/-! ### afterfall.claims, .sure: without claims -/
namespace Af
open PySem L2

def noC : D := .tup [.lst [], .lst [], .lst []]
def R_are_ascending (xs : List D) (cs : Cs) (y : D) (cs' : Cs) : Prop := xs = [.lst []] ∧ cs = [] ∧ y = .bl true ∧ cs' = []
def R_claimed_there (xs : List D) (cs : Cs) (y : D) (cs' : Cs) : Prop := xs = [noC] ∧ cs = [] ∧ y = .lst [] ∧ cs' = []
def R_is_claims (C : Addr) (xs : List D) (cs : Cs) (y : D) (cs' : Cs) : Prop := ∃ p, PIn.Good p ∧ xs = [planD C p, noC] ∧ cs = [] ∧ y = .bl true ∧ cs' = []
def R_check_claims (C : Addr) (xs : List D) (cs : Cs) (y : D) (cs' : Cs) : Prop := ∃ p, PIn.Good p ∧ xs = [planD C p, noC] ∧ cs = [] ∧ y = .non ∧ cs' = []
def R_refusal (C : Addr) (xs : List D) (cs : Cs) (y : D) (cs' : Cs) : Prop := ∃ (p : PIn) (e : Int), xs = [planD C p, noC, .int e] ∧ cs = [] ∧ y = .non ∧ cs' = []
def R_sure_in (C : Addr) (xs : List D) (cs : Cs) (y : D) (cs' : Cs) : Prop := ∃ (p : PIn) (e : Nat), p.Good ∧ e < p.pl.epochs ∧ xs = [planD C p, noC, .int e] ∧ cs = [] ∧ y = natD (lowerN p e) ∧ cs' = []
section
variable {lk : List Addr} {X : Cx} {tg iter elt c : Expr} {scope : Scope} {own : List (Str × Nat)} {ds : Ds} {cs cs0 : Cs} {pos : Pos} {G : Cs → Prop}
/-- [.. for .. in []] -/
theorem ev_mapNil (nd : X.N.Nodup) (ok : BlkOk X.N X.env.scope scope own) (hi : EvI lk X tg iter ds cs [] cs0 G) (hG : ∀ fr, G (cs0 ++ fr)) (hc : X.calm = true := by rfl) (hs : ∀ x, foldedSetIterable iter X.env x = pure x := by intro _; rfl) :
    EvM lk X (.ListComp elt [⟨tg, iter, [], 0⟩] scope pos) ds cs (.lst []) cs0 :=
  ev_mapG ([] : List Unit) (fun _ => .non) (fun _ => .non) nd ok hi rfl (by simp) hG (fun i k h => by simp at h) hc hs
theorem ev_filNil (nd : X.N.Nodup) (ok : BlkOk X.N X.env.scope scope own) (hi : EvI lk X tg iter ds cs [] cs0 G) (hG : ∀ fr, G (cs0 ++ fr)) (hc : X.calm = true := by rfl) (hs : ∀ x, foldedSetIterable iter X.env x = pure x := by intro _; rfl) :
    EvM lk X (.ListComp elt [⟨tg, iter, [c], 0⟩] scope pos) ds cs (.lst []) cs0 :=
  ev_filterG ([] : List Unit) (fun _ => .non) (fun _ => true) (fun _ => .non) nd ok hi rfl (by simp) hG (fun i k h => by simp at h) hc hs
theorem cd_allNil (hc : X.calm = true := by rfl) : CallD lk X (.builtin "all") [.lst []] cs (.bl true) cs := cd_all (bs := []) hc
theorem cd_anyNil (hc : X.calm = true := by rfl) : CallD lk X (.builtin "any") [.lst []] cs (.bl false) cs := cd_any (bs := []) hc
end
section
variable {P : Program} {w : World} {K : PySem.W.Frag} {mg : Str → Option Value} {base : Heap} {f : Addr} {fd : FuncData} {C : Addr}
theorem sc41 : FnScope ["thing"] ["thing"] (defScope (top 41)) := ⟨rfl, rfl, rfl, by decide +kernel, rfl, by decide +kernel, by decide +kernel⟩
theorem ok_are_ascending (T : Txt K mg) (F : Fun K "are_ascending" "are_ascending" (top 41) f fd) : FnOk P w K mg base CX0 1 f fd ["thing"] (spM true R_are_ascending) := by
  refine fn_okM F sc41 (by rintro _ _ _ _ ⟨rfl, _⟩; rfl) fun lk cdv A outer s H E xs cs y cs' hlk hr hR => ?_
  obtain ⟨rfl, rfl, rfl, rfl⟩ := hR
  have hu := hr.units
  exact sf_cons (s_ret (ev_cmp (ev_v 0 rfl) (ev_sortedSetL (ns := []) (ms := []) (ev_v 0 rfl) (by simp) (by simp) (by simp) T.zsorted T.zset) (od_eqD (t := true) (by omega) (plain_lst []) (plain_lst []) (Nat.le_trans (depth_lst []) (by decide)) (Nat.le_trans (depth_lst []) (by decide)) (by simp [dints]))) ⟨rfl, rfl⟩)
abbrev N44 : List Str := ["claims", "there", "gone", "ahead", "pair", "piece"]
theorem sc44 : FnScope N44 ["claims"] (defScope (top 44)) := ⟨rfl, rfl, rfl, by decide +kernel, rfl, by decide +kernel, by decide +kernel⟩
theorem ok_claimed_there (T : Txt K mg) (F : Fun K "claimed_there" "claimed_there" (top 44) f fd) : FnOk P w K mg base CX0 1 f fd ["claims"] (spM true R_claimed_there) := by
  refine fn_okM F sc44 (by rintro _ _ _ _ ⟨rfl, _⟩; rfl) fun lk cdv A outer s H E xs cs y cs' hlk hr hR => ?_
  obtain ⟨rfl, rfl, rfl, rfl⟩ := hR
  have nd : N44.Nodup := nd_of (by decide +kernel)
  refine sf_cons (s_tgt (vs := [1, 2, 3]) (ev_v 0 rfl) (tg_tup3 1 2 3 nd) ?_)
  exact sf_cons (s_ret (ev_sortedSetL (ns := []) (ms := []) (EvM.cast (ev_lst (ea_starL (ev_v 1 rfl) (ea_starL (ev_lc2nil (own := [("pair", 4), ("piece", 5)]) (vs1 := [5]) nd (blk (top 44) N44 rfl rfl) (ei_lst (ev_v 3 rfl)) (fun _ => trivial)) ea_nil))) rfl) (by simp) (by simp) (by simp) T.zsorted T.zset) ⟨rfl, rfl⟩)
abbrev N45 : List Str := ["plan", "thing", "pair", "part", "piece", "other"]
theorem sc45 : FnScope N45 ["plan", "thing"] (defScope (top 45)) := ⟨rfl, rfl, rfl, by decide +kernel, rfl, by decide +kernel, by decide +kernel⟩
theorem ok_is_claims (T : Txt K mg) (F : Fun K "is_claims" "is_claims" (top 45) f fd) (c_are_pieces : Cal P w K mg base 3 "are_pieces" (spM true (R_are_pieces C))) (c_are_ascending : Cal P w K mg base 1 "are_ascending" (spM true R_are_ascending)) (c_claimed_there : Cal P w K mg base 1 "claimed_there" (spM true R_claimed_there)) : FnOk P w K mg base CX0 4 f fd ["plan", "thing"] (spM true (R_is_claims C)) := by
  refine fn_okM F sc45 (by rintro _ _ _ _ ⟨p, _, rfl, _⟩; rfl) fun lk cdv A outer s H E xs cs y cs' hlk hr hR => ?_
  obtain ⟨p, G, rfl, rfl, rfl, rfl⟩ := hR
  have nd : N45.Nodup := nd_of (by decide +kernel)
  refine sf_cons (s_ifF (et_w (ew_orF (et_not (t := true) (et_val (ev_isi (ev_v 1 rfl) ty_tup k_tuple T.zisinstance T.ztuple b_isi b_tuple))) (ew_or1 (et_cmp (ev_callB (ea_cons (ev_v 1 rfl) ea_nil) cd_lenU T.zlen b_len) ev_int od_neI)))) (sf_nil ?_))
  refine sf_cons (s_ifF (et_w (ew_orF (et_not (t := true) (et_val (ev_callP c_are_pieces hr (by decide) (ea_cons (ev_v 0 rfl) (ea_cons (ev_ixU (ev_v 1 rfl) ev_int rfl) ea_nil)) ⟨p, [], G, List.nodup_nil, by simp, rfl, rfl, rfl, rfl⟩ (.inl rfl))))
    (ew_or1 (et_not (t := true) (et_val (ev_callP c_are_pieces hr (by decide) (ea_cons (ev_v 0 rfl) (ea_cons (ev_ixU (ev_v 1 rfl) ev_int rfl) ea_nil)) ⟨p, [], G, List.nodup_nil, by simp, rfl, rfl, rfl, rfl⟩ (.inl rfl))))))) (sf_nil ?_))
  refine sf_cons (s_ifF (et_w (ew_orF (et_not (t := true) (et_val (ev_isi (ev_ixU (ev_v 1 rfl) ev_int rfl) (ty_lst (xs := [])) k_list T.zisinstance T.zlist b_isi b_list))) (ew_or1 (et_not (t := true) (et_val (ev_callB (ea_cons (ev_mapNil (own := [("pair", 2)]) nd (blk (top 45) N45 rfl rfl) (ei_lst (ev_ixU (ev_v 1 rfl) ev_int rfl)) (fun _ => trivial)) ea_nil) cd_allNil T.zall b_all)))))) (sf_nil ?_))
  refine sf_cons (s_ifF (et_not (t := true) (et_val (ev_callB (ea_cons (ev_mapG (own := [("part", 3)]) [(), (), ()] (fun _ => .lst []) (fun _ => .bl true) nd (blk (top 45) N45 rfl rfl) (ei_tup (ev_v 1 rfl)) rfl (by simp) (fun _ => trivial) fun i k hk => ?_) ea_nil) (cd_allT _) T.zall b_all))) (sf_nil ?_))
  · exact ⟨_, fun b => tg_name 3 nd, fun b => ev_callP c_are_ascending hr (by decide) (ea_cons (ev_v 3 rfl) ea_nil) ⟨rfl, rfl, rfl, rfl⟩ (.inl rfl)⟩
  refine sf_cons (s_ifF (et_val (ev_callB (ea_cons (ev_mapNil (own := [("piece", 4)]) nd (blk (top 45) N45 rfl rfl) (ei_lst (ev_callP c_claimed_there hr (by decide) (ea_cons (ev_v 1 rfl) ea_nil) ⟨rfl, rfl, rfl, rfl⟩ (.inl rfl))) (fun _ => trivial)) ea_nil) cd_anyNil T.zany b_any)) (sf_nil ?_))
  refine sf_cons (s_ifF (et_val (ev_callB (ea_cons (ev_mapNil (own := [("piece", 4), ("other", 5)]) nd (blk (top 45) N45 rfl rfl) (ei_lst (ev_ixU (ev_v 1 rfl) ev_int rfl)) (fun _ => trivial)) ea_nil) cd_anyNil T.zany b_any)) (sf_nil ?_))
  exact sf_cons (s_ret (ev_not (ev_callB (ea_cons (ev_mapNil (own := [("piece", 4), ("other", 5)]) nd (blk (top 45) N45 rfl rfl) (ei_lst (ev_ixU (ev_v 1 rfl) ev_int rfl)) (fun _ => trivial)) ea_nil) cd_anyNil T.zany b_any)) ⟨rfl, rfl⟩)
theorem sc46 : FnScope ["plan", "thing"] ["plan", "thing"] (defScope (top 46)) := ⟨rfl, rfl, rfl, by decide +kernel, rfl, by decide +kernel, by decide +kernel⟩
theorem ok_check_claims (T : Txt K mg) (F : Fun K "check_claims" "check_claims" (top 46) f fd) (c_is_claims : Cal P w K mg base 4 "is_claims" (spM true (R_is_claims C))) : FnOk P w K mg base CX0 5 f fd ["plan", "thing"] (spM true (R_check_claims C)) := by
  refine fn_okM F sc46 (by rintro _ _ _ _ ⟨p, _, rfl, _⟩; rfl) fun lk cdv A outer s H E xs cs y cs' hlk hr hR => ?_
  obtain ⟨p, G, rfl, rfl, rfl, rfl⟩ := hR
  exact sf_cons (s_ifF (et_not (t := true) (et_val (ev_callP c_is_claims hr (by decide) (ea_cons (ev_v 0 rfl) (ea_cons (ev_v 1 rfl) ea_nil)) ⟨p, G, rfl, rfl, rfl, rfl⟩ (.inl rfl)))) (sf_nil (sf_nil ⟨rfl, rfl⟩)))
abbrev N47 : List Str := ["plan", "claims", "epoch", "late", "missing", "piece"]
theorem sc47 : FnScope N47 ["plan", "claims", "epoch"] (defScope (top 47)) := ⟨rfl, rfl, rfl, by decide +kernel, rfl, by decide +kernel, by decide +kernel⟩
theorem ok_refusal (T : Txt K mg) (F : Fun K "refusal" "refusal" (top 47) f fd) (c_claimed_there : Cal P w K mg base 1 "claimed_there" (spM true R_claimed_there)) : FnOk P w K mg base CX0 2 f fd ["plan", "claims", "epoch"] (spM true (R_refusal C)) := by
  refine fn_okM F sc47 (by rintro _ _ _ _ ⟨p, e, rfl, _⟩; rfl) fun lk cdv A outer s H E xs cs y cs' hlk hr hR => ?_
  obtain ⟨p, e, rfl, rfl, rfl, rfl⟩ := hR
  have nd : N47.Nodup := nd_of (by decide +kernel)
  have hu := hr.units
  have hne : ∀ (lk : List Addr) (cs : Cs), OpD lk (bcx P w K mg base N47 "refusal" (top 47) f cdv A outer s H E) (compareOp .NotEq) (.lst []) (.lst []) cs (.bl false) cs := fun lk cs => od_neD (t := true) (by omega) (plain_lst []) (plain_lst []) (Nat.le_trans (depth_lst []) (by decide)) (Nat.le_trans (depth_lst []) (by decide)) (by simp)
  refine sf_cons (s_setLc 3 nd (ifs := [_]) (own := [("piece", 5)]) (blk (top 47) N47 rfl rfl) (ei_lst (ev_callP c_claimed_there hr (by decide) (ea_cons (ev_v 1 rfl) ea_nil) ⟨rfl, rfl, rfl, rfl⟩ (.inl rfl))) (fun _ => []) (fun _ => []) rfl rfl (fun _ _ _ => trivial) (fun _ _ => by simp) (fun i x h => by simp at h) ?_)
  refine sf_cons (s_ifF (et_cmp (ev_v 3 rfl) (ev_lst ea_nil) (hne _ _)) (sf_nil ?_))
  refine sf_cons (s_setLc 4 nd (ifs := [_]) (own := [("piece", 5)]) (blk (top 47) N47 rfl rfl) (ei_lst (ev_ixU (ev_v 1 rfl) ev_int rfl)) (fun _ => []) (fun _ => []) rfl rfl (fun _ _ _ => trivial) (fun _ _ => by simp) (fun i x h => by simp at h) ?_)
  exact sf_cons (s_ret (ev_ifF (et_cmp (ev_v 4 rfl) (ev_lst ea_nil) (hne _ _)) ev_non) ⟨rfl, rfl⟩)
theorem sc48 : FnScope ["plan", "claims", "epoch"] ["plan", "claims", "epoch"] (defScope (top 48)) := ⟨rfl, rfl, rfl, by decide +kernel, rfl, by decide +kernel, by decide +kernel⟩
theorem ok_sure_in (T : Txt K mg) (F : Fun K "sure_in" "sure_in" (top 48) f fd) (c_check_claims : Cal P w K mg base 5 "check_claims" (spM true (R_check_claims C))) (c_is_below : Cal P w K mg base 2 "is_below" (spM true R_is_below)) (p_epochs : Prp P w K mg base 1 C "epochs" (spM true (R_epochs C)))
    (c_refusal : Cal P w K mg base 2 "refusal" (spM true (R_refusal C))) (c_lower_pieces : Cal P w K mg base 1 "lower_pieces" (spM true (R_lower_pieces C))) (c_claimed_there : Cal P w K mg base 1 "claimed_there" (spM true R_claimed_there)) : FnOk P w K mg base CX0 6 f fd ["plan", "claims", "epoch"] (spM true (R_sure_in C)) := by
  refine fn_okM F sc48 (by rintro _ _ _ _ ⟨p, e, _, _, rfl, _⟩; rfl) fun lk cdv A outer s H E xs cs y cs' hlk hr hR => ?_
  obtain ⟨p, e, G, he, rfl, rfl, rfl, rfl⟩ := hR
  have hn : p.pl.n ≤ 40 := G.few
  have hll : (lowerN p e).length ≤ 40 := by
    unfold lowerN
    have := List.length_filter_le (fun j => decide (p.pl.rank j < e)) (List.range p.pl.n)
    rw [List.length_range] at this; omega
  refine sf_cons (s_expr (ev_callP c_check_claims hr (by decide) (ea_cons (ev_v 0 rfl) (ea_cons (ev_v 1 rfl) ea_nil)) ⟨p, G, rfl, rfl, rfl, rfl⟩ (.inl rfl)) ?_)
  refine sf_cons (s_ifF (et_not (t := true) (et_val (ev_callP c_is_below hr (by decide) (ea_cons (ev_v 2 rfl) (ea_cons (ev_prop p_epochs hr (by decide) (ev_v 0 rfl) ⟨p, rfl, rfl, rfl, rfl⟩ (.inl rfl)) ea_nil)) ⟨e, p.pl.epochs, rfl, rfl, by simp; omega, rfl⟩ (.inl rfl)))) (sf_nil ?_))
  refine sf_cons (s_ifF (et_cmp (ev_callP c_refusal hr (by decide) (ea_cons (ev_v 0 rfl) (ea_cons (ev_v 1 rfl) (ea_cons (ev_v 2 rfl) ea_nil))) ⟨p, e, rfl, rfl, rfl, rfl⟩ (.inl rfl)) ev_non od_isnot) (sf_nil ?_))
  refine sf_cons (s_ret (ev_sortedSetL (ns := nints (lowerN p e)) (ms := nints (lowerN p e)) (EvM.cast (ev_lst (ea_starL (ev_callP c_lower_pieces hr (by decide) (ea_cons (ev_v 0 rfl) (ea_cons (ev_v 2 rfl) ea_nil)) ⟨p, e, G, rfl, rfl, rfl, rfl⟩ (.inl rfl)) (ea_starL (ev_callP c_claimed_there hr (by decide) (ea_cons (ev_v 1 rfl) ea_nil) ⟨rfl, rfl, rfl, rfl⟩ (.inl rfl)) ea_nil)) (by simp [dints_len, nints_len]; omega)) (by simp)) (by rw [nints_len]; omega) ?_ (fun _ => .rfl) T.zsorted T.zset) ⟨rfl, rfl⟩)
  unfold nints lowerN
  rw [List.pairwise_map]
  exact (List.pairwise_lt_range.filter _).imp fun h => by omega
end
end Af
set_option Elab.async false
set_option linter.all false
set_option maxRecDepth 100000
set_option maxHeartbeats 2000000
/-! ### afterfall.finding.Peel -/
namespace Af
open PySem L2

structure ClsPeel (K : PySem.W.Frag) (C : Addr) : Prop where
  cls : Cls K C
  ngiven : NoAttr K C "given"
  nepoch : NoAttr K C "epoch"
  nneeded : NoAttr K C "needed"
  nbottom : NoAttr K C "bottom"
  nchains : NoAttr K C "chains"
  nsure : NoAttr K C "sure"
  nleft : NoAttr K C "left"
  ntaken : NoAttr K C "taken"
  nspoils : NoAttr K C "spoils"
  nended : NoAttr K C "ended"
/-- where a peel lies, and what it was made of -/
structure PS where
  s : Addr
  dx : Addr
  nd : Addr
  lf : Addr
  tk : Addr
  sp : Addr
  p : PIn
  pat : Pat
  e : Nat
structure PS.Ok (q : PS) : Prop where
  good : q.p.Good
  wf : q.p.pl.WF
  keys : (q.pat.map (·.1)).Nodup
  few : q.pat.length ≤ 100
  ep : q.e < q.p.pl.epochs
section
variable (CP CQ : Addr) (q : PS)
def pkF (en : Bool) : List (Str × D) := [("given", planD CP q.p), ("epoch", .int q.e), ("needed", .ptr q.nd), ("bottom", .dic (cellD (baseD q.p.pl))), ("chains", .dic []), ("sure", natD (lowerN q.p q.e)), ("left", .ptr q.lf), ("taken", .ptr q.tk), ("spoils", .ptr q.sp), ("ended", .bl en)]
def pk1 (en : Bool) : Addr × CO := (q.s, .ins CQ q.dx (pkF CP q en))
def pk2 (T : List Nat) : Addr × CO := (q.nd, .dic (patD (needed q.p.pl q.pat T)))
def pk3 (T : List Nat) : Addr × CO := (q.lf, .lst (dints (nints (leftT (left0 q.p.pl q.e) T))))
def pk4 (T : List Nat) : Addr × CO := (q.tk, .lst (dints (nints T)))
def pk5 (spl : List (Int × D)) : Addr × CO := (q.sp, .dic spl)
end
def R_spoilt (CP CQ : Addr) (xs : List D) (cs : Cs) (y : D) (cs' : Cs) : Prop := ∃ (q : PS) (en : Bool) (T : List Nat) (z : Int) (ws : List (Int × Int)), q.Ok ∧ ((∃ i : Nat, i < q.p.pl.n ∧ z = (i : Int) ∧ ws = q.p.pl.wr i) ∨ (z = -1 ∧ ws = baseD q.p.pl)) ∧
  xs = [.ptr q.s, .int z] ∧ cs = [pk1 CP CQ q en, pk2 q T] ∧ y = .lst (dints (spoiltBy (needed q.p.pl q.pat T) ws)) ∧ cs' = [pk1 CP CQ q en, pk2 q T]
def R_can_be_last (CP CQ : Addr) (xs : List D) (cs : Cs) (y : D) (cs' : Cs) : Prop := ∃ (q : PS) (en : Bool) (T : List Nat) (i : Nat), q.Ok ∧ i < q.p.pl.n ∧
  xs = [.ptr q.s, .int i] ∧ cs = [pk1 CP CQ q en, pk2 q T, pk3 q T] ∧ y = .bl (okLast q.p.pl q.pat T i) ∧ cs' = [pk1 CP CQ q en, pk2 q T, pk3 q T]
def R_take (CP CQ : Addr) (xs : List D) (cs : Cs) (y : D) (cs' : Cs) : Prop := ∃ (q : PS) (en : Bool) (T : List Nat) (i : Nat), q.Ok ∧ i ∈ leftT (left0 q.p.pl q.e) T ∧ T.length ≤ 100 ∧
  xs = [.ptr q.s, .int i] ∧ cs = [pk1 CP CQ q en, pk2 q T, pk3 q T, pk4 q T] ∧ y = .non ∧ cs' = [pk1 CP CQ q en, pk2 q (T ++ [i]), pk3 q (T ++ [i]), pk4 q (T ++ [i])]
theorem cellD_get (ws : List (Int × Int)) (k : Int) : kget (cellD ws) k = (kget ws k).map D.int := kget_map D.int k ws
theorem spoiltBy_take {N : Pat} {ws : List (Int × Int)} {j : Nat} {q : Int × List Int} (h : N[j]? = some q) : spoiltBy (N.take (j + 1)) ws = spoiltBy (N.take j) ws ++ (if (match kget ws q.1 with | some v => !q.2.contains v | none => false) = true then [q.1] else []) := by
  have e : N.take (j + 1) = N.take j ++ [q] := by rw [List.take_add_one, h]; rfl
  unfold spoiltBy
  rw [e, List.filter_append, List.map_append]
  congr 1
  have : ∀ g : Int × List Int → Bool, (List.filter g [q]).map (·.1) = if g q = true then [q.1] else [] := by
    intro g
    by_cases h : g q = true
    · simp [h]
    · simp [h]
  exact this _
theorem spoiltBy_len (N : Pat) (ws : List (Int × Int)) : (spoiltBy N ws).length ≤ N.length := by
  unfold spoiltBy
  rw [List.length_map]
  exact List.length_filter_le _ _
theorem needed_keys {p : Pl} {pat : Pat} {T : List Nat} (h : (pat.map (·.1)).Nodup) : ((needed p pat T).map (·.1)).Nodup := by
  unfold needed
  exact (List.filter_sublist.map _).nodup h
theorem needed_len (p : Pl) (pat : Pat) (T : List Nat) : (needed p pat T).length ≤ pat.length := List.length_filter_le _ _
section
variable {P : Program} {w : World} {K : PySem.W.Frag} {mg : Str → Option Value} {base : Heap} {f : Addr} {fd : FuncData} {CP CQ : Addr}
abbrev Nsp : List Str := ["self", "piece", "worths", "cell"]
theorem sc51_1 : FnScope Nsp ["self", "piece"] (defScope (inClass (top 51) 1)) := ⟨rfl, rfl, rfl, by decide +kernel, rfl, by decide +kernel, by decide +kernel⟩
theorem ok_spoilt (T : Txt K mg) (L : ClsPeel K CQ) (F : Fun K "spoilt" "Peel.spoilt" (inClass (top 51) 1) f fd) (c_cells_in : Cal P w K mg base 1 "cells_in" (spM true (R_cells_in CP))) : FnOk P w K mg base CX0 2 f fd ["self", "piece"] (spM false (R_spoilt CP CQ)) := by
  refine fn_okM F sc51_1 (by rintro _ _ _ _ ⟨q, en, t, z, ws, _, _, rfl, _⟩; rfl) fun lk cdv A outer s H E xs cs y cs' hlk hr hR => ?_
  obtain ⟨q, en, t, z, ws, ok, hz, rfl, rfl, rfl, rfl⟩ := hR
  obtain rfl := lk_nil hlk
  have nd : Nsp.Nodup := nd_of (by decide +kernel)
  have hu1 : (bcx P w K mg base Nsp "Peel.spoilt" (inClass (top 51) 1) f cdv A outer s H E).A.units + 1 < cLine := by have := hr.un; omega
  have hN : (needed q.p.pl q.pat t).length ≤ 100 := Nat.le_trans (needed_len _ _ _) ok.few
  have hk := needed_keys (p := q.p.pl) (T := t) ok.keys
  refine sf_cons (s_set 2 nd (x := .dic (cellD ws)) (cs1 := [pk1 CP CQ q en, pk2 q t]) ?w ?_)
  case w =>
    refine ev_if (t := decide (z = -1)) (et_cmp (ev_v 1 rfl) (ev_glob' T.mBASE) od_eqI) (fun h => ?_) (fun h => ?_)
    · have hz' : z = -1 := by simpa using h
      rcases hz with ⟨i, _, e, _⟩ | ⟨_, e⟩
      · omega
      · subst e; exact ev_fldC 0 L.cls L.nbottom (ev_v 0 rfl) rfl rfl
    · have hz' : z ≠ -1 := by simpa using h
      rcases hz with ⟨i, hi, e, e2⟩ | ⟨e, _⟩
      · subst e e2
        exact ev_call c_cells_in hr (by decide) (fr := [pk1 CP CQ q en, pk2 q t]) (cs0 := []) (cs1 := []) (ea_cons (ev_fldC 0 L.cls L.ngiven (ev_v 0 rfl) rfl rfl) (ea_cons (ev_v 1 rfl) ea_nil)) ⟨q.p, i, ok.good, hi, rfl, rfl, rfl, rfl⟩ (.inl rfl)
      · exact absurd e hz'
  · refine sf_cons (s_ret (EvM.cast (ev_lcKeysC 1 (own := [("cell", 3)]) (kvs := patD (needed q.p.pl q.pat t)) nd (blk (inClass (top 51) 1) Nsp rfl rfl) (ev_fldC 0 L.cls L.nneeded (ev_v 0 rfl) rfl rfl) rfl (fun j => dints (spoiltBy ((needed q.p.pl q.pat t).take j) ws)) (by simp [spoiltBy, dints]) (fun i hi => by
      have := spoiltBy_len ((needed q.p.pl q.pat t).take i) ws
      rw [dints_len]; rw [List.length_take] at this; omega) fun od wsL j x hx => ?_) ?_) ⟨rfl, rfl⟩)
    · rw [patD_keys] at hx
      obtain ⟨k, hk2, rfl⟩ := dints_get hx
      rw [List.getElem?_map] at hk2
      cases hq : (needed q.p.pl q.pat t)[j]? with
      | none => rw [hq] at hk2; cases hk2
      | some c =>
        rw [hq] at hk2
        have e := Option.some.inj hk2
        subst e
        have hg : kget (patD (needed q.p.pl q.pat t)) c.1 = some (.tup (dints c.2)) := by
          rw [patD_get1, kget_of hk (List.mem_of_getElem? hq)]; rfl
        refine ⟨_, fun b => tg_name 3 nd, ?_⟩
        show (∃ c0 y, _ ∧ _ ∧ _ = _ ++ [y]) ∨ _
        rw [spoiltBy_take hq]
        cases hw : kget ws c.1 with
        | none =>
          refine .inr ⟨.one fun b => et_w (ew_andF (EvT.cast (et_inK hu1 (ev_v 3 rfl) (ev_v 2 rfl)) (by rw [cellD_get, hw]; rfl))), by simp⟩
        | some v =>
          cases hc : c.2.contains v with
          | true => exact .inr ⟨.one fun b => et_w (ew_andT (EvT.cast (et_inK hu1 (ev_v 3 rfl) (ev_v 2 rfl)) (by rw [cellD_get, hw]; rfl)) (ew_and1 (et_cmp (ev_getK hu1 (ev_v 2 rfl) (ev_v 3 rfl) (by rw [cellD_get, hw]; rfl)) (ev_getKL 1 hu1 (ev_fldC 0 L.cls L.nneeded (ev_v 0 rfl) rfl rfl) (ev_v 3 rfl) rfl hg) (OpD.cast od_ninU (by rw [List.contains_eq_mem] at hc; simpa using hc))))), by
              show dints (_ ++ if (!c.2.contains v) = true then [c.1] else []) = _
              rw [hc]; simp⟩
          | false => exact .inl ⟨_, .int c.1, .one fun b => et_w (ew_andT (EvT.cast (et_inK hu1 (ev_v 3 rfl) (ev_v 2 rfl)) (by rw [cellD_get, hw]; rfl)) (ew_and1 (et_cmp (ev_getK hu1 (ev_v 2 rfl) (ev_v 3 rfl) (by rw [cellD_get, hw]; rfl)) (ev_getKL 1 hu1 (ev_fldC 0 L.cls L.nneeded (ev_v 0 rfl) rfl rfl) (ev_v 3 rfl) rfl hg) (OpD.cast od_ninU (by rw [List.contains_eq_mem] at hc; simpa using hc))))), fun b => ev_v 3 rfl, by
              show dints (_ ++ if (!c.2.contains v) = true then [c.1] else []) = _
              rw [hc]; simp [dints]⟩
    · rw [patD_len, List.take_length]
end
end Af
set_option Elab.async false
set_option linter.all false
set_option maxRecDepth 100000
set_option maxHeartbeats 2000000
namespace Af
open PySem L2
theorem erase_at {i : Nat} : ∀ (l : List Nat) (j : Nat), l.Nodup → l[j]? = some i → l.filter (fun x => decide (x ≠ i)) = l.eraseIdx j
  | [], j, _, h => by simp at h
  | x :: l, 0, nd, h => by
    simp at h; subst h
    have hx := (List.nodup_cons.mp nd).1
    rw [List.filter_cons_of_neg (by simp), List.eraseIdx_cons_zero]
    exact List.filter_eq_self.mpr fun y hy => by simp; intro e; exact hx (e ▸ hy)
  | x :: l, j + 1, nd, h => by
    have hx := (List.nodup_cons.mp nd).1
    have hi : l[j]? = some i := by simpa using h
    have hne : x ≠ i := fun e => hx (e ▸ List.mem_of_getElem? hi)
    rw [List.filter_cons_of_pos (by simpa using hne), List.eraseIdx_cons_succ, erase_at l j (List.nodup_cons.mp nd).2 hi]
theorem map_erase {α β : Type} (g : α → β) : ∀ (l : List α) (k : Nat), (l.eraseIdx k).map g = (l.map g).eraseIdx k
  | [], _ => rfl
  | _ :: _, 0 => rfl
  | x :: l, k + 1 => by rw [List.eraseIdx_cons_succ, List.map_cons, List.map_cons, List.eraseIdx_cons_succ, map_erase g l k]
theorem leftT_snoc (L T : List Nat) (i : Nat) : leftT L (T ++ [i]) = (leftT L T).filter fun x => decide (x ≠ i) := by
  unfold leftT
  rw [List.filter_filter]
  refine List.filter_congr fun x hx => ?_
  rw [List.contains_eq_mem, List.contains_eq_mem]
  by_cases h1 : x ∈ T <;> by_cases h2 : x = i <;> simp [h1, h2]
theorem left0_nodup (p : Pl) (e : Nat) : (left0 p e).Nodup := by unfold left0; exact List.nodup_range.filter _
theorem leftT_nodup (p : Pl) (e : Nat) (T : List Nat) : (leftT (left0 p e) T).Nodup := by unfold leftT; exact (left0_nodup p e).filter _
theorem kdrop_pat (N : Pat) (k : Int) : kdrop (patD N) k = patD (N.filter fun q => decide (q.1 ≠ k)) := by
  unfold kdrop patD
  rw [List.filter_map]; rfl
theorem needed_snoc (p : Pl) (pat : Pat) (T : List Nat) (i : Nat) : (needed p pat T).filter (fun q => ((p.wr i).map (·.1)).all fun k => decide (q.1 ≠ k)) = needed p pat (T ++ [i]) := by
  unfold needed
  rw [List.filter_filter]
  refine List.filter_congr fun q hq => ?_
  rw [unw_append, Bool.and_comm]
  congr 1
  unfold unw
  rw [List.all_cons, List.all_nil, Bool.and_true]
  refine bool_of (P := ∀ z ∈ p.wr i, z.1 ≠ q.1) ?_ ?_
  · rw [List.all_eq_true]
    constructor
    · intro h z hz e
      have := h z.1 (List.mem_map_of_mem (f := (·.1)) hz)
      simp [e] at this
    · intro h k hk
      obtain ⟨z, hz, rfl⟩ := List.mem_map.mp hk
      have := h z hz
      simpa using fun e => this e.symm
  · rw [Option.isNone_iff_eq_none]; exact kget_none
section
variable {P : Program} {w : World} {K : PySem.W.Frag} {mg : Str → Option Value} {base : Heap} {f : Addr} {fd : FuncData} {CP CQ : Addr}
theorem sc51_2 : FnScope ["self", "piece", "other"] ["self", "piece"] (defScope (inClass (top 51) 2)) := ⟨rfl, rfl, rfl, by decide +kernel, rfl, by decide +kernel, by decide +kernel⟩
theorem pkF_no (q : PS) (en : Bool) (m : Str) (h : ((["given", "epoch", "needed", "bottom", "chains", "sure", "left", "taken", "spoils", "ended"] : List Str).all fun g => !(m == g)) = true) : (pkF CP q en).lookup m = none := by
  simp only [List.all_cons, List.all_nil, Bool.and_true, Bool.and_eq_true, Bool.not_eq_true'] at h
  obtain ⟨h1, h2, h3, h4, h5, h6, h7, h8, h9, h10⟩ := h
  simp only [pkF, List.lookup, h1, h2, h3, h4, h5, h6, h7, h8, h9, h10]
theorem ok_can_be_last (T : Txt K mg) (L : ClsPeel K CQ) (F : Fun K "can_be_last" "Peel.can_be_last" (inClass (top 51) 2) f fd) (c_spoilt : Met P w K mg base 2 CQ "spoilt" (spM false (R_spoilt CP CQ))) : FnOk P w K mg base CX0 3 f fd ["self", "piece"] (spM false (R_can_be_last CP CQ)) := by
  refine fn_okM F sc51_2 (by rintro _ _ _ _ ⟨q, en, t, i, _, _, rfl, _⟩; rfl) fun lk cdv A outer s H E xs cs y cs' hlk hr hR => ?_
  obtain ⟨q, en, t, i, ok, hi, rfl, rfl, rfl, rfl⟩ := hR
  obtain rfl := lk_nil hlk
  have nd : (["self", "piece", "other"] : List Str).Nodup := nd_of (by decide +kernel)
  have hu := hr.units
  have hu1 : (bcx P w K mg base ["self", "piece", "other"] "Peel.can_be_last" (inClass (top 51) 2) f cdv A outer s H E).A.units + 1 < cLine := by have := hr.un; omega
  refine sf_cons (s_ifF (et_val (ev_callB (ea_cons (ev_lcKeys (own := [("other", 2)]) (kvs := []) nd (blk (inClass (top 51) 2) ["self", "piece", "other"] rfl rfl) (EvM.cast (ev_get2 hu1 (ev_fldC 0 L.cls L.nchains (ev_v 0 rfl) rfl rfl) (ev_v 1 rfl) ev_dict) rfl) (fun _ => []) (fun _ => [pk1 CP CQ q en, pk2 q t, pk3 q t]) rfl rfl (fun _ _ => by simp) (fun d i x h => by simp [keysD] at h)) ea_nil) cd_anyNil T.zany b_any)) (sf_nil ?_))
  refine sf_cons (s_ret (ev_cmp (ev_meth 0 c_spoilt hr (by decide) (cs0 := [pk1 CP CQ q en, pk2 q t]) (cs1 := [pk1 CP CQ q en, pk2 q t]) (fr := [pk3 q t]) (ev_v 0 rfl) rfl (pkF_no q en _ (by decide)) (ea_cons (ev_v 1 rfl) ea_nil) ⟨q, en, t, i, q.p.pl.wr i, ok, .inl ⟨i, hi, rfl, rfl⟩, rfl, rfl, rfl, rfl⟩ (.inr rfl)) (ev_lst ea_nil)
    (od_eqD (t := okLast q.p.pl q.pat t i) (by omega) (plain_lst _) (plain_lst []) (Nat.le_trans (depth_lst _) (by decide)) (Nat.le_trans (depth_lst []) (by decide)) ?_)) ⟨rfl, rfl⟩)
  unfold okLast
  rw [List.isEmpty_iff]
  constructor
  · intro h; rw [h]; rfl
  · intro h; injection h with h; exact dints_inj (ms := []).mp h
theorem sc51_3 : FnScope ["self", "piece", "cell"] ["self", "piece"] (defScope (inClass (top 51) 3)) := ⟨rfl, rfl, rfl, by decide +kernel, rfl, by decide +kernel, by decide +kernel⟩
theorem ok_take (T : Txt K mg) (L : ClsPeel K CQ) (F : Fun K "take" "Peel.take" (inClass (top 51) 3) f fd) (c_cells_in : Cal P w K mg base 1 "cells_in" (spM true (R_cells_in CP))) : FnOk P w K mg base CX0 2 f fd ["self", "piece"] (spM false (R_take CP CQ)) := by
  refine fn_okM F sc51_3 (by rintro _ _ _ _ ⟨q, en, t, i, _, _, _, rfl, _⟩; rfl) fun lk cdv A outer s H E xs cs y cs' hlk hr hR => ?_
  obtain ⟨q, en, t, i, ok, hi, htl, rfl, rfl, rfl, rfl⟩ := hR
  obtain rfl := lk_nil hlk
  have nd : (["self", "piece", "cell"] : List Str).Nodup := nd_of (by decide +kernel)
  have hip : i < q.p.pl.n := (mem_left0.mp (mem_leftT.mp hi).1).1
  obtain ⟨j, hj, hji⟩ := List.getElem_of_mem hi
  have hj? : (leftT (left0 q.p.pl q.e) t)[j]? = some i := by rw [List.getElem?_eq_getElem hj, hji]
  refine sf_cons (s_expr (ev_append 3 (ev_fldC 0 L.cls L.ntaken (ev_v 0 rfl) rfl rfl) rfl (ev_v 1 rfl) rfl (by rw [dints_len, nints_len]; omega)) ?_)
  refine sf_cons (s_expr (ev_remove 2 (ms := nints (leftT (left0 q.p.pl q.e) (t ++ [i]))) (j := j) (ev_fldC 0 L.cls L.nleft (ev_v 0 rfl) rfl rfl) rfl (ev_v 1 rfl) rfl (by unfold nints; rw [List.getElem?_map, hj?]; rfl) ?ne ?ms) ?_)
  case ne =>
    intro m hm e
    obtain ⟨k, hk, e2⟩ := nints_get e
    have : k = i := by omega
    subst this
    have := nodup_at (leftT_nodup _ _ _) hk hj?
    omega
  case ms =>
    rw [leftT_snoc, erase_at _ j (leftT_nodup _ _ _) hj?]
    unfold nints
    exact map_erase _ _ _
  refine sf_cons (s_forKeys (vs := [2]) (cs1 := [pk1 CP CQ q en, pk2 q t, pk3 q (t ++ [i]), (q.tk, .lst (dints (nints t) ++ [.int i]))]) (ev_call c_cells_in hr (by decide) (fr := [pk1 CP CQ q en, pk2 q t, pk3 q (t ++ [i]), (q.tk, .lst (dints (nints t) ++ [.int i]))]) (cs0 := []) (cs1 := []) (ea_cons (ev_fldC 0 L.cls L.ngiven (ev_v 0 rfl) rfl rfl) (ea_cons (ev_v 1 rfl) ea_nil)) ⟨q.p, i, ok.good, hip, rfl, rfl, rfl, rfl⟩ (.inl rfl))
    (fun j ds' cs' => cs' = [pk1 CP CQ q en, (q.nd, .dic (patD ((needed q.p.pl q.pat t).filter fun z => (((q.p.pl.wr i).take j).map (·.1)).all fun k => decide (z.1 ≠ k)))), pk3 q (t ++ [i]), (q.tk, .lst (dints (nints t) ++ [.int i]))] ∧ ∃ v2, ds' = [some (.ptr q.s), some (.int i), v2]) ⟨?h0, _, rfl⟩ ?step ?fin)
  case h0 =>
    have : (needed q.p.pl q.pat t).filter (fun z => (((q.p.pl.wr i).take 0).map (·.1)).all fun k => decide (z.1 ≠ k)) = needed q.p.pl q.pat t := List.filter_eq_self.mpr fun _ _ => rfl
    rw [this]; rfl
  case step =>
    rintro d j x ds' cs' hx ⟨rfl, v2, rfl⟩
    have hq : ∃ z, (q.p.pl.wr i)[j]? = some z ∧ x = .int z.1 := by
      unfold keysD cellD at hx
      rw [List.map_map, List.getElem?_map] at hx
      cases e : (q.p.pl.wr i)[j]? with
      | none => rw [e] at hx; cases hx
      | some z => rw [e] at hx; exact ⟨z, rfl, (Option.some.inj hx).symm⟩
    obtain ⟨z, hz, rfl⟩ := hq
    refine ⟨_, tg_name 2 nd, ?_⟩
    refine sf_cons (s_exprP (ev_dpop 1 (ev_fldC 0 L.cls L.nneeded (ev_v 0 rfl) rfl rfl) rfl (ev_v 2 rfl) ev_non) fun y c hc => ?_)
    subst hc
    refine sf_nil ⟨?_, _, rfl⟩
    rw [kdrop_pat, List.filter_filter]
    have e : (q.p.pl.wr i).take (j + 1) = (q.p.pl.wr i).take j ++ [z] := by rw [List.take_add_one, hz]; rfl
    rw [e]
    have : (fun a : Int × List Int => decide (a.1 ≠ z.1) && (((q.p.pl.wr i).take j).map (·.1)).all fun k => decide (a.1 ≠ k)) = fun a => (((q.p.pl.wr i).take j ++ [z]).map (·.1)).all fun k => decide (a.1 ≠ k) := by
      funext a
      rw [List.map_append, List.all_append, Bool.and_comm]; simp
    rw [this]; rfl
  case fin =>
    rintro ds' cs' ⟨rfl, v2, rfl⟩
    have e : (cellD (q.p.pl.wr i)).length = (q.p.pl.wr i).length := by simp [cellD]
    rw [e, List.take_length, needed_snoc]
    refine sf_nil ⟨rfl, ?_⟩
    simp [pk2, pk4, nints, dints]
end
end Af
set_option Elab.async false
set_option linter.all false
set_option maxRecDepth 100000
set_option maxHeartbeats 2000000
namespace Af
open PySem L2
structure TkOk (q : PS) (T : List Nat) : Prop where
  nd : T.Nodup
  lt : ∀ i ∈ T, i < q.p.pl.n
theorem TkOk.len {q : PS} {T : List Nat} (h : TkOk q T) (ok : q.Ok) : T.length ≤ 40 := fall_len ok.good h.nd h.lt
theorem TkOk.snoc {q : PS} {T : List Nat} {i : Nat} (h : TkOk q T) (h1 : i < q.p.pl.n) (h2 : i ∉ T) : TkOk q (T ++ [i]) :=
  ⟨List.nodup_append.mpr ⟨h.nd, by simp, fun a ha b hb e => h2 (by rw [List.mem_singleton.mp hb] at e; exact e ▸ ha)⟩, fun j hj => by
    rcases List.mem_append.mp hj with z | z
    · exact h.lt j z
    · rw [List.mem_singleton.mp z]; exact h1⟩
def tkAll (q : PS) (pcs T : List Nat) : List Nat := takeN q.p.pl q.pat (left0 q.p.pl q.e) pcs pcs.length T
def leftOf (q : PS) (pcs T : List Nat) : List Nat := pcs.filter fun i => (leftT (left0 q.p.pl q.e) T).contains i
def R_take_all (CP CQ : Addr) (xs : List D) (cs : Cs) (y : D) (cs' : Cs) : Prop := ∃ (q : PS) (en : Bool) (pcs T : List Nat), q.Ok ∧ TkOk q T ∧ pcs.length ≤ 100 ∧ (∀ i ∈ pcs, i < q.p.pl.n) ∧
  xs = [.ptr q.s, natD pcs] ∧ cs = [pk1 CP CQ q en, pk2 q T, pk3 q T, pk4 q T] ∧ y = natD (leftOf q pcs (tkAll q pcs T)) ∧ cs' = [pk1 CP CQ q en, pk2 q (tkAll q pcs T), pk3 q (tkAll q pcs T), pk4 q (tkAll q pcs T)]
theorem cut_last {xs : List D} : cutD xs (some (-1)) none = xs.drop (xs.length - 1) := by
  unfold cutD
  have h1 : HT.sIx xs.length 0 (some (-1)) = xs.length - 1 := by
    show (if (-1 : Int) < 0 then ((-1 : Int) + (xs.length : Int)).toNat else min (-1 : Int).toNat xs.length) = _
    rw [if_pos (by decide)]; omega
  rw [h1, HT.sIx_none]
  exact List.take_of_length_le (by simp)
theorem drop_last {α : Type} : ∀ (l : List α), l.drop (l.length - 1) = l.getLast?.toList
  | [] => rfl
  | [x] => rfl
  | x :: y :: l => by
    have := drop_last (y :: l)
    rw [List.getLast?_cons_cons, ← this]
    simp
theorem tkAll_ok {q : PS} {pcs T : List Nat} (h : TkOk q T) : TkOk q (tkAll q pcs T) :=
  (takeN_run (p := q.p.pl) (pat := q.pat) (L := left0 q.p.pl q.e) (pcs := pcs) (fun S => TkOk q S) (fun S i hS _ h2 h3 _ => hS.snoc (mem_left0.mp h2).1 h3) _ T (avail_le _ _ _) h).1
section
variable {P : Program} {w : World} {K : PySem.W.Frag} {mg : Str → Option Value} {base : Heap} {f : Addr} {fd : FuncData} {CP CQ : Addr}
abbrev Nta : List Str := ["self", "pieces", "ready", "piece"]
theorem sc51_4 : FnScope Nta ["self", "pieces"] (defScope (inClass (top 51) 4)) := ⟨rfl, rfl, rfl, by decide +kernel, rfl, by decide +kernel, by decide +kernel⟩
theorem ok_take_all (T : Txt K mg) (L : ClsPeel K CQ) (F : Fun K "take_all" "Peel.take_all" (inClass (top 51) 4) f fd) (c_can_be_last : Met P w K mg base 3 CQ "can_be_last" (spM false (R_can_be_last CP CQ))) (c_take : Met P w K mg base 2 CQ "take" (spM false (R_take CP CQ))) : FnOk P w K mg base CX0 4 f fd ["self", "pieces"] (spM false (R_take_all CP CQ)) := by
  refine fn_okM F sc51_4 (by rintro _ _ _ _ ⟨q, en, pcs, t, _, _, _, _, rfl, _⟩; rfl) fun lk cdv A outer s H E xs cs y cs' hlk hr hR => ?_
  obtain ⟨q, en, pcs, t, ok, tok, hpl, hpn, rfl, rfl, rfl, rfl⟩ := hR
  obtain rfl := lk_nil hlk
  have nd : Nta.Nodup := nd_of (by decide +kernel)
  have hu := hr.units
  have hne : ∀ (lk : List Addr) (cs : Cs) (rd : List Nat), OpD lk (bcx P w K mg base Nta "Peel.take_all" (inClass (top 51) 4) f cdv A outer s H E) (compareOp .NotEq) (natD rd) (.lst []) cs (.bl (!decide (rd = []))) cs := fun lk cs rd => od_neD (t := decide (rd = [])) (by omega) (plain_lst _) (plain_lst []) (Nat.le_trans (depth_lst _) (by decide)) (Nat.le_trans (depth_lst []) (by decide)) (by
    rw [decide_eq_true_iff]
    constructor
    · intro h; rw [h]; rfl
    · intro h
      have h2 : dints (nints rd) = [] := by unfold natD at h; injection h
      have := congrArg List.length h2
      rw [dints_len, nints_len] at this
      exact List.length_eq_zero_iff.mp this)
  refine sf_cons (s_set 2 nd (ev_v 1 rfl) ?_)
  refine sf_cons (s_while (fun m ds' cs' => ∃ (Tc rd : List Nat) (v3 : Option D), ds' = [some (.ptr q.s), some (natD pcs), some (natD rd), v3] ∧ cs' = [pk1 CP CQ q en, pk2 q Tc, pk3 q Tc, pk4 q Tc] ∧ TkOk q Tc ∧
      takeN q.p.pl q.pat (left0 q.p.pl q.e) pcs (avail (left0 q.p.pl q.e) pcs Tc) Tc = tkAll q pcs t ∧ (rd = [] → pick q.p.pl q.pat (left0 q.p.pl q.e) pcs Tc = none) ∧ m = 2 * avail (left0 q.p.pl q.e) pcs Tc + (if rd = [] then 0 else 1)) _ ⟨t, pcs, none, rfl, rfl, tok, ?fuel, ?nil, rfl⟩ ?step)
  case fuel => exact takeN_fuel _ _ _ (Nat.le_refl _) (avail_le _ _ _)
  case nil => intro h; subst h; rfl
  rintro m ds' cs' ⟨Tc, rd, v3, rfl, rfl, tk, hT, hnil, hm⟩
  refine ⟨_, _, et_cmp (ev_v 2 rfl) (ev_lst ea_nil) (hne _ _ _), fun ht => ?_, fun ht => ?_⟩
  · have hrd : rd ≠ [] := by simpa using ht
    rw [if_neg hrd] at hm
    have hg : ∀ k, ((leftT (left0 q.p.pl q.e) Tc).contains k && okLast q.p.pl q.pat Tc k) = (decide (k ∈ leftT (left0 q.p.pl q.e) Tc) && okLast q.p.pl q.pat Tc k) := fun k => by rw [List.contains_eq_mem]
    refine sf_cons (s_set 2 nd (x := natD (pick q.p.pl q.pat (left0 q.p.pl q.e) pcs Tc).toList) (cs1 := [pk1 CP CQ q en, pk2 q Tc, pk3 q Tc, pk4 q Tc]) (EvM.cast (ev_slL (ev_filterG (own := [("piece", 3)]) pcs (fun i => .int (i : Int)) (fun k => (leftT (left0 q.p.pl q.e) Tc).contains k && okLast q.p.pl q.pat Tc k) (fun i => .int (i : Int)) nd (blk (inClass (top 51) 4) Nta rfl rfl) (ei_lst (ev_v 1 rfl)) (natD_map pcs) (by omega) (fun _ => trivial) fun i k hk => ?_) (eo_some (ev_neg ev_int)) eo_none) ?cut) ?_)
    · have hkn := hpn k (List.mem_of_getElem? hk)
      refine ⟨_, fun b => tg_name 3 nd, fun b => ?_, fun _ b => ev_v 3 rfl⟩
      rw [hg]
      refine et_w (ew_and (et_cmp (ev_v 3 rfl) (ev_fldC 0 L.cls L.nleft (ev_v 0 rfl) rfl rfl) (OpD.cast (od_inC 2 rfl) (by simp only [nints_mem]))) fun _ => ew_and1 (et_val (ev_meth 0 c_can_be_last hr (by decide) (cs0 := [pk1 CP CQ q en, pk2 q Tc, pk3 q Tc]) (cs1 := [pk1 CP CQ q en, pk2 q Tc, pk3 q Tc]) (fr := [pk4 q Tc]) (ev_v 0 rfl) rfl (pkF_no q en _ (by decide)) (ea_cons (ev_v 3 rfl) ea_nil) ⟨q, en, Tc, k, ok, hkn, rfl, rfl, rfl, rfl⟩ (.inr rfl))))
    case cut =>
      rw [cut_last, ← List.map_drop]
      have : ((pcs.filter fun k => (leftT (left0 q.p.pl q.e) Tc).contains k && okLast q.p.pl q.pat Tc k).map fun (i : Nat) => D.int (i : Int)).length = (pcs.filter fun k => (leftT (left0 q.p.pl q.e) Tc).contains k && okLast q.p.pl q.pat Tc k).length := List.length_map _
      show D.lst (List.map _ (List.drop (List.length (List.map _ _) - 1) _)) = _
      rw [List.length_map, drop_last]
      unfold natD
      rw [natD_map]; rfl
    · cases hp : pick q.p.pl q.pat (left0 q.p.pl q.e) pcs Tc with
      | none =>
        refine sf_cons (s_ifF (EvT.cast (et_cmp (ev_v 2 rfl) (ev_lst ea_nil) (hne _ _ [])) rfl) (sf_nil (sf_nil ?_)))
        exact ⟨2 * avail (left0 q.p.pl q.e) pcs Tc, by omega, Tc, [], v3, rfl, rfl, tk, hT, fun _ => hp, rfl⟩
      | some i =>
        obtain ⟨h1, h2, h3, h4⟩ := pick_some hp
        have hlt := avail_lt h1 h2 h3
        refine sf_cons (s_ifT (EvT.cast (et_cmp (ev_v 2 rfl) (ev_lst ea_nil) (hne _ _ [i])) rfl) ?_)
        refine sf_cons (s_expr (ev_meth 0 c_take hr (by decide) (cs0 := [pk1 CP CQ q en, pk2 q Tc, pk3 q Tc, pk4 q Tc]) (cs1 := [pk1 CP CQ q en, pk2 q (Tc ++ [i]), pk3 q (Tc ++ [i]), pk4 q (Tc ++ [i])]) (fr := []) (ev_v 0 rfl) rfl (pkF_no q en _ (by decide)) (ea_cons (ev_ixL (ev_v 2 rfl) ev_int rfl) ea_nil) ⟨q, en, Tc, i, ok, mem_leftT.mpr ⟨h2, h3⟩, by have := tk.len ok; omega, rfl, rfl, rfl, rfl⟩ (.inr rfl)) (sf_nil (sf_nil ?_)))
        refine ⟨_, ?_, Tc ++ [i], [i], v3, rfl, rfl, tk.snoc (mem_left0.mp h2).1 h3, ?_, fun h => by simp at h, rfl⟩
        · rw [hm, if_neg (by simp)]; omega
        · rw [← hT]
          have ha : avail (left0 q.p.pl q.e) pcs Tc = (avail (left0 q.p.pl q.e) pcs Tc - 1) + 1 := by omega
          rw [ha]
          show _ = match pick q.p.pl q.pat (left0 q.p.pl q.e) pcs Tc with | none => Tc | some i => takeN q.p.pl q.pat (left0 q.p.pl q.e) pcs (avail (left0 q.p.pl q.e) pcs Tc - 1) (Tc ++ [i])
          rw [hp]
          exact takeN_fuel _ _ _ (Nat.le_refl _) (by omega)
  · have hrd : rd = [] := by simpa using ht
    have hpn' := hnil hrd
    have hTe : Tc = tkAll q pcs t := by
      rw [← hT]
      cases ha : avail (left0 q.p.pl q.e) pcs Tc with
      | zero => rfl
      | succ a =>
        show Tc = match pick q.p.pl q.pat (left0 q.p.pl q.e) pcs Tc with | none => Tc | some i => _
        rw [hpn']
    rw [← hTe]
    refine sf_cons (s_ret (EvM.cast (ev_filterG (own := [("piece", 3)]) pcs (fun i => .int (i : Int)) (fun k => (leftT (left0 q.p.pl q.e) Tc).contains k) (fun i => .int (i : Int)) nd (blk (inClass (top 51) 4) Nta rfl rfl) (ei_lst (ev_v 1 rfl)) (natD_map pcs) (by omega) (fun _ => trivial) fun i k hk => ?_) ?_) ⟨rfl, rfl⟩)
    · refine ⟨_, fun b => tg_name 3 nd, fun b => ?_, fun _ b => ev_v 3 rfl⟩
      exact et_cmp (ev_v 3 rfl) (ev_fldC 0 L.cls L.nleft (ev_v 0 rfl) rfl rfl) (OpD.cast (od_inC 2 rfl) (by rw [List.contains_eq_mem]; simp only [nints_mem]))
    · unfold natD leftOf; rw [natD_map]
end
end Af
set_option Elab.async false
set_option linter.all false
set_option maxRecDepth 100000
set_option maxHeartbeats 2000000
namespace Af
open PySem L2
/-- what goes in, and what comes out -/
def Pre_go (CP CQ : Addr) (q : PS) (xs : List D) (cs : Cs) : Prop := xs = [.ptr q.s] ∧ cs = [pk1 CP CQ q false, pk2 q [], pk3 q [], pk4 q [], pk5 q []]
def Out (q : PS) (T : List Nat) (en : Bool) : Prop := T.length ≤ 100 ∧ (en = true → peel q.p.pl q.pat q.e = some T.reverse) ∧ (en = false → peel q.p.pl q.pat q.e = none)
def Post_go (CP CQ : Addr) (q : PS) (y : D) (cs' : Cs) : Prop := y = .non ∧ ∃ T spl en, cs' = [pk1 CP CQ q en, pk2 q T, pk3 q T, pk4 q T, pk5 q spl] ∧ Out q T en
theorem kget_kput {α : Type} (kvs : List (Int × α)) (k j : Int) (x : α) : kget (kput kvs k x) j = if j = k then some x else kget kvs j := by
  unfold kput
  by_cases h : (kvs.any fun kv => decide (kv.1 = k)) = true
  · rw [if_pos h]
    have : ∀ l : List (Int × α), kget (l.map fun kv => if kv.1 = k then (kv.1, x) else kv) j = if j = k then (kget l k).map (fun _ => x) else kget l j := by
      intro l
      induction l with
      | nil => simp [kget_nil]
      | cons p r ih =>
        rw [List.map_cons, kget_cons, ih]
        by_cases hp : p.1 = k
        · rw [if_pos hp]
          by_cases hj : j = k
          · subst hj
            simp [kget_cons, hp]
          · have : ¬ p.1 = j := fun e => hj (e ▸ hp)
            simp [kget_cons, this, hj]
        · rw [if_neg hp]
          by_cases hj : j = k
          · subst hj
            simp [kget_cons, hp]
          · simp only [if_neg hj, kget_cons]
    rw [this]
    by_cases hj : j = k
    · rw [if_pos hj, if_pos hj]
      cases e : kget kvs k with
      | some v => rfl
      | none =>
        obtain ⟨p, hp, e2⟩ := List.any_eq_true.mp h
        exact absurd (of_decide_eq_true e2) (kget_none.mp e p hp)
    · rw [if_neg hj, if_neg hj]
  · rw [if_neg h]
    have : ∀ l : List (Int × α), kget (l ++ [(k, x)]) j = (kget l j).or (if k = j then some x else none) := by
      intro l
      induction l with
      | nil => rw [List.nil_append, kget_cons, kget_nil]; rfl
      | cons p r ih =>
        rw [List.cons_append, kget_cons, ih, kget_cons]
        by_cases hp : p.1 = j
        · simp [hp]
        · simp [hp]
    rw [this]
    by_cases hj : j = k
    · subst hj
      have : kget kvs j = none := kget_none.mpr fun q hq e => h (List.any_eq_true.mpr ⟨q, hq, decide_eq_true e⟩)
      rw [this]; simp
    · rw [if_neg hj, if_neg (fun e => hj e.symm)]; simp
theorem atI0 (c : Int) (cr : List Int) : L2.atI (dints (c :: cr)) 0 = some (.int c) := by
  unfold L2.atI ixN
  rw [if_pos (by decide), if_pos (by rw [dints_len]; simp)]; rfl
theorem rngC_down (e k : Nat) (h : k ≤ e) : (e : Int) + (k : Int) * (-1) = ((e - k : Nat) : Int) := by omega
section
variable {P : Program} {w : World} {K : PySem.W.Frag} {mg : Str → Option Value} {base : Heap} {f : Addr} {fd : FuncData} {CP CQ : Addr}
abbrev Ngo : List Str := ["self", "rank", "left", "piece"]
theorem sc51_5 : FnScope Ngo ["self"] (defScope (inClass (top 51) 5)) := ⟨rfl, rfl, rfl, by decide +kernel, rfl, by decide +kernel, by decide +kernel⟩
theorem dints_ne (l : List Int) {lk : List Addr} {X : Cx} {cs : Cs} (hu : X.A.units + 64 < cLine) : OpD lk X (compareOp .NotEq) (.lst (dints l)) (.lst []) cs (.bl (!decide (l = []))) cs := od_neD (t := decide (l = [])) (by omega) (plain_lst _) (plain_lst []) (Nat.le_trans (depth_lst _) (by decide)) (Nat.le_trans (depth_lst []) (by decide)) (by
    rw [decide_eq_true_iff]
    constructor
    · intro h; rw [h]; rfl
    · intro h; injection h with h; exact dints_inj (ms := []).mp h)
theorem ok_go_through (T : Txt K mg) (LP : ClsPlan K CP) (L : ClsPeel K CQ) (F : Fun K "go_through" "Peel.go_through" (inClass (top 51) 5) f fd) (c_take_all : Met P w K mg base 4 CQ "take_all" (spM false (R_take_all CP CQ))) (c_spoilt : Met P w K mg base 2 CQ "spoilt" (spM false (R_spoilt CP CQ))) (q : PS) (ok : q.Ok) :
    FnOk P w K mg base CX0 5 f fd ["self"] (spN (Pre_go CP CQ q) (fun _ _ y c => Post_go CP CQ q y c)) := by
  refine fn_okN F sc51_5 (by rintro _ _ ⟨rfl, _⟩; rfl) fun cdv A outer s H E xs cs hr hP => ?_
  obtain ⟨rfl, rfl⟩ := hP
  have nd : Ngo.Nodup := nd_of (by decide +kernel)
  have hu := hr.units
  have hu1 : (bcx P w K mg base Ngo "Peel.go_through" (inClass (top 51) 5) f cdv A outer s H E).A.units + 1 < cLine := by omega
  have hn : q.p.pl.n ≤ 40 := ok.good.few
  have hep : q.p.pl.epochs ≤ 41 := by
    show q.p.st.countP (·.isNone) + 1 ≤ 41
    have := List.countP_le_length (p := (·.isNone)) (l := q.p.st)
    have := ok.good.len; omega
  have he := ok.ep
  have c_sp : ∀ (t : List Nat) (fr : Cs) (en : Bool) (z : Int) (ws : List (Int × Int)) (pos p2 apos : Pos) (ds : Ds) (e1 : Expr) (X : Cx), True := fun _ _ _ _ _ _ _ _ _ _ _ => trivial
  refine sf_cons (s_for (G := fun _ => True) (vs := [1]) (ei_range3 (n := q.e + 1) T.zrange (ev_fldC 0 L.cls L.nepoch (ev_v 0 rfl) rfl rfl) (ev_neg ev_int) (ev_neg ev_int) (by
      have := RgC.neg (i := (q.e : Int)) (j := -1) (by omega) (by omega) (by omega) (by omega)
      have e2 : ((q.e : Int) - -1).toNat = q.e + 1 := by omega
      rwa [e2] at this))
    (fun k ds' cs' => ∃ (t : List Nat) (spl : List (Int × D)) (v1 v2 v3 : Option D), ds' = [some (.ptr q.s), v1, v2, v3] ∧ cs' = [pk1 CP CQ q false, pk2 q t, pk3 q t, pk4 q t, pk5 q spl] ∧ TkOk q t ∧ (∀ z ∈ spl, 0 ≤ z.1) ∧ spl.length ≤ 40 * k ∧
      (k ≤ q.e → goDown q.p.pl q.pat q.e q.e [] = goDown q.p.pl q.pat q.e (q.e - k) t) ∧ (k = q.e + 1 → goDown q.p.pl q.pat q.e q.e [] = some t)) ⟨[], [], _, _, _, rfl, rfl, ⟨List.nodup_nil, by simp⟩, by simp, by simp, fun _ => rfl, fun h => by omega⟩ (fun _ _ _ _ => trivial) ?step ?fin)
  case step =>
    rintro k x ds' cs' hx ⟨t, spl, v1, v2, v3, rfl, rfl, tok, hs1, hs2, hg, _⟩
    obtain ⟨hk, rfl⟩ := rngC_get hx
    have hke : k ≤ q.e := by omega
    rw [rngC_down q.e k hke]
    generalize hr0 : q.e - k = r at *
    refine ⟨_, tg_name 1 nd, ?_⟩
    have hpn : ∀ i ∈ pcsOf q.p.pl q.e r t, i < q.p.pl.n := fun i hi => (mem_pcs.mp hi).1
    have hpnd : (pcsOf q.p.pl q.e r t).Nodup := by unfold pcsOf; exact (leftT_nodup _ _ _).filter _
    have hpl : (pcsOf q.p.pl q.e r t).length ≤ 40 := fall_len ok.good hpnd hpn
    have hT' : tkAll q (pcsOf q.p.pl q.e r t) t = stepOf q.p.pl q.pat q.e r t := rfl
    have tok' := tkAll_ok (pcs := pcsOf q.p.pl q.e r t) tok
    rw [hT'] at tok'
    have hlfl : (leftT (left0 q.p.pl q.e) t).length ≤ 40 := fall_len ok.good (leftT_nodup _ _ _) fun i hi => (mem_left0.mp (mem_leftT.mp hi).1).1
    refine sf_cons (s_set 2 nd (ev_meth 0 c_take_all hr (by decide) (cs0 := [pk1 CP CQ q false, pk2 q t, pk3 q t, pk4 q t]) (fr := [pk5 q spl]) (cs1 := [pk1 CP CQ q false, pk2 q (stepOf q.p.pl q.pat q.e r t), pk3 q (stepOf q.p.pl q.pat q.e r t), pk4 q (stepOf q.p.pl q.pat q.e r t)]) (ev_v 0 rfl) rfl (pkF_no q false _ (by decide))
      (ea_cons (EvM.cast (ev_filterG (own := [("piece", 3)]) (leftT (left0 q.p.pl q.e) t) (fun i => .int (i : Int)) (fun i => decide (q.p.pl.rank i = r)) (fun i => .int (i : Int)) nd (blk (inClass (top 51) 5) Ngo rfl rfl) (ei_cell 2 (ev_fldC 0 L.cls L.nleft (ev_v 0 rfl) rfl rfl) rfl) (natD_map _) (by omega) (fun fr => rfl) fun i j hj => ?_) ?lc) ea_nil) ⟨q, false, pcsOf q.p.pl q.e r t, t, ok, tok, by omega, hpn, rfl, rfl, by rw [hT'], by rw [hT']⟩ (.inr rfl)) ?_)
    · have hjn : j < q.p.pl.n := (mem_left0.mp (mem_leftT.mp (List.mem_of_getElem? hj)).1).1
      refine ⟨_, fun b => tg_name 3 nd, fun b => et_cmp (ev_ixL (ev_fldI LP.cls LP.nranks (ev_fldC 0 L.cls L.ngiven (ev_v 0 rfl) rfl rfl) rfl) (ev_v 3 rfl) (rk_at q.p hjn)) (ev_v 1 rfl) (OpD.cast od_eqI ?_), fun _ b => ev_v 3 rfl⟩
      rw [decide_eq_decide]; omega
    case lc => unfold natD pcsOf; rw [natD_map]
    generalize ht' : stepOf q.p.pl q.pat q.e r t = t' at *
    have hlo : (leftOf q (pcsOf q.p.pl q.e r t) t').length ≤ 40 := Nat.le_trans (List.length_filter_le _ _) hpl
    have hlon : ∀ i ∈ leftOf q (pcsOf q.p.pl q.e r t) t', i < q.p.pl.n := fun i hi => hpn i (List.mem_filter.mp hi).1
    generalize hlf : leftOf q (pcsOf q.p.pl q.e r t) t' = lf at *
    refine sf_cons (s_for (G := fun _ => True) (vs := [3]) (ei_lst (ev_v 2 rfl)) (fun j ds' cs' => ∃ (spl' : List (Int × D)) (v3 : Option D), ds' = [some (.ptr q.s), some (.int (r : Int)), some (natD lf), v3] ∧ cs' = [pk1 CP CQ q false, pk2 q t', pk3 q t', pk4 q t', pk5 q spl'] ∧ (∀ z ∈ spl', 0 ≤ z.1) ∧ spl'.length ≤ 40 * k + j) ⟨spl, _, rfl, rfl, hs1, hs2⟩ (fun _ _ _ _ => trivial) ?step2 ?fin2)
    case step2 =>
      rintro j x ds' cs' hx ⟨spl', v3, rfl, rfl, h1, h2⟩
      obtain ⟨z, hz, rfl⟩ := dints_get hx
      obtain ⟨i, hi, rfl⟩ := nints_get hz
      have hin := hlon i (List.mem_of_getElem? hi)
      have hjl : j < lf.length := (List.getElem?_eq_some_iff.mp hi).1
      refine ⟨_, tg_name 3 nd, ?_⟩
      refine sf_cons (s_if (et_cmp (ev_meth 0 c_spoilt hr (by decide) (cs0 := [pk1 CP CQ q false, pk2 q t']) (cs1 := [pk1 CP CQ q false, pk2 q t']) (fr := [pk3 q t', pk4 q t', pk5 q spl']) (ev_v 0 rfl) rfl (pkF_no q false _ (by decide)) (ea_cons (ev_v 3 rfl) ea_nil) ⟨q, false, t', i, q.p.pl.wr i, ok, .inl ⟨i, hin, rfl, rfl⟩, rfl, rfl, rfl, rfl⟩ (.inr rfl)) (ev_lst ea_nil) (dints_ne _ hu)) (fun hc => ?_) fun hc => ?_)
      · have hne : spoiltBy (needed q.p.pl q.pat t') (q.p.pl.wr i) ≠ [] := by simpa using hc
        obtain ⟨c, cr, hcr⟩ := List.exists_cons_of_ne_nil hne
        refine sf_cons (s_dput 4 hu1 (x := .int c) (cs1 := [pk1 CP CQ q false, pk2 q t', pk3 q t', pk4 q t', pk5 q spl']) (ev_ixL (ev_meth 0 c_spoilt hr (by decide) (cs0 := [pk1 CP CQ q false, pk2 q t']) (cs1 := [pk1 CP CQ q false, pk2 q t']) (fr := [pk3 q t', pk4 q t', pk5 q spl']) (ev_v 0 rfl) rfl (pkF_no q false _ (by decide)) (ea_cons (ev_v 3 rfl) ea_nil) ⟨q, false, t', i, q.p.pl.wr i, ok, .inl ⟨i, hin, rfl, rfl⟩, rfl, rfl, rfl, rfl⟩ (.inr rfl)) ev_int (by rw [hcr]; exact atI0 _ _)) (ev_fldC 0 L.cls L.nspoils (ev_v 0 rfl) rfl rfl) (ev_v 3 rfl) rfl (by omega) (sf_nil (sf_nil ?_)))
        refine ⟨kput spl' (i : Int) (.int c), _, rfl, rfl, fun z hz => ?_, by have := kput_len spl' (i : Int) (.int c); omega⟩
        unfold kput at hz
        split at hz
        · obtain ⟨z', hz', e⟩ := List.mem_map.mp hz
          split at e
          · rw [← e]; exact h1 z' hz'
          · rw [← e]; exact h1 z' hz'
        · rcases List.mem_append.mp hz with z2 | z2
          · exact h1 z z2
          · rw [List.mem_singleton.mp z2]; show (0 : Int) ≤ (i : Int); omega
      · exact sf_nil (sf_nil ⟨spl', _, rfl, rfl, h1, by omega⟩)
    case fin2 =>
      rintro ds' cs' ⟨spl', v3, rfl, rfl, h1, h2⟩
      have hl2 : (dints (nints lf)).length = lf.length := by rw [dints_len, nints_len]
      rw [hl2] at h2
      refine sf_cons (s_if (cs1 := [pk1 CP CQ q false, pk2 q t', pk3 q t', pk4 q t', pk5 q spl']) (t := lf.any fun i => decide (q.p.pl.rank i < q.e)) (et_val (ev_callB (cs2 := [pk1 CP CQ q false, pk2 q t', pk3 q t', pk4 q t', pk5 q spl']) (ea_cons (ev_mapG (own := [("piece", 3)]) lf (fun i => .int (i : Int)) (fun i => .bl (decide (q.p.pl.rank i < q.e))) nd (blk (inClass (top 51) 5) Ngo rfl rfl) (ei_lst (ev_v 2 rfl)) (natD_map _) (by omega) (fun _ => trivial) fun i j hj => ?_) ea_nil) ?any T.zany b_any)) (fun hc => ?_) fun hc => ?_)
      · have hjn := hlon j (List.mem_of_getElem? hj)
        refine ⟨_, fun b => tg_name 3 nd, fun b => ev_cmp (ev_v 3 rfl) (ev_fldC 0 L.cls L.nsure (ev_v 0 rfl) rfl rfl) (OpD.cast od_inL ?_)⟩
        rw [decide_eq_decide, nints_mem]
        unfold lowerN
        rw [List.mem_filter, List.mem_range]; simp [hjn]
      case any =>
        have := cd_any (lk := []) (X := bcx P w K mg base Ngo "Peel.go_through" (inClass (top 51) 5) f cdv A outer s H E) (bs := lf.map fun i => decide (q.p.pl.rank i < q.e)) (cs := [pk1 CP CQ q false, pk2 q t', pk3 q t', pk4 q t', pk5 q spl'])
        rw [List.map_map, List.any_map] at this
        exact this
      · -- a sure piece is left
        have hgn : goDown q.p.pl q.pat q.e q.e [] = none := by
          rw [hg hke]
          subst hlf ht'
          cases hrr : r with
          | zero =>
            subst hrr
            rw [goDown_zero, if_pos]
            exact hc
          | succ r' =>
            subst hrr
            rw [goDown_succ, if_pos]
            exact hc
        refine sf_cons (s_retN ⟨rfl, t', spl', false, rfl, by have := tok'.len ok; omega, fun h => by simp at h, fun _ => ?_⟩)
        unfold peel; rw [hgn]
      · refine sf_nil (sf_nil ⟨t', spl', _, _, _, rfl, rfl, tok', h1, by omega, fun hk1 => ?_, fun hk1 => ?_⟩)
        · rw [hg hke]
          subst hlf ht'
          obtain ⟨r', rfl⟩ : ∃ r', r = r' + 1 := ⟨r - 1, by omega⟩
          unfold leftOf at hc
          rw [goDown_succ, hc, if_neg Bool.false_ne_true]
          have : q.e - (k + 1) = r' := by omega
          rw [this]
        · rw [hg hke]
          subst hlf ht'
          have : r = 0 := by omega
          subst this
          unfold leftOf at hc
          rw [goDown_zero, hc, if_neg Bool.false_ne_true]
  case fin =>
    rintro ds' cs' ⟨t, spl, v1, v2, v3, rfl, rfl, tok, hs1, hs2, _, hg⟩
    have hgd := hg (by rw [rngC_len])
    have hsl : spl.length ≤ 2000 := by rw [rngC_len] at hs2; omega
    have hend : ∀ en, fput "ended" (.bl en) (pkF CP q false) = pkF CP q en := fun en => rfl
    have hk0 : kget spl (-1) = none := kget_none.mpr fun z hz e => by have := hs1 z hz; omega
    have hpe : peel q.p.pl q.pat q.e = if (spoiltBy (needed q.p.pl q.pat t) (baseD q.p.pl)).isEmpty then some t.reverse else none := by unfold peel; rw [hgd]
    have fin2 : ∀ spl' : List (Int × D), (kget spl' (-1) = none ↔ (spoiltBy (needed q.p.pl q.pat t) (baseD q.p.pl)) = []) →
        SF [] (bcx P w K mg base Ngo "Peel.go_through" (inClass (top 51) 5) f cdv A outer s H E) (((defBody (inClass (top 51) 5)).drop 2)) [some (.ptr q.s), v1, v2, v3] [pk1 CP CQ q false, pk2 q t, pk3 q t, pk4 q t, pk5 q spl'] { nx := fun _ c => Post_go CP CQ q .non c, rt := fun z c => Post_go CP CQ q z c } := fun spl' hb => by
      refine sf_cons (s_fld 0 L.cls L.nended (ev_ninKC 4 hu1 (ev_glob' T.mBASE) (ev_fldC 0 L.cls L.nspoils (ev_v 0 rfl) rfl rfl) rfl) (ev_v 0 rfl) rfl (by simp [pkF]) (sf_nil ⟨rfl, t, spl', !(kget spl' (-1)).isSome, by rw [hend]; rfl, by have := tok.len ok; omega, fun h => ?_, fun h => ?_⟩))
      · rw [hpe, if_pos]
        rw [List.isEmpty_iff]; exact hb.mp (by simpa using h)
      · rw [hpe, if_neg]
        rw [List.isEmpty_iff]; intro e; rw [hb.mpr e] at h; simp at h
    refine sf_cons (s_if (et_cmp (ev_meth 0 c_spoilt hr (by decide) (cs0 := [pk1 CP CQ q false, pk2 q t]) (cs1 := [pk1 CP CQ q false, pk2 q t]) (fr := [pk3 q t, pk4 q t, pk5 q spl]) (ev_v 0 rfl) rfl (pkF_no q false _ (by decide)) (ea_cons (ev_glob' T.mBASE) ea_nil) ⟨q, false, t, -1, baseD q.p.pl, ok, .inr ⟨rfl, rfl⟩, rfl, rfl, rfl, rfl⟩ (.inr rfl)) (ev_lst ea_nil) (dints_ne _ hu)) (fun hc => ?_) fun hc => ?_)
    · have hne : spoiltBy (needed q.p.pl q.pat t) (baseD q.p.pl) ≠ [] := by simpa using hc
      obtain ⟨c, cr, hcr⟩ := List.exists_cons_of_ne_nil hne
      refine sf_cons (s_dput 4 hu1 (x := .int c) (cs1 := [pk1 CP CQ q false, pk2 q t, pk3 q t, pk4 q t, pk5 q spl]) (ev_ixL (ev_meth 0 c_spoilt hr (by decide) (cs0 := [pk1 CP CQ q false, pk2 q t]) (cs1 := [pk1 CP CQ q false, pk2 q t]) (fr := [pk3 q t, pk4 q t, pk5 q spl]) (ev_v 0 rfl) rfl (pkF_no q false _ (by decide)) (ea_cons (ev_glob' T.mBASE) ea_nil) ⟨q, false, t, -1, baseD q.p.pl, ok, .inr ⟨rfl, rfl⟩, rfl, rfl, rfl, rfl⟩ (.inr rfl)) ev_int (by rw [hcr]; exact atI0 _ _)) (ev_fldC 0 L.cls L.nspoils (ev_v 0 rfl) rfl rfl) (ev_glob' T.mBASE) rfl (by omega) (sf_nil ?_))
      exact fin2 (kput spl (-1) (.int c)) (by rw [kget_kput, if_pos rfl]; simp [hne])
    · have he0 : spoiltBy (needed q.p.pl q.pat t) (baseD q.p.pl) = [] := by simpa using hc
      exact sf_nil (fin2 spl (by rw [hk0]; simp [he0]))
end
end Af
set_option Elab.async false
set_option linter.all false
set_option maxRecDepth 100000
set_option maxHeartbeats 2000000
namespace Af
open PySem L2
section
variable {lk : List Addr} {X : Cx} {tg iter elt c e : Expr} {scope : Scope} {own : List (Str × Nat)} {ss : List Stmt} {ds : Ds} {cs cs0 cs1 : Cs} {x : D} {xs : List D} {pos spos : Pos} {G : Cs → Prop} {k : KE}
theorem EvM.dropAll : ∀ {cs1 : Cs}, EvM lk X e ds cs x cs1 → EvM lk X e ds cs x [] := by
  intro cs1
  induction h : cs1.length generalizing cs1 with
  | zero => intro q; rw [List.length_eq_zero_iff.mp h] at q; exact q
  | succ n ih =>
    intro q
    have hne : cs1 ≠ [] := fun e => by rw [e] at h; simp at h
    have e2 : cs1.dropLast ++ [cs1.getLast hne] = cs1 := List.dropLast_concat_getLast hne
    rw [← e2] at q
    refine ih ?_ (EvM.drop (a := (cs1.getLast hne).1) (c := (cs1.getLast hne).2) q)
    rw [List.length_dropLast]; omega
/-- a cell that is not needed any more -/
theorem SF.drop (i : Nat) {a : Addr} {c : CO} (hi : cs[i]? = some (a, c)) (h : SF lk X ss ds (cs.eraseIdx i) k) : SF lk X ss ds cs k := fun σ S H O E D0 q => by
  have hc := O.cell _ (List.mem_of_getElem? hi)
  obtain ⟨o, e⟩ := CellRep.ex_ hc.2
  exact h σ _ H (O.freeze hi e) (E.mono (.new hc.1)) D0 (q.step (.freeze O hi))
theorem turn_filG {α : Type} {ns : List α} {enc : α → D} {g : α → Bool} {out : α → D} (turn : ∀ (i : Nat) k, ns[i]? = some k → ∃ ds', (∀ b : Bl, TgB (b.cx X scope) tg (own.map (·.2)) (enc k) (wipeD ds (own.map (·.2))) ds') ∧ (∀ b : Bl, EvT lk (b.cx X scope) c ds' cs0 (g k) cs0) ∧ (g k = true → ∀ b : Bl, EvM lk (b.cx X scope) elt ds' cs0 (out k) cs0)) :
    ∀ i x, (ns.map enc)[i]? = some x → TurnL lk X scope tg elt [c] (own.map (·.2)) ds x cs0 cs0 (((ns.take i).filter g).map out) (((ns.take (i + 1)).filter g).map out) := fun i x hx => by
  rw [List.getElem?_map] at hx
  cases e : ns[i]? with
  | none => rw [e] at hx; cases hx
  | some k =>
    rw [e] at hx
    have h1 := Option.some.inj hx
    subst h1
    obtain ⟨ds', t1, t2, t3⟩ := turn i k e
    refine ⟨ds', t1, ?_⟩
    have etk : ns.take (i + 1) = ns.take i ++ [k] := by rw [List.take_add_one, e]; rfl
    cases q : g k with
    | true =>
      rw [q] at t2
      exact .inl ⟨cs0, out k, .one t2, t3 q, by rw [etk, List.filter_append]; simp [q]⟩
    | false =>
      rw [q] at t2
      exact .inr ⟨.one t2, by rw [etk, List.filter_append]; simp [q]⟩
theorem ep_filterG {α : Type} (ns : List α) (enc : α → D) (g : α → Bool) (out : α → D) (nd : X.N.Nodup) (ok : BlkOk X.N X.env.scope scope own) (hi : EvI lk X tg iter ds cs xs cs0 G) (hx : xs = ns.map enc) (hl : ns.length < 1000000) (hG : ∀ fr, G (cs0 ++ fr))
    (turn : ∀ (i : Nat) k, ns[i]? = some k → ∃ ds', (∀ b : Bl, TgB (b.cx X scope) tg (own.map (·.2)) (enc k) (wipeD ds (own.map (·.2))) ds') ∧ (∀ b : Bl, EvT lk (b.cx X scope) c ds' cs0 (g k) cs0) ∧ (g k = true → ∀ b : Bl, EvM lk (b.cx X scope) elt ds' cs0 (out k) cs0)) (hc : X.calm = true := by rfl) (hs : ∀ x, foldedSetIterable iter X.env x = pure x := by intro _; rfl) :
    EvP lk X (.ListComp elt [⟨tg, iter, [c], 0⟩] scope pos) ds cs (fun y cs' => ∃ a, y = .ptr a ∧ cs' = cs0 ++ [(a, .lst ((ns.filter g).map out))]) := by
  subst hx
  have hlen : (ns.map enc).length = ns.length := by simp
  have := ep_lc (ifs := [c]) (pos := pos) (elt := elt) nd ok hi (fun i => ((ns.take i).filter g).map out) (fun _ => cs0) rfl (by simp) (fun _ _ => hG) (fun i hi => by
    have := List.length_filter_le g (ns.take i)
    rw [List.length_map]; rw [List.length_take] at this; omega) (turn_filG turn) hc hs
  rwa [hlen, List.take_length] at this
theorem s_setFG {α : Type} (i : Nat) {n : Str} {py : Pos} (ns : List α) (enc : α → D) (g : α → Bool) (out : α → D) (nd : X.N.Nodup) (ok : BlkOk X.N X.env.scope scope own) (hi : EvI lk X tg iter ds cs xs cs0 G) (hx : xs = ns.map enc) (hl : ns.length < 1000000) (hG : ∀ fr, G (cs0 ++ fr))
    (turn : ∀ (i : Nat) k, ns[i]? = some k → ∃ ds', (∀ b : Bl, TgB (b.cx X scope) tg (own.map (·.2)) (enc k) (wipeD ds (own.map (·.2))) ds') ∧ (∀ b : Bl, EvT lk (b.cx X scope) c ds' cs0 (g k) cs0) ∧ (g k = true → ∀ b : Bl, EvM lk (b.cx X scope) elt ds' cs0 (out k) cs0))
    (h : k.nx (ds.set i (some (.lst ((ns.filter g).map out)))) cs0) (hy : X.N[i]? = some n := by rfl) (hyl : X.env.scope.names.lookup n = some .local := by rfl) (hsw : swapsWith (.ListComp elt [⟨tg, iter, [c], 0⟩] scope pos) (some (.Name n py)) spos.line X.env = pure true := by exact sw_true rfl rfl rfl (by decide +kernel))
    (hc : X.calm = true := by rfl) (hs : ∀ x, foldedSetIterable iter X.env x = pure x := by intro _; rfl) : S1 lk X (.Assign [.Name n py] (.ListComp elt [⟨tg, iter, [c], 0⟩] scope pos) spos) ds cs k := by
  subst hx
  have hlen : (ns.map enc).length = ns.length := by simp
  refine s_setLc (ifs := [c]) i nd ok hi (fun i => ((ns.take i).filter g).map out) (fun _ => cs0) rfl (by simp) (fun _ _ => hG) (fun i hi => by
    have := List.length_filter_le g (ns.take i)
    rw [List.length_map]; rw [List.length_take] at this; omega) (turn_filG turn) ?_ hy hyl hsw hc hs
  rwa [hlen, List.take_length]
end
def Pre_pinit (CP CQ : Addr) (p : PIn) (pat : Pat) (e : Nat) (xs : List D) (cs : Cs) : Prop := ∃ x dx, xs = [.ptr x, planD CP p, .dic (patD pat), noC, .int e, .lst []] ∧ cs = [(x, .ins CQ dx [])]
def Post_pinit (CP CQ : Addr) (p : PIn) (pat : Pat) (e : Nat) (xs : List D) (cs : Cs) (y : D) (cs' : Cs) : Prop := y = .non ∧ ∃ q : PS, q.p = p ∧ q.pat = pat ∧ q.e = e ∧ cs = [(q.s, .ins CQ q.dx [])] ∧ cs' = [pk1 CP CQ q false, pk2 q [], pk3 q [], pk4 q [], pk5 q []]
structure PkOk (p : PIn) (pat : Pat) : Prop where
  good : p.Good
  wf : p.pl.WF
  keys : (pat.map (·.1)).Nodup
  few : pat.length ≤ 100
theorem enumKD_base (b : List Int) : enumKD (dints b) = cellD (cellsOf 0 b) := by
  unfold enumKD cellD cellsOf dints
  rw [List.zipIdx_map, List.map_map, List.map_map]
  refine List.map_congr_left fun q _ => ?_
  simp
section
variable {P : Program} {w : World} {K : PySem.W.Frag} {mg : Str → Option Value} {base : Heap} {f : Addr} {fd : FuncData} {CP CQ : Addr}
abbrev Npi : List Str := ["self", "plan", "pattern", "claims", "epoch", "came", "below", "piece", "other", "rank"]
theorem sc51_0 : FnScope Npi ["self", "plan", "pattern", "claims", "epoch", "came"] (defScope (inClass (top 51) 0)) := ⟨rfl, rfl, rfl, by decide +kernel, rfl, by decide +kernel, by decide +kernel⟩
theorem ok_pinit (T : Txt K mg) (LP : ClsPlan K CP) (L : ClsPeel K CQ) (F : Fun K "__init__" "Peel.__init__" (inClass (top 51) 0) f fd) (c_overwritten : Cal P w K mg base 2 "overwritten" (spM false (R_overwritten CP))) (p_base : Prp P w K mg base 1 CP "base" (spM true (R_base CP))) (c_sure_in : Cal P w K mg base 6 "sure_in" (spM true (R_sure_in CP)))
    (p : PIn) (pat : Pat) (e : Nat) (ok : PkOk p pat) (he : e < p.pl.epochs) : FnOk P w K mg base CX0 7 f fd ["self", "plan", "pattern", "claims", "epoch", "came"] (spN (Pre_pinit CP CQ p pat e) (Post_pinit CP CQ p pat e)) := by
  refine fn_okN F sc51_0 (by rintro _ _ ⟨x, dx, rfl, _⟩; rfl) fun cdv A outer s H E xs cs hr hP => ?_
  obtain ⟨x, dx, rfl, rfl⟩ := hP
  have nd : Npi.Nodup := nd_of (by decide +kernel)
  have hu := hr.units
  have hn : p.pl.n ≤ 40 := ok.good.few
  refine sf_cons (s_fld 0 L.cls L.ngiven (ev_v 1 rfl) (ev_v 0 rfl) rfl (by simp) ?_)
  refine sf_cons (s_fld 0 L.cls L.nepoch (ev_v 4 rfl) (ev_v 0 rfl) rfl (by rw [fput_add rfl]; simp) ?_)
  rw [fput_add rfl, fput_add rfl]
  refine sf_cons (s_fldP 0 (C := CQ) (dx := dx) (p := x) (fs := [("given", planD CP p), ("epoch", .int e)]) L.cls L.nneeded (ep_callTy (ea_cons (ev_v 2 rfl) ea_nil) cp_dictD T.zdict b_dict) (fun y c h => by obtain ⟨a, rfl, rfl⟩ := h; exact ev_v 0 rfl) (fun y c h => by obtain ⟨a, rfl, rfl⟩ := h; rfl) (by simp) fun y c h => ?_)
  obtain ⟨nda, rfl, rfl⟩ := h
  rw [fput_add rfl]
  refine sf_cons (s_fld 0 L.cls L.nbottom (x := .dic (cellD (baseD p.pl))) (cs1 := [(x, _), (nda, .dic (patD pat))]) (EvM.cast (ev_dictEnum (ev_call c_overwritten hr (by decide) (cs0 := []) (cs1 := []) (fr := [(x, _), (nda, .dic (patD pat))]) (ea_cons (ev_v 1 rfl) (ea_cons (ev_prop p_base hr (by decide) (ev_v 1 rfl) ⟨p, rfl, rfl, rfl, rfl⟩ (.inl rfl)) (ea_cons (ev_v 5 rfl) ea_nil))) ⟨p, p.b, [], ok.good, ok.wf, rfl, by simp, by simp, rfl, rfl, rfl, rfl⟩ (.inr rfl)) T.zdict T.zenumerate) (by rw [enumKD_base]; rfl)) (ev_v 0 rfl) rfl (by simp) ?_)
  rw [fput_add rfl]
  refine sf_cons (s_fld 0 L.cls L.nchains (x := .dic []) (cs1 := [(x, _), (nda, .dic (patD pat))]) (EvP.dic (kvs := []) (cs1 := [(x, _), (nda, .dic (patD pat))]) (ep_dc (own := [("piece", 7), ("other", 8)]) nd (blk (inClass (top 51) 0) Npi rfl rfl) (ei_lst (xs := []) (ev_ixU (ev_v 3 rfl) ev_int rfl)) [] rfl (fun _ => trivial) (by simp) fun i x p h => by simp at h)) (ev_v 0 rfl) rfl (by simp) ?_)
  rw [fput_add rfl]
  refine sf_cons (s_fld 0 L.cls L.nsure (cs1 := [(x, _), (nda, .dic (patD pat))]) (ev_call c_sure_in hr (by decide) (cs0 := []) (cs1 := []) (fr := [(x, _), (nda, .dic (patD pat))]) (ea_cons (ev_v 1 rfl) (ea_cons (ev_v 3 rfl) (ea_cons (ev_v 4 rfl) ea_nil))) ⟨p, e, ok.good, he, rfl, rfl, rfl, rfl⟩ (.inl rfl)) (ev_v 0 rfl) rfl (by simp) ?_)
  rw [fput_add rfl]
  refine sf_cons (s_setFG 6 (List.range p.pl.n) (fun i => .tup [.int (i : Int), .int (p.pl.rank i : Nat)]) (fun i => decide (p.pl.rank i ≤ e)) (fun i => .int (i : Int)) nd (own := [("piece", 7), ("rank", 9)]) (blk (inClass (top 51) 0) Npi rfl rfl) (ei_enumL T.zenumerate (ev_fldI LP.cls LP.nranks (ev_v 1 rfl) rfl)) (rk_enum p) (by simp; omega) (fun _ => trivial) (fun i k hk => ?_) ?_)
  · exact ⟨_, fun b => tg_tup2 7 9 nd, fun b => et_cmp (ev_v 9 rfl) (ev_v 4 rfl) (OpD.cast od_le (by simp)), fun _ b => ev_v 7 rfl⟩
  have hl0 : (left0 p.pl e).length ≤ 40 := by
    unfold left0
    have := List.length_filter_le (fun i => decide (p.pl.rank i ≤ e)) (List.range p.pl.n)
    rw [List.length_range] at this; omega
  refine sf_cons (s_fldP 0 (C := CQ) (dx := dx) (p := x) (fs := [("given", planD CP p), ("epoch", .int e), ("needed", .ptr nda), ("bottom", .dic (cellD (baseD p.pl))), ("chains", .dic []), ("sure", natD (lowerN p e))]) L.cls L.nleft (ep_filterG (own := [("piece", 7)]) (left0 p.pl e) (fun i => .int (i : Int)) (fun _ => true) (fun i => .int (i : Int)) nd (blk (inClass (top 51) 0) Npi rfl rfl) (ei_lst (ev_v 6 rfl)) rfl (by omega) (fun _ => trivial) fun i k hk => ?_) (fun y c h => by obtain ⟨a, rfl, rfl⟩ := h; exact ev_v 0 rfl) (fun y c h => by obtain ⟨a, rfl, rfl⟩ := h; rfl) (by simp) fun y c h => ?_)
  · exact ⟨_, fun b => tg_name 7 nd, fun b => et_w (ew_andT (et_cmp (ev_v 7 rfl) (ev_ixU (ev_v 3 rfl) ev_int rfl) (OpD.cast (od_ninL (ns := [])) (by simp))) (ew_and1 (et_cmp (ev_v 7 rfl) (ev_v 5 rfl) (OpD.cast (od_ninL (ns := [])) (by simp))))), fun _ b => ev_v 7 rfl⟩
  obtain ⟨lfa, rfl, rfl⟩ := h
  rw [fput_add rfl]
  refine sf_cons (s_fldP 0 (C := CQ) (dx := dx) (p := x) (fs := [("given", planD CP p), ("epoch", .int e), ("needed", .ptr nda), ("bottom", .dic (cellD (baseD p.pl))), ("chains", .dic []), ("sure", natD (lowerN p e)), ("left", .ptr lfa)]) L.cls L.ntaken (ep_lst ea_nil) (fun y c h => by obtain ⟨a, rfl, rfl⟩ := h; exact ev_v 0 rfl) (fun y c h => by obtain ⟨a, rfl, rfl⟩ := h; rfl) (by simp) fun y c h => ?_)
  obtain ⟨tka, rfl, rfl⟩ := h
  rw [fput_add rfl]
  refine sf_cons (s_fldP 0 (C := CQ) (dx := dx) (p := x) (fs := [("given", planD CP p), ("epoch", .int e), ("needed", .ptr nda), ("bottom", .dic (cellD (baseD p.pl))), ("chains", .dic []), ("sure", natD (lowerN p e)), ("left", .ptr lfa), ("taken", .ptr tka)]) L.cls L.nspoils ep_dict (fun y c h => by obtain ⟨a, rfl, rfl⟩ := h; exact ev_v 0 rfl) (fun y c h => by obtain ⟨a, rfl, rfl⟩ := h; rfl) (by simp) fun y c h => ?_)
  obtain ⟨spa, rfl, rfl⟩ := h
  rw [fput_add rfl]
  refine sf_cons (s_fld 0 L.cls L.nended ev_bl (ev_v 0 rfl) rfl (by simp) (sf_nil ⟨rfl, ⟨x, dx, nda, lfa, tka, spa, p, pat, e⟩, rfl, rfl, rfl, rfl, ?_⟩))
  rw [fput_add rfl]
  have h1 : needed p.pl pat [] = pat := List.filter_eq_self.mpr fun _ _ => rfl
  have h2 : leftT (left0 p.pl e) [] = left0 p.pl e := List.filter_eq_self.mpr fun _ _ => rfl
  have h3 : (left0 p.pl e).filter (fun _ => true) = left0 p.pl e := List.filter_eq_self.mpr fun _ _ => rfl
  rw [h3]
  unfold pk1 pk2 pk3 pk4 pk5
  dsimp only
  rw [h1, h2, natD_map]
  rfl
end
end Af
set_option Elab.async false
set_option linter.all false
set_option maxRecDepth 100000
set_option maxHeartbeats 2000000
namespace Af
open PySem L2
section
variable {X : Cx} {o : Expr} {ds : Ds} {cs cs0 fr : Cs} {pos apos : Pos} {k j : Nat} {Pre : List D → Cs → Prop} {R : List D → Cs → D → Cs → Prop}
theorem ep_meth0 {C dx p : Addr} {m : Str} {fs : List (Str × D)} {pl : Sem Bool} (i : Nat) (c : Met X.prog X.w X.K X.mg X.base k C m (spN Pre R)) (hr : Room j X.A) (hk : k ≤ j) (ho : EvM [] X o ds cs (.ptr p) (cs0 ++ fr)) (hi : (cs0 ++ fr)[i]? = some (p, .ins C dx fs)) (hf : fs.lookup m = none) (h : Pre [.ptr p] cs0)
    (ht : eval (.Call (.Attribute o m apos) [] [] pos) X.env = (do
      let ov ← eval o X.env
      standAt apos.atName
      let (f, first) ← holding [ov] (getMethod ov m pl)
      callWith pos f first (backTo pos (starEach [] X.env)) (backToKw pos (keywordEach [] X.env))) := by rfl) :
    EvP [] X (.Call (.Attribute o m apos) [] [] pos) ds cs (fun y cs' => ∃ cs1, R [.ptr p] cs0 y cs1 ∧ cs' = cs1 ++ fr) := fun σ S H O E Q q => by
  obtain ⟨f, fd, ps, hc, hm, F, b⟩ := c.ex
  refine run_e (pe_meth0 (pl := pl) pe_w hc hm F (hr.mono hk) b .nil (E := E0) pass0 ht) (ho σ S H O E _ fun v S1 H1 O1 s1 r1 => ?_)
  obtain ⟨ws, e1, r3⟩ := O1.at_ hi
  rw [rep_ptr.mp r1]
  exact ⟨p, dx, ws, rfl, e1, r3.no hf, S1, [.ptr p], cs0, O1.left, .cons (rep_ptr.mpr rfl) .nil, h, fun y cs1 hR v S3 H3 O3 s3 r4 => q y _ ⟨cs1, hR, rfl⟩ v S3 H3 (O1.frame O3 s3) (s1.trans (.frame O1 s3)) r4⟩
end
def Pre_peeled (CP : Addr) (p : PIn) (pat : Pat) (e : Nat) (xs : List D) (cs : Cs) : Prop := xs = [planD CP p, .dic (patD pat), noC, .int e, .lst []] ∧ cs = []
def Post_peeled (CP CQ : Addr) (p : PIn) (pat : Pat) (e : Nat) (y : D) (cs' : Cs) : Prop := ∃ (q : PS) (T : List Nat) (spl : List (Int × D)) (en : Bool), q.p = p ∧ q.pat = pat ∧ q.e = e ∧ y = .ptr q.s ∧ cs' = [pk1 CP CQ q en, pk2 q T, pk3 q T, pk4 q T, pk5 q spl] ∧ Out q T en
def R_can_begin (xs : List D) (cs : Cs) (y : D) (cs' : Cs) : Prop := xs = [noC, .lst []] ∧ cs = [] ∧ y = .bl true ∧ cs' = []
def soughtD : Option (List Nat) → D
  | none => .non
  | some F => natD F
def R_sought_behind (CP : Addr) (xs : List D) (cs : Cs) (y : D) (cs' : Cs) : Prop := ∃ (p : PIn) (pat : Pat), PkOk p pat ∧ xs = [planD CP p, .dic (patD pat), noC, .lst []] ∧ cs = [] ∧ y = soughtD (sought p.pl pat) ∧ cs' = []
def R_sought (CP : Addr) (xs : List D) (cs : Cs) (y : D) (cs' : Cs) : Prop := ∃ (p : PIn) (pat : Pat), PkOk p pat ∧ xs = [planD CP p, .dic (patD pat), noC] ∧ cs = [] ∧ y = soughtD (sought p.pl pat) ∧ cs' = []
def R_find (CP : Addr) (xs : List D) (cs : Cs) (y : D) (cs' : Cs) : Prop := ∃ (p : PIn) (pat : Pat), p.Good ∧ p.pl.WF ∧ GoodPat p.b.length pat ∧ xs = [planD CP p, .dic (patD pat), noC] ∧ cs = [] ∧ y = soughtD (sought p.pl pat) ∧ cs' = []
theorem GoodPat.pk {p : PIn} {pat : Pat} (G : p.Good) (W : p.pl.WF) (h : GoodPat p.b.length pat) : PkOk p pat := ⟨G, W, h.2.1, h.2.2⟩
theorem sought_at {p : Pl} {pat : Pat} {k : Nat} {F : List Nat} (hk : k < p.epochs) (h0 : ∀ e, e < k → peel p pat e = none) (h : peel p pat k = some F) : sought p pat = some F := by
  unfold sought
  have e : List.range p.epochs = List.range k ++ (k :: (List.range p.epochs).drop (k + 1)) := by
    have h1 : (List.range p.epochs).take k = List.range k := by rw [List.take_range]; rw [Nat.min_eq_left (Nat.le_of_lt hk)]
    have h2 : (List.range p.epochs).drop k = k :: (List.range p.epochs).drop (k + 1) := by
      rw [List.drop_eq_getElem_cons (by simpa using hk)]; simp
    rw [← h1, ← h2, List.take_append_drop]
  rw [e, List.findSome?_append]
  have : (List.range k).findSome? (peel p pat) = none := List.findSome?_eq_none_iff.mpr fun e he => h0 e (List.mem_range.mp he)
  rw [this, Option.none_or, List.findSome?_cons, h]
theorem sought_no {p : Pl} {pat : Pat} (h0 : ∀ e, e < p.epochs → peel p pat e = none) : sought p pat = none :=
  List.findSome?_eq_none_iff.mpr fun e he => h0 e (List.mem_range.mp he)
section
variable {P : Program} {w : World} {K : PySem.W.Frag} {mg : Str → Option Value} {base : Heap} {f : Addr} {fd : FuncData} {CP CQ : Addr}
abbrev N52 : List Str := ["plan", "pattern", "claims", "epoch", "came", "peel"]
theorem sc52 : FnScope N52 ["plan", "pattern", "claims", "epoch", "came"] (defScope (top 52)) := ⟨rfl, rfl, rfl, by decide +kernel, rfl, by decide +kernel, by decide +kernel⟩
theorem ok_peeled (T : Txt K mg) (F : Fun K "peeled" "peeled" (top 52) f fd) (p : PIn) (pat : Pat) (e : Nat) (ok : PkOk p pat) (he : e < p.pl.epochs)
    (c_Peel : Mak P w K mg base 7 "Peel" CQ (spN (Pre_pinit CP CQ p pat e) (Post_pinit CP CQ p pat e))) (c_go : ∀ q : PS, q.Ok → Met P w K mg base 5 CQ "go_through" (spN (Pre_go CP CQ q) (fun _ _ y c => Post_go CP CQ q y c))) :
    FnOk P w K mg base CX0 9 f fd ["plan", "pattern", "claims", "epoch", "came"] (spN (Pre_peeled CP p pat e) (fun _ _ y c => Post_peeled CP CQ p pat e y c)) := by
  refine fn_okN F sc52 (by rintro _ _ ⟨rfl, _⟩; rfl) fun cdv A outer s H E xs cs hr hP => ?_
  obtain ⟨rfl, rfl⟩ := hP
  have nd : N52.Nodup := nd_of (by decide +kernel)
  refine sf_cons (s_setP 5 nd (ep_make c_Peel hr (by decide) (ea_cons (ev_v 0 rfl) (ea_cons (ev_v 1 rfl) (ea_cons (ev_v 2 rfl) (ea_cons (ev_v 3 rfl) (ea_cons (ev_v 4 rfl) ea_nil))))) (fun x dx => ⟨x, dx, rfl, rfl⟩) (fun x dx y cs' h => h.1)) fun y c h => ?_)
  obtain ⟨x, dx, y0, c1, rfl, ⟨_, q, h1, h2, h3, hcs, rfl⟩, rfl⟩ := h
  have hx : x = q.s := by injection hcs with h _; injection h
  subst hx
  have qok : q.Ok := ⟨by rw [h1]; exact ok.good, by rw [h1]; exact ok.wf, by rw [h2]; exact ok.keys, by rw [h2]; exact ok.few, by rw [h1, h3]; exact he⟩
  refine sf_cons (s_exprP (ep_meth0 0 (c_go q qok) hr (by decide) (cs0 := [pk1 CP CQ q false, pk2 q [], pk3 q [], pk4 q [], pk5 q []]) (fr := []) (ev_v 5 rfl) rfl (pkF_no q false _ (by decide)) ⟨rfl, rfl⟩) fun y c h => ?_)
  obtain ⟨c1, ⟨_, t, spl, en, rfl, out⟩, rfl⟩ := h
  exact sf_cons (s_ret (ev_v 5 rfl) ⟨q, t, spl, en, h1, h2, h3, rfl, rfl, out⟩)
abbrev N53 : List Str := ["claims", "came", "piece", "other"]
theorem sc53 : FnScope N53 ["claims", "came"] (defScope (top 53)) := ⟨rfl, rfl, rfl, by decide +kernel, rfl, by decide +kernel, by decide +kernel⟩
theorem ok_can_begin (T : Txt K mg) (F : Fun K "can_begin" "can_begin" (top 53) f fd) : FnOk P w K mg base CX0 1 f fd ["claims", "came"] (spM true R_can_begin) := by
  refine fn_okM F sc53 (by rintro _ _ _ _ ⟨rfl, _⟩; rfl) fun lk cdv A outer s H E xs cs y cs' hlk hr hR => ?_
  obtain ⟨rfl, rfl, rfl, rfl⟩ := hR
  have nd : N53.Nodup := nd_of (by decide +kernel)
  refine sf_cons (s_ifF (et_val (ev_callB (ea_cons (ev_mapNil (own := [("piece", 2)]) nd (blk (top 53) N53 rfl rfl) (ei_lst (ev_ixU (ev_v 0 rfl) ev_int rfl)) (fun _ => trivial)) ea_nil) cd_anyNil T.zany b_any)) (sf_nil ?_))
  refine sf_cons (s_for (G := fun _ => True) (vs := [2, 3]) (xs := []) (ei_lst (ev_ixU (ev_v 0 rfl) ev_int rfl)) (fun k ds' cs' => cs' = []) rfl (fun _ _ _ _ => trivial) (fun i x ds' cs' h _ => by simp at h) fun ds' cs' h => ?_)
  subst h
  exact sf_cons (s_ret ev_bl ⟨rfl, rfl⟩)
abbrev N54 : List Str := ["plan", "pattern", "claims", "came", "epoch", "peel", "piece"]
theorem sc54 : FnScope N54 ["plan", "pattern", "claims", "came"] (defScope (top 54)) := ⟨rfl, rfl, rfl, by decide +kernel, rfl, by decide +kernel, by decide +kernel⟩
theorem ok_sought_behind (T : Txt K mg) (L : ClsPeel K CQ) (F : Fun K "sought_behind" "sought_behind" (top 54) f fd) (c_can_begin : Cal P w K mg base 1 "can_begin" (spM true R_can_begin)) (p_epochs : Prp P w K mg base 1 CP "epochs" (spM true (R_epochs CP))) (c_refusal : Cal P w K mg base 2 "refusal" (spM true (R_refusal CP)))
    (c_peeled : ∀ (p : PIn) (pat : Pat) (e : Nat), PkOk p pat → e < p.pl.epochs → Cal P w K mg base 9 "peeled" (spN (Pre_peeled CP p pat e) (fun _ _ y c => Post_peeled CP CQ p pat e y c))) : FnOk P w K mg base CX0 10 f fd ["plan", "pattern", "claims", "came"] (spM false (R_sought_behind CP)) := by
  refine fn_okM F sc54 (by rintro _ _ _ _ ⟨p, pat, _, rfl, _⟩; rfl) fun lk cdv A outer s H E xs cs y cs' hlk hr hR => ?_
  obtain ⟨p, pat, ok, rfl, rfl, rfl, rfl⟩ := hR
  obtain rfl := lk_nil hlk
  have nd : N54.Nodup := nd_of (by decide +kernel)
  have hep : p.pl.epochs ≤ 41 := by
    show p.st.countP (·.isNone) + 1 ≤ 41
    have := List.countP_le_length (p := (·.isNone)) (l := p.st)
    have := ok.good.len; omega
  refine sf_cons (s_ifF (et_not (t := true) (et_val (ev_callP c_can_begin hr (by decide) (ea_cons (ev_v 2 rfl) (ea_cons (ev_v 3 rfl) ea_nil)) ⟨rfl, rfl, rfl, rfl⟩ (.inl rfl)))) (sf_nil ?_))
  refine sf_cons (s_for (G := fun _ => True) (vs := [4]) (ei_range2 (i := 0) (j := (p.pl.epochs : Int)) T.zrange (ev_callB (ea_cons (EvM.cast (y := .lst (dints [0])) (ev_lst (ea_cons ev_int (ea_starL (ev_mapNil (own := [("piece", 6)]) nd (blk (top 54) N54 rfl rfl) (ei_lst (ev_v 3 rfl)) (fun _ => trivial)) ea_nil))) rfl) ea_nil) (cd_max (ns := [0]) (m := 0) (by simp) (by simp)) T.zmax b_max) (ev_prop p_epochs hr (by decide) (ev_v 0 rfl) ⟨p, rfl, rfl, rfl, rfl⟩ (.inl rfl)) (by omega))
    (fun k ds' cs' => cs' = [] ∧ (∀ e, e < k → peel p.pl pat e = none) ∧ ∃ v4 v5 v6, ds' = [some (planD CP p), some (.dic (patD pat)), some noC, some (.lst []), v4, v5, v6]) ⟨rfl, fun e h => by omega, _, _, _, rfl⟩ (fun _ _ _ _ => trivial) ?step ?fin)
  case step =>
    rintro k x ds' cs' hx ⟨rfl, h0, v4, v5, v6, rfl⟩
    obtain ⟨hk, rfl⟩ := rng_get hx
    have hke : k < p.pl.epochs := by omega
    have e0 : (0 : Int) + (k : Int) = (k : Int) := by omega
    rw [e0]
    refine ⟨_, tg_name 4 nd, ?_⟩
    refine sf_cons (s_ifT (et_cmp (ev_callP c_refusal hr (by decide) (ea_cons (ev_v 0 rfl) (ea_cons (ev_v 2 rfl) (ea_cons (ev_v 4 rfl) ea_nil))) ⟨p, (k : Int), rfl, rfl, rfl, rfl⟩ (.inl rfl)) ev_non od_is) ?_)
    refine sf_cons (s_setP 5 nd (ep_call (c_peeled p pat k ok hke) hr (by decide) (cs0 := []) (fr := []) (ea_cons (ev_v 0 rfl) (ea_cons (ev_v 1 rfl) (ea_cons (ev_v 2 rfl) (ea_cons (ev_v 4 rfl) (ea_cons (ev_v 3 rfl) ea_nil))))) ⟨rfl, rfl⟩) fun y c h => ?_)
    obtain ⟨c1, ⟨q, t, spl, en, h1, h2, h3, rfl, rfl, out⟩, rfl⟩ := h
    obtain ⟨o1, o2, o3⟩ := out
    rw [h1, h2, h3] at o2 o3
    refine sf_cons (s_if (cs1 := [pk1 CP CQ q en, pk2 q t, pk3 q t, pk4 q t, pk5 q spl]) (et_val (ev_fldC 0 L.cls L.nended (ev_v 5 rfl) rfl rfl)) (fun hc => ?_) fun hc => ?_)
    · rw [sought_at hke h0 (o2 hc)]
      refine sf_cons (s_ret (EvM.cast (EvM.dropAll (ev_lst (ea_starL (ev_v 3 rfl) (ea_starL (ev_revC 3 (ev_fldC 0 L.cls L.ntaken (ev_v 5 rfl) rfl rfl) rfl) ea_nil)) ?_)) ?_) ⟨rfl, rfl⟩)
      · simp [dints_len, nints_len]; omega
      · show D.lst ([] ++ ((dints (nints t)).reverse ++ [])) = natD t.reverse
        unfold natD nints dints
        rw [List.map_reverse, List.map_reverse]; simp
    · refine sf_nil (SF.drop 0 rfl (SF.drop 0 rfl (SF.drop 0 rfl (SF.drop 0 rfl (SF.drop 0 rfl (sf_nil (sf_nil ⟨rfl, fun e he => ?_, _, _, _, rfl⟩)))))))
      by_cases hek : e = k
      · rw [hek]; exact o3 hc
      · exact h0 e (by omega)
  case fin =>
    rintro ds' cs' ⟨rfl, h0, v4, v5, v6, rfl⟩
    rw [sought_no fun e he => h0 e (by rw [rng_len]; omega)]
    exact sf_cons (s_ret ev_non ⟨rfl, rfl⟩)
theorem sc55 : FnScope ["plan", "pattern", "claims"] ["plan", "pattern", "claims"] (defScope (top 55)) := ⟨rfl, rfl, rfl, by decide +kernel, rfl, by decide +kernel, by decide +kernel⟩
theorem ok_sought (T : Txt K mg) (F : Fun K "sought" "sought" (top 55) f fd) (c_sought_behind : Cal P w K mg base 10 "sought_behind" (spM false (R_sought_behind CP))) : FnOk P w K mg base CX0 11 f fd ["plan", "pattern", "claims"] (spM false (R_sought CP)) := by
  refine fn_okM F sc55 (by rintro _ _ _ _ ⟨p, pat, _, rfl, _⟩; rfl) fun lk cdv A outer s H E xs cs y cs' hlk hr hR => ?_
  obtain ⟨p, pat, ok, rfl, rfl, rfl, rfl⟩ := hR
  exact sf_cons (s_ret (ev_callP c_sought_behind hr (by decide) (ea_cons (ev_v 0 rfl) (ea_cons (ev_v 1 rfl) (ea_cons (ev_v 2 rfl) (ea_cons (ev_lst ea_nil) ea_nil)))) ⟨p, pat, ok, rfl, rfl, rfl, rfl⟩ hlk) ⟨rfl, rfl⟩)
theorem sc56 : FnScope ["plan", "pattern", "claims"] ["plan", "pattern", "claims"] (defScope (top 56)) := ⟨rfl, rfl, rfl, by decide +kernel, rfl, by decide +kernel, by decide +kernel⟩
theorem ok_find (T : Txt K mg) (F : Fun K "find" "find" (top 56) f fd) (p_base : Prp P w K mg base 1 CP "base" (spM true (R_base CP))) (c_check_pattern : Cal P w K mg base 6 "check_pattern" (spM false R_check_pattern)) (c_check_claims : Cal P w K mg base 5 "check_claims" (spM true (R_check_claims CP))) (c_sought : Cal P w K mg base 11 "sought" (spM false (R_sought CP))) :
    FnOk P w K mg base CX0 12 f fd ["plan", "pattern", "claims"] (spM false (R_find CP)) := by
  refine fn_okM F sc56 (by rintro _ _ _ _ ⟨p, pat, _, _, _, rfl, _⟩; rfl) fun lk cdv A outer s H E xs cs y cs' hlk hr hR => ?_
  obtain ⟨p, pat, G, W, hp, rfl, rfl, rfl, rfl⟩ := hR
  refine sf_cons (s_expr (ev_callP c_check_pattern hr (by decide) (ea_cons (ev_callB (ea_cons (ev_prop p_base hr (by decide) (ev_v 0 rfl) ⟨p, rfl, rfl, rfl, rfl⟩ (.inl rfl)) ea_nil) cd_lenU T.zlen b_len) (ea_cons (ev_v 1 rfl) ea_nil)) ⟨p.b.length, pat, hp, by rw [dints_len], rfl, rfl, rfl⟩ hlk) ?_)
  refine sf_cons (s_expr (ev_callP c_check_claims hr (by decide) (ea_cons (ev_v 0 rfl) (ea_cons (ev_v 2 rfl) ea_nil)) ⟨p, G, rfl, rfl, rfl, rfl⟩ (.inl rfl)) ?_)
  exact sf_cons (s_ret (ev_callP c_sought hr (by decide) (ea_cons (ev_v 0 rfl) (ea_cons (ev_v 1 rfl) (ea_cons (ev_v 2 rfl) ea_nil))) ⟨p, pat, hp.pk G W, rfl, rfl, rfl, rfl⟩ hlk) ⟨rfl, rfl⟩)
end
end Af
set_option Elab.async false
set_option linter.all false
set_option maxRecDepth 100000
set_option pp.maxSteps 400
set_option maxHeartbeats 2000000
/-! ### patterns met; the lexicographic order -/
namespace Af
theorem kget_tab {β : Type} (g : Int → β) (k : Int) : ∀ l : List Int, kget (l.map fun c => (c, g c)) k = if k ∈ l then some (g k) else none
  | [] => by simp [kget_nil]
  | c :: l => by
    rw [List.map_cons, kget_cons, kget_tab g k l]
    by_cases h : c = k
    · subst h; simp
    · have : ¬ k = c := fun e => h e.symm
      simp [h, this]
theorem hasK_of {p : Pat} {q : Int × List Int} (h : q ∈ p) : hasK p q.1 = true := by
  unfold hasK
  cases e : kget p q.1 with
  | none => exact absurd rfl (kget_none.mp e q h)
  | some v => rfl
theorem fits_met {p o : Pat} (hp : (p.map (·.1)).Nodup) (ho : (o.map (·.1)).Nodup) (d : List Int) : Fits (metB p o) d ↔ Fits p d ∧ Fits o d := by
  constructor
  · intro h
    have at_ : ∀ c, c ∈ unionK p o → d.getD c.toNat 0 ∈ metC p o c := fun c hc => h (c, metC p o c) (List.mem_map.mpr ⟨c, hc, rfl⟩)
    refine ⟨fun q hq => ?_, fun q hq => ?_⟩
    · have := at_ q.1 (mem_unionK.mpr (.inl (hasK_of hq)))
      unfold metC at this
      rw [kget_of hp (k := q.1) (x := q.2) hq] at this
      exact (List.mem_filter.mp this).1
    · have := at_ q.1 (mem_unionK.mpr (.inr (hasK_of hq)))
      unfold metC at this
      rw [kget_of ho (k := q.1) (x := q.2) hq] at this
      simpa using (List.mem_filter.mp this).2
  · rintro ⟨h1, h2⟩ q hq
    obtain ⟨c, hc, rfl⟩ := List.mem_map.mp hq
    show d.getD c.toNat 0 ∈ metC p o c
    unfold metC
    rw [List.mem_filter]
    have hk1 : ∀ v, kget p c = some v → d.getD c.toNat 0 ∈ v := fun v e => h1 (c, v) (kget_mem e)
    have hk2 : ∀ v, kget o c = some v → d.getD c.toNat 0 ∈ v := fun v e => h2 (c, v) (kget_mem e)
    cases e1 : kget p c with
    | some a =>
      cases e2 : kget o c with
      | some b => exact ⟨hk1 a e1, decide_eq_true (hk2 b e2)⟩
      | none => exact ⟨hk1 a e1, decide_eq_true (hk1 a e1)⟩
    | none =>
      cases e2 : kget o c with
      | some b => exact ⟨hk2 b e2, decide_eq_true (hk2 b e2)⟩
      | none =>
        rcases mem_unionK.mp hc with z | z
        · unfold hasK at z; rw [e1] at z; cases z
        · unfold hasK at z; rw [e2] at z; cases z
theorem metR_none {p o : Pat} (hp : (p.map (·.1)).Nodup) (ho : (o.map (·.1)).Nodup) (h : metR p o = none) (d : List Int) : ¬ (Fits p d ∧ Fits o d) := fun hf => by
  have hm := (fits_met hp ho d).mpr hf
  unfold metR at h
  by_cases e : [] ∈ (metB p o).map (·.2)
  · obtain ⟨q, hq, e2⟩ := List.mem_map.mp e
    have := hm q hq
    rw [e2] at this; cases this
  · rw [if_neg e] at h; cases h
theorem metR_some {p o m : Pat} (h : metR p o = some m) : m = metB p o ∧ ∀ q ∈ m, q.2 ≠ [] := by
  unfold metR at h
  by_cases e : [] ∈ (metB p o).map (·.2)
  · rw [if_pos e] at h; cases h
  · rw [if_neg e] at h
    injection h with h
    subst h
    exact ⟨rfl, fun q hq e2 => e (List.mem_map.mpr ⟨q, hq, e2⟩)⟩
theorem int_nodup_len {l : List Int} {n : Nat} (h : l.Nodup) (hb : ∀ k ∈ l, 0 ≤ k ∧ k < (n : Int)) : l.length ≤ n := by
  have h1 : (l.map Int.toNat).Nodup := by
    unfold List.Nodup
    rw [List.pairwise_map]
    exact h.imp_of_mem fun {a b} ha hb' hne e => hne (by have := hb a ha; have := hb b hb'; omega)
  have := L2.nat_nodup_len (l.map Int.toNat) (List.range n) h1 fun x hx => by
    obtain ⟨k, hk, rfl⟩ := List.mem_map.mp hx
    have := hb k hk
    exact List.mem_range.mpr (by omega)
  simpa using this
theorem GoodPat.met {n : Nat} {p o m : Pat} (hn : n ≤ 24) (hp : GoodPat n p) (ho : GoodPat n o) (h : metR p o = some m) : GoodPat n m := by
  obtain ⟨rfl, hne⟩ := metR_some h
  have keys : ∀ c, c ∈ unionK p o → 0 ≤ c ∧ c < (n : Int) := fun c hc => by
    rcases mem_unionK.mp hc with z | z
    · unfold hasK at z
      cases e : kget p c with
      | none => rw [e] at z; cases z
      | some v => exact (hp.1 _ (kget_mem e)).1
    · unfold hasK at z
      cases e : kget o c with
      | none => rw [e] at z; cases z
      | some v => exact (ho.1 _ (kget_mem e)).1
  have hnd := unionK_nodup hp.2.1 ho.2.1
  refine ⟨fun q hq => ?_, by rw [metB_keys]; exact hnd, ?_⟩
  · have hq2 := hne q hq
    obtain ⟨c, hc, rfl⟩ := List.mem_map.mp hq
    refine ⟨keys c hc, ?_⟩
    have hch : Choice ((kget p c).getD ((kget o c).getD [])) := by
      rcases mem_unionK.mp hc with z | z
      · unfold hasK at z
        cases e : kget p c with
        | none => rw [e] at z; cases z
        | some v => exact (hp.1 _ (kget_mem e)).2
      · unfold hasK at z
        cases e : kget p c with
        | some v => exact (hp.1 _ (kget_mem e)).2
        | none =>
          cases e2 : kget o c with
          | none => rw [e2] at z; cases z
          | some v => exact (ho.1 _ (kget_mem e2)).2
    show Choice (metC p o c)
    unfold metC
    refine ⟨⟨hq2, fun w hw => hch.1.2.1 w (List.mem_filter.mp hw).1, Nat.le_trans (List.length_filter_le _ _) hch.1.2.2⟩, hch.2.filter _⟩
  · have : (metB p o).length = (unionK p o).length := by unfold metB; simp
    rw [this]
    have := int_nodup_len hnd keys
    omega
/-- one cell alone -/
theorem goodOne {n : Nat} {c w : Int} (hc : 0 ≤ c ∧ c < (n : Int)) (hw : 0 ≤ w ∧ w < 8) : GoodPat n [(c, [w])] :=
  ⟨fun q hq => by
    rw [List.mem_singleton.mp hq]
    exact ⟨hc, ⟨by simp, fun z hz => by rw [List.mem_singleton.mp hz]; exact hw, by simp⟩, by simp⟩, by simp, by simp⟩
theorem fits_one {c w : Int} {d : List Int} : Fits [(c, [w])] d ↔ d.getD c.toNat 0 = w := by
  unfold Fits
  simp
/-! the order of contents -/
def lexLt (a b : List Int) : Prop := ∃ k, k < a.length ∧ (∀ j, j < k → a.getD j 0 = b.getD j 0) ∧ a.getD k 0 < b.getD k 0
theorem lexLt_irrefl (a : List Int) : ¬ lexLt a a := fun ⟨_, _, _, h⟩ => by omega
theorem lexLt_trans {a b c : List Int} (hl : a.length = b.length) (h1 : lexLt a b) (h2 : lexLt b c) : lexLt a c := by
  obtain ⟨k, hk, e1, l1⟩ := h1
  obtain ⟨m, hm, e2, l2⟩ := h2
  rcases Nat.lt_trichotomy k m with h | h | h
  · exact ⟨k, hk, fun j hj => (e1 j hj).trans (e2 j (by omega)), by have := e2 k h; omega⟩
  · subst h; exact ⟨k, hk, fun j hj => (e1 j hj).trans (e2 j hj), by omega⟩
  · exact ⟨m, by omega, fun j hj => (e1 j (by omega)).trans (e2 j hj), by have := e1 m h; omega⟩
theorem ext_getD {a b : List Int} (hl : a.length = b.length) (h : ∀ j, j < a.length → a.getD j 0 = b.getD j 0) : a = b := by
  apply List.ext_getElem hl
  intro i h1 h2
  have := h i h1
  simpa [List.getD_eq_getElem?_getD, h1, h2] using this
theorem lexLt_tri {a b : List Int} (hl : a.length = b.length) : a = b ∨ lexLt a b ∨ lexLt b a := by
  apply Classical.byContradiction
  intro h
  simp only [not_or] at h
  obtain ⟨h0, h1, h2⟩ := h
  have : ∀ j, (∀ i, i < j → i < a.length → a.getD i 0 = b.getD i 0) := by
    intro j
    induction j with
    | zero => intro i hi; omega
    | succ j ih =>
      intro i hi hil
      by_cases hij : i < j
      · exact ih i hij hil
      · have e : i = j := by omega
        subst e
        rcases Int.lt_trichotomy (a.getD i 0) (b.getD i 0) with c | c | c
        · exact absurd ⟨i, hil, fun k hk => ih k hk (by omega), c⟩ h1
        · exact c
        · exact absurd ⟨i, by omega, fun k hk => (ih k hk (by omega)).symm, c⟩ h2
  exact h0 (ext_getD hl fun j hj => this (j + 1) j (by omega) hj)
theorem lex_code {B : Int} : ∀ {a b : List Int}, a.length = b.length → TS.Bd B a → TS.Bd B b → lexLt a b → TS.code B a < TS.code B b
  | [], b, _, _, _, ⟨k, hk, _⟩ => by simp at hk
  | x :: a, [], hl, _, _, _ => by simp at hl
  | x :: a, y :: b, hl, ha, hb, ⟨k, hk, e, l⟩ => by
    have hl' : a.length = b.length := by simpa using hl
    cases k with
    | zero => exact TS.code_lt hl' ha.tail hb.tail (by simpa using l)
    | succ k =>
      have h0 : x = y := by simpa using e 0 (by omega)
      subst h0
      rw [TS.code_same hl']
      exact lex_code hl' ha.tail hb.tail ⟨k, by simpa using hk, fun j hj => by simpa using e (j + 1) (by omega), by simpa using l⟩
end Af
set_option Elab.async false
set_option linter.all false
set_option maxRecDepth 100000
set_option pp.maxSteps 400
set_option maxHeartbeats 2000000
/-! ### least and next contents -/
namespace Af
/-- a plan whose contents have as many cells, of worths below 8 -/
structure Small (p : Pl) : Prop where
  wf : p.WF
  n24 : p.base.length ≤ 24
  wd : ∀ d, Found p d → ∀ x ∈ d, 0 ≤ x ∧ x < 8
theorem found_len {p : Pl} {d : List Int} (h : Found p d) : d.length = p.base.length := by
  obtain ⟨F, _, rfl⟩ := h
  exact over_len p F p.base
theorem Small.at_ {p : Pl} (S : Small p) {d : List Int} (h : Found p d) {k : Nat} (hk : k < p.base.length) : 0 ≤ d.getD k 0 ∧ d.getD k 0 < 8 := by
  have hl := found_len h
  have e : d.getD k 0 = d[k]'(by omega) := by rw [List.getD_eq_getElem?_getD, List.getElem?_eq_getElem (by omega)]; rfl
  rw [e]
  exact S.wd d h _ (List.getElem_mem _)
theorem GoodPat.cells {p : Pl} {pat : Pat} (h : GoodPat p.base.length pat) : InCells p pat := fun q hq => (h.1 q hq).1
def canB (p : Pl) : Option Pat → Bool
  | none => false
  | some q => (sought p q).isSome
def nar (p : Pl) (pat : Pat) (c w : Int) : Option Pat := if canB p (metR pat [(c, [w])]) then metR pat [(c, [w])] else none
def wl (p : Pl) (pat : Pat) (c : Int) : Option Pat := (List.range 8).findSome? fun (w : Nat) => nar p pat c (w : Int)
/-- both patterns, seen by what fits -/
theorem can_met {p : Pl} (S : Small p) {pat o : Pat} (hp : GoodPat p.base.length pat) (ho : GoodPat p.base.length o) : canB p (metR pat o) = true ↔ ∃ d, Found p d ∧ Fits pat d ∧ Fits o d := by
  cases e : metR pat o with
  | none =>
    have := metR_none hp.2.1 ho.2.1 e
    constructor
    · intro h; cases h
    · rintro ⟨d, _, h1, h2⟩; exact absurd ⟨h1, h2⟩ (this d)
  | some m =>
    have hm : GoodPat p.base.length m := hp.met S.n24 ho e
    obtain ⟨rfl, _⟩ := metR_some e
    show (sought p _).isSome = true ↔ _
    rw [sought_iff S.wf hm.cells]
    constructor
    · rintro ⟨d, h1, h2⟩; exact ⟨d, h1, (fits_met hp.2.1 ho.2.1 d).mp h2⟩
    · rintro ⟨d, h1, h2⟩; exact ⟨d, h1, (fits_met hp.2.1 ho.2.1 d).mpr h2⟩
theorem nar_some {p : Pl} (S : Small p) {pat m : Pat} {c w : Int} (hp : GoodPat p.base.length pat) (hc : 0 ≤ c ∧ c < (p.base.length : Int)) (hw : 0 ≤ w ∧ w < 8) (h : nar p pat c w = some m) :
    m = metB pat [(c, [w])] ∧ GoodPat p.base.length m ∧ (∃ d, Found p d ∧ Fits pat d ∧ d.getD c.toNat 0 = w) ∧ ∀ d, Fits m d ↔ Fits pat d ∧ d.getD c.toNat 0 = w := by
  unfold nar at h
  split at h
  · rename_i hc2
    have ho := goodOne hc hw
    have hm : GoodPat p.base.length m := hp.met S.n24 ho h
    obtain ⟨rfl, _⟩ := metR_some h
    obtain ⟨d, h1, h2, h3⟩ := (can_met S hp ho).mp hc2
    refine ⟨rfl, hm, ⟨d, h1, h2, fits_one.mp h3⟩, fun d => ?_⟩
    rw [fits_met hp.2.1 ho.2.1, fits_one]
  · cases h
theorem nar_none {p : Pl} (S : Small p) {pat : Pat} {c w : Int} (hp : GoodPat p.base.length pat) (hc : 0 ≤ c ∧ c < (p.base.length : Int)) (hw : 0 ≤ w ∧ w < 8) : nar p pat c w = none ↔ ∀ d, Found p d → Fits pat d → d.getD c.toNat 0 ≠ w := by
  have ho := goodOne (n := p.base.length) hc hw
  unfold nar
  constructor
  · intro h d h1 h2 h3
    have := (can_met S hp ho).mpr ⟨d, h1, h2, fits_one.mpr h3⟩
    rw [this] at h
    simp only [if_true] at h
    rw [h] at this; cases this
  · intro h
    rw [if_neg fun z => ?_]
    obtain ⟨d, h1, h2, h3⟩ := (can_met S hp ho).mp z
    exact h d h1 h2 (fits_one.mp h3)
structure LeastAt (p : Pl) (pat : Pat) (c : List Int) : Prop where
  found : Found p c
  fits : Fits pat c
  least : ∀ d, Found p d → Fits pat d → d = c ∨ lexLt c d
structure Upto (p : Pl) (pat : Pat) (c : List Int) (k : Nat) (P : Pat) : Prop where
  good : GoodPat p.base.length P
  fits : ∀ d, Fits P d ↔ Fits pat d ∧ ∀ j, j < k → d.getD j 0 = c.getD j 0
  at_ : ∀ j, j < k → kget P (j : Int) = some [c.getD j 0]
theorem Upto.zero {p : Pl} {pat : Pat} {c : List Int} (h : GoodPat p.base.length pat) : Upto p pat c 0 pat := ⟨h, fun d => by simp, fun j hj => by omega⟩
theorem find_at {α : Type} {f : Nat → Option α} {x : α} {w n : Nat} (hw : w < n) (h0 : ∀ v, v < w → f v = none) (h : f w = some x) : (List.range n).findSome? f = some x := by
  have e : List.range n = List.range w ++ (w :: (List.range n).drop (w + 1)) := by
    have h1 : (List.range n).take w = List.range w := by rw [List.take_range]; rw [Nat.min_eq_left (Nat.le_of_lt hw)]
    have h2 : (List.range n).drop w = w :: (List.range n).drop (w + 1) := by
      rw [List.drop_eq_getElem_cons (by simpa using hw)]; simp
    rw [← h1, ← h2, List.take_append_drop]
  rw [e, List.findSome?_append]
  have : (List.range w).findSome? f = none := List.findSome?_eq_none_iff.mpr fun v hv => h0 v (List.mem_range.mp hv)
  rw [this, Option.none_or, List.findSome?_cons, h]
theorem Upto.step {p : Pl} (S : Small p) {pat P : Pat} {c : List Int} {k : Nat} (L : LeastAt p pat c) (U : Upto p pat c k P) (hk : k < p.base.length) : ∃ P', wl p P (k : Int) = some P' ∧ Upto p pat c (k + 1) P' := by
  have hb := S.at_ L.found hk
  have hkc : (0 : Int) ≤ (k : Int) ∧ (k : Int) < (p.base.length : Int) := by omega
  obtain ⟨w, hw⟩ : ∃ w : Nat, c.getD k 0 = (w : Int) := ⟨(c.getD k 0).toNat, by omega⟩
  rw [hw] at hb
  have hcP : Fits P c := (U.fits c).mpr ⟨L.fits, fun _ _ => rfl⟩
  have h0 : ∀ v, v < w → nar p P (k : Int) (v : Int) = none := fun v hv => by
    refine (nar_none S U.good hkc (by omega)).mpr fun d h1 h2 h3 => ?_
    obtain ⟨f1, f2⟩ := (U.fits d).mp h2
    rw [Int.toNat_natCast] at h3
    rcases L.least d h1 f1 with e | ⟨m, hm, e, l⟩
    · rw [e] at h3; omega
    · rcases Nat.lt_trichotomy m k with z | z | z
      · have := f2 m z; omega
      · subst z; omega
      · have := e k z; omega
  have h1 : nar p P (k : Int) (w : Int) ≠ none := fun z => (nar_none S U.good hkc (by omega)).mp z c L.found hcP (by rw [Int.toNat_natCast]; exact hw)
  cases e : nar p P (k : Int) (w : Int) with
  | none => exact absurd e h1
  | some P' =>
    refine ⟨P', find_at (w := w) (by omega) h0 e, ?_⟩
    obtain ⟨rfl, g, _, ff⟩ := nar_some S U.good hkc (by omega) e
    refine ⟨g, fun d => ?_, fun j hj => ?_⟩
    · rw [ff, U.fits, Int.toNat_natCast]
      constructor
      · rintro ⟨⟨a, b⟩, r⟩
        refine ⟨a, fun j hj => ?_⟩
        by_cases hjk : j = k
        · rw [hjk, r, hw]
        · exact b j (by omega)
      · rintro ⟨a, b⟩
        exact ⟨⟨a, fun j hj => b j (by omega)⟩, by rw [b k (by omega), hw]⟩
    · have hkm : kget (metB P [((k : Int), [(w : Int)])]) (j : Int) = if (j : Int) ∈ unionK P [((k : Int), [(w : Int)])] then some (metC P [((k : Int), [(w : Int)])] (j : Int)) else none := kget_tab _ _ _
      by_cases hjk : j = k
      · subst hjk
        have hin : (j : Int) ∈ unionK P [((j : Int), [(w : Int)])] := mem_unionK.mpr (.inr (by simp [hasK, kget_cons]))
        rw [if_pos hin] at hkm
        rw [hkm, hw]
        have hv := (g.1 _ (kget_mem hkm)).2
        have hall : ∀ x ∈ metC P [((j : Int), [(w : Int)])] (j : Int), x = (w : Int) := fun x hx => by
          unfold metC at hx
          have := (List.mem_filter.mp hx).2
          simpa [kget_cons] using this
        generalize metC P [((j : Int), [(w : Int)])] (j : Int) = v at hv hall
        obtain ⟨⟨hne, _⟩, hpw⟩ := hv
        cases v with
        | nil => exact absurd rfl hne
        | cons a r =>
          have ha := hall a (by simp)
          subst ha
          cases r with
          | nil => rfl
          | cons b r =>
            have hb2 := hall b (by simp)
            have := (List.pairwise_cons.mp hpw).1 b (by simp)
            omega
      · have hat := U.at_ j (by omega)
        have hin : (j : Int) ∈ unionK P [((k : Int), [(w : Int)])] := mem_unionK.mpr (.inl (by simp [hasK, hat]))
        rw [if_pos hin] at hkm
        rw [hkm]
        have hne : ¬ (k : Int) = (j : Int) := by omega
        unfold metC
        simp [hat, kget_cons, kget_nil, hne]
/-! the next content -/
def After : Option (List Int) → List Int → Prop
  | none, _ => True
  | some c, d => lexLt c d
def NextOf (p : Pl) (pat : Pat) (co : Option (List Int)) : Option (List Int) → Prop
  | none => ∀ d, Found p d → Fits pat d → ¬ After co d
  | some r => Found p r ∧ Fits pat r ∧ After co r ∧ ∀ d, Found p d → Fits pat d → After co d → d = r ∨ lexLt r d
def hiP (c : List Int) (k : Nat) (ws : List Int) : Pat := ((List.range k).map fun (j : Nat) => ((j : Int), [c.getD j 0])) ++ [((k : Int), ws)]
theorem hiP_keys (c : List Int) (k : Nat) (ws : List Int) : (hiP c k ws).map (·.1) = (List.range (k + 1)).map fun (j : Nat) => (j : Int) := by
  unfold hiP
  rw [List.range_succ, List.map_append, List.map_append, List.map_map]
  rfl
theorem rgI_mem {a b x : Int} : x ∈ rgI a b ↔ a ≤ x ∧ x < b := by
  unfold rgI
  simp only [List.mem_map, List.mem_range]
  constructor
  · rintro ⟨i, hi, rfl⟩; omega
  · rintro ⟨h1, h2⟩; exact ⟨(x - a).toNat, by omega, by omega⟩
theorem rgI_lt (a b : Int) : (rgI a b).Pairwise (· < ·) := by
  unfold rgI
  rw [List.pairwise_map]
  exact List.pairwise_lt_range.imp fun {x y} h => by omega
theorem rgI_len (a b : Int) : (rgI a b).length = (b - a).toNat := by simp [rgI]
theorem goodHi {n : Nat} {c : List Int} {k : Nat} (hn : n ≤ 24) (hc : ∀ j, j < n → 0 ≤ c.getD j 0 ∧ c.getD j 0 < 8) (hk : k < n) (h8 : c.getD k 0 + 1 < 8) : GoodPat n (hiP c k (rgI (c.getD k 0 + 1) 8)) := by
  have hck := hc k hk
  refine ⟨fun q hq => ?_, ?_, ?_⟩
  · unfold hiP at hq
    rcases List.mem_append.mp hq with z | z
    · obtain ⟨j, hj, rfl⟩ := List.mem_map.mp z
      have hj := List.mem_range.mp hj
      have := hc j (by omega)
      refine ⟨by show (0 : Int) ≤ (j : Int) ∧ (j : Int) < (n : Int); omega, ⟨by simp, fun x hx => ?_, by simp⟩, by simp⟩
      rw [List.mem_singleton.mp hx]; exact this
    · rw [List.mem_singleton.mp z]
      refine ⟨by show (0 : Int) ≤ (k : Int) ∧ (k : Int) < (n : Int); omega, ⟨?_, fun x hx => ?_, ?_⟩, rgI_lt _ _⟩
      · intro e
        have : c.getD k 0 + 1 ∈ rgI (c.getD k 0 + 1) 8 := rgI_mem.mpr ⟨by omega, h8⟩
        have e2 : rgI (c.getD k 0 + 1) 8 = [] := e
        rw [e2] at this; cases this
      · have := rgI_mem.mp hx; omega
      · show (rgI _ _).length ≤ _
        rw [rgI_len]; omega
  · rw [hiP_keys]
    unfold List.Nodup
    rw [List.pairwise_map]
    exact List.nodup_range.imp fun {x y} h e => h (by omega)
  · unfold hiP; simp; omega
theorem fits_hi {c d : List Int} {k : Nat} (hd : d.getD k 0 < 8) : Fits (hiP c k (rgI (c.getD k 0 + 1) 8)) d ↔ (∀ j, j < k → c.getD j 0 = d.getD j 0) ∧ c.getD k 0 < d.getD k 0 := by
  unfold Fits hiP
  constructor
  · intro h
    refine ⟨fun j hj => ?_, ?_⟩
    · have := h ((j : Int), [c.getD j 0]) (List.mem_append_left _ (List.mem_map.mpr ⟨j, List.mem_range.mpr hj, rfl⟩))
      have := List.mem_singleton.mp this
      rw [Int.toNat_natCast] at this
      exact this.symm
    · have := h ((k : Int), rgI (c.getD k 0 + 1) 8) (List.mem_append_right _ (by simp))
      have := rgI_mem.mp this
      rw [Int.toNat_natCast] at this
      omega
  · rintro ⟨h1, h2⟩ q hq
    rcases List.mem_append.mp hq with z | z
    · obtain ⟨j, hj, rfl⟩ := List.mem_map.mp z
      show d.getD ((j : Int)).toNat 0 ∈ [c.getD j 0]
      rw [Int.toNat_natCast, h1 j (List.mem_range.mp hj)]; simp
    · rw [List.mem_singleton.mp z]
      show d.getD ((k : Int)).toNat 0 ∈ rgI _ _
      rw [Int.toNat_natCast]
      exact rgI_mem.mpr ⟨by omega, hd⟩
/-- nothing stands behind c that differs first at cell k or later -/
def Clear (p : Pl) (pat : Pat) (c : List Int) (k : Nat) : Prop := ∀ d, Found p d → Fits pat d → ∀ m, k ≤ m → m < p.base.length → ¬ ((∀ j, j < m → c.getD j 0 = d.getD j 0) ∧ c.getD m 0 < d.getD m 0)
theorem Clear.none {p : Pl} {pat : Pat} {c : List Int} {r : Option (List Int)} (hl : c.length = p.base.length) (h : Clear p pat c 0) (N : NextOf p pat (some c) r) : r = .none := by
  cases r with
  | none => rfl
  | some r =>
    obtain ⟨h1, h2, ⟨m, hm, e, l⟩, _⟩ := N
    exact absurd ⟨e, l⟩ (h r h1 h2 m (Nat.zero_le _) (by omega))
theorem next_hit {p : Pl} (S : Small p) {pat m : Pat} {c : List Int} {k : Nat} {r : Option (List Int)} (hp : GoodPat p.base.length pat) (hl : c.length = p.base.length) (hc : ∀ j, j < p.base.length → 0 ≤ c.getD j 0 ∧ c.getD j 0 < 8) (hk : k < p.base.length) (h8 : c.getD k 0 + 1 < 8)
    (C : Clear p pat c (k + 1)) (N : NextOf p pat (some c) r) (hm : metR pat (hiP c k (rgI (c.getD k 0 + 1) 8)) = some m) (hcan : canB p (some m) = true) : ∃ r0, r = some r0 ∧ LeastAt p m r0 := by
  have ho := goodHi S.n24 hc hk h8
  rw [← hm] at hcan
  obtain ⟨d, h1, h2, h3⟩ := (can_met S hp ho).mp hcan
  obtain ⟨e1, l1⟩ := (fits_hi (S.at_ h1 hk).2).mp h3
  have hd : lexLt c d := ⟨k, by omega, e1, l1⟩
  cases r with
  | none => exact absurd hd (N d h1 h2)
  | some r =>
    obtain ⟨n1, n2, ⟨a, ha, e2, l2⟩, n4⟩ := N
    refine ⟨r, rfl, n1, ?_, fun d' f1 f2 => ?_⟩
    · obtain ⟨rfl, _⟩ := metR_some hm
      refine (fits_met hp.2.1 ho.2.1 r).mpr ⟨n2, (fits_hi (S.at_ n1 hk).2).mpr ?_⟩
      have hak : a ≤ k := by
        apply Classical.byContradiction
        intro z
        exact C r n1 n2 a (by omega) (by omega) ⟨e2, l2⟩
      by_cases z : a = k
      · rw [← z]; exact ⟨e2, l2⟩
      · have hlt : a < k := by omega
        have hda := e1 a hlt
        rcases n4 d h1 h2 hd with e | ⟨b, hb, e3, l3⟩
        · rw [e] at hda; omega
        · rcases Nat.lt_trichotomy b a with y | y | y
          · have := e2 b y; have := e1 b (by omega); omega
          · subst y; omega
          · have := e3 a y; omega
    · obtain ⟨rfl, _⟩ := metR_some hm
      obtain ⟨f3, f4⟩ := (fits_met hp.2.1 ho.2.1 d').mp f2
      obtain ⟨e3, l3⟩ := (fits_hi (S.at_ f1 hk).2).mp f4
      exact n4 d' f1 f3 ⟨k, by omega, e3, l3⟩
theorem next_miss {p : Pl} (S : Small p) {pat : Pat} {c : List Int} {k : Nat} (hp : GoodPat p.base.length pat) (hc : ∀ j, j < p.base.length → 0 ≤ c.getD j 0 ∧ c.getD j 0 < 8) (hk : k < p.base.length)
    (C : Clear p pat c (k + 1)) (h : c.getD k 0 + 1 < 8 → canB p (metR pat (hiP c k (rgI (c.getD k 0 + 1) 8))) = false) : Clear p pat c k := by
  intro d h1 h2 m hkm hm hz
  by_cases e : m = k
  · subst e
    have hd := S.at_ h1 hm
    have h8 : c.getD m 0 + 1 < 8 := by omega
    have := h h8
    rw [(can_met S hp (goodHi S.n24 hc hk h8)).mpr ⟨d, h1, h2, (fits_hi hd.2).mpr hz⟩] at this
    cases this
  · exact C d h1 h2 m (by omega) hm hz
/-- all contents that fit, ascending -/
structure AllOf (p : Pl) (pat : Pat) (l : List (List Int)) : Prop where
  asc : l.Pairwise lexLt
  mem : ∀ d, d ∈ l ↔ Found p d ∧ Fits pat d
theorem AllOf.next {p : Pl} {pat : Pat} {l : List (List Int)} (A : AllOf p pat l) {i : Nat} {co : Option (List Int)} (hi : (i = 0 ∧ co = none) ∨ ∃ j, i = j + 1 ∧ ∃ c, co = some c ∧ l[j]? = some c) : NextOf p pat co l[i]? := by
  have key : ∀ d, Found p d → Fits pat d → After co d → ∃ m, i ≤ m ∧ l[m]? = some d := fun d h1 h2 h3 => by
    obtain ⟨m, hm, e⟩ := List.getElem_of_mem ((A.mem d).mpr ⟨h1, h2⟩)
    refine ⟨m, ?_, by rw [List.getElem?_eq_getElem hm, e]⟩
    rcases hi with ⟨rfl, _⟩ | ⟨j, rfl, c, rfl, hj⟩
    · exact Nat.zero_le _
    · apply Classical.byContradiction
      intro z
      obtain ⟨hj', e2⟩ := List.getElem?_eq_some_iff.mp hj
      have hl : c.length = d.length := by
        rw [found_len h1, found_len ((A.mem c).mp (List.mem_of_getElem? hj)).1]
      by_cases y : m = j
      · subst y
        have : c = d := by rw [← e, ← e2]
        rw [this] at h3
        exact lexLt_irrefl _ h3
      · have := List.pairwise_iff_getElem.mp A.asc m j hm hj' (by omega)
        rw [e, e2] at this
        exact lexLt_irrefl _ (lexLt_trans hl h3 this)
  cases e : l[i]? with
  | none =>
    intro d h1 h2 h3
    obtain ⟨m, hm, e2⟩ := key d h1 h2 h3
    have := List.getElem?_eq_none_iff.mp e
    obtain ⟨hm2, _⟩ := List.getElem?_eq_some_iff.mp e2
    omega
  | some r =>
    obtain ⟨hil, e2⟩ := List.getElem?_eq_some_iff.mp e
    have hr := (A.mem r).mp (List.mem_of_getElem? e)
    refine ⟨hr.1, hr.2, ?_, fun d h1 h2 h3 => ?_⟩
    · rcases hi with ⟨rfl, rfl⟩ | ⟨j, rfl, c, rfl, hj⟩
      · trivial
      · obtain ⟨hj', e3⟩ := List.getElem?_eq_some_iff.mp hj
        have := List.pairwise_iff_getElem.mp A.asc j (j + 1) hj' hil (by omega)
        rwa [e3, e2] at this
    · obtain ⟨m, hm, e3⟩ := key d h1 h2 h3
      obtain ⟨hm2, e4⟩ := List.getElem?_eq_some_iff.mp e3
      by_cases y : m = i
      · subst y; left; rw [← e4, ← e2]
      · right
        have := List.pairwise_iff_getElem.mp A.asc i m hil hm2 (by omega)
        rwa [e2, e4] at this
end Af
set_option Elab.async false
set_option linter.all false
set_option maxRecDepth 100000
set_option pp.maxSteps 400
set_option maxHeartbeats 2000000
/-! ### afterfall.contents -/
namespace Af
open PySem L2
def contD : Option (List Int) → D
  | none => .non
  | some c => .tup (dints c)
/-- a plan that the walks below take -/
structure Sm (p : PIn) : Prop where
  good : p.Good
  small : Small p.pl
def R_no_claims (xs : List D) (cs : Cs) (y : D) (cs' : Cs) : Prop := xs = [] ∧ cs = [] ∧ y = noC ∧ cs' = []
def R_can_be (C : Addr) (xs : List D) (cs : Cs) (y : D) (cs' : Cs) : Prop := ∃ (p : PIn) (o : Option Pat), Sm p ∧ (∀ q, o = some q → GoodPat p.b.length q) ∧ xs = [planD C p, optPat o, noC] ∧ cs = [] ∧ y = .bl (canB p.pl o) ∧ cs' = []
def R_with_least (C : Addr) (xs : List D) (cs : Cs) (y : D) (cs' : Cs) : Prop := ∃ (p : PIn) (pat : Pat) (c : Int), Sm p ∧ GoodPat p.b.length pat ∧ (0 ≤ c ∧ c < (p.b.length : Int)) ∧ xs = [planD C p, .dic (patD pat), noC, .int c] ∧ cs = [] ∧ y = optPat (wl p.pl pat c) ∧ cs' = []
def R_least_content (C : Addr) (xs : List D) (cs : Cs) (y : D) (cs' : Cs) : Prop := ∃ (p : PIn) (pat : Pat) (c : List Int), Sm p ∧ GoodPat p.b.length pat ∧ LeastAt p.pl pat c ∧ xs = [planD C p, .dic (patD pat), noC] ∧ cs = [] ∧ y = .tup (dints c) ∧ cs' = []
def InW (n : Nat) (c : List Int) : Prop := c.length = n ∧ ∀ x ∈ c, 0 ≤ x ∧ x < 8
def R_content_next (C : Addr) (xs : List D) (cs : Cs) (y : D) (cs' : Cs) : Prop := ∃ (p : PIn) (pat : Pat) (co r : Option (List Int)), Sm p ∧ GoodPat p.b.length pat ∧ (∀ c, co = some c → InW p.b.length c) ∧ NextOf p.pl pat co r ∧ xs = [planD C p, .dic (patD pat), noC, contD co] ∧ cs = [] ∧ y = contD r ∧ cs' = []
def R_first_contents (C : Addr) (xs : List D) (cs : Cs) (y : D) (cs' : Cs) : Prop := ∃ (p : PIn) (pat : Pat) (l : List (List Int)) (m : Int), Sm p ∧ GoodPat p.b.length pat ∧ AllOf p.pl pat l ∧ (l.length : Int) < m ∧ m ≤ 99 ∧ xs = [planD C p, .dic (patD pat), noC, .int m] ∧ cs = [] ∧ y = .lst (dtups l) ∧ cs' = []
def R_next_content (C : Addr) (xs : List D) (cs : Cs) (y : D) (cs' : Cs) : Prop := ∃ (p : PIn) (pat : Pat) (co r : Option (List Int)), Sm p ∧ GoodPat p.b.length pat ∧ (∀ c, co = some c → InW p.b.length c) ∧ NextOf p.pl pat co r ∧ xs = [planD C p, .dic (patD pat), contD co] ∧ cs = [] ∧ y = contD r ∧ cs' = []
def R_contents (C : Addr) (xs : List D) (cs : Cs) (y : D) (cs' : Cs) : Prop := ∃ (p : PIn) (pat : Pat) (l : List (List Int)) (m : Int), Sm p ∧ GoodPat p.b.length pat ∧ AllOf p.pl pat l ∧ (l.length : Int) < m ∧ m ≤ 99 ∧ xs = [planD C p, .dic (patD pat), .int m] ∧ cs = [] ∧ y = .lst (dtups l) ∧ cs' = []
theorem GoodPat.ok {n : Nat} {p : Pat} (h : GoodPat n p) : OkPat p := ⟨h.2.1, h.2.2, fun q hq => by have := (h.1 q hq).2.1.2.2; omega⟩
theorem Sm.n24 {p : PIn} (h : Sm p) : p.b.length ≤ 24 := h.small.n24
theorem InW.at_ {n : Nat} {c : List Int} (h : InW n c) : ∀ j, j < n → 0 ≤ c.getD j 0 ∧ c.getD j 0 < 8 := fun j hj => by
  have hl := h.1
  have e : c.getD j 0 = c[j]'(by omega) := by rw [List.getD_eq_getElem?_getD, List.getElem?_eq_getElem (by omega)]; rfl
  rw [e]
  exact h.2 _ (List.getElem_mem _)
theorem ints_at {c : List Int} {j : Nat} (h : j < c.length) : L2.atI (dints c) (j : Int) = some (.int (c.getD j 0)) := by
  have h' : j < (dints c).length := by rw [dints_len]; exact h
  rw [atI_nat h']
  have e : c.getD j 0 = c[j] := by rw [List.getD_eq_getElem?_getD, List.getElem?_eq_getElem h]; rfl
  rw [e]
  exact congrArg some (List.getElem_map D.int)
theorem rng0_map (n : Nat) : rng 0 n = (List.range n).map fun (i : Nat) => .int (i : Int) := by
  unfold rng
  exact List.map_congr_left fun i _ => by simp
theorem getD_map {c : List Int} {n : Nat} (h : c.length = n) : ((List.range n).map fun i => c.getD i 0) = c := by
  apply List.ext_getElem (by simp [h])
  intro i h1 h2
  simp [List.getD_eq_getElem?_getD, h2]
section
variable {P : Program} {w : World} {K : PySem.W.Frag} {mg : Str → Option Value} {base : Heap} {f : Addr} {fd : FuncData} {CP : Addr}
theorem sc59 : FnScope [] [] (defScope (top 59)) := ⟨rfl, rfl, rfl, by decide +kernel, rfl, by decide +kernel, by decide +kernel⟩
theorem ok_no_claims (F : Fun K "no_claims" "no_claims" (top 59) f fd) : FnOk P w K mg base CX0 1 f fd [] (spM true R_no_claims) := by
  refine fn_okM F sc59 (by rintro _ _ _ _ ⟨rfl, _⟩; rfl) fun lk cdv A outer s H E xs cs y cs' hlk hr hR => ?_
  obtain ⟨rfl, rfl, rfl, rfl⟩ := hR
  exact sf_cons (s_ret (ev_tup (ea_cons (ev_lst ea_nil) (ea_cons (ev_lst ea_nil) (ea_cons (ev_lst ea_nil) ea_nil)))) ⟨rfl, rfl⟩)
abbrev N60 : List Str := ["plan", "pattern", "claims"]
theorem sc60 : FnScope N60 ["plan", "pattern", "claims"] (defScope (top 60)) := ⟨rfl, rfl, rfl, by decide +kernel, rfl, by decide +kernel, by decide +kernel⟩
theorem ok_can_be (F : Fun K "can_be" "can_be" (top 60) f fd) (c_sought : Cal P w K mg base 11 "sought" (spM false (R_sought CP))) : FnOk P w K mg base CX0 12 f fd ["plan", "pattern", "claims"] (spM false (R_can_be CP)) := by
  refine fn_okM F sc60 (by rintro _ _ _ _ ⟨p, o, _, _, rfl, _⟩; rfl) fun lk cdv A outer s H E xs cs y cs' hlk hr hR => ?_
  obtain ⟨p, o, S, ho, rfl, rfl, rfl, rfl⟩ := hR
  cases o with
  | none => exact sf_cons (s_ret (ev_andF (ev_cmp (x := .non) (z := .bl false) (ev_v 1 rfl) ev_non od_isnot)) ⟨rfl, rfl⟩)
  | some q =>
    refine sf_cons (s_ret (EvM.cast (ev_andT (ev_cmp (x := .dic (patD q)) (z := .bl true) (ev_v 1 rfl) ev_non od_isnot) (ev_one (ev_cmp (ev_callP c_sought hr (by decide) (ea_cons (ev_v 0 rfl) (ea_cons (ev_v 1 rfl) (ea_cons (ev_v 2 rfl) ea_nil))) ⟨p, q, (ho q rfl).pk S.good S.small.wf, rfl, rfl, rfl, rfl⟩ hlk) ev_non od_isnot))) ?_) ⟨rfl, rfl⟩)
    show D.bl (!(soughtD (sought p.pl q)).isNon) = .bl (sought p.pl q).isSome
    cases sought p.pl q with
    | none => rfl
    | some F => rfl
abbrev N61 : List Str := ["plan", "pattern", "claims", "cell", "worth", "choice"]
theorem sc61 : FnScope N61 ["plan", "pattern", "claims", "cell"] (defScope (top 61)) := ⟨rfl, rfl, rfl, by decide +kernel, rfl, by decide +kernel, by decide +kernel⟩
theorem ok_with_least (T : Txt K mg) (F : Fun K "with_least" "with_least" (top 61) f fd) (c_met_by_both : Cal P w K mg base 1 "met_by_both" (spM false R_met_by_both)) (c_can_be : Cal P w K mg base 12 "can_be" (spM false (R_can_be CP))) : FnOk P w K mg base CX0 13 f fd ["plan", "pattern", "claims", "cell"] (spM false (R_with_least CP)) := by
  refine fn_okM F sc61 (by rintro _ _ _ _ ⟨p, pat, c, _, _, _, rfl, _⟩; rfl) fun lk cdv A outer s H E xs cs y cs' hlk hr hR => ?_
  obtain ⟨p, pat, c, S, hp, hc, rfl, rfl, rfl, rfl⟩ := hR
  obtain rfl := lk_nil hlk
  have nd : N61.Nodup := nd_of (by decide +kernel)
  refine sf_cons (s_for (G := fun _ => True) (vs := [4]) (ei_range1 T.zrange (ev_glob' T.mWORTHS) (by omega)) (fun k ds' cs' => cs' = [] ∧ (∀ v, v < k → nar p.pl pat c (v : Nat) = none) ∧ ∃ v4 v5, ds' = [some (planD CP p), some (.dic (patD pat)), some noC, some (.int c), v4, v5]) ⟨rfl, fun v hv => by omega, _, _, rfl⟩ (fun _ _ _ _ => trivial) ?step ?fin)
  case step =>
    rintro k x ds' cs' hx ⟨rfl, h0, v4, v5, rfl⟩
    obtain ⟨hk, rfl⟩ := rng_get hx
    have hk8 : k < 8 := by simpa using hk
    have e0 : (0 : Int) + (k : Int) = (k : Int) := by omega
    rw [e0]
    have ho : GoodPat p.b.length [(c, [(k : Int)])] := goodOne hc (by omega)
    refine ⟨_, tg_name 4 nd, ?_⟩
    refine sf_cons (s_set 5 nd (ev_callP c_met_by_both hr (by decide) (ea_cons (ev_v 1 rfl) (ea_cons (EvM.cast (y := .dic (patD [(c, [(k : Int)])])) (ev_disp1 (fun _ => ev_v 3 rfl) (fun _ => ev_tup (ea_cons (ev_v 4 rfl) ea_nil) (by simp))) rfl) ea_nil)) ⟨pat, [(c, [(k : Int)])], hp.ok, ho.ok, rfl, rfl, rfl, rfl⟩ hlk) ?_)
    refine sf_cons (s_if (cs1 := []) (et_val (ev_callP c_can_be hr (by decide) (ea_cons (ev_v 0 rfl) (ea_cons (ev_v 5 rfl) (ea_cons (ev_v 2 rfl) ea_nil))) ⟨p, metR pat [(c, [(k : Int)])], S, fun q hq => hp.met S.n24 ho hq, rfl, rfl, rfl, rfl⟩ hlk)) (fun hb => ?_) fun hb => ?_)
    · refine sf_cons (s_ret (EvM.cast (ev_v 5 rfl) ?_) ⟨rfl, rfl⟩)
      have hn : nar p.pl pat c (k : Int) = metR pat [(c, [(k : Int)])] := by unfold nar; rw [if_pos hb]
      cases e : metR pat [(c, [(k : Int)])] with
      | none => rw [e] at hb; cases hb
      | some m => rw [e] at hn; rw [show wl p.pl pat c = some m from find_at hk8 h0 hn]
    · refine sf_nil (sf_nil ⟨rfl, fun v hv => ?_, _, _, rfl⟩)
      by_cases e : v = k
      · subst e; unfold nar; rw [if_neg (by rw [hb]; simp)]
      · exact h0 v (by omega)
  case fin =>
    rintro ds' cs' ⟨rfl, h0, v4, v5, rfl⟩
    rw [show wl p.pl pat c = none from List.findSome?_eq_none_iff.mpr fun v hv => h0 v (by rw [rng_len]; simpa using List.mem_range.mp hv)]
    exact sf_cons (s_ret ev_non ⟨rfl, rfl⟩)
abbrev N62 : List Str := ["plan", "pattern", "claims", "cell"]
theorem sc62 : FnScope N62 ["plan", "pattern", "claims"] (defScope (top 62)) := ⟨rfl, rfl, rfl, by decide +kernel, rfl, by decide +kernel, by decide +kernel⟩
theorem ok_least_content (T : Txt K mg) (F : Fun K "least_content" "least_content" (top 62) f fd) (p_base : Prp P w K mg base 1 CP "base" (spM true (R_base CP))) (c_with_least : Cal P w K mg base 13 "with_least" (spM false (R_with_least CP))) : FnOk P w K mg base CX0 14 f fd ["plan", "pattern", "claims"] (spM false (R_least_content CP)) := by
  refine fn_okM F sc62 (by rintro _ _ _ _ ⟨p, pat, c, _, _, _, rfl, _⟩; rfl) fun lk cdv A outer s H E xs cs y cs' hlk hr hR => ?_
  obtain ⟨p, pat, c, S, hp, L, rfl, rfl, rfl, rfl⟩ := hR
  obtain rfl := lk_nil hlk
  have nd : N62.Nodup := nd_of (by decide +kernel)
  have hu := hr.units
  have hu1 : (bcx P w K mg base N62 "least_content" (top 62) f cdv A outer s H E).A.units + 1 < cLine := by omega
  have hn := S.n24
  have hcl : c.length = p.b.length := found_len L.found
  refine sf_cons (s_for (G := fun _ => True) (vs := [3]) (ei_range1 T.zrange (ev_callB (ea_cons (ev_prop p_base hr (by decide) (ev_v 0 rfl) ⟨p, rfl, rfl, rfl, rfl⟩ (.inl rfl)) ea_nil) cd_lenU T.zlen b_len) (by rw [dints_len]; omega)) (fun k ds' cs' => cs' = [] ∧ ∃ Pk v3, Upto p.pl pat c k Pk ∧ ds' = [some (planD CP p), some (.dic (patD Pk)), some noC, v3]) ⟨rfl, pat, _, .zero hp, rfl⟩ (fun _ _ _ _ => trivial) ?step ?fin)
  case step =>
    rintro k x ds' cs' hx ⟨rfl, Pk, v3, U, rfl⟩
    obtain ⟨hk, rfl⟩ := rng_get hx
    rw [dints_len] at hk
    have hk' : k < p.b.length := by omega
    have e0 : (0 : Int) + (k : Int) = (k : Int) := by omega
    rw [e0]
    obtain ⟨P', hw, U'⟩ := U.step S.small L hk'
    refine ⟨_, tg_name 3 nd, ?_⟩
    refine sf_cons (s_set 1 nd (x := .dic (patD P')) (EvM.cast (ev_callP c_with_least hr (by decide) (ea_cons (ev_v 0 rfl) (ea_cons (ev_v 1 rfl) (ea_cons (ev_v 2 rfl) (ea_cons (ev_v 3 rfl) ea_nil)))) ⟨p, Pk, (k : Int), S, U.good, by omega, rfl, rfl, rfl, rfl⟩ hlk) (by rw [hw]; rfl)) ?_)
    exact sf_nil ⟨rfl, P', _, U', rfl⟩
  case fin =>
    rintro ds' cs' ⟨rfl, Pk, v3, U, rfl⟩
    rw [rng_len, dints_len] at U
    refine sf_cons (s_ret (EvM.cast (ev_callTy (ea_cons (ev_mapG (own := [("cell", 3)]) (List.range p.b.length) (fun (i : Nat) => .int (i : Int)) (fun i => .int (c.getD i 0)) nd (blk (top 62) N62 rfl rfl) (ei_range1 T.zrange (ev_callB (ea_cons (ev_prop p_base hr (by decide) (ev_v 0 rfl) ⟨p, rfl, rfl, rfl, rfl⟩ (.inl rfl)) ea_nil) cd_lenU T.zlen b_len) (by rw [dints_len]; omega)) (by rw [dints_len]; exact rng0_map _) (by simp; omega) (fun _ => trivial) fun i k hk => ?turn) ea_nil) cd_tupL T.ztuple b_tuple) ?_) ⟨rfl, rfl⟩)
    case turn =>
      have hkl : k < p.b.length := List.mem_range.mp (List.mem_of_getElem? hk)
      exact ⟨_, fun b => tg_name 3 nd, fun b => ev_ixU (ev_getK hu1 (ev_v 1 rfl) (ev_v 3 rfl) (by rw [patD_get1, U.at_ k (by simpa using hkl)]; rfl)) ev_int rfl⟩
    · have := getD_map hcl
      conv => rhs; rw [← this]
      unfold dints; rw [List.map_map]; rfl
end
end Af
set_option Elab.async false
set_option linter.all false
set_option maxRecDepth 100000
set_option pp.maxSteps 400
set_option maxHeartbeats 2000000
/-! ### afterfall.contents: the next one, the first ones -/
namespace Af
open PySem L2
theorem can_some {p : PIn} (S : Sm p) {pat : Pat} (hp : GoodPat p.b.length pat) : canB p.pl (some pat) = true ↔ ∃ d, Found p.pl d ∧ Fits pat d := sought_iff S.small.wf hp.cells
theorem loD_nodup (c : List Int) (r : Nat) : (((List.range r).map fun (j : Nat) => ((j : Int), D.tup (dints [c.getD j 0]))).map (·.1)).Nodup := by
  rw [List.map_map]
  unfold List.Nodup
  rw [List.pairwise_map]
  exact List.nodup_range.imp fun {x y} h e => h (by have e2 : (x : Int) = (y : Int) := e; omega)
theorem hiD (c : List Int) (r : Nat) (ws : List Int) : kput ((List.range r).map fun (j : Nat) => ((j : Int), D.tup (dints [c.getD j 0]))) (r : Int) (.tup (dints ws)) = patD (hiP c r ws) := by
  rw [kput_new]
  · unfold hiP patD
    rw [List.map_append, List.map_map]
    rfl
  · rw [List.map_map]
    intro h
    obtain ⟨j, hj, e⟩ := List.mem_map.mp h
    have := List.mem_range.mp hj
    have e2 : (j : Int) = (r : Int) := e
    omega
section
variable {P : Program} {w : World} {K : PySem.W.Frag} {mg : Str → Option Value} {base : Heap} {f : Addr} {fd : FuncData} {CP : Addr}
abbrev N63 : List Str := ["plan", "pattern", "claims", "content", "cell", "higher", "choice", "place"]
theorem sc63 : FnScope N63 ["plan", "pattern", "claims", "content"] (defScope (top 63)) := ⟨rfl, rfl, rfl, by decide +kernel, rfl, by decide +kernel, by decide +kernel⟩
theorem ok_content_next (T : Txt K mg) (F : Fun K "content_next" "content_next" (top 63) f fd) (c_met_by_both : Cal P w K mg base 1 "met_by_both" (spM false R_met_by_both)) (c_can_be : Cal P w K mg base 12 "can_be" (spM false (R_can_be CP))) (c_least_content : Cal P w K mg base 14 "least_content" (spM false (R_least_content CP))) : FnOk P w K mg base CX0 15 f fd ["plan", "pattern", "claims", "content"] (spM false (R_content_next CP)) := by
  refine fn_okM F sc63 (by rintro _ _ _ _ ⟨p, pat, co, r, _, _, _, _, rfl, _⟩; rfl) fun lk cdv A outer s H E xs cs y cs' hlk hr hR => ?_
  obtain ⟨p, pat, co, r, S, hp, hco, N, rfl, rfl, rfl, rfl⟩ := hR
  obtain rfl := lk_nil hlk
  have nd : N63.Nodup := nd_of (by decide +kernel)
  have hu := hr.units
  have hu1 : (bcx P w K mg base N63 "content_next" (top 63) f cdv A outer s H E).A.units + 1 < cLine := by omega
  have hn := S.n24
  have ho : ∀ q, (some pat : Option Pat) = some q → GoodPat p.b.length q := fun q e => by cases e; exact hp
  cases co with
  | none =>
    refine sf_cons (s_ifT (et_cmp (x := .non) (ev_v 3 rfl) ev_non od_is) (sf_cons (s_ret (ev_if (et_val (ev_callP c_can_be hr (by decide) (ea_cons (ev_v 0 rfl) (ea_cons (ev_v 1 rfl) (ea_cons (ev_v 2 rfl) ea_nil))) ⟨p, some pat, S, ho, rfl, rfl, rfl, rfl⟩ hlk)) (fun hb => ?t) (fun hb => ?e)) ⟨rfl, rfl⟩)))
    case t =>
      obtain ⟨d, h1, h2⟩ := (can_some S hp).mp hb
      cases r with
      | none => exact absurd trivial (N d h1 h2)
      | some r =>
        obtain ⟨n1, n2, _, n4⟩ := N
        exact ev_callP c_least_content hr (by decide) (ea_cons (ev_v 0 rfl) (ea_cons (ev_v 1 rfl) (ea_cons (ev_v 2 rfl) ea_nil))) ⟨p, pat, r, S, hp, ⟨n1, n2, fun d a b => n4 d a b trivial⟩, rfl, rfl, rfl, rfl⟩ hlk
    case e =>
      cases r with
      | none => exact ev_non
      | some r =>
        have := (can_some S hp).mpr ⟨r, N.1, N.2.1⟩
        rw [hb] at this; cases this
  | some c =>
    have ic := hco c rfl
    have hcl := ic.1
    have hcb := ic.at_
    have hpos : 1 ≤ p.b.length := by
      cases e : p.b with
      | nil => exact absurd e S.good.base.1
      | cons a l => simp
    refine sf_cons (s_ifF (et_cmp (x := .tup (dints c)) (t := false) (ev_v 3 rfl) ev_non od_is) (sf_nil ?_))
    refine sf_cons (s_for (G := fun _ => True) (vs := [4]) (ei_range3 (n := p.b.length) T.zrange (ev_op (ev_callB (ea_cons (ev_v 3 rfl) ea_nil) cd_lenU T.zlen b_len) ev_int od_sub) (ev_neg ev_int) (ev_neg ev_int) (by
        rw [dints_len, hcl]
        have := RgC.neg (i := (p.b.length : Int) - 1) (j := -1) (by omega) (by omega) (by omega) (by omega)
        have e2 : ((p.b.length : Int) - 1 - -1).toNat = p.b.length := by omega
        rwa [e2] at this))
      (fun k ds' cs' => cs' = [] ∧ Clear p.pl pat c (p.b.length - k) ∧ ∃ v4 v5 v6 v7, ds' = [some (planD CP p), some (.dic (patD pat)), some noC, some (.tup (dints c)), v4, v5, v6, v7]) ⟨rfl, fun d h1 h2 m h3 h4 => by have h4 : m < p.b.length := h4; omega, _, _, _, _, rfl⟩ (fun _ _ _ _ => trivial) ?step ?fin)
    case step =>
      rintro k x ds' cs' hx ⟨rfl, C, v4, v5, v6, v7, rfl⟩
      obtain ⟨hk, rfl⟩ := rngC_get hx
      obtain ⟨rr, hrr⟩ : ∃ rr, rr = p.b.length - 1 - k := ⟨_, rfl⟩
      have e0 : ((dints c).length : Int) - 1 + (k : Int) * (-1) = (rr : Int) := by rw [dints_len, hcl]; omega
      rw [e0]
      have hrl : rr < p.b.length := by omega
      rw [show p.b.length - k = rr + 1 by omega] at C
      rw [show p.b.length - (k + 1) = rr by omega]
      have hat : L2.atI (dints c) (rr : Int) = some (.int (c.getD rr 0)) := ints_at (by omega)
      refine ⟨_, tg_name 4 nd, ?_⟩
      refine sf_cons (s_setDc (own := [("place", 7)]) 5 nd (blk (top 63) N63 rfl rfl) (ei_range1 T.zrange (ev_v 4 rfl) (by omega)) ((List.range rr).map fun (j : Nat) => ((j : Int), D.tup (dints [c.getD j 0]))) (by rw [rng_len]; simp) (fun _ => trivial) (by rw [rng_len]; omega) (fun j x q hx hq => ?turn) fun a => ?_)
      case turn =>
        obtain ⟨hj, rfl⟩ := rng_get hx
        have hj' : j < rr := by omega
        have e1 : (0 : Int) + (j : Int) = (j : Int) := by omega
        rw [e1]
        have hq' : q = ((j : Int), D.tup (dints [c.getD j 0])) := by
          rw [List.getElem?_map, List.getElem?_range hj'] at hq
          exact (Option.some.inj hq).symm
        rw [hq']
        exact ⟨_, fun b => tg_name 7 nd, fun b => ev_v 7 rfl, fun b => ev_tup (ea_cons (ev_ixU (ev_v 3 rfl) (ev_v 7 rfl) (ints_at (by omega))) ea_nil) (by rw [dints_len]; simp)⟩
      rw [kputs_nodup _ (loD_nodup c rr)]
      refine sf_cons (s_if (cs1 := [] ++ [(a, _)]) (et_cmp (ev_op (ev_ixU (ev_v 3 rfl) (ev_v 4 rfl) hat) ev_int od_add) (ev_glob' T.mWORTHS) od_lt) (fun hb => ?_) fun hb => ?_)
      · have h8 : c.getD rr 0 + 1 < 8 := of_decide_eq_true hb
        have hh := hcb rr hrl
        have ho2 : GoodPat p.b.length (hiP c rr (rgI (c.getD rr 0 + 1) 8)) := goodHi S.n24 hcb hrl h8
        refine sf_cons (s_dput 0 hu1 (ev_tupRg (ev_op (ev_ixU (ev_v 3 rfl) (ev_v 4 rfl) hat) ev_int od_add) (ev_glob' T.mWORTHS) (by omega) (by omega) T.ztuple T.zrange) (ev_v 5 rfl) (ev_v 4 rfl) rfl (by simp; omega) ?_)
        rw [hiD]
        refine SF.freezeK 5 0 rfl rfl ?_
        refine sf_cons (s_set 6 nd (cs1 := []) (x := optPat (metR pat (hiP c rr (rgI (c.getD rr 0 + 1) 8)))) (ev_callP c_met_by_both hr (by decide) (ea_cons (ev_v 1 rfl) (ea_cons (ev_v 5 rfl) ea_nil)) ⟨pat, _, hp.ok, ho2.ok, rfl, rfl, rfl, rfl⟩ hlk) ?_)
        refine sf_cons (s_if (cs1 := []) (et_val (ev_callP c_can_be hr (by decide) (ea_cons (ev_v 0 rfl) (ea_cons (ev_v 6 rfl) (ea_cons (ev_v 2 rfl) ea_nil))) ⟨p, metR pat (hiP c rr (rgI (c.getD rr 0 + 1) 8)), S, fun q hq => hp.met S.n24 ho2 hq, rfl, rfl, rfl, rfl⟩ hlk)) (fun hb2 => ?_) fun hb2 => ?_)
        · cases e : metR pat (hiP c rr (rgI (c.getD rr 0 + 1) 8)) with
          | none => rw [e] at hb2; cases hb2
          | some m =>
            rw [e] at hb2
            obtain ⟨r0, rfl, L⟩ := next_hit S.small hp hcl hcb hrl h8 C N e hb2
            exact sf_cons (s_ret (ev_callP c_least_content hr (by decide) (ea_cons (ev_v 0 rfl) (ea_cons (x := .dic (patD m)) (ev_v 6 rfl) (ea_cons (ev_v 2 rfl) ea_nil))) ⟨p, m, r0, S, hp.met S.n24 ho2 e, L, rfl, rfl, rfl, rfl⟩ hlk) ⟨rfl, rfl⟩)
        · exact sf_nil (sf_nil (sf_nil ⟨rfl, next_miss S.small hp hcb hrl C fun _ => hb2, _, _, _, _, rfl⟩))
      · refine sf_nil (SF.drop 0 rfl (sf_nil ⟨rfl, next_miss S.small hp hcb hrl C fun h => ?_, _, _, _, _, rfl⟩))
        exact absurd h (of_decide_eq_false hb)
    case fin =>
      rintro ds' cs' ⟨rfl, C, v4, v5, v6, v7, rfl⟩
      rw [rngC_len, Nat.sub_self] at C
      rw [C.none hcl N]
      exact sf_cons (s_ret ev_non ⟨rfl, rfl⟩)
abbrev N64 : List Str := ["plan", "pattern", "claims", "most", "found", "content"]
theorem sc64 : FnScope N64 ["plan", "pattern", "claims", "most"] (defScope (top 64)) := ⟨rfl, rfl, rfl, by decide +kernel, rfl, by decide +kernel, by decide +kernel⟩
theorem AllOf.inw {p : PIn} (S : Sm p) {pat : Pat} {l : List (List Int)} (A : AllOf p.pl pat l) {c : List Int} (h : c ∈ l) : InW p.b.length c := ⟨found_len ((A.mem c).mp h).1, S.small.wd c ((A.mem c).mp h).1⟩
/-- the one before -/
def bef (l : List (List Int)) : Nat → Option (List Int)
  | 0 => none
  | i + 1 => l[i]?
theorem AllOf.bef {p : Pl} {pat : Pat} {l : List (List Int)} (A : AllOf p pat l) {i : Nat} (hi : i ≤ l.length) : NextOf p pat (bef l i) l[i]? := by
  refine A.next ?_
  cases i with
  | zero => exact .inl ⟨rfl, rfl⟩
  | succ j =>
    have hj : j < l.length := by omega
    exact .inr ⟨j, rfl, l[j], by show l[j]? = _; simp [hj], by simp [hj]⟩
theorem bef_mem {l : List (List Int)} {i : Nat} {c : List Int} (h : bef l i = some c) : c ∈ l := by
  cases i with
  | zero => cases h
  | succ j => exact List.mem_of_getElem? h
theorem dtups_len (l : List (List Int)) : (dtups l).length = l.length := by simp [dtups]
theorem ok_first_contents (T : Txt K mg) (F : Fun K "first_contents" "first_contents" (top 64) f fd) (c_content_next : Cal P w K mg base 15 "content_next" (spM false (R_content_next CP))) : FnOk P w K mg base CX0 16 f fd ["plan", "pattern", "claims", "most"] (spM false (R_first_contents CP)) := by
  refine fn_okM F sc64 (by rintro _ _ _ _ ⟨p, pat, l, m, _, _, _, _, _, rfl, _⟩; rfl) fun lk cdv A outer s H E xs cs y cs' hlk hr hR => ?_
  obtain ⟨p, pat, l, m, S, hp, A, hm, hm2, rfl, rfl, rfl, rfl⟩ := hR
  obtain rfl := lk_nil hlk
  have nd : N64.Nodup := nd_of (by decide +kernel)
  refine sf_cons (s_setP 4 nd (ep_lst ea_nil) fun x cs1 hx => ?_)
  obtain ⟨a, rfl, rfl⟩ := hx
  refine sf_cons (s_set 5 nd (cs1 := [] ++ [(a, .lst [])]) ev_non ?_)
  refine sf_cons (s_while (fun k ds' cs' => ∃ i, k = l.length - i ∧ i ≤ l.length ∧ cs' = [(a, .lst (dtups (l.take i)))] ∧ ds' = [some (planD CP p), some (.dic (patD pat)), some noC, some (.int m), some (.ptr a), some (contD (bef l i))]) l.length ⟨0, rfl, Nat.zero_le _, rfl, rfl⟩ ?_)
  rintro k ds' cs' ⟨i, rfl, hi, rfl, rfl⟩
  refine ⟨true, [(a, .lst (dtups (l.take i)))], EvT.cast (et_cmp (ev_callB (ea_cons (ev_v 4 rfl) ea_nil) (cd_lenC 0 rfl) T.zlen b_len) (ev_v 3 rfl) od_lt) (by rw [dtups_len, List.length_take]; exact decide_eq_true (by omega)), fun _ => ?_, fun h => by cases h⟩
  refine sf_cons (s_set 5 nd (cs1 := [(a, .lst (dtups (l.take i)))]) (x := contD l[i]?) (ev_callP c_content_next hr (by decide) (ea_cons (ev_v 0 rfl) (ea_cons (ev_v 1 rfl) (ea_cons (ev_v 2 rfl) (ea_cons (ev_v 5 rfl) ea_nil)))) ⟨p, pat, bef l i, l[i]?, S, hp, fun c hc => A.inw S (bef_mem hc), A.bef hi, rfl, rfl, rfl, rfl⟩ hlk) ?_)
  by_cases hlt : i < l.length
  · have e : l[i]? = some l[i] := by simp [hlt]
    rw [e]
    refine sf_cons (s_ifF (et_cmp (x := .tup (dints l[i])) (t := false) (ev_v 5 rfl) ev_non od_is) (sf_nil ?_))
    refine sf_cons (s_expr (ev_append 0 (ev_v 4 rfl) rfl (x := .tup (dints l[i])) (ev_v 5 rfl) rfl (by rw [dtups_len, List.length_take]; omega)) (sf_nil ?_))
    refine ⟨l.length - (i + 1), by omega, i + 1, rfl, hlt, ?_, ?_⟩
    · have e2 : l.take (i + 1) = l.take i ++ [l[i]] := by rw [List.take_add_one, e]; rfl
      rw [e2]
      unfold dtups
      rw [List.map_append]; rfl
    · show _ = [_, _, _, _, _, some (contD l[i]?)]
      rw [e]; rfl
  · have e : l[i]? = none := List.getElem?_eq_none (by omega)
    rw [e]
    have hil : i = l.length := by omega
    refine sf_cons (s_ifT (et_cmp (x := .non) (ev_v 5 rfl) ev_non od_is) (SF.freezeL 4 0 rfl rfl (sf_cons (s_ret (EvM.cast (ev_v 4 rfl) ?_) ⟨rfl, rfl⟩))))
    rw [hil, List.take_length]
end
end Af
set_option Elab.async false
set_option linter.all false
set_option maxRecDepth 100000
set_option pp.maxSteps 400
set_option maxHeartbeats 2000000
/-! ### afterfall.contents: the two that are called; afterfall.same -/
namespace Af
open PySem L2
def ofC (c : List Int) : Pat := (List.range c.length).map fun (j : Nat) => ((j : Int), [c.getD j 0])
theorem good_nil (n : Int) : GoodPat n [] := ⟨fun q h => by simp at h, List.nodup_nil, by simp⟩
theorem fits_nil (d : List Int) : Fits [] d := fun q h => by simp at h
theorem goodC {n : Nat} {c : List Int} (hn : n ≤ 24) (h : InW n c) : GoodPat n (ofC c) := by
  have hl := h.1
  have hb := h.at_
  refine ⟨fun q hq => ?_, ?_, by unfold ofC; simp; omega⟩
  · obtain ⟨j, hj, rfl⟩ := List.mem_map.mp hq
    have hj := List.mem_range.mp hj
    have := hb j (by omega)
    refine ⟨by show (0 : Int) ≤ (j : Int) ∧ (j : Int) < (n : Int); omega, ⟨by simp, fun x hx => ?_, by simp⟩, by simp⟩
    rw [List.mem_singleton.mp hx]; exact this
  · unfold ofC
    rw [List.map_map]
    unfold List.Nodup
    rw [List.pairwise_map]
    exact List.nodup_range.imp fun {x y} h e => h (by have e2 : (x : Int) = (y : Int) := e; omega)
theorem fitsC (c : List Int) : Fits (ofC c) c := fun q hq => by
  obtain ⟨j, hj, rfl⟩ := List.mem_map.mp hq
  show c.getD ((j : Int)).toNat 0 ∈ [c.getD j 0]
  rw [Int.toNat_natCast]; simp
theorem fitsC_eq {c d : List Int} (hl : d.length = c.length) (h : Fits (ofC c) d) : d = c := ext_getD hl fun j hj => by
  have := h ((j : Int), [c.getD j 0]) (List.mem_map.mpr ⟨j, List.mem_range.mpr (by omega), rfl⟩)
  have := List.mem_singleton.mp this
  rwa [Int.toNat_natCast] at this
def R_check_cells_same (C : Addr) (xs : List D) (cs : Cs) (y : D) (cs' : Cs) : Prop := ∃ p q : PIn, p.b.length = q.b.length ∧ xs = [planD C p, planD C q] ∧ cs = [] ∧ y = .non ∧ cs' = []
def R_pattern_of (xs : List D) (cs : Cs) (y : D) (cs' : Cs) : Prop := ∃ c : List Int, c.length ≤ 24 ∧ xs = [.tup (dints c)] ∧ cs = [] ∧ y = .dic (patD (ofC c)) ∧ cs' = []
def R_only (C : Addr) (xs : List D) (cs : Cs) (y : D) (cs' : Cs) : Prop := ∃ (p q : PIn) (l : List (List Int)), Sm p ∧ Sm q ∧ p.b.length = q.b.length ∧ AllOf p.pl [] l ∧ (∀ d ∈ l, Found q.pl d) ∧ xs = [planD C p, planD C q] ∧ cs = [] ∧ y = .non ∧ cs' = []
def R_leave_the_same (C : Addr) (xs : List D) (cs : Cs) (y : D) (cs' : Cs) : Prop := ∃ (p q : PIn) (l : List (List Int)), Sm p ∧ Sm q ∧ p.b.length = q.b.length ∧ AllOf p.pl [] l ∧ AllOf q.pl [] l ∧ xs = [planD C p, planD C q] ∧ cs = [] ∧ y = .bl true ∧ cs' = []
section
variable {P : Program} {w : World} {K : PySem.W.Frag} {mg : Str → Option Value} {base : Heap} {f : Addr} {fd : FuncData} {CP : Addr}
abbrev N65 : List Str := ["plan", "pattern", "content"]
theorem sc65 : FnScope N65 ["plan", "pattern", "content"] (defScope (top 65)) := ⟨rfl, rfl, rfl, by decide +kernel, rfl, by decide +kernel, by decide +kernel⟩
theorem ok_next_content (T : Txt K mg) (F : Fun K "next_content" "next_content" (top 65) f fd) (p_base : Prp P w K mg base 1 CP "base" (spM true (R_base CP))) (c_check_pattern : Cal P w K mg base 6 "check_pattern" (spM false R_check_pattern)) (c_is_content : Cal P w K mg base 4 "is_content" (spM true R_are_worths)) (c_no_claims : Cal P w K mg base 1 "no_claims" (spM true R_no_claims)) (c_content_next : Cal P w K mg base 15 "content_next" (spM false (R_content_next CP))) :
    FnOk P w K mg base CX0 16 f fd ["plan", "pattern", "content"] (spM false (R_next_content CP)) := by
  refine fn_okM F sc65 (by rintro _ _ _ _ ⟨p, pat, co, r, _, _, _, _, rfl, _⟩; rfl) fun lk cdv A outer s H E xs cs y cs' hlk hr hR => ?_
  obtain ⟨p, pat, co, r, S, hp, hco, N, rfl, rfl, rfl, rfl⟩ := hR
  obtain rfl := lk_nil hlk
  refine sf_cons (s_expr (ev_callP c_check_pattern hr (by decide) (ea_cons (ev_callB (ea_cons (ev_prop p_base hr (by decide) (ev_v 0 rfl) ⟨p, rfl, rfl, rfl, rfl⟩ (.inl rfl)) ea_nil) cd_lenU T.zlen b_len) (ea_cons (ev_v 1 rfl) ea_nil)) ⟨p.b.length, pat, hp, by rw [dints_len], rfl, rfl, rfl⟩ hlk) ?_)
  cases co with
  | none =>
    refine sf_cons (s_ifF (et_w (ew_andF (et_cmp (x := .non) (t := false) (ev_v 2 rfl) ev_non od_isnot))) (sf_nil ?_))
    exact sf_cons (s_ret (ev_callP c_content_next hr (by decide) (ea_cons (ev_v 0 rfl) (ea_cons (ev_v 1 rfl) (ea_cons (ev_call0 c_no_claims hr (by decide) ⟨rfl, rfl, rfl, rfl⟩ (.inl rfl)) (ea_cons (ev_v 2 rfl) ea_nil)))) ⟨p, pat, none, r, S, hp, hco, N, rfl, rfl, rfl, rfl⟩ hlk) ⟨rfl, rfl⟩)
  | some c =>
    have ic := hco c rfl
    have hw : Worths c := ⟨fun e => by have := ic.1; rw [e] at this; exact S.good.base.1 (List.length_eq_zero_iff.mp this.symm), ic.2, by rw [ic.1]; exact S.n24⟩
    refine sf_cons (s_ifF (et_w (ew_andT (et_cmp (x := .tup (dints c)) (t := true) (ev_v 2 rfl) ev_non od_isnot) (ew_and1 (et_w (ew_orF (et_not (t := true) (et_val (ev_callP c_is_content hr (by decide) (ea_cons (ev_v 2 rfl) ea_nil) ⟨c, hw, rfl, rfl, rfl, rfl⟩ (.inl rfl)))) (ew_or1 (EvT.cast (et_cmp (ev_callB (ea_cons (ev_v 2 rfl) ea_nil) cd_lenU T.zlen b_len) (ev_callB (ea_cons (ev_prop p_base hr (by decide) (ev_v 0 rfl) ⟨p, rfl, rfl, rfl, rfl⟩ (.inl rfl)) ea_nil) cd_lenU T.zlen b_len) od_neI) (by rw [dints_len, dints_len, ic.1]; simp)))))))) (sf_nil ?_))
    exact sf_cons (s_ret (ev_callP c_content_next hr (by decide) (ea_cons (ev_v 0 rfl) (ea_cons (ev_v 1 rfl) (ea_cons (ev_call0 c_no_claims hr (by decide) ⟨rfl, rfl, rfl, rfl⟩ (.inl rfl)) (ea_cons (ev_v 2 rfl) ea_nil)))) ⟨p, pat, some c, r, S, hp, hco, N, rfl, rfl, rfl, rfl⟩ hlk) ⟨rfl, rfl⟩)
abbrev N66 : List Str := ["plan", "pattern", "most"]
theorem sc66 : FnScope N66 ["plan", "pattern", "most"] (defScope (top 66)) := ⟨rfl, rfl, rfl, by decide +kernel, rfl, by decide +kernel, by decide +kernel⟩
theorem ok_contents (T : Txt K mg) (F : Fun K "contents" "contents" (top 66) f fd) (p_base : Prp P w K mg base 1 CP "base" (spM true (R_base CP))) (c_check_pattern : Cal P w K mg base 6 "check_pattern" (spM false R_check_pattern)) (c_is_below : Cal P w K mg base 2 "is_below" (spM true R_is_below)) (c_no_claims : Cal P w K mg base 1 "no_claims" (spM true R_no_claims)) (c_first_contents : Cal P w K mg base 16 "first_contents" (spM false (R_first_contents CP))) :
    FnOk P w K mg base CX0 17 f fd ["plan", "pattern", "most"] (spM false (R_contents CP)) := by
  refine fn_okM F sc66 (by rintro _ _ _ _ ⟨p, pat, l, m, _, _, _, _, _, rfl, _⟩; rfl) fun lk cdv A outer s H E xs cs y cs' hlk hr hR => ?_
  obtain ⟨p, pat, l, m, S, hp, A, hm, hm2, rfl, rfl, rfl, rfl⟩ := hR
  obtain rfl := lk_nil hlk
  refine sf_cons (s_expr (ev_callP c_check_pattern hr (by decide) (ea_cons (ev_callB (ea_cons (ev_prop p_base hr (by decide) (ev_v 0 rfl) ⟨p, rfl, rfl, rfl, rfl⟩ (.inl rfl)) ea_nil) cd_lenU T.zlen b_len) (ea_cons (ev_v 1 rfl) ea_nil)) ⟨p.b.length, pat, hp, by rw [dints_len], rfl, rfl, rfl⟩ hlk) ?_)
  refine sf_cons (s_ifF (et_not (t := true) (et_val (ev_callP c_is_below hr (by decide) (ea_cons (ev_v 2 rfl) (ea_cons (ev_op (ev_glob' T.mMAX_CONTENTS) ev_int od_add) ea_nil)) ⟨m, 99 + 1, rfl, rfl, by rw [decide_eq_true]; omega, rfl⟩ (.inl rfl)))) (sf_nil ?_))
  exact sf_cons (s_ret (ev_callP c_first_contents hr (by decide) (ea_cons (ev_v 0 rfl) (ea_cons (ev_v 1 rfl) (ea_cons (ev_call0 c_no_claims hr (by decide) ⟨rfl, rfl, rfl, rfl⟩ (.inl rfl)) (ea_cons (ev_v 2 rfl) ea_nil)))) ⟨p, pat, l, m, S, hp, A, hm, hm2, rfl, rfl, rfl, rfl⟩ hlk) ⟨rfl, rfl⟩)
theorem sc68 : FnScope ["plan", "other"] ["plan", "other"] (defScope (top 68)) := ⟨rfl, rfl, rfl, by decide +kernel, rfl, by decide +kernel, by decide +kernel⟩
theorem ok_check_cells_same (T : Txt K mg) (F : Fun K "check_cells" "check_cells" (top 68) f fd) (p_base : Prp P w K mg base 1 CP "base" (spM true (R_base CP))) : FnOk P w K mg base CX0 3 f fd ["plan", "other"] (spM true (R_check_cells_same CP)) := by
  refine fn_okM F sc68 (by rintro _ _ _ _ ⟨p, q, _, rfl, _⟩; rfl) fun lk cdv A outer s H E xs cs y cs' hlk hr hR => ?_
  obtain ⟨p, q, hl, rfl, rfl, rfl, rfl⟩ := hR
  exact sf_cons (s_ifF (EvT.cast (et_cmp (ev_callB (ea_cons (ev_prop p_base hr (by decide) (ev_v 0 rfl) ⟨p, rfl, rfl, rfl, rfl⟩ (.inl rfl)) ea_nil) cd_lenU T.zlen b_len) (ev_callB (ea_cons (ev_prop p_base hr (by decide) (ev_v 1 rfl) ⟨q, rfl, rfl, rfl, rfl⟩ (.inl rfl)) ea_nil) cd_lenU T.zlen b_len) od_neI) (by rw [dints_len, dints_len, hl]; simp)) (sf_nil (sf_nil ⟨rfl, rfl⟩)))
abbrev N70 : List Str := ["content", "cell", "worth"]
theorem sc70 : FnScope N70 ["content"] (defScope (top 70)) := ⟨rfl, rfl, rfl, by decide +kernel, rfl, by decide +kernel, by decide +kernel⟩
theorem ofC_keys (c : List Int) : ((patD (ofC c)).map (·.1)).Nodup := by
  unfold patD ofC
  rw [List.map_map, List.map_map]
  unfold List.Nodup
  rw [List.pairwise_map]
  exact List.nodup_range.imp fun {x y} h e => h (by have e2 : (x : Int) = (y : Int) := e; omega)
theorem ofC_get {c : List Int} {j : Nat} {e : Int × D} (h : (patD (ofC c))[j]? = some e) : e = ((j : Int), .tup (dints [c.getD j 0])) := by
  unfold patD ofC at h
  rw [List.map_map, List.getElem?_map] at h
  by_cases hj : j < c.length
  · rw [List.getElem?_range hj] at h
    exact (Option.some.inj h).symm
  · rw [List.getElem?_eq_none (by simpa using hj)] at h; cases h
theorem ok_pattern_of (T : Txt K mg) (F : Fun K "pattern_of" "pattern_of" (top 70) f fd) : FnOk P w K mg base CX0 1 f fd ["content"] (spM true R_pattern_of) := by
  refine fn_okM F sc70 (by rintro _ _ _ _ ⟨c, _, rfl, _⟩; rfl) fun lk cdv A outer s H E xs cs y cs' hlk hr hR => ?_
  obtain ⟨c, hl, rfl, rfl, rfl, rfl⟩ := hR
  have nd : N70.Nodup := nd_of (by decide +kernel)
  refine sf_cons (s_ret (EvP.dic (kvs := patD (ofC c)) (cs1 := []) ?_) ⟨rfl, rfl⟩)
  rw [← kputs_nodup _ (ofC_keys c)]
  refine ep_dc (own := [("cell", 1), ("worth", 2)]) nd (blk (top 70) N70 rfl rfl) (ei_enumU T.zenumerate (ev_v 0 rfl)) (patD (ofC c)) (by rw [enumD_len, dints_len, patD_len]; simp [ofC]) (fun _ => trivial) (by rw [enumD_len, dints_len]; omega) fun j x e hx he => ?_
  obtain ⟨v, hv, rfl⟩ := enumD_get hx
  obtain ⟨z, hz, rfl⟩ := dints_get hv
  have hz2 : c.getD j 0 = z := by rw [List.getD_eq_getElem?_getD, hz]; rfl
  rw [ofC_get he, hz2]
  exact ⟨_, fun b => tg_tup2 1 2 nd, fun b => ev_v 1 rfl, fun b => ev_tup (ea_cons (ev_v 2 rfl) ea_nil) (by rw [dints_len]; simp)⟩
abbrev N71 : List Str := ["plan", "other", "content"]
theorem sc71 : FnScope N71 ["plan", "other"] (defScope (top 71)) := ⟨rfl, rfl, rfl, by decide +kernel, rfl, by decide +kernel, by decide +kernel⟩
theorem ok_only (T : Txt K mg) (F : Fun K "only" "only" (top 71) f fd) (c_check_cells_same : Cal P w K mg base 3 "check_cells_same" (spM true (R_check_cells_same CP))) (c_no_claims : Cal P w K mg base 1 "no_claims" (spM true R_no_claims)) (c_content_next : Cal P w K mg base 15 "content_next" (spM false (R_content_next CP))) (c_can_be : Cal P w K mg base 12 "can_be" (spM false (R_can_be CP))) (c_pattern_of : Cal P w K mg base 1 "pattern_of" (spM true R_pattern_of)) :
    FnOk P w K mg base CX0 16 f fd ["plan", "other"] (spM false (R_only CP)) := by
  refine fn_okM F sc71 (by rintro _ _ _ _ ⟨p, q, l, _, _, _, _, _, rfl, _⟩; rfl) fun lk cdv A outer s H E xs cs y cs' hlk hr hR => ?_
  obtain ⟨p, q, l, S, S2, hl, A, hq, rfl, rfl, rfl, rfl⟩ := hR
  obtain rfl := lk_nil hlk
  have nd : N71.Nodup := nd_of (by decide +kernel)
  have nx : ∀ i, i ≤ l.length → R_content_next CP [planD CP p, .dic (patD []), noC, contD (bef l i)] [] (contD l[i]?) [] := fun i hi => ⟨p, [], bef l i, l[i]?, S, good_nil _, fun c hc => A.inw S (bef_mem hc), A.bef hi, rfl, rfl, rfl, rfl⟩
  refine sf_cons (s_expr (ev_callP c_check_cells_same hr (by decide) (ea_cons (ev_v 0 rfl) (ea_cons (ev_v 1 rfl) ea_nil)) ⟨p, q, hl, rfl, rfl, rfl, rfl⟩ (.inl rfl)) ?_)
  refine sf_cons (s_set 2 nd (cs1 := []) (x := contD l[0]?) (ev_callP c_content_next hr (by decide) (ea_cons (ev_v 0 rfl) (ea_cons (x := .dic (patD [])) ev_dict (ea_cons (ev_call0 c_no_claims hr (by decide) ⟨rfl, rfl, rfl, rfl⟩ (.inl rfl)) (ea_cons (x := contD (bef l 0)) ev_non ea_nil)))) (nx 0 (Nat.zero_le _)) hlk) ?_)
  refine sf_cons (s_while (fun k ds' cs' => ∃ i, k = l.length - i ∧ i ≤ l.length ∧ cs' = [] ∧ ds' = [some (planD CP p), some (planD CP q), some (contD l[i]?)]) l.length ⟨0, rfl, Nat.zero_le _, rfl, rfl⟩ ?_)
  rintro k ds' cs' ⟨i, rfl, hi, rfl, rfl⟩
  by_cases hlt : i < l.length
  · have e : l[i]? = some l[i] := by simp [hlt]
    have hm : l[i] ∈ l := List.getElem_mem _
    have ic : InW q.b.length l[i] := hl ▸ A.inw S hm
    have hcan : canB q.pl (some (ofC l[i])) = true := (can_some S2 (goodC S2.n24 ic)).mpr ⟨_, hq _ hm, fitsC _⟩
    rw [e]
    refine ⟨true, [], et_w (ew_andT (et_cmp (x := .tup (dints l[i])) (t := true) (ev_v 2 rfl) ev_non od_isnot) (ew_and1 (et_val (EvM.cast (ev_callP c_can_be hr (by decide) (ea_cons (ev_v 1 rfl) (ea_cons (ev_callP c_pattern_of hr (by decide) (ea_cons (x := .tup (dints l[i])) (ev_v 2 rfl) ea_nil) ⟨l[i], by rw [ic.1]; exact S2.n24, rfl, rfl, rfl, rfl⟩ (.inl rfl)) (ea_cons (ev_call0 c_no_claims hr (by decide) ⟨rfl, rfl, rfl, rfl⟩ (.inl rfl)) ea_nil))) ⟨q, some (ofC l[i]), S2, fun z e => by cases e; exact goodC S2.n24 ic, rfl, rfl, rfl, rfl⟩ hlk) (by rw [hcan]))))), fun _ => ?_, fun h => by cases h⟩
    refine sf_cons (s_set 2 nd (cs1 := []) (x := contD l[i + 1]?) (ev_callP c_content_next hr (by decide) (ea_cons (ev_v 0 rfl) (ea_cons (x := .dic (patD [])) ev_dict (ea_cons (ev_call0 c_no_claims hr (by decide) ⟨rfl, rfl, rfl, rfl⟩ (.inl rfl)) (ea_cons (x := contD (bef l (i + 1))) (EvM.cast (x := .tup (dints l[i])) (ev_v 2 rfl) (by show _ = contD l[i]?; rw [e]; rfl)) ea_nil)))) (nx (i + 1) hlt) hlk) ?_)
    exact sf_nil ⟨l.length - (i + 1), by omega, i + 1, rfl, hlt, rfl, rfl⟩
  · have e : l[i]? = none := List.getElem?_eq_none (by omega)
    rw [e]
    refine ⟨false, [], et_w (ew_andF (et_cmp (x := .non) (t := false) (ev_v 2 rfl) ev_non od_isnot)), fun h => (by cases h), fun _ => ?_⟩
    exact sf_cons (s_ret (ev_v 2 rfl) ⟨rfl, rfl⟩)
theorem sc72 : FnScope ["plan", "other"] ["plan", "other"] (defScope (top 72)) := ⟨rfl, rfl, rfl, by decide +kernel, rfl, by decide +kernel, by decide +kernel⟩
theorem ok_leave_the_same (F : Fun K "leave_the_same" "leave_the_same" (top 72) f fd) (c_only : Cal P w K mg base 16 "only" (spM false (R_only CP))) : FnOk P w K mg base CX0 17 f fd ["plan", "other"] (spM false (R_leave_the_same CP)) := by
  refine fn_okM F sc72 (by rintro _ _ _ _ ⟨p, q, l, _, _, _, _, _, rfl, _⟩; rfl) fun lk cdv A outer s H E xs cs y cs' hlk hr hR => ?_
  obtain ⟨p, q, l, S, S2, hl, A, A2, rfl, rfl, rfl, rfl⟩ := hR
  exact sf_cons (s_ret (ev_andT (ev_cmp (z := .bl true) (ev_callP c_only hr (by decide) (ea_cons (ev_v 0 rfl) (ea_cons (ev_v 1 rfl) ea_nil)) ⟨p, q, l, S, S2, hl, A, fun d hd => ((A2.mem d).mp hd).1, rfl, rfl, rfl, rfl⟩ hlk) ev_non od_is) (ev_one (ev_cmp (z := .bl true) (ev_callP c_only hr (by decide) (ea_cons (ev_v 1 rfl) (ea_cons (ev_v 0 rfl) ea_nil)) ⟨q, p, l, S2, S, hl.symm, A2, fun d hd => ((A.mem d).mp hd).1, rfl, rfl, rfl, rfl⟩ hlk) ev_non od_is))) ⟨rfl, rfl⟩)
end
end Af
set_option Elab.async false
set_option linter.all false
set_option maxRecDepth 100000
set_option pp.maxSteps 400
set_option maxHeartbeats 2000000
/-! ### afterfall.worths -/
namespace Af
open PySem L2
def exp1 (p : Pl) (c : Int) (q : List Int × Pat) : List (List Int × Pat) := (List.range 8).filterMap fun (w : Nat) => (nar p q.2 c (w : Int)).map fun m => (q.1 ++ [(w : Int)], m)
def tgs (p : Pl) (cells : List Int) (pat : Pat) : List (List Int × Pat) := cells.foldl (fun f c => f.flatMap (exp1 p c)) [([], pat)]
def encQ (q : List Int × Pat) : D := .tup [.tup (dints q.1), .dic (patD q.2)]
def wsIn (p : Pl) (pat : Pat) (c : Int) : List Int := ((List.range 8).filter fun (w : Nat) => (nar p pat c (w : Int)).isSome).map fun (w : Nat) => (w : Int)
def OkCells (n : Nat) (l : List Int) : Prop := l ≠ [] ∧ l.length ≤ 3 ∧ l.Nodup ∧ ∀ c ∈ l, 0 ≤ c ∧ c < (n : Int)
def R_narrowed (C : Addr) (xs : List D) (cs : Cs) (y : D) (cs' : Cs) : Prop := ∃ (p : PIn) (pat : Pat) (c w : Int), Sm p ∧ GoodPat p.b.length pat ∧ (0 ≤ c ∧ c < (p.b.length : Int)) ∧ (0 ≤ w ∧ w < 8) ∧ xs = [planD C p, .dic (patD pat), noC, .int c, .int w] ∧ cs = [] ∧ y = optPat (nar p.pl pat c w) ∧ cs' = []
def R_worths_in (C : Addr) (xs : List D) (cs : Cs) (y : D) (cs' : Cs) : Prop := ∃ (p : PIn) (pat : Pat) (c : Int), Sm p ∧ GoodPat p.b.length pat ∧ (0 ≤ c ∧ c < (p.b.length : Int)) ∧ xs = [planD C p, .dic (patD pat), noC, .int c] ∧ cs = [] ∧ y = .lst (dints (wsIn p.pl pat c)) ∧ cs' = []
def R_check_cells_worths (C : Addr) (xs : List D) (cs : Cs) (y : D) (cs' : Cs) : Prop := ∃ (p : PIn) (l : List Int), OkCells p.b.length l ∧ xs = [planD C p, .lst (dints l)] ∧ cs = [] ∧ y = .non ∧ cs' = []
def R_together (C : Addr) (xs : List D) (cs : Cs) (y : D) (cs' : Cs) : Prop := ∃ (p : PIn) (pat : Pat) (l : List Int), Sm p ∧ GoodPat p.b.length pat ∧ OkCells p.b.length l ∧ xs = [planD C p, .dic (patD pat), noC, .lst (dints l)] ∧ cs = [] ∧ y = .lst (dtups ((tgs p.pl l pat).map (·.1))) ∧ cs' = []
theorem exp1_len (p : Pl) (c : Int) (q : List Int × Pat) : (exp1 p c q).length ≤ 8 := Nat.le_trans (List.length_filterMap_le _ _) (by simp)
theorem flat_len (p : Pl) (c : Int) : ∀ f : List (List Int × Pat), (f.flatMap (exp1 p c)).length ≤ 8 * f.length
  | [] => by simp
  | q :: f => by
    rw [List.flatMap_cons, List.length_append, List.length_cons]
    have := exp1_len p c q
    have := flat_len p c f
    omega
theorem tgs_snoc (p : Pl) (cells : List Int) (c : Int) (pat : Pat) : tgs p (cells ++ [c]) pat = (tgs p cells pat).flatMap (exp1 p c) := by unfold tgs; rw [List.foldl_append]; rfl
/-- what has been found so far -/
structure TgOk (p : PIn) (pat : Pat) (k : Nat) (f : List (List Int × Pat)) : Prop where
  good : ∀ q ∈ f, GoodPat p.b.length q.2
  len : ∀ q ∈ f, q.1.length = k
theorem exp1_mem {p : Pl} {c : Int} {q r : List Int × Pat} (h : r ∈ exp1 p c q) : ∃ w : Nat, w < 8 ∧ nar p q.2 c (w : Int) = some r.2 ∧ r.1 = q.1 ++ [(w : Int)] := by
  unfold exp1 at h
  obtain ⟨w, hw, e⟩ := List.mem_filterMap.mp h
  cases e2 : nar p q.2 c (w : Int) with
  | none => rw [e2] at e; cases e
  | some m =>
    rw [e2] at e
    have := Option.some.inj e
    exact ⟨w, List.mem_range.mp hw, by rw [← this]; exact e2, by rw [← this]⟩
theorem TgOk.exp {p : PIn} (S : Sm p) {pat : Pat} {k : Nat} {f : List (List Int × Pat)} (h : TgOk p pat k f) {c : Int} (hc : 0 ≤ c ∧ c < (p.b.length : Int)) : TgOk p pat (k + 1) (f.flatMap (exp1 p.pl c)) := by
  constructor
  · intro r hr
    obtain ⟨q, hq, hr⟩ := List.mem_flatMap.mp hr
    obtain ⟨w, hw, e, _⟩ := exp1_mem hr
    exact (nar_some S.small (h.good q hq) hc (by omega) e).2.1
  · intro r hr
    obtain ⟨q, hq, hr⟩ := List.mem_flatMap.mp hr
    obtain ⟨w, hw, _, e⟩ := exp1_mem hr
    rw [e, List.length_append, h.len q hq]; rfl
theorem tgs_ok {p : PIn} (S : Sm p) {pat : Pat} (hp : GoodPat p.b.length pat) {l : List Int} (hl : ∀ c ∈ l, 0 ≤ c ∧ c < (p.b.length : Int)) : ∀ i, i ≤ l.length → TgOk p pat i (tgs p.pl (l.take i) pat) ∧ (tgs p.pl (l.take i) pat).length ≤ 8 ^ i
  | 0, _ => by
    refine ⟨⟨fun q hq => ?_, fun q hq => ?_⟩, by simp [tgs]⟩
    · have : q = ([], pat) := by simpa [tgs] using hq
      rw [this]; exact hp
    · have : q = ([], pat) := by simpa [tgs] using hq
      rw [this]; rfl
  | i + 1, hi => by
    obtain ⟨h1, h2⟩ := tgs_ok S hp hl i (by omega)
    have e : l.take (i + 1) = l.take i ++ [l[i]] := by rw [List.take_add_one]; simp [show i < l.length by omega]
    rw [e, tgs_snoc]
    refine ⟨h1.exp S (hl _ (List.getElem_mem _)), ?_⟩
    have := flat_len p.pl l[i] (tgs p.pl (l.take i) pat)
    rw [Nat.pow_succ]; omega
section
variable {P : Program} {w : World} {K : PySem.W.Frag} {mg : Str → Option Value} {base : Heap} {f : Addr} {fd : FuncData} {CP : Addr}
abbrev N75 : List Str := ["plan", "pattern", "claims", "cell", "worth", "found"]
theorem sc75 : FnScope N75 ["plan", "pattern", "claims", "cell", "worth"] (defScope (top 75)) := ⟨rfl, rfl, rfl, by decide +kernel, rfl, by decide +kernel, by decide +kernel⟩
theorem ok_narrowed (T : Txt K mg) (F : Fun K "narrowed" "narrowed" (top 75) f fd) (c_met_by_both : Cal P w K mg base 1 "met_by_both" (spM false R_met_by_both)) (c_sought : Cal P w K mg base 11 "sought" (spM false (R_sought CP))) : FnOk P w K mg base CX0 12 f fd ["plan", "pattern", "claims", "cell", "worth"] (spM false (R_narrowed CP)) := by
  refine fn_okM F sc75 (by rintro _ _ _ _ ⟨p, pat, c, v, _, _, _, _, rfl, _⟩; rfl) fun lk cdv A outer s H E xs cs y cs' hlk hr hR => ?_
  obtain ⟨p, pat, c, v, S, hp, hc, hv, rfl, rfl, rfl, rfl⟩ := hR
  obtain rfl := lk_nil hlk
  have nd : N75.Nodup := nd_of (by decide +kernel)
  have ho : GoodPat p.b.length [(c, [v])] := goodOne hc hv
  refine sf_cons (s_set 5 nd (cs1 := []) (x := optPat (metR pat [(c, [v])])) (ev_callP c_met_by_both hr (by decide) (ea_cons (ev_v 1 rfl) (ea_cons (EvM.cast (y := .dic (patD [(c, [v])])) (ev_disp1 (fun _ => ev_v 3 rfl) (fun _ => ev_tup (ea_cons (ev_v 4 rfl) ea_nil) (by simp))) rfl) ea_nil)) ⟨pat, [(c, [v])], hp.ok, ho.ok, rfl, rfl, rfl, rfl⟩ hlk) ?_)
  unfold nar
  cases e : metR pat [(c, [v])] with
  | none => exact sf_cons (s_ifT (et_w (ew_orT (et_cmp (x := .non) (t := true) (ev_v 5 rfl) ev_non od_is))) (sf_cons (s_ret ev_non ⟨rfl, rfl⟩)))
  | some m =>
    have hm : GoodPat p.b.length m := hp.met S.n24 ho e
    refine sf_cons (s_if (t := (soughtD (sought p.pl m)).isNon) (cs1 := []) (et_w (ew_orF (et_cmp (x := .dic (patD m)) (t := false) (ev_v 5 rfl) ev_non od_is) (ew_or1 (et_cmp (ev_callP c_sought hr (by decide) (ea_cons (ev_v 0 rfl) (ea_cons (x := .dic (patD m)) (ev_v 5 rfl) (ea_cons (ev_v 2 rfl) ea_nil))) ⟨p, m, hm.pk S.good S.small.wf, rfl, rfl, rfl, rfl⟩ hlk) ev_non od_is)))) (fun hb => ?_) fun hb => ?_)
    · have : canB p.pl (some m) = false := by
        show (sought p.pl m).isSome = false
        cases e2 : sought p.pl m with
        | none => rfl
        | some F => rw [e2] at hb; cases hb
      rw [this]
      exact sf_cons (s_ret ev_non ⟨rfl, rfl⟩)
    · have : canB p.pl (some m) = true := by
        show (sought p.pl m).isSome = true
        cases e2 : sought p.pl m with
        | none => rw [e2] at hb; cases hb
        | some F => rfl
      rw [this]
      exact sf_nil (sf_cons (s_ret (x := .dic (patD m)) (ev_v 5 rfl) ⟨rfl, rfl⟩))
abbrev N76 : List Str := ["plan", "pattern", "claims", "cell", "worth"]
theorem sc76 : FnScope N76 ["plan", "pattern", "claims", "cell"] (defScope (top 76)) := ⟨rfl, rfl, rfl, by decide +kernel, rfl, by decide +kernel, by decide +kernel⟩
theorem optPat_non (o : Option Pat) : (optPat o).isNon = o.isNone := by cases o <;> rfl
theorem ok_worths_in (T : Txt K mg) (F : Fun K "worths_in" "worths_in" (top 76) f fd) (c_narrowed : Cal P w K mg base 12 "narrowed" (spM false (R_narrowed CP))) : FnOk P w K mg base CX0 13 f fd ["plan", "pattern", "claims", "cell"] (spM false (R_worths_in CP)) := by
  refine fn_okM F sc76 (by rintro _ _ _ _ ⟨p, pat, c, _, _, _, rfl, _⟩; rfl) fun lk cdv A outer s H E xs cs y cs' hlk hr hR => ?_
  obtain ⟨p, pat, c, S, hp, hc, rfl, rfl, rfl, rfl⟩ := hR
  obtain rfl := lk_nil hlk
  have nd : N76.Nodup := nd_of (by decide +kernel)
  refine sf_cons (s_ret (EvM.cast (ev_filterG (own := [("worth", 4)]) (List.range 8) (fun (i : Nat) => .int (i : Int)) (fun (v : Nat) => (nar p.pl pat c (v : Int)).isSome) (fun (i : Nat) => .int (i : Int)) nd (blk (top 76) N76 rfl rfl) (ei_range1 T.zrange (ev_glob' T.mWORTHS) (by omega)) (rng0_map 8) (by simp) (fun _ => trivial) fun i k hk => ?turn) ?_) ⟨rfl, rfl⟩)
  case turn =>
    have hk8 : k < 8 := List.mem_range.mp (List.mem_of_getElem? hk)
    exact ⟨_, fun b => tg_name 4 nd, fun b => EvT.cast (et_cmp (ev_callP c_narrowed hr (by decide) (ea_cons (ev_v 0 rfl) (ea_cons (ev_v 1 rfl) (ea_cons (ev_v 2 rfl) (ea_cons (ev_v 3 rfl) (ea_cons (ev_v 4 rfl) ea_nil))))) ⟨p, pat, c, (k : Int), S, hp, hc, by omega, rfl, rfl, rfl, rfl⟩ hlk) ev_non od_isnot) (by rw [optPat_non]; cases nar p.pl pat c (k : Int) <;> rfl), fun _ b => ev_v 4 rfl⟩
  · unfold wsIn dints; rw [List.map_map]; rfl
theorem sc77 : FnScope ["plan", "pattern", "claims", "cell"] ["plan", "pattern", "claims", "cell"] (defScope (top 77)) := ⟨rfl, rfl, rfl, by decide +kernel, rfl, by decide +kernel, by decide +kernel⟩
theorem ok_worths_of (T : Txt K mg) (F : Fun K "worths_of" "worths_of" (top 77) f fd) (p_base : Prp P w K mg base 1 CP "base" (spM true (R_base CP))) (c_check_pattern : Cal P w K mg base 6 "check_pattern" (spM false R_check_pattern)) (c_check_claims : Cal P w K mg base 5 "check_claims" (spM true (R_check_claims CP))) (c_is_below : Cal P w K mg base 2 "is_below" (spM true R_is_below)) (c_worths_in : Cal P w K mg base 13 "worths_in" (spM false (R_worths_in CP))) :
    FnOk P w K mg base CX0 14 f fd ["plan", "pattern", "claims", "cell"] (spM false (R_worths_in CP)) := by
  refine fn_okM F sc77 (by rintro _ _ _ _ ⟨p, pat, c, _, _, _, rfl, _⟩; rfl) fun lk cdv A outer s H E xs cs y cs' hlk hr hR => ?_
  obtain ⟨p, pat, c, S, hp, hc, rfl, rfl, rfl, rfl⟩ := hR
  obtain rfl := lk_nil hlk
  refine sf_cons (s_expr (ev_callP c_check_pattern hr (by decide) (ea_cons (ev_callB (ea_cons (ev_prop p_base hr (by decide) (ev_v 0 rfl) ⟨p, rfl, rfl, rfl, rfl⟩ (.inl rfl)) ea_nil) cd_lenU T.zlen b_len) (ea_cons (ev_v 1 rfl) ea_nil)) ⟨p.b.length, pat, hp, by rw [dints_len], rfl, rfl, rfl⟩ hlk) ?_)
  refine sf_cons (s_expr (ev_callP c_check_claims hr (by decide) (ea_cons (ev_v 0 rfl) (ea_cons (ev_v 2 rfl) ea_nil)) ⟨p, S.good, rfl, rfl, rfl, rfl⟩ (.inl rfl)) ?_)
  refine sf_cons (s_ifF (et_not (t := true) (et_val (ev_callP c_is_below hr (by decide) (ea_cons (ev_v 3 rfl) (ea_cons (ev_callB (ea_cons (ev_prop p_base hr (by decide) (ev_v 0 rfl) ⟨p, rfl, rfl, rfl, rfl⟩ (.inl rfl)) ea_nil) cd_lenU T.zlen b_len) ea_nil)) ⟨c, p.b.length, by rw [dints_len], rfl, by rw [decide_eq_true hc], rfl⟩ (.inl rfl)))) (sf_nil ?_))
  exact sf_cons (s_ret (ev_callP c_worths_in hr (by decide) (ea_cons (ev_v 0 rfl) (ea_cons (ev_v 1 rfl) (ea_cons (ev_v 2 rfl) (ea_cons (ev_v 3 rfl) ea_nil)))) ⟨p, pat, c, S, hp, hc, rfl, rfl, rfl, rfl⟩ hlk) ⟨rfl, rfl⟩)
abbrev N78 : List Str := ["plan", "thing", "cell"]
theorem sc78 : FnScope N78 ["plan", "thing"] (defScope (top 78)) := ⟨rfl, rfl, rfl, by decide +kernel, rfl, by decide +kernel, by decide +kernel⟩
theorem ok_check_cells_worths (T : Txt K mg) (F : Fun K "check_cells" "check_cells" (top 78) f fd) (p_base : Prp P w K mg base 1 CP "base" (spM true (R_base CP))) (c_is_below : Cal P w K mg base 2 "is_below" (spM true R_is_below)) : FnOk P w K mg base CX0 3 f fd ["plan", "thing"] (spM true (R_check_cells_worths CP)) := by
  refine fn_okM F sc78 (by rintro _ _ _ _ ⟨p, l, _, rfl, _⟩; rfl) fun lk cdv A outer s H E xs cs y cs' hlk hr hR => ?_
  obtain ⟨p, l, ⟨h0, h3, hnd, hc⟩, rfl, rfl, rfl, rfl⟩ := hR
  have nd : N78.Nodup := nd_of (by decide +kernel)
  have hl1 : 1 ≤ l.length := by cases l with | nil => exact absurd rfl h0 | cons a r => simp
  refine sf_cons (s_ifF (et_w (ew_orF (et_not (t := true) (et_val (ev_isi (ev_v 1 rfl) ty_lst k_list T.zisinstance T.zlist b_isi b_list))) (ew_or1 (et_not (t := true) (et_chainT (t := true) ev_int (ev_callB (ea_cons (ev_v 1 rfl) ea_nil) cd_lenL T.zlen b_len) (od_le.cast (decide_eq_true (by rw [dints_len]; omega))) (ev_glob' T.mMAX_TOGETHER) (od_le.cast (decide_eq_true (by rw [dints_len]; omega)))))))) (sf_nil ?_))
  refine sf_cons (s_ifF (et_w (ew_orF (et_not (t := true) (et_val (ev_callB (ea_cons (ev_mapG (own := [("cell", 2)]) l D.int (fun _ => .bl true) nd (blk (top 78) N78 rfl rfl) (ei_lst (ev_v 1 rfl)) rfl (by omega) (fun _ => trivial) fun i k hk => ?turn) ea_nil) (cd_allT l) T.zall b_all))) (ew_or1 (EvT.cast (et_cmp (ev_lenSet (ns := l) (ev_v 1 rfl) (by omega) hnd T.zlen T.zset) (ev_callB (ea_cons (ev_v 1 rfl) ea_nil) cd_lenL T.zlen b_len) od_neI) (by rw [dints_len]; simp))))) (sf_nil (sf_nil ⟨rfl, rfl⟩)))
  case turn =>
    have hk := hc k (List.mem_of_getElem? hk)
    exact ⟨_, fun b => tg_name 2 nd, fun b => ev_callP c_is_below hr (by decide) (ea_cons (ev_v 2 rfl) (ea_cons (ev_callB (ea_cons (ev_prop p_base hr (by decide) (ev_v 0 rfl) ⟨p, rfl, rfl, rfl, rfl⟩ (.inl rfl)) ea_nil) cd_lenU T.zlen b_len) ea_nil)) ⟨k, p.b.length, by rw [dints_len], rfl, by rw [decide_eq_true hk], rfl⟩ (.inl rfl)⟩
end
end Af
set_option Elab.async false
set_option linter.all false
set_option maxRecDepth 100000
set_option pp.maxSteps 400
set_option maxHeartbeats 2000000
/-! ### together -/
namespace Af
open PySem L2
theorem tgs_take (p : Pl) (l : List Int) (pat : Pat) {i : Nat} (h : i < l.length) : tgs p (l.take (i + 1)) pat = (tgs p (l.take i) pat).flatMap (exp1 p l[i]) := by
  have e : l.take (i + 1) = l.take i ++ [l[i]] := by rw [List.take_add_one]; simp [h]
  rw [e, tgs_snoc]
/-- the first k worths at a cell -/
def exk (p : Pl) (c : Int) (q : List Int × Pat) (k : Nat) : List (List Int × Pat) := (List.range k).filterMap fun (w : Nat) => (nar p q.2 c (w : Int)).map fun m => (q.1 ++ [(w : Int)], m)
theorem exk_none {p : Pl} {c : Int} {q : List Int × Pat} {k : Nat} (h : nar p q.2 c (k : Int) = none) : exk p c q (k + 1) = exk p c q k := by
  unfold exk
  rw [List.range_succ, List.filterMap_append]
  simp [h]
theorem exk_some {p : Pl} {c : Int} {q : List Int × Pat} {k : Nat} {m : Pat} (h : nar p q.2 c (k : Int) = some m) : exk p c q (k + 1) = exk p c q k ++ [(q.1 ++ [(k : Int)], m)] := by
  unfold exk
  rw [List.range_succ, List.filterMap_append]
  simp [h]
theorem exk_len (p : Pl) (c : Int) (q : List Int × Pat) (k : Nat) : (exk p c q k).length ≤ k := Nat.le_trans (List.length_filterMap_le _ _) (by simp)
theorem encQ_get {f : List (List Int × Pat)} {i : Nat} {x : D} (h : (f.map encQ)[i]? = some x) : ∃ q, f[i]? = some q ∧ x = .tup [.tup (dints q.1), .dic (patD q.2)] := by
  rw [List.getElem?_map] at h
  cases e : f[i]? with
  | none => rw [e] at h; cases h
  | some q => rw [e] at h; exact ⟨q, rfl, (Option.some.inj h).symm⟩
section
variable {P : Program} {w : World} {K : PySem.W.Frag} {mg : Str → Option Value} {base : Heap} {f : Addr} {fd : FuncData} {CP : Addr}
abbrev N80 : List Str := ["plan", "pattern", "claims", "cells", "found", "cell", "longer", "worths", "known", "worth", "other"]
theorem sc80 : FnScope N80 ["plan", "pattern", "claims", "cells"] (defScope (top 80)) := ⟨rfl, rfl, rfl, by decide +kernel, rfl, by decide +kernel, by decide +kernel⟩
theorem ok_together (T : Txt K mg) (F : Fun K "together" "together" (top 80) f fd) (p_base : Prp P w K mg base 1 CP "base" (spM true (R_base CP))) (c_check_pattern : Cal P w K mg base 6 "check_pattern" (spM false R_check_pattern)) (c_check_claims : Cal P w K mg base 5 "check_claims" (spM true (R_check_claims CP))) (c_check_cells_worths : Cal P w K mg base 3 "check_cells_worths" (spM true (R_check_cells_worths CP))) (c_narrowed : Cal P w K mg base 12 "narrowed" (spM false (R_narrowed CP))) :
    FnOk P w K mg base CX0 13 f fd ["plan", "pattern", "claims", "cells"] (spM false (R_together CP)) := by
  refine fn_okM F sc80 (by rintro _ _ _ _ ⟨p, pat, l, _, _, _, rfl, _⟩; rfl) fun lk cdv A outer s H E xs cs y cs' hlk hr hR => ?_
  obtain ⟨p, pat, l, S, hp, hcs, rfl, rfl, rfl, rfl⟩ := hR
  obtain rfl := lk_nil hlk
  have nd : N80.Nodup := nd_of (by decide +kernel)
  obtain ⟨h0, h3, hnd, hc⟩ := hcs
  have ok := tgs_ok S hp hc
  have few : ∀ i, i ≤ l.length → (tgs p.pl (l.take i) pat).length ≤ 512 := fun i hi => Nat.le_trans (ok i hi).2 (Nat.le_trans (Nat.pow_le_pow_right (by omega) (show i ≤ 3 by omega)) (by decide))
  refine sf_cons (s_expr (ev_callP c_check_pattern hr (by decide) (ea_cons (ev_callB (ea_cons (ev_prop p_base hr (by decide) (ev_v 0 rfl) ⟨p, rfl, rfl, rfl, rfl⟩ (.inl rfl)) ea_nil) cd_lenU T.zlen b_len) (ea_cons (ev_v 1 rfl) ea_nil)) ⟨p.b.length, pat, hp, by rw [dints_len], rfl, rfl, rfl⟩ hlk) ?_)
  refine sf_cons (s_expr (ev_callP c_check_claims hr (by decide) (ea_cons (ev_v 0 rfl) (ea_cons (ev_v 2 rfl) ea_nil)) ⟨p, S.good, rfl, rfl, rfl, rfl⟩ (.inl rfl)) ?_)
  refine sf_cons (s_expr (ev_callP c_check_cells_worths hr (by decide) (ea_cons (ev_v 0 rfl) (ea_cons (ev_v 3 rfl) ea_nil)) ⟨p, l, ⟨h0, h3, hnd, hc⟩, rfl, rfl, rfl, rfl⟩ (.inl rfl)) ?_)
  refine sf_cons (s_set 4 nd (cs1 := []) (x := .lst ((tgs p.pl (l.take 0) pat).map encQ)) (EvM.cast (ev_lst (ea_cons (ev_tup (ea_cons (ev_tup ea_nil) (ea_cons (ev_v 1 rfl) ea_nil)) (by simp)) ea_nil) (by simp)) rfl) ?_)
  refine sf_cons (s_for (G := fun _ => True) (vs := [5]) (xs := dints l) (ei_lst (ev_v 3 rfl)) (fun i ds' cs' => cs' = [] ∧ ∃ v5 v6 v7 v8 v9 v10, ds' = [some (planD CP p), some (.dic (patD pat)), some noC, some (.lst (dints l)), some (.lst ((tgs p.pl (l.take i) pat).map encQ)), v5, v6, v7, v8, v9, v10]) ⟨rfl, _, _, _, _, _, _, rfl⟩ (fun _ _ _ _ => trivial) ?step ?fin)
  case step =>
    rintro i x ds' cs' hx ⟨rfl, v5, v6, v7, v8, v9, v10, rfl⟩
    obtain ⟨c, hci, rfl⟩ := dints_get hx
    obtain ⟨hil, hce⟩ := List.getElem?_eq_some_iff.mp hci
    have hcc := hc c (List.mem_of_getElem? hci)
    have hok := (ok i (by omega)).1
    have hfew := few i (by omega)
    refine ⟨_, tg_name 5 nd, ?_⟩
    rw [tgs_take p.pl l pat hil, hce]
    generalize tgs p.pl (l.take i) pat = F at hok hfew
    refine sf_cons (s_setP 6 nd (ep_lst ea_nil) fun x cs1 hx => ?_)
    obtain ⟨a, rfl, rfl⟩ := hx
    refine sf_cons (s_for (G := fun _ => True) (vs := [7, 8]) (xs := F.map encQ) (ei_lst (ev_v 4 rfl)) (fun j ds' cs' => cs' = [(a, .lst (((F.take j).flatMap (exp1 p.pl c)).map encQ))] ∧ ∃ v7 v8 v9 v10, ds' = [some (planD CP p), some (.dic (patD pat)), some noC, some (.lst (dints l)), some (.lst (F.map encQ)), some (.int c), some (.ptr a), v7, v8, v9, v10]) ⟨rfl, _, _, _, _, rfl⟩ (fun _ _ _ _ => trivial) ?step2 ?fin2)
    case step2 =>
      rintro j x ds' cs' hx ⟨rfl, v7, v8, v9, v10, rfl⟩
      obtain ⟨q, hq, rfl⟩ := encQ_get hx
      have hqm := List.mem_of_getElem? hq
      have hg := hok.good q hqm
      have hql := hok.len q hqm
      have hfl := flat_len p.pl c (F.take j)
      rw [List.length_take] at hfl
      have ht : F.take (j + 1) = F.take j ++ [q] := by rw [List.take_add_one, hq]; rfl
      have hfm : (F.take (j + 1)).flatMap (exp1 p.pl c) = (F.take j).flatMap (exp1 p.pl c) ++ exk p.pl c q 8 := by rw [ht, List.flatMap_append, List.flatMap_singleton]; rfl
      rw [hfm]
      generalize (F.take j).flatMap (exp1 p.pl c) = G at hfl
      refine ⟨_, tg_tup2 7 8 nd, ?_⟩
      refine sf_cons (s_for (G := fun _ => True) (vs := [9]) (ei_range1 T.zrange (ev_glob' T.mWORTHS) (by omega)) (fun k ds' cs' => cs' = [(a, .lst ((G ++ exk p.pl c q k).map encQ))] ∧ ∃ v9 v10, ds' = [some (planD CP p), some (.dic (patD pat)), some noC, some (.lst (dints l)), some (.lst (F.map encQ)), some (.int c), some (.ptr a), some (.tup (dints q.1)), some (.dic (patD q.2)), v9, v10]) ⟨by simp [exk], _, _, rfl⟩ (fun _ _ _ _ => trivial) ?step3 ?fin3)
      case step3 =>
        rintro k x ds' cs' hx ⟨rfl, v9, v10, rfl⟩
        obtain ⟨hk, rfl⟩ := rng_get hx
        have hk8 : k < 8 := by simpa using hk
        have e0 : (0 : Int) + (k : Int) = (k : Int) := by omega
        rw [e0]
        have hel := exk_len p.pl c q k
        refine ⟨_, tg_name 9 nd, ?_⟩
        refine sf_cons (s_set 10 nd (cs1 := [(a, .lst ((G ++ exk p.pl c q k).map encQ))]) (x := optPat (nar p.pl q.2 c (k : Int))) (ev_callP c_narrowed hr (by decide) (ea_cons (ev_v 0 rfl) (ea_cons (ev_v 8 rfl) (ea_cons (ev_v 2 rfl) (ea_cons (ev_v 5 rfl) (ea_cons (ev_v 9 rfl) ea_nil))))) ⟨p, q.2, c, (k : Int), S, hg, hcc, by omega, rfl, rfl, rfl, rfl⟩ hlk) ?_)
        cases e : nar p.pl q.2 c (k : Int) with
        | none =>
          rw [exk_none e]
          exact sf_cons (s_ifF (et_cmp (x := .non) (t := false) (ev_v 10 rfl) ev_non od_isnot) (sf_nil (sf_nil ⟨rfl, _, _, rfl⟩)))
        | some m =>
          refine sf_cons (s_ifT (et_cmp (x := .dic (patD m)) (t := true) (ev_v 10 rfl) ev_non od_isnot) (sf_cons (s_expr (ev_append 0 (ev_v 6 rfl) rfl (x := encQ (q.1 ++ [(k : Int)], m)) (EvM.cast (ev_tup (ea_cons (ev_tup (ea_starU (ev_v 7 rfl) (ea_cons (ev_v 9 rfl) ea_nil)) (by rw [List.length_append, dints_len, hql]; simp; omega)) (ea_cons (x := .dic (patD m)) (ev_v 10 rfl) ea_nil)) (by simp)) ?_) rfl (by rw [List.length_map, List.length_append]; omega)) (sf_nil (sf_nil ⟨?_, _, _, rfl⟩)))))
          · unfold encQ dints; simp
          · rw [exk_some e, ← List.append_assoc, List.map_append (l₁ := G ++ exk p.pl c q k)]; rfl
      case fin3 =>
        rintro ds' cs' ⟨rfl, v9, v10, rfl⟩
        exact sf_nil ⟨rfl, _, _, _, _, rfl⟩
    case fin2 =>
      rintro ds' cs' ⟨rfl, v7, v8, v9, v10, rfl⟩
      rw [List.length_map, List.take_length]
      refine SF.freezeL 6 0 rfl rfl ?_
      exact sf_cons (s_set 4 nd (cs1 := []) (ev_v 6 rfl) (sf_nil ⟨rfl, _, _, _, _, _, _, rfl⟩))
  case fin =>
    rintro ds' cs' ⟨rfl, v5, v6, v7, v8, v9, v10, rfl⟩
    have hfew := few l.length (Nat.le_refl _)
    rw [dints_len, List.take_length]
    rw [List.take_length] at hfew
    refine sf_cons (s_ret (EvM.cast (ev_mapG (own := [("worths", 7), ("known", 8)]) (tgs p.pl l pat) encQ (fun q => .tup (dints q.1)) nd (blk (top 80) N80 rfl rfl) (ei_lst (ev_v 4 rfl)) rfl (by omega) (fun _ => trivial) fun i q hq => ⟨_, fun b => tg_tup2 7 8 nd, fun b => ev_v 7 rfl⟩) ?_) ⟨rfl, rfl⟩)
    unfold dtups; rw [List.map_map]; rfl
end
end Af
set_option Elab.async false
set_option linter.all false
set_option maxRecDepth 100000
set_option pp.maxSteps 400
set_option maxHeartbeats 2000000
/-! ### the law's pen -/
namespace Af
open PySem L2
structure Pn where
  L : List Int
  i : Int
  r : Int
namespace Pn
def cell (p : Pn) : Int := if p.L = [] then p.i * 1069 + 61 else p.L.getD (p.i % (p.L.length : Int)).toNat 0
def some_ (p : Pn) : Int := (p.cell % 2147483587 + p.i * 30119 + 89) % 2147483587
def more (p : Pn) : Int := (p.some_ * p.some_ + p.i * 70061 + 71) % 2147483563
def top_ (p : Pn) : Int := (p.more * p.more + p.some_ + p.i * p.i * 47) % 2147483549
def num (p : Pn) : Int := if p.i < (p.L.length : Int) ∧ 10 ^ 18 ≤ p.cell then p.cell else (p.top_ * 2147483587 + p.more) * 2147483563 + p.some_
def co (p : Pn) : CO := .lst [.lst (dints p.L), .int p.i, .int p.r]
def step (p : Pn) : Pn := { p with i := p.i + 1 }
def fill (n : Int) (p : Pn) : Pn := if p.r < n then { p with i := p.i + 1, r := p.num } else p
def dig (n : Int) (p : Pn) : Int := (p.fill n).r % n
def go (n : Int) (p : Pn) : Pn := { p.fill n with r := (p.fill n).r / n }
structure Ok (p : Pn) (b : Nat) : Prop where
  len : p.L.length ≤ 1000
  i0 : 0 ≤ p.i
  ib : p.i ≤ (b : Int)
theorem Ok.go {p : Pn} {b : Nat} (h : p.Ok b) (n : Int) : (p.go n).Ok (b + 1) := by
  obtain ⟨h1, h2, h3⟩ := h
  unfold Pn.go fill
  split
  · exact ⟨h1, by show 0 ≤ p.i + 1; omega, by show p.i + 1 ≤ ((b + 1 : Nat) : Int); omega⟩
  · exact ⟨h1, h2, by show p.i ≤ ((b + 1 : Nat) : Int); omega⟩
theorem Ok.mono {p : Pn} {b c : Nat} (h : p.Ok b) (hc : b ≤ c) : p.Ok c := ⟨h.len, h.i0, by have := h.ib; omega⟩
theorem dig_lt {p : Pn} {n : Int} (h : 0 < n) : 0 ≤ p.dig n ∧ p.dig n < n := ⟨Int.emod_nonneg _ (by omega), Int.emod_lt_of_pos _ h⟩
end Pn
/-- the last script number that a pen may have reached -/
abbrev PB : Nat := 1000000000
def R_law_pen (a : Addr) (l : List Int) : Cs := [(a, (⟨l.take 60, 0, 0⟩ : Pn).co)]
def R_law_next (xs : List D) (cs : Cs) (y : D) (cs' : Cs) : Prop := ∃ (a : Addr) (p : Pn), p.Ok PB ∧ xs = [.ptr a] ∧ cs = [(a, p.co)] ∧ y = .int p.num ∧ cs' = [(a, p.step.co)]
def R_law_draw (xs : List D) (cs : Cs) (y : D) (cs' : Cs) : Prop := ∃ (a : Addr) (p : Pn) (n : Int), p.Ok PB ∧ (0 < n ∧ n < 1000000) ∧ xs = [.ptr a, .int n] ∧ cs = [(a, p.co)] ∧ y = .int (p.dig n) ∧ cs' = [(a, (p.go n).co)]
theorem S1.mono {lk : List Addr} {X : Cx} {st : Stmt} {ds : Ds} {cs : Cs} {k k' : KE} (h : S1 lk X st ds cs k) (h1 : ∀ ds cs, k.nx ds cs → k'.nx ds cs) (h2 : ∀ x cs, k.rt x cs → k'.rt x cs) (h3 : ∀ ds cs, k.bk ds cs → k'.bk ds cs) (h4 : ∀ ds cs, k.ct ds cs → k'.ct ds cs) : S1 lk X st ds cs k' := fun σ S H O E D0 p =>
  h σ S H O E D0 ⟨fun _ _ _ _ _ q => p.nx _ _ _ _ _ (h1 _ _ q), fun _ _ _ _ _ q => p.rt _ _ _ _ _ (h2 _ _ q), fun _ _ _ _ _ q => p.bk _ _ _ _ _ (h3 _ _ q), fun _ _ _ _ _ q => p.ct _ _ _ _ _ (h4 _ _ q)⟩
/-- behind a statement that ends in one way -/
theorem sf_to {lk : List Addr} {X : Cx} {st : Stmt} {rest : List Stmt} {ds : Ds} {cs : Cs} {k : KE} (d1 : Ds) (c1 : Cs) (h : S1 lk X st ds cs { k with nx := fun d c => d = d1 ∧ c = c1 }) (h2 : SF lk X rest d1 c1 k) : SF lk X (st :: rest) ds cs k :=
  sf_cons (h.mono (fun d c ⟨e1, e2⟩ => by subst e1 e2; exact h2) (fun _ _ q => q) (fun _ _ q => q) fun _ _ q => q)
theorem ne_nil {l : List Int} (h : l ≠ []) : (false = true ↔ D.lst (dints l) = D.lst []) := by
  constructor
  · intro h; cases h
  · intro h2
    injection h2 with h2
    exact absurd (dints_inj.mp (show dints l = dints [] from h2)) h
theorem cut_upto (xs : List D) (b : Nat) : cutD xs none (some (b : Int)) = xs.take b := by
  unfold cutD
  rw [HT.sIx_nat, HT.sIx_none]
  simp only [List.drop_zero, Nat.sub_zero]
  by_cases hb : b ≤ xs.length
  · rw [Nat.min_eq_left hb]
  · rw [Nat.min_eq_right (by omega), List.take_length, List.take_of_length_le (by omega)]
section
variable {P : Program} {w : World} {K : PySem.W.Frag} {mg : Str → Option Value} {base : Heap} {f : Addr} {fd : FuncData} {CP : Addr}
theorem sc82 : FnScope ["_law_script"] ["_law_script"] (defScope (top 82)) := ⟨rfl, rfl, rfl, by decide +kernel, rfl, by decide +kernel, by decide +kernel⟩
theorem ok_law_pen (T : Txt K mg) (F : Fun K "_law_pen" "_law_pen" (top 82) f fd) (l : List Int) : FnOk P w K mg base CX0 1 f fd ["_law_script"] (spN (fun xs cs => xs = [.lst (dints l)] ∧ cs = []) (fun _ _ y c => ∃ a, y = .ptr a ∧ c = R_law_pen a l)) := by
  refine fn_okN F sc82 (by rintro _ _ ⟨rfl, _⟩; rfl) fun cdv A outer s H E xs cs hr hP => ?_
  obtain ⟨rfl, rfl⟩ := hP
  refine sf_cons (s_retP (ep_lst (ea_cons (EvM.cast (y := .lst (dints (l.take 60))) (ev_callTy (ea_cons (ev_slL (ev_v 0 rfl) eo_none (eo_some ev_int)) ea_nil) cd_listL T.zlist b_list) ?_) (ea_cons ev_int (ea_cons ev_int ea_nil))) (by simp)) fun y c h => ?_)
  · have := cut_upto (dints l) 60
    rw [show ((60 : Nat) : Int) = 60 from rfl] at this
    rw [this]; unfold dints; rw [List.map_take]
  · obtain ⟨a, rfl, rfl⟩ := h
    exact ⟨a, rfl, rfl⟩
abbrev N83 : List Str := ["_law_pen_here", "_law_index", "_law_cell_here", "_law_some_here", "_law_more", "_law_top"]
theorem sc83 : FnScope N83 ["_law_pen_here"] (defScope (top 83)) := ⟨rfl, rfl, rfl, by decide +kernel, rfl, by decide +kernel, by decide +kernel⟩
theorem ok_law_next (T : Txt K mg) (F : Fun K "_law_next" "_law_next" (top 83) f fd) : FnOk P w K mg base CX0 1 f fd ["_law_pen_here"] (spM false R_law_next) := by
  refine fn_okM F sc83 (by rintro _ _ _ _ ⟨a, p, _, rfl, _⟩; rfl) fun lk cdv A outer s H E xs cs y cs' hlk hr hR => ?_
  obtain ⟨a, p, ok, rfl, rfl, rfl, rfl⟩ := hR
  obtain rfl := lk_nil hlk
  have nd : N83.Nodup := nd_of (by decide +kernel)
  have hu := hr.units
  obtain ⟨okl, ok0, okb⟩ := ok
  have hib : p.i ≤ 1000000000 := okb
  have hme : p.L ≠ [] → 0 < (p.L.length : Int) := fun h => by
    have := List.length_pos_iff.mpr h; omega
  refine sf_cons (s_set 1 nd (cs1 := [(a, p.co)]) (x := .int p.i) (ev_ixC 0 (ev_v 0 rfl) ev_int rfl rfl) ?_)
  refine sf_cons (s_idx 0 (ev_op (ev_v 1 rfl) ev_int od_add) (ev_v 0 rfl) ev_int rfl rfl ?_)
  refine sf_cons (s_set 2 nd (cs1 := [(a, p.step.co)]) (x := .int (p.i * 1069 + 61)) (ev_op (ev_op (ev_v 1 rfl) ev_int (od_mul (.inl (by omega)))) ev_int od_add) ?_)
  have hin : EvM [] (bcx P w K mg base N83 "_law_next" (top 83) f cdv A outer s H E) (.Name "_law_pen_here" ⟨0, 0, 0, 0⟩) [] [] .non [] → True := fun _ => trivial
  refine sf_to [some (.ptr a), some (.int p.i), some (.int p.cell), none, none, none] [(a, p.step.co)] ?sel ?_
  case sel =>
    by_cases hL : p.L = []
    · refine s_ifF (et_cmp (t := false) (ev_ixC 0 (ev_v 0 rfl) ev_int rfl (x := .lst (dints p.L)) rfl) (ev_lst ea_nil) ((od_neD (t := true) hu (plain_lst _) (plain_lst []) (Nat.le_trans (depth_lst _) (by decide)) (Nat.le_trans (depth_lst []) (by decide)) (by rw [hL]; simp [dints])))) (sf_nil ⟨?_, rfl⟩)
      rw [show p.cell = p.i * 1069 + 61 by unfold Pn.cell; rw [if_pos hL]]
      rfl
    · have hpos := hme hL
      have hm0 := Int.emod_nonneg p.i (show (p.L.length : Int) ≠ 0 by omega)
      have hm1 := Int.emod_lt_of_pos p.i hpos
      refine s_ifT (et_cmp (t := true) (ev_ixC 0 (ev_v 0 rfl) ev_int rfl (x := .lst (dints p.L)) rfl) (ev_lst ea_nil) ((od_neD (t := false) hu (plain_lst _) (plain_lst []) (Nat.le_trans (depth_lst _) (by decide)) (Nat.le_trans (depth_lst []) (by decide)) (ne_nil hL)))) ?_
      refine sf_cons (s_set 2 nd (cs1 := [(a, p.step.co)]) (x := .int p.cell) (ev_ixL (i := p.i % (p.L.length : Int)) (ev_ixC 0 (ev_v 0 rfl) ev_int rfl (x := .lst (dints p.L)) rfl) (EvM.cast (ev_op (ev_callTy (ea_cons (ev_v 1 rfl) ea_nil) cd_int T.zint b_int) (ev_callB (ea_cons (ev_ixC 0 (ev_v 0 rfl) ev_int rfl (x := .lst (dints p.L)) rfl) ea_nil) cd_lenL T.zlen b_len) (od_mod (by rw [dints_len]; exact hpos))) (by rw [dints_len])) ?_) (sf_nil ⟨rfl, rfl⟩))
      have := ints_at (c := p.L) (j := (p.i % (p.L.length : Int)).toNat) (by omega)
      rw [Int.toNat_of_nonneg hm0] at this
      rw [this]; unfold Pn.cell; rw [if_neg hL]
  have hs0 := Int.emod_nonneg (p.cell % 2147483587 + p.i * 30119 + 89) (show (2147483587 : Int) ≠ 0 by omega)
  have hs1 := Int.emod_lt_of_pos (p.cell % 2147483587 + p.i * 30119 + 89) (show (0 : Int) < 2147483587 by omega)
  have hm0 := Int.emod_nonneg (p.some_ * p.some_ + p.i * 70061 + 71) (show (2147483563 : Int) ≠ 0 by omega)
  have hm1 := Int.emod_lt_of_pos (p.some_ * p.some_ + p.i * 70061 + 71) (show (0 : Int) < 2147483563 by omega)
  have es : (p.cell % 2147483587 + p.i * 30119 + 89) % 2147483587 = p.some_ := rfl
  have em : (p.some_ * p.some_ + p.i * 70061 + 71) % 2147483563 = p.more := rfl
  have et : (p.more * p.more + p.some_ + p.i * p.i * 47) % 2147483549 = p.top_ := rfl
  rw [es] at hs0 hs1
  rw [em] at hm0 hm1
  have en : p.num = if (decide (p.i < (p.L.length : Int)) && decide (10 ^ 18 ≤ p.cell)) = true then p.cell else (p.top_ * 2147483587 + p.more) * 2147483563 + p.some_ := by
    unfold Pn.num; simp only [Bool.and_eq_true, decide_eq_true_eq]
  refine sf_cons (s_if (cs1 := [(a, p.step.co)]) (t := decide (p.i < (p.L.length : Int)) && decide (10 ^ 18 ≤ p.cell)) (et_w (ew_and (EvT.cast (et_cmp (ev_v 1 rfl) (ev_callB (ea_cons (ev_ixC 0 (ev_v 0 rfl) ev_int rfl (x := .lst (dints p.L)) rfl) ea_nil) cd_lenL T.zlen b_len) od_lt) (by rw [dints_len])) (fun _ => ew_and1 (et_cmp (ev_v 2 rfl) (ev_op ev_int ev_int (od_pow ⟨by omega, by omega, by decide⟩)) od_ge)))) (fun hb => ?_) fun hb => ?_)
  · rw [en, if_pos hb]
    exact sf_cons (s_ret (ev_v 2 rfl) ⟨rfl, rfl⟩)
  · rw [en, if_neg (by rw [hb]; simp)]
    refine sf_nil ?_
    refine sf_cons (s_set 3 nd (cs1 := [(a, p.step.co)]) (x := .int p.some_) (EvM.cast (ev_op (ev_callTy (ea_cons (ev_op (ev_op (ev_op (ev_callTy (ea_cons (ev_v 2 rfl) ea_nil) cd_int T.zint b_int) ev_int (od_mod (by omega))) (ev_op (ev_v 1 rfl) ev_int (od_mul (.inl (by omega)))) od_add) ev_int od_add) ea_nil) cd_int T.zint b_int) ev_int (od_mod (by omega))) rfl) ?_)
    refine sf_cons (s_set 4 nd (cs1 := [(a, p.step.co)]) (x := .int p.more) (EvM.cast (ev_op (ev_callTy (ea_cons (ev_op (ev_op (ev_op (ev_v 3 rfl) (ev_v 3 rfl) (od_mul (.inl (by omega)))) (ev_op (ev_v 1 rfl) ev_int (od_mul (.inl (by omega)))) od_add) ev_int od_add) ea_nil) cd_int T.zint b_int) ev_int (od_mod (by omega))) rfl) ?_)
    refine sf_cons (s_set 5 nd (cs1 := [(a, p.step.co)]) (x := .int p.top_) (EvM.cast (ev_op (ev_callTy (ea_cons (ev_op (ev_op (ev_op (ev_v 4 rfl) (ev_v 4 rfl) (od_mul (.inl (by omega)))) (ev_v 3 rfl) od_add) (ev_op (ev_op (ev_v 1 rfl) (ev_v 1 rfl) (od_mul (.inl (by omega)))) ev_int (od_mul (.inr (by omega)))) od_add) ea_nil) cd_int T.zint b_int) ev_int (od_mod (by omega))) rfl) ?_)
    exact sf_cons (s_ret (ev_op (ev_op (ev_op (ev_op (ev_v 5 rfl) ev_int (od_mul (.inr (by omega)))) (ev_v 4 rfl) od_add) ev_int (od_mul (.inr (by omega)))) (ev_v 3 rfl) od_add) ⟨rfl, rfl⟩)
abbrev N84 : List Str := ["_law_pen_here", "_law_under", "_law_digit"]
theorem sc84 : FnScope N84 ["_law_pen_here", "_law_under"] (defScope (top 84)) := ⟨rfl, rfl, rfl, by decide +kernel, rfl, by decide +kernel, by decide +kernel⟩
theorem ok_law_draw (T : Txt K mg) (F : Fun K "_law_draw" "_law_draw" (top 84) f fd) (c_next : Cal P w K mg base 1 "_law_next" (spM false R_law_next)) : FnOk P w K mg base CX0 2 f fd ["_law_pen_here", "_law_under"] (spM false R_law_draw) := by
  refine fn_okM F sc84 (by rintro _ _ _ _ ⟨a, p, n, _, _, rfl, _⟩; rfl) fun lk cdv A outer s H E xs cs y cs' hlk hr hR => ?_
  obtain ⟨a, p, n, ok, ⟨hn, hn2⟩, rfl, rfl, rfl, rfl⟩ := hR
  obtain rfl := lk_nil hlk
  have nd : N84.Nodup := nd_of (by decide +kernel)
  refine sf_to [some (.ptr a), some (.int n), none] [(a, (p.fill n).co)] ?sel ?_
  case sel =>
    refine s_if (cs1 := [(a, p.co)]) (et_cmp (ev_ixC 0 (ev_v 0 rfl) ev_int rfl (x := .int p.r) rfl) (ev_v 1 rfl) od_lt) (fun hb => ?_) fun hb => ?_
    · have hb := of_decide_eq_true hb
      have e : p.fill n = { p with i := p.i + 1, r := p.num } := by unfold Pn.fill; rw [if_pos hb]
      rw [e]
      exact sf_cons (s_idx 0 (ev_call (cs0 := [(a, p.co)]) (cs1 := [(a, p.step.co)]) (fr := []) c_next hr (by decide) (ea_cons (ev_v 0 rfl) ea_nil) ⟨a, p, ok, rfl, rfl, rfl, rfl⟩ hlk) (ev_v 0 rfl) ev_int rfl rfl (sf_nil ⟨rfl, rfl⟩))
    · have hb := of_decide_eq_false hb
      have e : p.fill n = p := by unfold Pn.fill; rw [if_neg hb]
      rw [e]
      exact sf_nil ⟨rfl, rfl⟩
  unfold Pn.dig Pn.go
  generalize p.fill n = q
  refine sf_cons (s_set 2 nd (cs1 := [(a, q.co)]) (x := .int (q.r % n)) (ev_op (ev_callTy (ea_cons (ev_ixC 0 (ev_v 0 rfl) ev_int rfl (x := .int q.r) rfl) ea_nil) cd_int T.zint b_int) (ev_v 1 rfl) (od_mod hn)) ?_)
  refine sf_cons (s_idx 0 (ev_op (ev_ixC 0 (ev_v 0 rfl) ev_int rfl (x := .int q.r) rfl) (ev_v 1 rfl) (od_fdiv ⟨hn, by omega⟩)) (ev_v 0 rfl) ev_int rfl rfl ?_)
  exact sf_cons (s_ret (ev_v 2 rfl) ⟨rfl, rfl⟩)
end
end Af
set_option Elab.async false
set_option linter.all false
set_option maxRecDepth 100000
set_option pp.maxSteps 400
set_option maxHeartbeats 2000000
/-! ### drawn steps and plans -/
namespace Af
open PySem L2
namespace Pn
def gos (n : Int) : Nat → Pn → Pn
  | 0, p => p
  | k + 1, p => (gos n k p).go n
def digs (n : Int) (k : Nat) (p : Pn) : List Int := (List.range k).map fun j => (gos n j p).dig n
theorem digs_succ (n : Int) (k : Nat) (p : Pn) : digs n (k + 1) p = digs n k p ++ [(gos n k p).dig n] := by unfold digs; rw [List.range_succ, List.map_append]; rfl
theorem digs_len (n : Int) (k : Nat) (p : Pn) : (digs n k p).length = k := by simp [digs]
theorem digs_mem {n : Int} {k : Nat} {p : Pn} {x : Int} (hn : 0 < n) (h : x ∈ digs n k p) : 0 ≤ x ∧ x < n := by
  obtain ⟨j, _, rfl⟩ := List.mem_map.mp h
  exact dig_lt hn
theorem Ok.gos {p : Pn} {b : Nat} (h : p.Ok b) (n : Int) : ∀ k, (gos n k p).Ok (b + k)
  | 0 => h
  | k + 1 => (Ok.gos h n k).go n
end Pn
def stepN (cells : Int) (p : Pn) : Int := if cells - p.dig cells < 3 then cells - p.dig cells else 3
def stepL (cells : Int) (p : Pn) : Int := 1 + (p.go cells).dig (stepN cells p)
def stepP (cells : Int) (p : Pn) : Pn := (p.go cells).go (stepN cells p)
def stepW (cells mw : Int) (p : Pn) : List Int := (stepP cells p).digs (mw + 1) (stepL cells p).toNat
def stepQ (cells mw : Int) (p : Pn) : Pn := (stepP cells p).gos (mw + 1) (stepL cells p).toNat
theorem stepN_pos {cells : Int} {p : Pn} (h : 0 < cells) : 0 < stepN cells p ∧ stepN cells p ≤ 3 ∧ stepN cells p ≤ cells - p.dig cells := by
  have := (p.dig_lt h)
  unfold stepN
  split <;> omega
theorem stepL_le {cells : Int} {p : Pn} (h : 0 < cells) : 1 ≤ stepL cells p ∧ stepL cells p ≤ 3 ∧ p.dig cells + stepL cells p ≤ cells := by
  have h1 := stepN_pos (p := p) h
  have h2 := (p.go cells).dig_lt h1.1
  unfold stepL
  omega
theorem stepQ_ok {cells mw : Int} {p : Pn} {b : Nat} (hc : 0 < cells) (h : p.Ok b) : (stepQ cells mw p).Ok (b + 5) := by
  have h1 := stepL_le (p := p) hc
  exact (((h.go cells).go (stepN cells p)).gos (mw + 1) (stepL cells p).toNat).mono (by omega)
def R_law_step (xs : List D) (cs : Cs) (y : D) (cs' : Cs) : Prop := ∃ (a : Addr) (p : Pn) (cells mw : Int), p.Ok (PB - 2000) ∧ (0 < cells ∧ cells < 1000) ∧ (0 ≤ mw ∧ mw < 1000) ∧ xs = [.ptr a, .int cells, .int mw, .int 3] ∧ cs = [(a, p.co)] ∧ y = .tup [.int (p.dig cells), .tup (dints (stepW cells mw p))] ∧ cs' = [(a, (stepQ cells mw p).co)]
section
variable {X : Cx} {tg iter elt : Expr} {ds : Ds} {cs : Cs} {xs : List D} {pos : Pos} {scope : Scope} {own : List (Str × Nat)} {G : Cs → Prop}
/-- [draw(n) for _ in xs] -/
theorem ev_draws {a : Addr} {p : Pn} {n : Int} (m : Nat) (nd : X.N.Nodup) (ok : BlkOk X.N X.env.scope scope own) (hi : EvI [] X tg iter ds cs xs [(a, p.co)] G) (hG : ∀ fr, G fr) (hp : p.Ok (PB - 1000)) (hm : xs.length = m) (hl : m ≤ 900)
    (turn : ∀ (i : Nat) (x : D), xs[i]? = some x → ∃ ds', (∀ b : Bl, TgB (b.cx X scope) tg (own.map (·.2)) x (wipeD ds (own.map (·.2))) ds') ∧ ∀ (b : Bl) (q : Pn), q.Ok PB → EvM [] (b.cx X scope) elt ds' [(a, q.co)] (.int (q.dig n)) [(a, (q.go n).co)]) (hc : X.calm = true := by rfl) (hs : ∀ x, foldedSetIterable iter X.env x = pure x := by intro _; rfl) :
    EvM [] X (.ListComp elt [⟨tg, iter, [], 0⟩] scope pos) ds cs (.lst (dints (p.digs n m))) [(a, (p.gos n m).co)] := by
  subst hm
  have hPB : PB = 1000000000 := rfl
  refine ev_lc (ifs := []) nd ok hi (fun k => dints (p.digs n k)) (fun k => [(a, (p.gos n k).co)]) rfl rfl (fun k hk fr => hG _) (fun k hk => by rw [dints_len, Pn.digs_len]; omega) (fun k x hx => ?_) hc hs
  obtain ⟨ds', h1, h2⟩ := turn k x hx
  have hk : k < xs.length := (List.getElem?_eq_some_iff.mp hx).1
  exact ⟨ds', h1, .inl ⟨_, .int ((p.gos n k).dig n), .no, fun b => h2 b _ ((hp.gos n k).mono (by omega)), by rw [Pn.digs_succ]; unfold dints; rw [List.map_append]; rfl⟩⟩
end
section
variable {P : Program} {w : World} {K : PySem.W.Frag} {mg : Str → Option Value} {base : Heap} {f : Addr} {fd : FuncData} {CP : Addr}
abbrev N86 : List Str := ["_law_pen_here", "_law_cells", "_law_most_worth", "_law_most_long", "_law_first", "_law_long_here", "_law_k"]
theorem sc86 : FnScope N86 ["_law_pen_here", "_law_cells", "_law_most_worth", "_law_most_long"] (defScope (top 86)) := ⟨rfl, rfl, rfl, by decide +kernel, rfl, by decide +kernel, by decide +kernel⟩
theorem ok_law_step (T : Txt K mg) (F : Fun K "_law_step" "_law_step" (top 86) f fd) (c_draw : Cal P w K mg base 2 "_law_draw" (spM false R_law_draw)) : FnOk P w K mg base CX0 3 f fd ["_law_pen_here", "_law_cells", "_law_most_worth", "_law_most_long"] (spM false R_law_step) := by
  refine fn_okM F sc86 (by rintro _ _ _ _ ⟨a, p, c, m, _, _, _, rfl, _⟩; rfl) fun lk cdv A outer s H E xs cs y cs' hlk hr hR => ?_
  obtain ⟨a, p, c, m, ok, ⟨hc, hc2⟩, ⟨hm, hm2⟩, rfl, rfl, rfl, rfl⟩ := hR
  obtain rfl := lk_nil hlk
  have nd : N86.Nodup := nd_of (by decide +kernel)
  have h1 := stepN_pos (p := p) hc
  have h2 := stepL_le (p := p) hc
  have okp : p.Ok PB := ok.mono (by decide)
  have ok1 : (p.go c).Ok PB := (ok.go c).mono (by decide)
  refine sf_cons (s_set 4 nd (cs1 := [(a, (p.go c).co)]) (x := .int (p.dig c)) (ev_call (cs0 := [(a, p.co)]) (cs1 := [(a, (p.go c).co)]) (fr := []) c_draw hr (by decide) (ea_cons (ev_v 0 rfl) (ea_cons (ev_v 1 rfl) ea_nil)) ⟨a, p, c, okp, ⟨hc, by omega⟩, rfl, rfl, rfl, rfl⟩ hlk) ?_)
  refine sf_cons (s_set 5 nd (cs1 := [(a, (stepP c p).co)]) (x := .int (stepL c p)) (ev_op ev_int (ev_call (cs0 := [(a, (p.go c).co)]) (cs1 := [(a, (stepP c p).co)]) (fr := []) (y := .int ((p.go c).dig (stepN c p))) c_draw hr (by decide) (ea_cons (ev_v 0 rfl) (ea_cons (EvM.cast (y := .int (stepN c p)) (ev_callB (ea_cons (ev_v 3 rfl) (ea_cons (ev_op (ev_v 1 rfl) (ev_v 4 rfl) od_sub) ea_nil)) cd_min T.zmin b_min) rfl) ea_nil)) ⟨a, p.go c, stepN c p, ok1, ⟨h1.1, by omega⟩, rfl, rfl, rfl, rfl⟩ hlk) od_add) ?_)
  have ok2 : (stepP c p).Ok (PB - 1000) := ((ok.go c).go (stepN c p)).mono (by decide)
  have hl : (rng 0 (stepL c p).toNat).length = (stepL c p).toNat := rng_len _ _
  refine sf_cons (s_ret (cs1 := [(a, (stepQ c m p).co)]) (ev_tup (ea_cons (ev_v 4 rfl) (ea_cons (ev_callTy (ea_cons (ev_draws (stepL c p).toNat (own := [("_law_k", 6)]) (p := stepP c p) (n := m + 1) (a := a) nd (blk (top 86) N86 rfl rfl) (ei_range1 T.zrange (ev_v 5 rfl) (by omega)) (fun _ => trivial) ok2 hl (by omega) fun i x hx => ?turn) ea_nil) cd_tupL T.ztuple b_tuple) ea_nil)) (by simp)) ⟨rfl, rfl⟩)
  case turn =>
    exact ⟨_, fun b => tg_name 6 nd, fun b q hq => ev_call (cs0 := [(a, q.co)]) (cs1 := [(a, (q.go (m + 1)).co)]) (fr := []) c_draw hr (by decide) (ea_cons (ev_v 0 rfl) (ea_cons (ev_op (ev_v 2 rfl) ev_int od_add) ea_nil)) ⟨a, q, m + 1, hq, ⟨by omega, by omega⟩, rfl, rfl, rfl, rfl⟩ hlk⟩
end
end Af
set_option Elab.async false
set_option linter.all false
set_option maxRecDepth 100000
set_option pp.maxSteps 400
set_option maxHeartbeats 2000000
/-! ### drawn plans -/
namespace Af
open PySem L2
/-- a step of the law: worths up to mw -/
def LawStep (n : Nat) (mw : Int) : Step → Prop
  | none => True
  | some (f, ws) => 0 ≤ f ∧ ws ≠ [] ∧ f + (ws.length : Int) ≤ (n : Int) ∧ ∀ x ∈ ws, 0 ≤ x ∧ x ≤ mw
structure LawPlan (p : PIn) (mw : Int) : Prop where
  b1 : 1 ≤ p.b.length
  b4 : p.b.length ≤ 4
  bw : ∀ x ∈ p.b, 0 ≤ x ∧ x ≤ mw
  w1 : 1 ≤ p.w
  w3 : p.w ≤ 3
  len : p.st.length ≤ 7
  steps : ∀ s ∈ p.st, LawStep p.b.length mw s
def tripD (p : PIn) : D := .tup [.tup (dints p.b), .int p.w, .lst (p.st.map stepD)]
section
variable {P : Program} {w : World} {K : PySem.W.Frag} {mg : Str → Option Value} {base : Heap} {f : Addr} {fd : FuncData} {CP : Addr}
abbrev N87 : List Str := ["_law_pen_here", "_law_most_cells", "_law_most_steps", "_law_most_worth", "_law_cells", "_law_base_here", "_law_steps_here", "_law_k", "_law_is_barrier"]
theorem sc87 : FnScope N87 ["_law_pen_here", "_law_most_cells", "_law_most_steps", "_law_most_worth"] (defScope (top 87)) := ⟨rfl, rfl, rfl, by decide +kernel, rfl, by decide +kernel, by decide +kernel⟩
def Pre_law_plan (a : Addr) (p : Pn) (xs : List D) (cs : Cs) : Prop := xs = [.ptr a, .int 4, .int 5, .int 2] ∧ cs = [(a, p.co)]
def Post_law_plan (a : Addr) (b : Nat) (y : D) (c : Cs) : Prop := ∃ (q : Pn) (pi : PIn), q.Ok (b + 100) ∧ LawPlan pi 2 ∧ y = tripD pi ∧ c = [(a, q.co)]
theorem ok_law_plan (T : Txt K mg) (F : Fun K "_law_plan" "_law_plan" (top 87) f fd) (c_draw : Cal P w K mg base 2 "_law_draw" (spM false R_law_draw)) (c_step : Cal P w K mg base 3 "_law_step" (spM false R_law_step)) (a : Addr) (p : Pn) (b : Nat) (ok : p.Ok b) (hb : b ≤ 500000000) :
    FnOk P w K mg base CX0 4 f fd ["_law_pen_here", "_law_most_cells", "_law_most_steps", "_law_most_worth"] (spN (Pre_law_plan a p) (fun _ _ y c => Post_law_plan a b y c)) := by
  refine fn_okN F sc87 (by rintro _ _ ⟨rfl, _⟩; rfl) fun cdv A outer s H E xs cs hr hP => ?_
  obtain ⟨rfl, rfl⟩ := hP
  have nd : N87.Nodup := nd_of (by decide +kernel)
  have hPB : PB = 1000000000 := rfl
  have hlk : false = true ∨ ([] : List Addr) = [] := .inr rfl
  have hd := Pn.dig_lt (p := p) (n := 4) (by omega)
  obtain ⟨nc, hnc⟩ : ∃ nc : Nat, 1 + p.dig 4 = (nc : Int) := ⟨(1 + p.dig 4).toNat, by omega⟩
  have hncb : 1 ≤ nc ∧ nc ≤ 4 := by omega
  refine sf_cons (s_set 4 nd (cs1 := [(a, (p.go 4).co)]) (x := .int (nc : Int)) (EvM.cast (ev_op ev_int (ev_call (cs0 := [(a, p.co)]) (cs1 := [(a, (p.go 4).co)]) (fr := []) (y := .int (p.dig 4)) c_draw hr (by decide) (ea_cons (ev_v 0 rfl) (ea_cons (ev_v 1 rfl) ea_nil)) ⟨a, p, 4, ok.mono (by omega), ⟨by omega, by omega⟩, rfl, rfl, rfl, rfl⟩ hlk) od_add) (by rw [hnc])) ?_)
  have ok1 := ok.go 4
  generalize p.go 4 = p1 at ok1
  refine sf_cons (s_set 5 nd (cs1 := [(a, (p1.gos 3 nc).co)]) (x := .tup (dints (p1.digs 3 nc))) (ev_callTy (ea_cons (ev_draws nc (own := [("_law_k", 7)]) (p := p1) (n := 3) (a := a) nd (blk (top 87) N87 rfl rfl) (ei_range1 T.zrange (ev_v 4 rfl) (by omega)) (fun _ => trivial) (ok1.mono (by omega)) (by rw [rng_len]; omega) (by omega) fun i x hx => ?turn) ea_nil) cd_tupL T.ztuple b_tuple) ?_)
  case turn =>
    exact ⟨_, fun b => tg_name 7 nd, fun b q hq => ev_call (cs0 := [(a, q.co)]) (cs1 := [(a, (q.go 3).co)]) (fr := []) c_draw hr (by decide) (ea_cons (ev_v 0 rfl) (ea_cons (EvM.cast (y := .int 3) (ev_op (ev_v 3 rfl) ev_int od_add) rfl) ea_nil)) ⟨a, q, 3, hq, ⟨by omega, by omega⟩, rfl, rfl, rfl, rfl⟩ hlk⟩
  have ok2 := ok1.gos 3 nc
  have hbl : (p1.digs 3 nc).length = nc := Pn.digs_len _ _ _
  have hbm : ∀ x ∈ p1.digs 3 nc, 0 ≤ x ∧ x ≤ 2 := fun x hx => by have := Pn.digs_mem (by omega) hx; omega
  generalize p1.gos 3 nc = p2 at ok2
  generalize p1.digs 3 nc = bs at hbl hbm
  refine sf_cons (s_setP 6 nd (ep_lst ea_nil) fun x cs1 hx => ?_)
  obtain ⟨L, rfl, rfl⟩ := hx
  have hd6 := Pn.dig_lt (p := p2) (n := 6) (by omega)
  refine sf_cons (s_for (G := fun _ => True) (vs := [7]) (ei_range1 T.zrange (ev_call (cs0 := [(a, p2.co)]) (cs1 := [(a, (p2.go 6).co)]) (fr := [(L, .lst [])]) (y := .int (p2.dig 6)) c_draw hr (by decide) (ea_cons (ev_v 0 rfl) (ea_cons (EvM.cast (y := .int 6) (ev_op (ev_v 2 rfl) ev_int od_add) rfl) ea_nil)) ⟨a, p2, 6, ok2.mono (by omega), ⟨by omega, by omega⟩, rfl, rfl, rfl, rfl⟩ hlk) (by omega))
    (fun k ds' cs' => ∃ (q : Pn) (st : List Step) (v7 v8 : Option D), q.Ok (b + 1 + nc + 1 + 6 * k) ∧ st.length = k ∧ (∀ s ∈ st, LawStep nc 2 s) ∧ cs' = [(a, q.co), (L, .lst (st.map stepD))] ∧ ds' = [some (.ptr a), some (.int 4), some (.int 5), some (.int 2), some (.int (nc : Int)), some (.tup (dints bs)), some (.ptr L), v7, v8])
    ⟨p2.go 6, [], _, _, ok2.go 6, rfl, by simp, rfl, rfl⟩ (fun _ _ _ _ => trivial) ?step ?fin)
  case step =>
    rintro k x ds' cs' hx ⟨q, st, v7, v8, okq, hsl, hst, rfl, rfl⟩
    obtain ⟨hk, rfl⟩ := rng_get hx
    have hk5 : k ≤ 5 := by omega
    refine ⟨_, tg_name 7 nd, ?_⟩
    have hd4 := Pn.dig_lt (p := q) (n := 4) (by omega)
    refine sf_cons (s_set 8 nd (cs1 := [(a, (q.go 4).co), (L, .lst (st.map stepD))]) (x := .bl (decide (q.dig 4 = 0))) (ev_cmp (ev_call (cs0 := [(a, q.co)]) (cs1 := [(a, (q.go 4).co)]) (fr := [(L, .lst (st.map stepD))]) (y := .int (q.dig 4)) c_draw hr (by decide) (ea_cons (ev_v 0 rfl) (ea_cons ev_int ea_nil)) ⟨a, q, 4, okq.mono (by omega), ⟨by omega, by omega⟩, rfl, rfl, rfl, rfl⟩ hlk) ev_int od_eqI) ?_)
    have okq1 := okq.go 4
    generalize q.go 4 = q1 at okq1
    by_cases h0 : q.dig 4 = 0
    · rw [decide_eq_true h0]
      refine sf_cons (s_expr (ev_append 1 (ev_v 6 rfl) rfl (x := stepD none) (ev_ifT (et_val (ev_v 8 rfl)) ev_non) rfl (by rw [List.length_map]; omega)) (sf_nil ⟨q1, st ++ [none], _, _, okq1.mono (by omega), by simp [hsl], ?_, ?_, rfl⟩))
      · intro s hs
        rcases List.mem_append.mp hs with z | z
        · exact hst s z
        · rw [List.mem_singleton.mp z]; trivial
      · rw [List.map_append]; rfl
    · rw [decide_eq_false h0]
      have h1 := stepL_le (p := q1) (cells := (nc : Int)) (by omega)
      have h2 := Pn.dig_lt (p := q1) (n := (nc : Int)) (by omega)
      have hwl : (stepW (nc : Int) 2 q1).length = (stepL (nc : Int) q1).toNat := Pn.digs_len _ _ _
      refine sf_cons (s_expr (ev_append 1 (ev_v 6 rfl) rfl (x := stepD (some (q1.dig (nc : Int), stepW (nc : Int) 2 q1))) (ev_ifF (et_val (ev_v 8 rfl)) (ev_call (cs0 := [(a, q1.co)]) (cs1 := [(a, (stepQ (nc : Int) 2 q1).co)]) (fr := [(L, .lst (st.map stepD))]) c_step hr (by decide) (ea_cons (ev_v 0 rfl) (ea_cons (ev_v 4 rfl) (ea_cons (ev_v 3 rfl) (ea_cons ev_int ea_nil)))) ⟨a, q1, (nc : Int), 2, okq1.mono (by omega), ⟨by omega, by omega⟩, ⟨by omega, by omega⟩, rfl, rfl, rfl, rfl⟩ hlk)) rfl (by rw [List.length_map]; omega)) (sf_nil ⟨stepQ (nc : Int) 2 q1, st ++ [some (q1.dig (nc : Int), stepW (nc : Int) 2 q1)], _, _, (stepQ_ok (by omega) okq1).mono (by omega), by simp [hsl], ?_, ?_, rfl⟩))
      · intro s hs
        rcases List.mem_append.mp hs with z | z
        · exact hst s z
        · rw [List.mem_singleton.mp z]
          refine ⟨h2.1, fun e => ?_, by rw [hwl]; omega, fun x hx => ?_⟩
          · rw [e] at hwl
            have : (stepL (nc : Int) q1).toNat = 0 := hwl.symm
            omega
          · have := Pn.digs_mem (n := 2 + 1) (by omega) hx; omega
      · rw [List.map_append]; rfl
  case fin =>
    rintro ds' cs' ⟨q, st, v7, v8, okq, hsl, hst, rfl, rfl⟩
    rw [rng_len] at hsl okq
    refine SF.freezeL 6 1 rfl rfl ?_
    have hd3 := Pn.dig_lt (p := q) (n := 3) (by omega)
    refine sf_cons (s_ret (cs1 := [(a, (q.go 3).co)]) (ev_tup (ea_cons (ev_v 5 rfl) (ea_cons (ev_op ev_int (ev_call (cs0 := [(a, q.co)]) (cs1 := [(a, (q.go 3).co)]) (fr := []) (y := .int (q.dig 3)) c_draw hr (by decide) (ea_cons (ev_v 0 rfl) (ea_cons ev_int ea_nil)) ⟨a, q, 3, okq.mono (by omega), ⟨by omega, by omega⟩, rfl, rfl, rfl, rfl⟩ hlk) od_add) (ea_cons (ev_v 6 rfl) ea_nil))) (by simp)) ⟨q.go 3, ⟨bs, 1 + q.dig 3, st⟩, (okq.go 3).mono (by omega), ⟨by show 1 ≤ bs.length; omega, by show bs.length ≤ 4; omega, hbm, by show 1 ≤ 1 + q.dig 3; omega, by show 1 + q.dig 3 ≤ 3; omega, by show st.length ≤ 7; omega, ?_⟩, rfl, rfl⟩)
    intro s hs
    show LawStep bs.length 2 s
    rw [hbl]; exact hst s hs
end
end Af
set_option Elab.async false
set_option linter.all false
set_option maxRecDepth 100000
set_option pp.maxSteps 400
set_option maxHeartbeats 2000000
/-! ### the law's small ones -/
namespace Af
open PySem L2
def partD (p : PIn) (i : Nat) : D := .tup [.int (p.pl.rank i : Nat), .dic (cellD (p.pl.wr i))]
def partsD (p : PIn) : List D := (List.range p.pl.n).map (partD p)
theorem partsD_len (p : PIn) : (partsD p).length = p.pl.n := by simp [partsD]
theorem partsD_at {p : PIn} {i : Nat} (h : i < p.pl.n) : L2.atI (partsD p) (i : Int) = some (partD p i) := by
  rw [atI_nat (by rw [partsD_len]; exact h)]
  unfold partsD; simp
def overK (c : List Int) (kvs : List (Int × Int)) : List Int := (List.range c.length).map fun (k : Nat) => (kget kvs (k : Int)).getD (c.getD k 0)
def earlyB (p : Pl) (arr : List Int) (k : Nat) : Bool := !((List.range p.n).filter fun j => decide (p.rank j < p.rank k)).all fun (j : Nat) => decide ((j : Int) ∈ arr)
def meetsB (c : List Int) (pat : Pat) : Bool := pat.all fun q => decide (c.getD q.1.toNat 0 ∈ q.2)
def R_law_over (xs : List D) (cs : Cs) (y : D) (cs' : Cs) : Prop := ∃ (c : List Int) (p : PIn) (i : Nat), c.length ≤ 1000 ∧ xs = [.tup (dints c), partD p i] ∧ cs = [] ∧ y = .tup (dints (overK c (p.pl.wr i))) ∧ cs' = []
def R_law_is_early (xs : List D) (cs : Cs) (y : D) (cs' : Cs) : Prop := ∃ (p : PIn) (arr : List Int) (k : Nat), p.pl.n ≤ 1000 ∧ k < p.pl.n ∧ xs = [.lst (partsD p), .tup (dints arr), .int (k : Int)] ∧ cs = [] ∧ y = .bl (earlyB p.pl arr k) ∧ cs' = []
def R_law_meets (xs : List D) (cs : Cs) (y : D) (cs' : Cs) : Prop := ∃ (c : List Int) (pat : Pat), GoodPat c.length pat ∧ xs = [.tup (dints c), .dic (patD pat)] ∧ cs = [] ∧ y = .bl (meetsB c pat) ∧ cs' = []
def R_law_pattern_of (xs : List D) (cs : Cs) (y : D) (cs' : Cs) : Prop := ∃ c : List Int, c.length ≤ 24 ∧ xs = [.tup (dints c)] ∧ cs = [] ∧ y = .dic (patD (ofC c)) ∧ cs' = []
section
variable {P : Program} {w : World} {K : PySem.W.Frag} {mg : Str → Option Value} {base : Heap} {f : Addr} {fd : FuncData} {CP : Addr}
abbrev N89 : List Str := ["_law_state_here", "_law_part", "_law_k"]
theorem sc89 : FnScope N89 ["_law_state_here", "_law_part"] (defScope (top 89)) := ⟨rfl, rfl, rfl, by decide +kernel, rfl, by decide +kernel, by decide +kernel⟩
theorem ok_law_over (T : Txt K mg) (F : Fun K "_law_over" "_law_over" (top 89) f fd) : FnOk P w K mg base CX0 1 f fd ["_law_state_here", "_law_part"] (spM false R_law_over) := by
  refine fn_okM F sc89 (by rintro _ _ _ _ ⟨c, p, i, _, rfl, _⟩; rfl) fun lk cdv A outer s H E xs cs y cs' hlk hr hR => ?_
  obtain ⟨c, p, i, hl, rfl, rfl, rfl, rfl⟩ := hR
  obtain rfl := lk_nil hlk
  have nd : N89.Nodup := nd_of (by decide +kernel)
  have hu := hr.units
  refine sf_cons (s_ret (EvM.cast (ev_callTy (ea_cons (ev_mapG (own := [("_law_k", 2)]) (List.range c.length) (fun (k : Nat) => .int (k : Int)) (fun (k : Nat) => .int ((kget (p.pl.wr i) (k : Int)).getD (c.getD k 0))) nd (blk (top 89) N89 rfl rfl) (ei_range1 T.zrange (ev_callB (ea_cons (ev_v 0 rfl) ea_nil) cd_lenU T.zlen b_len) (by rw [dints_len]; omega)) (by rw [dints_len]; exact rng0_map _) (by simp; omega) (fun _ => trivial) fun j k hk => ⟨_, fun b => tg_name 2 nd, fun b => ?turn⟩) ea_nil) cd_tupL T.ztuple b_tuple) ?_) ⟨rfl, rfl⟩)
  case turn =>
    have hkl : k < c.length := List.mem_range.mp (List.mem_of_getElem? hk)
    have hb1 : (bcx P w K mg base N89 "_law_over" (top 89) f cdv A outer s H E).A.units + 1 < cLine := by omega
    have hg : kget (cellD (p.pl.wr i)) (k : Int) = (kget (p.pl.wr i) (k : Int)).map D.int := kget_map D.int _ _
    refine ev_if (et_inK (kvs := cellD (p.pl.wr i)) hb1 (ev_v 2 rfl) (ev_ixU (ev_v 1 rfl) ev_int rfl)) (fun ht => ?_) fun ht => ?_
    · rw [hg] at ht
      cases e : kget (p.pl.wr i) (k : Int) with
      | none => rw [e] at ht; cases ht
      | some v => exact ev_getK hb1 (ev_ixU (ev_v 1 rfl) ev_int rfl) (ev_v 2 rfl) (by rw [hg, e]; rfl)
    · rw [hg] at ht
      cases e : kget (p.pl.wr i) (k : Int) with
      | none => exact ev_ixU (ev_v 0 rfl) (ev_v 2 rfl) (ints_at hkl)
      | some v => rw [e] at ht; cases ht
  · unfold overK dints; rw [List.map_map]; rfl
abbrev N90 : List Str := ["_law_parts_here", "_law_arrived", "_law_k", "_law_j"]
theorem sc90 : FnScope N90 ["_law_parts_here", "_law_arrived", "_law_k"] (defScope (top 90)) := ⟨rfl, rfl, rfl, by decide +kernel, rfl, by decide +kernel, by decide +kernel⟩
theorem ok_law_is_early (T : Txt K mg) (F : Fun K "_law_is_early" "_law_is_early" (top 90) f fd) : FnOk P w K mg base CX0 1 f fd ["_law_parts_here", "_law_arrived", "_law_k"] (spM false R_law_is_early) := by
  refine fn_okM F sc90 (by rintro _ _ _ _ ⟨p, arr, k, _, _, rfl, _⟩; rfl) fun lk cdv A outer s H E xs cs y cs' hlk hr hR => ?_
  obtain ⟨p, arr, k, hn, hk, rfl, rfl, rfl, rfl⟩ := hR
  obtain rfl := lk_nil hlk
  have nd : N90.Nodup := nd_of (by decide +kernel)
  refine sf_cons (s_ret (ev_not (ev_callB (ea_cons (EvM.cast (y := .lst ((((List.range p.pl.n).filter fun j => decide (p.pl.rank j < p.pl.rank k)).map fun (j : Nat) => decide ((j : Int) ∈ arr)).map D.bl)) (ev_filterG (own := [("_law_j", 3)]) (List.range p.pl.n) (fun (j : Nat) => .int (j : Int)) (fun j => decide (p.pl.rank j < p.pl.rank k)) (fun (j : Nat) => .bl (decide ((j : Int) ∈ arr))) nd (blk (top 90) N90 rfl rfl) (ei_range1 T.zrange (ev_callB (ea_cons (ev_v 0 rfl) ea_nil) cd_lenL T.zlen b_len) (by rw [partsD_len]; omega)) (by rw [partsD_len]; exact rng0_map _) (by simp; omega) (fun _ => trivial) fun i j hj => ?turn) ?_) ea_nil) cd_all T.zall b_all)) ⟨?_, rfl⟩)
  case turn =>
    have hjn : j < p.pl.n := List.mem_range.mp (List.mem_of_getElem? hj)
    exact ⟨_, fun b => tg_name 3 nd, fun b => EvT.cast (et_cmp (ev_ixU (ev_ixL (ev_v 0 rfl) (ev_v 3 rfl) (partsD_at hjn)) ev_int (x := .int (p.pl.rank j : Nat)) rfl) (ev_ixU (ev_ixL (ev_v 0 rfl) (ev_v 2 rfl) (partsD_at hk)) ev_int (x := .int (p.pl.rank k : Nat)) rfl) od_lt) (by simp), fun _ b => ev_cmp (ev_v 3 rfl) (ev_v 1 rfl) od_inU⟩
  · rw [List.map_map]; rfl
  · unfold earlyB; simp
abbrev N93 : List Str := ["_law_state_here", "_law_pattern_here", "_law_k"]
theorem sc93 : FnScope N93 ["_law_state_here", "_law_pattern_here"] (defScope (top 93)) := ⟨rfl, rfl, rfl, by decide +kernel, rfl, by decide +kernel, by decide +kernel⟩
theorem ok_law_meets (T : Txt K mg) (F : Fun K "_law_meets" "_law_meets" (top 93) f fd) : FnOk P w K mg base CX0 1 f fd ["_law_state_here", "_law_pattern_here"] (spM false R_law_meets) := by
  refine fn_okM F sc93 (by rintro _ _ _ _ ⟨c, pat, _, rfl, _⟩; rfl) fun lk cdv A outer s H E xs cs y cs' hlk hr hR => ?_
  obtain ⟨c, pat, hp, rfl, rfl, rfl, rfl⟩ := hR
  obtain rfl := lk_nil hlk
  have nd : N93.Nodup := nd_of (by decide +kernel)
  have hu := hr.units
  have hu1 : (bcx P w K mg base N93 "_law_meets" (top 93) f cdv A outer s H E).A.units + 1 < cLine := by omega
  have hpl : pat.length ≤ 100 := hp.2.2
  refine sf_cons (s_ret (EvM.cast (ev_callB (ea_cons (EvM.cast (y := .lst ((pat.map fun q => decide (c.getD q.1.toNat 0 ∈ q.2)).map D.bl)) (ev_lcKeys (own := [("_law_k", 2)]) (kvs := patD pat) nd (blk (top 93) N93 rfl rfl) (ev_v 1 rfl) (fun i => (pat.take i).map fun q => D.bl (decide (c.getD q.1.toNat 0 ∈ q.2))) (fun _ => []) rfl rfl (fun i hi => by rw [List.length_map, List.length_take]; omega) fun d i x hx => ?turn) ?_) ea_nil) cd_all T.zall b_all) ?_) ⟨rfl, rfl⟩)
  case turn =>
    rw [patD_keys] at hx
    obtain ⟨k, hk, rfl⟩ := dints_get hx
    rw [List.getElem?_map] at hk
    cases e : pat[i]? with
    | none => rw [e] at hk; cases hk
    | some q =>
      rw [e] at hk
      have hkq : q.1 = k := Option.some.inj hk
      have hq := List.mem_of_getElem? e
      have hc := (hp.1 q hq).1
      have ht : pat.take (i + 1) = pat.take i ++ [q] := by rw [List.take_add_one, e]; rfl
      have hgk : kget (patD pat) k = some (.tup (dints q.2)) := by rw [patD_get1, ← hkq, kget_of hp.2.1 (k := q.1) (x := q.2) hq]; rfl
      have hat : L2.atI (dints c) k = some (.int (c.getD q.1.toNat 0)) := by
        have := ints_at (c := c) (j := q.1.toNat) (by omega)
        rw [Int.toNat_of_nonneg hc.1] at this
        rw [← hkq]; exact this
      rw [ht, List.map_append, List.map_cons, List.map_nil]
      refine turn_map (f := id) ?_
      exact ⟨_, fun b => tg_name 2 nd, fun b => ev_cmp (ev_ixU (ev_v 0 rfl) (ev_v 2 rfl) hat) (ev_getK hu1 (ev_v 1 rfl) (ev_v 2 rfl) hgk) od_inU⟩
  · rw [patD_len, List.take_length, List.map_map]; rfl
  · unfold meetsB; simp
abbrev N95 : List Str := ["_law_row", "_law_k"]
theorem sc95 : FnScope N95 ["_law_row"] (defScope (top 95)) := ⟨rfl, rfl, rfl, by decide +kernel, rfl, by decide +kernel, by decide +kernel⟩
theorem ok_law_pattern_of (T : Txt K mg) (F : Fun K "_law_pattern_of" "_law_pattern_of" (top 95) f fd) : FnOk P w K mg base CX0 1 f fd ["_law_row"] (spM false R_law_pattern_of) := by
  refine fn_okM F sc95 (by rintro _ _ _ _ ⟨c, _, rfl, _⟩; rfl) fun lk cdv A outer s H E xs cs y cs' hlk hr hR => ?_
  obtain ⟨c, hl, rfl, rfl, rfl, rfl⟩ := hR
  obtain rfl := lk_nil hlk
  have nd : N95.Nodup := nd_of (by decide +kernel)
  refine sf_cons (s_ret (EvM.cast (ev_callTy (ea_cons (EvM.cast (y := .lst ((patD (ofC c)).map fun p => .tup [.int p.1, p.2])) (ev_mapG (own := [("_law_k", 1)]) (List.range c.length) (fun (k : Nat) => .int (k : Int)) (fun (k : Nat) => .tup [.int (k : Int), .tup (dints [c.getD k 0])]) nd (blk (top 95) N95 rfl rfl) (ei_range1 T.zrange (ev_callB (ea_cons (ev_v 0 rfl) ea_nil) cd_lenU T.zlen b_len) (by rw [dints_len]; omega)) (by rw [dints_len]; exact rng0_map _) (by simp; omega) (fun _ => trivial) fun j k hk => ?turn) ?_) ea_nil) cd_dictP T.zdict b_dict) ?_) ⟨rfl, rfl⟩)
  case turn =>
    have hkl : k < c.length := List.mem_range.mp (List.mem_of_getElem? hk)
    exact ⟨_, fun b => tg_name 1 nd, fun b => ev_tup (ea_cons (ev_v 1 rfl) (ea_cons (ev_tup (ea_cons (ev_ixU (ev_v 0 rfl) (ev_v 1 rfl) (ints_at hkl)) ea_nil) (by rw [dints_len]; simp)) ea_nil)) (by simp)⟩
  · unfold patD ofC; rw [List.map_map, List.map_map]; rfl
  · rw [kputs_nodup _ (ofC_keys c)]
end
end Af
set_option Elab.async false
set_option linter.all false
set_option maxRecDepth 100000
set_option pp.maxSteps 400
set_option maxHeartbeats 2000000
/-! ### some of a pool -/
namespace Af
open PySem L2
def sst (p : Pn) (l : List Int) : Nat → Pn × List Int
  | 0 => (p, l)
  | k + 1 => ((sst p l k).1.go (sst p l k).2.length, (sst p l k).2.eraseIdx ((sst p l k).1.dig (sst p l k).2.length).toNat)
def sel (p : Pn) (l : List Int) (k : Nat) : Int := (sst p l k).2.getD ((sst p l k).1.dig (sst p l k).2.length).toNat 0
def sout (p : Pn) (l : List Int) (k : Nat) : List Int := (List.range k).map (sel p l)
theorem sout_succ (p : Pn) (l : List Int) (k : Nat) : sout p l (k + 1) = sout p l k ++ [sel p l k] := by unfold sout; rw [List.range_succ, List.map_append]; rfl
theorem sst_ok {p : Pn} {b : Nat} (h : p.Ok b) (l : List Int) : ∀ k, (sst p l k).1.Ok (b + k)
  | 0 => h
  | k + 1 => (sst_ok h l k).go _
theorem erase_perm : ∀ {l : List Int} {i : Nat}, i < l.length → (l.getD i 0 :: l.eraseIdx i).Perm l
  | [], _, h => by simp at h
  | x :: l, 0, _ => by simp
  | x :: l, i + 1, h => by
    have ih := erase_perm (l := l) (i := i) (by simpa using h)
    show (l.getD i 0 :: x :: l.eraseIdx i).Perm (x :: l)
    exact (List.Perm.swap _ _ _).trans (ih.cons x)
theorem dints_erase : ∀ (t : List Int) (i : Nat), dints (t.eraseIdx i) = (dints t).eraseIdx i
  | [], _ => rfl
  | x :: t, 0 => rfl
  | x :: t, i + 1 => by
    show D.int x :: dints (t.eraseIdx i) = D.int x :: (dints t).eraseIdx i
    rw [dints_erase]
theorem EvM.castC {lk : List Addr} {X : Cx} {e : Expr} {ds : Ds} {cs cs1 cs2 : Cs} {x y : D} (h : EvM lk X e ds cs x cs1) (q : x = y) (q2 : cs1 = cs2) : EvM lk X e ds cs y cs2 := q ▸ q2 ▸ h
theorem sst_inv (p : Pn) (l : List Int) : ∀ k, k ≤ l.length → (sst p l k).2.length = l.length - k ∧ (sout p l k ++ (sst p l k).2).Perm l
  | 0, _ => ⟨rfl, .refl _⟩
  | k + 1, h => by
    obtain ⟨h1, h2⟩ := sst_inv p l k (by omega)
    have hd := Pn.dig_lt (p := (sst p l k).1) (n := ((sst p l k).2.length : Int)) (by omega)
    have hi : ((sst p l k).1.dig (sst p l k).2.length).toNat < (sst p l k).2.length := by omega
    refine ⟨?_, ?_⟩
    · show ((sst p l k).2.eraseIdx _).length = _
      rw [List.length_eraseIdx_of_lt hi]; omega
    · rw [sout_succ, List.append_assoc]
      exact ((erase_perm hi).append_left _).trans h2
def someN (l : List Int) (m : Int) : Int := (if (l.length : Int) < m then (l.length : Int) else m) + 1
def R_law_some (xs : List D) (cs : Cs) (y : D) (cs' : Cs) : Prop := ∃ (a : Addr) (p : Pn) (l : List Int) (m : Int), p.Ok (PB - 2000) ∧ l.length ≤ 900 ∧ (0 ≤ m ∧ m ≤ 900) ∧ xs = [.ptr a, .lst (dints l), .int m] ∧ cs = [(a, p.co)] ∧ y = .lst (dints (sout (p.go (someN l m)) l (p.dig (someN l m)).toNat)) ∧ cs' = [(a, (sst (p.go (someN l m)) l (p.dig (someN l m)).toNat).1.co)]
section
variable {P : Program} {w : World} {K : PySem.W.Frag} {mg : Str → Option Value} {base : Heap} {f : Addr} {fd : FuncData} {CP : Addr}
abbrev N85 : List Str := ["_law_pen_here", "_law_pool", "_law_most", "_law_rest", "_law_turn"]
theorem sc85 : FnScope N85 ["_law_pen_here", "_law_pool", "_law_most"] (defScope (top 85)) := ⟨rfl, rfl, rfl, by decide +kernel, rfl, by decide +kernel, by decide +kernel⟩
theorem ok_law_some (T : Txt K mg) (F : Fun K "_law_some" "_law_some" (top 85) f fd) (c_draw : Cal P w K mg base 2 "_law_draw" (spM false R_law_draw)) : FnOk P w K mg base CX0 3 f fd ["_law_pen_here", "_law_pool", "_law_most"] (spM false R_law_some) := by
  refine fn_okM F sc85 (by rintro _ _ _ _ ⟨a, p, l, m, _, _, _, rfl, _⟩; rfl) fun lk cdv A outer s H E xs cs y cs' hlk hr hR => ?_
  obtain ⟨a, p, l, m, ok, hl, ⟨hm, hm2⟩, rfl, rfl, rfl, rfl⟩ := hR
  obtain rfl := lk_nil hlk
  have nd : N85.Nodup := nd_of (by decide +kernel)
  have hPB : PB = 1000000000 := rfl
  have hN : 1 ≤ someN l m ∧ someN l m ≤ 1000 ∧ someN l m ≤ (l.length : Int) + 1 := by unfold someN; split <;> omega
  have hd := Pn.dig_lt (p := p) (n := someN l m) (by omega)
  refine sf_cons (s_setP 3 nd (ep_callTy (ea_cons (ev_v 1 rfl) ea_nil) cp_listL T.zlist b_list) fun x cs1 hx => ?_)
  obtain ⟨r, rfl, rfl⟩ := hx
  have okN : p.Ok PB := ok.mono (by omega)
  have ok1 : (p.go (someN l m)).Ok (PB - 1999) := (ok.go _).mono (by omega)
  generalize hk : (p.dig (someN l m)).toNat = cnt
  have hrl : (rng 0 (p.dig (someN l m)).toNat).length = cnt := by rw [rng_len, hk]
  have hcnt : cnt ≤ l.length := by omega
  refine sf_cons (s_ret (cs1 := [(a, (sst (p.go (someN l m)) l cnt).1.co)]) (EvM.drop (a := r) (c := .lst (dints (sst (p.go (someN l m)) l cnt).2)) (EvM.castC (ev_lc (own := [("_law_turn", 4)]) (ifs := []) nd (blk (top 85) N85 rfl rfl) (ei_range1 T.zrange (ev_call (cs0 := [(a, p.co)]) (cs1 := [(a, (p.go (someN l m)).co)]) (fr := [(r, .lst (dints l))]) (y := .int (p.dig (someN l m))) c_draw hr (by decide) (ea_cons (ev_v 0 rfl) (ea_cons (EvM.cast (y := .int (someN l m)) (ev_op (ev_callB (ea_cons (ev_v 2 rfl) (ea_cons (ev_callB (ea_cons (ev_v 3 rfl) ea_nil) (cd_lenC 1 rfl) T.zlen b_len) ea_nil)) cd_min T.zmin b_min) ev_int od_add) (by rw [dints_len]; rfl)) ea_nil)) ⟨a, p, someN l m, okN, ⟨by omega, by omega⟩, rfl, rfl, rfl, rfl⟩ hlk) (by omega))
    (fun k => dints (sout (p.go (someN l m)) l k)) (fun k => [(a, (sst (p.go (someN l m)) l k).1.co), (r, .lst (dints (sst (p.go (someN l m)) l k).2))]) rfl rfl (fun _ _ _ => trivial) (fun k hk2 => ?len) fun k x hx => ?turn) (by rw [hrl]) (by rw [hrl]; rfl))) ⟨rfl, rfl⟩)
  case len =>
    rw [hrl] at hk2
    rw [dints_len]; unfold sout; simp; omega
  case turn =>
    have hkc : k < cnt := by
      have := (List.getElem?_eq_some_iff.mp hx).1
      rwa [hrl] at this
    obtain ⟨h1, h2⟩ := sst_inv (p.go (someN l m)) l k (by omega)
    have okk := sst_ok ok1 l k
    have hdk := Pn.dig_lt (p := (sst (p.go (someN l m)) l k).1) (n := ((sst (p.go (someN l m)) l k).2.length : Int)) (by omega)
    rw [sout_succ, show dints (sout (p.go (someN l m)) l k ++ [sel (p.go (someN l m)) l k]) = dints (sout (p.go (someN l m)) l k) ++ [.int (sel (p.go (someN l m)) l k)] by unfold dints; rw [List.map_append]; rfl]
    unfold sel
    show TurnL _ _ _ _ _ _ _ _ _ _ [(a, ((sst (p.go (someN l m)) l k).1.go (sst (p.go (someN l m)) l k).2.length).co), (r, .lst (dints ((sst (p.go (someN l m)) l k).2.eraseIdx ((sst (p.go (someN l m)) l k).1.dig (sst (p.go (someN l m)) l k).2.length).toNat)))] _ _
    generalize (sst (p.go (someN l m)) l k).1 = q at okk hdk
    generalize (sst (p.go (someN l m)) l k).2 = t at h1 h2 hdk
    have hat : (dints t)[(q.dig t.length).toNat]? = some (.int (t.getD (q.dig t.length).toNat 0)) := by
      have hlt : (q.dig t.length).toNat < t.length := by omega
      unfold dints
      rw [List.getElem?_map, List.getD_eq_getElem?_getD, List.getElem?_eq_getElem hlt]; rfl
    have hee : dints (t.eraseIdx (q.dig t.length).toNat) = (dints t).eraseIdx (q.dig t.length).toNat := dints_erase _ _
    rw [hee]
    refine ⟨_, fun b => tg_name 4 nd, .inl ⟨_, _, .no, fun b => ?_, rfl⟩⟩
    exact ev_popAt (cs2 := [(a, (q.go t.length).co), (r, .lst (dints t))]) (ys := dints t) (xs := dints t) 1 (ev_v 3 rfl) rfl (ev_call (cs0 := [(a, q.co)]) (cs1 := [(a, (q.go t.length).co)]) (fr := [(r, .lst (dints t))]) (y := .int (q.dig t.length)) c_draw hr (by decide) (ea_cons (ev_v 0 rfl) (ea_cons (EvM.cast (y := .int (t.length : Int)) (ev_callB (ea_cons (ev_v 3 rfl) ea_nil) (cd_lenC 1 rfl) T.zlen b_len) (by rw [dints_len])) ea_nil)) ⟨a, q, t.length, okk.mono (by omega), ⟨by omega, by omega⟩, rfl, rfl, rfl, rfl⟩ hlk) rfl (by omega) hat (by rw [dints_len]; omega)
end
end Af
set_option Elab.async false
set_option linter.all false
set_option maxRecDepth 100000
set_option pp.maxSteps 400
set_option maxHeartbeats 2000000
/-! ### drawn patterns -/
namespace Af
open PySem L2
theorem sout_good {p : Pn} {k : Nat} (h : k ≤ 3) : (sout p (rgI 0 3) k).Nodup ∧ ∀ x ∈ sout p (rgI 0 3) k, 0 ≤ x ∧ x < 3 := by
  have hp := (sst_inv p (rgI 0 3) k (by rw [rgI_len]; exact h)).2
  have nd : (rgI 0 3).Nodup := (rgI_lt 0 3).imp fun {a b} h => by omega
  have nd2 := hp.nodup_iff.mpr nd
  refine ⟨(List.nodup_append.mp nd2).1, fun x hx => rgI_mem.mp (hp.mem_iff.mp (List.mem_append_left _ hx))⟩
theorem nodup_rev {α : Type} {l : List α} (h : l.Nodup) : l.reverse.Nodup := by
  unfold List.Nodup at *
  rw [List.pairwise_reverse]
  exact h.imp fun {a b} h => h.symm
def srt (l : List Int) : List Int := l.mergeSort fun a b => decide (a ≤ b)
theorem srt_perm (l : List Int) : (srt l).Perm l := List.mergeSort_perm _ _
theorem srt_sorted (l : List Int) : (srt l).Pairwise (· ≤ ·) := by
  have := List.pairwise_mergeSort (le := fun a b : Int => decide (a ≤ b)) (fun a b c h1 h2 => by simp at *; omega) (fun a b => by simp; omega) l
  exact this.imp fun h => by simpa using h
theorem srt_strict {l : List Int} (h : l.Nodup) : (srt l).Pairwise (· < ·) := by
  have h1 := srt_sorted l
  have h2 : (srt l).Nodup := (srt_perm l).nodup_iff.mpr h
  exact List.Pairwise.imp (fun {a b} (h : a ≤ b ∧ a ≠ b) => by omega) (List.Pairwise.and h1 h2)
def LawPat (n : Nat) (pt : Pat) : Prop := (∀ q ∈ pt, (0 ≤ q.1 ∧ q.1 < (n : Int)) ∧ q.2 ≠ [] ∧ q.2.Pairwise (· < ·) ∧ ∀ x ∈ q.2, 0 ≤ x ∧ x < 3) ∧ (pt.map (·.1)).Nodup ∧ pt.length ≤ n
theorem LawPat.good {n : Nat} {pt : Pat} (hn : n ≤ 24) (h : LawPat n pt) : GoodPat n pt := by
  obtain ⟨h1, h2, h3⟩ := h
  refine ⟨fun q hq => ?_, h2, by omega⟩
  obtain ⟨a, b, c, d⟩ := h1 q hq
  refine ⟨a, ⟨b, fun x hx => by have := d x hx; omega, ?_⟩, c⟩
  have nd : q.2.Nodup := c.imp fun {a b} h => by omega
  have := int_nodup_len (n := 3) nd d
  omega
section
variable {P : Program} {w : World} {K : PySem.W.Frag} {mg : Str → Option Value} {base : Heap} {f : Addr} {fd : FuncData} {CP : Addr}
abbrev N92 : List Str := ["_law_pen_here", "_law_cells", "_law_most_worth", "_law_found", "_law_k", "_law_some_here"]
theorem sc92 : FnScope N92 ["_law_pen_here", "_law_cells", "_law_most_worth"] (defScope (top 92)) := ⟨rfl, rfl, rfl, by decide +kernel, rfl, by decide +kernel, by decide +kernel⟩
def Pre_law_pattern (a : Addr) (p : Pn) (n : Nat) (xs : List D) (cs : Cs) : Prop := xs = [.ptr a, .int (n : Int), .int 2] ∧ cs = [(a, p.co)]
def Post_law_pattern (a : Addr) (b n : Nat) (y : D) (c : Cs) : Prop := ∃ (q : Pn) (pt : Pat), q.Ok (b + 100) ∧ LawPat n pt ∧ y = .dic (patD pt) ∧ c = [(a, q.co)]
theorem ok_law_pattern (T : Txt K mg) (F : Fun K "_law_pattern" "_law_pattern" (top 92) f fd) (c_draw : Cal P w K mg base 2 "_law_draw" (spM false R_law_draw)) (c_some : Cal P w K mg base 3 "_law_some" (spM false R_law_some)) (a : Addr) (p : Pn) (b n : Nat) (ok : p.Ok b) (hb : b ≤ 500000000) (hn : n ≤ 4) :
    FnOk P w K mg base CX0 4 f fd ["_law_pen_here", "_law_cells", "_law_most_worth"] (spN (Pre_law_pattern a p n) (fun _ _ y c => Post_law_pattern a b n y c)) := by
  refine fn_okN F sc92 (by rintro _ _ ⟨rfl, _⟩; rfl) fun cdv A outer s H E xs cs hr hP => ?_
  obtain ⟨rfl, rfl⟩ := hP
  have nd : N92.Nodup := nd_of (by decide +kernel)
  have hPB : PB = 1000000000 := rfl
  have hlk : false = true ∨ ([] : List Addr) = [] := .inr rfl
  have hu := hr.units
  have hu1 : (bcx P w K mg base N92 "_law_pattern" (top 92) f cdv A outer s H E).A.units + 1 < cLine := by omega
  refine sf_cons (s_setP 3 nd ep_dict fun x cs1 hx => ?_)
  obtain ⟨d, rfl, rfl⟩ := hx
  refine sf_cons (s_for (G := fun _ => True) (vs := [4]) (ei_range1 T.zrange (ev_v 1 rfl) (by omega))
    (fun k ds' cs' => ∃ (q : Pn) (pt : Pat) (v4 v5 : Option D), q.Ok (b + 10 * k) ∧ LawPat k pt ∧ cs' = [(a, q.co), (d, .dic (patD pt))] ∧ ds' = [some (.ptr a), some (.int (n : Int)), some (.int 2), some (.ptr d), v4, v5])
    ⟨p, [], _, _, ok, ⟨by simp, by simp, by simp⟩, rfl, rfl⟩ (fun _ _ _ _ => trivial) ?step ?fin)
  case step =>
    rintro k x ds' cs' hx ⟨q, pt, v4, v5, okq, hpt, rfl, rfl⟩
    obtain ⟨hk, rfl⟩ := rng_get hx
    have hkn : k < n := by omega
    have e0 : (0 : Int) + (k : Int) = (k : Int) := by omega
    rw [e0]
    refine ⟨_, tg_name 4 nd, ?_⟩
    have okq1 := okq.go 2
    refine sf_cons (s_if (cs1 := [(a, (q.go 2).co), (d, .dic (patD pt))]) (et_cmp (ev_call (cs0 := [(a, q.co)]) (cs1 := [(a, (q.go 2).co)]) (fr := [(d, .dic (patD pt))]) (y := .int (q.dig 2)) c_draw hr (by decide) (ea_cons (ev_v 0 rfl) (ea_cons ev_int ea_nil)) ⟨a, q, 2, okq.mono (by omega), ⟨by omega, by omega⟩, rfl, rfl, rfl, rfl⟩ hlk) ev_int od_eqI) (fun _ => ?_) fun _ => ?_)
    · generalize q.go 2 = q1 at okq1
      have hs4 : someN (rgI 0 3) 3 = 4 := by unfold someN; rw [rgI_len]; rfl
      have hd4 := Pn.dig_lt (p := q1) (n := 4) (by omega)
      have hcnt : (q1.dig 4).toNat ≤ 3 := by omega
      have ok2 := sst_ok (okq1.go 4) (rgI 0 3) (q1.dig 4).toNat
      obtain ⟨s1, s2⟩ := sout_good (p := q1.go 4) hcnt
      refine sf_cons (s_set 5 nd (cs1 := [(a, (sst (q1.go 4) (rgI 0 3) (q1.dig 4).toNat).1.co), (d, .dic (patD pt))]) (x := .lst (dints (srt (sout (q1.go 4) (rgI 0 3) (q1.dig 4).toNat)))) (ev_callB (ea_cons (ev_call (cs0 := [(a, q1.co)]) (cs1 := [(a, (sst (q1.go 4) (rgI 0 3) (q1.dig 4).toNat).1.co)]) (fr := [(d, .dic (patD pt))]) (y := .lst (dints (sout (q1.go 4) (rgI 0 3) (q1.dig 4).toNat))) c_some hr (by decide) (ea_cons (ev_v 0 rfl) (ea_cons (ev_listRg (n := 3) (EvM.cast (ev_op (ev_v 2 rfl) ev_int od_add) rfl) (by omega) T.zlist T.zrange) (ea_cons (EvM.cast (y := .int 3) (ev_op (ev_v 2 rfl) ev_int od_add) rfl) ea_nil))) ⟨a, q1, rgI 0 3, 3, okq1.mono (by omega), by rw [rgI_len]; decide, ⟨by omega, by omega⟩, rfl, rfl, by rw [hs4], by rw [hs4]⟩ hlk) ea_nil) (cd_sorted (srt_perm _) (srt_sorted _)) T.zsorted b_sorted) ?_)
      generalize (sst (q1.go 4) (rgI 0 3) (q1.dig 4).toNat).1 = q2 at ok2
      have t1 := srt_strict s1
      have t2 : ∀ x ∈ srt (sout (q1.go 4) (rgI 0 3) (q1.dig 4).toNat), 0 ≤ x ∧ x < 3 := fun x hx => s2 x ((srt_perm _).mem_iff.mp hx)
      generalize srt (sout (q1.go 4) (rgI 0 3) (q1.dig 4).toNat) = ws at t1 t2
      have hkey : (k : Int) ∉ (patD pt).map (·.1) := by
        have : (patD pt).map (·.1) = pt.map (·.1) := by unfold patD; rw [List.map_map]; rfl
        rw [this]
        intro z
        obtain ⟨r, hr, e⟩ := List.mem_map.mp z
        have := (hpt.1 r hr).1
        omega
      have hput : ∀ vs : List Int, kput (patD pt) (k : Int) (.tup (dints vs)) = patD (pt ++ [((k : Int), vs)]) := fun vs => by
        rw [kput_new hkey]; unfold patD; rw [List.map_append]; rfl
      have hpl : pt.length ≤ k := hpt.2.2
      have hgood : ∀ vs : List Int, vs ≠ [] → vs.Pairwise (· < ·) → (∀ x ∈ vs, 0 ≤ x ∧ x < 3) → LawPat (k + 1) (pt ++ [((k : Int), vs)]) := fun vs h1 h2 h3 => by
        refine ⟨fun r hr => ?_, ?_, by simp; omega⟩
        · rcases List.mem_append.mp hr with z | z
          · obtain ⟨x1, x2⟩ := hpt.1 r z
            exact ⟨by omega, x2⟩
          · rw [List.mem_singleton.mp z]
            exact ⟨by show 0 ≤ (k : Int) ∧ (k : Int) < ((k + 1 : Nat) : Int); omega, h1, h2, h3⟩
        · rw [List.map_append]
          refine List.nodup_append.mpr ⟨hpt.2.1, by simp, fun x hx y hy e => ?_⟩
          have hy' : y = (k : Int) := by simpa using hy
          obtain ⟨r, hr, e2⟩ := List.mem_map.mp hx
          have := (hpt.1 r hr).1
          omega
      by_cases hw : ws = []
      · have hd3 := Pn.dig_lt (p := q2) (n := 3) (by omega)
        refine sf_cons (s_dput 1 hu1 (cs1 := [(a, (q2.go 3).co), (d, .dic (patD pt))]) (x := .tup (dints [q2.dig 3])) (ev_ifF (et_cmp (t := false) (ev_v 5 rfl) (ev_lst ea_nil) (od_neD (t := true) hu (plain_lst _) (plain_lst []) (Nat.le_trans (depth_lst _) (by decide)) (Nat.le_trans (depth_lst []) (by decide)) (by rw [hw]; simp [dints]))) (ev_tup (ea_cons (ev_call (cs0 := [(a, q2.co)]) (cs1 := [(a, (q2.go 3).co)]) (fr := [(d, .dic (patD pt))]) (y := .int (q2.dig 3)) c_draw hr (by decide) (ea_cons (ev_v 0 rfl) (ea_cons (EvM.cast (y := .int 3) (ev_op (ev_v 2 rfl) ev_int od_add) rfl) ea_nil)) ⟨a, q2, 3, ok2.mono (by omega), ⟨by omega, by omega⟩, rfl, rfl, rfl, rfl⟩ hlk) ea_nil) (show (dints [q2.dig 3]).length ≤ 1000000 by rw [dints_len]; simp))) (ev_v 3 rfl) (ev_v 4 rfl) rfl (by rw [patD_len]; omega) ?_)
        rw [hput]
        exact sf_nil (sf_nil ⟨q2.go 3, _, _, _, (ok2.go 3).mono (by omega), hgood [q2.dig 3] (by simp) (by simp) (by simpa using hd3), rfl, rfl⟩)
      · refine sf_cons (s_dput 1 hu1 (cs1 := [(a, q2.co), (d, .dic (patD pt))]) (x := .tup (dints ws)) (ev_ifT (et_cmp (t := true) (ev_v 5 rfl) (ev_lst ea_nil) (od_neD (t := false) hu (plain_lst _) (plain_lst []) (Nat.le_trans (depth_lst _) (by decide)) (Nat.le_trans (depth_lst []) (by decide)) (ne_nil hw))) (ev_callTy (ea_cons (ev_v 5 rfl) ea_nil) cd_tupL T.ztuple b_tuple)) (ev_v 3 rfl) (ev_v 4 rfl) rfl (by rw [patD_len]; omega) ?_)
        rw [hput]
        exact sf_nil (sf_nil ⟨q2, _, _, _, ok2.mono (by omega), hgood ws hw t1 t2, rfl, rfl⟩)
    · refine sf_nil (sf_nil ⟨q.go 2, pt, _, _, okq1.mono (by omega), ⟨fun r hr => ?_, hpt.2.1, by have := hpt.2.2; omega⟩, rfl, rfl⟩)
      obtain ⟨x1, x2⟩ := hpt.1 r hr
      exact ⟨by omega, x2⟩
  case fin =>
    rintro ds' cs' ⟨q, pt, v4, v5, okq, hpt, rfl, rfl⟩
    have hlen : (rng 0 ((n : Int)).toNat).length = n := by rw [rng_len]; omega
    rw [hlen] at okq hpt
    by_cases h0 : q.dig 2 = 0
    · refine sf_cons (s_ret (cs1 := [(a, (q.go 2).co)]) (x := .dic (patD pt.reverse)) (EvM.drop (a := d) (c := .dic (patD pt)) (ev_ifT (et_cmp (t := true) (ev_call (cs0 := [(a, q.co)]) (cs1 := [(a, (q.go 2).co)]) (fr := [(d, .dic (patD pt))]) (y := .int (q.dig 2)) c_draw hr (by decide) (ea_cons (ev_v 0 rfl) (ea_cons ev_int ea_nil)) ⟨a, q, 2, okq.mono (by omega), ⟨by omega, by omega⟩, rfl, rfl, rfl, rfl⟩ hlk) ev_int (od_eqI.cast (decide_eq_true h0))) (EvM.cast (ev_callTy (ea_cons (EvM.cast (y := .lst ((patD pt.reverse).map fun p => .tup [.int p.1, p.2])) (ev_rev (ev_listItems (q3 := ⟨0, 0, 0, 0⟩) 1 (ev_v 3 rfl) rfl T.zlist b_list)) ?rv) ea_nil) cd_dictP T.zdict b_dict) ?ks))) ⟨q.go 2, pt.reverse, (okq.go 2).mono (by omega), ⟨fun r hr => hpt.1 r (List.mem_reverse.mp hr), ?_, by rw [List.length_reverse]; exact hpt.2.2⟩, rfl, rfl⟩)
      case rv => unfold patD; rw [List.map_reverse, List.map_reverse]
      case ks =>
        rw [kputs_nodup]
        have : (patD pt.reverse).map (·.1) = (pt.map (·.1)).reverse := by unfold patD; rw [List.map_map, ← List.map_reverse]; rfl
        rw [this]
        exact nodup_rev hpt.2.1
      · rw [List.map_reverse]; exact nodup_rev hpt.2.1
    · refine SF.freezeK 3 1 rfl rfl ?_
      exact sf_cons (s_ret (cs1 := [(a, (q.go 2).co)]) (x := .dic (patD pt)) (ev_ifF (et_cmp (t := false) (ev_call (cs0 := [(a, q.co)]) (cs1 := [(a, (q.go 2).co)]) (fr := []) (y := .int (q.dig 2)) c_draw hr (by decide) (ea_cons (ev_v 0 rfl) (ea_cons ev_int ea_nil)) ⟨a, q, 2, okq.mono (by omega), ⟨by omega, by omega⟩, rfl, rfl, rfl, rfl⟩ hlk) ev_int (od_eqI.cast (decide_eq_false h0))) (ev_v 3 rfl)) ⟨q.go 2, pt, (okq.go 2).mono (by omega), hpt, rfl, rfl⟩)
end
end Af
set_option Elab.async false
set_option linter.all false
set_option maxRecDepth 100000
set_option pp.maxSteps 400
set_option maxHeartbeats 2000000
/-! ### a pair with a new cell, put at the end of a list -/
namespace Af
open PySem L2
section
variable {lk : List Addr} {X : Cx} {a b e o : Expr} {ds : Ds} {cs cs1 : Cs} {x : D} {xs ys : List D} {pos apos cpos : Pos} {P : D → Cs → Prop}
theorem ep_append {p : Addr} (i : Nat) (ho : EvM lk X o ds cs (.ptr p) cs1) (h1 : cs1[i]? = some (p, .lst ys)) (he : EvP lk X e ds cs1 P) (h2 : ∀ x c2, P x c2 → c2[i]? = some (p, .lst xs)) (hl : xs.length < 1000000)
    (hbase : attributeBase o "append" X.env (eval o X.env) = eval o X.env := by rfl)
    (hfew : ((backTo cpos (starEach [e] X.env)).all (fun x => !x.1) && (backToKw cpos (keywordEach [] X.env)).all (fun x => x.1.isSome)
      && decide (([e] : List Expr).length + ([] : List Keyword).length + (if ([] : List Keyword).isEmpty then 0 else 1) < 30)) = true := by rfl)
    (hline : (apos.endLine == cpos.line) = true := by rfl) (hs : starEach [e] X.env = (false, eval e X.env) :: starEach [] X.env := by rfl) (hplain : (backTo cpos (starEach [] X.env)).any (·.1) = false := by rfl) :
    EvP lk X (.Call (.Attribute o "append" apos) [e] [] cpos) ds cs (fun y c => ∃ x c2, P x c2 ∧ y = .non ∧ c = c2.set i (p, .lst (xs ++ [x]))) := fun σ S H O E Q q =>
  run_e (pe_bm PySem.F.plainAttrs_list PySem.F.slot_list_append PySem.F.type_list_append mt_append pe_w (pa_cons pe_w pa_nil hs) hbase hfew hline hs hplain) (ho σ S H O E _ fun v S1 H1 O1 s1 r1 => by
    obtain ⟨ws, e1, _⟩ := O1.at_ h1
    rw [rep_ptr.mp r1]
    refine ⟨.inl ⟨rfl, ws, .of e1⟩, he σ S1 H1 O1 (E.mono s1.ext) _ fun x c2 hP w S2 H2 O2 s2 r2 => ?_⟩
    obtain ⟨us, e2, r3⟩ := O2.at_ (h2 x c2 hP)
    refine ⟨p, us, w, rfl, rfl, e2, by rw [r3.len]; exact szl hl, ?_⟩
    exact q _ _ ⟨x, c2, hP, rfl, rfl⟩ _ S2 _ (O2.write (h2 x c2 hP) ⟨_, upd_same, r3.append (.cons r2 .nil)⟩) ((s1.trans s2).trans (.write (h2 x c2 hP))) (rep_non.mpr rfl))
theorem ep_tup2 {x1} (ha : EvM lk X a ds cs x cs1) (hb : EvP lk X b ds cs1 P) (hsa : starEach [a, b] X.env = (false, eval a X.env) :: starEach [b] X.env := by rfl) (hsb : starEach [b] X.env = (false, eval b X.env) :: starEach [] X.env := by rfl) :
    EvP lk X (.Tuple [a, b] x1 pos) ds cs (fun y c => ∃ z, P z c ∧ y = .tup [x, z]) := fun σ S H O E Q q =>
  run_e (pe_tup (pa_cons pe_w (pa_cons pe_w pa_nil hsb) hsa)) (ha σ S H O E _ fun v S1 H1 O1 s1 r1 => hb σ S1 H1 O1 (E.mono s1.ext) _ fun z c hP w S2 H2 O2 s2 r2 => ⟨sz (by simp), fun p hp =>
    ((q _ _ ⟨z, hP, rfl⟩).step (s1.trans s2)).new O2 hp (by rw [Rep]; exact ⟨p, _, rfl, upd_same, (Reps.cons (r1.mono s2.ext) (.cons r2 .nil)).mono (.new (O2.lies.ne hp))⟩)⟩)
end
end Af
set_option Elab.async false
set_option linter.all false
set_option maxRecDepth 100000
set_option pp.maxSteps 400
set_option maxHeartbeats 2000000
/-! ### the law's parts -/
namespace Af
open PySem L2
abbrev Cl := List (Int × Int)
/-- one write: what is closed, and what is open, behind k cells -/
def lpk (w f : Int) (ws : List Int) : Nat → List Cl × Cl
  | 0 => ([], [])
  | k + 1 => let r := lpk w f ws k
    if k = 0 then ([], [(f, ws.getD 0 0)]) else if (f + (k : Int)) % w = 0 then (r.1 ++ [r.2], [(f + (k : Int), ws.getD k 0)]) else (r.1, r.2 ++ [(f + (k : Int), ws.getD k 0)])
def lpAll (w f : Int) (ws : List Int) : List Cl := (lpk w f ws ws.length).1 ++ [(lpk w f ws ws.length).2]
/-- all parts: rank, cells -/
def lps (w : Int) : List Step → Nat → List (Nat × Cl)
  | [], _ => []
  | none :: st, r => lps w st (r + 1)
  | some (f, ws) :: st, r => (lpAll w f ws).map (fun c => (r, c)) ++ lps w st r
def encP (q : Nat × Cl) : D := .tup [.int (q.1 : Int), .dic (cellD q.2)]
theorem lpk_keys (w f : Int) (ws : List Int) : ∀ k, (∀ q ∈ (lpk w f ws k).2, q.1 < f + (k : Int)) ∧ (lpk w f ws k).2.length ≤ k ∧ (lpk w f ws k).1.length ≤ k
  | 0 => by simp [lpk]
  | k + 1 => by
    obtain ⟨h1, h2, h3⟩ := lpk_keys w f ws k
    unfold lpk
    dsimp only
    split
    · refine ⟨fun q hq => ?_, by simp, by simp⟩
      rw [List.mem_singleton.mp hq]; show f < _; omega
    · split
      · refine ⟨fun q hq => ?_, by simp, by simp; omega⟩
        rw [List.mem_singleton.mp hq]; show f + (k : Int) < _; omega
      · refine ⟨fun q hq => ?_, by simp; omega, by show (lpk w f ws k).1.length ≤ k + 1; omega⟩
        rcases List.mem_append.mp hq with z | z
        · have := h1 q z; omega
        · rw [List.mem_singleton.mp z]; show f + (k : Int) < _; omega
/-- the parts of the first steps, and the rank behind them -/
def lpsN (w : Int) (st : List Step) : List (Nat × Cl) × Nat := st.foldl (fun a s => match s with | none => (a.1, a.2 + 1) | some (f, ws) => (a.1 ++ (lpAll w f ws).map (fun c => (a.2, c)), a.2)) ([], 0)
theorem lpsN_snoc (w : Int) (st : List Step) (s : Step) : lpsN w (st ++ [s]) = match s with | none => ((lpsN w st).1, (lpsN w st).2 + 1) | some (f, ws) => ((lpsN w st).1 ++ (lpAll w f ws).map (fun c => ((lpsN w st).2, c)), (lpsN w st).2) := by
  unfold lpsN; rw [List.foldl_append]; rfl
def R_law_parts (xs : List D) (cs : Cs) (y : D) (cs' : Cs) : Prop := ∃ (p : PIn), 0 < p.w ∧ p.w < 1000 ∧ p.st.length ≤ 1000 ∧ (∀ f ws, some (f, ws) ∈ p.st → ws ≠ [] ∧ ws.length ≤ 24) ∧ (∀ i, (lpsN p.w (p.st.take i)).1.length ≤ 1000) ∧ xs = [tripD p] ∧ cs = [] ∧ y = .lst ((lpsN p.w p.st).1.map encP) ∧ cs' = []
theorem cellD_put {c : Cl} {k v : Int} (h : ∀ q ∈ c, q.1 < k) : kput (cellD c) k (.int v) = cellD (c ++ [(k, v)]) := by
  rw [kput_new]
  · unfold cellD; rw [List.map_append]; rfl
  · intro z
    have : (cellD c).map (·.1) = c.map (·.1) := by unfold cellD; rw [List.map_map]; rfl
    rw [this] at z
    obtain ⟨q, hq, e⟩ := List.mem_map.mp z
    have := h q hq
    omega
theorem atI_last {xs : List D} {x : D} : L2.atI (xs ++ [x]) (-1) = some x := by
  have e : ixN (xs ++ [x]).length (-1) = some xs.length := by
    rw [List.length_append]
    unfold ixN
    simp
    try omega
  unfold L2.atI
  rw [e]; simp
end Af
set_option Elab.async false
set_option linter.all false
set_option maxRecDepth 100000
set_option pp.maxSteps 400
set_option maxHeartbeats 2000000
/-! ### _law_parts -/
namespace Af
open PySem L2
theorem lpk_open {w f : Int} {ws : List Int} {k : Nat} (h : k = 0 ∨ (f + (k : Int)) % w = 0) : lpk w f ws (k + 1) = ((if k = 0 then [] else (lpk w f ws k).1 ++ [(lpk w f ws k).2]), [(f + (k : Int), ws.getD k 0)]) := by
  show (if k = 0 then _ else _) = _
  by_cases h0 : k = 0
  · subst h0; simp
  · rcases h with h | h
    · exact absurd h h0
    · rw [if_neg h0, if_pos h, if_neg h0]
theorem lpk_more {w f : Int} {ws : List Int} {k : Nat} (h0 : k ≠ 0) (h : (f + (k : Int)) % w ≠ 0) : lpk w f ws (k + 1) = ((lpk w f ws k).1, (lpk w f ws k).2 ++ [(f + (k : Int), ws.getD k 0)]) := by
  show (if k = 0 then _ else _) = _
  rw [if_neg h0, if_neg h]
theorem SF.close {lk : List Addr} {X : Cx} {ss : List Stmt} {ds : Ds} {cs : Cs} {k : KE} {L : Addr} (PS : List D) (h : cs = [(L, .lst PS)] ∨ ∃ (d : Addr) (qs : List D) (r : Int) (kvs : List (Int × D)), cs = [(L, .lst (qs ++ [.tup [.int r, .ptr d]])), (d, .dic kvs)] ∧ PS = qs ++ [.tup [.int r, .dic kvs]]) (hb : SF lk X ss ds [(L, .lst PS)] k) : SF lk X ss ds cs k := by
  rcases h with rfl | ⟨d, qs, r, kvs, rfl, rfl⟩
  · exact hb
  · exact SF.settle hb
section
variable {P : Program} {w : World} {K : PySem.W.Frag} {mg : Str → Option Value} {base : Heap} {f : Addr} {fd : FuncData} {CP : Addr}
abbrev N88 : List Str := ["_law_triple", "_law_found", "_law_rank", "_law_step_here", "_law_first", "_law_row", "_law_k"]
theorem sc88 : FnScope N88 ["_law_triple"] (defScope (top 88)) := ⟨rfl, rfl, rfl, by decide +kernel, rfl, by decide +kernel, by decide +kernel⟩
theorem ok_law_parts (T : Txt K mg) (F : Fun K "_law_parts" "_law_parts" (top 88) f fd) : FnOk P w K mg base CX0 1 f fd ["_law_triple"] (spM false R_law_parts) := by
  refine fn_okM F sc88 (by rintro _ _ _ _ ⟨p, _, _, _, _, _, rfl, _⟩; rfl) fun lk cdv A outer s H E xs cs y cs' hlk hr hR => ?_
  obtain ⟨p, hw, hw2, hst, hgood, hfew, rfl, rfl, rfl, rfl⟩ := hR
  obtain rfl := lk_nil hlk
  have nd : N88.Nodup := nd_of (by decide +kernel)
  have hu := hr.units
  have hu1 : (bcx P w K mg base N88 "_law_parts" (top 88) f cdv A outer s H E).A.units + 1 < cLine := by omega
  refine sf_cons (s_parP (P2 := fun x c1 y c2 => y = .int 0 ∧ c2 = c1) 1 2 nd (ep_lst ea_nil) (fun x c1 _ => EvM.p ev_int ⟨rfl, rfl⟩) fun x c1 y c2 h1 h2 => ?_)
  obtain ⟨L, rfl, rfl⟩ := h1
  obtain ⟨rfl, rfl⟩ := h2
  refine sf_cons (s_for (G := fun _ => True) (vs := [3]) (xs := p.st.map stepD) (ei_lst (ev_ixU (ev_v 0 rfl) ev_int rfl)) (fun i ds' cs' => ∃ (v3 v4 v5 v6 : Option D), cs' = [(L, .lst ((lpsN p.w (p.st.take i)).1.map encP))] ∧ ds' = [some (tripD p), some (.ptr L), some (.int ((lpsN p.w (p.st.take i)).2 : Nat)), v3, v4, v5, v6]) ⟨_, _, _, _, rfl, rfl⟩ (fun _ _ _ _ => trivial) ?step ?fin)
  case fin =>
    rintro ds' cs' ⟨v3, v4, v5, v6, rfl, rfl⟩
    rw [List.length_map, List.take_length]
    refine SF.freezeL 1 0 rfl rfl ?_
    exact sf_cons (s_ret (ev_v 1 rfl) ⟨rfl, rfl⟩)
  case step =>
    rintro i x ds' cs' hx ⟨v3, v4, v5, v6, rfl, rfl⟩
    rw [List.getElem?_map] at hx
    obtain ⟨sv, hsv, rfl⟩ : ∃ sv, p.st[i]? = some sv ∧ x = stepD sv := by
      cases e : p.st[i]? with
      | none => rw [e] at hx; cases hx
      | some sv => rw [e] at hx; exact ⟨sv, rfl, (Option.some.inj hx).symm⟩
    have hf := hfew (i + 1)
    have ht : p.st.take (i + 1) = p.st.take i ++ [sv] := by rw [List.take_add_one, hsv]; rfl
    rw [ht, lpsN_snoc] at hf
    rw [ht, lpsN_snoc]
    generalize (lpsN p.w (p.st.take i)).1 = ps at hf
    generalize (lpsN p.w (p.st.take i)).2 = r at hf
    refine ⟨_, tg_name 3 nd, ?_⟩
    cases sv with
    | none =>
      refine sf_cons (s_ifT (et_cmp (x := .non) (t := true) (ev_v 3 rfl) ev_non od_is) (sf_cons (s_set 2 nd (cs1 := [(L, .lst (ps.map encP))]) (x := .int ((r + 1 : Nat) : Int)) (EvM.cast (ev_op (ev_v 2 rfl) ev_int od_add) (by congr 1)) (sf_nil (sf_nil ⟨_, _, _, _, rfl, rfl⟩)))))
    | some sw =>
      obtain ⟨g, ws⟩ := sw
      obtain ⟨hws, hwl⟩ := hgood g ws (List.mem_of_getElem? hsv)
      have hpos : 0 < ws.length := List.length_pos_iff.mpr hws
      have hpl : ps.length ≤ 1000 := by
        have : ps.length ≤ (ps ++ (lpAll p.w g ws).map (fun c => (r, c))).length := by rw [List.length_append]; omega
        exact Nat.le_trans this hf
      refine sf_cons (s_ifF (et_cmp (x := .tup [.int g, .tup (dints ws)]) (t := false) (ev_v 3 rfl) ev_non od_is) ?_)
      refine sf_cons (s_tgt (vs := [4, 5]) (x := .tup [.int g, .tup (dints ws)]) (ev_v 3 rfl) (tg_tup2 4 5 nd) ?_)
      refine sf_cons (s_for (G := fun _ => True) (vs := [6]) (ei_range1 T.zrange (ev_callB (ea_cons (ev_v 5 rfl) ea_nil) cd_lenU T.zlen b_len) (by rw [dints_len]; omega))
        (fun k ds' cs' => (∃ v6 : Option D, ds' = [some (tripD p), some (.ptr L), some (.int (r : Int)), some (stepD (some (g, ws))), some (.int g), some (.tup (dints ws)), v6]) ∧ ((k = 0 ∧ cs' = [(L, .lst (ps.map encP))]) ∨ (k ≠ 0 ∧ ∃ d, cs' = [(L, .lst ((ps ++ (lpk p.w g ws k).1.map (fun c => (r, c))).map encP ++ [.tup [.int (r : Int), .ptr d]])), (d, .dic (cellD (lpk p.w g ws k).2))]))) ⟨⟨_, rfl⟩, .inl ⟨rfl, rfl⟩⟩ (fun _ _ _ _ => trivial) ?step2 ?fin2)
      case fin2 =>
        rintro ds' cs' ⟨⟨v6, rfl⟩, h⟩
        rw [rng_len, dints_len] at h
        have e0 : ((ws.length : Int)).toNat = ws.length := by omega
        rw [e0] at h
        rcases h with ⟨h, _⟩ | ⟨_, d, rfl⟩
        · omega
        · refine sf_nil (SF.settle (sf_nil ⟨_, _, _, _, ?_, rfl⟩))
          have e : (ps ++ (lpAll p.w g ws).map (fun c => (r, c))).map encP = (ps ++ (lpk p.w g ws ws.length).1.map (fun c => (r, c))).map encP ++ [encP (r, (lpk p.w g ws ws.length).2)] := by unfold lpAll; simp
          show _ = [(L, CO.lst ((ps ++ (lpAll p.w g ws).map (fun c => (r, c))).map encP))]
          rw [e]; rfl
      case step2 =>
        rintro k x ds' cs' hx ⟨⟨v6, rfl⟩, h⟩
        obtain ⟨hk, rfl⟩ := rng_get hx
        rw [dints_len] at hk
        have hk' : k < ws.length := by omega
        have e0 : (0 : Int) + (k : Int) = (k : Int) := by omega
        rw [e0]
        obtain ⟨l1, l2, l3⟩ := lpk_keys p.w g ws k
        have hat : L2.atI (dints ws) (k : Int) = some (.int (ws.getD k 0)) := ints_at hk'
        refine ⟨_, tg_name 6 nd, ?_⟩
        by_cases hopen : k = 0 ∨ (g + (k : Int)) % p.w = 0
        · have hlo := lpk_open (w := p.w) (f := g) (ws := ws) hopen
          have ts : (decide ((k : Int) = 0) || decide ((g + (k : Int)) % p.w = 0)) = true := by
            rcases hopen with h | h
            · simp [h]
            · simp [h]
          refine SF.close ((ps ++ ((if k = 0 then [] else (lpk p.w g ws k).1 ++ [(lpk p.w g ws k).2]) : List Cl).map (fun c => (r, c))).map encP) (L := L) ?cl ?_
          case cl =>
            rcases h with ⟨h0, rfl⟩ | ⟨h0, d, rfl⟩
            · left; rw [if_pos h0]; simp
            · right
              refine ⟨d, _, (r : Int), _, rfl, ?_⟩
              rw [if_neg h0]; simp [encP]
          have hPl : ((ps ++ ((if k = 0 then [] else (lpk p.w g ws k).1 ++ [(lpk p.w g ws k).2]) : List Cl).map (fun c => (r, c))).map encP).length < 1000000 := by
            rw [List.length_map, List.length_append, List.length_map]
            have : ((if k = 0 then [] else (lpk p.w g ws k).1 ++ [(lpk p.w g ws k).2]) : List Cl).length ≤ k + 1 := by
              split
              · simp
              · rw [List.length_append]; simp; omega
            omega
          have hlo1 : (lpk p.w g ws (k + 1)).1 = (if k = 0 then [] else (lpk p.w g ws k).1 ++ [(lpk p.w g ws k).2]) := by rw [hlo]
          have hlo2 : (lpk p.w g ws (k + 1)).2 = [(g + (k : Int), ws.getD k 0)] := by rw [hlo]
          rw [← hlo1] at hPl ⊢
          generalize hPS : (ps ++ (lpk p.w g ws (k + 1)).1.map (fun c => (r, c))).map encP = PS at hPl
          refine sf_cons (s_ifT (EvT.cast (et_w (ew_or (et_cmp (ev_v 6 rfl) ev_int od_eqI) (fun _ => ew_or1 (et_cmp (ev_op (ev_callTy (ea_cons (ev_op (ev_v 4 rfl) (ev_v 6 rfl) od_add) ea_nil) cd_int T.zint b_int) (ev_ixU (ev_v 0 rfl) ev_int rfl) (od_mod hw)) ev_int od_eqI)))) ts) (sf_cons (s_exprP (ep_append 0 (ev_v 1 rfl) rfl (ep_tup2 (ev_v 2 rfl) ep_dict) (fun x c2 hx => ?ap) hPl) fun y c hy => ?_)))
          case ap =>
            obtain ⟨z, ⟨d, rfl, rfl⟩, rfl⟩ := hx
            rfl
          obtain ⟨x, c2, ⟨z, ⟨d, rfl, rfl⟩, rfl⟩, rfl, rfl⟩ := hy
          refine sf_nil ?_
          refine sf_cons (s_dput (kvs := []) 1 hu1 (ev_ixU (ev_v 5 rfl) (ev_v 6 rfl) hat) (ev_ixU (ev_ixC (xs := PS ++ [.tup [.int (r : Int), .ptr d]]) 0 (ev_v 1 rfl) (ev_neg ev_int) rfl atI_last) ev_int rfl) (ev_op (ev_v 4 rfl) (ev_v 6 rfl) od_add) rfl (by simp) (sf_nil ⟨⟨_, rfl⟩, .inr ⟨by omega, d, ?_⟩⟩))
          rw [hlo2]; rfl
        · have hk0 : k ≠ 0 := fun e => hopen (.inl e)
          have hm0 : (g + (k : Int)) % p.w ≠ 0 := fun e => hopen (.inr e)
          have hlm := lpk_more (w := p.w) (f := g) (ws := ws) hk0 hm0
          have ts : (decide ((k : Int) = 0) || decide ((g + (k : Int)) % p.w = 0)) = false := by simp [hk0, hm0]
          rcases h with ⟨h0, _⟩ | ⟨_, d, rfl⟩
          · exact absurd h0 hk0
          have hlm1 : (lpk p.w g ws (k + 1)).1 = (lpk p.w g ws k).1 := by rw [hlm]
          have hlm2 : (lpk p.w g ws (k + 1)).2 = (lpk p.w g ws k).2 ++ [(g + (k : Int), ws.getD k 0)] := by rw [hlm]
          generalize hPS : (ps ++ (lpk p.w g ws k).1.map (fun c => (r, c))).map encP = PS
          refine sf_cons (s_ifF (EvT.cast (et_w (ew_or (et_cmp (ev_v 6 rfl) ev_int od_eqI) (fun _ => ew_or1 (et_cmp (ev_op (ev_callTy (ea_cons (ev_op (ev_v 4 rfl) (ev_v 6 rfl) od_add) ea_nil) cd_int T.zint b_int) (ev_ixU (ev_v 0 rfl) ev_int rfl) (od_mod hw)) ev_int od_eqI)))) ts) (sf_nil ?_))
          refine sf_cons (s_dput (kvs := cellD (lpk p.w g ws k).2) 1 hu1 (ev_ixU (ev_v 5 rfl) (ev_v 6 rfl) hat) (ev_ixU (ev_ixC (xs := PS ++ [.tup [.int (r : Int), .ptr d]]) 0 (ev_v 1 rfl) (ev_neg ev_int) rfl atI_last) ev_int rfl) (ev_op (ev_v 4 rfl) (ev_v 6 rfl) od_add) rfl (by simp [cellD]; omega) (sf_nil ⟨⟨_, rfl⟩, .inr ⟨by omega, d, ?_⟩⟩))
          rw [cellD_put l1, hlm1, hlm2, hPS]; rfl
end
end Af
set_option Elab.async false
set_option linter.all false
set_option maxRecDepth 100000
set_option pp.maxSteps 400
set_option maxHeartbeats 2000000
/-! ### the law's parts are the plan's pieces -/
namespace Af
def pcCells (q : Piece) : Cl := cellsOf q.2.1 q.2.2
theorem cellsOf_snoc (g : Int) (l : List Int) (v : Int) : cellsOf g (l ++ [v]) = cellsOf g l ++ [(g + (l.length : Int), v)] := by
  unfold cellsOf
  rw [List.zipIdx_append, List.map_append]
  simp
theorem seg_snoc {ws : List Int} {s k : Nat} (hs : s ≤ k) (hk : k < ws.length) : (ws.drop s).take (k + 1 - s) = (ws.drop s).take (k - s) ++ [ws.getD k 0] := by
  have e : k + 1 - s = (k - s) + 1 := by omega
  rw [e, List.take_add_one]
  congr 1
  rw [List.getElem?_drop, show s + (k - s) = k by omega, List.getD_eq_getElem?_getD, List.getElem?_eq_getElem hk]
  rfl
theorem seg_one {ws : List Int} {k : Nat} (hk : k < ws.length) : (ws.drop k).take 1 = [ws.getD k 0] := by
  have := seg_snoc (Nat.le_refl k) hk
  rw [show k + 1 - k = 1 by omega, show k - k = 0 by omega] at this
  simpa using this
theorem seg_len {ws : List Int} {s k : Nat} (hs : s ≤ k) (hk : k ≤ ws.length) : ((ws.drop s).take (k - s)).length = k - s := by
  rw [List.length_take, List.length_drop]; omega
theorem brk_inv (i : Nat) (f : Int) (ws : List Int) (w : Int) : ∀ k, k < ws.length → (brkN i f ws w k).1.map pcCells = (lpk w f ws (k + 1)).1 ∧ (lpk w f ws (k + 1)).2 = cellsOf (f + ((brkN i f ws w k).2 : Int)) ((ws.drop (brkN i f ws w k).2).take (k + 1 - (brkN i f ws w k).2))
  | 0, h => by
    refine ⟨rfl, ?_⟩
    show [(f, ws.getD 0 0)] = cellsOf (f + ((0 : Nat) : Int)) ((ws.drop 0).take 1)
    rw [seg_one h]
    simp [cellsOf]
  | k + 1, h => by
    obtain ⟨h1, h2⟩ := brk_inv i f ws w k (by omega)
    have hle := (brkN_le i f ws w k).1
    by_cases hc : (f + ((k + 1 : Nat) : Int)) % w = 0
    · have eb : brkN i f ws w (k + 1) = ((brkN i f ws w k).1 ++ [(i, f + ((brkN i f ws w k).2 : Int), (ws.drop (brkN i f ws w k).2).take (k + 1 - (brkN i f ws w k).2))], k + 1) := by
        show (if _ then _ else _) = _
        rw [if_pos (.inr hc)]
      have el := lpk_open (w := w) (f := f) (ws := ws) (k := k + 1) (.inr hc)
      rw [if_neg (by omega)] at el
      rw [eb, el]
      refine ⟨?_, ?_⟩
      · rw [List.map_append, h1, h2]; rfl
      · show [(f + ((k + 1 : Nat) : Int), ws.getD (k + 1) 0)] = cellsOf (f + ((k + 1 : Nat) : Int)) ((ws.drop (k + 1)).take (k + 1 + 1 - (k + 1)))
        rw [show k + 1 + 1 - (k + 1) = 1 by omega, seg_one h]
        simp [cellsOf]
    · have eb : brkN i f ws w (k + 1) = brkN i f ws w k := by
        show (if _ then _ else _) = _
        rw [if_neg (fun z => z.elim (fun z => by omega) hc)]
      have el := lpk_more (w := w) (f := f) (ws := ws) (k := k + 1) (by omega) hc
      rw [eb, el]
      refine ⟨h1, ?_⟩
      rw [h2, seg_snoc (s := (brkN i f ws w k).2) (k := k + 1) (by omega) h, cellsOf_snoc, seg_len (by omega) (by omega)]
      have e : f + ((brkN i f ws w k).2 : Int) + ((k + 1 - (brkN i f ws w k).2 : Nat) : Int) = f + ((k + 1 : Nat) : Int) := by omega
      rw [e]
theorem brk_lp (i : Nat) (f : Int) (ws : List Int) (w : Int) (h : ws ≠ []) : (brk i f ws w).map pcCells = lpAll w f ws := by
  obtain ⟨m, hm⟩ : ∃ m, ws.length = m + 1 := ⟨ws.length - 1, by have := List.length_pos_iff.mpr h; omega⟩
  obtain ⟨h1, h2⟩ := brk_inv i f ws w m (by omega)
  unfold brk lpAll
  rw [hm]
  have eb : brkN i f ws w (m + 1) = ((brkN i f ws w m).1 ++ [(i, f + ((brkN i f ws w m).2 : Int), (ws.drop (brkN i f ws w m).2).take (m + 1 - (brkN i f ws w m).2))], m + 1) := by
    show (if _ then _ else _) = _
    rw [if_pos (.inl hm.symm)]
  rw [eb, List.map_append, h1, h2]; rfl
end Af
set_option Elab.async false
set_option linter.all false
set_option maxRecDepth 100000
set_option pp.maxSteps 400
set_option maxHeartbeats 2000000
namespace Af
theorem brkN_idx (i : Nat) (f : Int) (ws : List Int) (w : Int) : ∀ k, ∀ q ∈ (brkN i f ws w k).1, q.1 = i
  | 0 => by simp [brkN]
  | k + 1 => by
    have ih := brkN_idx i f ws w k
    unfold brkN
    dsimp only
    split
    · intro q hq
      rcases List.mem_append.mp hq with z | z
      · exact ih q z
      · rw [List.mem_singleton.mp z]
    · exact ih
theorem pcsN_snoc (w : Int) (st : List Step) (s : Step) : pcsN w (st ++ [s]) = pcsN w st ++ stepPcs w st.length s := by
  unfold pcsN
  rw [List.zipIdx_append, List.flatMap_append]
  simp
def rkOf (st : List Step) (q : Piece) : Nat := (st.take q.1).countP (·.isNone)
theorem lpsN_eq {w : Int} : ∀ (n : Nat) (st : List Step), st.length = n → (∀ f ws, some (f, ws) ∈ st → ws ≠ []) → (lpsN w st).1 = (pcsN w st).map (fun q => (rkOf st q, pcCells q)) ∧ (lpsN w st).2 = st.countP (·.isNone)
  | 0, st, h, _ => by
    rw [List.length_eq_zero_iff.mp h]; exact ⟨rfl, rfl⟩
  | n + 1, st, h, hg => by
    rcases List.eq_nil_or_concat st with e | ⟨st', s, e⟩
    · rw [e] at h; cases h
    rw [List.concat_eq_append] at e
    subst e
    obtain ⟨h1, h2⟩ := lpsN_eq n st' (by simpa using h) fun f ws hm => hg f ws (List.mem_append_left _ hm)
    have keep : ∀ q ∈ pcsN w st', (rkOf st' q, pcCells q) = (rkOf (st' ++ [s]) q, pcCells q) := fun q hq => by
      have := pcs_idx hq
      unfold rkOf
      rw [List.take_append_of_le_length (by omega)]
    rw [lpsN_snoc, pcsN_snoc, List.map_append, List.countP_append, h2]
    cases s with
    | none =>
      refine ⟨?_, rfl⟩
      show (lpsN w st').1 = _ ++ []
      rw [List.append_nil, h1]
      exact List.map_congr_left keep
    | some sw =>
      obtain ⟨f, ws⟩ := sw
      refine ⟨?_, by simp⟩
      show (lpsN w st').1 ++ (lpAll w f ws).map (fun c => (st'.countP (·.isNone), c)) = _ ++ (brk st'.length f ws w).map _
      rw [h1, List.map_congr_left keep, ← brk_lp st'.length f ws w (hg f ws (by simp)), List.map_map]
      congr 1
      refine List.map_congr_left fun q hq => ?_
      have hi : q.1 = st'.length := brkN_idx _ _ _ _ _ q hq
      show (st'.countP (·.isNone), pcCells q) = (rkOf (st' ++ [some (f, ws)]) q, pcCells q)
      unfold rkOf
      rw [hi, List.take_append_of_le_length (Nat.le_refl _), List.take_length]
theorem lps_parts (p : PIn) (hg : ∀ f ws, some (f, ws) ∈ p.st → ws ≠ []) : (lpsN p.w p.st).1.map encP = partsD p := by
  rw [(lpsN_eq p.st.length p.st rfl hg).1, List.map_map]
  apply List.ext_getElem
  · rw [List.length_map, partsD_len]; rfl
  intro i h1 h2
  rw [List.length_map] at h1
  have hin : i < p.pl.n := by rw [← partsD_len]; exact h2
  have e : (partsD p)[i] = partD p i := by
    have e1 : (partsD p)[i]? = some (partD p i) := by
      unfold partsD
      rw [List.getElem?_map, List.getElem?_range hin]; rfl
    exact Option.some.inj ((List.getElem?_eq_getElem h2).symm.trans e1)
  rw [e, List.getElem_map]
  unfold partD
  have hr : p.pl.rank i = rkOf p.st ((pcsN p.w p.st)[i]) := by
    show ((rksN p.w p.st).getD i 0) = _
    unfold rksN
    rw [List.getD_eq_getElem?_getD, List.getElem?_map, List.getElem?_eq_getElem h1]; rfl
  have hwr : p.pl.wr i = pcCells ((pcsN p.w p.st)[i]) := by
    show cellsOf ((pcsN p.w p.st).getD i (0, 0, [])).2.1 ((pcsN p.w p.st).getD i (0, 0, [])).2.2 = _
    rw [List.getD_eq_getElem?_getD, List.getElem?_eq_getElem h1]; rfl
  rw [hr, hwr]; rfl
end Af
set_option Elab.async false
set_option linter.all false
set_option maxRecDepth 100000
set_option pp.maxSteps 400
set_option maxHeartbeats 2000000
/-! ### plans of the law are good -/
namespace Af
theorem brkN_seg (i : Nat) (f : Int) (ws : List Int) (w : Int) : ∀ k, ∀ q ∈ (brkN i f ws w k).1, ∃ s m : Nat, q = (i, f + (s : Int), (ws.drop s).take m)
  | 0 => by simp [brkN]
  | k + 1 => by
    have ih := brkN_seg i f ws w k
    unfold brkN
    dsimp only
    split
    · intro q hq
      rcases List.mem_append.mp hq with z | z
      · exact ih q z
      · rw [List.mem_singleton.mp z]; exact ⟨_, _, rfl⟩
    · exact ih
theorem pcs_in {w : Int} {st : List Step} {pc : Piece} (h : pc ∈ pcsN w st) : ∃ f ws, some (f, ws) ∈ st ∧ ∀ q ∈ pcCells pc, f ≤ q.1 ∧ q.1 < f + (ws.length : Int) ∧ q.2 ∈ ws := by
  unfold pcsN at h
  obtain ⟨⟨s, i⟩, hs, hp⟩ := List.mem_flatMap.mp h
  have hst : s ∈ st := (List.mem_zipIdx hs).2.2 ▸ List.getElem_mem _
  cases s with
  | none => simp [stepPcs] at hp
  | some v =>
    obtain ⟨g, ws⟩ := v
    refine ⟨g, ws, hst, fun q hq => ?_⟩
    obtain ⟨s, m, rfl⟩ := brkN_seg i g ws w ws.length pc hp
    obtain ⟨j, hj, e⟩ := cellsOf_mem.mp hq
    obtain ⟨hjl, hje⟩ := List.getElem?_eq_some_iff.mp hj
    have hlen : ((ws.drop s).take m).length ≤ ws.length - s := by rw [List.length_take, List.length_drop]; omega
    have hjl' : j < ((ws.drop s).take m).length := hjl
    have e' : q.1 = g + (s : Int) + (j : Int) := e
    refine ⟨by omega, by omega, ?_⟩
    have : q.2 ∈ (ws.drop s).take m := List.mem_of_getElem? hj
    exact List.mem_of_mem_drop (List.mem_of_mem_take this)
theorem PIn.Good.wf {p : PIn} (G : p.Good) : p.pl.WF := by
  constructor
  · show (rksN p.w p.st).length = (pcsN p.w p.st).length
    simp [rksN]
  · intro i hi q hq
    have hi' : i < (pcsN p.w p.st).length := hi
    have hwr : p.pl.wr i = pcCells ((pcsN p.w p.st)[i]) := by
      show cellsOf ((pcsN p.w p.st).getD i (0, 0, [])).2.1 ((pcsN p.w p.st).getD i (0, 0, [])).2.2 = _
      rw [List.getD_eq_getElem?_getD, List.getElem?_eq_getElem hi']; rfl
    rw [hwr] at hq
    obtain ⟨f, ws, hm, h⟩ := pcs_in (List.getElem_mem hi')
    have hs := G.steps _ hm
    obtain ⟨a, b, _⟩ := h q hq
    obtain ⟨c, d, _, e⟩ := hs
    show 0 ≤ q.1 ∧ q.1 < (p.b.length : Int)
    omega
  · intro i hi
    have hi' : i < (pcsN p.w p.st).length := hi
    show ((rksN p.w p.st).getD i 0) < p.st.countP (·.isNone) + 1
    unfold rksN
    rw [List.getD_eq_getElem?_getD, List.getElem?_map, List.getElem?_eq_getElem hi']
    show (p.st.take _).countP (·.isNone) < _
    have := (List.take_sublist ((pcsN p.w p.st)[i]).1 p.st).countP_le (p := (·.isNone))
    omega
  · show 0 < p.st.countP (·.isNone) + 1
    omega
theorem pcs_few {w : Int} {m : Nat} : ∀ {n : Nat} {st : List Step}, st.length = n → (∀ f ws, some (f, ws) ∈ st → ws.length ≤ m) → (pcsN w st).length ≤ n * m
  | 0, st, h, _ => by rw [List.length_eq_zero_iff.mp h]; simp [pcsN]
  | n + 1, st, h, hg => by
    rcases List.eq_nil_or_concat st with e | ⟨st', s, e⟩
    · rw [e] at h; cases h
    rw [List.concat_eq_append] at e
    subst e
    have ih := pcs_few (w := w) (n := n) (st := st') (by simpa using h) fun f ws hm => hg f ws (List.mem_append_left _ hm)
    rw [pcsN_snoc, List.length_append, Nat.succ_mul]
    have : (stepPcs w st'.length s).length ≤ m := by
      cases s with
      | none => simp [stepPcs]
      | some v =>
        obtain ⟨f, ws⟩ := v
        exact Nat.le_trans (brkN_le _ _ _ _ _).2 (hg f ws (by simp))
    omega
theorem LawPlan.good {p : PIn} {mw : Int} (hm : mw ≤ 7) (L : LawPlan p mw) : p.Good := by
  have hb := L.b4
  have hb1 := L.b1
  have hw := L.w3
  have hl := L.len
  have hs : ∀ f ws, some (f, ws) ∈ p.st → 0 ≤ f ∧ ws ≠ [] ∧ f + (ws.length : Int) ≤ (p.b.length : Int) ∧ ∀ x ∈ ws, 0 ≤ x ∧ x ≤ mw := fun f ws h => L.steps _ h
  refine ⟨⟨fun e => by rw [e] at hb1; simp at hb1, fun x hx => by have := L.bw x hx; omega, by omega⟩, L.w1, by omega, by omega, fun s h => ?_, ?_⟩
  · cases s with
    | none => trivial
    | some v =>
      obtain ⟨f, ws⟩ := v
      obtain ⟨a, b, c, d⟩ := hs f ws h
      have := List.length_pos_iff.mpr b
      exact ⟨a, by omega, ⟨b, fun x hx => by have := d x hx; omega, by omega⟩, c⟩
  · have := pcs_few (w := p.w) (m := 4) (n := p.st.length) (st := p.st) rfl fun f ws h => by
      obtain ⟨a, b, c, d⟩ := hs f ws h; omega
    have h2 : p.st.length * 4 ≤ 7 * 4 := Nat.mul_le_mul_right 4 hl
    omega
end Af
set_option Elab.async false
set_option linter.all false
set_option maxRecDepth 100000
set_option pp.maxSteps 400
set_option maxHeartbeats 2000000
/-! ### worths of contents; barriers -/
namespace Af
theorem over1_mem {x : Int} : ∀ {kvs : List (Int × Int)} {c : List Int}, x ∈ over1 c kvs → x ∈ c ∨ ∃ q ∈ kvs, q.2 = x
  | [], c, h => .inl h
  | q :: kvs, c, h => by
    rcases over1_mem (kvs := kvs) (c := c.set q.1.toNat q.2) h with h | ⟨z, hz, e⟩
    · rcases List.mem_or_eq_of_mem_set h with h | h
      · exact .inl h
      · exact .inr ⟨q, List.mem_cons_self, h.symm⟩
    · exact .inr ⟨z, List.mem_cons_of_mem _ hz, e⟩
theorem over_mem {p : Pl} {x : Int} : ∀ {F : List Nat} {c : List Int}, x ∈ over p c F → x ∈ c ∨ ∃ i ∈ F, ∃ q ∈ p.wr i, q.2 = x
  | [], c, h => .inl h
  | i :: F, c, h => by
    rcases over_mem (F := F) (c := over1 c (p.wr i)) h with h | ⟨j, hj, z⟩
    · rcases over1_mem h with h | h
      · exact .inl h
      · exact .inr ⟨i, List.mem_cons_self, h⟩
    · exact .inr ⟨j, List.mem_cons_of_mem _ hj, z⟩
theorem wr_at {p : PIn} {i : Nat} (hi : i < p.pl.n) : p.pl.wr i = pcCells ((pcsN p.w p.st)[i]'hi) := by
  show cellsOf ((pcsN p.w p.st).getD i (0, 0, [])).2.1 ((pcsN p.w p.st).getD i (0, 0, [])).2.2 = _
  have hi' : i < (pcsN p.w p.st).length := hi
  rw [List.getD_eq_getElem?_getD, List.getElem?_eq_getElem hi']; rfl
theorem found_wd {p : PIn} {mw : Int} (L : LawPlan p mw) {d : List Int} (h : Found p.pl d) : ∀ x ∈ d, 0 ≤ x ∧ x ≤ mw := by
  obtain ⟨F, hF, rfl⟩ := h
  intro x hx
  rcases over_mem hx with h | ⟨i, hi, q, hq, rfl⟩
  · exact L.bw x h
  · rw [wr_at (hF.lt i hi)] at hq
    obtain ⟨f, ws, hm, h⟩ := pcs_in (List.getElem_mem (hF.lt i hi))
    have hs : LawStep p.b.length mw (some (f, ws)) := L.steps _ hm
    exact hs.2.2.2 _ (h q hq).2.2
theorem LawPlan.sm {p : PIn} {mw : Int} (hm : mw ≤ 7) (L : LawPlan p mw) : Sm p := by
  have hb := L.b4
  exact ⟨L.good hm, (L.good hm).wf, by show p.b.length ≤ 24; omega, fun d h x hx => by have := found_wd L h x hx; omega⟩
/-! barriers -/
def nones (st : List Step) : Nat := st.countP (·.isNone)
theorem lps_eq (w : Int) : ∀ (st : List Step) (acc : List (Nat × Cl)) (r : Nat), st.foldl (fun a s => match s with | none => (a.1, a.2 + 1) | some (f, ws) => (a.1 ++ (lpAll w f ws).map (fun c => (a.2, c)), a.2)) (acc, r) = (acc ++ lps w st r, r + nones st)
  | [], acc, r => by simp [lps, nones]
  | none :: st, acc, r => by
    rw [List.foldl_cons]
    show st.foldl _ (acc, r + 1) = _
    rw [lps_eq w st acc (r + 1)]
    show _ = (acc ++ lps w st (r + 1), _)
    congr 1
    unfold nones
    simp; omega
  | some (f, ws) :: st, acc, r => by
    rw [List.foldl_cons]
    show st.foldl _ (acc ++ (lpAll w f ws).map (fun c => (r, c)), r) = _
    rw [lps_eq w st _ r]
    show _ = (acc ++ ((lpAll w f ws).map (fun c => (r, c)) ++ lps w st r), _)
    rw [List.append_assoc]
    congr 1
theorem lpsN_lps (w : Int) (st : List Step) : (lpsN w st).1 = lps w st 0 := by
  have := lps_eq w st [] 0
  exact (congrArg Prod.fst this).trans (List.nil_append _)
theorem lps_append (w : Int) : ∀ (a b : List Step) (r : Nat), lps w (a ++ b) r = lps w a r ++ lps w b (r + nones a)
  | [], b, r => by simp [lps, nones]
  | none :: a, b, r => by
    show lps w (a ++ b) (r + 1) = lps w a (r + 1) ++ _
    rw [lps_append w a b (r + 1)]
    congr 2
    unfold nones; simp; omega
  | some (f, ws) :: a, b, r => by
    show (lpAll w f ws).map _ ++ lps w (a ++ b) r = ((lpAll w f ws).map _ ++ lps w a r) ++ _
    rw [lps_append w a b r, List.append_assoc]
    congr 3
theorem lps_up (w : Int) : ∀ (a : List Step) (r : Nat), lps w a (r + 1) = (lps w a r).map fun q => (q.1 + 1, q.2)
  | [], r => rfl
  | none :: a, r => lps_up w a (r + 1)
  | some (f, ws) :: a, r => by
    show (lpAll w f ws).map _ ++ lps w a (r + 1) = ((lpAll w f ws).map _ ++ lps w a r).map _
    rw [List.map_append, lps_up w a r, List.map_map]; rfl
theorem lps_ge (w : Int) : ∀ (a : List Step) (r : Nat), ∀ q ∈ lps w a r, r ≤ q.1 ∧ q.1 ≤ r + nones a
  | [], r, q, h => by simp [lps] at h
  | none :: a, r, q, h => by
    have := lps_ge w a (r + 1) q h
    have e : nones (none :: a) = nones a + 1 := by unfold nones; simp
    omega
  | some (f, ws) :: a, r, q, h => by
    have e : nones (some (f, ws) :: a) = nones a := by unfold nones; simp
    rcases List.mem_append.mp h with z | z
    · obtain ⟨c, _, rfl⟩ := List.mem_map.mp z
      exact ⟨Nat.le_refl _, Nat.le_add_right _ _⟩
    · have := lps_ge w a r q z
      omega
end Af
set_option Elab.async false
set_option linter.all false
set_option maxRecDepth 100000
set_option pp.maxSteps 400
set_option maxHeartbeats 2000000
/-! ### barriers: the same contents -/
namespace Af
/-- ranks and cells of the pieces, in a row -/
def rows (p : PIn) : List (Nat × Cl) := lps p.w p.st 0
def NE (st : List Step) : Prop := ∀ f ws, some (f, ws) ∈ st → ws ≠ []
theorem rows_len {p : PIn} (h : NE p.st) : (rows p).length = p.pl.n := by
  unfold rows
  rw [← lpsN_lps, (lpsN_eq p.st.length p.st rfl h).1, List.length_map]; rfl
theorem rows_at {p : PIn} (h : NE p.st) {i : Nat} (hi : i < p.pl.n) : (rows p)[i]? = some (p.pl.rank i, p.pl.wr i) := by
  have hi' : i < (pcsN p.w p.st).length := hi
  unfold rows
  rw [← lpsN_lps, (lpsN_eq p.st.length p.st rfl h).1, List.getElem?_map, List.getElem?_eq_getElem hi', wr_at hi]
  have hr : p.pl.rank i = rkOf p.st ((pcsN p.w p.st)[i]) := by
    show ((rksN p.w p.st).getD i 0) = _
    unfold rksN
    rw [List.getD_eq_getElem?_getD, List.getElem?_map, List.getElem?_eq_getElem hi']; rfl
  rw [hr]; rfl
theorem over_same {p q : Pl} (hw : ∀ i, i < p.n → p.wr i = q.wr i) : ∀ (F : List Nat) (c : List Int), (∀ i ∈ F, i < p.n) → over p c F = over q c F
  | [], c, _ => rfl
  | i :: F, c, h => by
    show over p (over1 c (p.wr i)) F = over q (over1 c (q.wr i)) F
    rw [hw i (h i List.mem_cons_self)]
    exact over_same hw F _ fun j hj => h j (List.mem_cons_of_mem _ hj)
theorem found_to {p q : Pl} (hb : p.base = q.base) (hn : p.n = q.n) (hw : ∀ i, i < p.n → p.wr i = q.wr i) (hr : ∀ i j, i < p.n → j < p.n → q.rank i < q.rank j → p.rank i < p.rank j) {c : List Int} (h : Found p c) : Found q c := by
  obtain ⟨F, hF, rfl⟩ := h
  refine ⟨F, ⟨hF.nd, fun i hi => hn ▸ hF.lt i hi, fun j x hx z hz hlt => hF.low j x hx z (hn ▸ hz) (hr z x (hn ▸ hz) (hF.lt x (List.mem_of_getElem? hx)) hlt)⟩, ?_⟩
  rw [← hb, over_same hw F p.base hF.lt]
/-- without one barrier -/
theorem found_without {b : List Int} {w : Int} {s t : List Step} (h : NE (s ++ t)) {c : List Int} (hf : Found (PIn.pl ⟨b, w, s ++ none :: t⟩) c) : Found (PIn.pl ⟨b, w, s ++ t⟩) c := by
  have h2 : NE (s ++ none :: t) := fun f ws hm => h f ws (by
    rcases List.mem_append.mp hm with z | z
    · exact List.mem_append_left _ z
    · rcases List.mem_cons.mp z with z | z
      · cases z
      · exact List.mem_append_right _ z)
  have e1 : rows ⟨b, w, s ++ none :: t⟩ = lps w s 0 ++ (lps w t (nones s)).map fun q => (q.1 + 1, q.2) := by
    show lps w (s ++ none :: t) 0 = _
    rw [lps_append]
    show _ ++ lps w t (0 + nones s + 1) = _
    rw [lps_up, Nat.zero_add]
  have e2 : rows ⟨b, w, s ++ t⟩ = lps w s 0 ++ lps w t (nones s) := by
    show lps w (s ++ t) 0 = _
    rw [lps_append, Nat.zero_add]
  have hn : (PIn.pl ⟨b, w, s ++ none :: t⟩).n = (PIn.pl ⟨b, w, s ++ t⟩).n := by
    rw [← rows_len (p := ⟨b, w, s ++ none :: t⟩) h2, ← rows_len (p := ⟨b, w, s ++ t⟩) h, e1, e2]; simp
  have at1 : ∀ i, i < (PIn.pl ⟨b, w, s ++ none :: t⟩).n → ∃ r r' cl, (rows ⟨b, w, s ++ none :: t⟩)[i]? = some (r', cl) ∧ (rows ⟨b, w, s ++ t⟩)[i]? = some (r, cl) ∧ ((i < (lps w s 0).length ∧ r' = r ∧ r ≤ nones s) ∨ ((lps w s 0).length ≤ i ∧ r' = r + 1 ∧ nones s ≤ r)) := by
    intro i hi
    have hi2 : i < (rows ⟨b, w, s ++ t⟩).length := by rw [rows_len (p := ⟨b, w, s ++ t⟩) h, ← hn]; exact hi
    rw [e1, e2]
    rw [e2, List.length_append] at hi2
    by_cases z : i < (lps w s 0).length
    · refine ⟨((lps w s 0)[i]).1, ((lps w s 0)[i]).1, ((lps w s 0)[i]).2, ?_, ?_, .inl ⟨z, rfl, ?_⟩⟩
      · rw [List.getElem?_append_left z, List.getElem?_eq_getElem z]
      · rw [List.getElem?_append_left z, List.getElem?_eq_getElem z]
      · have := (lps_ge w s 0 _ (List.getElem_mem z)).2; omega
    · have z2 : i - (lps w s 0).length < (lps w t (nones s)).length := by omega
      refine ⟨((lps w t (nones s))[i - (lps w s 0).length]).1, _, ((lps w t (nones s))[i - (lps w s 0).length]).2, ?_, ?_, .inr ⟨by omega, rfl, (lps_ge w t (nones s) _ (List.getElem_mem z2)).1⟩⟩
      · rw [List.getElem?_append_right (by omega), List.getElem?_map, List.getElem?_eq_getElem z2]; rfl
      · rw [List.getElem?_append_right (by omega), List.getElem?_eq_getElem z2]
  refine found_to (p := PIn.pl ⟨b, w, s ++ none :: t⟩) (q := PIn.pl ⟨b, w, s ++ t⟩) rfl hn (fun i hi => ?_) (fun i j hi hj hlt => ?_) hf
  · obtain ⟨r, r', cl, a1, a2, _⟩ := at1 i hi
    rw [rows_at (p := ⟨b, w, s ++ none :: t⟩) h2 hi] at a1
    rw [rows_at (p := ⟨b, w, s ++ t⟩) h (hn ▸ hi)] at a2
    have := Option.some.inj a1
    have := Option.some.inj a2
    simp_all
  · obtain ⟨r, r', cl, a1, a2, a3⟩ := at1 i hi
    obtain ⟨q, q', cq, c1, c2, c3⟩ := at1 j hj
    rw [rows_at (p := ⟨b, w, s ++ none :: t⟩) h2 hi] at a1
    rw [rows_at (p := ⟨b, w, s ++ t⟩) h (hn ▸ hi)] at a2
    rw [rows_at (p := ⟨b, w, s ++ none :: t⟩) h2 hj] at c1
    rw [rows_at (p := ⟨b, w, s ++ t⟩) h (hn ▸ hj)] at c2
    have b1 : (PIn.pl ⟨b, w, s ++ none :: t⟩).rank i = r' := congrArg Prod.fst (Option.some.inj a1)
    have b2 : (PIn.pl ⟨b, w, s ++ t⟩).rank i = r := congrArg Prod.fst (Option.some.inj a2)
    have b3 : (PIn.pl ⟨b, w, s ++ none :: t⟩).rank j = q' := congrArg Prod.fst (Option.some.inj c1)
    have b4 : (PIn.pl ⟨b, w, s ++ t⟩).rank j = q := congrArg Prod.fst (Option.some.inj c2)
    omega
end Af
set_option Elab.async false
set_option linter.all false
set_option maxRecDepth 100000
set_option pp.maxSteps 400
set_option maxHeartbeats 2000000
namespace Af
theorem found_rows {b : List Int} {w : Int} {s t : List Step} (hs : NE s) (ht : NE t) (m : Nat) (e : lps w t 0 = (lps w s 0).map fun q => (q.1 + m, q.2)) {c : List Int} (hf : Found (PIn.pl ⟨b, w, s⟩) c) : Found (PIn.pl ⟨b, w, t⟩) c := by
  have er : rows ⟨b, w, t⟩ = (rows ⟨b, w, s⟩).map fun q => (q.1 + m, q.2) := e
  have hn : (PIn.pl ⟨b, w, s⟩).n = (PIn.pl ⟨b, w, t⟩).n := by
    rw [← rows_len (p := ⟨b, w, s⟩) hs, ← rows_len (p := ⟨b, w, t⟩) ht, er]; simp
  have key : ∀ i, i < (PIn.pl ⟨b, w, s⟩).n → (PIn.pl ⟨b, w, t⟩).rank i = (PIn.pl ⟨b, w, s⟩).rank i + m ∧ (PIn.pl ⟨b, w, t⟩).wr i = (PIn.pl ⟨b, w, s⟩).wr i := fun i hi => by
    have h2 := rows_at (p := ⟨b, w, t⟩) ht (hn ▸ hi)
    rw [er, List.getElem?_map, rows_at (p := ⟨b, w, s⟩) hs hi] at h2
    have h3 := Option.some.inj h2
    exact ⟨(congrArg Prod.fst h3).symm, (congrArg Prod.snd h3).symm⟩
  refine found_to (p := PIn.pl ⟨b, w, s⟩) (q := PIn.pl ⟨b, w, t⟩) rfl hn (fun i hi => (key i hi).2.symm) (fun i j hi hj hlt => ?_) hf
  have h1 := (key i hi).1
  have h2 := (key j hj).1
  omega
theorem NE.cons {t : List Step} (h : NE t) : NE (none :: t) := fun f ws hm => h f ws (by
  rcases List.mem_cons.mp hm with z | z
  · cases z
  · exact z)
theorem NE.snoc {t : List Step} (h : NE t) : NE (t ++ [none]) := fun f ws hm => h f ws (by
  rcases List.mem_append.mp hm with z | z
  · exact z
  · cases List.mem_singleton.mp z)
/-- a barrier at the start -/
theorem found_start {b : List Int} {w : Int} {t : List Step} (h : NE t) {c : List Int} : Found (PIn.pl ⟨b, w, none :: t⟩) c ↔ Found (PIn.pl ⟨b, w, t⟩) c :=
  ⟨fun hf => found_without (s := []) h hf, fun hf => found_rows h h.cons 1 (lps_up w t 0) hf⟩
/-- a barrier at the end -/
theorem found_end {b : List Int} {w : Int} {t : List Step} (h : NE t) {c : List Int} : Found (PIn.pl ⟨b, w, t ++ [none]⟩) c ↔ Found (PIn.pl ⟨b, w, t⟩) c := by
  constructor
  · intro hf
    have := found_without (s := t) (t := []) (b := b) (w := w) (c := c) (by rw [List.append_nil]; exact h) hf
    rwa [List.append_nil] at this
  · intro hf
    refine found_rows h h.snoc 0 ?_ hf
    rw [lps_append]
    show lps w t 0 ++ [] = _
    simp
end Af
set_option Elab.async false
set_option linter.all false
set_option maxRecDepth 100000
set_option pp.maxSteps 400
set_option maxHeartbeats 2000000
/-! ### counting contents -/
namespace Af
section
variable {α β : Type}
theorem nodup_sub_len [DecidableEq α] : ∀ {l m : List α}, l.Nodup → (∀ x ∈ l, x ∈ m) → l.length ≤ m.length
  | [], m, _, _ => Nat.zero_le _
  | x :: t, m, nd, h => by
    rw [List.nodup_cons] at nd
    have hx : x ∈ m := h x List.mem_cons_self
    have ih := nodup_sub_len (l := t) (m := m.erase x) nd.2 fun y hy => by
      have hne : y ≠ x := fun e => nd.1 (e ▸ hy)
      exact (List.mem_erase_of_ne hne).mpr (h y (List.mem_cons_of_mem _ hy))
    have hl := List.length_erase_of_mem hx
    have hp : 0 < m.length := List.length_pos_of_mem hx
    rw [List.length_cons]; omega
def ddl [DecidableEq α] : List α → List α
  | [] => []
  | x :: t => if x ∈ ddl t then ddl t else x :: ddl t
theorem ddl_mem [DecidableEq α] {y : α} : ∀ {l : List α}, y ∈ ddl l ↔ y ∈ l
  | [] => by simp [ddl]
  | x :: t => by
    unfold ddl
    have ih := ddl_mem (y := y) (l := t)
    split
    · rename_i h
      rw [ih, List.mem_cons]
      constructor
      · intro q; exact .inr q
      · rintro (q | q)
        · subst q; exact ih.mp h
        · exact q
    · rw [List.mem_cons, List.mem_cons, ih]
theorem ddl_nodup [DecidableEq α] : ∀ l : List α, (ddl l).Nodup
  | [] => by simp [ddl]
  | x :: t => by
    unfold ddl
    split
    · exact ddl_nodup t
    · rename_i h
      rw [List.nodup_cons]; exact ⟨h, ddl_nodup t⟩
theorem flat_len_eq {f : α → List β} {c : Nat} : ∀ {l : List α}, (∀ x ∈ l, (f x).length = c) → (l.flatMap f).length = l.length * c
  | [], _ => by simp
  | x :: t, h => by
    rw [List.flatMap_cons, List.length_append, h x List.mem_cons_self, flat_len_eq (l := t) (fun y hy => h y (List.mem_cons_of_mem _ hy)), List.length_cons, Nat.add_mul]; omega
theorem filter_len2 (f : α → Bool) : ∀ l : List α, (l.filter f).length + (l.filter fun x => !f x).length = l.length
  | [] => rfl
  | x :: t => by
    have ih := filter_len2 f t
    cases h : f x with
    | true => rw [List.filter_cons_of_pos h, List.filter_cons_of_neg (by simp [h]), List.length_cons, List.length_cons]; omega
    | false => rw [List.filter_cons_of_neg (by simp [h]), List.filter_cons_of_pos (by simp [h]), List.length_cons, List.length_cons]; omega
end
/-- rows of different numbers from a row -/
def arrs : Nat → List Nat → List (List Nat)
  | 0, _ => [[]]
  | k + 1, l => [] :: l.flatMap fun x => (arrs k (l.erase x)).map (x :: ·)
def ar : Nat → Nat → Nat
  | 0, _ => 1
  | k + 1, m => 1 + m * ar k (m - 1)
theorem arrs_len : ∀ (k : Nat) (l : List Nat), (arrs k l).length = ar k l.length
  | 0, _ => rfl
  | k + 1, l => by
    unfold arrs ar
    rw [List.length_cons, flat_len_eq (c := ar k (l.length - 1)) fun x hx => by rw [List.length_map, arrs_len k, List.length_erase_of_mem hx]]
    omega
theorem arrs_mem : ∀ {k : Nat} {F l : List Nat}, F.Nodup → (∀ x ∈ F, x ∈ l) → F.length ≤ k → F ∈ arrs k l
  | 0, F, l, _, _, h => by
    have : F = [] := List.eq_nil_of_length_eq_zero (by omega)
    subst this; simp [arrs]
  | k + 1, [], l, _, _, _ => by simp [arrs]
  | k + 1, x :: t, l, nd, hs, h => by
    rw [List.nodup_cons] at nd
    unfold arrs
    refine List.mem_cons_of_mem _ (List.mem_flatMap.mpr ⟨x, hs x List.mem_cons_self, List.mem_map.mpr ⟨t, arrs_mem nd.2 (fun y hy => ?_) (by simpa using h), rfl⟩⟩)
    have hne : y ≠ x := fun e => nd.1 (e ▸ hy)
    exact (List.mem_erase_of_ne hne).mpr (hs y (List.mem_cons_of_mem _ hy))
/-- rows of k worths below 3 -/
def wds : Nat → List (List Int)
  | 0 => [[]]
  | k + 1 => (wds k).flatMap fun r => [0 :: r, 1 :: r, 2 :: r]
theorem wds_len : ∀ k, (wds k).length = 3 ^ k
  | 0 => rfl
  | k + 1 => by
    unfold wds
    rw [flat_len_eq (c := 3) fun x _ => rfl, wds_len k, Nat.pow_succ]
theorem wds_mem : ∀ {c : List Int}, (∀ x ∈ c, 0 ≤ x ∧ x ≤ 2) → c ∈ wds c.length
  | [], _ => by simp [wds]
  | x :: t, h => by
    have ih := wds_mem (c := t) fun y hy => h y (List.mem_cons_of_mem _ hy)
    have hx := h x List.mem_cons_self
    rw [List.length_cons]
    unfold wds
    refine List.mem_flatMap.mpr ⟨t, ih, ?_⟩
    have : x = 0 ∨ x = 1 ∨ x = 2 := by omega
    rcases this with e | e | e <;> simp [e]
/-- pairs of projections -/
theorem count_pair {l : List (List Int)} (s a b : Nat) (nd : l.Nodup) (hX : ∀ m : List (List Int), m.Nodup → (∀ x ∈ m, ∃ c ∈ l, x = c.take s) → m.length ≤ a)
    (hY : ∀ m : List (List Int), m.Nodup → (∀ x ∈ m, ∃ c ∈ l, x = c.drop s) → m.length ≤ b) : l.length ≤ a * b := by
  have h1 := hX (ddl (l.map (·.take s))) (ddl_nodup _) fun x hx => by
    obtain ⟨c, hc, e⟩ := List.mem_map.mp (ddl_mem.mp hx)
    exact ⟨c, hc, e.symm⟩
  have h2 := hY (ddl (l.map (·.drop s))) (ddl_nodup _) fun x hx => by
    obtain ⟨c, hc, e⟩ := List.mem_map.mp (ddl_mem.mp hx)
    exact ⟨c, hc, e.symm⟩
  have nd2 : (l.map fun c => (c.take s, c.drop s)).Nodup := by
    show List.Pairwise _ _
    rw [List.pairwise_map]
    refine nd.imp fun {x y} hne (e : (x.take s, x.drop s) = (y.take s, y.drop s)) => hne ?_
    have e1 := congrArg Prod.fst e
    have e2 := congrArg Prod.snd e
    have e3 : x.take s = y.take s := e1
    have e4 : x.drop s = y.drop s := e2
    rw [← List.take_append_drop s x, ← List.take_append_drop s y, e3, e4]
  have h3 := nodup_sub_len (m := (ddl (l.map (·.take s))).flatMap fun x => (ddl (l.map (·.drop s))).map fun y => (x, y)) nd2 fun q hq => by
    obtain ⟨c, hc, e⟩ := List.mem_map.mp hq
    refine List.mem_flatMap.mpr ⟨c.take s, ddl_mem.mpr (List.mem_map.mpr ⟨c, hc, rfl⟩), List.mem_map.mpr ⟨c.drop s, ddl_mem.mpr (List.mem_map.mpr ⟨c, hc, rfl⟩), e⟩⟩
  rw [List.length_map, flat_len_eq (c := (ddl (l.map (·.drop s))).length) fun x _ => by rw [List.length_map]] at h3
  exact Nat.le_trans h3 (Nat.mul_le_mul h1 h2)
/-! projections of contents -/
theorem valR_filter (p : Pl) (k : Int) (f : Nat → Bool) : ∀ (F : List Nat) (b : Int), (∀ i ∈ F, f i = false → kget (p.wr i) k = none) → valR p k (F.filter f) b = valR p k F b
  | [], b, _ => rfl
  | i :: t, b, h => by
    have ih := valR_filter p k f t b fun j hj => h j (List.mem_cons_of_mem _ hj)
    cases hi : f i with
    | true => rw [List.filter_cons_of_pos hi]; show (kget (p.wr i) k).getD _ = (kget (p.wr i) k).getD _; rw [ih]
    | false =>
      rw [List.filter_cons_of_neg (by simp [hi]), ih]
      show _ = (kget (p.wr i) k).getD _
      rw [h i List.mem_cons_self hi]; rfl
theorem over_filter {p : Pl} (W : p.WF) {f : Nat → Bool} {F : List Nat} (hF : ∀ i ∈ F, i < p.n) {k : Nat} (hk : k < p.base.length) (h : ∀ i ∈ F, f i = false → kget (p.wr i) (k : Int) = none) :
    (over p p.base (F.filter f)).getD k 0 = (over p p.base F).getD k 0 := by
  rw [over_get p W hk _ hF, over_get p W hk _ fun i hi => hF i (List.mem_filter.mp hi).1, ← List.filter_reverse, valR_filter]
  intro i hi
  exact h i (List.mem_reverse.mp hi)
/-- each piece lies on one side of a cell -/
def Sides (p : Pl) (s : Nat) : Prop := ∀ i, i < p.n → (∀ q ∈ p.wr i, q.1 < (s : Int)) ∨ ∀ q ∈ p.wr i, (s : Int) ≤ q.1
def lowB (p : Pl) (s : Nat) (i : Nat) : Bool := (p.wr i).all fun q => decide (q.1 < (s : Int))
theorem take_getD {α : Type} {d : α} (c : List α) (s j : Nat) (h : j < s) : (c.take s).getD j d = c.getD j d := by
  simp [List.getD, List.getElem?_take, h]
theorem drop_getD {α : Type} {d : α} (c : List α) (s j : Nat) : (c.drop s).getD j d = c.getD (s + j) d := by
  simp [List.getD, List.getElem?_drop]
theorem side_take {p : Pl} (W : p.WF) {s : Nat} (S : Sides p s) {F : List Nat} (hF : ∀ i ∈ F, i < p.n) : (over p p.base F).take s = (over p p.base (F.filter (lowB p s))).take s := by
  refine ext_getD (by rw [List.length_take, List.length_take, over_len, over_len]) fun j hj => ?_
  rw [List.length_take, over_len] at hj
  rw [take_getD _ _ _ (by omega), take_getD _ _ _ (by omega), over_filter W hF (by omega)]
  intro i hi hl
  rw [kget_none]
  intro q hq e
  rcases S i (hF i hi) with h | h
  · have : lowB p s i = true := by
      unfold lowB; rw [List.all_eq_true]; intro q hq; exact decide_eq_true (h q hq)
    rw [hl] at this; cases this
  · have := h q hq; omega
theorem side_drop {p : Pl} (W : p.WF) {s : Nat} (S : Sides p s) {F : List Nat} (hF : ∀ i ∈ F, i < p.n) : (over p p.base F).drop s = (over p p.base (F.filter fun i => !lowB p s i)).drop s := by
  refine ext_getD (by rw [List.length_drop, List.length_drop, over_len, over_len]) fun j hj => ?_
  rw [List.length_drop, over_len] at hj
  rw [drop_getD, drop_getD, over_filter W hF (by omega)]
  intro i hi hl
  rw [kget_none]
  intro q hq e
  have hl' : lowB p s i = true := by simpa using hl
  unfold lowB at hl'
  rw [List.all_eq_true] at hl'
  have := of_decide_eq_true (hl' q hq)
  omega
def lows (p : Pl) (s : Nat) : List Nat := (List.range p.n).filter (lowB p s)
def highs (p : Pl) (s : Nat) : List Nat := (List.range p.n).filter fun i => !lowB p s i
theorem sides_len (p : Pl) (s : Nat) : (lows p s).length + (highs p s).length = p.n := by
  unfold lows highs; rw [filter_len2, List.length_range]
theorem proj_len {p : Pl} {s : Nat} {f : Nat → Bool} {g : List Int → List Int} (hg : ∀ F, (∀ i ∈ F, i < p.n) → g (over p p.base F) = g (over p p.base (F.filter f))) (h5 : p.n ≤ 5) {m : List (List Int)} (nd : m.Nodup) (hm : ∀ x ∈ m, ∃ c, Found p c ∧ x = g c) :
    m.length ≤ ar 5 ((List.range p.n).filter f).length := by
  have h := nodup_sub_len (m := (arrs 5 ((List.range p.n).filter f)).map fun F => g (over p p.base F)) nd fun x hx => by
    obtain ⟨c, ⟨F, hF, e⟩, rfl⟩ := hm x hx
    refine List.mem_map.mpr ⟨F.filter f, arrs_mem (hF.nd.filter _) (fun i hi => ?_) ?_, ?_⟩
    · obtain ⟨h1, h2⟩ := List.mem_filter.mp hi
      exact List.mem_filter.mpr ⟨List.mem_range.mpr (hF.lt i h1), h2⟩
    · have h1 := nodup_sub_len (m := List.range p.n) hF.nd fun i hi => List.mem_range.mpr (hF.lt i hi)
      have h2 := List.length_filter_le f F
      rw [List.length_range] at h1
      omega
    · rw [← e]; exact (hg F hF.lt).symm
  rwa [List.length_map, arrs_len] at h
theorem few_ar {p : Pl} (W : p.WF) {s : Nat} (S : Sides p s) (h5 : p.n ≤ 5) {l : List (List Int)} (nd : l.Nodup) (hl : ∀ c ∈ l, Found p c) : l.length ≤ ar 5 (lows p s).length * ar 5 (highs p s).length :=
  count_pair s _ _ nd (fun m hm h => proj_len (s := s) (g := fun c => c.take s) (f := lowB p s) (fun F hF => side_take W S hF) h5 hm fun x hx => by
    obtain ⟨c, hc, e⟩ := h x hx
    exact ⟨c, hl c hc, e⟩) (fun m hm h => proj_len (s := s) (g := fun c => c.drop s) (f := fun i => !lowB p s i) (fun F hF => side_drop W S hF) h5 hm fun x hx => by
    obtain ⟨c, hc, e⟩ := h x hx
    exact ⟨c, hl c hc, e⟩)
theorem wds_sub {m : List (List Int)} {n : Nat} (nd : m.Nodup) (h : ∀ x ∈ m, x.length = n ∧ ∀ v ∈ x, 0 ≤ v ∧ v ≤ 2) : m.length ≤ 3 ^ n := by
  have := nodup_sub_len (m := wds n) nd fun x hx => by
    have := wds_mem (h x hx).2
    rwa [(h x hx).1] at this
  rwa [wds_len] at this
theorem few_wd {p : Pl} (W : p.WF) {s : Nat} (S : Sides p s) (h5 : p.n ≤ 5) (hs : s ≤ 4) (h4 : p.base.length ≤ 4) (hw : ∀ c, Found p c → ∀ x ∈ c, 0 ≤ x ∧ x ≤ 2) {l : List (List Int)} (nd : l.Nodup) (hl : ∀ c ∈ l, Found p c) :
    l.length ≤ (if ar 5 (lows p s).length ≤ 3 ^ s then ar 5 (lows p s).length else 3 ^ s) * (if ar 5 (highs p s).length ≤ 3 ^ (4 - s) then ar 5 (highs p s).length else 3 ^ (4 - s)) := by
  refine count_pair s _ _ nd (fun m hm h => ?_) (fun m hm h => ?_)
  · split
    · exact proj_len (s := s) (g := fun c => c.take s) (f := lowB p s) (fun F hF => side_take W S hF) h5 hm fun x hx => by
        obtain ⟨c, hc, e⟩ := h x hx
        exact ⟨c, hl c hc, e⟩
    · have h1 := wds_sub (n := min s p.base.length) hm fun x hx => by
        obtain ⟨c, hc, e⟩ := h x hx
        rw [e, List.length_take, found_len (hl c hc)]
        exact ⟨rfl, fun v hv => hw c (hl c hc) v (List.mem_of_mem_take hv)⟩
      exact Nat.le_trans h1 (Nat.pow_le_pow_right (by decide) (Nat.min_le_left _ _))
  · split
    · exact proj_len (s := s) (g := fun c => c.drop s) (f := fun i => !lowB p s i) (fun F hF => side_drop W S hF) h5 hm fun x hx => by
        obtain ⟨c, hc, e⟩ := h x hx
        exact ⟨c, hl c hc, e⟩
    · have h1 := wds_sub (n := p.base.length - s) hm fun x hx => by
        obtain ⟨c, hc, e⟩ := h x hx
        rw [e, List.length_drop, found_len (hl c hc)]
        exact ⟨rfl, fun v hv => hw c (hl c hc) v (List.mem_of_mem_drop hv)⟩
      exact Nat.le_trans h1 (Nat.pow_le_pow_right (by decide) (by omega))
theorem few_num2 : ∀ A : Fin 6, ∀ B : Fin 6, A.val + B.val ≤ 5 → (if ar 5 A.val ≤ 3 ^ 2 then ar 5 A.val else 3 ^ 2) * (if ar 5 B.val ≤ 3 ^ (4 - 2) then ar 5 B.val else 3 ^ (4 - 2)) < 63 := by decide
theorem few_num3 : ∀ A : Fin 6, ∀ B : Fin 6, A.val + B.val ≤ 5 → (if ar 5 A.val ≤ 3 ^ 3 then ar 5 A.val else 3 ^ 3) * (if ar 5 B.val ≤ 3 ^ (4 - 3) then ar 5 B.val else 3 ^ (4 - 3)) < 63 := by decide
theorem few_split {p : Pl} (W : p.WF) {s : Nat} (h23 : s = 2 ∨ s = 3) (S : Sides p s) (h5 : p.n ≤ 5) (h4 : p.base.length ≤ 4) (hw : ∀ c, Found p c → ∀ x ∈ c, 0 ≤ x ∧ x ≤ 2) {l : List (List Int)} (nd : l.Nodup) (hl : ∀ c ∈ l, Found p c) : l.length < 63 := by
  have h := few_wd W S h5 (by omega) h4 hw nd hl
  have hs := sides_len p s
  rcases h23 with e | e
  · subst e
    exact Nat.lt_of_le_of_lt h (few_num2 ⟨(lows p 2).length, by omega⟩ ⟨(highs p 2).length, by omega⟩ (by show (lows p 2).length + (highs p 2).length ≤ 5; omega))
  · subst e
    exact Nat.lt_of_le_of_lt h (few_num3 ⟨(lows p 3).length, by omega⟩ ⟨(highs p 3).length, by omega⟩ (by show (lows p 3).length + (highs p 3).length ≤ 5; omega))
end Af
set_option Elab.async false
set_option linter.all false
set_option maxRecDepth 100000
set_option pp.maxSteps 400
set_option maxHeartbeats 2000000
/-! ### plans of the law leave few contents; all of them in a row -/
namespace Af
theorem lps_mem {w : Int} {q : Nat × Cl} : ∀ {st : List Step} {r : Nat}, q ∈ lps w st r → ∃ f ws, some (f, ws) ∈ st ∧ q.2 ∈ lpAll w f ws
  | [], r, h => by simp [lps] at h
  | none :: st, r, h => by
    obtain ⟨f, ws, h1, h2⟩ := lps_mem (st := st) (r := r + 1) h
    exact ⟨f, ws, List.mem_cons_of_mem _ h1, h2⟩
  | some (f, ws) :: st, r, h => by
    unfold lps at h
    rcases List.mem_append.mp h with h | h
    · obtain ⟨c, hc, e⟩ := List.mem_map.mp h
      subst e
      exact ⟨f, ws, List.mem_cons_self, hc⟩
    · obtain ⟨f, ws, h1, h2⟩ := lps_mem (st := st) (r := r) h
      exact ⟨f, ws, List.mem_cons_of_mem _ h1, h2⟩
theorem div_same {w x : Int} (h1 : 1 ≤ w) (h3 : w ≤ 3) (h : x % w ≠ 0) : (x - 1) / w = x / w := by
  have : w = 1 ∨ w = 2 ∨ w = 3 := by omega
  rcases this with e | e | e <;> subst e <;> omega
theorem lpk_blk {w f : Int} {ws : List Int} (h1 : 1 ≤ w) (h3 : w ≤ 3) : ∀ k, (∀ c ∈ (lpk w f ws k).1, ∃ z, ∀ q ∈ c, q.1 / w = z) ∧ (∀ q ∈ (lpk w f ws k).2, q.1 / w = (f + (k : Int) - 1) / w)
  | 0 => by
    constructor
    · intro c h; simp [lpk] at h
    · intro q h; simp [lpk] at h
  | k + 1 => by
    obtain ⟨i1, i2⟩ := lpk_blk (ws := ws) (f := f) h1 h3 k
    by_cases ho : k = 0 ∨ (f + (k : Int)) % w = 0
    · rw [lpk_open ho]
      constructor
      · intro c hc
        dsimp only at hc
        split at hc
        · simp at hc
        · rcases List.mem_append.mp hc with hc | hc
          · exact i1 c hc
          · rw [List.mem_singleton] at hc; subst hc
            exact ⟨_, i2⟩
      · intro q hq
        rw [List.mem_singleton] at hq; subst hq
        show (f + (k : Int)) / w = _
        congr 1
        push_cast
        omega
    · have h0 : k ≠ 0 := fun e => ho (.inl e)
      have hm : (f + (k : Int)) % w ≠ 0 := fun e => ho (.inr e)
      rw [lpk_more h0 hm]
      refine ⟨i1, fun q hq => ?_⟩
      have e : f + ((k + 1 : Nat) : Int) - 1 = f + (k : Int) := by push_cast; omega
      rw [e]
      rcases List.mem_append.mp hq with hq | hq
      · rw [i2 q hq]; exact div_same h1 h3 hm
      · rw [List.mem_singleton] at hq; subst hq; rfl
theorem lpAll_blk {w f : Int} {ws : List Int} (h1 : 1 ≤ w) (h3 : w ≤ 3) {c : Cl} (h : c ∈ lpAll w f ws) : ∃ z, ∀ q ∈ c, q.1 / w = z := by
  unfold lpAll at h
  rcases List.mem_append.mp h with h | h
  · exact (lpk_blk h1 h3 _).1 c h
  · rw [List.mem_singleton] at h; subst h
    exact ⟨_, (lpk_blk h1 h3 _).2⟩
def splitS (w : Int) : Nat := if w = 3 then 3 else 2
theorem LawPlan.ne {p : PIn} {mw : Int} (L : LawPlan p mw) : NE p.st := fun f ws h => (L.steps _ h).2.1
theorem LawPlan.sides {p : PIn} {mw : Int} (L : LawPlan p mw) : Sides p.pl (splitS p.w) := fun i hi => by
  have h := List.mem_of_getElem? (rows_at (p := p) L.ne hi)
  obtain ⟨f, ws, _, hc⟩ := lps_mem h
  obtain ⟨z, hz⟩ := lpAll_blk L.w1 L.w3 hc
  have hw : p.w = 1 ∨ p.w = 2 ∨ p.w = 3 := by have := L.w1; have := L.w3; omega
  show (∀ q ∈ p.pl.wr i, q.1 < ((splitS p.w : Nat) : Int)) ∨ ∀ q ∈ p.pl.wr i, ((splitS p.w : Nat) : Int) ≤ q.1
  have hz' : ∀ q ∈ p.pl.wr i, q.1 / p.w = z := hz
  rcases hw with e | e | e
  · rw [e] at hz' ⊢
    have es : splitS 1 = 2 := by decide
    rw [es]
    by_cases hs : z < 2
    · left; intro q hq; have := hz' q hq; omega
    · right; intro q hq; have := hz' q hq; omega
  · rw [e] at hz' ⊢
    have es : splitS 2 = 2 := by decide
    rw [es]
    by_cases hs : z < 1
    · left; intro q hq; have := hz' q hq; omega
    · right; intro q hq; have := hz' q hq; omega
  · rw [e] at hz' ⊢
    have es : splitS 3 = 3 := by decide
    rw [es]
    by_cases hs : z < 1
    · left; intro q hq; have := hz' q hq; omega
    · right; intro q hq; have := hz' q hq; omega
/-- a plan of the law with at most five pieces -/
structure Lw (p : PIn) : Prop where
  plan : ∃ mw, mw ≤ 7 ∧ LawPlan p mw
  five : p.pl.n ≤ 5
  few : ∀ l : List (List Int), l.Nodup → (∀ c ∈ l, Found p.pl c) → l.length < 63
theorem LawPlan.lw {p : PIn} (L : LawPlan p 2) (h5 : p.pl.n ≤ 5) : Lw p where
  plan := ⟨2, by decide, L⟩
  five := h5
  few := fun l nd hl => few_split (L.good (by decide)).wf (s := splitS p.w) (by unfold splitS; split <;> simp) L.sides h5 L.b4 (fun c hc => found_wd L hc) nd hl
/-- the plan that is typed -/
def typP : PIn := ⟨[0, 0, 3], 1, [some (0, [1]), none, some (1, [1]), none, some (2, [4]), none, some (1, [0])]⟩
theorem typP_law : LawPlan typP 4 where
  b1 := by decide
  b4 := by decide
  bw := by decide
  w1 := by decide
  w3 := by decide
  len := by decide
  steps := by
    intro s hs
    simp only [typP, List.mem_cons, List.not_mem_nil, or_false] at hs
    rcases hs with e | e | e | e | e | e | e <;> subst e
    · exact ⟨by decide, by decide, by decide, by decide⟩
    · exact trivial
    · exact ⟨by decide, by decide, by decide, by decide⟩
    · exact trivial
    · exact ⟨by decide, by decide, by decide, by decide⟩
    · exact trivial
    · exact ⟨by decide, by decide, by decide, by decide⟩
theorem typP_lw : Lw typP where
  plan := ⟨4, by decide, typP_law⟩
  five := by decide
  few := fun l nd hl => Nat.lt_of_le_of_lt (few_ar (typP_law.good (by decide)).wf (s := 2) typP_law.sides (by decide) nd hl) (by decide)
theorem Lw.sm {p : PIn} (h : Lw p) : Sm p := by obtain ⟨mw, hm, L⟩ := h.plan; exact L.sm hm
theorem Lw.wf {p : PIn} (h : Lw p) : p.pl.WF := h.sm.small.wf
/-! sorted rows of contents -/
theorem ins_ex {n : Nat} {a : List Int} (ha : a.length = n) : ∀ {l : List (List Int)}, l.Pairwise lexLt → (∀ k ∈ l, k.length = n) → ∃ l' : List (List Int), l'.Pairwise lexLt ∧ ∀ k, k ∈ l' ↔ k = a ∨ k ∈ l
  | [], _, _ => ⟨[a], by simp, by simp⟩
  | b :: t, hp, hl => by
    have hb : b.length = n := hl b List.mem_cons_self
    rw [List.pairwise_cons] at hp
    rcases lexLt_tri (a := a) (b := b) (by rw [ha, hb]) with e | e | e
    · subst e
      exact ⟨a :: t, List.pairwise_cons.mpr hp, fun k => by simp⟩
    · refine ⟨a :: b :: t, List.pairwise_cons.mpr ⟨fun k hk => ?_, List.pairwise_cons.mpr hp⟩, fun k => by simp⟩
      rcases List.mem_cons.mp hk with q | q
      · subst q; exact e
      · exact lexLt_trans (by rw [ha, hb]) e (hp.1 k q)
    · obtain ⟨l', h1, h2⟩ := ins_ex ha hp.2 fun k hk => hl k (List.mem_cons_of_mem _ hk)
      refine ⟨b :: l', List.pairwise_cons.mpr ⟨fun k hk => ?_, h1⟩, fun k => ?_⟩
      · rcases (h2 k).mp hk with q | q
        · subst q; exact e
        · exact hp.1 k q
      · rw [List.mem_cons, h2, List.mem_cons]
        constructor
        · rintro (q | q | q)
          · exact .inr (.inl q)
          · exact .inl q
          · exact .inr (.inr q)
        · rintro (q | q | q)
          · exact .inr (.inl q)
          · exact .inl q
          · exact .inr (.inr q)
theorem sort_ex {n : Nat} : ∀ ks : List (List Int), (∀ k ∈ ks, k.length = n) → ∃ l : List (List Int), l.Pairwise lexLt ∧ ∀ k, k ∈ l ↔ k ∈ ks
  | [], _ => ⟨[], by simp, by simp⟩
  | a :: t, h => by
    obtain ⟨l, h1, h2⟩ := sort_ex t fun k hk => h k (List.mem_cons_of_mem _ hk)
    obtain ⟨l', h3, h4⟩ := ins_ex (h a List.mem_cons_self) h1 fun k hk => h k (List.mem_cons_of_mem _ ((h2 k).mp hk))
    exact ⟨l', h3, fun k => by rw [h4, h2, List.mem_cons]⟩
theorem asc_nodup {l : List (List Int)} (h : l.Pairwise lexLt) : l.Nodup := by
  show List.Pairwise _ _
  refine h.imp fun {a b} q (e : a = b) => ?_
  subst e
  exact lexLt_irrefl a q
theorem fall_arr {p : Pl} {F : List Nat} (h : Fall p F) : F ∈ arrs p.n (List.range p.n) :=
  arrs_mem h.nd (fun i hi => List.mem_range.mpr (h.lt i hi)) (by
    have := nodup_sub_len (m := List.range p.n) h.nd fun i hi => List.mem_range.mpr (h.lt i hi)
    rwa [List.length_range] at this)
open Classical in
theorem all_ex (p : Pl) (pat : Pat) : ∃ l, AllOf p pat l := by
  obtain ⟨l, h1, h2⟩ := sort_ex (n := p.base.length) (((arrs p.n (List.range p.n)).map (over p p.base)).filter fun c => decide (Found p c ∧ Fits pat c)) fun k hk => by
    have := (List.mem_filter.mp hk).2
    exact found_len (of_decide_eq_true this).1
  refine ⟨l, h1, fun d => ?_⟩
  rw [h2, List.mem_filter, decide_eq_true_iff]
  constructor
  · exact fun h => h.2
  · intro h
    refine ⟨?_, h⟩
    obtain ⟨F, hF, e⟩ := h.1
    exact List.mem_map.mpr ⟨F, fall_arr hF, e⟩
theorem Lw.len {p : PIn} (h : Lw p) {pat : Pat} {l : List (List Int)} (A : AllOf p.pl pat l) : l.length < 63 := h.few l (asc_nodup A.asc) fun c hc => ((A.mem c).mp hc).1
theorem AllOf.one {p : Pl} {pat : Pat} {l m : List (List Int)} (A : AllOf p pat l) (B : AllOf p pat m) : ∀ c, c ∈ l ↔ c ∈ m := fun c => by rw [A.mem, B.mem]
end Af
set_option Elab.async false
set_option linter.all false
set_option maxRecDepth 100000
set_option pp.maxSteps 400
set_option maxHeartbeats 2000000
/-! ### all falls, one piece after another -/
namespace Af
def nodeOf (p : PIn) (F : List Nat) : Node := (over p.pl p.b F, srt (nints F))
def suc (p : PIn) (x : Node) (k : Nat) : Node := (overK x.1 (p.pl.wr k), srt (x.2 ++ [(k : Int)]))
def okK (p : PIn) (x : Node) (k : Nat) : Bool := !decide ((k : Int) ∈ x.2) && !earlyB p.pl x.2 k
def sucs (p : PIn) (x : Node) (m : Nat) : List Node := ((List.range m).filter (okK p x)).map (suc p x)
theorem sucs_T {p : PIn} {x : Node} {m : Nat} (h : okK p x m = true) : sucs p x (m + 1) = sucs p x m ++ [suc p x m] := by
  unfold sucs
  rw [List.range_succ, List.filter_append, List.map_append, List.filter_cons_of_pos h]
  simp
theorem sucs_F {p : PIn} {x : Node} {m : Nat} (h : okK p x m = false) : sucs p x (m + 1) = sucs p x m := by
  unfold sucs
  rw [List.range_succ, List.filter_append, List.map_append, List.filter_cons_of_neg (by simp [h])]
  simp
theorem sucs_len (p : PIn) (x : Node) (m : Nat) : (sucs p x m).length ≤ m := by
  unfold sucs
  rw [List.length_map]
  have := List.length_filter_le (okK p x) (List.range m)
  rwa [List.length_range] at this
theorem sucs_mem {p : PIn} {x y : Node} {m : Nat} : y ∈ sucs p x m ↔ ∃ k, k < m ∧ okK p x k = true ∧ y = suc p x k := by
  unfold sucs
  rw [List.mem_map]
  constructor
  · rintro ⟨k, hk, e⟩
    obtain ⟨h1, h2⟩ := List.mem_filter.mp hk
    exact ⟨k, List.mem_range.mp h1, h2, e.symm⟩
  · rintro ⟨k, h1, h2, e⟩
    exact ⟨k, List.mem_filter.mpr ⟨List.mem_range.mpr h1, h2⟩, e.symm⟩
theorem overK_over1 {c : List Int} {kvs : List (Int × Int)} (nd : (kvs.map (·.1)).Nodup) (h : ∀ q ∈ kvs, 0 ≤ q.1 ∧ q.1 < (c.length : Int)) : overK c kvs = over1 c kvs := by
  have hl : (overK c kvs).length = c.length := by unfold overK; simp
  refine ext_getD (by rw [hl, over1_len]) fun j hj => ?_
  rw [hl] at hj
  rw [over1_get nd h hj]
  unfold overK
  simp [List.getD, List.getElem?_map, List.getElem?_range, hj]
theorem srt_mem {l : List Int} {x : Int} : x ∈ srt l ↔ x ∈ l := (srt_perm l).mem_iff
theorem srt_nil : srt [] = [] := List.Perm.eq_nil (srt_perm [])
theorem srt_snoc (l : List Int) (k : Int) : srt (srt l ++ [k]) = srt (l ++ [k]) :=
  sorted_one (srt_perm (l ++ [k])) (srt_sorted (l ++ [k])) ((srt_perm (srt l ++ [k])).trans ((srt_perm l).append_right [k])) (srt_sorted (srt l ++ [k]))
theorem nints_snoc (F : List Nat) (k : Nat) : nints (F ++ [k]) = nints F ++ [(k : Int)] := by unfold nints; simp
theorem node_mem {p : PIn} {F : List Nat} {k : Nat} : (k : Int) ∈ (nodeOf p F).2 ↔ k ∈ F := by
  show (k : Int) ∈ srt (nints F) ↔ _
  rw [srt_mem, nints_mem]
theorem node_early {p : PIn} {F : List Nat} {k : Nat} : earlyB p.pl (nodeOf p F).2 k = false ↔ ∀ q, q < p.pl.n → p.pl.rank q < p.pl.rank k → q ∈ F := by
  unfold earlyB
  rw [Bool.not_eq_false', List.all_eq_true]
  constructor
  · intro h q hq hr
    exact node_mem.mp (of_decide_eq_true (h q (List.mem_filter.mpr ⟨List.mem_range.mpr hq, decide_eq_true hr⟩)))
  · intro h q hq
    obtain ⟨h1, h2⟩ := List.mem_filter.mp hq
    exact decide_eq_true (node_mem.mpr (h q (List.mem_range.mp h1) (of_decide_eq_true h2)))
theorem suc_node {p : PIn} (W : p.pl.WF) {F : List Nat} {k : Nat} (hk : k < p.pl.n) : suc p (nodeOf p F) k = nodeOf p (F ++ [k]) := by
  show (overK (over p.pl p.b F) (p.pl.wr k), srt (srt (nints F) ++ [(k : Int)])) = (over p.pl p.b (F ++ [k]), srt (nints (F ++ [k])))
  rw [over_snoc, srt_snoc, nints_snoc, overK_over1 (wr_nodup p.pl k)]
  intro q hq
  rw [over_len]
  exact W.inn k hk q hq
theorem ok_fall {p : PIn} {F : List Nat} {k : Nat} (h : Fall p.pl F) (hk : k < p.pl.n) (ok : okK p (nodeOf p F) k = true) : Fall p.pl (F ++ [k]) := by
  unfold okK at ok
  rw [Bool.and_eq_true, Bool.not_eq_true', Bool.not_eq_true', decide_eq_false_iff_not, node_mem] at ok
  exact h.snoc ok.1 hk (node_early.mp ok.2)
theorem fall_ok {p : PIn} {F : List Nat} {k : Nat} (h : Fall p.pl (F ++ [k])) : k < p.pl.n ∧ okK p (nodeOf p F) k = true := by
  obtain ⟨h1, h2, h3⟩ := h.last
  refine ⟨h2, ?_⟩
  unfold okK
  rw [Bool.and_eq_true, Bool.not_eq_true', Bool.not_eq_true', decide_eq_false_iff_not, node_mem]
  exact ⟨h1, node_early.mpr h3⟩
structure Dfs (p : PIn) (met wait : List Node) : Prop where
  nd : met.Nodup
  reach : ∀ x, x ∈ met ∨ x ∈ wait → ∃ F, Fall p.pl F ∧ x = nodeOf p F
  clos : ∀ x ∈ met, ∀ k, k < p.pl.n → okK p x k = true → suc p x k ∈ met ∨ suc p x k ∈ wait
  start : nodeOf p [] ∈ met ∨ nodeOf p [] ∈ wait
theorem Dfs.init (p : PIn) : Dfs p [] [nodeOf p []] where
  nd := by simp
  reach := by
    rintro x (h | h)
    · simp at h
    · rw [List.mem_singleton] at h; exact ⟨[], Fall.nil _, h⟩
  clos := by simp
  start := .inr (by simp)
theorem Dfs.skip {p : PIn} {met wait : List Node} {x : Node} (h : Dfs p met (wait ++ [x])) (hx : x ∈ met) : Dfs p met wait where
  nd := h.nd
  reach := by
    rintro y (q | q)
    · exact h.reach y (.inl q)
    · exact h.reach y (.inr (List.mem_append_left _ q))
  clos := fun y hy k hk ok => by
    rcases h.clos y hy k hk ok with q | q
    · exact .inl q
    · rcases List.mem_append.mp q with q | q
      · exact .inr q
      · rw [List.mem_singleton] at q; rw [q]; exact .inl hx
  start := by
    rcases h.start with q | q
    · exact .inl q
    · rcases List.mem_append.mp q with q | q
      · exact .inr q
      · rw [List.mem_singleton] at q; rw [q]; exact .inl hx
theorem Dfs.take {p : PIn} (W : p.pl.WF) {met wait : List Node} {x : Node} (h : Dfs p met (wait ++ [x])) (hx : x ∉ met) : Dfs p (met ++ [x]) (wait ++ sucs p x p.pl.n) where
  nd := by
    rw [List.nodup_append]
    refine ⟨h.nd, by simp, fun a ha b hb e => ?_⟩
    rw [List.mem_singleton] at hb
    exact hx (hb ▸ e ▸ ha)
  reach := by
    have hX : ∃ F, Fall p.pl F ∧ x = nodeOf p F := h.reach x (.inr (by simp))
    rintro y (q | q)
    · rcases List.mem_append.mp q with q | q
      · exact h.reach y (.inl q)
      · rw [List.mem_singleton] at q; rw [q]; exact hX
    · rcases List.mem_append.mp q with q | q
      · exact h.reach y (.inr (List.mem_append_left _ q))
      · obtain ⟨k, hk, ok, e⟩ := sucs_mem.mp q
        obtain ⟨F, hF, e2⟩ := hX
        subst e2
        exact ⟨F ++ [k], ok_fall hF hk ok, by rw [e, suc_node W hk]⟩
  clos := fun y hy k hk ok => by
    rcases List.mem_append.mp hy with q | q
    · rcases h.clos y q k hk ok with q | q
      · exact .inl (List.mem_append_left _ q)
      · rcases List.mem_append.mp q with q | q
        · exact .inr (List.mem_append_left _ q)
        · exact .inl (List.mem_append_right _ q)
    · rw [List.mem_singleton] at q; subst q
      exact .inr (List.mem_append_right _ (sucs_mem.mpr ⟨k, hk, ok, rfl⟩))
  start := by
    rcases h.start with q | q
    · exact .inl (List.mem_append_left _ q)
    · rcases List.mem_append.mp q with q | q
      · exact .inr (List.mem_append_left _ q)
      · exact .inl (List.mem_append_right _ q)
theorem Dfs.all {p : PIn} (W : p.pl.WF) {met : List Node} (h : Dfs p met []) : ∀ (n : Nat) (F : List Nat), F.length = n → Fall p.pl F → nodeOf p F ∈ met
  | 0, F, hl, hF => by
    have : F = [] := List.eq_nil_of_length_eq_zero hl
    subst this
    rcases h.start with q | q
    · exact q
    · simp at q
  | n + 1, F, hl, hF => by
    have hne : F ≠ [] := by intro e; rw [e] at hl; simp at hl
    obtain ⟨G, k, e⟩ : ∃ G k, F = G ++ [k] := ⟨F.dropLast, F.getLast hne, (List.dropLast_concat_getLast hne).symm⟩
    subst e
    have hG : nodeOf p G ∈ met := Dfs.all W h n G (by simpa using hl) hF.init
    obtain ⟨hk, ok⟩ := fall_ok hF
    rcases h.clos _ hG k hk ok with q | q
    · rwa [suc_node W hk] at q
    · simp at q
theorem Dfs.found {p : PIn} (W : p.pl.WF) {met : List Node} (h : Dfs p met []) (d : List Int) : d ∈ met.map (·.1) ↔ Found p.pl d := by
  rw [List.mem_map]
  constructor
  · rintro ⟨x, hx, e⟩
    obtain ⟨F, hF, e2⟩ := h.reach x (.inl hx)
    exact ⟨F, hF, by rw [← e, e2]; rfl⟩
  · rintro ⟨F, hF, e⟩
    exact ⟨nodeOf p F, h.all W _ F rfl hF, e⟩
theorem ar_le : ∀ A : Fin 6, ar 5 A.val ≤ 326 := by decide
theorem fall_arr5 {p : Pl} (h5 : p.n ≤ 5) {F : List Nat} (h : Fall p F) : F ∈ arrs 5 (List.range p.n) :=
  arrs_mem h.nd (fun i hi => List.mem_range.mpr (h.lt i hi)) (by
    have := nodup_sub_len (m := List.range p.n) h.nd fun i hi => List.mem_range.mpr (h.lt i hi)
    rw [List.length_range] at this
    omega)
theorem Dfs.bound {p : PIn} (h5 : p.pl.n ≤ 5) {met wait : List Node} (h : Dfs p met wait) : met.length ≤ 326 := by
  have h1 := nodup_sub_len (m := (arrs 5 (List.range p.pl.n)).map (nodeOf p)) h.nd fun x hx => by
    obtain ⟨F, hF, e⟩ := h.reach x (.inl hx)
    exact List.mem_map.mpr ⟨F, fall_arr5 h5 hF, e.symm⟩
  rw [List.length_map, arrs_len, List.length_range] at h1
  exact Nat.le_trans h1 (ar_le ⟨p.pl.n, by omega⟩)
theorem Dfs.plainN {p : PIn} {met wait : List Node} (h : Dfs p met wait) : ∀ x ∈ wait, x.1.length = p.b.length := fun x hx => by
  obtain ⟨F, _, e⟩ := h.reach x (.inr hx)
  rw [e]; exact over_len _ _ _
end Af
set_option Elab.async false
set_option linter.all false
set_option maxRecDepth 100000
set_option pp.maxSteps 400
set_option maxHeartbeats 2000000
/-! ### nested data: plain, not deep; a list that may change, compared -/
namespace Af
open PySem L2
theorem depths_le {n : Nat} : ∀ {xs : List D}, (∀ x ∈ xs, (toPy x).depth ≤ n) → PyData.depthAll (toPys xs) ≤ n
  | [], _ => by rw [toPys, PyData.depthAll]; omega
  | x :: xs, h => by
    rw [toPys, PyData.depthAll]
    exact Nat.max_le.mpr ⟨h x List.mem_cons_self, depths_le fun y hy => h y (List.mem_cons_of_mem _ hy)⟩
theorem plains_all : ∀ {xs : List D}, (∀ x ∈ xs, plain x = true) → plains xs = true
  | [], _ => by rw [plains]
  | x :: xs, h => by rw [plains, h x List.mem_cons_self, plains_all fun y hy => h y (List.mem_cons_of_mem _ hy)]; rfl
theorem depth_tupI (ns : List Int) : (toPy (.tup (dints ns))).depth ≤ 1 := by rw [toPy, PyData.depth, depths_ints]; decide
theorem plain_tupI (ns : List Int) : plain (.tup (dints ns)) = true := by rw [plain]; exact plains_ints ns
theorem depth_node (x : Node) : (toPy (nodeD x)).depth ≤ 2 := by
  unfold nodeD
  rw [toPy, PyData.depth]
  have : PyData.depthAll (toPys [.tup (dints x.1), .tup (dints x.2)]) ≤ 1 := depths_le fun y hy => by
    simp only [List.mem_cons, List.not_mem_nil, or_false] at hy
    rcases hy with e | e <;> subst e <;> exact depth_tupI _
  omega
theorem plain_node (x : Node) : plain (nodeD x) = true := by
  unfold nodeD
  rw [plain]
  exact plains_all fun y hy => by
    simp only [List.mem_cons, List.not_mem_nil, or_false] at hy
    rcases hy with e | e <;> subst e <;> exact plain_tupI _
theorem depth_lstD {n : Nat} {xs : List D} (h : ∀ x ∈ xs, (toPy x).depth ≤ n) : (toPy (.lst xs)).depth ≤ n + 1 := by
  rw [toPy, PyData.depth]
  have := depths_le h
  omega
theorem plain_lstD {xs : List D} (h : ∀ x ∈ xs, plain x = true) : plain (.lst xs) = true := by rw [plain]; exact plains_all h
theorem plain_dtups (l : List (List Int)) : plain (.lst (dtups l)) = true := plain_lstD fun x hx => by
  obtain ⟨k, _, e⟩ := List.mem_map.mp hx
  subst e; exact plain_tupI k
theorem depth_dtups (l : List (List Int)) : (toPy (.lst (dtups l))).depth ≤ 2 := depth_lstD fun x hx => by
  obtain ⟨k, _, e⟩ := List.mem_map.mp hx
  subst e; exact depth_tupI k
theorem dtups_inj {l m : List (List Int)} : D.lst (dtups l) = D.lst (dtups m) ↔ l = m := by
  constructor
  · intro h
    injection h with h
    have : l.map dints = m.map dints := by
      have h2 := congrArg (List.map fun x => match x with | D.tup xs => xs | _ => []) h
      unfold dtups at h2
      rw [List.map_map, List.map_map] at h2
      exact h2
    have h3 := congrArg (List.map (List.map fun x => match x with | D.int i => i | _ => 0)) this
    rw [List.map_map, List.map_map] at h3
    have e : ∀ k : List Int, (dints k).map (fun x => match x with | D.int i => i | _ => 0) = k := fun k => by
      unfold dints; rw [List.map_map]; exact List.map_id k
    have e2 : (List.map (fun x => match x with | D.int i => i | _ => 0) ∘ dints) = id := funext e
    rw [e2, List.map_id, List.map_id] at h3
    exact h3
  · intro h; rw [h]
section
variable {lk : List Addr} {X : Cx} {cs : Cs} {xs : List D}
theorem od_neC {p : Addr} (i : Nat) (hi : cs[i]? = some (p, .lst xs)) (hu : X.A.units + 64 < cLine) (hx : ∀ x ∈ xs, plain x = true) (hd : ∀ x ∈ xs, (toPy x).depth ≤ 60) : OpD lk X (compareOp .NotEq) (.ptr p) (.lst []) cs (.bl (!decide (xs = []))) cs :=
  opD_of (op_neD hu) fun S H v w O r1 r2 Q q => by
    obtain ⟨vs, e, r⟩ := O.at_ hi
    rw [rep_ptr] at r1
    subst r1
    have hp : plain (.lst xs) = true := plain_lstD hx
    have dp : Dp X.K H (.ref p) (toPy (.lst xs)) := by rw [toPy]; exact .lst (.inl (.inl e)) (plain_dps O.lies (plains_all hx) r)
    refine ⟨_, _, dp, plain_dp O.lies (x := .lst []) (by rw [plain, plains]) r2, shaped_of hp (Nat.le_trans (depth_lstD hd) (by decide)), shaped_of (x := .lst []) (by rw [plain, plains]) (by rw [toPy, toPys, PyData.depth, PyData.depthAll]; decide), ?_⟩
    rw [bool_of (plain_eq (.lst xs) (.lst []) hp (by rw [plain, plains])) (show decide (xs = []) = true ↔ D.lst xs = D.lst [] by
      rw [decide_eq_true_iff]
      constructor
      · intro h; rw [h]
      · intro h; injection h)]
    exact q.here O (rep_bl.mpr rfl)
end
end Af
set_option Elab.async false
set_option linter.all false
set_option maxRecDepth 100000
set_option pp.maxSteps 400
set_option maxHeartbeats 2000000
/-! ### _law_all -/
namespace Af
open PySem L2
def R_law_all (xs : List D) (cs : Cs) (y : D) (cs' : Cs) : Prop := ∃ (p : PIn) (l : List (List Int)), Lw p ∧ AllOf p.pl [] l ∧ xs = [tripD p, .tup (dints p.b), .tup []] ∧ cs = [] ∧ y = .lst (dtups l) ∧ cs' = []
theorem Dfs.arr {p : PIn} (h5 : p.pl.n ≤ 5) {met wait : List Node} (h : Dfs p met wait) : ∀ x ∈ wait, x.2.length ≤ 5 := fun x hx => by
  obtain ⟨F, hF, e⟩ := h.reach x (.inr hx)
  have h1 := nodup_sub_len (m := List.range p.pl.n) hF.nd fun i hi => List.mem_range.mpr (hF.lt i hi)
  rw [List.length_range] at h1
  rw [e]
  show (srt (nints F)).length ≤ 5
  rw [(srt_perm _).length_eq, nints_len]
  omega
theorem code_asc {n : Nat} {l : List (List Int)} (h : l.Pairwise lexLt) (hl : ∀ k ∈ l, k.length = n ∧ ∀ x ∈ k, 0 ≤ x ∧ x < 8) : l.Pairwise fun a b => TS.code 8 a < TS.code 8 b := by
  rw [List.pairwise_iff_forall_sublist] at h ⊢
  intro a b hab
  have ha := hl a (hab.subset List.mem_cons_self)
  have hb := hl b (hab.subset (List.mem_cons_of_mem _ List.mem_cons_self))
  exact lex_code (by rw [ha.1, hb.1]) ha.2 hb.2 (h hab)
section
variable {P : Program} {w : World} {K : PySem.W.Frag} {mg : Str → Option Value} {base : Heap} {f : Addr} {fd : FuncData} {CP : Addr}
theorem LawPlan.parts {p : PIn} {mw : Int} (L : LawPlan p mw) (xs : List D) (hx : xs = [tripD p]) : R_law_parts xs [] (.lst (partsD p)) [] := by
  refine ⟨p, by have := L.w1; omega, by have := L.w3; omega, by have := L.len; omega, fun f ws hs => ?_, fun i => ?_, hx, rfl, ?_, rfl⟩
  · have := L.steps _ hs
    obtain ⟨h1, h2, h3, h4⟩ := this
    have := L.b4
    exact ⟨h2, by omega⟩
  · have hne : ∀ f ws, some (f, ws) ∈ p.st.take i → ws ≠ [] := fun f ws hs => L.ne f ws (List.mem_of_mem_take hs)
    rw [(lpsN_eq (w := p.w) _ (p.st.take i) rfl hne).1, List.length_map]
    refine Nat.le_trans (pcs_few (m := 4) rfl fun f ws hs => ?_) ?_
    · obtain ⟨h1, h2, h3, h4⟩ := L.steps _ (List.mem_of_mem_take hs)
      have := L.b4; omega
    · have := L.len
      rw [List.length_take]; omega
  · rw [← lps_parts p L.ne]
theorem Lw.parts {p : PIn} (h : Lw p) (xs : List D) (hx : xs = [tripD p]) : R_law_parts xs [] (.lst (partsD p)) [] := by
  obtain ⟨mw, hm, L⟩ := h.plan
  exact L.parts xs hx
abbrev N91 : List Str := ["_law_triple", "_law_begin", "_law_arrived", "_law_parts_here", "_law_met", "_law_waiting", "_law_node", "_law_k"]
theorem sc91 : FnScope N91 ["_law_triple", "_law_begin", "_law_arrived"] (defScope (top 91)) := ⟨rfl, rfl, rfl, by decide +kernel, rfl, by decide +kernel, by decide +kernel⟩
theorem ok_law_all (T : Txt K mg) (F : Fun K "_law_all" "_law_all" (top 91) f fd) (c_parts : Cal P w K mg base 1 "_law_parts" (spM false R_law_parts)) (c_over : Cal P w K mg base 1 "_law_over" (spM false R_law_over)) (c_early : Cal P w K mg base 1 "_law_is_early" (spM false R_law_is_early)) :
    FnOk P w K mg base CX0 2 f fd ["_law_triple", "_law_begin", "_law_arrived"] (spM false R_law_all) := by
  refine fn_okM F sc91 (by rintro _ _ _ _ ⟨p, l, _, _, rfl, _⟩; rfl) fun lk cdv A outer s H E xs cs y cs' hlk hr hR => ?_
  obtain ⟨p, l, W, Al, rfl, rfl, rfl, rfl⟩ := hR
  obtain rfl := lk_nil hlk
  have nd : N91.Nodup := nd_of (by decide +kernel)
  have hu : (bcx P w K mg base N91 "_law_all" (top 91) f cdv A outer s H E).A.units + 64 < cLine := by have := hr.units; omega
  have hn5 := W.five
  refine sf_cons (s_parP (P1 := fun x c1 => x = .lst (partsD p) ∧ c1 = []) (P2 := fun x c1 y c2 => ∃ a, y = .ptr a ∧ c2 = c1 ++ [(a, .gen (metP P w a []))]) 3 4 nd (EvM.p (ev_callP c_parts hr (by decide) (ea_cons (ev_v 0 rfl) ea_nil) (W.parts _ rfl) hlk) ⟨rfl, rfl⟩) (fun x c1 _ => ep_dictMet) fun x c1 y c2 h1 h2 => ?_)
  obtain ⟨rfl, rfl⟩ := h1
  obtain ⟨d, rfl, rfl⟩ := h2
  refine sf_cons (s_setP 5 nd (ep_lst (xs := [nodeD (nodeOf p [])]) (ea_cons (EvM.cast (ev_tup (ea_cons (ev_v 1 rfl) (ea_cons (ev_callTy (ea_cons (ev_callB (ea_cons (ev_v 2 rfl) ea_nil) (cd_sortedU (ns := []) (ms := []) (by simp) (by simp) (by simp)) T.zsorted b_sorted) ea_nil) cd_tupL T.ztuple b_tuple) ea_nil)) (by simp)) ?st) ea_nil) (by simp)) fun x cs1 hx => ?_)
  case st => show _ = D.tup [.tup (dints p.b), .tup (dints (srt (nints [])))]; rw [show nints [] = [] from rfl, srt_nil]
  obtain ⟨L, rfl, rfl⟩ := hx
  refine sf_cons (s_while (fun m ds' cs' => ∃ (met wait : List Node) (v6 v7 : Option D), Dfs p met wait ∧ m = 6 * (326 - met.length) + wait.length ∧ m ≤ 2000 ∧ cs' = [(d, .gen (metP P w d met)), (L, .lst (wait.map nodeD))] ∧ ds' = [some (tripD p), some (.tup (dints p.b)), some (.tup []), some (.lst (partsD p)), some (.ptr d), some (.ptr L), v6, v7]) 1957 ⟨[], [nodeOf p []], _, _, .init p, rfl, by decide, rfl, rfl⟩ ?_)
  rintro m ds' cs' ⟨met, wait, v6, v7, Df, rfl, hm, rfl, rfl⟩
  have hb := Df.bound hn5
  refine ⟨_, [(d, .gen (metP P w d met)), (L, .lst (wait.map nodeD))], et_cmp (ev_v 5 rfl) (ev_lst ea_nil) (od_neC 1 rfl hu (fun x hx => ?pl) (fun x hx => ?de)), fun hc => ?_, fun hc => ?_⟩
  case pl => obtain ⟨n, _, rfl⟩ := List.mem_map.mp hx; exact plain_node n
  case de => obtain ⟨n, _, rfl⟩ := List.mem_map.mp hx; exact Nat.le_trans (depth_node n) (by decide)
  · have hne : wait ≠ [] := by intro e; rw [e] at hc; simp at hc
    obtain ⟨wa, x, rfl⟩ : ∃ wa x, wait = wa ++ [x] := ⟨wait.dropLast, wait.getLast hne, (List.dropLast_concat_getLast hne).symm⟩
    have hxl : x.1.length = p.b.length := Df.plainN x (by simp)
    have hx2 : x.2.length ≤ 5 := Df.arr hn5 x (by simp)
    have hb4 : p.b.length ≤ 24 := W.sm.n24
    refine sf_cons (s_set 6 nd (cs1 := [(d, .gen (metP P w d met)), (L, .lst (wa.map nodeD))]) (x := nodeD x) (EvM.castC (ev_pop (x := nodeD x) 1 (ev_v 5 rfl) rfl (by simp)) rfl (by simp)) ?_)
    refine sf_cons (s_if (cs1 := [(d, .gen (metP P w d met)), (L, .lst (wa.map nodeD))]) (et_ninMet 0 hu (ev_v 6 rfl) (ev_v 4 rfl) rfl) (fun hb2 => ?_) fun hb2 => ?_)
    · have hxm : x ∉ met := by simpa using hb2
      have Dt := Df.take W.wf hxm
      have hb3 := Dt.bound hn5
      rw [List.length_append] at hb3 hm
      simp only [List.length_cons, List.length_nil] at hb3 hm
      refine sf_cons (s_metPut 0 hu ev_bl (ev_v 4 rfl) (ev_v 6 rfl) rfl hxm (by omega) ?_)
      refine sf_cons (s_for (G := fun _ => True) (vs := [7]) (ei_range1 T.zrange (ev_callB (ea_cons (ev_v 3 rfl) ea_nil) cd_lenL T.zlen b_len) (by rw [partsD_len]; omega))
        (fun i ds' cs' => ∃ v7 : Option D, cs' = [(d, .gen (metP P w d (met ++ [x]))), (L, .lst ((wa ++ sucs p x i).map nodeD))] ∧ ds' = [some (tripD p), some (.tup (dints p.b)), some (.tup []), some (.lst (partsD p)), some (.ptr d), some (.ptr L), some (nodeD x), v7]) ⟨_, by rw [show sucs p x 0 = [] from rfl, List.append_nil]; rfl, rfl⟩ (fun _ _ _ _ => trivial) ?step ?fin)
      case fin =>
        rintro ds' cs' ⟨v7, rfl, rfl⟩
        rw [rng_len, partsD_len]
        have e0 : ((p.pl.n : Int)).toNat = p.pl.n := by omega
        rw [e0]
        have hs := sucs_len p x p.pl.n
        refine sf_nil (sf_nil ⟨6 * (326 - (met ++ [x]).length) + (wa ++ sucs p x p.pl.n).length, ?_, _, _, _, _, Dt, rfl, ?_, rfl, rfl⟩)
        · simp only [List.length_append, List.length_cons, List.length_nil]; omega
        · simp only [List.length_append, List.length_cons, List.length_nil]; omega
      case step =>
        rintro k y ds' cs' hy ⟨v7, rfl, rfl⟩
        obtain ⟨hk, rfl⟩ := rng_get hy
        rw [partsD_len] at hk
        have hk' : k < p.pl.n := by omega
        have e0 : (0 : Int) + (k : Int) = (k : Int) := by omega
        rw [e0]
        have hs := sucs_len p x k
        refine ⟨_, tg_name 7 nd, ?_⟩
        refine sf_cons (s_if (t := okK p x k) (cs1 := [(d, .gen (metP P w d (met ++ [x]))), (L, .lst ((wa ++ sucs p x k).map nodeD))]) (et_w (ew_and (et_cmp (ev_v 7 rfl) (ev_ixU (x := .tup (dints x.2)) (ev_v 6 rfl) ev_int rfl) od_ninU) (fun _ => ew_and1 (et_not (et_val (ev_callP c_early hr (by decide) (ea_cons (ev_v 3 rfl) (ea_cons (ev_ixU (x := .tup (dints x.2)) (ev_v 6 rfl) ev_int rfl) (ea_cons (ev_v 7 rfl) ea_nil))) ⟨p, x.2, k, by omega, hk', rfl, rfl, rfl, rfl⟩ hlk)))))) (fun hok => ?_) fun hok => ?_)
        · refine sf_cons (s_expr (ev_append 1 (ev_v 5 rfl) rfl (x := nodeD (suc p x k)) (ev_tup (ea_cons (ev_callP c_over hr (by decide) (ea_cons (ev_ixU (x := .tup (dints x.1)) (ev_v 6 rfl) ev_int rfl) (ea_cons (ev_ixL (ev_v 3 rfl) (ev_v 7 rfl) (partsD_at hk')) ea_nil)) ⟨x.1, p, k, by omega, rfl, rfl, rfl, rfl⟩ hlk) (ea_cons (ev_callTy (ea_cons (ev_callB (ea_cons (EvM.cast (y := .tup (dints (x.2 ++ [(k : Int)]))) (ev_op (ev_ixU (x := .tup (dints x.2)) (ev_v 6 rfl) ev_int rfl) (ev_tup (ea_cons (ev_v 7 rfl) ea_nil) (by simp)) (od_catU (by simp [dints_len]; omega))) ?cat) ea_nil) (cd_sortedU (ms := srt (x.2 ++ [(k : Int)])) (srt_perm _) (srt_sorted _) (by simp; omega)) T.zsorted b_sorted) ea_nil) cd_tupL T.ztuple b_tuple) ea_nil)) (by simp)) rfl ?len) (sf_nil (sf_nil ?_)))
          case cat => unfold dints; rw [List.map_append]; rfl
          case len =>
            simp only [List.length_map, List.length_append, List.length_cons, List.length_nil] at hm ⊢
            omega
          refine ⟨_, ?_, rfl⟩
          rw [sucs_T hok]
          simp
        · refine sf_nil (sf_nil ⟨_, ?_, rfl⟩)
          rw [sucs_F hok]
    · have hxm : x ∈ met := by simpa using hb2
      refine sf_nil (sf_nil ⟨6 * (326 - met.length) + wa.length, ?_, met, wa, _, _, Df.skip hxm, rfl, ?_, rfl, rfl⟩)
      · rw [List.length_append]; simp
      · rw [List.length_append] at hm; omega
  · have hw : wait = [] := by simpa using hc
    subst hw
    have hf := Df.found W.wf
    have hmem : ∀ d, d ∈ l ↔ d ∈ met.map (·.1) := fun d => by
      rw [Al.mem, hf]
      exact ⟨fun h => h.1, fun h => ⟨h, fits_nil d⟩⟩
    have hB : ∀ k ∈ met.map (·.1), k.length = p.b.length ∧ TS.Bd 8 k := fun k hk => ⟨found_len ((hf k).mp hk), W.sm.small.wd k ((hf k).mp hk)⟩
    obtain ⟨mw, hmw, LP⟩ := W.plan
    refine sf_cons (s_ret (EvM.drop (a := L) (c := .lst ([].map nodeD)) (cs1 := []) (ev_sortedSetT (ks := met.map (·.1)) (d := p.b.length) (B := 8) hu (EvM.cast (ev_mapG (own := [("_law_node", 6)]) met nodeD (fun n => .tup (dints n.1)) nd (blk (top 91) N91 rfl rfl) (ei_met 0 (ev_v 4 rfl) rfl) rfl (by omega) (fun _ => trivial) fun i n hn => ⟨_, fun b => tg_name 6 nd, fun b => ev_ixU (ev_v 6 rfl) ev_int rfl⟩) ?map) (fun l' nd' hl' => W.few l' nd' fun c hc => (hf c).mp (hl' c hc)) LP.b1 hB (code_asc (n := p.b.length) Al.asc fun k hk => hB k ((hmem k).mp hk)) hmem T.zsorted T.zset)) ⟨rfl, rfl⟩)
    case map => unfold dtups; rw [List.map_map]; rfl
end
end Af
set_option Elab.async false
set_option linter.all false
set_option maxRecDepth 100000
set_option pp.maxSteps 400
set_option maxHeartbeats 2000000
/-! ### worths and tuples of worths are those of the contents -/
namespace Af
theorem nar_isSome {p : Pl} (S : Small p) {pat : Pat} {c w : Int} (hp : GoodPat p.base.length pat) (hc : 0 ≤ c ∧ c < (p.base.length : Int)) (hw : 0 ≤ w ∧ w < 8) : (nar p pat c w).isSome = true ↔ ∃ d, Found p d ∧ Fits pat d ∧ d.getD c.toNat 0 = w := by
  cases e : nar p pat c w with
  | none =>
    have h := (nar_none S hp hc hw).mp e
    constructor
    · intro q; cases q
    · rintro ⟨d, h1, h2, h3⟩; exact absurd h3 (h d h1 h2)
  | some m =>
    obtain ⟨_, _, h, _⟩ := nar_some S hp hc hw e
    exact ⟨fun _ => h, fun _ => rfl⟩
theorem wsIn_asc (p : Pl) (pat : Pat) (c : Int) : (wsIn p pat c).Pairwise (· < ·) := by
  unfold wsIn
  rw [List.pairwise_map]
  refine (List.Pairwise.filter _ (List.pairwise_lt_range (n := 8))).imp fun {a b} h => ?_
  omega
theorem wsIn_mem {p : Pl} (S : Small p) {pat : Pat} {c : Int} (hp : GoodPat p.base.length pat) (hc : 0 ≤ c ∧ c < (p.base.length : Int)) {l : List (List Int)} (A : AllOf p pat l) (x : Int) : x ∈ wsIn p pat c ↔ x ∈ l.map fun d => d.getD c.toNat 0 := by
  unfold wsIn
  rw [List.mem_map, List.mem_map]
  constructor
  · rintro ⟨w, hw, e⟩
    obtain ⟨h1, h2⟩ := List.mem_filter.mp hw
    have h8 := List.mem_range.mp h1
    obtain ⟨d, f1, f2, f3⟩ := (nar_isSome S hp hc (w := (w : Int)) (by omega)).mp h2
    exact ⟨d, (A.mem d).mpr ⟨f1, f2⟩, by rw [f3, e]⟩
  · rintro ⟨d, hd, e⟩
    obtain ⟨f1, f2⟩ := (A.mem d).mp hd
    have hb := S.at_ f1 (k := c.toNat) (by omega)
    refine ⟨x.toNat, List.mem_filter.mpr ⟨List.mem_range.mpr (by omega), ?_⟩, by omega⟩
    have ex : ((x.toNat : Nat) : Int) = x := by omega
    rw [ex]
    exact (nar_isSome S hp hc (by omega)).mpr ⟨d, f1, f2, e⟩
def prj (cells : List Int) (d : List Int) : List Int := cells.map fun c => d.getD c.toNat 0
theorem prj_snoc (cells : List Int) (c : Int) (d : List Int) : prj (cells ++ [c]) d = prj cells d ++ [d.getD c.toNat 0] := by unfold prj; rw [List.map_append]; rfl
theorem snoc_inj {a b : List Int} {x y : Int} : a ++ [x] = b ++ [y] ↔ a = b ∧ x = y := by
  constructor
  · intro h
    have h2 := List.append_inj' h rfl
    exact ⟨h2.1, by simpa using h2.2⟩
  · rintro ⟨rfl, rfl⟩; rfl
theorem lex_last (a : List Int) {x y : Int} (h : x < y) : lexLt (a ++ [x]) (a ++ [y]) := by
  refine ⟨a.length, by simp, fun j hj => ?_, ?_⟩
  · simp [List.getD, List.getElem?_append_left hj]
  · simpa [List.getD] using h
theorem lex_snoc {a b : List Int} (x y : Int) (hl : a.length = b.length) (h : lexLt a b) : lexLt (a ++ [x]) (b ++ [y]) := by
  obtain ⟨k, hk, h1, h2⟩ := h
  have e1 : ∀ j, j < a.length → (a ++ [x]).getD j 0 = a.getD j 0 := fun j hj => by simp [List.getD, List.getElem?_append_left hj]
  have e2 : ∀ j, j < b.length → (b ++ [y]).getD j 0 = b.getD j 0 := fun j hj => by simp [List.getD, List.getElem?_append_left hj]
  refine ⟨k, by rw [List.length_append]; simp; omega, fun j hj => ?_, ?_⟩
  · rw [e1 j (by omega), e2 j (by omega)]; exact h1 j hj
  · rw [e1 k hk, e2 k (by omega)]; exact h2
structure TgI (p : Pl) (pat : Pat) (cells : List Int) (f : List (List Int × Pat)) : Prop where
  good : ∀ q ∈ f, GoodPat p.base.length q.2
  fits : ∀ q ∈ f, ∀ d, Fits q.2 d ↔ Fits pat d ∧ prj cells d = q.1
  all : ∀ d, Found p d → Fits pat d → ∃ q ∈ f, q.1 = prj cells d
  some_ : cells ≠ [] → ∀ q ∈ f, ∃ d, Found p d ∧ Fits pat d ∧ q.1 = prj cells d
  asc : f.Pairwise fun a b => lexLt a.1 b.1
  len : ∀ q ∈ f, q.1.length = cells.length
theorem TgI.nil {p : Pl} {pat : Pat} (hp : GoodPat p.base.length pat) : TgI p pat [] [([], pat)] where
  good := fun q hq => by rw [List.mem_singleton] at hq; subst hq; exact hp
  fits := fun q hq d => by rw [List.mem_singleton] at hq; subst hq; simp [prj]
  all := fun d _ _ => ⟨_, List.mem_singleton.mpr rfl, rfl⟩
  some_ := fun h => absurd rfl h
  asc := by simp
  len := fun q hq => by rw [List.mem_singleton] at hq; subst hq; rfl
theorem TgI.snoc {p : Pl} (S : Small p) {pat : Pat} {cells : List Int} {f : List (List Int × Pat)} (h : TgI p pat cells f) {c : Int} (hc : 0 ≤ c ∧ c < (p.base.length : Int)) : TgI p pat (cells ++ [c]) (f.flatMap (exp1 p c)) where
  good := fun r hr => by
    obtain ⟨q, hq, hr⟩ := List.mem_flatMap.mp hr
    obtain ⟨w, hw, hn, e⟩ := exp1_mem hr
    exact (nar_some S (h.good q hq) hc (by omega) hn).2.1
  fits := fun r hr d => by
    obtain ⟨q, hq, hr⟩ := List.mem_flatMap.mp hr
    obtain ⟨w, hw, hn, e⟩ := exp1_mem hr
    rw [(nar_some S (h.good q hq) hc (by omega) hn).2.2.2 d, h.fits q hq d, e, prj_snoc, snoc_inj]
    exact and_assoc
  all := fun d hd hf => by
    obtain ⟨q, hq, e⟩ := h.all d hd hf
    have hb := S.at_ hd (k := c.toNat) (by omega)
    have hs : (nar p q.2 c (d.getD c.toNat 0)).isSome = true := (nar_isSome S (h.good q hq) hc hb).mpr ⟨d, hd, (h.fits q hq d).mpr ⟨hf, e.symm⟩, rfl⟩
    obtain ⟨m, hm⟩ := Option.isSome_iff_exists.mp hs
    refine ⟨(q.1 ++ [d.getD c.toNat 0], m), List.mem_flatMap.mpr ⟨q, hq, List.mem_filterMap.mpr ⟨(d.getD c.toNat 0).toNat, List.mem_range.mpr (by omega), ?_⟩⟩, ?_⟩
    · have ex : (((d.getD c.toNat 0).toNat : Nat) : Int) = d.getD c.toNat 0 := by omega
      rw [ex, hm]; rfl
    · rw [prj_snoc, e]
  some_ := fun _ r hr => by
    obtain ⟨q, hq, hr⟩ := List.mem_flatMap.mp hr
    obtain ⟨w, hw, hn, e⟩ := exp1_mem hr
    obtain ⟨d, h1, h2, h3⟩ := (nar_some S (h.good q hq) hc (by omega) hn).2.2.1
    obtain ⟨h4, h5⟩ := (h.fits q hq d).mp h2
    exact ⟨d, h1, h4, by rw [e, prj_snoc, h5, h3]⟩
  asc := by
    rw [List.pairwise_flatMap]
    refine ⟨fun q hq => ?_, ?_⟩
    · unfold exp1
      rw [List.pairwise_filterMap]
      refine (List.pairwise_lt_range (n := 8)).imp fun {a b} hab => ?_
      intro x hx y hy
      obtain ⟨m, _, e⟩ := Option.map_eq_some_iff.mp hx
      obtain ⟨m2, _, e2⟩ := Option.map_eq_some_iff.mp hy
      subst e; subst e2
      exact lex_last q.1 (by omega)
    · have ha0 := h.asc
      rw [List.pairwise_iff_forall_sublist] at ha0 ⊢
      intro a b hab x hx y hy
      obtain ⟨w, _, _, e⟩ := exp1_mem hx
      obtain ⟨w2, _, _, e2⟩ := exp1_mem hy
      rw [e, e2]
      have ha := h.len a (hab.subset List.mem_cons_self)
      have hb := h.len b (hab.subset (List.mem_cons_of_mem _ List.mem_cons_self))
      exact lex_snoc _ _ (by rw [ha, hb]) (ha0 hab)
  len := fun r hr => by
    obtain ⟨q, hq, hr⟩ := List.mem_flatMap.mp hr
    obtain ⟨w, hw, hn, e⟩ := exp1_mem hr
    rw [e, List.length_append, List.length_append, h.len q hq]; rfl
theorem tgs_I {p : Pl} (S : Small p) {pat : Pat} (hp : GoodPat p.base.length pat) : ∀ (n : Nat) (cells : List Int), cells.length = n → (∀ c ∈ cells, 0 ≤ c ∧ c < (p.base.length : Int)) → TgI p pat cells (tgs p cells pat)
  | 0, cells, hl, _ => by
    have : cells = [] := List.eq_nil_of_length_eq_zero hl
    subst this
    exact TgI.nil hp
  | n + 1, cells, hl, hc => by
    have hne : cells ≠ [] := by intro e; rw [e] at hl; simp at hl
    obtain ⟨G, k, e⟩ : ∃ G k, cells = G ++ [k] := ⟨cells.dropLast, cells.getLast hne, (List.dropLast_concat_getLast hne).symm⟩
    subst e
    rw [tgs_snoc]
    exact (tgs_I S hp n G (by simpa using hl) fun c h => hc c (List.mem_append_left _ h)).snoc S (hc k (by simp))
theorem tgs_mem {p : Pl} (S : Small p) {pat : Pat} (hp : GoodPat p.base.length pat) {cells : List Int} (hne : cells ≠ []) (hc : ∀ c ∈ cells, 0 ≤ c ∧ c < (p.base.length : Int)) {l : List (List Int)} (A : AllOf p pat l) (k : List Int) : k ∈ (tgs p cells pat).map (·.1) ↔ k ∈ l.map (prj cells) := by
  have I := tgs_I S hp _ cells rfl hc
  rw [List.mem_map, List.mem_map]
  constructor
  · rintro ⟨q, hq, e⟩
    obtain ⟨d, h1, h2, h3⟩ := I.some_ hne q hq
    exact ⟨d, (A.mem d).mpr ⟨h1, h2⟩, by rw [← h3, e]⟩
  · rintro ⟨d, hd, e⟩
    obtain ⟨h1, h2⟩ := (A.mem d).mp hd
    obtain ⟨q, hq, e2⟩ := I.all d h1 h2
    exact ⟨q, hq, by rw [e2, e]⟩
theorem tgs_asc {p : Pl} (S : Small p) {pat : Pat} (hp : GoodPat p.base.length pat) {cells : List Int} (hc : ∀ c ∈ cells, 0 ≤ c ∧ c < (p.base.length : Int)) : ((tgs p cells pat).map (·.1)).Pairwise lexLt := by
  rw [List.pairwise_map]
  exact (tgs_I S hp _ cells rfl hc).asc
end Af
set_option Elab.async false
set_option linter.all false
set_option maxRecDepth 100000
set_option pp.maxSteps 400
set_option maxHeartbeats 2000000
/-! ### _law_short, _law_worths_right -/
namespace Af
open PySem L2
theorem cut_init (xs : List D) : cutD xs none (some (-1)) = xs.dropLast := by
  unfold cutD
  rw [HT.sIx_none, List.dropLast_eq_take]
  have : HT.sIx xs.length xs.length (some (-1)) = xs.length - 1 := by
    unfold HT.sIx
    dsimp only
    rw [if_pos (by decide)]; omega
  rw [this]; rfl
theorem LawPlan.init {p : PIn} {mw : Int} (L : LawPlan p mw) : LawPlan { p with st := p.st.dropLast } mw where
  b1 := L.b1
  b4 := L.b4
  bw := L.bw
  w1 := L.w1
  w3 := L.w3
  len := by show p.st.dropLast.length ≤ 7; rw [List.length_dropLast]; have := L.len; omega
  steps := fun s hs => L.steps s (List.dropLast_subset _ hs)
theorem pl_nil (b : List Int) (w : Int) : (PIn.pl ⟨b, w, []⟩).n = 0 := rfl
def Pre_law_short (xs : List D) (cs : Cs) : Prop := ∃ p : PIn, LawPlan p 2 ∧ xs = [tripD p] ∧ cs = []
def Post_law_short (y : D) (c : Cs) : Prop := ∃ q : PIn, LawPlan q 2 ∧ q.pl.n ≤ 5 ∧ y = tripD q ∧ c = []
def R_law_worths_right (C : Addr) (xs : List D) (cs : Cs) (y : D) (cs' : Cs) : Prop := ∃ (p : PIn) (pat : Pat) (l : List (List Int)), Lw p ∧ GoodPat p.b.length pat ∧ AllOf p.pl pat l ∧ xs = [planD C p, .dic (patD pat), .lst (dtups l)] ∧ cs = [] ∧ y = .bl true ∧ cs' = []
/-- a block within a block -/
theorem blkS {X : Cx} {scope : Scope} {own : List (Str × Nat)} (N : List Str) (nm : List (Str × NameKind)) (hN : X.N = N) (hs : X.env.scope.names = nm) (h : blkB N nm scope own = true := by decide +kernel) : BlkOk X.N X.env.scope scope own := by
  unfold blkB at h
  simp only [Bool.and_eq_true, decide_eq_true_eq] at h
  obtain ⟨⟨⟨⟨h1, h2⟩, h3⟩, h4⟩, h5⟩ := h
  rw [hN]
  exact ⟨h1, h2, h3, by rw [hs]; exact h4, h5⟩
section
variable {P : Program} {w : World} {K : PySem.W.Frag} {mg : Str → Option Value} {base : Heap} {f : Addr} {fd : FuncData} {CP : Addr}
theorem sc94 : FnScope ["_law_triple"] ["_law_triple"] (defScope (top 94)) := ⟨rfl, rfl, rfl, by decide +kernel, rfl, by decide +kernel, by decide +kernel⟩
theorem ok_law_short (T : Txt K mg) (F : Fun K "_law_short" "_law_short" (top 94) f fd) (c_parts : Cal P w K mg base 1 "_law_parts" (spM false R_law_parts)) : FnOk P w K mg base CX0 2 f fd ["_law_triple"] (spN Pre_law_short (fun _ _ y c => Post_law_short y c)) := by
  refine fn_okN F sc94 (by rintro _ _ ⟨p, _, rfl, _⟩; rfl) fun cdv A outer s H E xs cs hr hP => ?_
  obtain ⟨p, LP, rfl, rfl⟩ := hP
  have nd : (["_law_triple"] : List Str).Nodup := nd_of (by decide +kernel)
  have hlk : false = true ∨ ([] : List Addr) = [] := .inr rfl
  refine sf_cons (s_while (fun m ds' cs' => ∃ q : PIn, LawPlan q 2 ∧ m = q.st.length ∧ cs' = [] ∧ ds' = [some (tripD q)]) p.st.length ⟨p, LP, rfl, rfl, rfl⟩ ?_)
  rintro m ds' cs' ⟨q, LQ, rfl, rfl, rfl⟩
  refine ⟨decide (5 < (q.pl.n : Int)), [], EvT.cast (et_cmp (ev_callB (ea_cons (ev_callP c_parts hr (by decide) (ea_cons (ev_v 0 rfl) ea_nil) (LQ.parts _ rfl) hlk) ea_nil) cd_lenL T.zlen b_len) ev_int od_gt) (by rw [partsD_len]), fun ht => ?_, fun ht => ?_⟩
  · have h5 := of_decide_eq_true ht
    have hne : q.st ≠ [] := by
      intro e
      obtain ⟨b, w', st⟩ := q
      simp only at e
      subst e
      rw [pl_nil] at h5
      omega
    refine sf_cons (s_set 0 nd (cs1 := []) (x := tripD { q with st := q.st.dropLast }) (EvM.cast (ev_tup (ea_cons (ev_ixU (x := .tup (dints q.b)) (ev_v 0 rfl) ev_int rfl) (ea_cons (ev_ixU (x := .int q.w) (ev_v 0 rfl) ev_int rfl) (ea_cons (ev_slL (ev_ixU (x := .lst (q.st.map stepD)) (ev_v 0 rfl) ev_int rfl) eo_none (eo_some (ev_neg ev_int))) ea_nil))) (by simp)) ?cst) (sf_nil ⟨_, ?_, _, LQ.init, rfl, rfl, rfl⟩))
    case cst => rw [cut_init]; show _ = D.tup [.tup (dints q.b), .int q.w, .lst (q.st.dropLast.map stepD)]; rw [List.map_dropLast]
    show q.st.dropLast.length < q.st.length
    have := List.length_pos_iff.mpr hne
    rw [List.length_dropLast]; omega
  · have h5 := of_decide_eq_false ht
    exact sf_cons (s_ret (ev_v 0 rfl) ⟨q, LQ, by omega, rfl, rfl⟩)
theorem dints_map {α : Type} (g : α → Int) (l : List α) : dints (l.map g) = l.map fun a => .int (g a) := by unfold dints; rw [List.map_map]; rfl
abbrev N96 : List Str := ["_law_made", "_law_pattern_here", "_law_every", "_law_none", "_law_cells", "_law_k", "_law_some_here", "_law_one"]
theorem sc96 : FnScope N96 ["_law_made", "_law_pattern_here", "_law_every"] (defScope (top 96)) := ⟨rfl, rfl, rfl, by decide +kernel, rfl, by decide +kernel, by decide +kernel⟩
theorem ok_law_worths_right (T : Txt K mg) (F : Fun K "_law_worths_right" "_law_worths_right" (top 96) f fd) (p_base : Prp P w K mg base 1 CP "base" (spM true (R_base CP))) (c_worths_of : Cal P w K mg base 14 "worths_of" (spM false (R_worths_in CP))) (c_together : Cal P w K mg base 13 "together" (spM false (R_together CP))) :
    FnOk P w K mg base CX0 15 f fd ["_law_made", "_law_pattern_here", "_law_every"] (spM false (R_law_worths_right CP)) := by
  refine fn_okM F sc96 (by rintro _ _ _ _ ⟨p, pat, l, _, _, _, rfl, _⟩; rfl) fun lk cdv A outer s H E xs cs y cs' hlk hr hR => ?_
  obtain ⟨p, pat, l, W, hp, Al, rfl, rfl, rfl, rfl⟩ := hR
  obtain rfl := lk_nil hlk
  have nd : N96.Nodup := nd_of (by decide +kernel)
  have hu : (bcx P w K mg base N96 "_law_worths_right" (top 96) f cdv A outer s H E).A.units + 64 < cLine := by have := hr.units; omega
  have S := W.sm
  have hl := W.len Al
  obtain ⟨mw, hmw, LP⟩ := W.plan
  have hb1 := LP.b1
  have hb4 := LP.b4
  have hlen : ∀ d ∈ l, d.length = p.b.length := fun d hd => found_len ((Al.mem d).mp hd).1
  refine sf_cons (s_par 3 4 nd (x := noC) (y := .int (p.b.length : Int)) (cs1 := []) (ea_cons (ev_tup (ea_cons (ev_lst ea_nil) (ea_cons (ev_lst ea_nil) (ea_cons (ev_lst ea_nil) ea_nil)))) (ea_cons (EvM.cast (ev_callB (ea_cons (ev_prop p_base hr (by decide) (ev_v 0 rfl) ⟨p, rfl, rfl, rfl, rfl⟩ (.inl rfl)) ea_nil) cd_lenU T.zlen b_len) (by rw [dints_len])) ea_nil)) ?_)
  refine sf_cons (s_for (G := fun _ => True) (vs := [5]) (ei_range1 T.zrange (ev_v 4 rfl) (by omega)) (fun i ds' cs' => ∃ v5 : Option D, cs' = [] ∧ ds' = [some (planD CP p), some (.dic (patD pat)), some (.lst (dtups l)), some noC, some (.int (p.b.length : Int)), v5, none, none]) ⟨_, rfl, rfl⟩ (fun _ _ _ _ => trivial) ?step ?fin)
  case step =>
    rintro k x ds' cs' hx ⟨v5, rfl, rfl⟩
    obtain ⟨hk, rfl⟩ := rng_get hx
    have hk' : k < p.b.length := by omega
    have e0 : (0 : Int) + (k : Int) = (k : Int) := by omega
    rw [e0]
    have hc : 0 ≤ (k : Int) ∧ (k : Int) < (p.b.length : Int) := by omega
    refine ⟨_, tg_name 5 nd, ?_⟩
    refine sf_cons (s_ifF (cs1 := []) (et_cmp (t := false) (ev_callP c_worths_of hr (by decide) (ea_cons (ev_v 0 rfl) (ea_cons (ev_v 1 rfl) (ea_cons (ev_v 3 rfl) (ea_cons (ev_v 5 rfl) ea_nil)))) ⟨p, pat, (k : Int), S, hp, hc, rfl, rfl, rfl, rfl⟩ hlk)
      (ev_sortedSetL (ns := l.map fun d => d.getD k 0) (ms := wsIn p.pl pat (k : Int)) (EvM.cast (ev_mapG (own := [("_law_one", 7)]) l (fun d => .tup (dints d)) (fun d => .int (d.getD k 0)) nd (blk (top 96) N96 rfl rfl) (ei_lst (ev_v 2 rfl)) rfl (by omega) (fun _ => trivial) fun j d hd => ⟨_, fun b => tg_name 7 nd, fun b => ev_ixU (ev_v 7 rfl) (ev_v 5 rfl) (ints_at (by rw [hlen d (List.mem_of_getElem? hd)]; exact hk'))⟩) (by rw [dints_map])) (by rw [List.length_map]; omega) (wsIn_asc _ _ _) (wsIn_mem S.small hp hc Al) T.zsorted T.zset)
      (od_neD (t := true) hu (plain_lst _) (plain_lst _) (Nat.le_trans (depth_lst _) (by decide)) (Nat.le_trans (depth_lst _) (by decide)) (by simp))) (sf_nil (sf_nil ⟨_, rfl, rfl⟩)))
  case fin =>
    rintro ds' cs' ⟨v5, rfl, rfl⟩
    obtain ⟨cells, hcells⟩ : ∃ cells : List Int, cells = if 1 < (p.b.length : Int) then [(p.b.length : Int) - 1, 0] else [0] := ⟨_, rfl⟩
    have hcl : cells.length ≤ 2 := by rw [hcells]; split <;> simp
    have hok : OkCells p.b.length cells := by
      rw [hcells]
      split
      · refine ⟨by simp, by simp, ?_, fun c hc => ?_⟩
        · simp; omega
        · simp only [List.mem_cons, List.not_mem_nil, or_false] at hc
          rcases hc with e | e <;> subst e <;> omega
      · refine ⟨by simp, by simp, by simp, fun c hc => ?_⟩
        simp only [List.mem_cons, List.not_mem_nil, or_false] at hc
        subst hc; omega
    refine sf_cons (s_set 6 nd (cs1 := []) (x := .lst (dints cells)) (ev_if (et_cmp (ev_v 4 rfl) ev_int od_gt) (fun ht => ?tr) (fun ht => ?fa)) ?_)
    case tr =>
      have h := of_decide_eq_true ht
      rw [hcells, if_pos h]
      exact ev_lst (ea_cons (ev_op (ev_v 4 rfl) ev_int od_sub) (ea_cons ev_int ea_nil)) (by simp [dints])
    case fa =>
      have h := of_decide_eq_false ht
      rw [hcells, if_neg h]
      exact ev_lst (ea_cons ev_int ea_nil)
    have hB : ∀ k ∈ l.map (prj cells), k.length = cells.length ∧ TS.Bd 8 k := fun k hk => by
      obtain ⟨d, hd, rfl⟩ := List.mem_map.mp hk
      refine ⟨by unfold prj; rw [List.length_map], fun m hm => ?_⟩
      obtain ⟨c, hc, rfl⟩ := List.mem_map.mp hm
      have := hok.2.2.2 c hc
      exact S.small.at_ ((Al.mem d).mp hd).1 (k := c.toNat) (show c.toNat < p.b.length by omega)
    have hmem := tgs_mem S.small hp hok.1 hok.2.2.2 Al
    refine sf_cons (s_ret (cs1 := []) (ev_cmp (ev_callP c_together hr (by decide) (ea_cons (ev_v 0 rfl) (ea_cons (ev_v 1 rfl) (ea_cons (ev_v 3 rfl) (ea_cons (ev_v 6 rfl) ea_nil)))) ⟨p, pat, cells, S, hp, hok, rfl, rfl, rfl, rfl⟩ hlk)
      (ev_sortedSetT (ks := l.map (prj cells)) (ms := (tgs p.pl cells pat).map (·.1)) (d := cells.length) (B := 8) hu (EvM.cast (ev_mapG (own := [("_law_one", 7)]) l (fun d => .tup (dints d)) (fun d => .tup (dints (prj cells d))) nd (blk (top 96) N96 rfl rfl) (ei_lst (ev_v 2 rfl)) rfl (by omega) (fun _ => trivial) fun j d hd => ⟨_, fun b => tg_name 7 nd, fun b => ?elt⟩) ?map) (fun l' nd' hl' => ?few) (by rw [hcells]; split <;> simp) hB (code_asc (n := cells.length) (tgs_asc S.small hp hok.2.2.2) fun k hk => hB k ((hmem k).mp hk)) hmem T.zsorted T.zset)
      (od_eqD (t := true) hu (plain_dtups _) (plain_dtups _) (Nat.le_trans (depth_dtups _) (by decide)) (Nat.le_trans (depth_dtups _) (by decide)) (by simp))) ⟨rfl, rfl⟩)
    case map => unfold dtups; rw [List.map_map]; rfl
    case few =>
      have := nodup_sub_len nd' hl'
      rw [List.length_map] at this
      omega
    case elt =>
      have hd' := hlen d (List.mem_of_getElem? hd)
      refine ev_callTy (ea_cons (EvM.cast (y := .lst (dints (prj cells d))) (ev_mapG (own := [("_law_k", 5)]) cells D.int (fun c => .int (d.getD c.toNat 0)) nd (blkS N96 [(".0", .local), ("_law_one", .cell), ("tuple", .globalImplicit), ("_law_some_here", .cell)] rfl rfl) (ei_lst (ev_v 6 rfl)) rfl (by omega) (fun _ => trivial) fun i c hc => ⟨_, fun b2 => tg_name 5 nd, fun b2 => ev_ixU (ev_v 7 rfl) (ev_v 5 rfl) ?at_⟩) ?mp) ea_nil) cd_tupL T.ztuple b_tuple
      case mp => unfold prj; rw [dints_map]
      case at_ =>
        have hcb := hok.2.2.2 c (List.mem_of_getElem? hc)
        have := ints_at (c := d) (j := c.toNat) (by rw [hd']; omega)
        rwa [Int.toNat_of_nonneg hcb.1] at this
end
end Af
set_option Elab.async false
set_option linter.all false
set_option maxRecDepth 100000
set_option pp.maxSteps 400
set_option maxHeartbeats 2000000
/-! ### where one part of a call is open; the script -/
namespace Af
open PySem L2
section
variable {lk : List Addr} {X : Cx} {a b c e o : Expr} {es : List Expr} {ss rest : List Stmt} {ds : Ds} {cs cs0 cs1 cs2 cs3 : Cs} {x y z : D} {xs : List D} {pos p2 apos : Pos} {P : D → Cs → Prop} {k : KE}
def EvAP (lk : List Addr) (X : Cx) (es : List Expr) (ds : Ds) (cs : Cs) (P : List D → Cs → Prop) : Prop :=
  ∀ σ S H, Own lk S H cs → Env S ds σ → ∀ Q, (∀ xs cs', P xs cs' → PostA lk cs S H cs' xs Q) → wA X es σ H Q
theorem eap_last (ha : EvP lk X a ds cs P) (hs : starEach [a] X.env = (false, eval a X.env) :: starEach [] X.env := by rfl) : EvAP lk X [a] ds cs (fun xs c => ∃ x, xs = [x] ∧ P x c) := fun σ S H O E Q q =>
  run_a (pa_cons pe_w pa_nil hs) (ha σ S H O E _ fun x c1 hP v S1 H1 O1 s1 r1 => q [x] c1 ⟨x, rfl, hP⟩ [v] S1 H1 O1 s1 (.cons r1 .nil))
theorem eap_cons {P : List D → Cs → Prop} (ha : EvM lk X a ds cs x cs1) (hr : EvAP lk X es ds cs1 P) (hs : starEach (a :: es) X.env = (false, eval a X.env) :: starEach es X.env := by rfl) : EvAP lk X (a :: es) ds cs (fun xs c => ∃ ys, xs = x :: ys ∧ P ys c) := fun σ S H O E Q q =>
  run_a (pa_cons pe_w pa_w hs) (ha σ S H O E _ fun v S1 H1 O1 s1 r1 => hr σ S1 H1 O1 (E.mono s1.ext) _ fun ys c2 hP vs S2 H2 O2 s2 r2 => q (x :: ys) c2 ⟨ys, rfl, hP⟩ _ S2 H2 O2 (s1.trans s2) (.cons (r1.mono s2.ext) r2))
/-- a call whose arguments are open -/
theorem ep_callA {n : Str} {k j : Nat} {Pre : List D → Cs → Prop} {R : List D → Cs → D → Cs → Prop} {A : List D → Cs → Prop} {B : D → Cs → Prop} (c : Cal X.prog X.w X.K X.mg X.base k n (spN Pre R)) (hr : Room j X.A) (hk : k ≤ j) (ha : EvAP [] X (a :: es) ds cs A)
    (h : ∀ xs c1, A xs c1 → ∃ cs0 fr, c1 = cs0 ++ fr ∧ Pre xs cs0 ∧ ∀ y cs1, R xs cs0 y cs1 → B y (cs1 ++ fr)) (hg : Gl X n := by rfl)
    (hdb : (n == ("__debug__" : Str)) = false := by decide) (he : starEach (a :: es) X.env = (false, eval a X.env) :: starEach es X.env := by rfl) (hpl : (backTo pos (starEach es X.env)).any (·.1) = false := by rfl) :
    EvP [] X (.Call (.Name n p2) (a :: es) [] pos) ds cs B := fun σ S H O E Q q => by
  obtain ⟨f, fd, ps, F, hm, kp, b⟩ := c.ex
  refine run_e (pe_call F (hr.mono hk) hg hm kp b .nil (E := E0) pass0 pa_w hdb he hpl) (ha σ S H O E _ fun xs c1 hA vs S1 H1 O1 s1 r1 => ?_)
  obtain ⟨cs0, fr, rfl, hP, hB⟩ := h xs c1 hA
  rw [List.append_nil]
  exact ⟨S1, xs, cs0, O1.left, r1, hP, fun y cs1 hR v S2 H2 O2 s2 r2 => q y _ (hB y cs1 hR) v S2 H2 (O1.frame O2 s2) (s1.trans (.frame O1 s2)) r2⟩
theorem ep_callAM {n : Str} {k j : Nat} {ok : Bool} {R : List D → Cs → D → Cs → Prop} {A : List D → Cs → Prop} {B : D → Cs → Prop} (c : Cal X.prog X.w X.K X.mg X.base k n (spM ok R)) (hr : Room j X.A) (hk : k ≤ j) (ha : EvAP [] X (a :: es) ds cs A)
    (h : ∀ xs c1, A xs c1 → ∃ cs0 fr y cs1, c1 = cs0 ++ fr ∧ R xs cs0 y cs1 ∧ B y (cs1 ++ fr)) (hg : Gl X n := by rfl)
    (hdb : (n == ("__debug__" : Str)) = false := by decide) (he : starEach (a :: es) X.env = (false, eval a X.env) :: starEach es X.env := by rfl) (hpl : (backTo pos (starEach es X.env)).any (·.1) = false := by rfl) :
    EvP [] X (.Call (.Name n p2) (a :: es) [] pos) ds cs B := fun σ S H O E Q q => by
  obtain ⟨f, fd, ps, F, hm, kp, b⟩ := c.ex
  refine run_e (pe_call F (hr.mono hk) hg hm kp b .nil (E := E0) pass0 pa_w hdb he hpl) (ha σ S H O E _ fun xs c1 hA vs S1 H1 O1 s1 r1 => ?_)
  obtain ⟨cs0, fr, y, cs1, rfl, hR, hB⟩ := h xs c1 hA
  rw [List.append_nil]
  exact ⟨[], S1, xs, cs0, y, cs1, .inr rfl, O1.left, r1, hR, fun v S2 H2 O2 s2 r2 => q y _ hB v S2 H2 (O1.frame O2 s2) (s1.trans (.frame O1 s2)) r2⟩
/-- a test with open ends -/
def EvTP (lk : List Addr) (X : Cx) (c : Expr) (ds : Ds) (cs : Cs) (P : Bool → Cs → Prop) : Prop :=
  ∀ σ S H, Own lk S H cs → Env S ds σ → ∀ Q, (∀ t cs', P t cs' → PostT lk cs S H cs' t Q) → wT X c σ H Q
theorem etp_val {P : Bool → Cs → Prop} (h : EvP lk X e ds cs (fun y c => ∃ t, y = .bl t ∧ P t c)) (he : ∀ whole, isTrue e X.env whole = (do let v ← whole; standAt e.pos; holding [v] (truthy v)) := by intro _; rfl) : EvTP lk X e ds cs P := fun σ S H O E Q q =>
  run_t (pt_val pe_w he) (h σ S H O E _ fun y c1 hP v S1 H1 O1 s1 r1 => by
    obtain ⟨t, rfl, hP⟩ := hP
    rw [Rep] at r1
    exact ⟨t, r1, q t c1 hP S1 H1 O1 s1⟩)
theorem etp_not {P : Bool → Cs → Prop} (h : EvTP lk X a ds cs P) : EvTP lk X (.UnaryOp .Not a pos) ds cs (fun t c => P (!t) c) := fun σ S H O E Q q =>
  run_t (pt_not pt_w) (h σ S H O E _ fun t c1 hP S1 H1 O1 s1 => q (!t) c1 (by show P (!(!t)) c1; rw [Bool.not_not]; exact hP) S1 H1 O1 s1)
theorem s_ifP {P : Bool → Cs → Prop} (hc : EvTP lk X c ds cs P) (h : ∀ t cs1, P t cs1 → SF lk X (if t = true then ss else rest) ds cs1 k) : S1 lk X (.If c ss rest pos) ds cs k := fun σ S H O E D0 p =>
  run_s (ps_if pt_w pss_w pss_w) (hc σ S H O E _ fun t c1 hP S1 H1 O1 s1 => by
    have := h t c1 hP σ S1 H1 O1 (E.mono s1.ext) D0 (p.step s1)
    cases t with
    | true => rw [if_pos rfl] at this ⊢; exact this
    | false => rw [if_neg Bool.false_ne_true] at this ⊢; exact this)
theorem ep_if {t : Bool} (hc : EvT lk X c ds cs t cs1) (ha : t = true → EvP lk X a ds cs1 P) (hb : t = false → EvP lk X b ds cs1 P) : EvP lk X (.IfExp c a b pos) ds cs P := fun σ S H O E Q q =>
  run_e (pe_ifExp pt_w pe_w pe_w) (hc σ S H O E _ fun S1 H1 O1 s1 => by
    cases t with
    | true => rw [if_pos rfl]; exact ha rfl σ S1 H1 O1 (E.mono s1.ext) Q fun x c2 hP => (q x c2 hP).step s1
    | false => rw [if_neg Bool.false_ne_true]; exact hb rfl σ S1 H1 O1 (E.mono s1.ext) Q fun x c2 hP => (q x c2 hP).step s1)
/-- a slice of a list that stands somewhere -/
theorem ev_slP {p : Addr} {ns : List Int} {lo hi : Option Expr} {i j : Option Int} (ha : EvM lk X a ds cs (.ptr p) cs1) (hl : EvO lk X lo ds cs1 i cs2) (hh : EvO lk X hi ds cs2 j cs3) (hs : ∀ S H, Own lk S H cs3 → SqL X.K H p (ns.map V.int)) : EvM lk X (.Subscript a (.Slice lo hi none p2) pos) ds cs (.lst (cutD (dints ns) i j)) cs3 := fun σ S H O E Q q =>
  run_e (pe_slice sl_list pe_w po_w po_w) (ha σ S H O E _ fun v S1 H1 O1 s1 r1 => hl σ S1 H1 O1 (E.mono s1.ext) _ fun S2 H2 O2 s2 => hh σ S2 H2 O2 (E.mono (s1.trans s2).ext) _ fun S3 H3 O3 s3 => by
    rw [rep_ptr] at r1
    have r : Reps S3 (dints ns) (ns.map V.int) := Reps.ints.mpr rfl
    exact ⟨p, _, r1, hs S3 H3 O3, fun l hl => (q.step ((s1.trans s2).trans s3)).new O3 hl (rep_lst.mpr ⟨l, _, rfl, upd_same, r.cut.mono (.new (O3.lies.ne hl))⟩)⟩)
end
/-- where the script stands -/
def Scr (K : PySem.W.Frag) (a : Addr) (ns : List Int) (cs : Cs) : Prop := ns.length ≤ 63 ∧ ∀ S H, Own [] S H cs → SqL K H a (ns.map V.int)
theorem scr_of {K : PySem.W.Frag} {H : Hp} {a : Addr} {ns : List Int} (hl : ns.length ≤ 63) (hO : Only H) (h : SqL K H a (ns.map V.int)) : ∃ cs, Scr K a ns cs ∧ Own [] (fun _ => none) H cs := by
  have hx : Lies [] (fun _ => none) H := fun b o e => by cases e
  rcases h with h | h
  · rcases h with h | ⟨o, h⟩
    · rcases hO a with e | ⟨o, xs, e⟩
      · rw [e] at h; cases h
      · rw [e] at h; cases h
    · refine ⟨[(a, .raw (.frz o (.lst (ns.map V.int))))], ⟨hl, fun S H' O => .inl (.inr ⟨o, ?_⟩)⟩, hx, by simp, fun p hp => ?_⟩
      · exact (O.cell _ (List.mem_singleton.mpr rfl)).2
      · rw [List.mem_singleton] at hp
        subst hp
        exact ⟨rfl, h⟩
  · exact ⟨[], ⟨hl, fun S H' O => .inr h⟩, hx, by simp, fun p hp => by simp at hp⟩
section
variable {P : Program} {w : World} {K : PySem.W.Frag} {mg : Str → Option Value} {base : Heap} {f : Addr} {fd : FuncData} {CP : Addr}
theorem ok_law_penP (T : Txt K mg) (F : Fun K "_law_pen" "_law_pen" (top 82) f fd) (s : Addr) (l : List Int) (cs0 : Cs) (hs : Scr K s l cs0) : FnOk P w K mg base CX0 1 f fd ["_law_script"] (spN (fun xs cs => xs = [.ptr s] ∧ cs = cs0) (fun _ _ y c => ∃ a, y = .ptr a ∧ c = cs0 ++ R_law_pen a l)) := by
  refine fn_okN F sc82 (by rintro _ _ ⟨rfl, _⟩; rfl) fun cdv A outer s' H E xs cs hr hP => ?_
  obtain ⟨rfl, rfl⟩ := hP
  refine sf_cons (s_retP (ep_lst (ea_cons (EvM.cast (y := .lst (dints (l.take 60))) (ev_callTy (ea_cons (ev_slP (ns := l) (ev_v 0 rfl) eo_none (eo_some ev_int) hs.2) ea_nil) cd_listL T.zlist b_list) ?_) (ea_cons ev_int (ea_cons ev_int ea_nil))) (by simp)) fun y c h => ?_)
  · have := cut_upto (dints l) 60
    rw [show ((60 : Nat) : Int) = 60 from rfl] at this
    rw [this]; unfold dints; rw [List.map_take]
  · obtain ⟨a, rfl, rfl⟩ := h
    exact ⟨a, rfl, rfl⟩
end
end Af
set_option Elab.async false
set_option linter.all false
set_option maxRecDepth 100000
set_option pp.maxSteps 400
set_option maxHeartbeats 2000000
/-! ### _law_right -/
namespace Af
open PySem L2
def R_law_right (C : Addr) (xs : List D) (cs : Cs) (y : D) (cs' : Cs) : Prop := ∃ (a : Addr) (q : Pn) (p : PIn) (pat : Pat), q.Ok (PB - 2000) ∧ Lw p ∧ LawPat p.b.length pat ∧ xs = [.ptr a, tripD p, .dic (patD pat)] ∧ cs = [(a, q.co)] ∧ y = .bl true ∧ cs' = [(a, (q.gos 3 p.b.length).co)]
theorem meets_fits {c : List Int} {pat : Pat} : meetsB c pat = true ↔ Fits pat c := by
  unfold meetsB Fits
  rw [List.all_eq_true]
  exact ⟨fun h q hq => of_decide_eq_true (h q hq), fun h q hq => decide_eq_true (h q hq)⟩
theorem AllOf.filt {p : Pl} {l : List (List Int)} (A : AllOf p [] l) (pat : Pat) : AllOf p pat (l.filter fun c => meetsB c pat) where
  asc := A.asc.filter _
  mem := fun d => by
    rw [List.mem_filter, A.mem, meets_fits]
    exact ⟨fun h => ⟨h.1.1, h.2⟩, fun h => ⟨⟨h.1, fits_nil d⟩, h.2⟩⟩
theorem soughtD_non (o : Option (List Nat)) : (soughtD o).isNon = o.isNone := by cases o <;> rfl
theorem tup_inj {a b : List Int} : D.tup (dints a) = D.tup (dints b) ↔ a = b := by
  constructor
  · intro h; injection h with h; exact dints_inj.mp h
  · intro h; rw [h]
theorem dtups_mem {c : List Int} {l : List (List Int)} : D.tup (dints c) ∈ dtups l ↔ c ∈ l := by
  unfold dtups
  rw [List.mem_map]
  constructor
  · rintro ⟨k, hk, e⟩; rw [← tup_inj.mp e]; exact hk
  · intro h; exact ⟨c, h, rfl⟩
theorem dtups_at {l : List (List Int)} {k : Nat} (h : k < l.length) : L2.atI (dtups l) (k : Int) = some (.tup (dints l[k])) := by
  rw [atI_nat (by rw [dtups_len]; exact h)]
  unfold dtups
  rw [List.getElem_map]
section
variable {P : Program} {w : World} {K : PySem.W.Frag} {mg : Str → Option Value} {base : Heap} {f : Addr} {fd : FuncData} {CP : Addr}
abbrev N97 : List Str := ["_law_pen_here", "_law_triple", "_law_pattern_here", "_law_made", "_law_none", "_law_whole", "_law_every", "_law_k", "_law_told_here", "_law_far", "_law_one"]
theorem sc97 : FnScope N97 ["_law_pen_here", "_law_triple", "_law_pattern_here"] (defScope (top 97)) := ⟨rfl, rfl, rfl, by decide +kernel, rfl, by decide +kernel, by decide +kernel⟩
theorem ok_law_right (T : Txt K mg) (F : Fun K "_law_right" "_law_right" (top 97) f fd) (c_Plan : Mak P w K mg base 5 "Plan" CP (spM false (R_init CP))) (c_all : Cal P w K mg base 2 "_law_all" (spM false R_law_all)) (c_meets : Cal P w K mg base 1 "_law_meets" (spM false R_law_meets))
    (c_contents : Cal P w K mg base 17 "contents" (spM false (R_contents CP))) (c_worths_right : Cal P w K mg base 15 "_law_worths_right" (spM false (R_law_worths_right CP))) (c_next_content : Cal P w K mg base 16 "next_content" (spM false (R_next_content CP)))
    (c_find : Cal P w K mg base 12 "find" (spM false (R_find CP))) (c_pattern_of : Cal P w K mg base 1 "_law_pattern_of" (spM false R_law_pattern_of)) (c_is_fall : Cal P w K mg base 4 "is_fall" (spM true (R_is_fall CP))) (c_content_after : Cal P w K mg base 6 "content_after" (spM false (R_content_after CP)))
    (c_draw : Cal P w K mg base 2 "_law_draw" (spM false R_law_draw)) :
    FnOk P w K mg base CX0 18 f fd ["_law_pen_here", "_law_triple", "_law_pattern_here"] (spM false (R_law_right CP)) := by
  refine fn_okM F sc97 (by rintro _ _ _ _ ⟨a, q, p, pat, _, _, _, rfl, _⟩; rfl) fun lk cdv A outer s H E xs cs y cs' hlk hr hR => ?_
  obtain ⟨a, q, p, pat, okq, W, hpat, rfl, rfl, rfl, rfl⟩ := hR
  obtain rfl := lk_nil hlk
  have nd : N97.Nodup := nd_of (by decide +kernel)
  have hu : (bcx P w K mg base N97 "_law_right" (top 97) f cdv A outer s H E).A.units + 65 < cLine := by have := hr.un; omega
  have hPB : PB = 1000000000 := rfl
  have S := W.sm
  have hn24 := S.n24
  have hp := hpat.good S.n24
  obtain ⟨l, Al⟩ := all_ex p.pl []
  have hl63 := W.len Al
  have Ae := Al.filt pat
  have hlen : ∀ d ∈ l, d.length = p.b.length := fun d hd => found_len ((Al.mem d).mp hd).1
  refine sf_cons (s_par 3 4 nd (x := planD CP p) (y := noC) (cs1 := [(a, q.co)]) (ea_cons (ev_make c_Plan hr (by decide) (fs := p.flds) (ea_cons (ev_ixU (x := .tup (dints p.b)) (ev_v 1 rfl) ev_int rfl) (ea_cons (ev_ixU (x := .int p.w) (ev_v 1 rfl) ev_int rfl) (ea_cons (ev_ixU (x := .lst (p.st.map stepD)) (ev_v 1 rfl) ev_int rfl) ea_nil))) (fun x dx => ⟨x, dx, p, S.good, rfl, rfl, rfl, rfl⟩)) (ea_cons (ev_tup (ea_cons (ev_lst ea_nil) (ea_cons (ev_lst ea_nil) (ea_cons (ev_lst ea_nil) ea_nil)))) ea_nil)) ?_)
  refine sf_cons (s_set 5 nd (cs1 := [(a, q.co)]) (x := .lst (dtups l)) (ev_callP c_all hr (by decide) (ea_cons (ev_v 1 rfl) (ea_cons (ev_ixU (x := .tup (dints p.b)) (ev_v 1 rfl) ev_int rfl) (ea_cons (ev_tup ea_nil) ea_nil))) ⟨p, l, W, Al, rfl, rfl, rfl, rfl⟩ hlk) ?_)
  refine sf_cons (s_setFG 6 (own := [("_law_one", 10)]) l (fun d => .tup (dints d)) (fun c => meetsB c pat) (fun d => .tup (dints d)) nd (blk (top 97) N97 rfl rfl) (cs0 := [(a, q.co)]) (ei_lst (xs := dtups l) (ev_v 5 rfl)) rfl (by omega) (fun _ => trivial) (fun i d hd => ⟨_, fun b => tg_name 10 nd, fun b => et_val (ev_callP c_meets hr (by decide) (ea_cons (ev_v 10 rfl) (ea_cons (ev_v 2 rfl) ea_nil)) ⟨d, pat, by rw [hlen d (List.mem_of_getElem? hd)]; exact hp, rfl, rfl, rfl, rfl⟩ hlk), fun _ b => ev_v 10 rfl⟩) ?_)
  show SF [] _ _ [some (.ptr a), some (tripD p), some (.dic (patD pat)), some (planD CP p), some noC, some (.lst (dtups l)), some (.lst (dtups (l.filter fun c => meetsB c pat))), none, none, none, none] [(a, q.co)] _
  generalize (l.filter fun c => meetsB c pat) = ev at Ae
  have hev := W.len Ae
  have hevf : ∀ d ∈ ev, Found p.pl d := fun d hd => ((Ae.mem d).mp hd).1
  refine sf_cons (s_ifF (cs1 := [(a, q.co)]) (et_w (ew_orF (et_cmp (t := false) (ev_callP c_contents hr (by decide) (ea_cons (ev_v 3 rfl) (ea_cons (ev_v 2 rfl) (ea_cons ev_int ea_nil))) ⟨p, pat, ev, 99, S, hp, Ae, by omega, by decide, rfl, rfl, rfl, rfl⟩ hlk) (ev_v 6 rfl) (od_neD (t := true) (by omega) (plain_dtups _) (plain_dtups _) (Nat.le_trans (depth_dtups _) (by decide)) (Nat.le_trans (depth_dtups _) (by decide)) (by simp)))
    (ew_or1 (et_not (t := true) (et_val (ev_callP c_worths_right hr (by decide) (ea_cons (ev_v 3 rfl) (ea_cons (ev_v 2 rfl) (ea_cons (ev_v 6 rfl) ea_nil))) ⟨p, pat, ev, W, hp, Ae, rfl, rfl, rfl, rfl⟩ hlk)))))) (sf_nil ?_))
  refine sf_cons (s_for (G := fun _ => True) (vs := [7]) (ei_range1 T.zrange (ev_callB (ea_cons (ev_v 6 rfl) ea_nil) cd_lenL T.zlen b_len) (by rw [dtups_len]; omega)) (fun i ds' cs' => ∃ v7 v8 : Option D, cs' = [(a, q.co)] ∧ ds' = [some (.ptr a), some (tripD p), some (.dic (patD pat)), some (planD CP p), some noC, some (.lst (dtups l)), some (.lst (dtups ev)), v7, v8, none, none]) ⟨_, _, rfl, rfl⟩ (fun _ _ _ _ => trivial) ?step ?fin)
  case step =>
    rintro k x ds' cs' hx ⟨v7, v8, rfl, rfl⟩
    obtain ⟨hk, rfl⟩ := rng_get hx
    rw [dtups_len] at hk
    have hk' : k < ev.length := by omega
    have e0 : (0 : Int) + (k : Int) = (k : Int) := by omega
    rw [e0]
    have hat := dtups_at hk'
    have hge : ev[k]? = some ev[k] := by simp [hk']
    have hmem : ev[k] ∈ ev := List.getElem_mem hk'
    have hfo := hevf _ hmem
    have hin : InW p.b.length ev[k] := Ae.inw S hmem
    have hgC : GoodPat p.b.length (ofC ev[k]) := goodC S.n24 hin
    obtain ⟨Fl, hFl⟩ : ∃ Fl, sought p.pl (ofC ev[k]) = some Fl := Option.isSome_iff_exists.mp ((sought_iff W.wf hgC.cells).mpr ⟨_, hfo, fitsC _⟩)
    obtain ⟨hF1, hF2⟩ := sought_some W.wf hgC.cells hFl
    have hF3 : over p.pl p.b Fl = ev[k] := fitsC_eq (by rw [over_len]; exact hin.1.symm) hF2
    have hNx := Ae.bef (i := k) (by omega)
    refine ⟨_, tg_name 7 nd, ?_⟩
    refine sf_cons (s_ifF (cs1 := [(a, q.co)]) (et_cmp (t := false) (ev_callP c_next_content hr (by decide) (ea_cons (ev_v 3 rfl) (ea_cons (ev_v 2 rfl) (ea_cons (x := contD (bef ev k)) ?prev ea_nil))) ⟨p, pat, bef ev k, ev[k]?, S, hp, fun c hc => Ae.inw S (bef_mem hc), hNx, rfl, rfl, rfl, rfl⟩ hlk) (ev_ixL (ev_v 6 rfl) (ev_v 7 rfl) hat) (by rw [hge]; exact od_neD (t := true) (x := .tup (dints ev[k])) (by omega) (plain_tupI _) (plain_tupI _) (Nat.le_trans (depth_tupI _) (by decide)) (Nat.le_trans (depth_tupI _) (by decide)) (by simp))) (sf_nil ?_))
    case prev =>
      refine ev_if (et_cmp (ev_v 7 rfl) ev_int od_gt) (fun ht => ?_) fun ht => ?_
      · have h0 := of_decide_eq_true ht
        obtain ⟨j, rfl⟩ : ∃ j, k = j + 1 := ⟨k - 1, by omega⟩
        have hj : j < ev.length := by omega
        have ej : bef ev (j + 1) = some ev[j] := by show ev[j]? = _; simp [hj]
        rw [ej]
        exact ev_ixL (ev_v 6 rfl) (EvM.cast (y := .int (j : Int)) (ev_op (ev_v 7 rfl) ev_int od_sub) (by congr 1; push_cast; omega)) (dtups_at hj)
      · have h0 := of_decide_eq_false ht
        have : k = 0 := by omega
        subst this
        exact ev_non
    refine sf_cons (s_set 8 nd (cs1 := [(a, q.co)]) (x := natD Fl) (EvM.cast (ev_callP c_find hr (by decide) (ea_cons (ev_v 3 rfl) (ea_cons (ev_callP c_pattern_of hr (by decide) (ea_cons (ev_ixL (ev_v 6 rfl) (ev_v 7 rfl) hat) ea_nil) ⟨ev[k], by rw [hin.1]; exact S.n24, rfl, rfl, rfl, rfl⟩ hlk) (ea_cons (ev_v 4 rfl) ea_nil))) ⟨p, ofC ev[k], S.good, W.wf, hgC, rfl, rfl, rfl, rfl⟩ hlk) (by rw [hFl]; rfl)) ?_)
    refine sf_cons (s_ifF (cs1 := [(a, q.co)]) (et_w (ew_orF (et_cmp (x := natD Fl) (t := false) (ev_v 8 rfl) ev_non od_is) (ew_orF (et_not (t := true) (et_val (ev_callP c_is_fall hr (by decide) (ea_cons (ev_v 3 rfl) (ea_cons (ev_v 8 rfl) ea_nil)) ⟨p, Fl, S.good, hF1, rfl, rfl, rfl, rfl⟩ (.inl rfl)))) (ew_or1 (et_cmp (t := false) (ev_callP c_content_after hr (by decide) (ea_cons (ev_v 3 rfl) (ea_cons (ev_v 8 rfl) ea_nil)) ⟨p, Fl, S.good, W.wf, hF1, rfl, rfl, rfl, rfl⟩ hlk) (ev_ixL (ev_v 6 rfl) (ev_v 7 rfl) hat) (od_neD (t := true) (by omega) (plain_tupI _) (plain_tupI _) (Nat.le_trans (depth_tupI _) (by decide)) (Nat.le_trans (depth_tupI _) (by decide)) (by rw [hF3]; simp))))))) (sf_nil (sf_nil ⟨_, _, rfl, rfl⟩)))
  case fin =>
    rintro ds' cs' ⟨v7, v8, rfl, rfl⟩
    obtain ⟨mw, hmw, LP⟩ := W.plan
    have hb4 := LP.b4
    refine sf_cons (s_set 9 nd (cs1 := [(a, (q.gos 3 p.b.length).co)]) (x := .tup (dints (q.digs 3 p.b.length))) (ev_callTy (ea_cons (ev_draws p.b.length (own := [("_law_k", 7)]) (p := q) (n := 3) (a := a) nd (blk (top 97) N97 rfl rfl) (ei_tup (xs := dints p.b) (ev_ixU (ev_v 1 rfl) ev_int rfl)) (fun _ => trivial) (okq.mono (by omega)) (by rw [dints_len]) (by omega) fun i x hx => ⟨_, fun b => tg_name 7 nd, fun b q2 hq2 => ev_call (cs0 := [(a, q2.co)]) (cs1 := [(a, (q2.go 3).co)]) (fr := []) c_draw hr (by decide) (ea_cons (ev_v 0 rfl) (ea_cons ev_int ea_nil)) ⟨a, q2, 3, hq2, ⟨by omega, by omega⟩, rfl, rfl, rfl, rfl⟩ hlk⟩) ea_nil) cd_tupL T.ztuple b_tuple) ?_)
    have hdl : (q.digs 3 p.b.length).length = p.b.length := Pn.digs_len _ _ _
    have hdm : ∀ x ∈ q.digs 3 p.b.length, 0 ≤ x ∧ x < 8 := fun x hx => by have := Pn.digs_mem (n := 3) (by omega) hx; omega
    generalize q.digs 3 p.b.length = far at hdl hdm
    have hgF : GoodPat p.b.length (ofC far) := goodC S.n24 ⟨hdl, hdm⟩
    have hkey : (sought p.pl (ofC far)).isNone = !decide (far ∈ l) := by
      have h1 := sought_none (p := p.pl) (pat := ofC far) W.wf hgF.cells
      by_cases hm : far ∈ l
      · rw [decide_eq_true hm]
        cases e : sought p.pl (ofC far) with
        | some _ => rfl
        | none => exact absurd (fitsC far) (h1.mp e far ((Al.mem far).mp hm).1)
      · rw [decide_eq_false hm]
        cases e : sought p.pl (ofC far) with
        | none => rfl
        | some Fl =>
          obtain ⟨g1, g2⟩ := sought_some W.wf hgF.cells e
          have g3 : over p.pl p.b Fl = far := fitsC_eq (by rw [over_len]; exact hdl.symm) g2
          exact absurd ((Al.mem far).mpr ⟨⟨Fl, g1, g3⟩, fits_nil far⟩) hm
    refine sf_cons (s_ret (cs1 := [(a, (q.gos 3 p.b.length).co)]) (x := .bl true) (EvM.cast (ev_cmp (ev_cmp (ev_callP c_find hr (by decide) (ea_cons (ev_v 3 rfl) (ea_cons (ev_callP c_pattern_of hr (by decide) (ea_cons (ev_v 9 rfl) ea_nil) ⟨far, by rw [hdl]; exact S.n24, rfl, rfl, rfl, rfl⟩ hlk) (ea_cons (ev_v 4 rfl) ea_nil))) ⟨p, ofC far, S.good, W.wf, hgF, rfl, rfl, rfl, rfl⟩ hlk) ev_non od_is)
      (ev_cmp (ev_v 9 rfl) (ev_v 5 rfl) (od_ninD (t := decide (far ∈ l)) hu (plain_tupI _) (plains_all fun x hx => ?pl) (Nat.le_trans (depth_tupI _) (by decide)) (Nat.le_trans (depth_dtups _) (by decide)) (by rw [decide_eq_true_iff, dtups_mem]))) od_eqB) ?_) ⟨rfl, rfl⟩)
    case pl => obtain ⟨k, _, rfl⟩ := List.mem_map.mp hx; exact plain_tupI k
    rw [soughtD_non, hkey, beq_self_eq_true]
end
end Af
set_option Elab.async false
set_option linter.all false
set_option maxRecDepth 100000
set_option pp.maxSteps 400
set_option maxHeartbeats 2000000
/-! ### with a barrier at an end, without a barrier -/
namespace Af
theorem sm_bar {p q : PIn} (W : Lw p) (hb : q.b = p.b) (hw : q.w = p.w) (hst : ∀ s ∈ q.st, s = none ∨ s ∈ p.st) (hlen : q.st.length ≤ 40) (hn : q.pl.n ≤ 40) (hf : ∀ c, Found q.pl c → Found p.pl c) : Sm q := by
  have S := W.sm
  have G : q.Good := {
    base := by rw [hb]; exact S.good.base
    w1 := by rw [hw]; exact S.good.w1
    w2 := by rw [hw]; exact S.good.w2
    len := hlen
    steps := fun s hs => by
      rcases hst s hs with e | e
      · subst e; trivial
      · rw [hb]; exact S.good.steps s e
    few := hn }
  refine ⟨G, G.wf, ?_, fun d hd => S.small.wd d (hf d hd)⟩
  show q.b.length ≤ 24
  rw [hb]; exact S.n24
theorem lps_one (w : Int) (r : Nat) : lps w [none] r = [] := rfl
theorem n_start {b : List Int} {w : Int} {t : List Step} (h : NE t) : (PIn.pl ⟨b, w, none :: t⟩).n = (PIn.pl ⟨b, w, t⟩).n := by
  rw [← rows_len (p := ⟨b, w, t⟩) h, ← rows_len (p := ⟨b, w, none :: t⟩) h.cons]
  show (lps w t 1).length = (lps w t 0).length
  rw [show (1 : Nat) = 0 + 1 from rfl, lps_up, List.length_map]
theorem n_end {b : List Int} {w : Int} {t : List Step} (h : NE t) : (PIn.pl ⟨b, w, t ++ [none]⟩).n = (PIn.pl ⟨b, w, t⟩).n := by
  rw [← rows_len (p := ⟨b, w, t⟩) h, ← rows_len (p := ⟨b, w, t ++ [none]⟩) h.snoc]
  show (lps w (t ++ [none]) 0).length = (lps w t 0).length
  rw [lps_append, lps_one, List.append_nil]
theorem Lw.ne {p : PIn} (W : Lw p) : NE p.st := by obtain ⟨mw, _, L⟩ := W.plan; exact L.ne
theorem Lw.len7 {p : PIn} (W : Lw p) : p.st.length ≤ 7 := by obtain ⟨mw, _, L⟩ := W.plan; exact L.len
theorem with_zero (p : PIn) : p.with_ 0 none = ⟨p.b, p.w, none :: p.st⟩ := rfl
theorem with_len (p : PIn) : p.with_ p.st.length none = ⟨p.b, p.w, p.st ++ [none]⟩ := by
  unfold PIn.with_
  rw [List.take_length, List.drop_length]
structure Same_ (p q : PIn) : Prop where
  sm : Sm q
  b : q.b = p.b
  all : ∀ c, Found q.pl c ↔ Found p.pl c
theorem bar_ok {p : PIn} (W : Lw p) {i : Nat} (hi : i = 0 ∨ i = p.st.length) : Same_ p (p.with_ i none) := by
  have h7 := W.len7
  have h5 := W.five
  rcases hi with e | e
  · subst e
    rw [with_zero]
    have hf : ∀ c, Found (PIn.pl ⟨p.b, p.w, none :: p.st⟩) c ↔ Found p.pl c := fun c => found_start W.ne
    refine ⟨sm_bar W rfl rfl (fun s hs => ?_) (by show (none :: p.st).length ≤ 40; simp; omega) ?_ fun c => (hf c).mp, rfl, hf⟩
    · rcases List.mem_cons.mp hs with e | e
      · exact .inl e
      · exact .inr e
    · rw [n_start W.ne]; exact Nat.le_trans h5 (by decide)
  · subst e
    rw [with_len]
    have hf : ∀ c, Found (PIn.pl ⟨p.b, p.w, p.st ++ [none]⟩) c ↔ Found p.pl c := fun c => found_end W.ne
    refine ⟨sm_bar W rfl rfl (fun s hs => ?_) (by show (p.st ++ [none]).length ≤ 40; simp; omega) ?_ fun c => (hf c).mp, rfl, hf⟩
    · rcases List.mem_append.mp hs with e | e
      · exact .inr e
      · exact .inl (List.mem_singleton.mp e)
    · rw [n_end W.ne]; exact Nat.le_trans h5 (by decide)
theorem Same_.allOf {p q : PIn} (h : Same_ p q) {l : List (List Int)} (A : AllOf p.pl [] l) : AllOf q.pl [] l := ⟨A.asc, fun d => by rw [A.mem, h.all]⟩
theorem LawPlan.without {p : PIn} {mw : Int} (L : LawPlan p mw) (i : Nat) : LawPlan (p.without i) mw where
  b1 := L.b1
  b4 := L.b4
  bw := L.bw
  w1 := L.w1
  w3 := L.w3
  len := by
    show (p.st.take i ++ p.st.drop (i + 1)).length ≤ 7
    have := L.len
    rw [List.length_append, List.length_take, List.length_drop]; omega
  steps := fun s hs => by
    rcases List.mem_append.mp (show s ∈ p.st.take i ++ p.st.drop (i + 1) from hs) with h | h
    · exact L.steps s (List.mem_of_mem_take h)
    · exact L.steps s (List.mem_of_mem_drop h)
theorem Lw.without {p : PIn} (W : Lw p) (i : Nat) : Sm (p.without i) := by
  obtain ⟨mw, hm, L⟩ := W.plan
  exact (L.without i).sm hm
theorem without_found {p : PIn} (W : Lw p) {i : Nat} (hi : p.st[i]? = some none) {c : List Int} (h : Found p.pl c) : Found (p.without i).pl c := by
  obtain ⟨mw, hm, L⟩ := W.plan
  obtain ⟨hlt, e⟩ := List.getElem?_eq_some_iff.mp hi
  have es : p.st = p.st.take i ++ none :: p.st.drop (i + 1) := by
    rw [← e, List.getElem_cons_drop, List.take_append_drop]
  refine found_without (b := p.b) (w := p.w) (s := p.st.take i) (t := p.st.drop (i + 1)) (L.without i).ne ?_
  rw [← es]; exact h
end Af
set_option Elab.async false
set_option linter.all false
set_option maxRecDepth 100000
set_option pp.maxSteps 400
set_option maxHeartbeats 2000000
/-! ### law -/
namespace Af
open PySem L2
theorem SF.dropPre {lk : List Addr} {X : Cx} {ss : List Stmt} {ds : Ds} {cs : Cs} {k : KE} : ∀ {cs0 : Cs}, SF lk X ss ds cs k → SF lk X ss ds (cs0 ++ cs) k
  | [], h => h
  | (a, c) :: r, h => SF.drop 0 (a := a) (c := c) rfl (SF.dropPre (cs0 := r) h)
section
variable {es rest : List Expr} {env : PySem.Env} {c : Const} {k : Nat} {p : Pos}
theorem sE_tup : starEach (.Tuple es k p :: rest) env = (false, eval (.Tuple es k p) env) :: starEach rest env := by rfl
theorem sE_lst : starEach (.List es p :: rest) env = (false, eval (.List es p) env) :: starEach rest env := by rfl
theorem sE_con : starEach (.Constant c k p :: rest) env = (false, eval (.Constant c k p) env) :: starEach rest env := by rfl
end
def PreLaw (K : PySem.W.Frag) (xs : List D) (cs : Cs) : Prop := ∃ (a : Addr) (ns : List Int), Scr K a ns cs ∧ xs = [.ptr a]
def RLaw (_ : List D) (_ : Cs) (y : D) (_ : Cs) : Prop := y = .bl true
theorem stepD_none {s : Step} : (stepD s).isNon = true ↔ s = none := by
  cases s with
  | none => exact ⟨fun _ => rfl, fun _ => rfl⟩
  | some fw => obtain ⟨f, ws⟩ := fw; exact ⟨fun h => (by cases h), fun h => (by cases h)⟩

/-! a long constant: kept shut -/
structure EvS (lk : List Addr) (X : Cx) (e : Expr) (ds : Ds) (cs : Cs) (x : D) (cs' : Cs) : Prop where
  h : EvM lk X e ds cs x cs'
structure EaS (lk : List Addr) (X : Cx) (es : List Expr) (ds : Ds) (cs : Cs) (xs : List D) (cs' : Cs) : Prop where
  h : EvA lk X es ds cs xs cs'
section
variable {lk : List Addr} {X : Cx} {ds : Ds} {cs cs1 cs2 : Cs} {x : D} {xs : List D} {es es1 : List Expr} {k : Nat} {p : Pos} {c : Const} {i : Int}
theorem eaS_nil : EaS lk X [] ds cs [] cs := ⟨ea_nil⟩
theorem eaS_T (ha : EvS lk X (.Tuple es1 k p) ds cs x cs1) (hr : EaS lk X es ds cs1 xs cs2) : EaS lk X (.Tuple es1 k p :: es) ds cs (x :: xs) cs2 := ⟨ea_cons ha.h hr.h sE_tup⟩
theorem eaS_L (ha : EvS lk X (.List es1 p) ds cs x cs1) (hr : EaS lk X es ds cs1 xs cs2) : EaS lk X (.List es1 p :: es) ds cs (x :: xs) cs2 := ⟨ea_cons ha.h hr.h sE_lst⟩
theorem eaS_C (ha : EvS lk X (.Constant c k p) ds cs x cs1) (hr : EaS lk X es ds cs1 xs cs2) : EaS lk X (.Constant c k p :: es) ds cs (x :: xs) cs2 := ⟨ea_cons ha.h hr.h sE_con⟩
theorem evS_int : EvS lk X (.Constant (.int i) k p) ds cs (.int i) cs := ⟨ev_int⟩
theorem evS_non : EvS lk X (.Constant .none k p) ds cs .non cs := ⟨ev_non⟩
theorem evS_tup (h : EaS lk X es ds cs xs cs1) (hl : xs.length ≤ 1000000) : EvS lk X (.Tuple es k p) ds cs (.tup xs) cs1 := ⟨ev_tup h.h hl⟩
theorem evS_lst (h : EaS lk X es ds cs xs cs1) (hl : xs.length ≤ 1000000) : EvS lk X (.List es p) ds cs (.lst xs) cs1 := ⟨ev_lst h.h hl⟩
end
def valOf : Stmt → List Expr
  | .Assign _ (.List es _) _ => es
  | _ => []
def typEs : List Expr := valOf ((defBody (top 98)).getD 1 (.Pass ⟨0, 0, 0, 0⟩))
def typD : List D := [.tup [.tup [.int 0, .int 0, .int 3], .int 1, .lst [.tup [.int 0, .tup [.int 1]], .non, .tup [.int 1, .tup [.int 1]], .non, .tup [.int 2, .tup [.int 4]], .non, .tup [.int 1, .tup [.int 0]]]]]
theorem typ_S (lk : List Addr) (X : Cx) (ds : Ds) (cs : Cs) (p : Pos) : EvS lk X (.List typEs p) ds cs (.lst typD) cs :=
  evS_lst (eaS_T (evS_tup (eaS_T (evS_tup (eaS_C evS_int (eaS_C evS_int (eaS_C evS_int eaS_nil))) (by simp)) (eaS_C evS_int (eaS_L (evS_lst (eaS_T (evS_tup (eaS_C evS_int (eaS_T (evS_tup (eaS_C evS_int eaS_nil) (by simp)) eaS_nil)) (by simp)) (eaS_C evS_non (eaS_T (evS_tup (eaS_C evS_int (eaS_T (evS_tup (eaS_C evS_int eaS_nil) (by simp)) eaS_nil)) (by simp)) (eaS_C evS_non (eaS_T (evS_tup (eaS_C evS_int (eaS_T (evS_tup (eaS_C evS_int eaS_nil) (by simp)) eaS_nil)) (by simp)) (eaS_C evS_non (eaS_T (evS_tup (eaS_C evS_int (eaS_T (evS_tup (eaS_C evS_int eaS_nil) (by simp)) eaS_nil)) (by simp)) eaS_nil))))))) (by simp)) eaS_nil))) (by simp)) eaS_nil) (by simp [typD])
theorem typD_eq : D.lst typD = .lst [tripD typP] := rfl
section
variable {P : Program} {w : World} {K : PySem.W.Frag} {mg : Str → Option Value} {base : Heap} {f : Addr} {fd : FuncData} {CP : Addr}
abbrev N98 : List Str := ["_law_script", "_law_pen_here", "_law_typed", "_law_turn", "_law_triple", "_law_made", "_law_k"]
theorem sc98 : FnScope N98 ["_law_script"] (defScope (top 98)) := ⟨rfl, rfl, rfl, by decide +kernel, rfl, by decide +kernel, by decide +kernel⟩
theorem ok_law (T : Txt K mg) (F : Fun K "law" "law" (top 98) f fd) (c_pen : ∀ (s : Addr) (l : List Int) (cs0 : Cs), Scr K s l cs0 → Cal P w K mg base 1 "_law_pen" (spN (fun xs cs => xs = [.ptr s] ∧ cs = cs0) (fun _ _ y c => ∃ a, y = .ptr a ∧ c = cs0 ++ R_law_pen a l)))
    (c_plan : ∀ (a : Addr) (p : Pn) (b : Nat), p.Ok b → b ≤ 500000000 → Cal P w K mg base 4 "_law_plan" (spN (Pre_law_plan a p) (fun _ _ y c => Post_law_plan a b y c)))
    (c_short : Cal P w K mg base 2 "_law_short" (spN Pre_law_short (fun _ _ y c => Post_law_short y c)))
    (c_pattern : ∀ (a : Addr) (p : Pn) (b n : Nat), p.Ok b → b ≤ 500000000 → n ≤ 4 → Cal P w K mg base 4 "_law_pattern" (spN (Pre_law_pattern a p n) (fun _ _ y c => Post_law_pattern a b n y c)))
    (c_right : Cal P w K mg base 18 "_law_right" (spM false (R_law_right CP))) (c_Plan : Mak P w K mg base 5 "Plan" CP (spM false (R_init CP))) (m_with : Met P w K mg base 7 CP "with_step" (spM false (R_with_step CP))) (m_without : Met P w K mg base 7 CP "without_step" (spM false (R_without_step CP)))
    (c_same : Cal P w K mg base 17 "leave_the_same" (spM false (R_leave_the_same CP))) (c_only : Cal P w K mg base 16 "only" (spM false (R_only CP))) (c_draw : Cal P w K mg base 2 "_law_draw" (spM false R_law_draw)) :
    FnOk P w K mg base CX0 19 f fd ["_law_script"] (spN (PreLaw K) RLaw) := by
  refine fn_okN F sc98 (by rintro _ _ ⟨a, ns, _, rfl⟩; rfl) fun cdv A outer s H E xs cs hr hP => ?_
  obtain ⟨scr, ns, hscr, rfl⟩ := hP
  have nd : N98.Nodup := nd_of (by decide +kernel)
  have hlk : false = true ∨ ([] : List Addr) = [] := .inr rfl
  have hPB : PB = 1000000000 := rfl
  refine sf_cons (s_setP 1 nd (ep_call (cs0 := cs) (fr := []) (c_pen scr ns cs hscr) hr (by decide) (ea_cons (EvM.castC (ev_v 0 rfl) rfl (List.append_nil cs).symm) ea_nil) ⟨rfl, rfl⟩) fun y cs1 hy => ?_)
  obtain ⟨cs2, ⟨a, rfl, rfl⟩, rfl⟩ := hy
  rw [List.append_nil]
  refine SF.dropPre ?_
  show SF [] _ _ [some (.ptr scr), some (.ptr a), none, none, none, none, none] [(a, (⟨ns.take 60, 0, 0⟩ : Pn).co)] _
  have ok0 : (⟨ns.take 60, 0, 0⟩ : Pn).Ok 0 := ⟨by show (ns.take 60).length ≤ 1000; rw [List.length_take]; omega, by show (0 : Int) ≤ 0; omega, by show (0 : Int) ≤ ((0 : Nat) : Int); omega⟩
  generalize (⟨ns.take 60, 0, 0⟩ : Pn) = q0 at ok0
  show SF [] _ (.Assign [.Name _ _] (.List typEs _) _ :: _) _ _ _
  have hS := fun X ds cs p => typ_S [] X ds cs p
  generalize typEs = es at hS
  refine sf_cons (s_set 2 nd (cs1 := [(a, q0.co)]) (x := .lst [tripD typP]) (EvM.cast (hS _ _ _ _).h typD_eq) ?_)
  refine sf_cons (s_for (G := fun _ => True) (vs := [3]) (ei_range1 T.zrange ev_int (by omega)) (fun i ds' cs' => ∃ (q : Pn) (v3 v4 v5 v6 : Option D), q.Ok (1000 * i) ∧ cs' = [(a, q.co)] ∧ ds' = [some (.ptr scr), some (.ptr a), some (.lst [tripD typP]), v3, v4, v5, v6]) ⟨q0, _, _, _, _, ok0, rfl, rfl⟩ (fun _ _ _ _ => trivial) ?step ?fin)
  case fin =>
    rintro ds' cs' ⟨q, v3, v4, v5, v6, okq, rfl, rfl⟩
    exact sf_cons (s_ret ev_bl rfl)
  case step =>
    rintro i x ds' cs' hx ⟨q, v3, v4, v5, v6, okq, rfl, rfl⟩
    obtain ⟨hi, rfl⟩ := rng_get hx
    have hi6 : i < 6 := by simpa using hi
    refine ⟨_, tg_name 3 nd, ?_⟩
    refine sf_cons (s_setP 4 nd (P := fun y c => ∃ (q1 : Pn) (p : PIn), q1.Ok (1000 * i + 100) ∧ Lw p ∧ y = tripD p ∧ c = [(a, q1.co)]) (ep_if (cs1 := [(a, q.co)]) (et_cmp (ev_v 3 rfl) ev_int od_eqI) (fun _ => EvM.p (ev_ixL (x := tripD typP) (ev_v 2 rfl) ev_int rfl) ⟨q, typP, okq.mono (by omega), typP_lw, rfl, rfl⟩) fun _ => ep_callA c_short hr (by decide) (eap_last (ep_call (cs0 := [(a, q.co)]) (fr := []) (c_plan a q (1000 * i) okq (by omega)) hr (by decide) (ea_cons (ev_v 1 rfl) (ea_cons ev_int (ea_cons ev_int (ea_cons ev_int ea_nil)))) ⟨rfl, rfl⟩)) fun xs c1 h => ?sh) fun y cs1 hy => ?_)
    case sh =>
      obtain ⟨y, rfl, cs1, ⟨q1, pi, ok1, LP, rfl, rfl⟩, rfl⟩ := h
      refine ⟨[], [(a, q1.co)], rfl, ⟨pi, LP, rfl, rfl⟩, ?_⟩
      rintro y cs1 ⟨p, LP2, h5, rfl, rfl⟩
      exact ⟨q1, p, ok1, LP2.lw h5, rfl, rfl⟩
    obtain ⟨q1, p, ok1, W, rfl, rfl⟩ := hy
    have hb4 : p.b.length ≤ 4 := by obtain ⟨mw, _, L⟩ := W.plan; exact L.b4
    have h7 := W.len7
    refine sf_cons (s_ifP (P := fun t c => (!t) = true ∧ ∃ q2 : Pn, q2.Ok (1000 * i + 300) ∧ c = [(a, q2.co)]) (etp_not (P := fun t c => t = true ∧ ∃ q2 : Pn, q2.Ok (1000 * i + 300) ∧ c = [(a, q2.co)]) (etp_val (ep_callAM c_right hr (by decide) (eap_cons (ev_v 1 rfl) (eap_cons (ev_v 4 rfl) (eap_last (ep_call (cs0 := [(a, q1.co)]) (fr := []) (c_pattern a q1 (1000 * i + 100) p.b.length ok1 (by omega) hb4) hr (by decide) (ea_cons (ev_v 1 rfl) (ea_cons (EvM.cast (y := .int (p.b.length : Int)) (ev_callB (ea_cons (ev_ixU (x := .tup (dints p.b)) (ev_v 4 rfl) ev_int rfl) ea_nil) cd_lenU T.zlen b_len) (by rw [dints_len])) (ea_cons ev_int ea_nil))) ⟨rfl, rfl⟩)))) fun xs c1 h => ?rt))) fun t cs1 ht => ?_)
    case rt =>
      obtain ⟨ys, rfl, zs, rfl, y, rfl, cs1, ⟨q2, pt, ok2, hpt, rfl, rfl⟩, rfl⟩ := h
      have ok3 := ok2.gos 3 p.b.length
      exact ⟨[(a, q2.co)], [], .bl true, [(a, (q2.gos 3 p.b.length).co)], rfl, ⟨a, q2, p, pt, ok2.mono (by omega), W, hpt, rfl, rfl, rfl, rfl⟩, true, rfl, rfl, _, ok3.mono (by omega), rfl⟩
    obtain ⟨ht, q2, ok2, rfl⟩ := ht
    have htf : t = false := by simpa using ht
    subst htf
    rw [if_neg Bool.false_ne_true]
    refine sf_nil ?_
    have S := W.sm
    obtain ⟨l, Al⟩ := all_ex p.pl []
    refine sf_cons (s_set 5 nd (cs1 := [(a, q2.co)]) (x := planD CP p) (ev_make c_Plan hr (by decide) (fs := p.flds) (ea_cons (ev_ixU (x := .tup (dints p.b)) (ev_v 4 rfl) ev_int rfl) (ea_cons (ev_ixU (x := .int p.w) (ev_v 4 rfl) ev_int rfl) (ea_cons (ev_ixU (x := .lst (p.st.map stepD)) (ev_v 4 rfl) ev_int rfl) ea_nil))) (fun x dx => ⟨x, dx, p, S.good, rfl, rfl, rfl, rfl⟩)) ?_)
    have hd2 := Pn.dig_lt (p := q2) (n := 2) (by omega)
    obtain ⟨ix, hix, hat⟩ : ∃ ix : Nat, (ix = 0 ∨ ix = p.st.length) ∧ L2.atI [D.int 0, D.int (p.st.length : Int)] (q2.dig 2) = some (.int (ix : Int)) := by
      have : q2.dig 2 = 0 ∨ q2.dig 2 = 1 := by omega
      rcases this with e | e
      · rw [e]; exact ⟨0, .inl rfl, rfl⟩
      · rw [e]; exact ⟨p.st.length, .inr rfl, rfl⟩
    have hbar := bar_ok W hix
    have hixl : ix ≤ p.st.length := by omega
    refine sf_cons (s_ifF (cs1 := [(a, (q2.go 2).co)]) (et_not (t := true) (et_val (ev_callP c_same hr (by decide) (ea_cons (ev_v 5 rfl) (ea_cons (ev_methI (cs0 := []) (cs1 := []) (fr := [(a, (q2.go 2).co)]) (y := planD CP (p.with_ ix none)) m_with hr (by decide) (ev_v 5 rfl) rfl (ea_cons (ev_ixL (ev_lst (ea_cons ev_int (ea_cons (EvM.cast (y := .int (p.st.length : Int)) (ev_callB (ea_cons (ev_ixU (x := .lst (p.st.map stepD)) (ev_v 4 rfl) ev_int rfl) ea_nil) cd_lenL T.zlen b_len) (by rw [List.length_map])) ea_nil)) (by simp)) (ev_call (cs0 := [(a, q2.co)]) (cs1 := [(a, (q2.go 2).co)]) (fr := []) c_draw hr (by decide) (ea_cons (ev_v 1 rfl) (ea_cons ev_int ea_nil)) ⟨a, q2, 2, ok2.mono (by omega), ⟨by omega, by omega⟩, rfl, rfl, rfl, rfl⟩ hlk) hat) (ea_cons ev_non ea_nil)) ⟨p, ix, none, S.good, hixl, trivial, hbar.sm.good, rfl, rfl, rfl, rfl⟩ hlk) ea_nil)) ⟨p, p.with_ ix none, l, S, hbar.sm, rfl, Al, hbar.allOf Al, rfl, rfl, rfl, rfl⟩ hlk))) (sf_nil ?_))
    have okn : (q2.go 2).Ok (1000 * (i + 1)) := (ok2.go 2).mono (by omega)
    generalize q2.go 2 = q3 at okn
    refine sf_cons (s_for (G := fun _ => True) (vs := [6]) (ei_range1 T.zrange (ev_callB (ea_cons (ev_ixU (x := .lst (p.st.map stepD)) (ev_v 4 rfl) ev_int rfl) ea_nil) cd_lenL T.zlen b_len) (by rw [List.length_map]; omega)) (fun j ds' cs' => ∃ v6 : Option D, cs' = [(a, q3.co)] ∧ ds' = [some (.ptr scr), some (.ptr a), some (.lst [tripD typP]), some (.int (0 + (i : Int))), some (tripD p), some (planD CP p), v6]) ⟨_, rfl, rfl⟩ (fun _ _ _ _ => trivial) ?step2 ?fin2)
    case fin2 =>
      rintro ds' cs' ⟨v6, rfl, rfl⟩
      exact sf_nil ⟨q3, _, _, _, _, okn, rfl, rfl⟩
    case step2 =>
      rintro k x ds' cs' hx ⟨v6, rfl, rfl⟩
      obtain ⟨hk, rfl⟩ := rng_get hx
      rw [List.length_map] at hk
      have hk' : k < p.st.length := by omega
      have e0 : (0 : Int) + (k : Int) = (k : Int) := by omega
      rw [e0]
      have hat2 : L2.atI (p.st.map stepD) (k : Int) = some (stepD p.st[k]) := by rw [atI_nat (by rw [List.length_map]; exact hk'), List.getElem_map]
      refine ⟨_, tg_name 6 nd, ?_⟩
      refine sf_cons (s_ifF (cs1 := [(a, q3.co)]) (EvT.cast (et_w (ew_and (t := (stepD p.st[k]).isNon) (u := false) (et_cmp (ev_ixL (ev_ixU (x := .lst (p.st.map stepD)) (ev_v 4 rfl) ev_int rfl) (ev_v 6 rfl) hat2) ev_non od_is) fun hn => ?only)) (Bool.and_false _)) (sf_nil (sf_nil ⟨_, rfl, rfl⟩)))
      have hnone : p.st[k]? = some none := by rw [List.getElem?_eq_getElem hk', stepD_none.mp hn]
      exact ew_and1 (et_cmp (x := .non) (t := false) (ev_callP c_only hr (by decide) (ea_cons (ev_v 5 rfl) (ea_cons (ev_methI (cs0 := []) (cs1 := []) (fr := [(a, q3.co)]) (y := planD CP (p.without k)) m_without hr (by decide) (ev_v 5 rfl) rfl (ea_cons (ev_v 6 rfl) ea_nil) ⟨p, k, S.good, hk', (W.without k).good, rfl, rfl, rfl, rfl⟩ hlk) ea_nil)) ⟨p, p.without k, l, S, W.without k, rfl, Al, fun d hd => without_found W hnone ((Al.mem d).mp hd).1, rfl, rfl, rfl, rfl⟩ hlk) ev_non od_isnot)
end
end Af
set_option Elab.async false
set_option linter.all false
set_option maxRecDepth 100000
set_option maxHeartbeats 0
/-! ### the head: what the top leaves -/
namespace Af
open PySem PySem.Spec PyProof.Rows L2
/-! the part of the heap that is looked at -/
def refsZ (o : Obj) : List Addr := match o.data with
  | .dict es _ => es.toList.flatMap fun e => He.refV e.val
  | .func fd => He.refV fd.code
  | .cls cd => cd.ns :: cd.mro.flatMap He.refV
  | .fields vs => (match o.cls with
    | .type n => if n == "property" then vs.toList.flatMap He.refV else []
    | _ => [])
  | _ => []
def layZ (g : Addr → Option Obj) : Nat → List Addr → List Addr
  | 0, as => as
  | n + 1, as => as ++ layZ g n (as.flatMap fun a => match g a with
    | some o => refsZ o
    | none => [])
def frZ (g : Addr → Option Obj) : PySem.W.Frag := He.frG g (layZ g 5 [mainGlobals])
def propB (K : PySem.W.Frag) (q : Str × Str) : Bool :=
  He.eqO (PySem.W.findIn K (.ref (He.ga K q.1)) q.2) (some (some (.ref (He.ma K (He.ga K q.1) q.2)))) && (He.eqO (PySem.W.specialIn K (.ref (He.ma K (He.ga K q.1) q.2)) "__get__") (some (some (.builtin "property.__get__"))) &&
  (decide (PySem.W.takesIn K (.ref (He.ma K (He.ga K q.1) q.2)) = some true) && (match PySem.W.recIn K (He.ma K (He.ga K q.1) q.2) "property" with
    | some (.ref _ :: _) => true
    | _ => false)))
theorem propB_ok {K : PySem.W.Frag} {q : Str × Str} (h : propB K q = true) : PropOf K (He.ga K q.1) q.2 (He.ma K (He.ga K q.1) q.2) (He5.wf K (He.ga K q.1) "property" q.2) := by
  unfold propB at h
  obtain ⟨h1, h⟩ := He.ba h
  obtain ⟨h2, h⟩ := He.ba h
  obtain ⟨h3, h4⟩ := He.ba h
  refine ⟨He.eqO_ok h1, He.eqO_ok h2, of_decide_eq_true h3, ?_⟩
  unfold He5.wf
  split at h4
  · rename_i f r e
    exact ⟨r, by rw [e]⟩
  · cases h4
def obsZ (fa : List He.Fa) (fn : List He5.DefA) (pr : List (Str × Str)) (K : PySem.W.Frag) : He.AlD := ((fa.all fun f => f.ok K) && ((fn.all fun d => d.ok K) && pr.all fun q => propB K q), fn.map fun d => He5.fnA K (d.at_ K))
def valZ (fn : List He5.DefA) : He.AlD := (true, fn.map He5.DefA.val)
structure SaysZ (fa : List He.Fa) (fn : List He5.DefA) (pr : List (Str × Str)) (K : PySem.W.Frag) : Prop where
  e : obsZ fa fn pr K = valZ fn
def hookZ (fa : List He.Fa) (fn : List He5.DefA) (pr : List (Str × Str)) : PySem.W.Hook where
  α := He.AlD
  obs := fun s => obsZ fa fn pr (frZ s.heap.get?)
  val := fun _ => valZ fn
  says := fun _ h => ∃ K : PySem.W.Frag, K.In h ∧ SaysZ fa fn pr K
  of := fun _ _ e => ⟨_, He.frG_in, ⟨e⟩⟩
  keeps := fun _ _ _ ⟨K, hK, c⟩ k => ⟨K, PySem.W.Frag.In.keeps hK k, c⟩
section
variable {fa : List He.Fa} {fn : List He5.DefA} {pr : List (Str × Str)} {K : PySem.W.Frag}
theorem SaysZ.fact_ (c : SaysZ fa fn pr K) (i : Nat) {f : He.Fa} (h : fa[i]? = some f := by rfl) : f.ok K = true := by
  have c1 := (He.ba (show ((fa.all fun f => f.ok K) && ((fn.all fun d => d.ok K) && pr.all fun q => propB K q)) = true from congrArg (fun z : He.AlD => z.1) c.e)).1
  exact List.all_eq_true.mp c1 f (List.mem_of_getElem? h)
theorem SaysZ.prop_ (c : SaysZ fa fn pr K) {x m : Str} (h : (x, m) ∈ pr) : PropOf K (He.ga K x) m (He.ma K (He.ga K x) m) (He5.wf K (He.ga K x) "property" m) := by
  have c1 := (He.ba (He.ba (show ((fa.all fun f => f.ok K) && ((fn.all fun d => d.ok K) && pr.all fun q => propB K q)) = true from congrArg (fun z : He.AlD => z.1) c.e)).2).2
  exact propB_ok (q := (x, m)) (List.all_eq_true.mp c1 _ h)
theorem SaysZ.def_ (c : SaysZ fa fn pr K) (i : Nat) {d : He5.DefA} (h : fn[i]? = some d := by rfl) : ∃ fd, L2.FunD K d.name d.qual d.params d.body d.scope (d.dvs K) (d.kws K) (d.at_ K) fd := by
  have c2 := (He.ba (He.ba (show ((fa.all fun f => f.ok K) && ((fn.all fun d => d.ok K) && pr.all fun q => propB K q)) = true from congrArg (fun z : He.AlD => z.1) c.e)).2).1
  have e : fn.map (fun d => He5.fnA K (d.at_ K)) = fn.map He5.DefA.val := congrArg (fun z : He.AlD => z.2) c.e
  have e2 : (fn.map fun d => He5.fnA K (d.at_ K))[i]? = (fn.map He5.DefA.val)[i]? := by rw [e]
  rw [List.getElem?_map, List.getElem?_map, h] at e2
  exact He5.DefA.funD (Option.some.inj e2) (List.all_eq_true.mp c2 d (List.mem_of_getElem? h))
end
def x0 : He5.DefA := ⟨fun K => He.fAd K ("is_integer", none), "is_integer", "is_integer", defArgs (top 17), defBody (top 17), defScope (top 17), [], []⟩
def x1 : He5.DefA := ⟨fun K => He.fAd K ("is_below", none), "is_below", "is_below", defArgs (top 18), defBody (top 18), defScope (top 18), [], []⟩
def x2 : He5.DefA := ⟨fun K => He.fAd K ("are_worths", none), "are_worths", "are_worths", defArgs (top 19), defBody (top 19), defScope (top 19), [], []⟩
def x3 : He5.DefA := ⟨fun K => He.fAd K ("is_content", none), "is_content", "is_content", defArgs (top 20), defBody (top 20), defScope (top 20), [], []⟩
def x4 : He5.DefA := ⟨fun K => He.fAd K ("is_choice", none), "is_choice", "is_choice", defArgs (top 21), defBody (top 21), defScope (top 21), [], []⟩
def x5 : He5.DefA := ⟨fun K => He.fAd K ("is_pattern", none), "is_pattern", "is_pattern", defArgs (top 22), defBody (top 22), defScope (top 22), [], []⟩
def x6 : He5.DefA := ⟨fun K => He.fAd K ("check_pattern", none), "check_pattern", "check_pattern", defArgs (top 23), defBody (top 23), defScope (top 23), [], []⟩
def x7 : He5.DefA := ⟨fun K => He.fAd K ("met_by_both", none), "met_by_both", "met_by_both", defArgs (top 24), defBody (top 24), defScope (top 24), [], []⟩
def x8 : He5.DefA := ⟨fun K => He.fAd K ("is_step", none), "is_step", "is_step", defArgs (top 28), defBody (top 28), defScope (top 28), [], []⟩
def x9 : He5.DefA := ⟨fun K => He.fAd K ("broken", none), "broken", "broken", defArgs (top 29), defBody (top 29), defScope (top 29), [], []⟩
def x10 : He5.DefA := ⟨fun K => He.fAd K ("pieces_of", none), "pieces_of", "pieces_of", defArgs (top 30), defBody (top 30), defScope (top 30), [], []⟩
def x11 : He5.DefA := ⟨fun K => He.fAd K ("Plan", some "__init__"), "__init__", "Plan.__init__", defArgs (inClass (top 31) 0), defBody (inClass (top 31) 0), defScope (inClass (top 31) 0), [], []⟩
def x12 : He5.DefA := ⟨fun K => He5.wf K (He.ga K "Plan") "property" "base", "base", "Plan.base", defArgs (inClass (top 31) 1), defBody (inClass (top 31) 1), defScope (inClass (top 31) 1), [], []⟩
def x13 : He5.DefA := ⟨fun K => He5.wf K (He.ga K "Plan") "property" "epochs", "epochs", "Plan.epochs", defArgs (inClass (top 31) 5), defBody (inClass (top 31) 5), defScope (inClass (top 31) 5), [], []⟩
def x14 : He5.DefA := ⟨fun K => He.fAd K ("Plan", some "with_step"), "with_step", "Plan.with_step", defArgs (inClass (top 31) 7), defBody (inClass (top 31) 7), defScope (inClass (top 31) 7), [], []⟩
def x15 : He5.DefA := ⟨fun K => He.fAd K ("Plan", some "without_step"), "without_step", "Plan.without_step", defArgs (inClass (top 31) 8), defBody (inClass (top 31) 8), defScope (inClass (top 31) 8), [], []⟩
def x16 : He5.DefA := ⟨fun K => He.fAd K ("cells_in", none), "cells_in", "cells_in", defArgs (top 32), defBody (top 32), defScope (top 32), [], []⟩
def x17 : He5.DefA := ⟨fun K => He.fAd K ("are_pieces", none), "are_pieces", "are_pieces", defArgs (top 34), defBody (top 34), defScope (top 34), [], []⟩
def x18 : He5.DefA := ⟨fun K => He.fAd K ("lower_pieces", none), "lower_pieces", "lower_pieces", defArgs (top 35), defBody (top 35), defScope (top 35), [], []⟩
def x19 : He5.DefA := ⟨fun K => He.fAd K ("is_fall", none), "is_fall", "is_fall", defArgs (top 36), defBody (top 36), defScope (top 36), [], []⟩
def x20 : He5.DefA := ⟨fun K => He.fAd K ("check_fall", none), "check_fall", "check_fall", defArgs (top 37), defBody (top 37), defScope (top 37), [], []⟩
def x21 : He5.DefA := ⟨fun K => He.fAd K ("overwritten", none), "overwritten", "overwritten", defArgs (top 38), defBody (top 38), defScope (top 38), [], []⟩
def x22 : He5.DefA := ⟨fun K => He.fAd K ("content_after", none), "content_after", "content_after", defArgs (top 39), defBody (top 39), defScope (top 39), [], []⟩
def x23 : He5.DefA := ⟨fun K => He.fAd K ("are_ascending", none), "are_ascending", "are_ascending", defArgs (top 41), defBody (top 41), defScope (top 41), [], []⟩
def x24 : He5.DefA := ⟨fun K => He.fAd K ("claimed_there", none), "claimed_there", "claimed_there", defArgs (top 44), defBody (top 44), defScope (top 44), [], []⟩
def x25 : He5.DefA := ⟨fun K => He.fAd K ("is_claims", none), "is_claims", "is_claims", defArgs (top 45), defBody (top 45), defScope (top 45), [], []⟩
def x26 : He5.DefA := ⟨fun K => He.fAd K ("check_claims", none), "check_claims", "check_claims", defArgs (top 46), defBody (top 46), defScope (top 46), [], []⟩
def x27 : He5.DefA := ⟨fun K => He.fAd K ("refusal", none), "refusal", "refusal", defArgs (top 47), defBody (top 47), defScope (top 47), [], []⟩
def x28 : He5.DefA := ⟨fun K => He.fAd K ("sure_in", none), "sure_in", "sure_in", defArgs (top 48), defBody (top 48), defScope (top 48), [], []⟩
def x29 : He5.DefA := ⟨fun K => He.fAd K ("Peel", some "spoilt"), "spoilt", "Peel.spoilt", defArgs (inClass (top 51) 1), defBody (inClass (top 51) 1), defScope (inClass (top 51) 1), [], []⟩
def x30 : He5.DefA := ⟨fun K => He.fAd K ("Peel", some "can_be_last"), "can_be_last", "Peel.can_be_last", defArgs (inClass (top 51) 2), defBody (inClass (top 51) 2), defScope (inClass (top 51) 2), [], []⟩
def x31 : He5.DefA := ⟨fun K => He.fAd K ("Peel", some "take"), "take", "Peel.take", defArgs (inClass (top 51) 3), defBody (inClass (top 51) 3), defScope (inClass (top 51) 3), [], []⟩
def x32 : He5.DefA := ⟨fun K => He.fAd K ("Peel", some "take_all"), "take_all", "Peel.take_all", defArgs (inClass (top 51) 4), defBody (inClass (top 51) 4), defScope (inClass (top 51) 4), [], []⟩
def x33 : He5.DefA := ⟨fun K => He.fAd K ("Peel", some "go_through"), "go_through", "Peel.go_through", defArgs (inClass (top 51) 5), defBody (inClass (top 51) 5), defScope (inClass (top 51) 5), [], []⟩
def x34 : He5.DefA := ⟨fun K => He.fAd K ("Peel", some "__init__"), "__init__", "Peel.__init__", defArgs (inClass (top 51) 0), defBody (inClass (top 51) 0), defScope (inClass (top 51) 0), [], []⟩
def x35 : He5.DefA := ⟨fun K => He.fAd K ("peeled", none), "peeled", "peeled", defArgs (top 52), defBody (top 52), defScope (top 52), [], []⟩
def x36 : He5.DefA := ⟨fun K => He.fAd K ("can_begin", none), "can_begin", "can_begin", defArgs (top 53), defBody (top 53), defScope (top 53), [], []⟩
def x37 : He5.DefA := ⟨fun K => He.fAd K ("sought_behind", none), "sought_behind", "sought_behind", defArgs (top 54), defBody (top 54), defScope (top 54), [], []⟩
def x38 : He5.DefA := ⟨fun K => He.fAd K ("sought", none), "sought", "sought", defArgs (top 55), defBody (top 55), defScope (top 55), [], []⟩
def x39 : He5.DefA := ⟨fun K => He.fAd K ("find", none), "find", "find", defArgs (top 56), defBody (top 56), defScope (top 56), [], []⟩
def x40 : He5.DefA := ⟨fun K => He.fAd K ("no_claims", none), "no_claims", "no_claims", defArgs (top 59), defBody (top 59), defScope (top 59), [], []⟩
def x41 : He5.DefA := ⟨fun K => He.fAd K ("can_be", none), "can_be", "can_be", defArgs (top 60), defBody (top 60), defScope (top 60), [], []⟩
def x42 : He5.DefA := ⟨fun K => He.fAd K ("with_least", none), "with_least", "with_least", defArgs (top 61), defBody (top 61), defScope (top 61), [], []⟩
def x43 : He5.DefA := ⟨fun K => He.fAd K ("least_content", none), "least_content", "least_content", defArgs (top 62), defBody (top 62), defScope (top 62), [], []⟩
def x44 : He5.DefA := ⟨fun K => He.fAd K ("content_next", none), "content_next", "content_next", defArgs (top 63), defBody (top 63), defScope (top 63), [], []⟩
def x45 : He5.DefA := ⟨fun K => He.fAd K ("first_contents", none), "first_contents", "first_contents", defArgs (top 64), defBody (top 64), defScope (top 64), [], []⟩
def x46 : He5.DefA := ⟨fun K => He.fAd K ("next_content", none), "next_content", "next_content", defArgs (top 65), defBody (top 65), defScope (top 65), [], []⟩
def x47 : He5.DefA := ⟨fun K => He.fAd K ("contents", none), "contents", "contents", defArgs (top 66), defBody (top 66), defScope (top 66), [], []⟩
def x48 : He5.DefA := ⟨fun K => He.fAd K ("check_cells_same", none), "check_cells", "check_cells", defArgs (top 68), defBody (top 68), defScope (top 68), [], []⟩
def x49 : He5.DefA := ⟨fun K => He.fAd K ("pattern_of", none), "pattern_of", "pattern_of", defArgs (top 70), defBody (top 70), defScope (top 70), [], []⟩
def x50 : He5.DefA := ⟨fun K => He.fAd K ("only", none), "only", "only", defArgs (top 71), defBody (top 71), defScope (top 71), [], []⟩
def x51 : He5.DefA := ⟨fun K => He.fAd K ("leave_the_same", none), "leave_the_same", "leave_the_same", defArgs (top 72), defBody (top 72), defScope (top 72), [], []⟩
def x52 : He5.DefA := ⟨fun K => He.fAd K ("narrowed", none), "narrowed", "narrowed", defArgs (top 75), defBody (top 75), defScope (top 75), [], []⟩
def x53 : He5.DefA := ⟨fun K => He.fAd K ("worths_in", none), "worths_in", "worths_in", defArgs (top 76), defBody (top 76), defScope (top 76), [], []⟩
def x54 : He5.DefA := ⟨fun K => He.fAd K ("worths_of", none), "worths_of", "worths_of", defArgs (top 77), defBody (top 77), defScope (top 77), [], []⟩
def x55 : He5.DefA := ⟨fun K => He.fAd K ("check_cells_worths", none), "check_cells", "check_cells", defArgs (top 78), defBody (top 78), defScope (top 78), [], []⟩
def x56 : He5.DefA := ⟨fun K => He.fAd K ("together", none), "together", "together", defArgs (top 80), defBody (top 80), defScope (top 80), [], []⟩
def x57 : He5.DefA := ⟨fun K => He.fAd K ("_law_next", none), "_law_next", "_law_next", defArgs (top 83), defBody (top 83), defScope (top 83), [], []⟩
def x58 : He5.DefA := ⟨fun K => He.fAd K ("_law_draw", none), "_law_draw", "_law_draw", defArgs (top 84), defBody (top 84), defScope (top 84), [], []⟩
def x59 : He5.DefA := ⟨fun K => He.fAd K ("_law_step", none), "_law_step", "_law_step", defArgs (top 86), defBody (top 86), defScope (top 86), [], []⟩
def x60 : He5.DefA := ⟨fun K => He.fAd K ("_law_plan", none), "_law_plan", "_law_plan", defArgs (top 87), defBody (top 87), defScope (top 87), [], []⟩
def x61 : He5.DefA := ⟨fun K => He.fAd K ("_law_over", none), "_law_over", "_law_over", defArgs (top 89), defBody (top 89), defScope (top 89), [], []⟩
def x62 : He5.DefA := ⟨fun K => He.fAd K ("_law_is_early", none), "_law_is_early", "_law_is_early", defArgs (top 90), defBody (top 90), defScope (top 90), [], []⟩
def x63 : He5.DefA := ⟨fun K => He.fAd K ("_law_meets", none), "_law_meets", "_law_meets", defArgs (top 93), defBody (top 93), defScope (top 93), [], []⟩
def x64 : He5.DefA := ⟨fun K => He.fAd K ("_law_pattern_of", none), "_law_pattern_of", "_law_pattern_of", defArgs (top 95), defBody (top 95), defScope (top 95), [], []⟩
def x65 : He5.DefA := ⟨fun K => He.fAd K ("_law_some", none), "_law_some", "_law_some", defArgs (top 85), defBody (top 85), defScope (top 85), [], []⟩
def x66 : He5.DefA := ⟨fun K => He.fAd K ("_law_pattern", none), "_law_pattern", "_law_pattern", defArgs (top 92), defBody (top 92), defScope (top 92), [], []⟩
def x67 : He5.DefA := ⟨fun K => He.fAd K ("_law_parts", none), "_law_parts", "_law_parts", defArgs (top 88), defBody (top 88), defScope (top 88), [], []⟩
def x68 : He5.DefA := ⟨fun K => He.fAd K ("_law_all", none), "_law_all", "_law_all", defArgs (top 91), defBody (top 91), defScope (top 91), [], []⟩
def x69 : He5.DefA := ⟨fun K => He.fAd K ("_law_short", none), "_law_short", "_law_short", defArgs (top 94), defBody (top 94), defScope (top 94), [], []⟩
def x70 : He5.DefA := ⟨fun K => He.fAd K ("_law_worths_right", none), "_law_worths_right", "_law_worths_right", defArgs (top 96), defBody (top 96), defScope (top 96), [], []⟩
def x71 : He5.DefA := ⟨fun K => He.fAd K ("_law_pen", none), "_law_pen", "_law_pen", defArgs (top 82), defBody (top 82), defScope (top 82), [], []⟩
def x72 : He5.DefA := ⟨fun K => He.fAd K ("_law_right", none), "_law_right", "_law_right", defArgs (top 97), defBody (top 97), defScope (top 97), [], []⟩
def x73 : He5.DefA := ⟨fun K => He.fAd K ("law", none), "law", "law", defArgs (top 98), defBody (top 98), defScope (top 98), [], []⟩
def fnZ : List He5.DefA := [x0, x1, x2, x3, x4, x5, x6, x7, x8, x9, x10, x11, x12, x13, x14, x15, x16, x17, x18, x19, x20, x21, x22, x23, x24, x25, x26, x27, x28, x29, x30, x31, x32, x33, x34, x35, x36, x37, x38, x39, x40, x41, x42, x43, x44, x45, x46, x47, x48, x49, x50, x51, x52, x53, x54, x55, x56, x57, x58, x59, x60, x61, x62, x63, x64, x65, x66, x67, x68, x69, x70, x71, x72, x73]
def faZ0 : List He.Fa := [.int "MAX_CELLS" (24), .int "WORTHS" (8), .int "MAX_STEPS" (40), .int "MAX_PIECES" (40), .int "BASE" (-1), .int "MAX_CONTENTS" (99), .int "MAX_TOGETHER" (3), .free "len", .free "all", .free "any", .free "sorted", .free "max"]
def faZ1 : List He.Fa := [.free "min", .free "isinstance", .free "list", .free "tuple", .free "dict", .free "set", .free "int", .free "bool", .free "range", .free "enumerate", .glo "is_integer", .glo "is_below"]
def faZ2 : List He.Fa := [.glo "are_worths", .glo "is_content", .glo "is_choice", .glo "is_pattern", .glo "check_pattern", .glo "met_by_both", .glo "is_step", .glo "broken", .glo "pieces_of", .glo "cells_in", .glo "are_pieces", .glo "lower_pieces"]
def faZ3 : List He.Fa := [.glo "is_fall", .glo "check_fall", .glo "overwritten", .glo "content_after", .glo "are_ascending", .glo "claimed_there", .glo "is_claims", .glo "check_claims", .glo "refusal", .glo "sure_in", .glo "peeled", .glo "can_begin"]
def faZ4 : List He.Fa := [.glo "sought_behind", .glo "sought", .glo "find", .glo "no_claims", .glo "can_be", .glo "with_least", .glo "least_content", .glo "content_next", .glo "first_contents", .glo "next_content", .glo "contents", .glo "check_cells_same"]
def faZ5 : List He.Fa := [.glo "pattern_of", .glo "only", .glo "leave_the_same", .glo "narrowed", .glo "worths_in", .glo "worths_of", .glo "check_cells_worths", .glo "together", .glo "_law_next", .glo "_law_draw", .glo "_law_step", .glo "_law_plan"]
def faZ6 : List He.Fa := [.glo "_law_over", .glo "_law_is_early", .glo "_law_meets", .glo "_law_pattern_of", .glo "_law_some", .glo "_law_pattern", .glo "_law_parts", .glo "_law_all", .glo "_law_short", .glo "_law_worths_right", .glo "_law_pen", .glo "_law_right"]
def faZ7 : List He.Fa := [.glo "law", .glo "Plan", .glo "Peel", .cls "Plan", .cls "Peel", .noat "Plan" "start", .noat "Plan" "span", .noat "Plan" "deeds", .noat "Plan" "parts", .noat "Plan" "ranks", .noat "Peel" "given", .noat "Peel" "epoch"]
def faZ8 : List He.Fa := [.noat "Peel" "needed", .noat "Peel" "bottom", .noat "Peel" "chains", .noat "Peel" "sure", .noat "Peel" "left", .noat "Peel" "taken", .noat "Peel" "spoils", .noat "Peel" "ended", .mkr "Plan", .mkr "Peel", .meth "Plan" "with_step", .meth "Plan" "without_step"]
def faZ9 : List He.Fa := [.meth "Peel" "spoilt", .meth "Peel" "can_be_last", .meth "Peel" "take", .meth "Peel" "take_all", .meth "Peel" "go_through"]
def faZ : List He.Fa := faZ0 ++ faZ1 ++ faZ2 ++ faZ3 ++ faZ4 ++ faZ5 ++ faZ6 ++ faZ7 ++ faZ8 ++ faZ9
def prZ : List (Str × Str) := [("Plan", "base"), ("Plan", "epochs")]
def looZ0 : List PySem.Str := ["_wall", "__name__", "FallError", "InvalidContent", "InvalidPattern", "InvalidPlan", "InvalidStep", "UnknownStep", "InvalidFall", "InvalidClaims", "UnknownEpoch", "UnknownCell"]
def looZ1 : List PySem.Str := ["InvalidNumber", "Mismatch", "MAX_CELLS", "WORTHS", "is_integer", "is_below", "are_worths", "is_content", "is_choice", "is_pattern", "check_pattern", "met_by_both"]
def looZ2 : List PySem.Str := ["MAX_STEPS", "MAX_PIECES", "is_step", "broken", "pieces_of", "Plan", "cells_in", "are_pieces", "lower_pieces", "is_fall", "check_fall", "overwritten"]
def looZ3 : List PySem.Str := ["content_after", "are_ascending", "is_pair", "led_to", "claimed_there", "is_claims", "check_claims", "refusal", "sure_in", "BASE", "Peel", "peeled"]
def looZ4 : List PySem.Str := ["can_begin", "sought_behind", "sought", "find", "MAX_CONTENTS", "no_claims", "can_be", "with_least", "least_content", "content_next", "first_contents", "next_content"]
def looZ5 : List PySem.Str := ["contents", "check_cells", "check_cells_same", "pattern_of", "only", "leave_the_same", "MAX_TOGETHER", "narrowed", "worths_in", "worths_of", "check_cells_worths", "together"]
def looZ6 : List PySem.Str := ["_law_pen", "_law_next", "_law_draw", "_law_some", "_law_step", "_law_plan", "_law_parts", "_law_over", "_law_is_early", "_law_all", "_law_pattern", "_law_meets"]
def looZ7 : List PySem.Str := ["_law_short", "_law_pattern_of", "_law_worths_right", "_law_right"]
def looZ : List PySem.Str := looZ0 ++ looZ1 ++ looZ2 ++ looZ3 ++ looZ4 ++ looZ5 ++ looZ6 ++ looZ7
abbrev RZ : PySem.W.OpenRow := PySem.W.OpenLaw.row PySem.Challenge.rw_afterfall_k65_whole_contents
abbrev hkZ : PySem.W.Hook := hookZ faZ fnZ prZ
def obZ (s : PySem.W.SharedT) : He.AlD := obsZ faZ fnZ prZ (frZ (HandSHeadRun.getT s))
theorem obZ_eq (s : PySem.W.SharedT) : obZ s = hkZ.obs s.abs := by
  have e : HandSHeadRun.getT s = s.abs.heap.get? := funext (HandSHeadRun.getT_eq s)
  unfold obZ
  rw [e]; rfl
theorem runZ (w : World) : HandSHeadRun.RunEq RZ (PySem.W.view RZ.prog [98]) hkZ obZ 9000 looZ w := by
  intro os
  kernel_rfl
end Af
set_option Elab.async false
set_option linter.all false
set_option maxRecDepth 100000
set_option maxHeartbeats 0
/-! ### all defs together -/
namespace Af
open PySem PySem.Spec PyProof.Rows L2
theorem join {P : Program} {w : World} {K : PySem.W.Frag} {h : Heap} {mg : Str → Option Value} (base : Heap) (X : K.In h) (G : h.Ns mainGlobals mg) (c : SaysZ faZ fnZ prZ K) {d : FuncData} (D : Fun K "law" "law" (top 98) (He.ga K "law") d) :
    FnOk P w K mg base CX0 19 (He.ga K "law") d ["_law_script"] (spN (PreLaw K) RLaw) := by
  have T : Txt K mg := ⟨He.int_ok X G (c.fact_ 0 (f := .int "MAX_CELLS" (24))), He.int_ok X G (c.fact_ 1 (f := .int "WORTHS" (8))), He.int_ok X G (c.fact_ 2 (f := .int "MAX_STEPS" (40))), He.int_ok X G (c.fact_ 3 (f := .int "MAX_PIECES" (40))), He.int_ok X G (c.fact_ 4 (f := .int "BASE" (-1))), He.int_ok X G (c.fact_ 5 (f := .int "MAX_CONTENTS" (99))), He.int_ok X G (c.fact_ 6 (f := .int "MAX_TOGETHER" (3))), He.free_ok X G (c.fact_ 7 (f := .free "len")), He.free_ok X G (c.fact_ 8 (f := .free "all")), He.free_ok X G (c.fact_ 9 (f := .free "any")), He.free_ok X G (c.fact_ 10 (f := .free "sorted")), He.free_ok X G (c.fact_ 11 (f := .free "max")), He.free_ok X G (c.fact_ 12 (f := .free "min")), He.free_ok X G (c.fact_ 13 (f := .free "isinstance")), He.free_ok X G (c.fact_ 14 (f := .free "list")), He.free_ok X G (c.fact_ 15 (f := .free "tuple")), He.free_ok X G (c.fact_ 16 (f := .free "dict")), He.free_ok X G (c.fact_ 17 (f := .free "set")), He.free_ok X G (c.fact_ 18 (f := .free "int")), He.free_ok X G (c.fact_ 19 (f := .free "bool")), He.free_ok X G (c.fact_ 20 (f := .free "range")), He.free_ok X G (c.fact_ 21 (f := .free "enumerate"))⟩
  have LP : ClsPlan K (He.ga K "Plan") := ⟨He.cls_ok (c.fact_ 87 (f := .cls "Plan")), He.noat_ok (c.fact_ 89 (f := .noat "Plan" "start")), He.noat_ok (c.fact_ 90 (f := .noat "Plan" "span")), He.noat_ok (c.fact_ 91 (f := .noat "Plan" "deeds")), He.noat_ok (c.fact_ 92 (f := .noat "Plan" "parts")), He.noat_ok (c.fact_ 93 (f := .noat "Plan" "ranks"))⟩
  have LQ : ClsPeel K (He.ga K "Peel") := ⟨He.cls_ok (c.fact_ 88 (f := .cls "Peel")), He.noat_ok (c.fact_ 94 (f := .noat "Peel" "given")), He.noat_ok (c.fact_ 95 (f := .noat "Peel" "epoch")), He.noat_ok (c.fact_ 96 (f := .noat "Peel" "needed")), He.noat_ok (c.fact_ 97 (f := .noat "Peel" "bottom")), He.noat_ok (c.fact_ 98 (f := .noat "Peel" "chains")), He.noat_ok (c.fact_ 99 (f := .noat "Peel" "sure")), He.noat_ok (c.fact_ 100 (f := .noat "Peel" "left")), He.noat_ok (c.fact_ 101 (f := .noat "Peel" "taken")), He.noat_ok (c.fact_ 102 (f := .noat "Peel" "spoils")), He.noat_ok (c.fact_ 103 (f := .noat "Peel" "ended"))⟩
  obtain ⟨d0, D0⟩ := c.def_ 0 (d := x0) rfl
  have F0 : Fun K "is_integer" "is_integer" (top 17) (He.ga K "is_integer") d0 := He5.fun_of D0
  have b0 := F0.binds (ps := ["thing"]) fun _ _ _ _ _ _ us hl => match us, hl with | [_], _ => rfl
  have c_is_integer := cal_of (P := P) (w := w) (base := base) (sp := (spM true R_is_integer)) (n := "is_integer") F0 (He.glo_ok X G (c.fact_ 22 (f := .glo "is_integer"))) b0 (ok_is_integer T F0)
  obtain ⟨d1, D1⟩ := c.def_ 1 (d := x1) rfl
  have F1 : Fun K "is_below" "is_below" (top 18) (He.ga K "is_below") d1 := He5.fun_of D1
  have b1 := F1.binds (ps := ["thing", "count"]) fun _ _ _ _ _ _ us hl => match us, hl with | [_, _], _ => rfl
  have c_is_below := cal_of (P := P) (w := w) (base := base) (sp := (spM true R_is_below)) (n := "is_below") F1 (He.glo_ok X G (c.fact_ 23 (f := .glo "is_below"))) b1 (ok_is_below T F1 c_is_integer)
  obtain ⟨d2, D2⟩ := c.def_ 2 (d := x2) rfl
  have F2 : Fun K "are_worths" "are_worths" (top 19) (He.ga K "are_worths") d2 := He5.fun_of D2
  have b2 := F2.binds (ps := ["thing"]) fun _ _ _ _ _ _ us hl => match us, hl with | [_], _ => rfl
  have c_are_worths := cal_of (P := P) (w := w) (base := base) (sp := (spM true R_are_worths)) (n := "are_worths") F2 (He.glo_ok X G (c.fact_ 24 (f := .glo "are_worths"))) b2 (ok_are_worths T F2 c_is_below)
  obtain ⟨d3, D3⟩ := c.def_ 3 (d := x3) rfl
  have F3 : Fun K "is_content" "is_content" (top 20) (He.ga K "is_content") d3 := He5.fun_of D3
  have b3 := F3.binds (ps := ["thing"]) fun _ _ _ _ _ _ us hl => match us, hl with | [_], _ => rfl
  have c_is_content := cal_of (P := P) (w := w) (base := base) (sp := (spM true R_are_worths)) (n := "is_content") F3 (He.glo_ok X G (c.fact_ 25 (f := .glo "is_content"))) b3 (ok_is_content T F3 c_are_worths)
  obtain ⟨d4, D4⟩ := c.def_ 4 (d := x4) rfl
  have F4 : Fun K "is_choice" "is_choice" (top 21) (He.ga K "is_choice") d4 := He5.fun_of D4
  have b4 := F4.binds (ps := ["thing"]) fun _ _ _ _ _ _ us hl => match us, hl with | [_], _ => rfl
  have c_is_choice := cal_of (P := P) (w := w) (base := base) (sp := (spM true R_is_choice)) (n := "is_choice") F4 (He.glo_ok X G (c.fact_ 26 (f := .glo "is_choice"))) b4 (ok_is_choice T F4 c_are_worths)
  obtain ⟨d5, D5⟩ := c.def_ 5 (d := x5) rfl
  have F5 : Fun K "is_pattern" "is_pattern" (top 22) (He.ga K "is_pattern") d5 := He5.fun_of D5
  have b5 := F5.binds (ps := ["cells", "thing"]) fun _ _ _ _ _ _ us hl => match us, hl with | [_, _], _ => rfl
  have c_is_pattern := cal_of (P := P) (w := w) (base := base) (sp := (spM false R_is_pattern)) (n := "is_pattern") F5 (He.glo_ok X G (c.fact_ 27 (f := .glo "is_pattern"))) b5 (ok_is_pattern T F5 c_is_below c_is_choice)
  obtain ⟨d6, D6⟩ := c.def_ 6 (d := x6) rfl
  have F6 : Fun K "check_pattern" "check_pattern" (top 23) (He.ga K "check_pattern") d6 := He5.fun_of D6
  have b6 := F6.binds (ps := ["cells", "thing"]) fun _ _ _ _ _ _ us hl => match us, hl with | [_, _], _ => rfl
  have c_check_pattern := cal_of (P := P) (w := w) (base := base) (sp := (spM false R_check_pattern)) (n := "check_pattern") F6 (He.glo_ok X G (c.fact_ 28 (f := .glo "check_pattern"))) b6 (ok_check_pattern T F6 c_is_pattern)
  obtain ⟨d7, D7⟩ := c.def_ 7 (d := x7) rfl
  have F7 : Fun K "met_by_both" "met_by_both" (top 24) (He.ga K "met_by_both") d7 := He5.fun_of D7
  have b7 := F7.binds (ps := ["pattern", "other"]) fun _ _ _ _ _ _ us hl => match us, hl with | [_, _], _ => rfl
  have c_met_by_both := cal_of (P := P) (w := w) (base := base) (sp := (spM false R_met_by_both)) (n := "met_by_both") F7 (He.glo_ok X G (c.fact_ 29 (f := .glo "met_by_both"))) b7 (ok_met_by_both T F7)
  obtain ⟨d8, D8⟩ := c.def_ 8 (d := x8) rfl
  have F8 : Fun K "is_step" "is_step" (top 28) (He.ga K "is_step") d8 := He5.fun_of D8
  have b8 := F8.binds (ps := ["cells", "thing"]) fun _ _ _ _ _ _ us hl => match us, hl with | [_, _], _ => rfl
  have c_is_step := cal_of (P := P) (w := w) (base := base) (sp := (spM true R_is_step)) (n := "is_step") F8 (He.glo_ok X G (c.fact_ 30 (f := .glo "is_step"))) b8 (ok_is_step T F8 c_is_below c_are_worths)
  obtain ⟨d9, D9⟩ := c.def_ 9 (d := x9) rfl
  have F9 : Fun K "broken" "broken" (top 29) (He.ga K "broken") d9 := He5.fun_of D9
  have b9 := F9.binds (ps := ["index", "step", "width"]) fun _ _ _ _ _ _ us hl => match us, hl with | [_, _, _], _ => rfl
  have c_broken := cal_of (P := P) (w := w) (base := base) (sp := (spM true R_broken)) (n := "broken") F9 (He.glo_ok X G (c.fact_ 31 (f := .glo "broken"))) b9 (ok_broken T F9)
  obtain ⟨d10, D10⟩ := c.def_ 10 (d := x10) rfl
  have F10 : Fun K "pieces_of" "pieces_of" (top 30) (He.ga K "pieces_of") d10 := He5.fun_of D10
  have b10 := F10.binds (ps := ["steps", "width"]) fun _ _ _ _ _ _ us hl => match us, hl with | [_, _], _ => rfl
  have c_pieces_of := cal_of (P := P) (w := w) (base := base) (sp := (spM false R_pieces_of)) (n := "pieces_of") F10 (He.glo_ok X G (c.fact_ 32 (f := .glo "pieces_of"))) b10 (ok_pieces_of T F10 c_broken)
  obtain ⟨d11, D11⟩ := c.def_ 11 (d := x11) rfl
  have F11 : Fun K "__init__" "Plan.__init__" (inClass (top 31) 0) (He.ma K (He.ga K "Plan") "__init__") d11 := He5.fun_of D11
  have b11 := F11.binds (ps := ["self", "base", "width", "steps"]) fun _ _ _ _ _ _ us hl => match us, hl with | [_, _, _, _], _ => rfl
  have k_Plan := (⟨_, _, _, He.mkr_ok (c.fact_ 104 (f := .mkr "Plan")), He.glo_ok X G (c.fact_ 85 (f := .glo "Plan")), ok_init T LP F11 c_is_content c_is_integer c_is_step c_pieces_of, b11⟩ : Mak P w K mg base 5 "Plan" (He.ga K "Plan") (spM false (R_init (He.ga K "Plan"))))
  obtain ⟨d12, D12⟩ := c.def_ 12 (d := x12) rfl
  have F12 : Fun K "base" "Plan.base" (inClass (top 31) 1) (He5.wf K (He.ga K "Plan") "property" "base") d12 := He5.fun_of D12
  have b12 := F12.binds (ps := ["self"]) fun _ _ _ _ _ _ us hl => match us, hl with | [_], _ => rfl
  have p_base : Prp P w K mg base 1 (He.ga K "Plan") "base" (spM true (R_base (He.ga K "Plan"))) := ⟨_, _, _, _, LP.cls, c.prop_ (x := "Plan") (m := "base") (by decide +kernel), ok_base LP F12, b12⟩
  obtain ⟨d13, D13⟩ := c.def_ 13 (d := x13) rfl
  have F13 : Fun K "epochs" "Plan.epochs" (inClass (top 31) 5) (He5.wf K (He.ga K "Plan") "property" "epochs") d13 := He5.fun_of D13
  have b13 := F13.binds (ps := ["self"]) fun _ _ _ _ _ _ us hl => match us, hl with | [_], _ => rfl
  have p_epochs : Prp P w K mg base 1 (He.ga K "Plan") "epochs" (spM true (R_epochs (He.ga K "Plan"))) := ⟨_, _, _, _, LP.cls, c.prop_ (x := "Plan") (m := "epochs") (by decide +kernel), ok_epochs LP F13, b13⟩
  obtain ⟨d14, D14⟩ := c.def_ 14 (d := x14) rfl
  have F14 : Fun K "with_step" "Plan.with_step" (inClass (top 31) 7) (He.ma K (He.ga K "Plan") "with_step") d14 := He5.fun_of D14
  have b14 := F14.binds (ps := ["self", "index", "step"]) fun _ _ _ _ _ _ us hl => match us, hl with | [_, _, _], _ => rfl
  have m_with_step := (⟨_, _, _, LP.cls, He.meth_ok (c.fact_ 106 (f := .meth "Plan" "with_step")), ok_with_step T LP F14 c_is_below c_is_step k_Plan, b14⟩ : Met P w K mg base 7 (He.ga K "Plan") "with_step" (spM false (R_with_step (He.ga K "Plan"))))
  obtain ⟨d15, D15⟩ := c.def_ 15 (d := x15) rfl
  have F15 : Fun K "without_step" "Plan.without_step" (inClass (top 31) 8) (He.ma K (He.ga K "Plan") "without_step") d15 := He5.fun_of D15
  have b15 := F15.binds (ps := ["self", "index"]) fun _ _ _ _ _ _ us hl => match us, hl with | [_, _], _ => rfl
  have m_without_step := (⟨_, _, _, LP.cls, He.meth_ok (c.fact_ 107 (f := .meth "Plan" "without_step")), ok_without_step T LP F15 c_is_below k_Plan, b15⟩ : Met P w K mg base 7 (He.ga K "Plan") "without_step" (spM false (R_without_step (He.ga K "Plan"))))
  obtain ⟨d16, D16⟩ := c.def_ 16 (d := x16) rfl
  have F16 : Fun K "cells_in" "cells_in" (top 32) (He.ga K "cells_in") d16 := He5.fun_of D16
  have b16 := F16.binds (ps := ["plan", "piece"]) fun _ _ _ _ _ _ us hl => match us, hl with | [_, _], _ => rfl
  have c_cells_in := cal_of (P := P) (w := w) (base := base) (sp := (spM true (R_cells_in (He.ga K "Plan")))) (n := "cells_in") F16 (He.glo_ok X G (c.fact_ 33 (f := .glo "cells_in"))) b16 (ok_cells_in T LP F16)
  obtain ⟨d17, D17⟩ := c.def_ 17 (d := x17) rfl
  have F17 : Fun K "are_pieces" "are_pieces" (top 34) (He.ga K "are_pieces") d17 := He5.fun_of D17
  have b17 := F17.binds (ps := ["plan", "thing"]) fun _ _ _ _ _ _ us hl => match us, hl with | [_, _], _ => rfl
  have c_are_pieces := cal_of (P := P) (w := w) (base := base) (sp := (spM true (R_are_pieces (He.ga K "Plan")))) (n := "are_pieces") F17 (He.glo_ok X G (c.fact_ 34 (f := .glo "are_pieces"))) b17 (ok_are_pieces T LP F17 c_is_below)
  obtain ⟨d18, D18⟩ := c.def_ 18 (d := x18) rfl
  have F18 : Fun K "lower_pieces" "lower_pieces" (top 35) (He.ga K "lower_pieces") d18 := He5.fun_of D18
  have b18 := F18.binds (ps := ["plan", "epoch"]) fun _ _ _ _ _ _ us hl => match us, hl with | [_, _], _ => rfl
  have c_lower_pieces := cal_of (P := P) (w := w) (base := base) (sp := (spM true (R_lower_pieces (He.ga K "Plan")))) (n := "lower_pieces") F18 (He.glo_ok X G (c.fact_ 35 (f := .glo "lower_pieces"))) b18 (ok_lower_pieces T LP F18)
  obtain ⟨d19, D19⟩ := c.def_ 19 (d := x19) rfl
  have F19 : Fun K "is_fall" "is_fall" (top 36) (He.ga K "is_fall") d19 := He5.fun_of D19
  have b19 := F19.binds (ps := ["plan", "thing"]) fun _ _ _ _ _ _ us hl => match us, hl with | [_, _], _ => rfl
  have c_is_fall := cal_of (P := P) (w := w) (base := base) (sp := (spM true (R_is_fall (He.ga K "Plan")))) (n := "is_fall") F19 (He.glo_ok X G (c.fact_ 36 (f := .glo "is_fall"))) b19 (ok_is_fall T LP F19 c_are_pieces c_lower_pieces)
  obtain ⟨d20, D20⟩ := c.def_ 20 (d := x20) rfl
  have F20 : Fun K "check_fall" "check_fall" (top 37) (He.ga K "check_fall") d20 := He5.fun_of D20
  have b20 := F20.binds (ps := ["plan", "thing"]) fun _ _ _ _ _ _ us hl => match us, hl with | [_, _], _ => rfl
  have c_check_fall := cal_of (P := P) (w := w) (base := base) (sp := (spM true (R_check_fall (He.ga K "Plan")))) (n := "check_fall") F20 (He.glo_ok X G (c.fact_ 37 (f := .glo "check_fall"))) b20 (ok_check_fall T F20 c_is_fall)
  obtain ⟨d21, D21⟩ := c.def_ 21 (d := x21) rfl
  have F21 : Fun K "overwritten" "overwritten" (top 38) (He.ga K "overwritten") d21 := He5.fun_of D21
  have b21 := F21.binds (ps := ["plan", "content", "pieces"]) fun _ _ _ _ _ _ us hl => match us, hl with | [_, _, _], _ => rfl
  have c_overwritten := cal_of (P := P) (w := w) (base := base) (sp := (spM false (R_overwritten (He.ga K "Plan")))) (n := "overwritten") F21 (He.glo_ok X G (c.fact_ 38 (f := .glo "overwritten"))) b21 (ok_overwritten T F21 c_cells_in)
  obtain ⟨d22, D22⟩ := c.def_ 22 (d := x22) rfl
  have F22 : Fun K "content_after" "content_after" (top 39) (He.ga K "content_after") d22 := He5.fun_of D22
  have b22 := F22.binds (ps := ["plan", "fall"]) fun _ _ _ _ _ _ us hl => match us, hl with | [_, _], _ => rfl
  have c_content_after := cal_of (P := P) (w := w) (base := base) (sp := (spM false (R_content_after (He.ga K "Plan")))) (n := "content_after") F22 (He.glo_ok X G (c.fact_ 39 (f := .glo "content_after"))) b22 (ok_content_after T F22 c_check_fall c_overwritten p_base)
  obtain ⟨d23, D23⟩ := c.def_ 23 (d := x23) rfl
  have F23 : Fun K "are_ascending" "are_ascending" (top 41) (He.ga K "are_ascending") d23 := He5.fun_of D23
  have b23 := F23.binds (ps := ["thing"]) fun _ _ _ _ _ _ us hl => match us, hl with | [_], _ => rfl
  have c_are_ascending := cal_of (P := P) (w := w) (base := base) (sp := (spM true R_are_ascending)) (n := "are_ascending") F23 (He.glo_ok X G (c.fact_ 40 (f := .glo "are_ascending"))) b23 (ok_are_ascending T F23)
  obtain ⟨d24, D24⟩ := c.def_ 24 (d := x24) rfl
  have F24 : Fun K "claimed_there" "claimed_there" (top 44) (He.ga K "claimed_there") d24 := He5.fun_of D24
  have b24 := F24.binds (ps := ["claims"]) fun _ _ _ _ _ _ us hl => match us, hl with | [_], _ => rfl
  have c_claimed_there := cal_of (P := P) (w := w) (base := base) (sp := (spM true R_claimed_there)) (n := "claimed_there") F24 (He.glo_ok X G (c.fact_ 41 (f := .glo "claimed_there"))) b24 (ok_claimed_there T F24)
  obtain ⟨d25, D25⟩ := c.def_ 25 (d := x25) rfl
  have F25 : Fun K "is_claims" "is_claims" (top 45) (He.ga K "is_claims") d25 := He5.fun_of D25
  have b25 := F25.binds (ps := ["plan", "thing"]) fun _ _ _ _ _ _ us hl => match us, hl with | [_, _], _ => rfl
  have c_is_claims := cal_of (P := P) (w := w) (base := base) (sp := (spM true (R_is_claims (He.ga K "Plan")))) (n := "is_claims") F25 (He.glo_ok X G (c.fact_ 42 (f := .glo "is_claims"))) b25 (ok_is_claims T F25 c_are_pieces c_are_ascending c_claimed_there)
  obtain ⟨d26, D26⟩ := c.def_ 26 (d := x26) rfl
  have F26 : Fun K "check_claims" "check_claims" (top 46) (He.ga K "check_claims") d26 := He5.fun_of D26
  have b26 := F26.binds (ps := ["plan", "thing"]) fun _ _ _ _ _ _ us hl => match us, hl with | [_, _], _ => rfl
  have c_check_claims := cal_of (P := P) (w := w) (base := base) (sp := (spM true (R_check_claims (He.ga K "Plan")))) (n := "check_claims") F26 (He.glo_ok X G (c.fact_ 43 (f := .glo "check_claims"))) b26 (ok_check_claims T F26 c_is_claims)
  obtain ⟨d27, D27⟩ := c.def_ 27 (d := x27) rfl
  have F27 : Fun K "refusal" "refusal" (top 47) (He.ga K "refusal") d27 := He5.fun_of D27
  have b27 := F27.binds (ps := ["plan", "claims", "epoch"]) fun _ _ _ _ _ _ us hl => match us, hl with | [_, _, _], _ => rfl
  have c_refusal := cal_of (P := P) (w := w) (base := base) (sp := (spM true (R_refusal (He.ga K "Plan")))) (n := "refusal") F27 (He.glo_ok X G (c.fact_ 44 (f := .glo "refusal"))) b27 (ok_refusal T F27 c_claimed_there)
  obtain ⟨d28, D28⟩ := c.def_ 28 (d := x28) rfl
  have F28 : Fun K "sure_in" "sure_in" (top 48) (He.ga K "sure_in") d28 := He5.fun_of D28
  have b28 := F28.binds (ps := ["plan", "claims", "epoch"]) fun _ _ _ _ _ _ us hl => match us, hl with | [_, _, _], _ => rfl
  have c_sure_in := cal_of (P := P) (w := w) (base := base) (sp := (spM true (R_sure_in (He.ga K "Plan")))) (n := "sure_in") F28 (He.glo_ok X G (c.fact_ 45 (f := .glo "sure_in"))) b28 (ok_sure_in T F28 c_check_claims c_is_below p_epochs c_refusal c_lower_pieces c_claimed_there)
  obtain ⟨d29, D29⟩ := c.def_ 29 (d := x29) rfl
  have F29 : Fun K "spoilt" "Peel.spoilt" (inClass (top 51) 1) (He.ma K (He.ga K "Peel") "spoilt") d29 := He5.fun_of D29
  have b29 := F29.binds (ps := ["self", "piece"]) fun _ _ _ _ _ _ us hl => match us, hl with | [_, _], _ => rfl
  have m_spoilt := (⟨_, _, _, LQ.cls, He.meth_ok (c.fact_ 108 (f := .meth "Peel" "spoilt")), ok_spoilt T LQ F29 c_cells_in, b29⟩ : Met P w K mg base 2 (He.ga K "Peel") "spoilt" (spM false (R_spoilt (He.ga K "Plan") (He.ga K "Peel"))))
  obtain ⟨d30, D30⟩ := c.def_ 30 (d := x30) rfl
  have F30 : Fun K "can_be_last" "Peel.can_be_last" (inClass (top 51) 2) (He.ma K (He.ga K "Peel") "can_be_last") d30 := He5.fun_of D30
  have b30 := F30.binds (ps := ["self", "piece"]) fun _ _ _ _ _ _ us hl => match us, hl with | [_, _], _ => rfl
  have m_can_be_last := (⟨_, _, _, LQ.cls, He.meth_ok (c.fact_ 109 (f := .meth "Peel" "can_be_last")), ok_can_be_last T LQ F30 m_spoilt, b30⟩ : Met P w K mg base 3 (He.ga K "Peel") "can_be_last" (spM false (R_can_be_last (He.ga K "Plan") (He.ga K "Peel"))))
  obtain ⟨d31, D31⟩ := c.def_ 31 (d := x31) rfl
  have F31 : Fun K "take" "Peel.take" (inClass (top 51) 3) (He.ma K (He.ga K "Peel") "take") d31 := He5.fun_of D31
  have b31 := F31.binds (ps := ["self", "piece"]) fun _ _ _ _ _ _ us hl => match us, hl with | [_, _], _ => rfl
  have m_take := (⟨_, _, _, LQ.cls, He.meth_ok (c.fact_ 110 (f := .meth "Peel" "take")), ok_take T LQ F31 c_cells_in, b31⟩ : Met P w K mg base 2 (He.ga K "Peel") "take" (spM false (R_take (He.ga K "Plan") (He.ga K "Peel"))))
  obtain ⟨d32, D32⟩ := c.def_ 32 (d := x32) rfl
  have F32 : Fun K "take_all" "Peel.take_all" (inClass (top 51) 4) (He.ma K (He.ga K "Peel") "take_all") d32 := He5.fun_of D32
  have b32 := F32.binds (ps := ["self", "pieces"]) fun _ _ _ _ _ _ us hl => match us, hl with | [_, _], _ => rfl
  have m_take_all := (⟨_, _, _, LQ.cls, He.meth_ok (c.fact_ 111 (f := .meth "Peel" "take_all")), ok_take_all T LQ F32 m_can_be_last m_take, b32⟩ : Met P w K mg base 4 (He.ga K "Peel") "take_all" (spM false (R_take_all (He.ga K "Plan") (He.ga K "Peel"))))
  obtain ⟨d33, D33⟩ := c.def_ 33 (d := x33) rfl
  have F33 : Fun K "go_through" "Peel.go_through" (inClass (top 51) 5) (He.ma K (He.ga K "Peel") "go_through") d33 := He5.fun_of D33
  have b33 := F33.binds (ps := ["self"]) fun _ _ _ _ _ _ us hl => match us, hl with | [_], _ => rfl
  have m_go_through := fun (q : PS) (ok : q.Ok) => (⟨_, _, _, LQ.cls, He.meth_ok (c.fact_ 112 (f := .meth "Peel" "go_through")), ok_go_through T LP LQ F33 m_take_all m_spoilt q ok, b33⟩ : Met P w K mg base 5 (He.ga K "Peel") "go_through" (spN (Pre_go (He.ga K "Plan") (He.ga K "Peel") q) (fun _ _ y c => Post_go (He.ga K "Plan") (He.ga K "Peel") q y c)))
  obtain ⟨d34, D34⟩ := c.def_ 34 (d := x34) rfl
  have F34 : Fun K "__init__" "Peel.__init__" (inClass (top 51) 0) (He.ma K (He.ga K "Peel") "__init__") d34 := He5.fun_of D34
  have b34 := F34.binds (ps := ["self", "plan", "pattern", "claims", "epoch", "came"]) fun _ _ _ _ _ _ us hl => match us, hl with | [_, _, _, _, _, _], _ => rfl
  have k_Peel := fun (p : PIn) (pat : Pat) (e : Nat) (ok : PkOk p pat) (he : e < p.pl.epochs) => (⟨_, _, _, He.mkr_ok (c.fact_ 105 (f := .mkr "Peel")), He.glo_ok X G (c.fact_ 86 (f := .glo "Peel")), ok_pinit T LP LQ F34 c_overwritten p_base c_sure_in p pat e ok he, b34⟩ : Mak P w K mg base 7 "Peel" (He.ga K "Peel") (spN (Pre_pinit (He.ga K "Plan") (He.ga K "Peel") p pat e) (Post_pinit (He.ga K "Plan") (He.ga K "Peel") p pat e)))
  obtain ⟨d35, D35⟩ := c.def_ 35 (d := x35) rfl
  have F35 : Fun K "peeled" "peeled" (top 52) (He.ga K "peeled") d35 := He5.fun_of D35
  have b35 := F35.binds (ps := ["plan", "pattern", "claims", "epoch", "came"]) fun _ _ _ _ _ _ us hl => match us, hl with | [_, _, _, _, _], _ => rfl
  have c_peeled := fun (p : PIn) (pat : Pat) (e : Nat) (ok : PkOk p pat) (he : e < p.pl.epochs) => cal_of (P := P) (w := w) (base := base) (sp := (spN (Pre_peeled (He.ga K "Plan") p pat e) (fun _ _ y c => Post_peeled (He.ga K "Plan") (He.ga K "Peel") p pat e y c))) (n := "peeled") F35 (He.glo_ok X G (c.fact_ 46 (f := .glo "peeled"))) b35 (ok_peeled T F35 p pat e ok he (k_Peel p pat e ok he) m_go_through)
  obtain ⟨d36, D36⟩ := c.def_ 36 (d := x36) rfl
  have F36 : Fun K "can_begin" "can_begin" (top 53) (He.ga K "can_begin") d36 := He5.fun_of D36
  have b36 := F36.binds (ps := ["claims", "came"]) fun _ _ _ _ _ _ us hl => match us, hl with | [_, _], _ => rfl
  have c_can_begin := cal_of (P := P) (w := w) (base := base) (sp := (spM true R_can_begin)) (n := "can_begin") F36 (He.glo_ok X G (c.fact_ 47 (f := .glo "can_begin"))) b36 (ok_can_begin T F36)
  obtain ⟨d37, D37⟩ := c.def_ 37 (d := x37) rfl
  have F37 : Fun K "sought_behind" "sought_behind" (top 54) (He.ga K "sought_behind") d37 := He5.fun_of D37
  have b37 := F37.binds (ps := ["plan", "pattern", "claims", "came"]) fun _ _ _ _ _ _ us hl => match us, hl with | [_, _, _, _], _ => rfl
  have c_sought_behind := cal_of (P := P) (w := w) (base := base) (sp := (spM false (R_sought_behind (He.ga K "Plan")))) (n := "sought_behind") F37 (He.glo_ok X G (c.fact_ 48 (f := .glo "sought_behind"))) b37 (ok_sought_behind T LQ F37 c_can_begin p_epochs c_refusal c_peeled)
  obtain ⟨d38, D38⟩ := c.def_ 38 (d := x38) rfl
  have F38 : Fun K "sought" "sought" (top 55) (He.ga K "sought") d38 := He5.fun_of D38
  have b38 := F38.binds (ps := ["plan", "pattern", "claims"]) fun _ _ _ _ _ _ us hl => match us, hl with | [_, _, _], _ => rfl
  have c_sought := cal_of (P := P) (w := w) (base := base) (sp := (spM false (R_sought (He.ga K "Plan")))) (n := "sought") F38 (He.glo_ok X G (c.fact_ 49 (f := .glo "sought"))) b38 (ok_sought T F38 c_sought_behind)
  obtain ⟨d39, D39⟩ := c.def_ 39 (d := x39) rfl
  have F39 : Fun K "find" "find" (top 56) (He.ga K "find") d39 := He5.fun_of D39
  have b39 := F39.binds (ps := ["plan", "pattern", "claims"]) fun _ _ _ _ _ _ us hl => match us, hl with | [_, _, _], _ => rfl
  have c_find := cal_of (P := P) (w := w) (base := base) (sp := (spM false (R_find (He.ga K "Plan")))) (n := "find") F39 (He.glo_ok X G (c.fact_ 50 (f := .glo "find"))) b39 (ok_find T F39 p_base c_check_pattern c_check_claims c_sought)
  obtain ⟨d40, D40⟩ := c.def_ 40 (d := x40) rfl
  have F40 : Fun K "no_claims" "no_claims" (top 59) (He.ga K "no_claims") d40 := He5.fun_of D40
  have b40 := F40.binds (ps := []) fun _ _ _ _ _ _ us hl => match us, hl with | [], _ => rfl
  have c_no_claims := cal_of (P := P) (w := w) (base := base) (sp := (spM true R_no_claims)) (n := "no_claims") F40 (He.glo_ok X G (c.fact_ 51 (f := .glo "no_claims"))) b40 (ok_no_claims F40)
  obtain ⟨d41, D41⟩ := c.def_ 41 (d := x41) rfl
  have F41 : Fun K "can_be" "can_be" (top 60) (He.ga K "can_be") d41 := He5.fun_of D41
  have b41 := F41.binds (ps := ["plan", "pattern", "claims"]) fun _ _ _ _ _ _ us hl => match us, hl with | [_, _, _], _ => rfl
  have c_can_be := cal_of (P := P) (w := w) (base := base) (sp := (spM false (R_can_be (He.ga K "Plan")))) (n := "can_be") F41 (He.glo_ok X G (c.fact_ 52 (f := .glo "can_be"))) b41 (ok_can_be F41 c_sought)
  obtain ⟨d42, D42⟩ := c.def_ 42 (d := x42) rfl
  have F42 : Fun K "with_least" "with_least" (top 61) (He.ga K "with_least") d42 := He5.fun_of D42
  have b42 := F42.binds (ps := ["plan", "pattern", "claims", "cell"]) fun _ _ _ _ _ _ us hl => match us, hl with | [_, _, _, _], _ => rfl
  have c_with_least := cal_of (P := P) (w := w) (base := base) (sp := (spM false (R_with_least (He.ga K "Plan")))) (n := "with_least") F42 (He.glo_ok X G (c.fact_ 53 (f := .glo "with_least"))) b42 (ok_with_least T F42 c_met_by_both c_can_be)
  obtain ⟨d43, D43⟩ := c.def_ 43 (d := x43) rfl
  have F43 : Fun K "least_content" "least_content" (top 62) (He.ga K "least_content") d43 := He5.fun_of D43
  have b43 := F43.binds (ps := ["plan", "pattern", "claims"]) fun _ _ _ _ _ _ us hl => match us, hl with | [_, _, _], _ => rfl
  have c_least_content := cal_of (P := P) (w := w) (base := base) (sp := (spM false (R_least_content (He.ga K "Plan")))) (n := "least_content") F43 (He.glo_ok X G (c.fact_ 54 (f := .glo "least_content"))) b43 (ok_least_content T F43 p_base c_with_least)
  obtain ⟨d44, D44⟩ := c.def_ 44 (d := x44) rfl
  have F44 : Fun K "content_next" "content_next" (top 63) (He.ga K "content_next") d44 := He5.fun_of D44
  have b44 := F44.binds (ps := ["plan", "pattern", "claims", "content"]) fun _ _ _ _ _ _ us hl => match us, hl with | [_, _, _, _], _ => rfl
  have c_content_next := cal_of (P := P) (w := w) (base := base) (sp := (spM false (R_content_next (He.ga K "Plan")))) (n := "content_next") F44 (He.glo_ok X G (c.fact_ 55 (f := .glo "content_next"))) b44 (ok_content_next T F44 c_met_by_both c_can_be c_least_content)
  obtain ⟨d45, D45⟩ := c.def_ 45 (d := x45) rfl
  have F45 : Fun K "first_contents" "first_contents" (top 64) (He.ga K "first_contents") d45 := He5.fun_of D45
  have b45 := F45.binds (ps := ["plan", "pattern", "claims", "most"]) fun _ _ _ _ _ _ us hl => match us, hl with | [_, _, _, _], _ => rfl
  have c_first_contents := cal_of (P := P) (w := w) (base := base) (sp := (spM false (R_first_contents (He.ga K "Plan")))) (n := "first_contents") F45 (He.glo_ok X G (c.fact_ 56 (f := .glo "first_contents"))) b45 (ok_first_contents T F45 c_content_next)
  obtain ⟨d46, D46⟩ := c.def_ 46 (d := x46) rfl
  have F46 : Fun K "next_content" "next_content" (top 65) (He.ga K "next_content") d46 := He5.fun_of D46
  have b46 := F46.binds (ps := ["plan", "pattern", "content"]) fun _ _ _ _ _ _ us hl => match us, hl with | [_, _, _], _ => rfl
  have c_next_content := cal_of (P := P) (w := w) (base := base) (sp := (spM false (R_next_content (He.ga K "Plan")))) (n := "next_content") F46 (He.glo_ok X G (c.fact_ 57 (f := .glo "next_content"))) b46 (ok_next_content T F46 p_base c_check_pattern c_is_content c_no_claims c_content_next)
  obtain ⟨d47, D47⟩ := c.def_ 47 (d := x47) rfl
  have F47 : Fun K "contents" "contents" (top 66) (He.ga K "contents") d47 := He5.fun_of D47
  have b47 := F47.binds (ps := ["plan", "pattern", "most"]) fun _ _ _ _ _ _ us hl => match us, hl with | [_, _, _], _ => rfl
  have c_contents := cal_of (P := P) (w := w) (base := base) (sp := (spM false (R_contents (He.ga K "Plan")))) (n := "contents") F47 (He.glo_ok X G (c.fact_ 58 (f := .glo "contents"))) b47 (ok_contents T F47 p_base c_check_pattern c_is_below c_no_claims c_first_contents)
  obtain ⟨d48, D48⟩ := c.def_ 48 (d := x48) rfl
  have F48 : Fun K "check_cells" "check_cells" (top 68) (He.ga K "check_cells_same") d48 := He5.fun_of D48
  have b48 := F48.binds (ps := ["plan", "other"]) fun _ _ _ _ _ _ us hl => match us, hl with | [_, _], _ => rfl
  have c_check_cells_same := cal_of (P := P) (w := w) (base := base) (sp := (spM true (R_check_cells_same (He.ga K "Plan")))) (n := "check_cells_same") F48 (He.glo_ok X G (c.fact_ 59 (f := .glo "check_cells_same"))) b48 (ok_check_cells_same T F48 p_base)
  obtain ⟨d49, D49⟩ := c.def_ 49 (d := x49) rfl
  have F49 : Fun K "pattern_of" "pattern_of" (top 70) (He.ga K "pattern_of") d49 := He5.fun_of D49
  have b49 := F49.binds (ps := ["content"]) fun _ _ _ _ _ _ us hl => match us, hl with | [_], _ => rfl
  have c_pattern_of := cal_of (P := P) (w := w) (base := base) (sp := (spM true R_pattern_of)) (n := "pattern_of") F49 (He.glo_ok X G (c.fact_ 60 (f := .glo "pattern_of"))) b49 (ok_pattern_of T F49)
  obtain ⟨d50, D50⟩ := c.def_ 50 (d := x50) rfl
  have F50 : Fun K "only" "only" (top 71) (He.ga K "only") d50 := He5.fun_of D50
  have b50 := F50.binds (ps := ["plan", "other"]) fun _ _ _ _ _ _ us hl => match us, hl with | [_, _], _ => rfl
  have c_only := cal_of (P := P) (w := w) (base := base) (sp := (spM false (R_only (He.ga K "Plan")))) (n := "only") F50 (He.glo_ok X G (c.fact_ 61 (f := .glo "only"))) b50 (ok_only T F50 c_check_cells_same c_no_claims c_content_next c_can_be c_pattern_of)
  obtain ⟨d51, D51⟩ := c.def_ 51 (d := x51) rfl
  have F51 : Fun K "leave_the_same" "leave_the_same" (top 72) (He.ga K "leave_the_same") d51 := He5.fun_of D51
  have b51 := F51.binds (ps := ["plan", "other"]) fun _ _ _ _ _ _ us hl => match us, hl with | [_, _], _ => rfl
  have c_leave_the_same := cal_of (P := P) (w := w) (base := base) (sp := (spM false (R_leave_the_same (He.ga K "Plan")))) (n := "leave_the_same") F51 (He.glo_ok X G (c.fact_ 62 (f := .glo "leave_the_same"))) b51 (ok_leave_the_same F51 c_only)
  obtain ⟨d52, D52⟩ := c.def_ 52 (d := x52) rfl
  have F52 : Fun K "narrowed" "narrowed" (top 75) (He.ga K "narrowed") d52 := He5.fun_of D52
  have b52 := F52.binds (ps := ["plan", "pattern", "claims", "cell", "worth"]) fun _ _ _ _ _ _ us hl => match us, hl with | [_, _, _, _, _], _ => rfl
  have c_narrowed := cal_of (P := P) (w := w) (base := base) (sp := (spM false (R_narrowed (He.ga K "Plan")))) (n := "narrowed") F52 (He.glo_ok X G (c.fact_ 63 (f := .glo "narrowed"))) b52 (ok_narrowed T F52 c_met_by_both c_sought)
  obtain ⟨d53, D53⟩ := c.def_ 53 (d := x53) rfl
  have F53 : Fun K "worths_in" "worths_in" (top 76) (He.ga K "worths_in") d53 := He5.fun_of D53
  have b53 := F53.binds (ps := ["plan", "pattern", "claims", "cell"]) fun _ _ _ _ _ _ us hl => match us, hl with | [_, _, _, _], _ => rfl
  have c_worths_in := cal_of (P := P) (w := w) (base := base) (sp := (spM false (R_worths_in (He.ga K "Plan")))) (n := "worths_in") F53 (He.glo_ok X G (c.fact_ 64 (f := .glo "worths_in"))) b53 (ok_worths_in T F53 c_narrowed)
  obtain ⟨d54, D54⟩ := c.def_ 54 (d := x54) rfl
  have F54 : Fun K "worths_of" "worths_of" (top 77) (He.ga K "worths_of") d54 := He5.fun_of D54
  have b54 := F54.binds (ps := ["plan", "pattern", "claims", "cell"]) fun _ _ _ _ _ _ us hl => match us, hl with | [_, _, _, _], _ => rfl
  have c_worths_of := cal_of (P := P) (w := w) (base := base) (sp := (spM false (R_worths_in (He.ga K "Plan")))) (n := "worths_of") F54 (He.glo_ok X G (c.fact_ 65 (f := .glo "worths_of"))) b54 (ok_worths_of T F54 p_base c_check_pattern c_check_claims c_is_below c_worths_in)
  obtain ⟨d55, D55⟩ := c.def_ 55 (d := x55) rfl
  have F55 : Fun K "check_cells" "check_cells" (top 78) (He.ga K "check_cells_worths") d55 := He5.fun_of D55
  have b55 := F55.binds (ps := ["plan", "thing"]) fun _ _ _ _ _ _ us hl => match us, hl with | [_, _], _ => rfl
  have c_check_cells_worths := cal_of (P := P) (w := w) (base := base) (sp := (spM true (R_check_cells_worths (He.ga K "Plan")))) (n := "check_cells_worths") F55 (He.glo_ok X G (c.fact_ 66 (f := .glo "check_cells_worths"))) b55 (ok_check_cells_worths T F55 p_base c_is_below)
  obtain ⟨d56, D56⟩ := c.def_ 56 (d := x56) rfl
  have F56 : Fun K "together" "together" (top 80) (He.ga K "together") d56 := He5.fun_of D56
  have b56 := F56.binds (ps := ["plan", "pattern", "claims", "cells"]) fun _ _ _ _ _ _ us hl => match us, hl with | [_, _, _, _], _ => rfl
  have c_together := cal_of (P := P) (w := w) (base := base) (sp := (spM false (R_together (He.ga K "Plan")))) (n := "together") F56 (He.glo_ok X G (c.fact_ 67 (f := .glo "together"))) b56 (ok_together T F56 p_base c_check_pattern c_check_claims c_check_cells_worths c_narrowed)
  obtain ⟨d57, D57⟩ := c.def_ 57 (d := x57) rfl
  have F57 : Fun K "_law_next" "_law_next" (top 83) (He.ga K "_law_next") d57 := He5.fun_of D57
  have b57 := F57.binds (ps := ["_law_pen_here"]) fun _ _ _ _ _ _ us hl => match us, hl with | [_], _ => rfl
  have c__law_next := cal_of (P := P) (w := w) (base := base) (sp := (spM false R_law_next)) (n := "_law_next") F57 (He.glo_ok X G (c.fact_ 68 (f := .glo "_law_next"))) b57 (ok_law_next T F57)
  obtain ⟨d58, D58⟩ := c.def_ 58 (d := x58) rfl
  have F58 : Fun K "_law_draw" "_law_draw" (top 84) (He.ga K "_law_draw") d58 := He5.fun_of D58
  have b58 := F58.binds (ps := ["_law_pen_here", "_law_under"]) fun _ _ _ _ _ _ us hl => match us, hl with | [_, _], _ => rfl
  have c__law_draw := cal_of (P := P) (w := w) (base := base) (sp := (spM false R_law_draw)) (n := "_law_draw") F58 (He.glo_ok X G (c.fact_ 69 (f := .glo "_law_draw"))) b58 (ok_law_draw T F58 c__law_next)
  obtain ⟨d59, D59⟩ := c.def_ 59 (d := x59) rfl
  have F59 : Fun K "_law_step" "_law_step" (top 86) (He.ga K "_law_step") d59 := He5.fun_of D59
  have b59 := F59.binds (ps := ["_law_pen_here", "_law_cells", "_law_most_worth", "_law_most_long"]) fun _ _ _ _ _ _ us hl => match us, hl with | [_, _, _, _], _ => rfl
  have c__law_step := cal_of (P := P) (w := w) (base := base) (sp := (spM false R_law_step)) (n := "_law_step") F59 (He.glo_ok X G (c.fact_ 70 (f := .glo "_law_step"))) b59 (ok_law_step T F59 c__law_draw)
  obtain ⟨d60, D60⟩ := c.def_ 60 (d := x60) rfl
  have F60 : Fun K "_law_plan" "_law_plan" (top 87) (He.ga K "_law_plan") d60 := He5.fun_of D60
  have b60 := F60.binds (ps := ["_law_pen_here", "_law_most_cells", "_law_most_steps", "_law_most_worth"]) fun _ _ _ _ _ _ us hl => match us, hl with | [_, _, _, _], _ => rfl
  have c__law_plan := fun (a : Addr) (p : Pn) (b : Nat) (ok : p.Ok b) (hb : b ≤ 500000000) => cal_of (P := P) (w := w) (base := base) (sp := (spN (Pre_law_plan a p) (fun _ _ y c => Post_law_plan a b y c))) (n := "_law_plan") F60 (He.glo_ok X G (c.fact_ 71 (f := .glo "_law_plan"))) b60 (ok_law_plan T F60 c__law_draw c__law_step a p b ok hb)
  obtain ⟨d61, D61⟩ := c.def_ 61 (d := x61) rfl
  have F61 : Fun K "_law_over" "_law_over" (top 89) (He.ga K "_law_over") d61 := He5.fun_of D61
  have b61 := F61.binds (ps := ["_law_state_here", "_law_part"]) fun _ _ _ _ _ _ us hl => match us, hl with | [_, _], _ => rfl
  have c__law_over := cal_of (P := P) (w := w) (base := base) (sp := (spM false R_law_over)) (n := "_law_over") F61 (He.glo_ok X G (c.fact_ 72 (f := .glo "_law_over"))) b61 (ok_law_over T F61)
  obtain ⟨d62, D62⟩ := c.def_ 62 (d := x62) rfl
  have F62 : Fun K "_law_is_early" "_law_is_early" (top 90) (He.ga K "_law_is_early") d62 := He5.fun_of D62
  have b62 := F62.binds (ps := ["_law_parts_here", "_law_arrived", "_law_k"]) fun _ _ _ _ _ _ us hl => match us, hl with | [_, _, _], _ => rfl
  have c__law_is_early := cal_of (P := P) (w := w) (base := base) (sp := (spM false R_law_is_early)) (n := "_law_is_early") F62 (He.glo_ok X G (c.fact_ 73 (f := .glo "_law_is_early"))) b62 (ok_law_is_early T F62)
  obtain ⟨d63, D63⟩ := c.def_ 63 (d := x63) rfl
  have F63 : Fun K "_law_meets" "_law_meets" (top 93) (He.ga K "_law_meets") d63 := He5.fun_of D63
  have b63 := F63.binds (ps := ["_law_state_here", "_law_pattern_here"]) fun _ _ _ _ _ _ us hl => match us, hl with | [_, _], _ => rfl
  have c__law_meets := cal_of (P := P) (w := w) (base := base) (sp := (spM false R_law_meets)) (n := "_law_meets") F63 (He.glo_ok X G (c.fact_ 74 (f := .glo "_law_meets"))) b63 (ok_law_meets T F63)
  obtain ⟨d64, D64⟩ := c.def_ 64 (d := x64) rfl
  have F64 : Fun K "_law_pattern_of" "_law_pattern_of" (top 95) (He.ga K "_law_pattern_of") d64 := He5.fun_of D64
  have b64 := F64.binds (ps := ["_law_row"]) fun _ _ _ _ _ _ us hl => match us, hl with | [_], _ => rfl
  have c__law_pattern_of := cal_of (P := P) (w := w) (base := base) (sp := (spM false R_law_pattern_of)) (n := "_law_pattern_of") F64 (He.glo_ok X G (c.fact_ 75 (f := .glo "_law_pattern_of"))) b64 (ok_law_pattern_of T F64)
  obtain ⟨d65, D65⟩ := c.def_ 65 (d := x65) rfl
  have F65 : Fun K "_law_some" "_law_some" (top 85) (He.ga K "_law_some") d65 := He5.fun_of D65
  have b65 := F65.binds (ps := ["_law_pen_here", "_law_pool", "_law_most"]) fun _ _ _ _ _ _ us hl => match us, hl with | [_, _, _], _ => rfl
  have c__law_some := cal_of (P := P) (w := w) (base := base) (sp := (spM false R_law_some)) (n := "_law_some") F65 (He.glo_ok X G (c.fact_ 76 (f := .glo "_law_some"))) b65 (ok_law_some T F65 c__law_draw)
  obtain ⟨d66, D66⟩ := c.def_ 66 (d := x66) rfl
  have F66 : Fun K "_law_pattern" "_law_pattern" (top 92) (He.ga K "_law_pattern") d66 := He5.fun_of D66
  have b66 := F66.binds (ps := ["_law_pen_here", "_law_cells", "_law_most_worth"]) fun _ _ _ _ _ _ us hl => match us, hl with | [_, _, _], _ => rfl
  have c__law_pattern := fun (a : Addr) (p : Pn) (b : Nat) (n : Nat) (ok : p.Ok b) (hb : b ≤ 500000000) (hn : n ≤ 4) => cal_of (P := P) (w := w) (base := base) (sp := (spN (Pre_law_pattern a p n) (fun _ _ y c => Post_law_pattern a b n y c))) (n := "_law_pattern") F66 (He.glo_ok X G (c.fact_ 77 (f := .glo "_law_pattern"))) b66 (ok_law_pattern T F66 c__law_draw c__law_some a p b n ok hb hn)
  obtain ⟨d67, D67⟩ := c.def_ 67 (d := x67) rfl
  have F67 : Fun K "_law_parts" "_law_parts" (top 88) (He.ga K "_law_parts") d67 := He5.fun_of D67
  have b67 := F67.binds (ps := ["_law_triple"]) fun _ _ _ _ _ _ us hl => match us, hl with | [_], _ => rfl
  have c__law_parts := cal_of (P := P) (w := w) (base := base) (sp := (spM false R_law_parts)) (n := "_law_parts") F67 (He.glo_ok X G (c.fact_ 78 (f := .glo "_law_parts"))) b67 (ok_law_parts T F67)
  obtain ⟨d68, D68⟩ := c.def_ 68 (d := x68) rfl
  have F68 : Fun K "_law_all" "_law_all" (top 91) (He.ga K "_law_all") d68 := He5.fun_of D68
  have b68 := F68.binds (ps := ["_law_triple", "_law_begin", "_law_arrived"]) fun _ _ _ _ _ _ us hl => match us, hl with | [_, _, _], _ => rfl
  have c__law_all := cal_of (P := P) (w := w) (base := base) (sp := (spM false R_law_all)) (n := "_law_all") F68 (He.glo_ok X G (c.fact_ 79 (f := .glo "_law_all"))) b68 (ok_law_all T F68 c__law_parts c__law_over c__law_is_early)
  obtain ⟨d69, D69⟩ := c.def_ 69 (d := x69) rfl
  have F69 : Fun K "_law_short" "_law_short" (top 94) (He.ga K "_law_short") d69 := He5.fun_of D69
  have b69 := F69.binds (ps := ["_law_triple"]) fun _ _ _ _ _ _ us hl => match us, hl with | [_], _ => rfl
  have c__law_short := cal_of (P := P) (w := w) (base := base) (sp := (spN Pre_law_short (fun _ _ y c => Post_law_short y c))) (n := "_law_short") F69 (He.glo_ok X G (c.fact_ 80 (f := .glo "_law_short"))) b69 (ok_law_short T F69 c__law_parts)
  obtain ⟨d70, D70⟩ := c.def_ 70 (d := x70) rfl
  have F70 : Fun K "_law_worths_right" "_law_worths_right" (top 96) (He.ga K "_law_worths_right") d70 := He5.fun_of D70
  have b70 := F70.binds (ps := ["_law_made", "_law_pattern_here", "_law_every"]) fun _ _ _ _ _ _ us hl => match us, hl with | [_, _, _], _ => rfl
  have c__law_worths_right := cal_of (P := P) (w := w) (base := base) (sp := (spM false (R_law_worths_right (He.ga K "Plan")))) (n := "_law_worths_right") F70 (He.glo_ok X G (c.fact_ 81 (f := .glo "_law_worths_right"))) b70 (ok_law_worths_right T F70 p_base c_worths_of c_together)
  obtain ⟨d71, D71⟩ := c.def_ 71 (d := x71) rfl
  have F71 : Fun K "_law_pen" "_law_pen" (top 82) (He.ga K "_law_pen") d71 := He5.fun_of D71
  have b71 := F71.binds (ps := ["_law_script"]) fun _ _ _ _ _ _ us hl => match us, hl with | [_], _ => rfl
  have c__law_pen := fun (s : Addr) (l : List Int) (cs0 : Cs) (hs : Scr K s l cs0) => cal_of (P := P) (w := w) (base := base) (sp := (spN (fun xs cs => xs = [.ptr s] ∧ cs = cs0) (fun _ _ y c => ∃ a, y = .ptr a ∧ c = cs0 ++ R_law_pen a l))) (n := "_law_pen") F71 (He.glo_ok X G (c.fact_ 82 (f := .glo "_law_pen"))) b71 (ok_law_penP T F71 s l cs0 hs)
  obtain ⟨d72, D72⟩ := c.def_ 72 (d := x72) rfl
  have F72 : Fun K "_law_right" "_law_right" (top 97) (He.ga K "_law_right") d72 := He5.fun_of D72
  have b72 := F72.binds (ps := ["_law_pen_here", "_law_triple", "_law_pattern_here"]) fun _ _ _ _ _ _ us hl => match us, hl with | [_, _, _], _ => rfl
  have c__law_right := cal_of (P := P) (w := w) (base := base) (sp := (spM false (R_law_right (He.ga K "Plan")))) (n := "_law_right") F72 (He.glo_ok X G (c.fact_ 83 (f := .glo "_law_right"))) b72 (ok_law_right T F72 k_Plan c__law_all c__law_meets c_contents c__law_worths_right c_next_content c_find c__law_pattern_of c_is_fall c_content_after c__law_draw)
  exact ok_law T D c__law_pen c__law_plan c__law_short c__law_pattern c__law_right k_Plan m_with_step m_without_step c_leave_the_same c_only c__law_draw
end Af
set_option Elab.async false
set_option linter.all false
set_option maxRecDepth 100000
set_option maxHeartbeats 0
/-! ### the end -/
namespace Af
open PySem PySem.Spec PyProof.Rows L2
theorem law_sp {K : PySem.W.Frag} (H : Hp) (a : Addr) (ns : List Int) (hl : ns.length ≤ 63) (hO : Only H) (hS : SqL K H a (ns.map V.int)) (E : XK) : spN (PreLaw K) RLaw [.ref a] H (fun v _ => v = .bl true) E := by
  obtain ⟨cs, hscr, hown⟩ := scr_of hl hO hS
  refine ⟨fun _ => none, [.ptr a], cs, hown, Reps.cons (rep_ptr.mpr rfl) Reps.nil, ⟨a, ns, hscr, rfl⟩, fun y cs' hR v S' H' O s r => ?_⟩
  rw [show y = .bl true from hR] at r
  exact rep_bl.mp r
end Af
open PySem PySem.W PySem.Calls PyProof.Rows
theorem PySem.Challenge.cw_afterfall_k65_whole_contents_holds : PySem.Challenge.rw_afterfall_k65_whole_contents.Holds := by
  w_on; o_law
  refine HandSHeadRun.head_any (r := OpenLaw.row PySem.Challenge.rw_afterfall_k65_whole_contents) (q := view (OpenLaw.row PySem.Challenge.rw_afterfall_k65_whole_contents).prog [98]) (H := Af.hkZ) (ob := Af.obZ) (M := 9000) (loose := Af.looZ) (d := HandSHeadRun.topDef (OpenLaw.row PySem.Challenge.rw_afterfall_k65_whole_contents).prog 98) (kwd := []) Af.obZ_eq
    (by kernel_rfl) (fun s => by kernel_rfl) Af.runZ (by kernel_rfl) (by kernel_rfl) (by kernel_rfl) (by rfl) (by first | assumption | decide +kernel) (by decide +kernel) ⟨rfl, rfl, rfl, rfl, rfl, by decide +kernel⟩ ?hw ?hc
  case hw => w_witness2
  case hc =>
    refine L2.walk_ofE (l := PySem.Challenge.rw_afterfall_k65_whole_contents) (n := 63) (k := 19) (x := "_law_script") (CX := L2.CX0) rfl (by decide) (by kernel_rfl) ⟨rfl, by decide, by decide⟩ ?F (fun _ _ _ _ z => z)
    intro w mg fa h Y G hmg0
    obtain ⟨K, KX, c⟩ := Y
    have hmg : mg ("law" : PySem.Str) = some (.ref fa) := by
      have e : (HandSHeadRun.topDef (OpenLaw.row PySem.Challenge.rw_afterfall_k65_whole_contents).prog 98).name = ("law" : PySem.Str) := by kernel_rfl
      rw [← e]
      exact hmg0
    obtain ⟨fd, D⟩ := c.def_ 73 (d := Af.x73) rfl
    have b := L2.FunD.bindsA (ps := ["_law_script"]) D fun _ _ _ _ _ _ us hl => match us, hl with | [_], _ => rfl
    have e := hmg.symm.trans (He.glo_ok KX G (c.fact_ 84 (f := .glo "law")))
    cases e
    exact ⟨K, fd, Af.spN (Af.PreLaw K) Af.RLaw, KX, fun s v => b s [v] rfl, fun H a ns hl hO hS => Af.law_sp H a ns hl hO hS _, fun base KB GB => Af.join (P := (PySem.Challenge.rw_afterfall_k65_whole_contents).prog) (w := w) base KX G c (He5.fun_of D)⟩
