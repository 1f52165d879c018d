import PyProof.Rows.All
import Wide.All
import OpenK.AllK
import Wide.FinOn
import PySem.Challenge.RW_makeskept_k31_whole_turned_as_plain
import KE.KStateDown
import PyProof.ReprRoads
import PyProof.ReprLen
import PyProof.FitsInt
import HandS.ForMost
import HandS.Defaults
import HandS.IsInst
import HandS.Flow
import HandS.More
import HandS.DictTup
import HandS.SortRule
import HandS.SortInts
import HandS.RevRange
import HandS.Style
import HandS.ClsMeth
import HandS.HeadHook1
import HandS.HeadHook2
import KE.KDictCopyH
import KE.KDictSum
import KE.KDictList
import PyProof.DictMoreH
import HandS.Walk
import HandS.RaiseMore
import HandS.Head0
import HandS.Head1
import HandS.Head2
import HandS.HeadEnd
/-! the plain mathematics: trees of makes by own : Nat → Nat -/
set_option linter.all false
namespace MK
/-- 0 is its own; any other stands beneath its own one -/
structure WT (own : Nat → Nat) : Prop where
  z : own 0 = 0
  lt : ∀ m, 0 < m → own m < m
def up (own : Nat → Nat) : Nat → Nat → Nat
  | 0, m => m
  | k + 1, m => own (up own k m)
def depF (own : Nat → Nat) : Nat → Nat → Nat
  | 0, _ => 0
  | f + 1, m => if m = 0 then 0 else depF own f (own m) + 1
def dep (own : Nat → Nat) (m : Nat) : Nat := depF own m m
section
variable {own : Nat → Nat}
theorem up_own (k m : Nat) : up own k (own m) = up own (k + 1) m := by
  induction k with
  | zero => rfl
  | succ k ih => show own (up own k (own m)) = own (up own (k + 1) m); rw [ih]
theorem up_add (a b m : Nat) : up own (a + b) m = up own a (up own b m) := by
  induction a with
  | zero => rw [Nat.zero_add]; rfl
  | succ a ih => rw [Nat.succ_add]; show own (up own (a + b) m) = own (up own a (up own b m)); rw [ih]
theorem WT.le (W : WT own) (m : Nat) : own m ≤ m := by
  rcases Nat.eq_zero_or_pos m with e | e
  · rw [e, W.z]; exact Nat.le_refl _
  · exact Nat.le_of_lt (W.lt m e)
theorem up_le (W : WT own) (k m : Nat) : up own k m ≤ m := by
  induction k with
  | zero => exact Nat.le_refl _
  | succ k ih => exact Nat.le_trans (W.le _) ih
theorem up_zero (W : WT own) (k : Nat) : up own k 0 = 0 := Nat.le_zero.mp (up_le W k 0)
theorem depF_eq (W : WT own) : ∀ (f g m : Nat), m ≤ f → m ≤ g → depF own f m = depF own g m := by
  intro f
  induction f with
  | zero =>
    intro g m h1 h2
    have e : m = 0 := by omega
    subst e
    cases g with
    | zero => rfl
    | succ g => simp [depF]
  | succ f ih =>
    intro g m h1 h2
    cases g with
    | zero =>
      have e : m = 0 := by omega
      subst e
      simp [depF]
    | succ g =>
      show (if m = 0 then 0 else depF own f (own m) + 1) = (if m = 0 then 0 else depF own g (own m) + 1)
      by_cases e : m = 0
      · rw [if_pos e, if_pos e]
      · have l := W.lt m (by omega)
        rw [if_neg e, if_neg e, ih g (own m) (by omega) (by omega)]
theorem dep_zero : dep own 0 = 0 := rfl
theorem dep_pos (W : WT own) {m : Nat} (h : 0 < m) : dep own m = dep own (own m) + 1 := by
  have l := W.lt m h
  obtain ⟨k, e⟩ : ∃ k, m = k + 1 := ⟨m - 1, by omega⟩
  subst e
  show (if k + 1 = 0 then 0 else depF own k (own (k + 1)) + 1) = _
  rw [if_neg (by omega), depF_eq W k (own (k + 1)) (own (k + 1)) (by omega) (Nat.le_refl _)]
  rfl
theorem dep_le (W : WT own) (m : Nat) : dep own m ≤ m := by
  induction m using Nat.strongRecOn with
  | _ m ih =>
    rcases Nat.eq_zero_or_pos m with e | e
    · subst e; exact Nat.le_refl _
    · have := ih _ (W.lt m e)
      rw [dep_pos W e]
      have := W.lt m e
      omega
theorem dep_eq_zero (W : WT own) {m : Nat} (h : dep own m = 0) : m = 0 := by
  rcases Nat.eq_zero_or_pos m with e | e
  · exact e
  · rw [dep_pos W e] at h; omega
theorem dep_own (W : WT own) (m : Nat) : dep own (own m) = dep own m - 1 := by
  rcases Nat.eq_zero_or_pos m with e | e
  · subst e; rw [W.z, dep_zero]
  · rw [dep_pos W e]; omega
theorem dep_up (W : WT own) (k m : Nat) : dep own (up own k m) = dep own m - k := by
  induction k with
  | zero => rfl
  | succ k ih => show dep own (own (up own k m)) = _; rw [dep_own W, ih]; omega
theorem up_dep (W : WT own) {k m : Nat} (h : dep own m ≤ k) : up own k m = 0 := dep_eq_zero W (by rw [dep_up W]; omega)
theorem up_pos (W : WT own) {k m : Nat} (h : k < dep own m) : 0 < up own k m := by
  rcases Nat.eq_zero_or_pos (up own k m) with e | e
  · have := dep_up W k m
    rw [e, dep_zero] at this
    omega
  · exact e
/-- trees that agree up to a make -/
theorem up_congr {own' : Nat → Nat} (W : WT own) {m : Nat} (h : ∀ i, i ≤ m → own' i = own i) (k : Nat) : up own' k m = up own k m := by
  induction k with
  | zero => rfl
  | succ k ih => show own' (up own' k m) = own (up own k m); rw [ih]; exact h _ (up_le W k m)
theorem depF_congr {own' : Nat → Nat} (W : WT own) : ∀ (f m : Nat), (∀ i, i ≤ m → own' i = own i) → depF own' f m = depF own f m := by
  intro f
  induction f with
  | zero => intro m _; rfl
  | succ f ih =>
    intro m h
    show (if m = 0 then 0 else depF own' f (own' m) + 1) = (if m = 0 then 0 else depF own f (own m) + 1)
    rw [h m (Nat.le_refl _), ih (own m) fun i hi => h i (Nat.le_trans hi (W.le m))]
theorem dep_congr {own' : Nat → Nat} (W : WT own) {m : Nat} (h : ∀ i, i ≤ m → own' i = own i) : dep own' m = dep own m := depF_congr W m m h
/-- the tree with a new make n put on m -/
def putO (own : Nat → Nat) (n m : Nat) : Nat → Nat := fun i => if i = n then m else own i
theorem putO_ne {n m i : Nat} (h : i ≠ n) : putO own n m i = own i := if_neg h
theorem putO_at {n m : Nat} : putO own n m n = m := if_pos rfl
theorem putO_wt (W : WT own) {n m : Nat} (h : m < n) : WT (putO own n m) := by
  constructor
  · rw [putO_ne (by omega)]; exact W.z
  · intro i hi
    by_cases e : i = n
    · subst e; rw [putO_at]; exact h
    · rw [putO_ne e]; exact W.lt i hi
theorem putO_up (W : WT own) {n m i : Nat} (h : i < n) (k : Nat) : up (putO own n m) k i = up own k i := up_congr W (fun j hj => putO_ne (by omega)) k
theorem putO_dep (W : WT own) {n m i : Nat} (h : i < n) : dep (putO own n m) i = dep own i := dep_congr W (fun j hj => putO_ne (by omega))
theorem putO_upN (W : WT own) {n m : Nat} (h : m < n) (k : Nat) : up (putO own n m) (k + 1) n = up own k m := by
  rw [← up_own, putO_at, putO_up W h]
theorem putO_depN (W : WT own) {n m : Nat} (h : m < n) : dep (putO own n m) n = dep own m + 1 := by
  rw [dep_pos (putO_wt W h) (by omega), putO_at, putO_dep W h]
end

/-! ### leaps -/
def llen (d : Nat) : Nat := if d = 0 then 0 else Nat.log2 d + 1
theorem llen_iff (d i : Nat) : i < llen d ↔ 2 ^ i ≤ d := by
  unfold llen
  by_cases e : d = 0
  · subst e
    have : 0 < 2 ^ i := Nat.two_pow_pos i
    simp
  · rw [if_neg e, ← Nat.le_log2 e]
    omega
theorem llen_le {d k : Nat} (h : d < 2 ^ k) : llen d ≤ k := by
  rcases Nat.lt_or_ge k (llen d) with e | e
  · have := (llen_iff d k).mp e
    omega
  · exact e

/-! ### writers and worths -/
def wrF (own wrote : Nat → Nat) : Nat → Nat → Nat → Nat
  | 0, _, _ => 0
  | f + 1, m, p => if m = 0 then 0 else if wrote m = p then m else wrF own wrote f (own m) p
def wr (own wrote : Nat → Nat) (m p : Nat) : Nat := wrF own wrote m m p
section
variable {own wrote : Nat → Nat}
theorem wrF_eq (W : WT own) (p : Nat) : ∀ (f g m : Nat), m ≤ f → m ≤ g → wrF own wrote f m p = wrF own wrote g m p := by
  intro f
  induction f with
  | zero =>
    intro g m h1 h2
    have e : m = 0 := by omega
    subst e
    cases g with
    | zero => rfl
    | succ g => simp [wrF]
  | succ f ih =>
    intro g m h1 h2
    cases g with
    | zero =>
      have e : m = 0 := by omega
      subst e
      simp [wrF]
    | succ g =>
      show (if m = 0 then 0 else if wrote m = p then m else wrF own wrote f (own m) p) = (if m = 0 then 0 else if wrote m = p then m else wrF own wrote g (own m) p)
      by_cases e : m = 0
      · rw [if_pos e, if_pos e]
      · have l := W.lt m (by omega)
        rw [if_neg e, if_neg e, ih g (own m) (by omega) (by omega)]
theorem wr_zero (p : Nat) : wr own wrote 0 p = 0 := rfl
theorem wr_pos (W : WT own) {m : Nat} (h : 0 < m) (p : Nat) : wr own wrote m p = if wrote m = p then m else wr own wrote (own m) p := by
  have l := W.lt m h
  obtain ⟨k, e⟩ : ∃ k, m = k + 1 := ⟨m - 1, by omega⟩
  subst e
  show (if k + 1 = 0 then 0 else if wrote (k + 1) = p then k + 1 else wrF own wrote k (own (k + 1)) p) = _
  rw [if_neg (by omega), wrF_eq W p k (own (k + 1)) (own (k + 1)) (by omega) (Nat.le_refl _)]
  rfl
theorem wr_le (W : WT own) (m p : Nat) : wr own wrote m p ≤ m := by
  induction m using Nat.strongRecOn with
  | _ m ih =>
    rcases Nat.eq_zero_or_pos m with e | e
    · subst e; exact Nat.le_refl _
    · rw [wr_pos W e]
      split
      · exact Nat.le_refl _
      · exact Nat.le_trans (ih _ (W.lt m e)) (W.le m)
theorem wr_wrote (W : WT own) (m p : Nat) (h : 0 < wr own wrote m p) : wrote (wr own wrote m p) = p := by
  induction m using Nat.strongRecOn with
  | _ m ih =>
    rcases Nat.eq_zero_or_pos m with e | e
    · subst e; rw [wr_zero] at h; omega
    · rw [wr_pos W e] at h ⊢
      split
      · assumption
      · rename_i q
        rw [if_neg q] at h
        exact ih _ (W.lt m e) h
theorem wrF_congr {own' wrote' : Nat → Nat} (W : WT own) (p : Nat) : ∀ (f m : Nat), (∀ i, i ≤ m → own' i = own i) → (∀ i, i ≤ m → wrote' i = wrote i) → wrF own' wrote' f m p = wrF own wrote f m p := by
  intro f
  induction f with
  | zero => intro m _ _; rfl
  | succ f ih =>
    intro m h h2
    show (if m = 0 then 0 else if wrote' m = p then m else wrF own' wrote' f (own' m) p) = (if m = 0 then 0 else if wrote m = p then m else wrF own wrote f (own m) p)
    rw [h m (Nat.le_refl _), h2 m (Nat.le_refl _), ih (own m) (fun i hi => h i (Nat.le_trans hi (W.le m))) (fun i hi => h2 i (Nat.le_trans hi (W.le m)))]
theorem wr_congr {own' wrote' : Nat → Nat} (W : WT own) {m : Nat} (p : Nat) (h : ∀ i, i ≤ m → own' i = own i) (h2 : ∀ i, i ≤ m → wrote' i = wrote i) : wr own' wrote' m p = wr own wrote m p := wrF_congr W p m m h h2
end

/-! ### a row in all its makes -/
structure Mo where
  n : Nat
  size : Nat
  own : Nat → Nat
  wrote : Nat → Nat
  worth : Nat → Int
  gone : Nat → Bool
  first : Nat → Int
def big : Int := 10 ^ 30 - 1
def okW (w : Int) : Prop := -big ≤ w ∧ w ≤ big
namespace Mo
def wr (M : Mo) (m p : Nat) : Nat := MK.wr M.own M.wrote m p
def val (M : Mo) (m p : Nat) : Int := if M.wr m p = 0 then M.first p else M.worth (M.wr m p)
def kept (M : Mo) (m : Nat) : Prop := m < M.n ∧ M.gone m = false
structure Ok (M : Mo) : Prop where
  wt : WT M.own
  n1 : 1 ≤ M.n
  n64 : M.n ≤ 64
  s1 : 1 ≤ M.size
  s16 : M.size ≤ 16
  wrote : ∀ i, 0 < i → i < M.n → M.wrote i < M.size
  worth : ∀ i, 0 < i → i < M.n → okW (M.worth i)
  first : ∀ p, p < M.size → okW (M.first p)
  some : ∃ k, M.kept k
def put (M : Mo) (m p : Nat) (w : Int) : Mo :=
  { n := M.n + 1, size := M.size, own := putO M.own M.n m, wrote := fun i => if i = M.n then p else M.wrote i, worth := fun i => if i = M.n then w else M.worth i,
    gone := fun i => if i = M.n then false else M.gone i, first := M.first }
def let_ (M : Mo) (m : Nat) : Mo := { M with gone := fun i => if i = m then true else M.gone i }
theorem val_ok {M : Mo} (K : M.Ok) {m p : Nat} (hm : m < M.n) (hp : p < M.size) : okW (M.val m p) := by
  unfold val
  by_cases e : M.wr m p = 0
  · rw [if_pos e]; exact K.first p hp
  · rw [if_neg e]
    exact K.worth _ (by omega) (Nat.lt_of_le_of_lt (wr_le K.wt m p) hm)
theorem wr_lt {M : Mo} (K : M.Ok) {m p : Nat} (hm : m < M.n) : M.wr m p < M.n := Nat.lt_of_le_of_lt (wr_le K.wt m p) hm
theorem put_wr {M : Mo} (K : M.Ok) {m p i : Nat} {w : Int} (hi : i < M.n) (q : Nat) : (M.put m p w).wr i q = M.wr i q :=
  wr_congr K.wt q (fun j hj => putO_ne (by omega)) (fun j hj => if_neg (by omega))
theorem put_wrN {M : Mo} (K : M.Ok) {m p : Nat} {w : Int} (hm : m < M.n) (q : Nat) : (M.put m p w).wr M.n q = if p = q then M.n else M.wr m q := by
  have h0 : 0 < M.n := K.n1
  have e : (M.put m p w).wr M.n q = if (M.put m p w).wrote M.n = q then M.n else (M.put m p w).wr ((M.put m p w).own M.n) q := wr_pos (putO_wt K.wt hm) h0 q
  have e1 : (M.put m p w).wrote M.n = p := if_pos rfl
  have e2 : (M.put m p w).own M.n = m := putO_at
  rw [e, e1, e2, put_wr K hm]
theorem put_val {M : Mo} (K : M.Ok) {m p i : Nat} {w : Int} (hi : i < M.n) (q : Nat) : (M.put m p w).val i q = M.val i q := by
  unfold val
  rw [put_wr K hi]
  have h : M.wr i q < M.n := wr_lt K hi
  show (if M.wr i q = 0 then M.first q else (if M.wr i q = M.n then w else M.worth (M.wr i q))) = _
  rw [if_neg (show ¬ M.wr i q = M.n by omega)]
theorem put_valN {M : Mo} (K : M.Ok) {m p : Nat} {w : Int} (hm : m < M.n) (q : Nat) : (M.put m p w).val M.n q = if q = p then w else M.val m q := by
  have h0 : 0 < M.n := K.n1
  unfold val
  rw [put_wrN K hm]
  by_cases e : p = q
  · subst e
    rw [if_pos rfl, if_pos rfl, if_neg (by omega)]
    show (if M.n = M.n then w else _) = w
    rw [if_pos rfl]
  · have h : M.wr m q < M.n := wr_lt K hm
    rw [if_neg e, if_neg (show ¬ q = p from fun z => e z.symm)]
    show (if M.wr m q = 0 then M.first q else (if M.wr m q = M.n then w else M.worth (M.wr m q))) = _
    rw [if_neg (show ¬ M.wr m q = M.n by omega)]
theorem put_ok {M : Mo} (K : M.Ok) {m p : Nat} {w : Int} (hm : m < M.n) (hp : p < M.size) (hw : okW w) (hn : M.n < 64) : (M.put m p w).Ok := by
  refine ⟨putO_wt K.wt hm, ?_, ?_, K.s1, K.s16, ?_, ?_, K.first, ?_⟩
  · show 1 ≤ M.n + 1
    omega
  · show M.n + 1 ≤ 64
    omega
  · intro i h0 hi
    show (if i = M.n then p else M.wrote i) < M.size
    by_cases e : i = M.n
    · rw [if_pos e]; exact hp
    · rw [if_neg e]; exact K.wrote i h0 (by have : i < M.n + 1 := hi; omega)
  · intro i h0 hi
    show okW (if i = M.n then w else M.worth i)
    by_cases e : i = M.n
    · rw [if_pos e]; exact hw
    · rw [if_neg e]; exact K.worth i h0 (by have : i < M.n + 1 := hi; omega)
  · obtain ⟨k, h1, h2⟩ := K.some
    refine ⟨k, ?_, ?_⟩
    · show k < M.n + 1
      omega
    · show (if k = M.n then false else M.gone k) = false
      rw [if_neg (by omega)]; exact h2
theorem put_keptN {M : Mo} {m p : Nat} {w : Int} : (M.put m p w).kept M.n := ⟨Nat.lt_succ_self _, if_pos rfl⟩
theorem put_kept {M : Mo} {m p i : Nat} {w : Int} (h : M.kept i) : (M.put m p w).kept i := ⟨Nat.lt_succ_of_lt h.1, by
  have := h.1
  show (if i = M.n then false else M.gone i) = false
  rw [if_neg (by omega)]; exact h.2⟩
theorem let_kept {M : Mo} {m i : Nat} : (M.let_ m).kept i ↔ M.kept i ∧ i ≠ m := by
  constructor
  · rintro ⟨h1, h2⟩
    have h2' : (if i = m then true else M.gone i) = false := h2
    by_cases e : i = m
    · rw [if_pos e] at h2'; cases h2'
    · rw [if_neg e] at h2'; exact ⟨⟨h1, h2'⟩, e⟩
  · rintro ⟨⟨h1, h2⟩, e⟩
    refine ⟨h1, ?_⟩
    show (if i = m then true else M.gone i) = false
    rw [if_neg e]; exact h2
theorem let_ok {M : Mo} (K : M.Ok) {m : Nat} (h : ∃ k, M.kept k ∧ k ≠ m) : (M.let_ m).Ok :=
  ⟨K.wt, K.n1, K.n64, K.s1, K.s16, K.wrote, K.worth, K.first, let ⟨k, h1, h2⟩ := h; ⟨k, let_kept.mpr ⟨h1, h2⟩⟩⟩
end Mo
end MK

/-! the plain mathematics: nearest makes, ways, sub-trees, notes -/
set_option linter.all false
namespace MK
section
variable {own : Nat → Nat}
/-- the ancestor of m at depth d -/
def at_ (own : Nat → Nat) (d m : Nat) : Nat := up own (dep own m - d) m
theorem dep_at (W : WT own) {d m : Nat} (h : d ≤ dep own m) : dep own (at_ own d m) = d := by
  unfold at_; rw [dep_up W]; omega
theorem at_at (W : WT own) {d e m : Nat} (h : d ≤ e) (h2 : e ≤ dep own m) : at_ own d (at_ own e m) = at_ own d m := by
  have q : dep own (at_ own e m) = e := dep_at W h2
  show up own (dep own (at_ own e m) - d) (at_ own e m) = _
  rw [q]
  show up own (e - d) (up own (dep own m - e) m) = up own (dep own m - d) m
  rw [← up_add]
  congr 1
  omega
/-- r is the last make on both lines -/
structure Nca (own : Nat → Nat) (a b r : Nat) : Prop where
  da : dep own r ≤ dep own a
  db : dep own r ≤ dep own b
  ea : at_ own (dep own r) a = r
  eb : at_ own (dep own r) b = r
  mx : ∀ d, d ≤ dep own a → d ≤ dep own b → at_ own d a = at_ own d b → d ≤ dep own r
theorem Nca.symm {a b r : Nat} (h : Nca own a b r) : Nca own b a r := ⟨h.db, h.da, h.eb, h.ea, fun d h1 h2 e => h.mx d h2 h1 e.symm⟩
/-- the line of m -/
def lineL (own : Nat → Nat) (m : Nat) : List Nat := (List.range (dep own m + 1)).map fun i => up own (dep own m - i) m
/-- the way from a to b by their nearest make r -/
def wayL (own : Nat → Nat) (a b r : Nat) : List Nat := ((List.range (dep own a - dep own r + 1)).map fun i => up own i a) ++ ((List.range (dep own b - dep own r)).map fun i => up own (dep own b - dep own r - 1 - i) b)
/-- the equal-depth search: the state of the loop -/
theorem nca_step (W : WT own) {a b x y : Nat} {k : Nat} (hd : dep own x = dep own y) (hxa : ∃ i, up own i a = x ∧ i ≤ dep own a) (hyb : ∃ j, up own j b = y ∧ j ≤ dep own b) (ne : x ≠ y)
    (h : up own 1 x = up own 1 y) : Nca own a b (own x) := by
  have hx0 : 0 < dep own x := by
    rcases Nat.eq_zero_or_pos (dep own x) with e | e
    · have e1 := dep_eq_zero W e
      have e2 := dep_eq_zero W (by rw [← hd]; exact e)
      exact absurd (e1.trans e2.symm) ne
    · exact e
  obtain ⟨i, hi, hia⟩ := hxa
  obtain ⟨j, hj, hjb⟩ := hyb
  have dx : dep own x = dep own a - i := by rw [← hi, dep_up W]
  have dy : dep own y = dep own b - j := by rw [← hj, dep_up W]
  have dr : dep own (own x) = dep own x - 1 := dep_own W x
  have exy : own x = own y := h
  refine ⟨by omega, by omega, ?_, ?_, fun d h1 h2 e => ?_⟩
  · show up own (dep own a - dep own (own x)) a = own x
    rw [dr, show dep own a - (dep own x - 1) = 1 + i by omega, up_add, hi]; rfl
  · show up own (dep own b - dep own (own x)) b = own x
    rw [dr, show dep own b - (dep own x - 1) = 1 + j by omega, up_add, hj]; exact exy.symm
  · rcases Nat.lt_or_ge (dep own (own x)) d with q | q
    · exfalso
      -- d ≥ dep x: then x = y
      apply ne
      have e1 : at_ own (dep own x) a = x := by show up own (dep own a - dep own x) a = x; rw [show dep own a - dep own x = i by omega, hi]
      have e2 : at_ own (dep own y) b = y := by show up own (dep own b - dep own y) b = y; rw [show dep own b - dep own y = j by omega, hj]
      have f1 := at_at W (d := dep own x) (e := d) (m := a) (by omega) h1
      have f2 := at_at W (d := dep own y) (e := d) (m := b) (by omega) h2
      rw [e] at f1
      rw [← e1, ← e2, ← f1, ← f2, hd]
    · exact q
theorem nca_same (W : WT own) {a b x : Nat} (hxa : ∃ i, up own i a = x ∧ i ≤ dep own a) (h : dep own x = dep own b) (hb : x = b) : Nca own a b b := by
  obtain ⟨i, hi, hia⟩ := hxa
  have dx : dep own x = dep own a - i := by rw [← hi, dep_up W]
  subst hb
  refine ⟨by omega, Nat.le_refl _, ?_, ?_, fun d h1 h2 e => h2⟩
  · show up own (dep own a - dep own x) a = x
    rw [show dep own a - dep own x = i by omega, hi]
  · show up own (dep own x - dep own x) x = x
    rw [Nat.sub_self]; rfl

/-! ### sub-trees -/
structure Sub (own : Nat → Nat) (N : Nat → Prop) (t : Nat) : Prop where
  top : N t
  le : ∀ m, N m → t ≤ m
  up1 : ∀ m, N m → m ≠ t → N (own m)
theorem Sub.ups {N : Nat → Prop} {t : Nat} (W : WT own) (S : Sub own N t) (m : Nat) (h : N m) : dep own t ≤ dep own m ∧ at_ own (dep own t) m = t ∧ ∀ i, i ≤ dep own m - dep own t → N (up own i m) := by
  induction m using Nat.strongRecOn with
  | _ m ih =>
    by_cases e : m = t
    · subst e
      refine ⟨Nat.le_refl _, ?_, fun i hi => ?_⟩
      · show up own (dep own m - dep own m) m = m
        rw [Nat.sub_self]; rfl
      · have : i = 0 := by omega
        subst this
        exact h
    · have h1 := S.le m h
      have h0 : 0 < m := by omega
      obtain ⟨a, b, c⟩ := ih (own m) (W.lt m h0) (S.up1 m h e)
      have d := dep_pos W h0
      refine ⟨by omega, ?_, fun i hi => ?_⟩
      · have b' : up own (dep own (own m) - dep own t) (own m) = t := b
        rw [up_own] at b'
        show up own (dep own m - dep own t) m = t
        rw [show dep own m - dep own t = dep own (own m) - dep own t + 1 by omega]
        exact b'
      · cases i with
        | zero => exact h
        | succ i =>
          rw [← up_own]
          exact c i (by omega)
/-- the way between two of N lies in N -/
theorem Sub.way {N : Nat → Prop} {t a b r : Nat} (W : WT own) (S : Sub own N t) (ha : N a) (hb : N b) (hr : Nca own a b r) : ∀ x ∈ wayL own a b r, N x := by
  obtain ⟨a1, a2, a3⟩ := S.ups W a ha
  obtain ⟨b1, b2, b3⟩ := S.ups W b hb
  have q := hr.mx (dep own t) a1 b1 (a2.trans b2.symm)
  intro x hx
  rcases List.mem_append.mp hx with hx | hx
  · obtain ⟨i, hi, rfl⟩ := List.mem_map.mp hx
    have := List.mem_range.mp hi
    exact a3 i (by omega)
  · obtain ⟨i, hi, rfl⟩ := List.mem_map.mp hx
    have := List.mem_range.mp hi
    exact b3 _ (by omega)

/-! ### neighbours, and the way toward h -/
def Adj (own : Nat → Nat) (a b : Nat) : Prop := (own a = b ∧ 0 < a) ∨ (own b = a ∧ 0 < b)
theorem Adj.symm {a b : Nat} (h : Adj own a b) : Adj own b a := Or.symm h
theorem Adj.ne (W : WT own) {a b : Nat} (h : Adj own a b) : a ≠ b := by
  rintro rfl
  rcases h with ⟨e, p⟩ | ⟨e, p⟩ <;> (have := W.lt a p; omega)
/-- m stands above h -/
def Abv (own : Nat → Nat) (h m : Nat) : Prop := dep own m < dep own h ∧ at_ own (dep own m) h = m
instance (h m : Nat) : Decidable (Abv own h m) := by unfold Abv; infer_instance
def tw (own : Nat → Nat) (h m : Nat) : Nat := if Abv own h m then at_ own (dep own m + 1) h else own m
theorem tw_abv (W : WT own) {h m : Nat} (q : Abv own h m) : own (tw own h m) = m ∧ 0 < tw own h m ∧ dep own (tw own h m) = dep own m + 1 ∧ tw own h m ≤ h := by
  obtain ⟨q1, q2⟩ := id q
  unfold tw
  rw [if_pos q]
  have d : dep own (at_ own (dep own m + 1) h) = dep own m + 1 := dep_at W (by omega)
  refine ⟨?_, ?_, d, up_le W _ _⟩
  · show up own (dep own h - (dep own m + 1) + 1) h = m
    rw [show dep own h - (dep own m + 1) + 1 = dep own h - dep own m by omega]
    exact q2
  · rcases Nat.eq_zero_or_pos (at_ own (dep own m + 1) h) with e | e
    · rw [e, dep_zero] at d; omega
    · exact e
theorem pos_of_nabv (W : WT own) {h m : Nat} (ne : m ≠ h) (q : ¬ Abv own h m) : 0 < m := by
  rcases Nat.eq_zero_or_pos m with e | e
  · subst e
    exfalso
    apply q
    have h0 : 0 < h := by omega
    have d := dep_pos W h0
    exact ⟨by rw [dep_zero]; omega, up_dep W (by rw [dep_zero]; omega)⟩
  · exact e
theorem tw_adj (W : WT own) {h m : Nat} (ne : m ≠ h) : Adj own (tw own h m) m := by
  by_cases q : Abv own h m
  · obtain ⟨a, b, _⟩ := tw_abv W q
    exact .inl ⟨a, b⟩
  · unfold tw
    rw [if_neg q]
    exact .inr ⟨rfl, pos_of_nabv W ne q⟩
theorem tw_ne (W : WT own) {h m : Nat} (ne : m ≠ h) : tw own h m ≠ m := (tw_adj W ne).ne W
theorem abv_own (W : WT own) {h : Nat} (p : 0 < h) : Abv own h (own h) := by
  have d := dep_pos W p
  refine ⟨by omega, ?_⟩
  show up own (dep own h - dep own (own h)) h = own h
  rw [show dep own h - dep own (own h) = 1 by omega]; rfl
theorem nabv_child (W : WT own) {h m : Nat} (e : own m = h) (p : 0 < m) : ¬ Abv own h m := by
  rintro ⟨q, _⟩
  have d := dep_pos W p
  rw [e] at d
  omega
theorem tw_of_adj (W : WT own) {h m : Nat} (a : Adj own m h) : tw own h m = h := by
  rcases a with ⟨e, p⟩ | ⟨e, p⟩
  · unfold tw
    rw [if_neg (nabv_child W e p), e]
  · have q : Abv own h m := by rw [← e]; exact abv_own W p
    unfold tw
    rw [if_pos q]
    have d := dep_pos W p
    show up own (dep own h - (dep own m + 1)) h = h
    rw [← e, show dep own h - (dep own (own h) + 1) = 0 by omega]; rfl
/-- from a child's view all but the two is seen alike -/
theorem abv_child (W : WT own) {h m x : Nat} (e : own m = h) (p : 0 < m) (nh : x ≠ h) : (Abv own m x ↔ Abv own h x) := by
  have d := dep_pos W p
  rw [e] at d
  have key : dep own x ≤ dep own h → at_ own (dep own x) m = at_ own (dep own x) h := fun l => by
    show up own (dep own m - dep own x) m = up own (dep own h - dep own x) h
    rw [show dep own m - dep own x = dep own h - dep own x + 1 by omega, ← up_own, e]
  constructor
  · rintro ⟨a, b⟩
    have l : dep own x ≤ dep own h := by omega
    rw [key l] at b
    rcases Nat.lt_or_ge (dep own x) (dep own h) with q | q
    · exact ⟨q, b⟩
    · have q' : dep own x = dep own h := by omega
      have : at_ own (dep own h) h = h := by show up own (dep own h - dep own h) h = h; rw [Nat.sub_self]; rfl
      rw [q', this] at b
      exact absurd b.symm nh
  · rintro ⟨a, b⟩
    exact ⟨by omega, by rw [key (by omega)]; exact b⟩
theorem tw_child (W : WT own) {h m x : Nat} (e : own m = h) (p : 0 < m) (nh : x ≠ h) : tw own m x = tw own h x := by
  have q := abv_child W e p nh
  unfold tw
  by_cases a : Abv own h x
  · rw [if_pos a, if_pos (q.mpr a)]
    have d := dep_pos W p
    rw [e] at d
    have l := a.1
    show up own (dep own m - (dep own x + 1)) m = up own (dep own h - (dep own x + 1)) h
    rw [show dep own m - (dep own x + 1) = dep own h - (dep own x + 1) + 1 by omega, ← up_own, e]
  · rw [if_neg a, if_neg fun z => a (q.mp z)]
theorem abv_adj (W : WT own) {h m x : Nat} (a : Adj own m h) (nh : x ≠ h) (nm : x ≠ m) : (Abv own m x ↔ Abv own h x) := by
  rcases a with ⟨e, p⟩ | ⟨e, p⟩
  · exact abv_child W e p nh
  · exact (abv_child W e p nm).symm
theorem tw_adj_eq (W : WT own) {h m x : Nat} (a : Adj own m h) (nh : x ≠ h) (nm : x ≠ m) : tw own m x = tw own h x := by
  rcases a with ⟨e, p⟩ | ⟨e, p⟩
  · exact tw_child W e p nh
  · exact (tw_child W e p nm).symm
theorem Sub.tw {N : Nat → Prop} {t h m : Nat} (W : WT own) (S : Sub own N t) (hh : N h) (hm : N m) (ne : m ≠ h) : N (tw own h m) := by
  obtain ⟨a1, a2, a3⟩ := S.ups W h hh
  obtain ⟨b1, b2, b3⟩ := S.ups W m hm
  by_cases q : Abv own h m
  · unfold MK.tw
    rw [if_pos q]
    exact a3 _ (by have := q.1; omega)
  · unfold MK.tw
    rw [if_neg q]
    refine S.up1 m hm fun e => q ?_
    subst e
    rcases Nat.lt_or_ge (dep own m) (dep own h) with z | z
    · exact ⟨z, a2⟩
    · have e : dep own h = dep own m := by omega
      have : up own (dep own h - dep own m) h = m := a2
      rw [e, Nat.sub_self] at this
      exact absurd this.symm ne
/-- how far the way toward h may still be -/
def rk (own : Nat → Nat) (h m : Nat) : Nat := if m = h then 0 else if Abv own h m then h - m else h + 1 + m
theorem rk_tw (W : WT own) {h m : Nat} (ne : m ≠ h) : rk own h (tw own h m) < rk own h m := by
  unfold rk
  rw [if_neg ne]
  by_cases q : Abv own h m
  · obtain ⟨a, b, c, d⟩ := tw_abv W q
    have l : m < tw own h m := by
      have := W.lt _ b
      omega
    rw [if_pos q]
    by_cases e : tw own h m = h
    · rw [if_pos e]; omega
    · rw [if_neg e]
      have q2 : Abv own h (tw own h m) := by
        have z : tw own h m = at_ own (dep own m + 1) h := if_pos q
        have l2 := q.1
        refine ⟨?_, by rw [c]; exact z.symm⟩
        rcases Nat.lt_or_ge (dep own (tw own h m)) (dep own h) with y | y
        · exact y
        · exfalso
          apply e
          rw [z]
          show up own (dep own h - (dep own m + 1)) h = h
          rw [show dep own h - (dep own m + 1) = 0 by omega]; rfl
      rw [if_pos q2]
      omega
  · have p := pos_of_nabv W ne q
    have l := W.lt m p
    have e0 : tw own h m = own m := if_neg q
    rw [if_neg q, e0]
    split
    · omega
    · split <;> omega
theorem rk_le (h m : Nat) : rk own h m ≤ h + 1 + m := by
  unfold rk
  split
  · omega
  · split <;> omega
/-- i steps toward h -/
def twI (own : Nat → Nat) (h : Nat) : Nat → Nat → Nat
  | 0, m => m
  | i + 1, m => tw own h (twI own h i m)
end

/-! ### notes -/
namespace Mo
/-- the place that m's note tells, with h at hand -/
def pl (M : Mo) (h m : Nat) : Nat := if Abv M.own h m then M.wrote (tw M.own h m) else M.wrote m
theorem val_child {M : Mo} (K : M.Ok) {c : Nat} (p : 0 < c) {q : Nat} (hq : q ≠ M.wrote c) : M.val c q = M.val (M.own c) q := by
  have e : M.wr c q = M.wr (M.own c) q := by
    show MK.wr M.own M.wrote c q = _
    rw [wr_pos K.wt p, if_neg fun z => hq z.symm]; rfl
  unfold val
  rw [e]
theorem val_tw {M : Mo} (K : M.Ok) {h m : Nat} (ne : m ≠ h) {q : Nat} (hq : q ≠ M.pl h m) : M.val m q = M.val (tw M.own h m) q := by
  by_cases a : Abv M.own h m
  · obtain ⟨e, p, _⟩ := tw_abv K.wt a
    unfold pl at hq
    rw [if_pos a] at hq
    rw [val_child K p hq, e]
  · have p := pos_of_nabv K.wt ne a
    unfold pl at hq
    rw [if_neg a] at hq
    rw [val_child K p hq]
    unfold tw
    rw [if_neg a]
theorem pl_lt {M : Mo} (K : M.Ok) {h m : Nat} (hh : h < M.n) (hm : m < M.n) (ne : m ≠ h) : M.pl h m < M.size := by
  unfold pl
  by_cases a : Abv M.own h m
  · obtain ⟨e, p, _, l⟩ := tw_abv K.wt a
    rw [if_pos a]
    exact K.wrote _ p (by omega)
  · rw [if_neg a]
    exact K.wrote _ (pos_of_nabv K.wt ne a) hm
theorem pl_symm {M : Mo} (K : M.Ok) {h m : Nat} (a : Adj M.own m h) : M.pl m h = M.pl h m := by
  have t1 := tw_of_adj K.wt a
  have t2 := tw_of_adj K.wt a.symm
  unfold pl
  rcases a with ⟨e, p⟩ | ⟨e, p⟩
  · rw [if_neg (nabv_child K.wt e p), if_pos (by rw [← e]; exact abv_own K.wt p), t2]
  · rw [if_neg (nabv_child K.wt e p), if_pos (by rw [← e]; exact abv_own K.wt p), t1]
theorem pl_adj {M : Mo} (K : M.Ok) {h m x : Nat} (a : Adj M.own m h) (nh : x ≠ h) (nm : x ≠ m) : M.pl m x = M.pl h x := by
  have q := abv_adj K.wt a nh nm
  have t := tw_adj_eq K.wt a nh nm
  unfold pl
  by_cases z : Abv M.own h x
  · rw [if_pos z, if_pos (q.mpr z), t]
  · rw [if_neg z, if_neg fun y => z (q.mp y)]
theorem put_abv {M : Mo} (K : M.Ok) {m p h x : Nat} {w : Int} (hh : h < M.n) (hx : x < M.n) : (Abv (M.put m p w).own h x ↔ Abv M.own h x) := by
  show Abv (putO M.own M.n m) h x ↔ _
  unfold Abv at_
  rw [putO_dep K.wt hx, putO_dep K.wt hh, putO_up K.wt hh]
theorem put_tw {M : Mo} (K : M.Ok) {m p h x : Nat} {w : Int} (hh : h < M.n) (hx : x < M.n) : tw (M.put m p w).own h x = tw M.own h x := by
  have q := put_abv (m := m) (p := p) (w := w) K hh hx
  unfold tw
  by_cases z : Abv M.own h x
  · rw [if_pos z, if_pos (q.mpr z)]
    show at_ (putO M.own M.n m) (dep (putO M.own M.n m) x + 1) h = _
    unfold at_
    rw [putO_dep K.wt hx, putO_dep K.wt hh, putO_up K.wt hh]
  · rw [if_neg z, if_neg fun y => z (q.mp y)]
    exact putO_ne (by omega)
theorem put_pl {M : Mo} (K : M.Ok) {m p h x : Nat} {w : Int} (hh : h < M.n) (hx : x < M.n) : (M.put m p w).pl h x = M.pl h x := by
  have q := put_abv (m := m) (p := p) (w := w) K hh hx
  have t := put_tw (m := m) (p := p) (w := w) K hh hx
  unfold pl
  by_cases z : Abv M.own h x
  · have l := (tw_abv K.wt z).2.2.2
    rw [if_pos z, if_pos (q.mpr z), t]
    exact if_neg (by omega)
  · rw [if_neg z, if_neg fun y => z (q.mp y)]
    exact if_neg (by omega)
/-- what is at hand and the makes that have notes -/
structure Hand (M : Mo) (N : Nat → Prop) (h : Nat) : Prop where
  sub : ∃ t, Sub M.own N t
  here : N h
  lt : ∀ m, N m → m < M.n
  kept : ∀ k, M.kept k → N k
theorem Hand.at {M : Mo} {N : Nat → Prop} {h g : Nat} (H : M.Hand N h) (hg : N g) : M.Hand N g := ⟨H.sub, hg, H.lt, H.kept⟩
theorem Hand.put {M : Mo} (K : M.Ok) {N : Nat → Prop} {m p : Nat} {w : Int} (H : M.Hand N m) : (M.put m p w).Hand (fun x => N x ∨ x = M.n) M.n := by
  obtain ⟨t, S⟩ := H.sub
  have lm := H.lt m H.here
  refine ⟨⟨t, .inl S.top, fun x hx => ?_, fun x hx ne => ?_⟩, .inr rfl, fun x hx => ?_, fun k hk => ?_⟩
  · rcases hx with hx | rfl
    · exact S.le x hx
    · have := H.lt t S.top; omega
  · rcases hx with hx | rfl
    · left
      show N (putO M.own M.n m x)
      rw [putO_ne (by have := H.lt x hx; omega)]
      exact S.up1 x hx ne
    · left
      show N (putO M.own M.n m M.n)
      rw [putO_at]; exact H.here
  · show x < M.n + 1
    rcases hx with hx | rfl
    · have := H.lt x hx; omega
    · omega
  · by_cases e : k = M.n
    · exact .inr e
    · left
      have h1 : k < M.n + 1 := hk.1
      have h2 : (if k = M.n then false else M.gone k) = false := hk.2
      rw [if_neg e] at h2
      exact H.kept k ⟨by omega, h2⟩
end Mo
end MK

/-! the plain mathematics: what is needed, ways step by step, the search by leaps, lists over range -/
set_option linter.all false
namespace MK
theorem exists_min {P : Nat → Prop} (h : ∃ n, P n) : ∃ n, P n ∧ ∀ m, P m → n ≤ m := by
  obtain ⟨n, hn⟩ := h
  induction n using Nat.strongRecOn with
  | _ n ih =>
    by_cases q : ∃ m, m < n ∧ P m
    · obtain ⟨m, l, pm⟩ := q
      exact ih m l pm
    · refine ⟨n, hn, fun m pm => ?_⟩
      rcases Nat.lt_or_ge m n with l | l
      · exact absurd ⟨m, l, pm⟩ q
      · exact l
section
variable {own : Nat → Nat}
def Need (own : Nat → Nat) (kp : Nat → Prop) (k0 x : Nat) : Prop := ∃ k, kp k ∧ ∃ r, Nca own k0 k r ∧ x ∈ wayL own k0 k r
theorem way_r {a b r : Nat} (h : Nca own a b r) : r ∈ wayL own a b r :=
  List.mem_append_left _ (List.mem_map.mpr ⟨dep own a - dep own r, List.mem_range.mpr (by omega), h.ea⟩)
theorem way_a {a b r : Nat} (h : Nca own a b r) : a ∈ wayL own a b r :=
  List.mem_append_left _ (List.mem_map.mpr ⟨0, List.mem_range.mpr (by omega), rfl⟩)
theorem way_b (W : WT own) {a b r : Nat} (h : Nca own a b r) : b ∈ wayL own a b r := by
  rcases Nat.lt_or_ge (dep own r) (dep own b) with l | l
  · refine List.mem_append_right _ (List.mem_map.mpr ⟨dep own b - dep own r - 1, List.mem_range.mpr (by omega), ?_⟩)
    rw [Nat.sub_self]; rfl
  · have e : dep own b = dep own r := by have := h.db; omega
    have : b = r := by
      have z : up own (dep own b - dep own r) b = r := h.eb
      rw [e, Nat.sub_self] at z
      exact z
    rw [this]
    exact way_r (this ▸ h)
/-- a make on the way is at least as deep as the nearest one, which stands above it -/
theorem way_mem (W : WT own) {a b r x : Nat} (h : Nca own a b r) (hx : x ∈ wayL own a b r) :
    (∃ i, x = up own i a ∧ i ≤ dep own a - dep own r ∧ dep own x = dep own a - i) ∨ (∃ i, x = up own i b ∧ i < dep own b - dep own r ∧ dep own x = dep own b - i) := by
  rcases List.mem_append.mp hx with hx | hx
  · obtain ⟨i, hi, rfl⟩ := List.mem_map.mp hx
    have := List.mem_range.mp hi
    exact .inl ⟨i, rfl, by omega, dep_up W i a⟩
  · obtain ⟨i, hi, rfl⟩ := List.mem_map.mp hx
    have := List.mem_range.mp hi
    exact .inr ⟨_, rfl, by omega, dep_up W _ b⟩
theorem mem_left {a b r : Nat} {i : Nat} (hi : i ≤ dep own a - dep own r) : up own i a ∈ wayL own a b r :=
  List.mem_append_left _ (List.mem_map.mpr ⟨i, List.mem_range.mpr (by omega), rfl⟩)
theorem mem_right {a b r : Nat} {i : Nat} (hi : i < dep own b - dep own r) : up own i b ∈ wayL own a b r :=
  List.mem_append_right _ (List.mem_map.mpr ⟨dep own b - dep own r - 1 - i, List.mem_range.mpr (by omega), by rw [show dep own b - dep own r - 1 - (dep own b - dep own r - 1 - i) = i by omega]⟩)
theorem need_sub (W : WT own) {kp : Nat → Prop} {k0 : Nat} (hne : ∃ k, kp k ∧ ∃ r, Nca own k0 k r) : ∃ t, Sub own (Need own kp k0) t := by
  obtain ⟨d, ⟨k1, r1, p1, n1, e1⟩, mn⟩ := exists_min (P := fun d => ∃ k r, kp k ∧ Nca own k0 k r ∧ dep own r = d) (let ⟨k, a, r, b⟩ := hne; ⟨_, k, r, a, b, rfl⟩)
  have mn' : ∀ k r, kp k → Nca own k0 k r → dep own r1 ≤ dep own r := fun k r a b => by rw [e1]; exact mn _ ⟨k, r, a, b, rfl⟩
  have r1at : up own (dep own k0 - dep own r1) k0 = r1 := n1.ea
  refine ⟨r1, ⟨k1, p1, r1, n1, way_r n1⟩, ?_, ?_⟩
  · rintro x ⟨k, pk, r, hr, hx⟩
    have l := mn' k r pk hr
    have anc : up own (dep own r - dep own r1) r = r1 := by
      have z := at_at W (d := dep own r1) (e := dep own r) (m := k0) l hr.da
      rw [hr.ea] at z
      exact z.trans r1at
    rcases way_mem W hr hx with ⟨i, e, hi, dx⟩ | ⟨i, e, hi, dx⟩
    · have : r1 = up own (dep own k0 - dep own r1 - i) x := by
        have q1 := hr.da
        rw [e, ← up_add, show dep own k0 - dep own r1 - i + i = dep own k0 - dep own r1 by omega, r1at]
      rw [this]; exact up_le W _ _
    · have q1 := hr.db
      have e2 : r = up own (dep own k - dep own r - i) x := by
        rw [e, ← up_add, show dep own k - dep own r - i + i = dep own k - dep own r by omega]
        exact hr.eb.symm
      have : r1 ≤ r := by rw [← anc]; exact up_le W _ _
      have : r ≤ x := by rw [e2]; exact up_le W _ _
      omega
  · rintro x ⟨k, pk, r, hr, hx⟩ ne
    have l := mn' k r pk hr
    rcases way_mem W hr hx with ⟨i, e, hi, dx⟩ | ⟨i, e, hi, dx⟩
    · refine ⟨k1, p1, r1, n1, ?_⟩
      have q1 := hr.da
      have q2 : i ≠ dep own k0 - dep own r1 := fun z => ne (by rw [e, z]; exact r1at)
      rw [e]
      exact mem_left (i := i + 1) (by omega)
    · refine ⟨k, pk, r, hr, ?_⟩
      rw [e]
      rcases Nat.lt_or_ge (i + 1) (dep own k - dep own r) with z | z
      · exact mem_right (i := i + 1) z
      · have : i + 1 = dep own k - dep own r := by omega
        show up own (i + 1) k ∈ _
        rw [this]
        have q : up own (dep own k - dep own r) k = r := hr.eb
        rw [q]
        exact way_r hr
theorem Sub.need {N : Nat → Prop} {t : Nat} {kp : Nat → Prop} {k0 : Nat} (W : WT own) (S : Sub own N t) (h0 : N k0) (hk : ∀ k, kp k → N k) : ∀ x, Need own kp k0 x → N x := by
  rintro x ⟨k, pk, r, hr, hx⟩
  exact S.way W h0 (hk k pk) hr x hx
/-- the i-th make of a way -/
def wv (own : Nat → Nat) (a b r i : Nat) : Nat := if i ≤ dep own a - dep own r then up own i a else up own (dep own b - dep own r - (i - (dep own a - dep own r))) b
theorem wv_zero {a b r : Nat} : wv own a b r 0 = a := by unfold wv; rw [if_pos (Nat.zero_le _)]; rfl
theorem wv_last {a b r : Nat} (h : Nca own a b r) : wv own a b r (dep own a - dep own r + (dep own b - dep own r)) = b := by
  unfold wv
  by_cases e : dep own b - dep own r = 0
  · rw [if_pos (by omega), e]
    have z : up own (dep own b - dep own r) b = r := h.eb
    rw [e] at z
    have z2 : b = r := z
    show up own (dep own a - dep own r + 0) a = b
    rw [Nat.add_zero, z2]
    have := h.ea
    exact this
  · rw [if_neg (by omega), show dep own b - dep own r - (dep own a - dep own r + (dep own b - dep own r) - (dep own a - dep own r)) = 0 by omega]; rfl
theorem wayL_eq {a b r : Nat} : wayL own a b r = (List.range (dep own a - dep own r + 1 + (dep own b - dep own r))).map (wv own a b r) := by
  unfold wayL
  apply List.ext_getElem
  · simp
  · intro i h1 h2
    simp only [List.getElem_map, List.getElem_range]
    by_cases q : i < dep own a - dep own r + 1
    · rw [List.getElem_append_left (by simpa using q)]
      simp only [List.getElem_map, List.getElem_range]
      unfold wv
      rw [if_pos (by omega)]
    · rw [List.getElem_append_right (by simpa using q)]
      simp only [List.getElem_map, List.getElem_range, List.length_map, List.length_range]
      unfold wv
      rw [if_neg (by omega)]
      congr 1
      omega
theorem wv_adj (W : WT own) {a b r i : Nat} (h : Nca own a b r) (hi : i + 1 < dep own a - dep own r + 1 + (dep own b - dep own r)) : Adj own (wv own a b r (i + 1)) (wv own a b r i) := by
  have h1 := h.da
  have h2 := h.db
  unfold wv
  by_cases q : i + 1 ≤ dep own a - dep own r
  · rw [if_pos q, if_pos (by omega)]
    exact .inr ⟨rfl, up_pos W (by omega)⟩
  · rw [if_neg q]
    by_cases q2 : i ≤ dep own a - dep own r
    · have e : i = dep own a - dep own r := by omega
      rw [if_pos q2, e]
      refine .inl ⟨?_, up_pos W (by omega)⟩
      have z1 : up own (dep own a - dep own r) a = r := h.ea
      have z2 : up own (dep own b - dep own r) b = r := h.eb
      rw [z1]
      show up own (dep own b - dep own r - (dep own a - dep own r + 1 - (dep own a - dep own r)) + 1) b = r
      rw [show dep own b - dep own r - (dep own a - dep own r + 1 - (dep own a - dep own r)) + 1 = dep own b - dep own r by omega]
      exact z2
    · rw [if_neg q2]
      refine .inl ⟨?_, up_pos W (by omega)⟩
      show up own (dep own b - dep own r - (i + 1 - (dep own a - dep own r)) + 1) b = _
      congr 1
      omega
theorem wv_mem {a b r i : Nat} (hi : i < dep own a - dep own r + 1 + (dep own b - dep own r)) : wv own a b r i ∈ wayL own a b r := by
  rw [wayL_eq]
  exact List.mem_map.mpr ⟨i, List.mem_range.mpr hi, rfl⟩
/-- one turn of the search by leaps -/
theorem leap_step (W : WT own) {x y p : Nat} (hd : dep own x = dep own y) (h : up own (2 ^ (p + 1)) x = up own (2 ^ (p + 1)) y) :
    (p < llen (dep own x) → up own (2 ^ p) x ≠ up own (2 ^ p) y → dep own (up own (2 ^ p) x) = dep own (up own (2 ^ p) y) ∧ up own (2 ^ p) (up own (2 ^ p) x) = up own (2 ^ p) (up own (2 ^ p) y)) ∧
    (¬ (p < llen (dep own x) ∧ up own (2 ^ p) x ≠ up own (2 ^ p) y) → up own (2 ^ p) x = up own (2 ^ p) y) := by
  have e : (2 : Nat) ^ (p + 1) = 2 ^ p + 2 ^ p := by rw [Nat.pow_succ]; omega
  refine ⟨fun _ _ => ⟨by rw [dep_up W, dep_up W, hd], ?_⟩, fun q => ?_⟩
  · rw [← up_add, ← up_add, ← e]; exact h
  · by_cases l : p < llen (dep own x)
    · by_cases z : up own (2 ^ p) x = up own (2 ^ p) y
      · exact z
      · exact absurd ⟨l, z⟩ q
    · have l2 : dep own x < 2 ^ p := by
        rcases Nat.lt_or_ge (dep own x) (2 ^ p) with a | a
        · exact a
        · exact absurd ((llen_iff _ _).mpr a) l
      rw [up_dep W (Nat.le_of_lt l2), up_dep W (by rw [← hd]; exact Nat.le_of_lt l2)]
end
namespace Mo
theorem Hand.freed {M : Mo} (K : M.Ok) {N : Nat → Prop} {h k0 : Nat} (H : M.Hand N h) (h0 : M.kept k0) (hr : ∀ k, M.kept k → ∃ r, Nca M.own k0 k r) (hh : Need M.own M.kept k0 h) :
    M.Hand (fun x => N x ∧ Need M.own M.kept k0 x) h := by
  obtain ⟨t, S⟩ := H.sub
  have sb := S.need (kp := M.kept) (k0 := k0) K.wt (H.kept k0 h0) H.kept
  obtain ⟨t', S'⟩ := need_sub K.wt (kp := M.kept) (k0 := k0) ⟨k0, h0, hr k0 h0⟩
  refine ⟨⟨t', ⟨sb _ S'.top, S'.top⟩, fun m hm => S'.le m hm.2, fun m hm ne => ?_⟩, ⟨H.here, hh⟩, fun m hm => H.lt m hm.1, fun k hk => ?_⟩
  · have z := S'.up1 m hm.2 ne
    exact ⟨sb _ z, z⟩
  · obtain ⟨r, q⟩ := hr k hk
    exact ⟨H.kept k hk, k, hk, r, q, way_b K.wt q⟩
end Mo
/-! ### lists over range -/
section
variable {α : Type}
theorem rng_at (n : Nat) (f : Nat → α) {i : Nat} (h : i < n) : ((List.range n).map f)[i]? = some (f i) := by
  rw [List.getElem?_map, List.getElem?_range h]; rfl
theorem rng_ext {n : Nat} {f g : Nat → α} (h : ∀ i, i < n → f i = g i) : (List.range n).map f = (List.range n).map g :=
  List.map_congr_left fun i hi => h i (List.mem_range.mp hi)
theorem rng_snoc (n : Nat) (f : Nat → α) : (List.range (n + 1)).map f = (List.range n).map f ++ [f n] := by
  rw [List.range_succ, List.map_append]; rfl
theorem rng_snoc' {n : Nat} {f g : Nat → α} {v : α} (h : ∀ i, i < n → g i = f i) (hv : g n = v) : (List.range n).map f ++ [v] = (List.range (n + 1)).map g := by
  rw [rng_snoc, rng_ext h, hv]
theorem rng_set (n : Nat) (f : Nat → α) (i : Nat) (v : α) : ((List.range n).map f).set i v = (List.range n).map fun j => if j = i then v else f j := by
  apply List.ext_getElem
  · simp
  · intro j h1 h2
    rw [List.getElem_set]
    simp only [List.getElem_map, List.getElem_range]
    by_cases e : i = j
    · rw [if_pos e, if_pos e.symm]
    · rw [if_neg e, if_neg fun z => e z.symm]
theorem rng_rev (n : Nat) (f : Nat → α) : ((List.range n).map f).reverse = (List.range n).map fun i => f (n - 1 - i) := by
  apply List.ext_getElem
  · simp
  · intro i h1 h2
    rw [List.getElem_reverse]
    simp only [List.getElem_map, List.getElem_range, List.length_map, List.length_range]
theorem rng_drop (n k : Nat) (f : Nat → α) : ((List.range n).map f).drop k = (List.range (n - k)).map fun i => f (k + i) := by
  apply List.ext_getElem
  · simp
  · intro i h1 h2
    rw [List.getElem_drop]
    simp only [List.getElem_map, List.getElem_range]
theorem rng_take (n k : Nat) (f : Nat → α) : ((List.range n).map f).take k = (List.range (min k n)).map f := by
  apply List.ext_getElem
  · simp
  · intro i h1 h2
    rw [List.getElem_take]
    simp only [List.getElem_map, List.getElem_range]
theorem rng_len (n : Nat) (f : Nat → α) : ((List.range n).map f).length = n := by simp
theorem rng_last (n : Nat) (f : Nat → α) : ((List.range (n + 1)).map f)[((List.range (n + 1)).map f).length - 1]? = some (f n) := by
  rw [rng_len]; exact rng_at _ _ (by omega)
end
end MK

set_option Elab.async false
set_option linter.all false
set_option maxRecDepth 100000
set_option maxHeartbeats 4000000
/-! words over the layer for this claim: callables with their promise, a call of C.m(self), defs that know that no repr runs, repr of data -/
namespace MK
open PySem PySem.Spec PyProof.Rows L2

/-! ### a def that may be called: its function object, its promise, how it binds -/
structure Fc (P : Program) (w : World) (K : PySem.W.Frag) (mg : Str → Option Value) (base : Heap) (k : Nat) (f : Addr) (ps : List Str) (sp : Sp) : Prop where
  ex : ∃ fd, FnOk P w K mg base CX0 k f fd ps sp ∧ Binds K fd ps []
  kp : PySem.W.keepIn K (.ref f) = true
abbrev DefAt (K : PySem.W.Frag) (x qual : Str) (st : Stmt) (f : Addr) : Prop := ∃ fd, FunD K x qual (defArgs st) (defBody st) (defScope st) [] [] f fd
section
variable {P : Program} {w : World} {K : PySem.W.Frag} {mg : Str → Option Value} {base : Heap}
theorem Fc.imp {k : Nat} {f : Addr} {ps : List Str} {sp sp' : Sp} (F : Fc P w K mg base k f ps sp) (h : ∀ vs H Q E, sp' vs H Q E → sp vs H Q E) : Fc P w K mg base k f ps sp' :=
  let ⟨fd, a, b⟩ := F.ex
  ⟨⟨fd, a.imp h, b⟩, F.kp⟩
/-- a def by its body -/
theorem Fc.mk' {x qual : Str} {st : Stmt} {f : Addr} {N ps : List Str} {k : Nat} {sp : Sp} (D : DefAt K x qual st f) (S : FnScope N ps (defScope st)) (len : ∀ vs H Q E, sp vs H Q E → vs.length = ps.length)
    (hb : ∀ (kV doc pm : Value) (an : Option Addr) (cdv ct : Value) (us : List Value), us.length = ps.length → bindArgs (PySem.W.fnOf x qual (defArgs st) (defBody st) (defScope st) .none kV doc pm an cdv ct) ⟨us, []⟩ = pure (ps.zip us))
    (body : ∀ (cdv : Value) (A : Around) (outer : List Env) (s : Shared) (H : Hp) (vs : List V) (Q : VK) (E : XK), Room k (A.deeper (envOfC qual (defScope st) s.heap.objs.size f cdv)) → sp vs H Q E →
      ∃ t, PSs (cxOf CX0 P w K mg base N qual (defScope st) f cdv A outer s H E).nox (defBody st) t ∧ t { nx := fun _ H' => Q .non H', rt := Q } (start N vs) H) : Fc P w K mg base (k + 1) f ps sp := by
  obtain ⟨fd, F⟩ := D
  refine ⟨⟨fd, F.ok S len fun cdv A outer s H vs Q E hr hs => ?_, F.bindsN hb⟩, F.kp⟩
  obtain ⟨t, h1, h2⟩ := body cdv A outer s H vs Q E hr hs
  exact ⟨t, h1.nox, h2⟩
end
section
variable {X : Cx} {k : Nat} {f C : Addr} {ps : List Str} {sp : Sp} {x m : Str} {p pos apos : Pos} {e o : Expr} {es : List Expr} {ta : TE} {t : TA}
/-- f(e, ..) -/
theorem qc (F : Fc X.prog X.w X.K X.mg X.base k f ps sp) (hr : Room k X.A) (hg : Gl X x) (hm : X.mg x = some (.ref f)) (ha : PA X (e :: es) t)
    (hdb : (x == ("__debug__" : Str)) = false := by decide) (he : starEach (e :: es) X.env = (false, eval e X.env) :: starEach es X.env := by rfl) (hpl : (backTo pos (starEach es X.env)).any (·.1) = false := by rfl) :
    PE X (.Call (.Name x p) (e :: es) [] pos) (tCall sp [] E0 t) := by
  obtain ⟨fd, a, b⟩ := F.ex
  exact pe_call a hr hg hm F.kp b .nil pass0 ha hdb he hpl
/-- o.m(e, ..) -/
theorem qm {pl : Sem Bool} (he : PE X o ta) (c : Cls X.K C) (hm : Meth X.K C m f) (F : Fc X.prog X.w X.K X.mg X.base k f ps sp) (hr : Room k X.A) (ha : PA X (e :: es) t)
    (hst : starEach (e :: es) X.env = (false, eval e X.env) :: starEach es X.env := by rfl) (hpl : (backTo pos (starEach es X.env)).any (·.1) = false := by rfl)
    (ht : eval (.Call (.Attribute o m apos) (e :: es) [] pos) X.env = (do
      let ov ← eval o X.env
      standAt apos.atName
      let (f, first) ← holding [ov] (getMethod ov m pl)
      callWith pos f first (backTo pos (starEach (e :: es) X.env)) (backToKw pos (keywordEach [] X.env))) := by rfl) :
    PE X (.Call (.Attribute o m apos) (e :: es) [] pos) (tMeth C m sp [] E0 ta t) := by
  obtain ⟨fd, a, b⟩ := F.ex
  exact pe_meth he c hm a hr b .nil pass0 ha hst hpl ht
/-- o.m() -/
theorem qm0 {pl : Sem Bool} (he : PE X o ta) (c : Cls X.K C) (hm : Meth X.K C m f) (F : Fc X.prog X.w X.K X.mg X.base k f ps sp) (hr : Room k X.A)
    (ht : eval (.Call (.Attribute o m apos) [] [] pos) X.env = (do
      let ov ← eval o X.env
      standAt apos.atName
      let (f, first) ← holding [ov] (getMethod ov m pl)
      callWith pos f first (backTo pos (starEach [] X.env)) (backToKw pos (keywordEach [] X.env))) := by rfl) :
    PE X (.Call (.Attribute o m apos) [] [] pos) (tMeth C m sp [] E0 ta tNil) := by
  obtain ⟨fd, a, b⟩ := F.ex
  exact pe_meth0 he c hm a hr b .nil pass0 ht
/-- C(e, ..) -/
theorem qk (M : Mk X.K C f) (F : Fc X.prog X.w X.K X.mg X.base k f ps sp) (hr : Room (k + 1) X.A) (hg : Gl X x) (hm : X.mg x = some (.ref C)) (ha : PA X (e :: es) t)
    (hdb : (x == ("__debug__" : Str)) = false := by decide) (he : starEach (e :: es) X.env = (false, eval e X.env) :: starEach es X.env := by rfl) (hpl : (backTo pos (starEach es X.env)).any (·.1) = false := by rfl) :
    PE X (.Call (.Name x p) (e :: es) [] pos) (tMake C sp [] E0 t) := by
  obtain ⟨fd, a, b⟩ := F.ex
  exact pe_make M a hr hg hm b .nil pass0 ha hdb he hpl
/-- C() -/
theorem qk0 (M : Mk X.K C f) (F : Fc X.prog X.w X.K X.mg X.base k f ps sp) (hr : Room (k + 1) X.A) (hg : Gl X x) (hm : X.mg x = some (.ref C))
    (hdb : (x == ("__debug__" : Str)) = false := by decide) : PE X (.Call (.Name x p) [] [] pos) (tMake C sp [] E0 tNil) := by
  obtain ⟨fd, a, b⟩ := F.ex
  exact pe_make0 M a hr hg hm b .nil pass0 hdb
/-- C.m(e, ..), C a class of the module, m a def of it -/
structure ClsFn (K : PySem.W.Frag) (C : Addr) (m : Str) (f : Addr) : Prop where
  rd : ClX.CRead K C (.type "type")
  val : PySem.W.findCls K (.ref C) (.type "type") m = some (.val (.ref f))
theorem qcf {pl : Sem Bool} (c : ClsFn X.K C m f) (F : Fc X.prog X.w X.K X.mg X.base k f ps sp) (hr : Room k X.A) (hg : Gl X x) (hmg : X.mg x = some (.ref C)) (ha : PA X (e :: es) t)
    (hst : starEach (e :: es) X.env = (false, eval e X.env) :: starEach es X.env := by rfl) (hpl : (backTo pos (starEach es X.env)).any (·.1) = false := by rfl)
    (ht : eval (.Call (.Attribute (.Name x p) m apos) (e :: es) [] pos) X.env = (do
      let ov ← eval (.Name x p) X.env
      standAt apos.atName
      let (f, first) ← holding [ov] (getMethod ov m pl)
      callWith pos f first (backTo pos (starEach (e :: es) X.env)) (backToKw pos (keywordEach [] X.env))) := by rfl)
    (hd : (x == ("__debug__" : Str)) = false := by decide) :
    PE X (.Call (.Attribute (.Name x p) m apos) (e :: es) [] pos) (tCall sp [] E0 t) := by
  obtain ⟨fd, a, b⟩ := F.ex
  refine ⟨fun pins s σ H Q I h => ?_⟩
  refine PySem.W.methodCall_KW (pl := pl) (ld_glob I hg hmg ?_ hd) ht
  have cv : ClX.CVal X.K C (.type "type") m (.ref f) (.ref f) := ⟨c.val, rfl⟩
  refine PySem.W.method_cls I.kIn c.rd.ga (ClX.getcval_ok I c.rd cv fun s1 I1 => ?_)
  refine PySem.W.callWith_K (first := []) (h₀ := X.base) I.ok.mod.kin F.kp (thn (ha.run pos pins s1 σ H _ I1 h) fun us s2 ⟨vs, H2, I2, r, q⟩ => ⟨I2.kIn, ?_⟩) hst hpl
  exact run_fn a hr b .nil pass0 I2 r q
end

/-! ### defs that know that no repr runs around them -/
abbrev GA (A : Around) : Prop := A.guards = some []
structure FnG (P : Program) (w : World) (K : PySem.W.Frag) (mg : Str → Option Value) (base : Heap) (k : Nat) (f : Addr) (ps : List Str) (sp : Sp) : Prop where
  run : ∀ (A : Around) (outer : List Env) (s : Shared) (H : Hp) (us : List Value) (vs : List V) (Q : VK), GA A → Room k A → Env0 P w K mg base A outer s H → Vals vs us → sp vs H Q E0 →
    codeAny (model P w) A (.call (.ref f) ⟨us, []⟩) (CR CX0 outer P w H s Q E0) s
  kp : PySem.W.keepIn K (.ref f) = true
section
variable {P : Program} {w : World} {K : PySem.W.Frag} {mg : Str → Option Value} {base : Heap}
theorem FnG.mk' {x qual : Str} {st : Stmt} {f : Addr} {N ps : List Str} {k : Nat} {sp : Sp} (D : DefAt K x qual st f) (S : FnScope N ps (defScope st)) (len : ∀ vs H Q E, sp vs H Q E → vs.length = ps.length)
    (hb : ∀ (kV doc pm : Value) (an : Option Addr) (cdv ct : Value) (us : List Value), us.length = ps.length → bindArgs (PySem.W.fnOf x qual (defArgs st) (defBody st) (defScope st) .none kV doc pm an cdv ct) ⟨us, []⟩ = pure (ps.zip us))
    (body : ∀ (cdv : Value) (A : Around) (outer : List Env) (s : Shared) (H : Hp) (vs : List V) (Q : VK), GA A → Room k (A.deeper (envOfC qual (defScope st) s.heap.objs.size f cdv)) → sp vs H Q E0 →
      ∃ t, PSs (cxOf CX0 P w K mg base N qual (defScope st) f cdv A outer s H E0).nox (defBody st) t ∧ t { nx := fun _ H' => Q .non H', rt := Q } (start N vs) H) : FnG P w K mg base (k + 1) f ps sp := by
  obtain ⟨fd, F⟩ := D
  obtain ⟨oc, od, dV, kV, doc, pm, an, cdv, ct, osl, efd, lk, hcd, dfl, _⟩ := F.ex
  have eD : dV = .none := by
    rcases dfl with ⟨_, z⟩ | ⟨z, _⟩
    · exact z
    · exact absurd rfl z
  subst eD efd
  refine ⟨fun A outer s H us vs Q hg hr e0 r hsp => ?_, F.kp⟩
  have hl : us.length = ps.length := by rw [← r.length]; exact len _ _ _ _ hsp
  have base_sub : ∀ b o, base.get? b = some o → s.heap.get? b = some o := fun b o z => (e0.bs b o z).1
  have kin := e0.mod.kin.keeps base_sub
  have nl := e0.mod.nolimit.keeps base_sub
  have bt : BindsTo s (PySem.W.fnOf x qual (defArgs st) (defBody st) (defScope st) .none kV doc pm an cdv ct) ⟨us, []⟩ (ps.zip us) := .of_eq (hb kV doc pm an cdv ct us hl)
  have vis : ∀ y ∈ ps.zip us, (defScope st).names.lookup y.1 = some .local ∨ ((defScope st).names.lookup y.1 = some .cell ∧ ((cellsFrom (s.heap.objs.size + 1) (defScope st).names []).lookup y.1).isSome = true) := by
    rintro ⟨n, v⟩ hy
    have hn := S.par n (List.of_mem_zip hy).1
    rcases hn with q | q
    · exact .inl q
    · exact .inr ⟨q, PySem.W.cellsFrom_some _ _ _ (.inl q)⟩
  refine codeAny_call_function hr.depth (kin _ _ lk) rfl S.co S.gen rfl (PySem.W.codeRec_of kin hcd) (bt _ _ _ _ ?_)
  refine wpAny_newFunctionEnv_cells S.kind vis fun env eenv s1 inC => ?_
  subst eenv
  refine ⟨nl.keeps inC.toInCall.keep, codeAny_func ?_⟩
  obtain ⟨t, ht0, hq⟩ := body cdv A outer s H vs Q hg (hr.deeper _) hsp
  have ht := ht0.nox
  have J : Inv (cxOf CX0 P w K mg base N qual (defScope st) f cdv A outer s H E0) [] (start N vs) H s1 := inv_start S hr.hd e0 (len _ _ _ _ hsp) r inC
  refine wpAny_mono (ht.run [] s1 (start N vs) H _ J hq) (fun fl s' hs => ?_) fun e s' hs => hs
  match fl, hs with
  | .ret u, ⟨v, σ', H', J', rv, q⟩ => exact ⟨v, H', J'.os, J'.bare, J'.base, J'.hok, rv, q⟩
  | .next, ⟨σ', H', J', q⟩ => exact ⟨V.non, H', J'.os, J'.bare, J'.base, J'.hok, rfl, q⟩
  | .brk, ⟨_, _, _, q⟩ => exact False.elim q
  | .cont, ⟨_, _, _, q⟩ => exact False.elim q
end
section
variable {X : Cx} {k : Nat} {f : Addr} {ps : List Str} {sp : Sp} {x : Str} {p pos : Pos} {e : Expr} {es : List Expr} {t : TA}
/-- f(e, ..), f such a def -/
theorem qcg (F : FnG X.prog X.w X.K X.mg X.base k f ps sp) (hga : GA X.A) (hr : Room k X.A) (hg : Gl X x) (hm : X.mg x = some (.ref f)) (ha : PA X (e :: es) t) (hx : ∀ e s, X.xe e s ↔ False)
    (hdb : (x == ("__debug__" : Str)) = false := by decide) (he : starEach (e :: es) X.env = (false, eval e X.env) :: starEach es X.env := by rfl) (hpl : (backTo pos (starEach es X.env)).any (·.1) = false := by rfl) :
    PE X (.Call (.Name x p) (e :: es) [] pos) (tCall sp [] E0 t) := by
  refine ⟨fun pins s σ H Q I h => ?_⟩
  refine wpAny_Call_Name_kw (ld_glob I hg hm ?_ hdb)
  refine PySem.W.callWith_K (h₀ := X.base) I.ok.mod.kin F.kp (thn (ha.run pos pins s σ H _ I h) fun us s1 ⟨vs, H1, I1, r, q⟩ => ⟨I1.kIn, ?_⟩) he hpl
  have q' : sp vs H1 Q E0 := by
    have z : sp (vs ++ []) H1 Q E0 := q
    rw [List.append_nil] at z
    exact z
  refine wpAny_call (codeAny_mono (F.run X.A X.stack s1 H1 us vs Q hga hr I1.env0 r q') fun res s' hq => ?_)
  match res, hq with
  | .ok (.ret u), hq => exact I1.after hq
  | .ok .next, hq => exact False.elim hq
  | .ok .brk, hq => exact False.elim hq
  | .ok .cont, hq => exact False.elim hq
  | .error e, hq => exact False.elim hq
/-- repr of data -/
def rRepr (K : PySem.W.Frag) : List V → Hp → VK → Prop := fun xs H Q => ∃ (a : Addr) (d : PyData), xs = [.ref a] ∧ Dp K H (.ref a) d ∧ d.showable = true ∧ d.hasDict = false ∧ d.depth ≤ 8 ∧ d.shown.length ≤ sizeLine ∧ Q (.str d.shown) H
theorem call_repr (hga : GA X.A) (hu : X.A.units + 64 < cLine) : CallR X (.builtin "repr") (rRepr X.K) := by
  intro pins s σ H vs us Q I r h
  obtain ⟨a, d, rfl, hd, hs, hn, hdp, hz, q⟩ := h
  obtain ⟨u, rfl, ru⟩ := vals1 r
  obtain rfl : u = Value.ref a := ru
  obtain ⟨as, rd⟩ := Dp.reads I d (.ref a) (.ref a) hd rfl
  refine repr_of_reads' rd hs (fun z => by rw [hn] at z; cases z) hga (by omega) (fun _ _ e => e) (fun h' t tk hk => ?_) hz
  exact ⟨.str d.shown, H, I.kept hk, ⟨t, rfl⟩, q⟩
end
end MK

set_option Elab.async false
set_option linter.all false
set_option maxRecDepth 100000
set_option maxHeartbeats 4000000
/-! dicts whose keys are pairs of ints: a copy, pop, sorted -/
namespace MK
open PySem PySem.Spec PyProof.Rows L2

/-! ### pairs below 16 and below 64 hash apart -/
def hc (c : Nat) : Nat := ((reduceHash (Builtin.Tuple.tupleHashOf [hashInt ((c / 64 : Nat) : Int), hashInt ((c % 64 : Nat) : Int)])) + 9223372036854775808).toNat % 6662
def goB (f : Nat → Nat) : Nat → Nat → Bool
  | 0, _ => true
  | n + 1, acc => !(acc.testBit (f n)) && goB f n (acc ||| 2 ^ f n)
theorem goB_ok (f : Nat → Nat) : ∀ (n acc : Nat), goB f n acc = true → (∀ i, i < n → acc.testBit (f i) = false) ∧ ∀ i j, i < n → j < n → f i = f j → i = j
  | 0, _, _ => ⟨fun _ h => absurd h (by omega), fun _ _ h => absurd h (by omega)⟩
  | n + 1, acc, h => by
    have h' : (!(acc.testBit (f n)) && goB f n (acc ||| 2 ^ f n)) = true := h
    rw [Bool.and_eq_true] at h'
    obtain ⟨h1, h2⟩ := h'
    have h1' : acc.testBit (f n) = false := by simpa using h1
    obtain ⟨a, b⟩ := goB_ok f n _ h2
    have key : ∀ i, i < n → acc.testBit (f i) = false ∧ f i ≠ f n := fun i hi => by
      have z := a i hi
      rw [Nat.testBit_or, Bool.or_eq_false_iff] at z
      refine ⟨z.1, fun e => ?_⟩
      have z2 := z.2
      rw [e, Nat.testBit_two_pow_self] at z2
      cases z2
    refine ⟨fun i hi => ?_, fun i j hi hj e => ?_⟩
    · rcases Nat.lt_or_ge i n with q | q
      · exact (key i q).1
      · rw [show i = n by omega]; exact h1'
    · rcases Nat.lt_or_ge i n with q | q
      · rcases Nat.lt_or_ge j n with r | r
        · exact b i j q r e
        · rw [show j = n by omega] at e
          exact absurd e (key i q).2
      · rcases Nat.lt_or_ge j n with r | r
        · rw [show i = n by omega] at e
          exact absurd e.symm (key j r).2
        · omega
theorem hc_check : goB hc 1024 0 = true := by decide +kernel
/-- a key of our dicts -/
def PairK (k : List Key) : Prop := ∃ p m : Nat, k = [Sum.inl (p : Int), Sum.inl (m : Int)] ∧ p < 16 ∧ m < 64
theorem hash_inj {P : Program} {w : World} {k j : List Key} (hk : PairK k) (hj : PairK j) (e : (tupleKind (mixKind P w)).hash k = (tupleKind (mixKind P w)).hash j) : k = j := by
  obtain ⟨p, m, rfl, hp, hm⟩ := hk
  obtain ⟨q, n, rfl, hq, hn⟩ := hj
  have e' : reduceHash (Builtin.Tuple.tupleHashOf [hashInt (p : Int), hashInt (m : Int)]) = reduceHash (Builtin.Tuple.tupleHashOf [hashInt (q : Int), hashInt (n : Int)]) := e
  have c1 : hc (p * 64 + m) = hc (q * 64 + n) := by
    unfold hc
    rw [show (p * 64 + m) / 64 = p by omega, show (p * 64 + m) % 64 = m by omega, show (q * 64 + n) / 64 = q by omega, show (q * 64 + n) % 64 = n by omega, e']
  have := (goB_ok hc 1024 0 hc_check).2 (p * 64 + m) (q * 64 + n) (by omega) (by omega) c1
  have : p = q ∧ m = n := by omega
  rw [this.1, this.2]
theorem nodup_map_on {α β : Type} {f : α → β} : ∀ {l : List α}, (∀ x ∈ l, ∀ y ∈ l, f x = f y → x = y) → l.Nodup → (l.map f).Nodup
  | [], _, _ => List.nodup_nil
  | x :: l, h, n => by
    rw [List.nodup_cons] at n
    rw [List.map_cons, List.nodup_cons]
    refine ⟨fun z => ?_, nodup_map_on (fun a ha b hb => h a (List.mem_cons_of_mem _ ha) b (List.mem_cons_of_mem _ hb)) n.2⟩
    obtain ⟨y, hy, e⟩ := List.mem_map.mp z
    have := h y (List.mem_cons_of_mem _ hy) x (List.mem_cons_self ..) e
    exact n.1 (this ▸ hy)
section
variable {X : Cx} {H : Hp}
theorem KT_keys : ∀ {kvs : List (List Key × V)} {xs : List (List Key × Addr × Value)}, KT H kvs xs → kvs.map (·.1) = xs.map (·.1)
  | _, _, .nil => rfl
  | _, _, .cons h t => by rw [List.map_cons, List.map_cons, h.1, KT_keys t]
theorem KT_at : ∀ {kvs : List (List Key × V)} {xs : List (List Key × Addr × Value)}, KT H kvs xs → Paired (fun (p : List Key × V) (a : Addr) => H a = some (.tup (p.1.map kV))) kvs (xs.map (·.2.1))
  | _, _, .nil => .nil
  | _, _, .cons h t => .cons (by rw [h.1]; rw [h.1] at h; exact h.2.1) (KT_at t)
/-- dict(d), d such a dict -/
def rDictT : List V → Hp → VK → Prop := fun xs H Q => ∃ (a : Addr) (kvs : List (List Key × V)), xs = [.ref a] ∧ H a = some (.dT kvs) ∧ (∀ p ∈ kvs, PairK p.1) ∧ ∀ p, H p = none → Q (.ref p) (upd H p (.dT kvs))
theorem call_dictT (hu : X.A.units + 8 < cLine) : CallR X (.type "dict") rDictT := by
  intro pins s σ H vs us Q I r h
  obtain ⟨a, kvs, rfl, ha, hp, q⟩ := h
  obtain ⟨u, rfl, ru⟩ := vals1 r
  obtain rfl : u = Value.ref a := ru
  obtain ⟨z, lo, xs, rel, dd⟩ := dt_of I.hok ha
  have hz : xs.length ≤ sizeLine := by rw [← Paired.length rel]; exact z
  have hx : ∀ x ∈ xs, PairK x.1 ∧ H x.2.1 = some (.tup (x.1.map kV)) := by
    intro x hx
    have go : ∀ {kvs : List (List Key × V)} {xs : List (List Key × Addr × Value)}, KT H kvs xs → (∀ p ∈ kvs, PairK p.1) → ∀ x ∈ xs, PairK x.1 ∧ H x.2.1 = some (.tup (x.1.map kV)) := by
      intro kvs xs r
      induction r with
      | nil => intro _ x hx; cases hx
      | @cons p q ps qs f t ih =>
        intro hp x hx
        rcases List.mem_cons.mp hx with e | hx
        · subst e
          exact ⟨by rw [← f.1]; exact hp p (List.mem_cons_self ..), by rw [← f.1]; exact f.2.1⟩
        · exact ih (fun p hp' => hp p (List.mem_cons_of_mem _ hp')) x hx
    exact go rel hp x hx
  have nd : (xs.map (·.1)).Nodup := let ⟨_, _, _, _, _, _, _, _, n⟩ := dd; n
  have apart : (xs.map fun x => (tupleKind (mixKind X.prog X.w)).hash x.1).Nodup := by
    have e : (xs.map fun x => (tupleKind (mixKind X.prog X.w)).hash x.1) = (xs.map (·.1)).map (tupleKind (mixKind X.prog X.w)).hash := by rw [List.map_map]; rfl
    rw [e]
    refine nodup_map_on (fun k hk j hj e => ?_) nd
    obtain ⟨x, mx, rfl⟩ := List.mem_map.mp hk
    obtain ⟨y, my, rfl⟩ := List.mem_map.mp hj
    exact hash_inj (hx x mx).1 (hx y my).1 e
  have big : s.heap.objs.size ≠ sysModules := Nat.ne_of_gt I.big
  refine callType_codes (Q₁ := fun obj s₁ => obj = .ref s.heap.objs.size ∧ s₁ = { s with heap := s.heap.push { cls := .type "dict", data := .dict #[] } }) F.kt_called_dict (F.kt_typeCall_dict_1 _) F.entry_dict_init (kt_code_dict_new _ ⟨rfl, rfl⟩) ?_
  rintro obj s₁ ⟨rfl, rfl⟩
  have hdo : s.heap.objs.size ≠ a := fun e => by
    have := I.hok.lt ha
    rw [e] at this
    exact absurd this (Nat.lt_irrefl _)
  have ho' : (s.heap.push { cls := .type "dict", data := .dict #[] }).DictOfH (tupleKind (mixKind X.prog X.w)) a xs := by
    obtain ⟨o, es, ep, h1, h2, h3, h4, h5, h6⟩ := dd
    refine ⟨o, es, ep, Heap.get?_push_of_some _ h1, h2, h3, h4, fun x mx => ?_, h6⟩
    obtain ⟨ob, its, n, k1, k2, k3, k4⟩ := h5 x mx
    exact ⟨ob, its, n, Heap.get?_push_of_some _ k1, k2, k3, k4⟩
  have hnew : (s.heap.push { cls := .type "dict", data := .dict #[] }).DictOfH (tupleKind (mixKind X.prog X.w)) s.heap.objs.size ([] : List (List Key × Addr × Value)) :=
    ⟨_, #[], _, Heap.get?_push_size _ rfl, ⟨rfl, rfl, rfl⟩, rfl, rfl, (fun x mx => nomatch mx), List.nodup_nil⟩
  refine ⟨hnew.typeIs, F.args_dict_init_2 _ _, ?_⟩
  unfold Builtin.«dict.__init__»
  refine wpAny_bind ?_
  unfold Builtin.Dict.selfAndRest
  refine wpAny_bind (wpAny_notOrdered_dict hnew.typeIs ?_)
  show wpAny _ _ (pure (s.heap.objs.size, [Value.ref a])) _ _ _
  refine wpAny_pure ?_
  have ty : ∀ x ∈ xs, Shared.TypeIs { s with heap := s.heap.push { cls := .type "dict", data := .dict #[] } } (.ref x.2.1) "tuple" := fun x mx => by
    obtain ⟨_, its, _, o, k1, k2, _⟩ := (show ObjOk X.prog X.w H s.heap x.2.1 (.tup (x.1.map kV)) from I.hok _ _ (hx x mx).2)
    exact ⟨o, Heap.get?_push_of_some _ k1, k2⟩
  show wpAny _ _ (Builtin.Dict.updateFrom "dict.__init__" s.heap.objs.size (.ref a) [] .none) _ _ _
  refine updateFrom_dictH (A := X.A.in1) (knd := tupleKind (mixKind X.prog X.w)) (kvs := []) (more := xs) Value.none (show X.A.units + 1 + 1 < cLine by omega) hdo lo hnew ho' (.inr ⟨ty, apart⟩) (by simpa using hz) (fun h' hd' _ hs' => ?_)
  rw [storedAllH_nil_of_nodup xs nd] at hd'
  obtain ⟨o, es, ep, k1, k2, k3, k4, _, k6⟩ := hd'
  have fresh : H s.heap.objs.size = none := I.hok.fresh (Nat.le_refl _)
  refine ⟨rfl, .ref s.heap.objs.size, upd H s.heap.objs.size (.dT kvs), I.laid (t' := s.toks) (fun b u e => (hs'.2 b (Nat.ne_of_lt (Heap.lt_size e))).trans (Heap.get?_push_of_some _ e)) (Nat.le_refl _) ?_, rfl, q _ fresh⟩
  exact ⟨z, beq_eq_false_iff_ne.mpr big, xs, rel.keeps (fun c ys ec => by rw [upd_ne (ne_of_none ec fresh)]; exact ec), o, es, ep, k1, k2, k3, k4, k6⟩
/-- d.pop(k), the key there -/
def rPopT1 : V → List V → Hp → VK → Prop := fun x xs H Q => ∃ (a : Addr) (kvs : List (List Key × V)) (k : List Key) (b : Addr) (v : V), x = .ref a ∧ xs = [.ref b] ∧ H a = some (.dT kvs) ∧ H b = some (.tup (k.map kV)) ∧
  valV kvs k = some v ∧ Q v (upd H a (.dT (dropK kvs k)))
theorem mt_popT1 (hu : X.A.units + 8 < cLine) : MtR X "dict.pop" rPopT1 := by
  intro pins s σ H x xs v us Q I rx rxs h
  obtain ⟨a, kvs, k, b, v0, rfl, rfl, ha, hb, hv, q⟩ := h
  cases rx
  obtain ⟨u1, rfl, r1⟩ := vals1 rxs
  cases r1
  obtain ⟨z, hd, ys, rel, dd⟩ := dt_of I.hok ha
  have hz : ys.length ≤ sizeLine := by rw [← Paired.length rel]; exact z
  obtain ⟨p, hp, rp⟩ : ∃ p, atKey ys k = some p ∧ RelV v0 p.2 := by
    have r := rel.val k
    rw [hv] at r
    cases e : atKey ys k with
    | none =>
      rw [e] at r
      exact (show False from r).elim
    | some p =>
      rw [e] at r
      exact ⟨p, rfl, r⟩
  refine call_pop_heap (knd := tupleKind (mixKind X.prog X.w)) (more := []) (.inl rfl) (PySem.F.args_dict_pop_2 _ _) (show X.A.units + 1 < cLine by omega) (key_of I.hok hb) hd dd hp (fun h' dd' hs => ?_) hz
  obtain ⟨o, es, ep, k1, k2, k3, k4, _, k6⟩ := dd'
  have KTw : ∀ {kvs : List (List Key × V)} {xs : List (List Key × Addr × Value)}, KT H kvs xs → KT H (dropK kvs k) (withoutH xs k) := fun r => DX.KT_drop k r
  refine ⟨v0, upd H a (.dT (dropK kvs k)), ?_, rp, q⟩
  refine d_write I (by rw [ha]; exact True.intro) hs ⟨o, k1⟩ ⟨Nat.le_trans (dropK_le kvs k) z, hd, _, (KTw rel).keeps (fun c zs ec => ?_), o, es, ep, k1, k2, k3, k4, k6⟩
  rw [upd_ne (ne_of ec ha (fun z => nomatch z))]; exact ec
/-- sorted(d): the keys' tuples in some order -/
def rSortedT : List V → Hp → VK → Prop := fun vs H Q => ∃ (a : Addr) (kvs : List (List Key × V)), vs = [.ref a] ∧ H a = some (.dT kvs) ∧ (∀ p ∈ kvs, PairK p.1) ∧
  ∀ (as ts : List Addr) (p : Addr), Paired (fun (q : List Key × V) (b : Addr) => H b = some (.tup (q.1.map kV))) kvs as → ts.Perm as → H p = none → Q (.ref p) (upd H p (.lst (ts.map V.ref)))
def backA : Value → Addr
  | .ref a => a
  | _ => 0
def pairOf (h : Heap) (v : Value) : Int × Int := match h.get? (backA v) with
  | some ⟨_, _, .seq its _, _⟩ => (match its.toList with
    | [.int i _, .int j _] => (i, j)
    | _ => (0, 0))
  | _ => (0, 0)
theorem call_sortedT (hcalm : X.calm = true) : CallR X (.builtin "sorted") rSortedT := by
  intro pins s σ H xs us Q I r q
  obtain ⟨a, kvs, rfl, ha, hp, q⟩ := q
  obtain ⟨u, rfl, ru⟩ := vals1 r
  obtain rfl : u = Value.ref a := ru
  obtain ⟨z, lo, ys, rel, dd⟩ := dt_of I.hok ha
  have hz : ys.length ≤ sizeLine := by rw [← Paired.length rel]; exact z
  obtain ⟨o, es, ep, k1, k2, k3, k4, k5, k6⟩ := dd
  have esz : es.size = ys.length := by
    have e := congrArg List.length k4
    rw [List.length_map, Array.length_toList] at e
    exact e
  have raw : s.heap.DictRaw a es ep := ⟨o, k1, k2, k3⟩
  refine Calls.call_function_entry PyProof.Rows.kind_sorted PyProof.Rows.plain_sorted PyProof.Rows.entry_sorted (PyProof.Rows.args_sorted1 _) ?_
  unfold Builtin.«sorted»
  refine wpAny_bind (m := checkCount "sorted" 1 1 _) (wpAny_pure ?_)
  refine wpAny_bind (PySem.W.kdu_collect (A := X.A.in1) (KdlSrc.rawDict (es := es) (ep := ep) lo) (I.ok.hd hcalm) raw (by rw [esz]; exact hz) fun h' tk acc hk hacc => ?_)
  have eacc : acc.toList = ys.map fun y => Value.ref y.2.1 := by
    apply List.ext_getElem?
    intro j
    rw [List.getElem?_map]
    cases e : acc.toList[j]? with
    | none =>
      have l := List.getElem?_eq_none_iff.mp e
      have l2 := hacc.1
      rw [Array.length_toList] at l
      rw [List.getElem?_eq_none (by omega)]; rfl
    | some v =>
      obtain ⟨hi, ev⟩ := hacc.2 j v (by rw [← Array.getElem?_toList]; exact e)
      have e2 : es.toList[j]? = some es[j] := by rw [Array.getElem?_toList]; exact Array.getElem?_eq_getElem hi
      rw [k4, List.getElem?_map] at e2
      cases e3 : ys[j]? with
      | none => rw [e3] at e2; cases e2
      | some y =>
        rw [e3] at e2
        have e4 : entryOfKey (tupleKind (mixKind X.prog X.w)) y = es[j] := Option.some.inj e2
        rw [ev, ← e4]; rfl
  have hal : acc.toList.length = ys.length := by rw [eacc, List.length_map]
  have I1 : Inv X pins σ H { s with heap := h', toks := tk } := I.kept hk
  refine wpAny_bind (wpAny_newList ?_ (by rw [hal]; exact hz))
  have hoL : (h'.push (seqObj "list" acc.toList.toArray 0)).get? h'.objs.size = some (seqObj "list" acc.toList.toArray 0) := Heap.get?_push_size _ rfl
  show wpAny _ _ _ _ _ { s with heap := h'.push (seqObj "list" acc.toList.toArray 0), toks := tk }
  have hpair : ∀ v ∈ acc.toList, Srt.IsPair (h'.push (seqObj "list" acc.toList.toArray 0)) v (pairOf h' v).1 (pairOf h' v).2 := by
    intro v hv
    rw [eacc] at hv
    obtain ⟨y, my, rfl⟩ := List.mem_map.mp hv
    have go : ∀ {kvs : List (List Key × V)} {ys : List (List Key × Addr × Value)}, KT H kvs ys → (∀ p ∈ kvs, PairK p.1) → ∀ y ∈ ys, PairK y.1 ∧ H y.2.1 = some (.tup (y.1.map kV)) := by
      intro kvs ys r
      induction r with
      | nil => intro _ y hy; cases hy
      | @cons p q ps qs f t ih =>
        intro hp y hy
        rcases List.mem_cons.mp hy with e | hy
        · subst e
          exact ⟨by rw [← f.1]; exact hp p (List.mem_cons_self ..), by rw [← f.1]; exact f.2.1⟩
        · exact ih (fun p hp' => hp p (List.mem_cons_of_mem _ hp')) y hy
    obtain ⟨⟨p, m, ek, _, _⟩, hy⟩ := go rel hp y my
    rw [ek] at hy
    obtain ⟨_, its, rv, ob, g1, g2, n, g3⟩ := (show ObjOk X.prog X.w H h' y.2.1 (.tup ([Sum.inl (p : Int), Sum.inl (m : Int)].map kV)) from I1.hok _ _ hy)
    obtain ⟨u1, u2, rfl, r1, r2⟩ := vals2 rv
    obtain ⟨t1, rfl⟩ := r1
    obtain ⟨t2, rfl⟩ := r2
    have ep : pairOf h' (.ref y.2.1) = ((p : Int), (m : Int)) := by
      obtain ⟨oc, od, dt, osl⟩ := ob
      have g3' : dt = .seq #[Value.int (p : Int) t1, Value.int (m : Int) t2] n := g3
      subst g3'
      unfold pairOf
      show (match h'.get? y.2.1 with | some ⟨_, _, .seq its _, _⟩ => (match its.toList with | [.int i _, .int j _] => (i, j) | _ => (0, 0)) | _ => (0, 0)) = _
      rw [g1]
    rw [ep]
    exact ⟨y.2.1, ob, t1, t2, n, rfl, Heap.get?_push_of_some _ g1, g2, g3⟩
  refine wpAny_bind (wpAny_holding (wpAny_call_entry PyProof.Rows.slot_list_sort ⟨_, hoL, rfl⟩ PyProof.Rows.entry_list_sort
    (SrtO.list_sort_ord (s := { s with heap := h'.push (seqObj "list" acc.toList.toArray 0), toks := tk }) (SrtO.swo_lex (pairOf h')) hoL (by rw [hal]; exact hz) (fun h2 => SrtO.pairs_sortableO (by omega) hpair fun o e => ?_) fun out h1 h2 => ⟨_, rfl, ?_⟩)
    (PyProof.Rows.args_list_sort _)))
  · have e' : some o = some (seqObj "list" acc.toList.toArray 0) := e.symm.trans hoL
    cases e'
    intro c
    exact absurd (Value.type.inj c) (by decide)
  · have pm := h2.perm
    have refs : ∀ v ∈ out, ∃ b, v = Value.ref b := fun v hv => by
      have := pm.mem_iff.mp hv
      rw [eacc] at this
      obtain ⟨y, _, e⟩ := List.mem_map.mp this
      exact ⟨_, e.symm⟩
    have eo : out = (out.map backA).map Value.ref := by
      rw [List.map_map]
      refine (List.map_id' out).symm.trans (List.map_congr_left fun v hv => ?_)
      obtain ⟨b, rfl⟩ := refs v hv
      rfl
    have pa : (out.map backA).Perm (ys.map (·.2.1)) := by
      have := pm.map backA
      rw [eacc, List.map_map] at this
      exact this
    obtain ⟨e', he'⟩ := PyProof.Rows.sortedHeap_at (vs := acc.toList) (out := out.toArray) hoL
    have hlen : ((out.map backA).map V.ref).length ≤ sizeLine := by
      rw [List.length_map, pa.length_eq, List.length_map]; exact hz
    have vv : ∀ l : List Addr, Vals (l.map V.ref) (l.map Value.ref) := fun l => by
      induction l with
      | nil => exact .nil
      | cons x l ih => exact .cons rfl ih
    refine wpAny_pure ⟨_, rfl, .ref h'.objs.size, upd H h'.objs.size (.lst ((out.map backA).map V.ref)), I1.laid (t' := tk) (fun b u e => ?_) (Nat.le_refl _)
      (show ObjOk X.prog X.w _ _ _ (.lst ((out.map backA).map V.ref)) from ⟨hlen, out, e', by have w := vv (out.map backA); rw [← eo] at w; exact w, he'⟩), rfl, q _ _ _ (KT_at rel) pa (I1.hok.fresh (Nat.le_refl _))⟩
    have hb : b < h'.objs.size := Heap.lt_size e
    rw [PyProof.Rows.sortedHeap_old (Nat.ne_of_lt hb) (by rw [size_push']; exact Nat.lt_succ_of_lt hb)]
    exact Heap.get?_push_of_some _ e
end
end MK

set_option Elab.async false
set_option linter.all false
set_option maxRecDepth 100000
set_option maxHeartbeats 4000000
/-! printed by gen_tx.py: the text by places; the facts of the module that the walks lean on -/
namespace MK
open PySem PySem.Spec PyProof.Rows L2
abbrev prg : Program := PySem.Challenge.pw_makeskept_k31_whole_turned_as_plain
def top (i : Nat) : Stmt := prg.main.body.getD i (.Pass ⟨0, 0, 0, 0⟩)
def nm : Bool → Str
  | false => "Plain"
  | true => "Turned"
abbrev CR (K : PySem.W.Frag) (b : Bool) : Addr := He.ga K (nm b)
abbrev CT (K : PySem.W.Frag) : Addr := He.ga K "LeapTree"
abbrev aR (K : PySem.W.Frag) (b : Bool) (m : Str) : Addr := He.ma K (CR K b) m
abbrev aT (K : PySem.W.Frag) (m : Str) : Addr := He.ma K (CT K) m
abbrev aM (K : PySem.W.Frag) (m : Str) : Addr := He.ma K (He.ga K "MakeTree") m
abbrev aF (K : PySem.W.Frag) (x : Str) : Addr := He.ga K x
abbrev s_LeapTree_init : Stmt := inClass (top 24) 0
theorem c_LeapTree_init : FnScope ["self"] ["self"] (defScope s_LeapTree_init) := ⟨rfl, rfl, rfl, by decide +kernel, rfl, by decide +kernel, by decide +kernel⟩
abbrev s_MakeTree_many : Stmt := inClass (top 22) 1
theorem c_MakeTree_many : FnScope ["self"] ["self"] (defScope s_MakeTree_many) := ⟨rfl, rfl, rfl, by decide +kernel, rfl, by decide +kernel, by decide +kernel⟩
abbrev s_MakeTree_need_make : Stmt := inClass (top 22) 2
theorem c_MakeTree_need_make : FnScope ["self", "make"] ["self", "make"] (defScope s_MakeTree_need_make) := ⟨rfl, rfl, rfl, by decide +kernel, rfl, by decide +kernel, by decide +kernel⟩
abbrev s_MakeTree_need_steps : Stmt := inClass (top 22) 3
theorem c_MakeTree_need_steps : FnScope ["self", "make", "steps"] ["self", "make", "steps"] (defScope s_MakeTree_need_steps) := ⟨rfl, rfl, rfl, by decide +kernel, rfl, by decide +kernel, by decide +kernel⟩
abbrev s_MakeTree_grow : Stmt := inClass (top 22) 4
theorem c_MakeTree_grow : FnScope ["self", "make"] ["self", "make"] (defScope s_MakeTree_grow) := ⟨rfl, rfl, rfl, by decide +kernel, rfl, by decide +kernel, by decide +kernel⟩
abbrev s_LeapTree_lay : Stmt := inClass (top 24) 1
theorem c_LeapTree_lay : FnScope ["self", "make", "found"] ["self", "make"] (defScope s_LeapTree_lay) := ⟨rfl, rfl, rfl, by decide +kernel, rfl, by decide +kernel, by decide +kernel⟩
abbrev s_MakeTree_own : Stmt := inClass (top 22) 6
theorem c_MakeTree_own : FnScope ["self", "make"] ["self", "make"] (defScope s_MakeTree_own) := ⟨rfl, rfl, rfl, by decide +kernel, rfl, by decide +kernel, by decide +kernel⟩
abbrev s_MakeTree_depth : Stmt := inClass (top 22) 7
theorem c_MakeTree_depth : FnScope ["self", "make"] ["self", "make"] (defScope s_MakeTree_depth) := ⟨rfl, rfl, rfl, by decide +kernel, rfl, by decide +kernel, by decide +kernel⟩
abbrev s_MakeTree_line : Stmt := inClass (top 22) 9
theorem c_MakeTree_line : FnScope ["self", "make", "found"] ["self", "make"] (defScope s_MakeTree_line) := ⟨rfl, rfl, rfl, by decide +kernel, rfl, by decide +kernel, by decide +kernel⟩
abbrev s_MakeTree_way : Stmt := inClass (top 22) 12
theorem c_MakeTree_way : FnScope ["self", "one", "other", "nearest", "up"] ["self", "one", "other"] (defScope s_MakeTree_way) := ⟨rfl, rfl, rfl, by decide +kernel, rfl, by decide +kernel, by decide +kernel⟩
abbrev s_LeapTree_leap_way : Stmt := inClass (top 24) 3
theorem c_LeapTree_leap_way : FnScope ["self", "make", "steps", "found", "power"] ["self", "make", "steps"] (defScope s_LeapTree_leap_way) := ⟨rfl, rfl, rfl, by decide +kernel, rfl, by decide +kernel, by decide +kernel⟩
abbrev s_LeapTree_up : Stmt := inClass (top 24) 4
theorem c_LeapTree_up : FnScope ["self", "make", "steps"] ["self", "make", "steps"] (defScope s_LeapTree_up) := ⟨rfl, rfl, rfl, by decide +kernel, rfl, by decide +kernel, by decide +kernel⟩
abbrev s_LeapTree_nearest : Stmt := inClass (top 24) 5
theorem c_LeapTree_nearest : FnScope ["self", "one", "other", "power", "mine", "theirs"] ["self", "one", "other"] (defScope s_LeapTree_nearest) := ⟨rfl, rfl, rfl, by decide +kernel, rfl, by decide +kernel, by decide +kernel⟩
abbrev s_LeapTree_copied : Stmt := inClass (top 24) 6
theorem c_LeapTree_copied : FnScope ["self", "found", "leaps"] ["self"] (defScope s_LeapTree_copied) := ⟨rfl, rfl, rfl, by decide +kernel, rfl, by decide +kernel, by decide +kernel⟩
abbrev s_MakeTree_init : Stmt := inClass (top 22) 0
theorem c_MakeTree_init : FnScope ["self"] ["self"] (defScope s_MakeTree_init) := ⟨rfl, rfl, rfl, by decide +kernel, rfl, by decide +kernel, by decide +kernel⟩
abbrev s_Rows_init : Stmt := inClass (top 26) 0
theorem c_Rows_init : FnScope ["self", "worths"] ["self", "worths"] (defScope s_Rows_init) := ⟨rfl, rfl, rfl, by decide +kernel, rfl, by decide +kernel, by decide +kernel⟩
abbrev s_Plain_begin : Stmt := inClass (top 30) 0
theorem c_Plain_begin : FnScope ["self", "worths", "place", "worth"] ["self", "worths"] (defScope s_Plain_begin) := ⟨rfl, rfl, rfl, by decide +kernel, rfl, by decide +kernel, by decide +kernel⟩
abbrev s_Turned_begin : Stmt := inClass (top 28) 0
theorem c_Turned_begin : FnScope ["self", "worths"] ["self", "worths"] (defScope s_Turned_begin) := ⟨rfl, rfl, rfl, by decide +kernel, rfl, by decide +kernel, by decide +kernel⟩
abbrev s_Rows_add_steps : Stmt := inClass (top 26) 4
theorem c_Rows_add_steps : FnScope ["self", "many"] ["self", "many"] (defScope s_Rows_add_steps) := ⟨rfl, rfl, rfl, by decide +kernel, rfl, by decide +kernel, by decide +kernel⟩
abbrev s_Plain_store : Stmt := inClass (top 30) 3
theorem c_Plain_store : FnScope ["self", "make", "number", "place", "worth"] ["self", "make", "number", "place", "worth"] (defScope s_Plain_store) := ⟨rfl, rfl, rfl, by decide +kernel, rfl, by decide +kernel, by decide +kernel⟩
abbrev s_Turned_store : Stmt := inClass (top 28) 10
theorem c_Turned_store : FnScope ["self", "make", "number", "place", "worth"] ["self", "make", "number", "place", "worth"] (defScope s_Turned_store) := ⟨rfl, rfl, rfl, by decide +kernel, rfl, by decide +kernel, by decide +kernel⟩
abbrev s_Plain_freed : Stmt := inClass (top 30) 5
theorem c_Plain_freed : FnScope ["self", "make", "needed", "found", "write"] ["self", "make"] (defScope s_Plain_freed) := ⟨rfl, rfl, rfl, by decide +kernel, rfl, by decide +kernel, by decide +kernel⟩
abbrev s_Turned_freed : Stmt := inClass (top 28) 13
theorem c_Turned_freed : FnScope ["self", "make", "needed", "step", "found"] ["self", "make"] (defScope s_Turned_freed) := ⟨rfl, rfl, rfl, by decide +kernel, rfl, by decide +kernel, by decide +kernel⟩
abbrev s_Plain_copied : Stmt := inClass (top 30) 6
theorem c_Plain_copied : FnScope ["self", "other"] ["self"] (defScope s_Plain_copied) := ⟨rfl, rfl, rfl, by decide +kernel, rfl, by decide +kernel, by decide +kernel⟩
abbrev s_Turned_copied : Stmt := inClass (top 28) 14
theorem c_Turned_copied : FnScope ["self", "other"] ["self"] (defScope s_Turned_copied) := ⟨rfl, rfl, rfl, by decide +kernel, rfl, by decide +kernel, by decide +kernel⟩
abbrev s_Rows_size : Stmt := inClass (top 26) 9
theorem c_Rows_size : FnScope ["self"] ["self"] (defScope s_Rows_size) := ⟨rfl, rfl, rfl, by decide +kernel, rfl, by decide +kernel, by decide +kernel⟩
abbrev s_Rows_many : Stmt := inClass (top 26) 10
theorem c_Rows_many : FnScope ["self"] ["self"] (defScope s_Rows_many) := ⟨rfl, rfl, rfl, by decide +kernel, rfl, by decide +kernel, by decide +kernel⟩
abbrev s_Rows_makes : Stmt := inClass (top 26) 11
theorem c_Rows_makes : FnScope ["self", "make", "gone"] ["self"] (defScope s_Rows_makes) := ⟨rfl, rfl, rfl, by decide +kernel, rfl, by decide +kernel, by decide +kernel⟩
abbrev s_Rows_tree : Stmt := inClass (top 26) 12
theorem c_Rows_tree : FnScope ["self"] ["self"] (defScope s_Rows_tree) := ⟨rfl, rfl, rfl, by decide +kernel, rfl, by decide +kernel, by decide +kernel⟩
abbrev s_Rows_writer : Stmt := inClass (top 26) 15
theorem c_Rows_writer : FnScope ["self", "make", "place"] ["self", "make", "place"] (defScope s_Rows_writer) := ⟨rfl, rfl, rfl, by decide +kernel, rfl, by decide +kernel, by decide +kernel⟩
abbrev s_Rows_writer_of : Stmt := inClass (top 26) 16
theorem c_Rows_writer_of : FnScope ["self", "make", "place"] ["self", "make", "place"] (defScope s_Rows_writer_of) := ⟨rfl, rfl, rfl, by decide +kernel, rfl, by decide +kernel, by decide +kernel⟩
abbrev s_Rows_need_make : Stmt := inClass (top 26) 17
theorem c_Rows_need_make : FnScope ["self", "make"] ["self", "make"] (defScope s_Rows_need_make) := ⟨rfl, rfl, rfl, by decide +kernel, rfl, by decide +kernel, by decide +kernel⟩
abbrev s_Rows_need_place : Stmt := inClass (top 26) 18
theorem c_Rows_need_place : FnScope ["self", "place"] ["self", "place"] (defScope s_Rows_need_place) := ⟨rfl, rfl, rfl, by decide +kernel, rfl, by decide +kernel, by decide +kernel⟩
abbrev s_Rows_need_stretch : Stmt := inClass (top 26) 19
theorem c_Rows_need_stretch : FnScope ["self", "low", "high"] ["self", "low", "high"] (defScope s_Rows_need_stretch) := ⟨rfl, rfl, rfl, by decide +kernel, rfl, by decide +kernel, by decide +kernel⟩
abbrev s_Rows_need_new : Stmt := inClass (top 26) 20
theorem c_Rows_need_new : FnScope ["self", "make"] ["self", "make"] (defScope s_Rows_need_new) := ⟨rfl, rfl, rfl, by decide +kernel, rfl, by decide +kernel, by decide +kernel⟩
abbrev s_Rows_need_room : Stmt := inClass (top 26) 21
theorem c_Rows_need_room : FnScope ["self", "many"] ["self", "many"] (defScope s_Rows_need_room) := ⟨rfl, rfl, rfl, by decide +kernel, rfl, by decide +kernel, by decide +kernel⟩
abbrev s_Rows_put : Stmt := inClass (top 26) 22
theorem c_Rows_put : FnScope ["self", "make", "place", "worth"] ["self", "make", "place", "worth"] (defScope s_Rows_put) := ⟨rfl, rfl, rfl, by decide +kernel, rfl, by decide +kernel, by decide +kernel⟩
abbrev s_Rows_put_all : Stmt := inClass (top 26) 23
theorem c_Rows_put_all : FnScope ["self", "make", "changes", "found", "place", "worth"] ["self", "make", "changes"] (defScope s_Rows_put_all) := ⟨rfl, rfl, rfl, by decide +kernel, rfl, by decide +kernel, by decide +kernel⟩
abbrev s_Rows_written : Stmt := inClass (top 26) 24
theorem c_Rows_written : FnScope ["self", "make", "place", "worth", "number"] ["self", "make", "place", "worth"] (defScope s_Rows_written) := ⟨rfl, rfl, rfl, by decide +kernel, rfl, by decide +kernel, by decide +kernel⟩
abbrev s_Rows_at : Stmt := inClass (top 26) 25
theorem c_Rows_at : FnScope ["self", "make", "place"] ["self", "make", "place"] (defScope s_Rows_at) := ⟨rfl, rfl, rfl, by decide +kernel, rfl, by decide +kernel, by decide +kernel⟩
abbrev s_Rows_row : Stmt := inClass (top 26) 26
theorem c_Rows_row : FnScope ["self", "make"] ["self", "make"] (defScope s_Rows_row) := ⟨rfl, rfl, rfl, by decide +kernel, rfl, by decide +kernel, by decide +kernel⟩
abbrev s_Rows_stretch : Stmt := inClass (top 26) 27
theorem c_Rows_stretch : FnScope ["self", "make", "low", "high"] ["self", "make", "low", "high"] (defScope s_Rows_stretch) := ⟨rfl, rfl, rfl, by decide +kernel, rfl, by decide +kernel, by decide +kernel⟩
abbrev s_Rows_worths_in : Stmt := inClass (top 26) 28
theorem c_Rows_worths_in : FnScope ["self", "make", "low", "high", "place"] ["self", "make", "low", "high"] (defScope s_Rows_worths_in) := ⟨rfl, rfl, rfl, by decide +kernel, rfl, by decide +kernel, by decide +kernel⟩
abbrev s_Turned_worths_in : Stmt := inClass (top 28) 11
theorem c_Turned_worths_in : FnScope ["self", "make", "low", "high"] ["self", "make", "low", "high"] (defScope s_Turned_worths_in) := ⟨rfl, rfl, rfl, by decide +kernel, rfl, by decide +kernel, by decide +kernel⟩
abbrev s_Rows_let_go : Stmt := inClass (top 26) 29
theorem c_Rows_let_go : FnScope ["self", "make"] ["self", "make"] (defScope s_Rows_let_go) := ⟨rfl, rfl, rfl, by decide +kernel, rfl, by decide +kernel, by decide +kernel⟩
abbrev s_Rows_same_makes : Stmt := inClass (top 26) 30
theorem c_Rows_same_makes : FnScope ["self", "other"] ["self", "other"] (defScope s_Rows_same_makes) := ⟨rfl, rfl, rfl, by decide +kernel, rfl, by decide +kernel, by decide +kernel⟩
abbrev s_Plain_looked : Stmt := inClass (top 30) 4
theorem c_Plain_looked : FnScope ["self", "make", "place", "writer"] ["self", "make", "place"] (defScope s_Plain_looked) := ⟨rfl, rfl, rfl, by decide +kernel, rfl, by decide +kernel, by decide +kernel⟩
abbrev s_Rows_needed_writes : Stmt := inClass (top 26) 31
theorem c_Rows_needed_writes : FnScope ["self", "found", "make", "place"] ["self"] (defScope s_Rows_needed_writes) := ⟨rfl, rfl, rfl, by decide +kernel, rfl, by decide +kernel, by decide +kernel⟩
abbrev s_Turned_noted_way : Stmt := inClass (top 28) 5
theorem c_Turned_noted_way : FnScope ["self", "make", "found"] ["self", "make"] (defScope s_Turned_noted_way) := ⟨rfl, rfl, rfl, by decide +kernel, rfl, by decide +kernel, by decide +kernel⟩
abbrev s_Turned_turn : Stmt := inClass (top 28) 6
theorem c_Turned_turn : FnScope ["self", "make", "place", "worth", "toward"] ["self", "make"] (defScope s_Turned_turn) := ⟨rfl, rfl, rfl, by decide +kernel, rfl, by decide +kernel, by decide +kernel⟩
abbrev s_Turned_turn_to : Stmt := inClass (top 28) 7
theorem c_Turned_turn_to : FnScope ["self", "make", "way", "step"] ["self", "make"] (defScope s_Turned_turn_to) := ⟨rfl, rfl, rfl, by decide +kernel, rfl, by decide +kernel, by decide +kernel⟩
abbrev s_Turned_read_by : Stmt := inClass (top 28) 9
theorem c_Turned_read_by : FnScope ["self", "make", "worths", "way", "step", "place", "worth", "toward"] ["self", "make"] (defScope s_Turned_read_by) := ⟨rfl, rfl, rfl, by decide +kernel, rfl, by decide +kernel, by decide +kernel⟩
abbrev s_Turned_needed_makes : Stmt := inClass (top 28) 12
theorem c_Turned_needed_makes : FnScope ["self", "kept", "tree", "found", "make", "step"] ["self"] (defScope s_Turned_needed_makes) := ⟨rfl, rfl, rfl, by decide +kernel, rfl, by decide +kernel, by decide +kernel⟩
abbrev s_is_whole : Stmt := top 15
theorem c_is_whole : FnScope ["thing", "low", "high"] ["thing", "low", "high"] (defScope s_is_whole) := ⟨rfl, rfl, rfl, by decide +kernel, rfl, by decide +kernel, by decide +kernel⟩
abbrev s_is_worth : Stmt := top 16
theorem c_is_worth : FnScope ["thing", "most"] ["thing"] (defScope s_is_worth) := ⟨rfl, rfl, rfl, by decide +kernel, rfl, by decide +kernel, by decide +kernel⟩
abbrev s_is_worths : Stmt := top 17
theorem c_is_worths : FnScope ["thing", "worth"] ["thing"] (defScope s_is_worths) := ⟨rfl, rfl, rfl, by decide +kernel, rfl, by decide +kernel, by decide +kernel⟩
abbrev s_is_change : Stmt := top 18
theorem c_is_change : FnScope ["thing", "size"] ["thing", "size"] (defScope s_is_change) := ⟨rfl, rfl, rfl, by decide +kernel, rfl, by decide +kernel, by decide +kernel⟩
abbrev s_is_changes : Stmt := top 19
theorem c_is_changes : FnScope ["thing", "size", "change"] ["thing", "size"] (defScope s_is_changes) := ⟨rfl, rfl, rfl, by decide +kernel, rfl, by decide +kernel, by decide +kernel⟩
abbrev s__law_cell : Stmt := top 32
theorem c__law_cell : FnScope ["_law_script", "_law_k"] ["_law_script", "_law_k"] (defScope s__law_cell) := ⟨rfl, rfl, rfl, by decide +kernel, rfl, by decide +kernel, by decide +kernel⟩
abbrev s__law_box : Stmt := top 33
theorem c__law_box : FnScope ["_law_cell_here"] ["_law_cell_here"] (defScope s__law_box) := ⟨rfl, rfl, rfl, by decide +kernel, rfl, by decide +kernel, by decide +kernel⟩
abbrev s__law_take : Stmt := top 34
theorem c__law_take : FnScope ["_law_box_here", "_law_many", "_law_digit", "_law_number"] ["_law_box_here", "_law_many"] (defScope s__law_take) := ⟨rfl, rfl, rfl, by decide +kernel, rfl, by decide +kernel, by decide +kernel⟩
abbrev s__law_worth : Stmt := top 35
theorem c__law_worth : FnScope ["_law_box_here", "_law_way"] ["_law_box_here"] (defScope s__law_worth) := ⟨rfl, rfl, rfl, by decide +kernel, rfl, by decide +kernel, by decide +kernel⟩
abbrev s__law_worths : Stmt := top 36
theorem c__law_worths : FnScope ["_law_box_here", "_law_size", "_law_k"] ["_law_box_here"] (defScope s__law_worths) := ⟨rfl, rfl, rfl, by decide +kernel, rfl, by decide +kernel, by decide +kernel⟩
abbrev s__law_model : Stmt := top 37
theorem c__law_model : FnScope ["_law_worths_here"] ["_law_worths_here"] (defScope s__law_model) := ⟨rfl, rfl, rfl, by decide +kernel, rfl, by decide +kernel, by decide +kernel⟩
abbrev s__law_writer : Stmt := top 38
theorem c__law_writer : FnScope ["_law_model_here", "_law_make", "_law_place"] ["_law_model_here", "_law_make", "_law_place"] (defScope s__law_writer) := ⟨rfl, rfl, rfl, by decide +kernel, rfl, by decide +kernel, by decide +kernel⟩
abbrev s__law_value : Stmt := top 39
theorem c__law_value : FnScope ["_law_model_here", "_law_make", "_law_place", "_law_writer_here"] ["_law_model_here", "_law_make", "_law_place"] (defScope s__law_value) := ⟨rfl, rfl, rfl, by decide +kernel, rfl, by decide +kernel, by decide +kernel⟩
abbrev s__law_line_of : Stmt := top 40
theorem c__law_line_of : FnScope ["_law_model_here", "_law_make", "_law_place"] ["_law_model_here", "_law_make"] (defScope s__law_line_of) := ⟨rfl, rfl, rfl, by decide +kernel, rfl, by decide +kernel, by decide +kernel⟩
abbrev s__law_kept : Stmt := top 41
theorem c__law_kept : FnScope ["_law_model_here", "_law_make", "_law_gone"] ["_law_model_here"] (defScope s__law_kept) := ⟨rfl, rfl, rfl, by decide +kernel, rfl, by decide +kernel, by decide +kernel⟩
abbrev s__law_picked : Stmt := top 42
theorem c__law_picked : FnScope ["_law_box_here", "_law_model_here", "_law_kept_here", "_law_way"] ["_law_box_here", "_law_model_here"] (defScope s__law_picked) := ⟨rfl, rfl, rfl, by decide +kernel, rfl, by decide +kernel, by decide +kernel⟩
abbrev s__law_grown : Stmt := top 43
theorem c__law_grown : FnScope ["_law_model_here", "_law_make", "_law_place", "_law_worth_here"] ["_law_model_here", "_law_make", "_law_place", "_law_worth_here"] (defScope s__law_grown) := ⟨rfl, rfl, rfl, by decide +kernel, rfl, by decide +kernel, by decide +kernel⟩
abbrev s__law_drawn : Stmt := top 47
theorem c__law_drawn : FnScope ["_law_box_here", "_law_model_here", "_law_make", "_law_place"] ["_law_box_here", "_law_model_here"] (defScope s__law_drawn) := ⟨rfl, rfl, rfl, by decide +kernel, rfl, by decide +kernel, by decide +kernel⟩
abbrev s__law_same : Stmt := top 48
theorem c__law_same : FnScope ["_law_box_here", "_law_first", "_law_second", "_law_model_here", "_law_size", "_law_make", "_law_low", "_law_high", "_law_other"] ["_law_box_here", "_law_first", "_law_second", "_law_model_here"] (defScope s__law_same) := ⟨rfl, rfl, rfl, by decide +kernel, rfl, by decide +kernel, by decide +kernel⟩
abbrev s__law_deed : Stmt := top 49
theorem c__law_deed : FnScope ["_law_box_here", "_law_first", "_law_second", "_law_model_here", "_law_way", "_law_make", "_law_place", "_law_worth_here", "_law_room", "_law_places", "_law_k", "_law_changes", "_law_one", "_law_other", "_law_start", "_law_number"] ["_law_box_here", "_law_first", "_law_second", "_law_model_here"] (defScope s__law_deed) := ⟨rfl, rfl, rfl, by decide +kernel, rfl, by decide +kernel, by decide +kernel⟩
abbrev s_law : Stmt := top 50
theorem c_law : FnScope ["_law_script", "_law_box_here", "_law_worths_here", "_law_model_here", "_law_first", "_law_second", "_law_k", "_law_turn", "_law_kept_here", "_law_make"] ["_law_script"] (defScope s_law) := ⟨rfl, rfl, rfl, by decide +kernel, rfl, by decide +kernel, by decide +kernel⟩
structure Tx (K : PySem.W.Frag) (mg : Str → Option Value) : Prop where
  clT : Cls K (CT K)
  nT_owners : NoAttr K (CT K) "owners"
  nT_depths : NoAttr K (CT K) "depths"
  nT_leaping : NoAttr K (CT K) "leaping"
  mkT : Mk K (CT K) (aT K "__init__")
  dT_init : DefAt K "__init__" "LeapTree.__init__" s_LeapTree_init (aT K "__init__")
  mT_many : Meth K (CT K) "many" (aT K "many")
  dT_many : DefAt K "many" "MakeTree.many" s_MakeTree_many (aT K "many")
  mT_need_make : Meth K (CT K) "need_make" (aT K "need_make")
  dT_need_make : DefAt K "need_make" "MakeTree.need_make" s_MakeTree_need_make (aT K "need_make")
  mT_need_steps : Meth K (CT K) "need_steps" (aT K "need_steps")
  dT_need_steps : DefAt K "need_steps" "MakeTree.need_steps" s_MakeTree_need_steps (aT K "need_steps")
  mT_grow : Meth K (CT K) "grow" (aT K "grow")
  dT_grow : DefAt K "grow" "MakeTree.grow" s_MakeTree_grow (aT K "grow")
  mT_lay : Meth K (CT K) "lay" (aT K "lay")
  dT_lay : DefAt K "lay" "LeapTree.lay" s_LeapTree_lay (aT K "lay")
  mT_own : Meth K (CT K) "own" (aT K "own")
  dT_own : DefAt K "own" "MakeTree.own" s_MakeTree_own (aT K "own")
  mT_depth : Meth K (CT K) "depth" (aT K "depth")
  dT_depth : DefAt K "depth" "MakeTree.depth" s_MakeTree_depth (aT K "depth")
  mT_line : Meth K (CT K) "line" (aT K "line")
  dT_line : DefAt K "line" "MakeTree.line" s_MakeTree_line (aT K "line")
  mT_way : Meth K (CT K) "way" (aT K "way")
  dT_way : DefAt K "way" "MakeTree.way" s_MakeTree_way (aT K "way")
  mT_leap_way : Meth K (CT K) "leap_way" (aT K "leap_way")
  dT_leap_way : DefAt K "leap_way" "LeapTree.leap_way" s_LeapTree_leap_way (aT K "leap_way")
  mT_up : Meth K (CT K) "up" (aT K "up")
  dT_up : DefAt K "up" "LeapTree.up" s_LeapTree_up (aT K "up")
  mT_nearest : Meth K (CT K) "nearest" (aT K "nearest")
  dT_nearest : DefAt K "nearest" "LeapTree.nearest" s_LeapTree_nearest (aT K "nearest")
  mT_copied : Meth K (CT K) "copied" (aT K "copied")
  dT_copied : DefAt K "copied" "LeapTree.copied" s_LeapTree_copied (aT K "copied")
  dM_init : DefAt K "__init__" "MakeTree.__init__" s_MakeTree_init (aM K "__init__")
  cfM : ClsFn K (He.ga K "MakeTree") "__init__" (aM K "__init__")
  clR : ∀ b, Cls K (CR K b)
  nR_wide : ∀ b, NoAttr K (CR K b) "wide"
  nR_grown : ∀ b, NoAttr K (CR K b) "grown"
  nR_wrote : ∀ b, NoAttr K (CR K b) "wrote"
  nR_gone : ∀ b, NoAttr K (CR K b) "gone"
  nR_counted : ∀ b, NoAttr K (CR K b) "counted"
  nP_kept : NoAttr K (CR K false) "kept"
  nU_lying : NoAttr K (CR K true) "lying"
  nU_here : NoAttr K (CR K true) "here"
  nU_noted : NoAttr K (CR K true) "noted"
  mkR : ∀ b, Mk K (CR K b) (aR K b "__init__")
  dR_init : ∀ b, DefAt K "__init__" "Rows.__init__" s_Rows_init (aR K b "__init__")
  mR_begin : ∀ b, Meth K (CR K b) "begin" (aR K b "begin")
  dP_begin : DefAt K "begin" "Plain.begin" s_Plain_begin (aR K false "begin")
  dU_begin : DefAt K "begin" "Turned.begin" s_Turned_begin (aR K true "begin")
  mR_add_steps : ∀ b, Meth K (CR K b) "add_steps" (aR K b "add_steps")
  dR_add_steps : ∀ b, DefAt K "add_steps" "Rows.add_steps" s_Rows_add_steps (aR K b "add_steps")
  mR_store : ∀ b, Meth K (CR K b) "store" (aR K b "store")
  dP_store : DefAt K "store" "Plain.store" s_Plain_store (aR K false "store")
  dU_store : DefAt K "store" "Turned.store" s_Turned_store (aR K true "store")
  mR_freed : ∀ b, Meth K (CR K b) "freed" (aR K b "freed")
  dP_freed : DefAt K "freed" "Plain.freed" s_Plain_freed (aR K false "freed")
  dU_freed : DefAt K "freed" "Turned.freed" s_Turned_freed (aR K true "freed")
  mR_copied : ∀ b, Meth K (CR K b) "copied" (aR K b "copied")
  dP_copied : DefAt K "copied" "Plain.copied" s_Plain_copied (aR K false "copied")
  dU_copied : DefAt K "copied" "Turned.copied" s_Turned_copied (aR K true "copied")
  mR_size : ∀ b, Meth K (CR K b) "size" (aR K b "size")
  dR_size : ∀ b, DefAt K "size" "Rows.size" s_Rows_size (aR K b "size")
  mR_many : ∀ b, Meth K (CR K b) "many" (aR K b "many")
  dR_many : ∀ b, DefAt K "many" "Rows.many" s_Rows_many (aR K b "many")
  mR_makes : ∀ b, Meth K (CR K b) "makes" (aR K b "makes")
  dR_makes : ∀ b, DefAt K "makes" "Rows.makes" s_Rows_makes (aR K b "makes")
  mR_tree : ∀ b, Meth K (CR K b) "tree" (aR K b "tree")
  dR_tree : ∀ b, DefAt K "tree" "Rows.tree" s_Rows_tree (aR K b "tree")
  mR_writer : ∀ b, Meth K (CR K b) "writer" (aR K b "writer")
  dR_writer : ∀ b, DefAt K "writer" "Rows.writer" s_Rows_writer (aR K b "writer")
  mR_writer_of : ∀ b, Meth K (CR K b) "writer_of" (aR K b "writer_of")
  dR_writer_of : ∀ b, DefAt K "writer_of" "Rows.writer_of" s_Rows_writer_of (aR K b "writer_of")
  mR_need_make : ∀ b, Meth K (CR K b) "need_make" (aR K b "need_make")
  dR_need_make : ∀ b, DefAt K "need_make" "Rows.need_make" s_Rows_need_make (aR K b "need_make")
  mR_need_place : ∀ b, Meth K (CR K b) "need_place" (aR K b "need_place")
  dR_need_place : ∀ b, DefAt K "need_place" "Rows.need_place" s_Rows_need_place (aR K b "need_place")
  mR_need_stretch : ∀ b, Meth K (CR K b) "need_stretch" (aR K b "need_stretch")
  dR_need_stretch : ∀ b, DefAt K "need_stretch" "Rows.need_stretch" s_Rows_need_stretch (aR K b "need_stretch")
  mR_need_new : ∀ b, Meth K (CR K b) "need_new" (aR K b "need_new")
  dR_need_new : ∀ b, DefAt K "need_new" "Rows.need_new" s_Rows_need_new (aR K b "need_new")
  mR_need_room : ∀ b, Meth K (CR K b) "need_room" (aR K b "need_room")
  dR_need_room : ∀ b, DefAt K "need_room" "Rows.need_room" s_Rows_need_room (aR K b "need_room")
  mR_put : ∀ b, Meth K (CR K b) "put" (aR K b "put")
  dR_put : ∀ b, DefAt K "put" "Rows.put" s_Rows_put (aR K b "put")
  mR_put_all : ∀ b, Meth K (CR K b) "put_all" (aR K b "put_all")
  dR_put_all : ∀ b, DefAt K "put_all" "Rows.put_all" s_Rows_put_all (aR K b "put_all")
  mR_written : ∀ b, Meth K (CR K b) "written" (aR K b "written")
  dR_written : ∀ b, DefAt K "written" "Rows.written" s_Rows_written (aR K b "written")
  mR_at : ∀ b, Meth K (CR K b) "at" (aR K b "at")
  dR_at : ∀ b, DefAt K "at" "Rows.at" s_Rows_at (aR K b "at")
  mR_row : ∀ b, Meth K (CR K b) "row" (aR K b "row")
  dR_row : ∀ b, DefAt K "row" "Rows.row" s_Rows_row (aR K b "row")
  mR_stretch : ∀ b, Meth K (CR K b) "stretch" (aR K b "stretch")
  dR_stretch : ∀ b, DefAt K "stretch" "Rows.stretch" s_Rows_stretch (aR K b "stretch")
  mR_worths_in : ∀ b, Meth K (CR K b) "worths_in" (aR K b "worths_in")
  dP_worths_in : DefAt K "worths_in" "Rows.worths_in" s_Rows_worths_in (aR K false "worths_in")
  dU_worths_in : DefAt K "worths_in" "Turned.worths_in" s_Turned_worths_in (aR K true "worths_in")
  mR_let_go : ∀ b, Meth K (CR K b) "let_go" (aR K b "let_go")
  dR_let_go : ∀ b, DefAt K "let_go" "Rows.let_go" s_Rows_let_go (aR K b "let_go")
  mR_same_makes : ∀ b, Meth K (CR K b) "same_makes" (aR K b "same_makes")
  dR_same_makes : ∀ b, DefAt K "same_makes" "Rows.same_makes" s_Rows_same_makes (aR K b "same_makes")
  mP_looked : Meth K (CR K false) "looked" (aR K false "looked")
  dP_looked : DefAt K "looked" "Plain.looked" s_Plain_looked (aR K false "looked")
  mP_needed_writes : Meth K (CR K false) "needed_writes" (aR K false "needed_writes")
  dP_needed_writes : DefAt K "needed_writes" "Rows.needed_writes" s_Rows_needed_writes (aR K false "needed_writes")
  mU_noted_way : Meth K (CR K true) "noted_way" (aR K true "noted_way")
  dU_noted_way : DefAt K "noted_way" "Turned.noted_way" s_Turned_noted_way (aR K true "noted_way")
  mU_turn : Meth K (CR K true) "turn" (aR K true "turn")
  dU_turn : DefAt K "turn" "Turned.turn" s_Turned_turn (aR K true "turn")
  mU_turn_to : Meth K (CR K true) "turn_to" (aR K true "turn_to")
  dU_turn_to : DefAt K "turn_to" "Turned.turn_to" s_Turned_turn_to (aR K true "turn_to")
  mU_read_by : Meth K (CR K true) "read_by" (aR K true "read_by")
  dU_read_by : DefAt K "read_by" "Turned.read_by" s_Turned_read_by (aR K true "read_by")
  mU_needed_makes : Meth K (CR K true) "needed_makes" (aR K true "needed_makes")
  dU_needed_makes : DefAt K "needed_makes" "Turned.needed_makes" s_Turned_needed_makes (aR K true "needed_makes")
  g_MakeTree : mg "MakeTree" = some (.ref (He.ga K "MakeTree"))
  g_LeapTree : mg "LeapTree" = some (.ref (He.ga K "LeapTree"))
  g_Plain : mg "Plain" = some (.ref (He.ga K "Plain"))
  g_Turned : mg "Turned" = some (.ref (He.ga K "Turned"))
  g_is_whole : mg "is_whole" = some (.ref (aF K "is_whole"))
  d_is_whole : DefAt K "is_whole" "is_whole" s_is_whole (aF K "is_whole")
  g_is_worth : mg "is_worth" = some (.ref (aF K "is_worth"))
  d_is_worth : DefAt K "is_worth" "is_worth" s_is_worth (aF K "is_worth")
  g_is_worths : mg "is_worths" = some (.ref (aF K "is_worths"))
  d_is_worths : DefAt K "is_worths" "is_worths" s_is_worths (aF K "is_worths")
  g_is_change : mg "is_change" = some (.ref (aF K "is_change"))
  d_is_change : DefAt K "is_change" "is_change" s_is_change (aF K "is_change")
  g_is_changes : mg "is_changes" = some (.ref (aF K "is_changes"))
  d_is_changes : DefAt K "is_changes" "is_changes" s_is_changes (aF K "is_changes")
  g__law_cell : mg "_law_cell" = some (.ref (aF K "_law_cell"))
  d__law_cell : DefAt K "_law_cell" "_law_cell" s__law_cell (aF K "_law_cell")
  g__law_box : mg "_law_box" = some (.ref (aF K "_law_box"))
  d__law_box : DefAt K "_law_box" "_law_box" s__law_box (aF K "_law_box")
  g__law_take : mg "_law_take" = some (.ref (aF K "_law_take"))
  d__law_take : DefAt K "_law_take" "_law_take" s__law_take (aF K "_law_take")
  g__law_worth : mg "_law_worth" = some (.ref (aF K "_law_worth"))
  d__law_worth : DefAt K "_law_worth" "_law_worth" s__law_worth (aF K "_law_worth")
  g__law_worths : mg "_law_worths" = some (.ref (aF K "_law_worths"))
  d__law_worths : DefAt K "_law_worths" "_law_worths" s__law_worths (aF K "_law_worths")
  g__law_model : mg "_law_model" = some (.ref (aF K "_law_model"))
  d__law_model : DefAt K "_law_model" "_law_model" s__law_model (aF K "_law_model")
  g__law_writer : mg "_law_writer" = some (.ref (aF K "_law_writer"))
  d__law_writer : DefAt K "_law_writer" "_law_writer" s__law_writer (aF K "_law_writer")
  g__law_value : mg "_law_value" = some (.ref (aF K "_law_value"))
  d__law_value : DefAt K "_law_value" "_law_value" s__law_value (aF K "_law_value")
  g__law_line_of : mg "_law_line_of" = some (.ref (aF K "_law_line_of"))
  d__law_line_of : DefAt K "_law_line_of" "_law_line_of" s__law_line_of (aF K "_law_line_of")
  g__law_kept : mg "_law_kept" = some (.ref (aF K "_law_kept"))
  d__law_kept : DefAt K "_law_kept" "_law_kept" s__law_kept (aF K "_law_kept")
  g__law_picked : mg "_law_picked" = some (.ref (aF K "_law_picked"))
  d__law_picked : DefAt K "_law_picked" "_law_picked" s__law_picked (aF K "_law_picked")
  g__law_grown : mg "_law_grown" = some (.ref (aF K "_law_grown"))
  d__law_grown : DefAt K "_law_grown" "_law_grown" s__law_grown (aF K "_law_grown")
  g__law_drawn : mg "_law_drawn" = some (.ref (aF K "_law_drawn"))
  d__law_drawn : DefAt K "_law_drawn" "_law_drawn" s__law_drawn (aF K "_law_drawn")
  g__law_same : mg "_law_same" = some (.ref (aF K "_law_same"))
  d__law_same : DefAt K "_law_same" "_law_same" s__law_same (aF K "_law_same")
  g__law_deed : mg "_law_deed" = some (.ref (aF K "_law_deed"))
  d__law_deed : DefAt K "_law_deed" "_law_deed" s__law_deed (aF K "_law_deed")
  g_law : mg "law" = some (.ref (aF K "law"))
  d_law : DefAt K "law" "law" s_law (aF K "law")
  i_MOST_PLACES : ∃ t, mg "MOST_PLACES" = some (.int 16 t)
  i_MOST_CHANGES : ∃ t, mg "MOST_CHANGES" = some (.int 20 t)
  i_MOST_MAKES : ∃ t, mg "MOST_MAKES" = some (.int 64 t)
  f_len : mg "len" = none
  f_isinstance : mg "isinstance" = none
  f_int : mg "int" = none
  f_bool : mg "bool" = none
  f_list : mg "list" = none
  f_tuple : mg "tuple" = none
  f_all : mg "all" = none
  f_range : mg "range" = none
  f_enumerate : mg "enumerate" = none
  f_reversed : mg "reversed" = none
  f_sorted : mg "sorted" = none
  f_dict : mg "dict" = none
  f_repr : mg "repr" = none
  f_max : mg "max" = none
  f_min : mg "min" = none
def fa0 : List He.Fa := [.cls "LeapTree",
  .noat "LeapTree" "owners",
  .noat "LeapTree" "depths",
  .noat "LeapTree" "leaping",
  .mkr "LeapTree",
  .meth "LeapTree" "many",
  .meth "LeapTree" "need_make",
  .meth "LeapTree" "need_steps",
  .meth "LeapTree" "grow",
  .meth "LeapTree" "lay",
  .meth "LeapTree" "own",
  .meth "LeapTree" "depth",
  .meth "LeapTree" "line",
  .meth "LeapTree" "way",
  .meth "LeapTree" "leap_way",
  .meth "LeapTree" "up",
  .meth "LeapTree" "nearest",
  .meth "LeapTree" "copied",
  .cls "Plain",
  .cls "Turned",
  .noat "Plain" "wide",
  .noat "Turned" "wide",
  .noat "Plain" "grown",
  .noat "Turned" "grown",
  .noat "Plain" "wrote",
  .noat "Turned" "wrote",
  .noat "Plain" "gone",
  .noat "Turned" "gone",
  .noat "Plain" "counted",
  .noat "Turned" "counted"]
def fa1 : List He.Fa := [.noat "Plain" "kept",
  .noat "Turned" "lying",
  .noat "Turned" "here",
  .noat "Turned" "noted",
  .mkr "Plain",
  .mkr "Turned",
  .meth "Plain" "begin",
  .meth "Turned" "begin",
  .meth "Plain" "add_steps",
  .meth "Turned" "add_steps",
  .meth "Plain" "store",
  .meth "Turned" "store",
  .meth "Plain" "freed",
  .meth "Turned" "freed",
  .meth "Plain" "copied",
  .meth "Turned" "copied",
  .meth "Plain" "size",
  .meth "Turned" "size",
  .meth "Plain" "many",
  .meth "Turned" "many",
  .meth "Plain" "makes",
  .meth "Turned" "makes",
  .meth "Plain" "tree",
  .meth "Turned" "tree",
  .meth "Plain" "writer",
  .meth "Turned" "writer",
  .meth "Plain" "writer_of",
  .meth "Turned" "writer_of",
  .meth "Plain" "need_make",
  .meth "Turned" "need_make"]
def fa2 : List He.Fa := [.meth "Plain" "need_place",
  .meth "Turned" "need_place",
  .meth "Plain" "need_stretch",
  .meth "Turned" "need_stretch",
  .meth "Plain" "need_new",
  .meth "Turned" "need_new",
  .meth "Plain" "need_room",
  .meth "Turned" "need_room",
  .meth "Plain" "put",
  .meth "Turned" "put",
  .meth "Plain" "put_all",
  .meth "Turned" "put_all",
  .meth "Plain" "written",
  .meth "Turned" "written",
  .meth "Plain" "at",
  .meth "Turned" "at",
  .meth "Plain" "row",
  .meth "Turned" "row",
  .meth "Plain" "stretch",
  .meth "Turned" "stretch",
  .meth "Plain" "worths_in",
  .meth "Turned" "worths_in",
  .meth "Plain" "let_go",
  .meth "Turned" "let_go",
  .meth "Plain" "same_makes",
  .meth "Turned" "same_makes",
  .meth "Plain" "looked",
  .meth "Plain" "needed_writes",
  .meth "Turned" "noted_way",
  .meth "Turned" "turn"]
def fa3 : List He.Fa := [.meth "Turned" "turn_to",
  .meth "Turned" "read_by",
  .meth "Turned" "needed_makes",
  .glo "MakeTree",
  .glo "LeapTree",
  .glo "Plain",
  .glo "Turned",
  .glo "is_whole",
  .glo "is_worth",
  .glo "is_worths",
  .glo "is_change",
  .glo "is_changes",
  .glo "_law_cell",
  .glo "_law_box",
  .glo "_law_take",
  .glo "_law_worth",
  .glo "_law_worths",
  .glo "_law_model",
  .glo "_law_writer",
  .glo "_law_value",
  .glo "_law_line_of",
  .glo "_law_kept",
  .glo "_law_picked",
  .glo "_law_grown",
  .glo "_law_drawn",
  .glo "_law_same",
  .glo "_law_deed",
  .glo "law",
  .int "MOST_PLACES" 16,
  .int "MOST_CHANGES" 20]
def fa4 : List He.Fa := [.int "MOST_MAKES" 64,
  .free "len",
  .free "isinstance",
  .free "int",
  .free "bool",
  .free "list",
  .free "tuple",
  .free "all",
  .free "range",
  .free "enumerate",
  .free "reversed",
  .free "sorted",
  .free "dict",
  .free "repr",
  .free "max",
  .free "min"]
def fa : List He.Fa := fa0 ++ fa1 ++ fa2 ++ fa3 ++ fa4
def fn0 : List He.DefD := [⟨("LeapTree", some "__init__"), "__init__", "LeapTree.__init__", defArgs s_LeapTree_init, defBody s_LeapTree_init, defScope s_LeapTree_init, [], []⟩,
  ⟨("LeapTree", some "many"), "many", "MakeTree.many", defArgs s_MakeTree_many, defBody s_MakeTree_many, defScope s_MakeTree_many, [], []⟩,
  ⟨("LeapTree", some "need_make"), "need_make", "MakeTree.need_make", defArgs s_MakeTree_need_make, defBody s_MakeTree_need_make, defScope s_MakeTree_need_make, [], []⟩,
  ⟨("LeapTree", some "need_steps"), "need_steps", "MakeTree.need_steps", defArgs s_MakeTree_need_steps, defBody s_MakeTree_need_steps, defScope s_MakeTree_need_steps, [], []⟩,
  ⟨("LeapTree", some "grow"), "grow", "MakeTree.grow", defArgs s_MakeTree_grow, defBody s_MakeTree_grow, defScope s_MakeTree_grow, [], []⟩,
  ⟨("LeapTree", some "lay"), "lay", "LeapTree.lay", defArgs s_LeapTree_lay, defBody s_LeapTree_lay, defScope s_LeapTree_lay, [], []⟩,
  ⟨("LeapTree", some "own"), "own", "MakeTree.own", defArgs s_MakeTree_own, defBody s_MakeTree_own, defScope s_MakeTree_own, [], []⟩,
  ⟨("LeapTree", some "depth"), "depth", "MakeTree.depth", defArgs s_MakeTree_depth, defBody s_MakeTree_depth, defScope s_MakeTree_depth, [], []⟩,
  ⟨("LeapTree", some "line"), "line", "MakeTree.line", defArgs s_MakeTree_line, defBody s_MakeTree_line, defScope s_MakeTree_line, [], []⟩,
  ⟨("LeapTree", some "way"), "way", "MakeTree.way", defArgs s_MakeTree_way, defBody s_MakeTree_way, defScope s_MakeTree_way, [], []⟩,
  ⟨("LeapTree", some "leap_way"), "leap_way", "LeapTree.leap_way", defArgs s_LeapTree_leap_way, defBody s_LeapTree_leap_way, defScope s_LeapTree_leap_way, [], []⟩,
  ⟨("LeapTree", some "up"), "up", "LeapTree.up", defArgs s_LeapTree_up, defBody s_LeapTree_up, defScope s_LeapTree_up, [], []⟩,
  ⟨("LeapTree", some "nearest"), "nearest", "LeapTree.nearest", defArgs s_LeapTree_nearest, defBody s_LeapTree_nearest, defScope s_LeapTree_nearest, [], []⟩,
  ⟨("LeapTree", some "copied"), "copied", "LeapTree.copied", defArgs s_LeapTree_copied, defBody s_LeapTree_copied, defScope s_LeapTree_copied, [], []⟩,
  ⟨("MakeTree", some "__init__"), "__init__", "MakeTree.__init__", defArgs s_MakeTree_init, defBody s_MakeTree_init, defScope s_MakeTree_init, [], []⟩,
  ⟨("Plain", some "__init__"), "__init__", "Rows.__init__", defArgs s_Rows_init, defBody s_Rows_init, defScope s_Rows_init, [], []⟩,
  ⟨("Turned", some "__init__"), "__init__", "Rows.__init__", defArgs s_Rows_init, defBody s_Rows_init, defScope s_Rows_init, [], []⟩,
  ⟨("Plain", some "begin"), "begin", "Plain.begin", defArgs s_Plain_begin, defBody s_Plain_begin, defScope s_Plain_begin, [], []⟩,
  ⟨("Turned", some "begin"), "begin", "Turned.begin", defArgs s_Turned_begin, defBody s_Turned_begin, defScope s_Turned_begin, [], []⟩,
  ⟨("Plain", some "add_steps"), "add_steps", "Rows.add_steps", defArgs s_Rows_add_steps, defBody s_Rows_add_steps, defScope s_Rows_add_steps, [], []⟩,
  ⟨("Turned", some "add_steps"), "add_steps", "Rows.add_steps", defArgs s_Rows_add_steps, defBody s_Rows_add_steps, defScope s_Rows_add_steps, [], []⟩,
  ⟨("Plain", some "store"), "store", "Plain.store", defArgs s_Plain_store, defBody s_Plain_store, defScope s_Plain_store, [], []⟩,
  ⟨("Turned", some "store"), "store", "Turned.store", defArgs s_Turned_store, defBody s_Turned_store, defScope s_Turned_store, [], []⟩,
  ⟨("Plain", some "freed"), "freed", "Plain.freed", defArgs s_Plain_freed, defBody s_Plain_freed, defScope s_Plain_freed, [], []⟩,
  ⟨("Turned", some "freed"), "freed", "Turned.freed", defArgs s_Turned_freed, defBody s_Turned_freed, defScope s_Turned_freed, [], []⟩,
  ⟨("Plain", some "copied"), "copied", "Plain.copied", defArgs s_Plain_copied, defBody s_Plain_copied, defScope s_Plain_copied, [], []⟩,
  ⟨("Turned", some "copied"), "copied", "Turned.copied", defArgs s_Turned_copied, defBody s_Turned_copied, defScope s_Turned_copied, [], []⟩,
  ⟨("Plain", some "size"), "size", "Rows.size", defArgs s_Rows_size, defBody s_Rows_size, defScope s_Rows_size, [], []⟩,
  ⟨("Turned", some "size"), "size", "Rows.size", defArgs s_Rows_size, defBody s_Rows_size, defScope s_Rows_size, [], []⟩,
  ⟨("Plain", some "many"), "many", "Rows.many", defArgs s_Rows_many, defBody s_Rows_many, defScope s_Rows_many, [], []⟩]
def fn1 : List He.DefD := [⟨("Turned", some "many"), "many", "Rows.many", defArgs s_Rows_many, defBody s_Rows_many, defScope s_Rows_many, [], []⟩,
  ⟨("Plain", some "makes"), "makes", "Rows.makes", defArgs s_Rows_makes, defBody s_Rows_makes, defScope s_Rows_makes, [], []⟩,
  ⟨("Turned", some "makes"), "makes", "Rows.makes", defArgs s_Rows_makes, defBody s_Rows_makes, defScope s_Rows_makes, [], []⟩,
  ⟨("Plain", some "tree"), "tree", "Rows.tree", defArgs s_Rows_tree, defBody s_Rows_tree, defScope s_Rows_tree, [], []⟩,
  ⟨("Turned", some "tree"), "tree", "Rows.tree", defArgs s_Rows_tree, defBody s_Rows_tree, defScope s_Rows_tree, [], []⟩,
  ⟨("Plain", some "writer"), "writer", "Rows.writer", defArgs s_Rows_writer, defBody s_Rows_writer, defScope s_Rows_writer, [], []⟩,
  ⟨("Turned", some "writer"), "writer", "Rows.writer", defArgs s_Rows_writer, defBody s_Rows_writer, defScope s_Rows_writer, [], []⟩,
  ⟨("Plain", some "writer_of"), "writer_of", "Rows.writer_of", defArgs s_Rows_writer_of, defBody s_Rows_writer_of, defScope s_Rows_writer_of, [], []⟩,
  ⟨("Turned", some "writer_of"), "writer_of", "Rows.writer_of", defArgs s_Rows_writer_of, defBody s_Rows_writer_of, defScope s_Rows_writer_of, [], []⟩,
  ⟨("Plain", some "need_make"), "need_make", "Rows.need_make", defArgs s_Rows_need_make, defBody s_Rows_need_make, defScope s_Rows_need_make, [], []⟩,
  ⟨("Turned", some "need_make"), "need_make", "Rows.need_make", defArgs s_Rows_need_make, defBody s_Rows_need_make, defScope s_Rows_need_make, [], []⟩,
  ⟨("Plain", some "need_place"), "need_place", "Rows.need_place", defArgs s_Rows_need_place, defBody s_Rows_need_place, defScope s_Rows_need_place, [], []⟩,
  ⟨("Turned", some "need_place"), "need_place", "Rows.need_place", defArgs s_Rows_need_place, defBody s_Rows_need_place, defScope s_Rows_need_place, [], []⟩,
  ⟨("Plain", some "need_stretch"), "need_stretch", "Rows.need_stretch", defArgs s_Rows_need_stretch, defBody s_Rows_need_stretch, defScope s_Rows_need_stretch, [], []⟩,
  ⟨("Turned", some "need_stretch"), "need_stretch", "Rows.need_stretch", defArgs s_Rows_need_stretch, defBody s_Rows_need_stretch, defScope s_Rows_need_stretch, [], []⟩,
  ⟨("Plain", some "need_new"), "need_new", "Rows.need_new", defArgs s_Rows_need_new, defBody s_Rows_need_new, defScope s_Rows_need_new, [], []⟩,
  ⟨("Turned", some "need_new"), "need_new", "Rows.need_new", defArgs s_Rows_need_new, defBody s_Rows_need_new, defScope s_Rows_need_new, [], []⟩,
  ⟨("Plain", some "need_room"), "need_room", "Rows.need_room", defArgs s_Rows_need_room, defBody s_Rows_need_room, defScope s_Rows_need_room, [], []⟩,
  ⟨("Turned", some "need_room"), "need_room", "Rows.need_room", defArgs s_Rows_need_room, defBody s_Rows_need_room, defScope s_Rows_need_room, [], []⟩,
  ⟨("Plain", some "put"), "put", "Rows.put", defArgs s_Rows_put, defBody s_Rows_put, defScope s_Rows_put, [], []⟩,
  ⟨("Turned", some "put"), "put", "Rows.put", defArgs s_Rows_put, defBody s_Rows_put, defScope s_Rows_put, [], []⟩,
  ⟨("Plain", some "put_all"), "put_all", "Rows.put_all", defArgs s_Rows_put_all, defBody s_Rows_put_all, defScope s_Rows_put_all, [], []⟩,
  ⟨("Turned", some "put_all"), "put_all", "Rows.put_all", defArgs s_Rows_put_all, defBody s_Rows_put_all, defScope s_Rows_put_all, [], []⟩,
  ⟨("Plain", some "written"), "written", "Rows.written", defArgs s_Rows_written, defBody s_Rows_written, defScope s_Rows_written, [], []⟩,
  ⟨("Turned", some "written"), "written", "Rows.written", defArgs s_Rows_written, defBody s_Rows_written, defScope s_Rows_written, [], []⟩,
  ⟨("Plain", some "at"), "at", "Rows.at", defArgs s_Rows_at, defBody s_Rows_at, defScope s_Rows_at, [], []⟩,
  ⟨("Turned", some "at"), "at", "Rows.at", defArgs s_Rows_at, defBody s_Rows_at, defScope s_Rows_at, [], []⟩,
  ⟨("Plain", some "row"), "row", "Rows.row", defArgs s_Rows_row, defBody s_Rows_row, defScope s_Rows_row, [], []⟩,
  ⟨("Turned", some "row"), "row", "Rows.row", defArgs s_Rows_row, defBody s_Rows_row, defScope s_Rows_row, [], []⟩,
  ⟨("Plain", some "stretch"), "stretch", "Rows.stretch", defArgs s_Rows_stretch, defBody s_Rows_stretch, defScope s_Rows_stretch, [], []⟩]
def fn2 : List He.DefD := [⟨("Turned", some "stretch"), "stretch", "Rows.stretch", defArgs s_Rows_stretch, defBody s_Rows_stretch, defScope s_Rows_stretch, [], []⟩,
  ⟨("Plain", some "worths_in"), "worths_in", "Rows.worths_in", defArgs s_Rows_worths_in, defBody s_Rows_worths_in, defScope s_Rows_worths_in, [], []⟩,
  ⟨("Turned", some "worths_in"), "worths_in", "Turned.worths_in", defArgs s_Turned_worths_in, defBody s_Turned_worths_in, defScope s_Turned_worths_in, [], []⟩,
  ⟨("Plain", some "let_go"), "let_go", "Rows.let_go", defArgs s_Rows_let_go, defBody s_Rows_let_go, defScope s_Rows_let_go, [], []⟩,
  ⟨("Turned", some "let_go"), "let_go", "Rows.let_go", defArgs s_Rows_let_go, defBody s_Rows_let_go, defScope s_Rows_let_go, [], []⟩,
  ⟨("Plain", some "same_makes"), "same_makes", "Rows.same_makes", defArgs s_Rows_same_makes, defBody s_Rows_same_makes, defScope s_Rows_same_makes, [], []⟩,
  ⟨("Turned", some "same_makes"), "same_makes", "Rows.same_makes", defArgs s_Rows_same_makes, defBody s_Rows_same_makes, defScope s_Rows_same_makes, [], []⟩,
  ⟨("Plain", some "looked"), "looked", "Plain.looked", defArgs s_Plain_looked, defBody s_Plain_looked, defScope s_Plain_looked, [], []⟩,
  ⟨("Plain", some "needed_writes"), "needed_writes", "Rows.needed_writes", defArgs s_Rows_needed_writes, defBody s_Rows_needed_writes, defScope s_Rows_needed_writes, [], []⟩,
  ⟨("Turned", some "noted_way"), "noted_way", "Turned.noted_way", defArgs s_Turned_noted_way, defBody s_Turned_noted_way, defScope s_Turned_noted_way, [], []⟩,
  ⟨("Turned", some "turn"), "turn", "Turned.turn", defArgs s_Turned_turn, defBody s_Turned_turn, defScope s_Turned_turn, [], []⟩,
  ⟨("Turned", some "turn_to"), "turn_to", "Turned.turn_to", defArgs s_Turned_turn_to, defBody s_Turned_turn_to, defScope s_Turned_turn_to, [], []⟩,
  ⟨("Turned", some "read_by"), "read_by", "Turned.read_by", defArgs s_Turned_read_by, defBody s_Turned_read_by, defScope s_Turned_read_by, [], []⟩,
  ⟨("Turned", some "needed_makes"), "needed_makes", "Turned.needed_makes", defArgs s_Turned_needed_makes, defBody s_Turned_needed_makes, defScope s_Turned_needed_makes, [], []⟩,
  ⟨("is_whole", none), "is_whole", "is_whole", defArgs s_is_whole, defBody s_is_whole, defScope s_is_whole, [], []⟩,
  ⟨("is_worth", none), "is_worth", "is_worth", defArgs s_is_worth, defBody s_is_worth, defScope s_is_worth, [], []⟩,
  ⟨("is_worths", none), "is_worths", "is_worths", defArgs s_is_worths, defBody s_is_worths, defScope s_is_worths, [], []⟩,
  ⟨("is_change", none), "is_change", "is_change", defArgs s_is_change, defBody s_is_change, defScope s_is_change, [], []⟩,
  ⟨("is_changes", none), "is_changes", "is_changes", defArgs s_is_changes, defBody s_is_changes, defScope s_is_changes, [], []⟩,
  ⟨("_law_cell", none), "_law_cell", "_law_cell", defArgs s__law_cell, defBody s__law_cell, defScope s__law_cell, [], []⟩,
  ⟨("_law_box", none), "_law_box", "_law_box", defArgs s__law_box, defBody s__law_box, defScope s__law_box, [], []⟩,
  ⟨("_law_take", none), "_law_take", "_law_take", defArgs s__law_take, defBody s__law_take, defScope s__law_take, [], []⟩,
  ⟨("_law_worth", none), "_law_worth", "_law_worth", defArgs s__law_worth, defBody s__law_worth, defScope s__law_worth, [], []⟩,
  ⟨("_law_worths", none), "_law_worths", "_law_worths", defArgs s__law_worths, defBody s__law_worths, defScope s__law_worths, [], []⟩,
  ⟨("_law_model", none), "_law_model", "_law_model", defArgs s__law_model, defBody s__law_model, defScope s__law_model, [], []⟩,
  ⟨("_law_writer", none), "_law_writer", "_law_writer", defArgs s__law_writer, defBody s__law_writer, defScope s__law_writer, [], []⟩,
  ⟨("_law_value", none), "_law_value", "_law_value", defArgs s__law_value, defBody s__law_value, defScope s__law_value, [], []⟩,
  ⟨("_law_line_of", none), "_law_line_of", "_law_line_of", defArgs s__law_line_of, defBody s__law_line_of, defScope s__law_line_of, [], []⟩,
  ⟨("_law_kept", none), "_law_kept", "_law_kept", defArgs s__law_kept, defBody s__law_kept, defScope s__law_kept, [], []⟩,
  ⟨("_law_picked", none), "_law_picked", "_law_picked", defArgs s__law_picked, defBody s__law_picked, defScope s__law_picked, [], []⟩]
def fn3 : List He.DefD := [⟨("_law_grown", none), "_law_grown", "_law_grown", defArgs s__law_grown, defBody s__law_grown, defScope s__law_grown, [], []⟩,
  ⟨("_law_drawn", none), "_law_drawn", "_law_drawn", defArgs s__law_drawn, defBody s__law_drawn, defScope s__law_drawn, [], []⟩,
  ⟨("_law_same", none), "_law_same", "_law_same", defArgs s__law_same, defBody s__law_same, defScope s__law_same, [], []⟩,
  ⟨("_law_deed", none), "_law_deed", "_law_deed", defArgs s__law_deed, defBody s__law_deed, defScope s__law_deed, [], []⟩,
  ⟨("law", none), "law", "law", defArgs s_law, defBody s_law, defScope s_law, [], []⟩]
def fn : List He.DefD := fn0 ++ fn1 ++ fn2 ++ fn3
theorem tx_of {K : PySem.W.Frag} {h : Heap} {mg : Str → Option Value} (X : K.In h) (G : h.Ns mainGlobals mg) (c : He.SaysD fa fn K) (cf : ClsFn K (He.ga K "MakeTree") "__init__" (aM K "__init__")) : Tx K mg := {
  clT := He.cls_ok (c.fact 0),
  nT_owners := He.noat_ok (c.fact 1),
  nT_depths := He.noat_ok (c.fact 2),
  nT_leaping := He.noat_ok (c.fact 3),
  mkT := He.mkr_ok (c.fact 4),
  dT_init := c.def_ 0,
  mT_many := He.meth_ok (c.fact 5),
  dT_many := c.def_ 1,
  mT_need_make := He.meth_ok (c.fact 6),
  dT_need_make := c.def_ 2,
  mT_need_steps := He.meth_ok (c.fact 7),
  dT_need_steps := c.def_ 3,
  mT_grow := He.meth_ok (c.fact 8),
  dT_grow := c.def_ 4,
  mT_lay := He.meth_ok (c.fact 9),
  dT_lay := c.def_ 5,
  mT_own := He.meth_ok (c.fact 10),
  dT_own := c.def_ 6,
  mT_depth := He.meth_ok (c.fact 11),
  dT_depth := c.def_ 7,
  mT_line := He.meth_ok (c.fact 12),
  dT_line := c.def_ 8,
  mT_way := He.meth_ok (c.fact 13),
  dT_way := c.def_ 9,
  mT_leap_way := He.meth_ok (c.fact 14),
  dT_leap_way := c.def_ 10,
  mT_up := He.meth_ok (c.fact 15),
  dT_up := c.def_ 11,
  mT_nearest := He.meth_ok (c.fact 16),
  dT_nearest := c.def_ 12,
  mT_copied := He.meth_ok (c.fact 17),
  dT_copied := c.def_ 13,
  dM_init := c.def_ 14,
  cfM := cf,
  clR := fun b => by cases b; exact (He.cls_ok (c.fact 18)); exact (He.cls_ok (c.fact 19)),
  nR_wide := fun b => by cases b; exact (He.noat_ok (c.fact 20)); exact (He.noat_ok (c.fact 21)),
  nR_grown := fun b => by cases b; exact (He.noat_ok (c.fact 22)); exact (He.noat_ok (c.fact 23)),
  nR_wrote := fun b => by cases b; exact (He.noat_ok (c.fact 24)); exact (He.noat_ok (c.fact 25)),
  nR_gone := fun b => by cases b; exact (He.noat_ok (c.fact 26)); exact (He.noat_ok (c.fact 27)),
  nR_counted := fun b => by cases b; exact (He.noat_ok (c.fact 28)); exact (He.noat_ok (c.fact 29)),
  nP_kept := He.noat_ok (c.fact 30),
  nU_lying := He.noat_ok (c.fact 31),
  nU_here := He.noat_ok (c.fact 32),
  nU_noted := He.noat_ok (c.fact 33),
  mkR := fun b => by cases b; exact (He.mkr_ok (c.fact 34)); exact (He.mkr_ok (c.fact 35)),
  dR_init := fun b => by cases b; exact (c.def_ 15); exact (c.def_ 16),
  mR_begin := fun b => by cases b; exact (He.meth_ok (c.fact 36)); exact (He.meth_ok (c.fact 37)),
  dP_begin := c.def_ 17,
  dU_begin := c.def_ 18,
  mR_add_steps := fun b => by cases b; exact (He.meth_ok (c.fact 38)); exact (He.meth_ok (c.fact 39)),
  dR_add_steps := fun b => by cases b; exact (c.def_ 19); exact (c.def_ 20),
  mR_store := fun b => by cases b; exact (He.meth_ok (c.fact 40)); exact (He.meth_ok (c.fact 41)),
  dP_store := c.def_ 21,
  dU_store := c.def_ 22,
  mR_freed := fun b => by cases b; exact (He.meth_ok (c.fact 42)); exact (He.meth_ok (c.fact 43)),
  dP_freed := c.def_ 23,
  dU_freed := c.def_ 24,
  mR_copied := fun b => by cases b; exact (He.meth_ok (c.fact 44)); exact (He.meth_ok (c.fact 45)),
  dP_copied := c.def_ 25,
  dU_copied := c.def_ 26,
  mR_size := fun b => by cases b; exact (He.meth_ok (c.fact 46)); exact (He.meth_ok (c.fact 47)),
  dR_size := fun b => by cases b; exact (c.def_ 27); exact (c.def_ 28),
  mR_many := fun b => by cases b; exact (He.meth_ok (c.fact 48)); exact (He.meth_ok (c.fact 49)),
  dR_many := fun b => by cases b; exact (c.def_ 29); exact (c.def_ 30),
  mR_makes := fun b => by cases b; exact (He.meth_ok (c.fact 50)); exact (He.meth_ok (c.fact 51)),
  dR_makes := fun b => by cases b; exact (c.def_ 31); exact (c.def_ 32),
  mR_tree := fun b => by cases b; exact (He.meth_ok (c.fact 52)); exact (He.meth_ok (c.fact 53)),
  dR_tree := fun b => by cases b; exact (c.def_ 33); exact (c.def_ 34),
  mR_writer := fun b => by cases b; exact (He.meth_ok (c.fact 54)); exact (He.meth_ok (c.fact 55)),
  dR_writer := fun b => by cases b; exact (c.def_ 35); exact (c.def_ 36),
  mR_writer_of := fun b => by cases b; exact (He.meth_ok (c.fact 56)); exact (He.meth_ok (c.fact 57)),
  dR_writer_of := fun b => by cases b; exact (c.def_ 37); exact (c.def_ 38),
  mR_need_make := fun b => by cases b; exact (He.meth_ok (c.fact 58)); exact (He.meth_ok (c.fact 59)),
  dR_need_make := fun b => by cases b; exact (c.def_ 39); exact (c.def_ 40),
  mR_need_place := fun b => by cases b; exact (He.meth_ok (c.fact 60)); exact (He.meth_ok (c.fact 61)),
  dR_need_place := fun b => by cases b; exact (c.def_ 41); exact (c.def_ 42),
  mR_need_stretch := fun b => by cases b; exact (He.meth_ok (c.fact 62)); exact (He.meth_ok (c.fact 63)),
  dR_need_stretch := fun b => by cases b; exact (c.def_ 43); exact (c.def_ 44),
  mR_need_new := fun b => by cases b; exact (He.meth_ok (c.fact 64)); exact (He.meth_ok (c.fact 65)),
  dR_need_new := fun b => by cases b; exact (c.def_ 45); exact (c.def_ 46),
  mR_need_room := fun b => by cases b; exact (He.meth_ok (c.fact 66)); exact (He.meth_ok (c.fact 67)),
  dR_need_room := fun b => by cases b; exact (c.def_ 47); exact (c.def_ 48),
  mR_put := fun b => by cases b; exact (He.meth_ok (c.fact 68)); exact (He.meth_ok (c.fact 69)),
  dR_put := fun b => by cases b; exact (c.def_ 49); exact (c.def_ 50),
  mR_put_all := fun b => by cases b; exact (He.meth_ok (c.fact 70)); exact (He.meth_ok (c.fact 71)),
  dR_put_all := fun b => by cases b; exact (c.def_ 51); exact (c.def_ 52),
  mR_written := fun b => by cases b; exact (He.meth_ok (c.fact 72)); exact (He.meth_ok (c.fact 73)),
  dR_written := fun b => by cases b; exact (c.def_ 53); exact (c.def_ 54),
  mR_at := fun b => by cases b; exact (He.meth_ok (c.fact 74)); exact (He.meth_ok (c.fact 75)),
  dR_at := fun b => by cases b; exact (c.def_ 55); exact (c.def_ 56),
  mR_row := fun b => by cases b; exact (He.meth_ok (c.fact 76)); exact (He.meth_ok (c.fact 77)),
  dR_row := fun b => by cases b; exact (c.def_ 57); exact (c.def_ 58),
  mR_stretch := fun b => by cases b; exact (He.meth_ok (c.fact 78)); exact (He.meth_ok (c.fact 79)),
  dR_stretch := fun b => by cases b; exact (c.def_ 59); exact (c.def_ 60),
  mR_worths_in := fun b => by cases b; exact (He.meth_ok (c.fact 80)); exact (He.meth_ok (c.fact 81)),
  dP_worths_in := c.def_ 61,
  dU_worths_in := c.def_ 62,
  mR_let_go := fun b => by cases b; exact (He.meth_ok (c.fact 82)); exact (He.meth_ok (c.fact 83)),
  dR_let_go := fun b => by cases b; exact (c.def_ 63); exact (c.def_ 64),
  mR_same_makes := fun b => by cases b; exact (He.meth_ok (c.fact 84)); exact (He.meth_ok (c.fact 85)),
  dR_same_makes := fun b => by cases b; exact (c.def_ 65); exact (c.def_ 66),
  mP_looked := He.meth_ok (c.fact 86),
  dP_looked := c.def_ 67,
  mP_needed_writes := He.meth_ok (c.fact 87),
  dP_needed_writes := c.def_ 68,
  mU_noted_way := He.meth_ok (c.fact 88),
  dU_noted_way := c.def_ 69,
  mU_turn := He.meth_ok (c.fact 89),
  dU_turn := c.def_ 70,
  mU_turn_to := He.meth_ok (c.fact 90),
  dU_turn_to := c.def_ 71,
  mU_read_by := He.meth_ok (c.fact 91),
  dU_read_by := c.def_ 72,
  mU_needed_makes := He.meth_ok (c.fact 92),
  dU_needed_makes := c.def_ 73,
  g_MakeTree := He.glo_ok X G (c.fact 93),
  g_LeapTree := He.glo_ok X G (c.fact 94),
  g_Plain := He.glo_ok X G (c.fact 95),
  g_Turned := He.glo_ok X G (c.fact 96),
  g_is_whole := He.glo_ok X G (c.fact 97),
  d_is_whole := c.def_ 74,
  g_is_worth := He.glo_ok X G (c.fact 98),
  d_is_worth := c.def_ 75,
  g_is_worths := He.glo_ok X G (c.fact 99),
  d_is_worths := c.def_ 76,
  g_is_change := He.glo_ok X G (c.fact 100),
  d_is_change := c.def_ 77,
  g_is_changes := He.glo_ok X G (c.fact 101),
  d_is_changes := c.def_ 78,
  g__law_cell := He.glo_ok X G (c.fact 102),
  d__law_cell := c.def_ 79,
  g__law_box := He.glo_ok X G (c.fact 103),
  d__law_box := c.def_ 80,
  g__law_take := He.glo_ok X G (c.fact 104),
  d__law_take := c.def_ 81,
  g__law_worth := He.glo_ok X G (c.fact 105),
  d__law_worth := c.def_ 82,
  g__law_worths := He.glo_ok X G (c.fact 106),
  d__law_worths := c.def_ 83,
  g__law_model := He.glo_ok X G (c.fact 107),
  d__law_model := c.def_ 84,
  g__law_writer := He.glo_ok X G (c.fact 108),
  d__law_writer := c.def_ 85,
  g__law_value := He.glo_ok X G (c.fact 109),
  d__law_value := c.def_ 86,
  g__law_line_of := He.glo_ok X G (c.fact 110),
  d__law_line_of := c.def_ 87,
  g__law_kept := He.glo_ok X G (c.fact 111),
  d__law_kept := c.def_ 88,
  g__law_picked := He.glo_ok X G (c.fact 112),
  d__law_picked := c.def_ 89,
  g__law_grown := He.glo_ok X G (c.fact 113),
  d__law_grown := c.def_ 90,
  g__law_drawn := He.glo_ok X G (c.fact 114),
  d__law_drawn := c.def_ 91,
  g__law_same := He.glo_ok X G (c.fact 115),
  d__law_same := c.def_ 92,
  g__law_deed := He.glo_ok X G (c.fact 116),
  d__law_deed := c.def_ 93,
  g_law := He.glo_ok X G (c.fact 117),
  d_law := c.def_ 94,
  i_MOST_PLACES := He.int_ok X G (c.fact 118),
  i_MOST_CHANGES := He.int_ok X G (c.fact 119),
  i_MOST_MAKES := He.int_ok X G (c.fact 120),
  f_len := He.free_ok X G (c.fact 121),
  f_isinstance := He.free_ok X G (c.fact 122),
  f_int := He.free_ok X G (c.fact 123),
  f_bool := He.free_ok X G (c.fact 124),
  f_list := He.free_ok X G (c.fact 125),
  f_tuple := He.free_ok X G (c.fact 126),
  f_all := He.free_ok X G (c.fact 127),
  f_range := He.free_ok X G (c.fact 128),
  f_enumerate := He.free_ok X G (c.fact 129),
  f_reversed := He.free_ok X G (c.fact 130),
  f_sorted := He.free_ok X G (c.fact 131),
  f_dict := He.free_ok X G (c.fact 132),
  f_repr := He.free_ok X G (c.fact 133),
  f_max := He.free_ok X G (c.fact 134),
  f_min := He.free_ok X G (c.fact 135) }
end MK

set_option Elab.async false
set_option linter.all false
set_option maxRecDepth 100000
set_option maxHeartbeats 4000000
/-! walks of makeskept.kinds -/
namespace MK
open PySem PySem.Spec PyProof.Rows L2
theorem boot_isi : bootBuiltins ("isinstance" : Str) = some (.builtin "isinstance") := by decide +kernel
theorem boot_intT : bootBuiltins ("int" : Str) = some (.type "int") := by decide +kernel
theorem boot_boolT : bootBuiltins ("bool" : Str) = some (.type "bool") := by decide +kernel
theorem boot_listT : bootBuiltins ("list" : Str) = some (.type "list") := by decide +kernel
theorem boot_tupT : bootBuiltins ("tuple" : Str) = some (.type "tuple") := by decide +kernel
theorem kit_ii {K : PySem.W.Frag} : PySem.W.kitOne K (.type "int") (.type "int") = some true := kit_ty (by decide +kernel)
theorem kit_ib {K : PySem.W.Frag} : PySem.W.kitOne K (.type "int") (.type "bool") = some false := kit_ty (by decide +kernel)
theorem kit_ll {K : PySem.W.Frag} : PySem.W.kitOne K (.type "list") (.type "list") = some true := kit_ty (by decide +kernel)
theorem kit_tt {K : PySem.W.Frag} : PySem.W.kitOne K (.type "tuple") (.type "tuple") = some true := kit_ty (by decide +kernel)
theorem iteN {c A B : Prop} [Decidable c] (hc : ¬ c) (h : B) : if decide c = true then A else B := by
  rw [decide_eq_false hc]; exact iteF h
theorem iteY {c A B : Prop} [Decidable c] (hc : c) (h : A) : if decide c = true then A else B := by
  rw [decide_eq_true hc]; exact iteT h
theorem iteNN {c A B : Prop} [Decidable c] (hc : ¬ c) (h : A) : if (!decide c) = true then A else B := by
  rw [decide_eq_false hc]; exact iteT h
theorem bl_eq {Q : VK} {H : Hp} {b c : Bool} (q : Q (.bl b) H) (e : b = c) : Q (.bl c) H := e ▸ q
section
variable {P : Program} {w : World} {K : PySem.W.Frag} {mg : Str → Option Value} {base : Heap}
def spWhole : Sp := fun vs H Q _ => ∃ i lo hi : Int, vs = [.int i, .int lo, .int hi] ∧ Q (.bl (decide (lo ≤ i ∧ i ≤ hi))) H
theorem ok_is_whole (T : Tx K mg) : Fc P w K mg base 1 (aF K "is_whole") ["thing", "low", "high"] spWhole := by
  refine Fc.mk' T.d_is_whole c_is_whole (fun vs H Q E h => ?_) (fun _ _ _ _ _ _ us hl => match us, hl with | [_, _, _], _ => rfl) (fun cdv A outer s H vs Q E hr h => ?_)
  · obtain ⟨i, lo, hi, rfl, _⟩ := h; rfl
  obtain ⟨i, lo, hi, rfl, q⟩ := h
  refine ⟨_, pss_one (ps_ret (pe_and (pe_callB call_isi rfl T.f_isinstance boot_isi (pa_cons (pv 0) (pa_cons (pe_bltn (v := .ty "int") rfl T.f_int boot_intT rfl) pa_nil)))
    (pe_and (pe_not (pe_callB call_isi rfl T.f_isinstance boot_isi (pa_cons (pv 0) (pa_cons (pe_bltn (v := .ty "bool") rfl T.f_bool boot_boolT rfl) pa_nil))))
    (pe_one (pe_chain op_le op_le (pv 1) (pv 0) (pv 2)))))), ?_⟩
  refine ⟨_, rfl, _, _, _, _, _, rfl, .ty _, .base (.int _), kit_ii, _, rfl, iteT ?_⟩
  refine ⟨_, rfl, _, _, _, _, _, rfl, .ty _, .base (.int _), kit_ib, _, rfl, _, rfl, iteT ?_⟩
  refine ⟨_, rfl, _, rfl, _, _, rfl, rfl, _, rfl, ?_⟩
  by_cases h1 : lo ≤ i
  · rw [if_pos (by simpa using h1)]
    refine ⟨_, rfl, _, _, rfl, rfl, ?_⟩
    exact bl_eq q (by simp [h1])
  · rw [if_neg (by simpa using h1)]
    exact bl_eq q (by simp [h1])
instance (w : Int) : Decidable (okW w) := by unfold okW; infer_instance
def spWorth : Sp := fun vs H Q _ => ∃ i : Int, vs = [.int i] ∧ okW i ∧ Q (.bl true) H
theorem ok_is_worth (T : Tx K mg) : Fc P w K mg base 2 (aF K "is_worth") ["thing"] spWorth := by
  refine Fc.mk' T.d_is_worth c_is_worth (fun vs H Q E h => ?_) (fun _ _ _ _ _ _ us hl => match us, hl with | [_], _ => rfl) (fun cdv A outer s H vs Q E hr h => ?_)
  · obtain ⟨i, rfl, _⟩ := h; rfl
  obtain ⟨i, rfl, ok, q⟩ := h
  refine ⟨_, pss_cons (ps_set (i := 1) c_is_worth.nd rfl (.inl rfl) (pe_op op_sub (pe_op op_pow pe_int pe_int) pe_int))
    (pss_one (ps_ret (qc (ok_is_whole T) hr rfl T.g_is_whole (pa_cons (pv 0) (pa_cons (pe_op op_sub pe_int (pv 1)) (pa_cons (pv 1) pa_nil)))))), ?_⟩
  refine ⟨_, _, rfl, rfl, ⟨by decide, by decide, by decide⟩, _, _, rfl, rfl, ?_⟩
  refine ⟨_, rfl, _, rfl, _, _, rfl, rfl, _, rfl, _, _, _, rfl, ?_⟩
  exact bl_eq q (decide_eq_true (show (0 - (10 ^ (30 : Int).toNat - 1) : Int) ≤ i ∧ i ≤ 10 ^ (30 : Int).toNat - 1 from by
    obtain ⟨h1, h2⟩ := ok
    have e : (10 : Int) ^ (30 : Int).toNat - 1 = big := rfl
    rw [e]; omega)).symm
def spWorths : Sp := fun vs H Q _ => ∃ (a : Addr) (ns : List Int), vs = [.ref a] ∧ H a = some (.lst (ns.map V.int)) ∧ 1 ≤ ns.length ∧ ns.length ≤ 16 ∧ (∀ n ∈ ns, okW n) ∧ ∀ H', Same H H' → Q (.bl true) H'
theorem ok_is_worths (T : Tx K mg) : Fc P w K mg base 3 (aF K "is_worths") ["thing"] spWorths := by
  refine Fc.mk' T.d_is_worths c_is_worths (fun vs H Q E h => ?_) (fun _ _ _ _ _ _ us hl => match us, hl with | [_], _ => rfl) (fun cdv A outer s H vs Q E hr h => ?_)
  · obtain ⟨a, ns, rfl, _⟩ := h; rfl
  obtain ⟨a, ns, rfl, ha, l1, l2, ok, q⟩ := h
  obtain ⟨t16, i16⟩ := T.i_MOST_PLACES
  refine ⟨_, pss_cons (ps_if (PW.pt (pw_or (pt_not (pt_val (pe_callB call_isiT rfl T.f_isinstance boot_isi (pa_cons (pv 0) (pa_cons (pe_tup (pa_cons (pe_bltn (v := .ty "list") rfl T.f_list boot_listT rfl) (pa_cons (pe_bltn (v := .ty "tuple") rfl T.f_tuple boot_tupT rfl) pa_nil))) pa_nil)))))
      (pw_or1 (pt_not (pt_chain op_le op_le pe_int (pe_callB call_len_seq rfl T.f_len PySem.boot_len (pa_cons (pv 0) pa_nil)) (pe_glob (v := .int 16) rfl i16 ⟨_, rfl⟩)))))) (pss_one (ps_ret pe_bl)) pss_nil)
    (pss_one (ps_ret (pe_callB (cr_all rfl) rfl T.f_all (by decide +kernel) (pa_cons (pe_lc (own := [("worth", 1)]) (g := gName 1) (tt := tYes) rfl c_is_worths.nd (pi_list (pv 0)) (blkOk_by (N := ["thing", "worth"]) (sc := defScope s_is_worths) (by decide +kernel))
      (fun _ _ _ _ _ => pg_name (i := 1) c_is_worths.nd rfl (.inl rfl)) (fun _ _ _ _ _ => pts_nil) (fun _ _ _ _ _ => qc (ok_is_worth T) hr rfl T.g_is_worth (pa_cons (pv 1) pa_nil))) pa_nil)))), ?_⟩
  refine ⟨_, rfl, by decide, fun p hp => ?_⟩
  have ha1 : ∀ o, (upd H p o) a = some (.lst (ns.map V.int)) := fun o => by rw [upd_ne (ne_of_none ha hp)]; exact ha
  refine ⟨_, p, _, _, _, _, rfl, upd_same, .cons (.ty _) (.cons (.ty _) .nil), .base (.lst (ha1 _)), kitAny_cons kit_ll (fun z => nomatch z) (fun _ => rfl), true, rfl, iteF ?_⟩
  refine ⟨_, rfl, a, _, rfl, .inl (SqL.of (ha1 _)), _, _, rfl, rfl, _, rfl, ?_⟩
  rw [List.length_map, if_pos (by simp; omega)]
  refine ⟨_, _, rfl, rfl, _, rfl, ?_⟩
  refine iteNS (show ((ns.length : Nat) : Int) ≤ 16 from by omega) ?_
  refine ⟨_, rfl, a, rfl, ⟨_, SqL.of (ha1 _)⟩, fun D hD => ?_⟩
  have s1 : Same H (upd H p (.tup [V.ty "list", V.ty "tuple"])) := fun b o e => by rw [upd_ne (ne_of_none e hp)]; exact e
  refine lc_list (K := K) (a := a) (xs := ns.map V.int) (fun i H2 => H2 D = some (.lst (List.replicate i (V.bl true))) ∧ Same H H2 ∧ H2 a = some (.lst (ns.map V.int))) ⟨upd_same, fun b o e => ?_, ?_⟩ (fun i H2 _ h => SqL.of h.2.2) ?_ ?_
  · rw [upd_ne (ne_of_none (s1 b o e) hD)]; exact s1 b o e
  · rw [upd_ne (ne_of_none (ha1 _) hD)]; exact ha1 _
  · rintro i x H2 hx ⟨h1, h2, h3⟩
    rw [List.getElem?_map] at hx
    obtain ⟨n, hn, rfl⟩ : ∃ n, ns[i]? = some n ∧ V.int n = x := by
      cases e : ns[i]? with
      | none => rw [e] at hx; cases hx
      | some n => rw [e] at hx; exact ⟨n, rfl, Option.some.inj hx⟩
    have hi := (List.getElem?_eq_some_iff.mp hn).1
    refine ⟨rfl, _, rfl, n, rfl, ok n (List.mem_of_getElem? hn), _, h1, ?_, ?_, fun b o e => ?_, ?_⟩
    · rw [List.length_replicate]; exact small1000 (by omega)
    · rw [upd_same, List.replicate_succ']
    · rw [upd_ne (fun z => by rw [z] at e; rw [h2 D o e] at h1; rw [s1.free hD] at e; cases e)]; exact h2 b o e
    · rw [upd_ne (ne_of_none (ha1 _) hD)]; exact h3
  · rintro H2 ⟨h1, h2, h3⟩
    rw [List.length_map] at h1
    refine ⟨D, List.replicate ns.length true, rfl, SqL.of (by rw [List.map_replicate]; exact h1), ?_⟩
    exact bl_eq (q H2 h2) (by simp)
/-- a change of a row of so many places stands at t -/
def ChAt (H : Hp) (size : Nat) (t : Addr) (p : Nat) (v : Int) : Prop := H t = some (.tup [.int (p : Int), .int v]) ∧ p < size ∧ okW v
def spChange : Sp := fun vs H Q _ => ∃ (t : Addr) (size p : Nat) (v : Int), vs = [.ref t, .int (size : Int)] ∧ ChAt H size t p v ∧ Q (.bl true) H
theorem ok_is_change (T : Tx K mg) : Fc P w K mg base 3 (aF K "is_change") ["thing", "size"] spChange := by
  refine Fc.mk' T.d_is_change c_is_change (fun vs H Q E h => ?_) (fun _ _ _ _ _ _ us hl => match us, hl with | [_, _], _ => rfl) (fun cdv A outer s H vs Q E hr h => ?_)
  · obtain ⟨t, size, p, v, rfl, _⟩ := h; rfl
  obtain ⟨t, size, p, v, rfl, ⟨ht, hp, hv⟩, q⟩ := h
  refine ⟨_, pss_cons (ps_if (PW.pt (pw_or (pt_not (pt_val (pe_callB call_isi rfl T.f_isinstance boot_isi (pa_cons (pv 0) (pa_cons (pe_bltn (v := .ty "tuple") rfl T.f_tuple boot_tupT rfl) pa_nil)))))
      (pw_or1 (pt_cmpR op_ne (pe_callB call_len_seq rfl T.f_len PySem.boot_len (pa_cons (pv 0) pa_nil)) pe_int (nomark _))))) (pss_one (ps_ret pe_bl)) pss_nil)
    (pss_one (ps_ret (pe_and (qc (ok_is_whole T) (hr.mono (by decide)) rfl T.g_is_whole (pa_cons (pe_ix ix_tup (pv 0) pe_int (fun _ _ => rfl)) (pa_cons pe_int (pa_cons (pe_op op_sub (pv 1) pe_int) pa_nil))))
      (pe_one (qc (ok_is_worth T) hr rfl T.g_is_worth (pa_cons (pe_ix ix_tup (pv 0) pe_int (fun _ _ => rfl)) pa_nil)))))), ?_⟩
  refine ⟨_, rfl, _, _, _, _, _, rfl, .ty _, .base (.tup ht), kit_tt, _, rfl, iteF ?_⟩
  refine ⟨_, rfl, t, _, rfl, .inr (SqT.of ht), rfl, _, rfl, iteF ?_⟩
  refine ⟨_, rfl, t, _, _, _, rfl, rfl, SqT.of ht, atI_nat (j := 0) rfl, _, rfl, _, _, rfl, rfl, _, _, _, rfl, _, rfl, ?_⟩
  rw [if_pos (decide_eq_true (show (0 : Int) ≤ (p : Int) ∧ (p : Int) ≤ (size : Int) - 1 from by omega))]
  exact ⟨_, rfl, t, _, _, _, rfl, rfl, SqT.of ht, atI_nat (j := 1) rfl, v, rfl, hv, q⟩
def spChanges : Sp := fun vs H Q _ => ∃ (a : Addr) (size : Nat) (ts : List Addr) (cs : List (Nat × Int)), vs = [.ref a, .int (size : Int)] ∧ H a = some (.lst (ts.map V.ref)) ∧ ts.length ≤ 20 ∧ Paired (fun t c => ChAt H size t c.1 c.2) ts cs ∧ ∀ H', Same H H' → Q (.bl true) H'
theorem ch_at {R : Addr → Nat × Int → Prop} : ∀ {ts : List Addr} {cs : List (Nat × Int)} {i : Nat} {t : Addr}, Paired R ts cs → ts[i]? = some t → ∃ c, cs[i]? = some c ∧ R t c
  | _, _, i, t, .nil, h => by simp at h
  | _, _, 0, t, .cons f _, h => by
    simp only [List.getElem?_cons_zero, Option.some.injEq] at h
    subst h
    exact ⟨_, rfl, f⟩
  | _, _, i + 1, t, .cons _ r, h => by
    simp only [List.getElem?_cons_succ] at h
    obtain ⟨c, h1, h2⟩ := ch_at (i := i) r h
    exact ⟨c, by rw [List.getElem?_cons_succ]; exact h1, h2⟩
theorem ok_is_changes (T : Tx K mg) : Fc P w K mg base 4 (aF K "is_changes") ["thing", "size"] spChanges := by
  refine Fc.mk' T.d_is_changes c_is_changes (fun vs H Q E h => ?_) (fun _ _ _ _ _ _ us hl => match us, hl with | [_, _], _ => rfl) (fun cdv A outer s H vs Q E hr h => ?_)
  · obtain ⟨a, size, ts, cs, rfl, _⟩ := h; rfl
  obtain ⟨a, size, ts, cs, rfl, ha, l2, pc, q⟩ := h
  obtain ⟨t20, i20⟩ := T.i_MOST_CHANGES
  refine ⟨_, pss_cons (ps_if (PW.pt (pw_or (pt_not (pt_val (pe_callB call_isiT rfl T.f_isinstance boot_isi (pa_cons (pv 0) (pa_cons (pe_tup (pa_cons (pe_bltn (v := .ty "list") rfl T.f_list boot_listT rfl) (pa_cons (pe_bltn (v := .ty "tuple") rfl T.f_tuple boot_tupT rfl) pa_nil))) pa_nil)))))
      (pw_or1 (pt_cmpR op_gt (pe_callB call_len_seq rfl T.f_len PySem.boot_len (pa_cons (pv 0) pa_nil)) (pe_glob (v := .int 20) rfl i20 ⟨_, rfl⟩) (nomark _))))) (pss_one (ps_ret pe_bl)) pss_nil)
    (pss_one (ps_ret (pe_callB (cr_all rfl) rfl T.f_all (by decide +kernel) (pa_cons (pe_lc (own := [("change", 2)]) (g := gName 2) (tt := tYes) rfl c_is_changes.nd (pi_list (pv 0)) (blkOk_by (N := ["thing", "size", "change"]) (sc := defScope s_is_changes) (by decide +kernel))
      (fun _ _ _ _ _ => pg_name (i := 2) c_is_changes.nd rfl (.inl rfl)) (fun _ _ _ _ _ => pts_nil) (fun _ _ _ _ _ => qc (ok_is_change T) hr rfl T.g_is_change (pa_cons (pv 2) (pa_cons (pv 1) pa_nil)))) pa_nil)))), ?_⟩
  refine ⟨_, rfl, by decide, fun p hp => ?_⟩
  have ha1 : ∀ o, (upd H p o) a = some (.lst (ts.map V.ref)) := fun o => by rw [upd_ne (ne_of_none ha hp)]; exact ha
  refine ⟨_, p, _, _, _, _, rfl, upd_same, .cons (.ty _) (.cons (.ty _) .nil), .base (.lst (ha1 _)), kitAny_cons kit_ll (fun z => nomatch z) (fun _ => rfl), true, rfl, iteF ?_⟩
  refine ⟨_, rfl, a, _, rfl, .inl (SqL.of (ha1 _)), _, _, rfl, rfl, _, rfl, iteN (by rw [List.length_map]; omega) ?_⟩
  refine ⟨_, rfl, a, rfl, ⟨_, SqL.of (ha1 _)⟩, fun D hD => ?_⟩
  have s1 : Same H (upd H p (.tup [V.ty "list", V.ty "tuple"])) := fun b o e => by rw [upd_ne (ne_of_none e hp)]; exact e
  refine lc_list (K := K) (a := a) (xs := ts.map V.ref) (fun i H2 => H2 D = some (.lst (List.replicate i (V.bl true))) ∧ Same H H2 ∧ H2 a = some (.lst (ts.map V.ref))) ⟨upd_same, fun b o e => ?_, ?_⟩ (fun i H2 _ h => SqL.of h.2.2) ?_ ?_
  · rw [upd_ne (ne_of_none (s1 b o e) hD)]; exact s1 b o e
  · rw [upd_ne (ne_of_none (ha1 _) hD)]; exact ha1 _
  · rintro i x H2 hx ⟨h1, h2, h3⟩
    rw [List.getElem?_map] at hx
    obtain ⟨t, hn, rfl⟩ : ∃ n, ts[i]? = some n ∧ V.ref n = x := by
      cases e : ts[i]? with
      | none => rw [e] at hx; cases hx
      | some n => rw [e] at hx; exact ⟨n, rfl, Option.some.inj hx⟩
    have hi := (List.getElem?_eq_some_iff.mp hn).1
    obtain ⟨c, _, c1, c2, c3⟩ := ch_at pc hn
    refine ⟨rfl, _, rfl, _, rfl, t, size, c.1, c.2, rfl, ⟨h2 _ _ c1, c2, c3⟩, _, h1, ?_, ?_, fun b o e => ?_, ?_⟩
    · rw [List.length_replicate]; exact small1000 (by omega)
    · rw [upd_same, List.replicate_succ']
    · rw [upd_ne (fun z => by rw [z] at e; rw [s1.free hD] at e; cases e)]; exact h2 b o e
    · rw [upd_ne (ne_of_none (ha1 _) hD)]; exact h3
  · rintro H2 ⟨h1, h2, h3⟩
    rw [List.length_map] at h1
    refine ⟨D, List.replicate ts.length true, rfl, SqL.of (by rw [List.map_replicate]; exact h1), ?_⟩
    exact bl_eq (q H2 h2) (by simp)
end
end MK

set_option Elab.async false
set_option linter.all false
set_option maxRecDepth 100000
set_option maxHeartbeats 4000000
/-! what stands in the heap: owned addresses with roles, what is kept, trees, rows -/
namespace MK
open PySem PySem.Spec PyProof.Rows L2
/-- roles of addresses; 0: not owned -/
abbrev Ow := Addr → Nat
def isTup : HO → Prop
  | .tup _ => True
  | _ => False
/-- what is not owned, and every tuple, stands as it stood -/
structure Keep (W : Ow) (H H' : Hp) : Prop where
  k : ∀ b o, H b = some o → (W b = 0 ∨ isTup o) → H' b = some o
  th : ∀ b, H' b = none → H b = none
/-- the owned addresses are old ones or new -/
def Grow (W W' : Ow) (H : Hp) : Prop := ∀ b, W' b ≠ 0 → W b ≠ 0 ∨ H b = none
/-- what is owned is there -/
def Has (W : Ow) (H : Hp) : Prop := ∀ b, W b ≠ 0 → H b ≠ none
/-- nothing in common -/
def Dis (W V : Ow) : Prop := ∀ b, W b = 0 ∨ V b = 0
theorem Keep.refl {W : Ow} {H : Hp} : Keep W H H := ⟨fun _ _ e _ => e, fun _ e => e⟩
theorem Keep.same {W : Ow} {H H' : Hp} (s : Same H H') : Keep W H H' := ⟨fun b o e _ => s b o e, fun b e => s.free e⟩
theorem Grow.refl {W : Ow} {H : Hp} : Grow W W H := fun _ h => .inl h
theorem Keep.free {W : Ow} {H H' : Hp} (k : Keep W H H') {b : Addr} (h : H' b = none) : H b = none := k.th b h
theorem Keep.trans' {W W1 : Ow} {H H1 H2 : Hp} (a : Keep W H H1) (g : Grow W W1 H) (b : Keep W1 H1 H2) : Keep W H H2 :=
  ⟨fun c o e h => b.k c o (a.k c o e h) (h.elim (fun z => by
    by_cases q : W1 c = 0
    · exact .inl q
    · rcases g c q with y | y
      · exact absurd z y
      · rw [e] at y; cases y) .inr), fun c e => a.th c (b.th c e)⟩
theorem Keep.trans {W : Ow} {H H1 H2 : Hp} (a : Keep W H H1) (b : Keep W H1 H2) : Keep W H H2 := a.trans' Grow.refl b
theorem Grow.trans {W W1 W2 : Ow} {H H1 : Hp} (th : ∀ b, H1 b = none → H b = none) (a : Grow W W1 H) (b : Grow W1 W2 H1) : Grow W W2 H := fun c h => by
  rcases b c h with q | q
  · exact a c q
  · exact .inr (th c q)
/-- a write at an owned address (or a new one) that holds no tuple -/
theorem Keep.set {W : Ow} {H H' : Hp} (k : Keep W H H') {a : Addr} {o o1 : HO} (ha : W a ≠ 0 ∨ H a = none) (h1 : H' a = some o1) (nt : ¬ isTup o1) : Keep W H (upd H' a o) := by
  refine ⟨fun b u e h => ?_, fun b e => ?_⟩
  · by_cases q : b = a
    · subst q
      rcases ha with z | z
      · have t := h.resolve_left z
        have := k.k b u e (.inr t)
        rw [h1] at this
        cases this
        exact absurd t nt
      · rw [e] at z; cases z
    · rw [upd_ne q]; exact k.k b u e h
  · by_cases q : b = a
    · subst q; rw [upd_same] at e; cases e
    · rw [upd_ne q] at e; exact k.th b e
/-- something new is laid -/
theorem Keep.new {W : Ow} {H H' : Hp} (k : Keep W H H') {a : Addr} {o : HO} (h : H' a = none) : Keep W H (upd H' a o) := by
  refine ⟨fun b u e z => ?_, fun b e => ?_⟩
  · have t := k.k b u e z
    rw [upd_ne (ne_of_none t h)]; exact t
  · by_cases q : b = a
    · subst q; rw [upd_same] at e; cases e
    · rw [upd_ne q] at e; exact k.th b e
theorem Same.new {H H' : Hp} (k : Same H H') {a : Addr} {o : HO} (h : H' a = none) : Same H (upd H' a o) := fun b u e => by
  have t := k b u e
  rw [upd_ne (ne_of_none t h)]; exact t
/-- a write at an address that was new -/
theorem Same.set {H H' : Hp} (k : Same H H') {a : Addr} {o : HO} (h : H a = none) : Same H (upd H' a o) := fun b u e => by
  rw [upd_ne (ne_of_none e h)]; exact k b u e
theorem Same.keep {W : Ow} {H H' : Hp} (k : Same H H') : Keep W H H' := Keep.same k
theorem role_ne {W : Ow} {a b : Addr} {i j : Nat} (ha : W a = i) (hb : W b = j) (h : i ≠ j) : a ≠ b := fun e => h (by rw [← ha, ← hb, e])
theorem Has.new {W : Ow} {H : Hp} (h : Has W H) {a : Addr} (n : H a = none) : W a = 0 := by
  by_cases q : W a = 0
  · exact q
  · exact absurd n (h a q)
theorem Has.keep {W : Ow} {H H' : Hp} {V : Ow} (h : Has W H) (k : Keep V H H') : Has W H' := fun b hb e => h b hb (k.th b e)
/-- a role given -/
def rol (W : Ow) (a : Addr) (i : Nat) : Ow := fun b => if b = a then i else W b
theorem rol_same {W : Ow} {a : Addr} {i : Nat} : rol W a i a = i := if_pos rfl
theorem rol_ne {W : Ow} {a b : Addr} {i : Nat} (h : b ≠ a) : rol W a i b = W b := if_neg h
theorem Dis.symm {W V : Ow} (d : Dis W V) : Dis V W := fun b => (d b).symm
theorem Dis.grow {W W' V : Ow} {H : Hp} (d : Dis W V) (g : Grow W W' H) (h : Has V H) : Dis W' V := fun b => by
  by_cases q : W' b = 0
  · exact .inl q
  · rcases g b q with z | z
    · exact .inr ((d b).resolve_left z)
    · exact .inr (h.new z)

/-! ### trees -/
def ownV (own : Nat → Nat) : Nat → V := fun i => if i = 0 then .non else .int ((own i : Nat) : Int)
def depV (own : Nat → Nat) : Nat → V := fun i => .int ((dep own i : Nat) : Int)
def lpV (own : Nat → Nat) (i : Nat) : List V := (List.range (llen (dep own i))).map fun j => .int ((up own (2 ^ j) i : Nat) : Int)
def fsT (ao ad al : Addr) : List (Str × V) := [("owners", .ref ao), ("depths", .ref ad), ("leaping", .ref al)]
structure TAd where
  t : Addr
  dx : Addr
  ao : Addr
  ad : Addr
  al : Addr
  la : Nat → Addr
structure TreeIn (A : TAd) (K : PySem.W.Frag) (H : Hp) (W : Ow) (n : Nat) (own : Nat → Nat) : Prop where
  ht : H A.t = some (.ins (CT K) A.dx (fsT A.ao A.ad A.al))
  ho : H A.ao = some (.lst ((List.range n).map (ownV own)))
  hd : H A.ad = some (.lst ((List.range n).map (depV own)))
  hl : H A.al = some (.lst ((List.range n).map fun i => .ref (A.la i)))
  hi : ∀ i, i < n → H (A.la i) = some (.lst (lpV own i))
  rt : W A.t = 1
  ro : W A.ao = 2
  rd : W A.ad = 3
  rl : W A.al = 4
  ri : ∀ i, i < n → W (A.la i) = 5
/-- a tree stands as long as its addresses do -/
theorem TreeIn.at' {A : TAd} {K : PySem.W.Frag} {H H' : Hp} {W W' : Ow} {n : Nat} {own : Nat → Nat} (T : TreeIn A K H W n own) (h : ∀ b o i, H b = some o → W b = i → 1 ≤ i → i ≤ 5 → H' b = some o ∧ W' b = i) : TreeIn A K H' W' n own :=
  ⟨(h _ _ _ T.ht T.rt (by decide) (by decide)).1, (h _ _ _ T.ho T.ro (by decide) (by decide)).1, (h _ _ _ T.hd T.rd (by decide) (by decide)).1, (h _ _ _ T.hl T.rl (by decide) (by decide)).1,
    fun i hi => (h _ _ _ (T.hi i hi) (T.ri i hi) (by decide) (by decide)).1, (h _ _ _ T.ht T.rt (by decide) (by decide)).2, (h _ _ _ T.ho T.ro (by decide) (by decide)).2,
    (h _ _ _ T.hd T.rd (by decide) (by decide)).2, (h _ _ _ T.hl T.rl (by decide) (by decide)).2, fun i hi => (h _ _ _ (T.hi i hi) (T.ri i hi) (by decide) (by decide)).2⟩
theorem TreeIn.keep {A : TAd} {K : PySem.W.Frag} {H H' : Hp} {W V : Ow} {n : Nat} {own : Nat → Nat} (T : TreeIn A K H W n own) (k : Keep V H H') (h : ∀ b i, W b = i → 1 ≤ i → i ≤ 5 → V b = 0) : TreeIn A K H' W n own :=
  T.at' fun b o i e r h1 h5 => ⟨k.k b o e (.inl (h b i r h1 h5)), r⟩
theorem fsT_owners {ao ad al : Addr} : (fsT ao ad al).lookup ("owners" : Str) = some (.ref ao) := by kernel_rfl
theorem fsT_depths {ao ad al : Addr} : (fsT ao ad al).lookup ("depths" : Str) = some (.ref ad) := by kernel_rfl
theorem fsT_leaping {ao ad al : Addr} : (fsT ao ad al).lookup ("leaping" : Str) = some (.ref al) := by kernel_rfl
def keysT : List Str := ["owners", "depths", "leaping"]
theorem lookup_none {m : Str} : ∀ {fs : List (Str × V)}, m ∉ fs.map (·.1) → fs.lookup m = none
  | [], _ => rfl
  | (k, v) :: r, h => by
    rw [List.map_cons, List.mem_cons, not_or] at h
    have e : (m == k) = false := beq_eq_false_iff_ne.mpr h.1
    rw [List.lookup_cons, e]
    exact lookup_none h.2
theorem fsT_no {ao ad al : Addr} {m : Str} (h : m ∉ keysT) : (fsT ao ad al).lookup m = none := lookup_none h

/-! ### rows -/
structure RAd where
  p : Addr
  dx : Addr
  aw : Addr
  ag : Addr
  x1 : Addr
  x2 : Addr
  T : TAd
  c : Int
  here : Nat
def tl (b : Bool) (x1 x2 : Addr) (here : Nat) : List (Str × V) := match b with
  | false => [("kept", .ref x1)]
  | true => [("lying", .ref x1), ("here", .int (here : Int)), ("noted", .ref x2)]
def fsR (b : Bool) (size : Nat) (t aw ag : Addr) (c : Int) (x1 x2 : Addr) (here : Nat) : List (Str × V) :=
  ("wide", .int (size : Int)) :: ("grown", .ref t) :: ("wrote", .ref aw) :: ("gone", .ref ag) :: ("counted", .int c) :: tl b x1 x2 here
def wroV (wrote : Nat → Nat) : Nat → V := fun i => if i = 0 then .non else .int ((wrote i : Nat) : Int)
def gonV (gone : Nat → Bool) : Nat → V := fun i => .bl (gone i)
/-- what all ways have -/
structure Com (b : Bool) (A : RAd) (K : PySem.W.Frag) (H : Hp) (W : Ow) (M : Mo) : Prop where
  hp : H A.p = some (.ins (CR K b) A.dx (fsR b M.size A.T.t A.aw A.ag A.c A.x1 A.x2 A.here))
  tr : TreeIn A.T K H W M.n M.own
  hw : H A.aw = some (.lst ((List.range M.n).map (wroV M.wrote)))
  hg : H A.ag = some (.lst ((List.range M.n).map (gonV M.gone)))
  rp : W A.p = 6
  rw : W A.aw = 7
  rg : W A.ag = 8
  has : Has W H
/-- the plain way: writes that kept makes read, each with its worth -/
structure PlW (A : RAd) (H : Hp) (W : Ow) (M : Mo) (kvs : List (List Key × V)) : Prop where
  hx : H A.x1 = some (.dT kvs)
  r1 : W A.x1 = 9
  nd : (kvs.map (·.1)).Nodup
  ks : ∀ q ∈ kvs, ∃ p m : Nat, q.1 = [Sum.inl (p : Int), Sum.inl (m : Int)] ∧ p < M.size ∧ m < M.n
  rd : ∀ m p, M.kept m → p < M.size → valV kvs [Sum.inl (p : Int), Sum.inl ((M.wr m p : Nat) : Int)] = some (.int (M.val m p))
  sz : kvs.length ≤ 16 + M.n
/-- the turned way -/
structure TuW (A : RAd) (H : Hp) (W : Ow) (M : Mo) (N : Nat → Prop) (kvs : List (Key × V)) : Prop where
  hx : H A.x1 = some (.lst ((List.range M.size).map fun p => .int (M.val A.here p)))
  hy : H A.x2 = some (.dK kvs)
  r1 : W A.x1 = 9
  r2 : W A.x2 = 10
  nd : (kvs.map (·.1)).Nodup
  hand : M.Hand N A.here
  nt : ∀ m, N m → m ≠ A.here → ∃ t, valV kvs (Sum.inl (m : Int)) = some (.ref t) ∧ H t = some (.tup [.int ((M.pl A.here m : Nat) : Int), .int (M.val m (M.pl A.here m)), .int ((tw M.own A.here m : Nat) : Int)])
  ky : ∀ q ∈ kvs, ∃ m : Nat, q.1 = Sum.inl (m : Int) ∧ N m ∧ m ≠ A.here
  sz : kvs.length ≤ M.n
def Way (b : Bool) (A : RAd) (H : Hp) (W : Ow) (M : Mo) : Prop := match b with
  | false => ∃ kvs, PlW A H W M kvs
  | true => ∃ N kvs, TuW A H W M N kvs
structure RowAt (b : Bool) (K : PySem.W.Frag) (H : Hp) (p : Addr) (W : Ow) (M : Mo) : Prop where
  ex : ∃ A : RAd, A.p = p ∧ Com b A K H W M ∧ Way b A H W M
  ok : M.Ok
section
variable {b : Bool} {A : RAd} {K : PySem.W.Frag} {H H' : Hp} {W W' U : Ow} {M : Mo}
theorem Com.at' (C : Com b A K H W M) (h : ∀ a o i, H a = some o → W a = i → 1 ≤ i → i ≤ 8 → H' a = some o) (hs : Has W H') : Com b A K H' W M :=
  ⟨h _ _ _ C.hp C.rp (by decide) (by decide), C.tr.at' fun a o i e r h1 h5 => ⟨h a o i e r h1 (by omega), r⟩, h _ _ _ C.hw C.rw (by decide) (by decide), h _ _ _ C.hg C.rg (by decide) (by decide), C.rp, C.rw, C.rg, hs⟩
theorem PlW.at' {kvs : List (List Key × V)} (P : PlW A H W M kvs) (h : H' A.x1 = some (.dT kvs)) : PlW A H' W M kvs := ⟨h, P.r1, P.nd, P.ks, P.rd, P.sz⟩
theorem TuW.at' {N : Nat → Prop} {kvs : List (Key × V)} (P : TuW A H W M N kvs) (h1 : H' A.x1 = H A.x1) (h2 : H' A.x2 = H A.x2) (ht : ∀ t xs, H t = some (.tup xs) → H' t = some (.tup xs)) : TuW A H' W M N kvs :=
  ⟨h1.trans P.hx, h2.trans P.hy, P.r1, P.r2, P.nd, P.hand, fun m hm ne => let ⟨t, a, c⟩ := P.nt m hm ne; ⟨t, a, ht _ _ c⟩, P.ky, P.sz⟩
/-- a row stands while nothing that it owns is touched -/
theorem RowAt.keep {p : Addr} (R : RowAt b K H p W M) (k : Keep U H H') (d : Dis U W) : RowAt b K H' p W M := by
  obtain ⟨A, ep, C, Y⟩ := R.ex
  have st : ∀ a o i, H a = some o → W a = i → 1 ≤ i → H' a = some o := fun a o i e r h1 => k.k a o e (.inl ((d a).resolve_right (by omega)))
  refine ⟨⟨A, ep, C.at' (fun a o i e r h1 _ => st a o i e r h1) (C.has.keep k), ?_⟩, R.ok⟩
  cases b with
  | false =>
    obtain ⟨kvs, P⟩ := Y
    exact ⟨kvs, P.at' (st _ _ _ P.hx P.r1 (by decide))⟩
  | true =>
    obtain ⟨N, kvs, P⟩ := Y
    exact ⟨N, kvs, P.at' ((st _ _ _ P.hx P.r1 (by decide)).trans P.hx.symm) ((st _ _ _ P.hy P.r2 (by decide)).trans P.hy.symm) fun t xs e => k.k t _ e (.inr trivial)⟩
theorem RowAt.has {p : Addr} (R : RowAt b K H p W M) : Has W H := let ⟨_, _, C, _⟩ := R.ex; C.has
theorem fsR_wide {size : Nat} {t aw ag x1 x2 : Addr} {c : Int} {here : Nat} : (fsR b size t aw ag c x1 x2 here).lookup ("wide" : Str) = some (.int (size : Int)) := by kernel_rfl
theorem fsR_grown {size : Nat} {t aw ag x1 x2 : Addr} {c : Int} {here : Nat} : (fsR b size t aw ag c x1 x2 here).lookup ("grown" : Str) = some (.ref t) := by kernel_rfl
theorem fsR_wrote {size : Nat} {t aw ag x1 x2 : Addr} {c : Int} {here : Nat} : (fsR b size t aw ag c x1 x2 here).lookup ("wrote" : Str) = some (.ref aw) := by kernel_rfl
theorem fsR_gone {size : Nat} {t aw ag x1 x2 : Addr} {c : Int} {here : Nat} : (fsR b size t aw ag c x1 x2 here).lookup ("gone" : Str) = some (.ref ag) := by kernel_rfl
theorem fsR_counted {size : Nat} {t aw ag x1 x2 : Addr} {c : Int} {here : Nat} : (fsR b size t aw ag c x1 x2 here).lookup ("counted" : Str) = some (.int c) := by kernel_rfl
theorem fsR_kept {size : Nat} {t aw ag x1 x2 : Addr} {c : Int} {here : Nat} : (fsR false size t aw ag c x1 x2 here).lookup ("kept" : Str) = some (.ref x1) := by kernel_rfl
theorem fsR_lying {size : Nat} {t aw ag x1 x2 : Addr} {c : Int} {here : Nat} : (fsR true size t aw ag c x1 x2 here).lookup ("lying" : Str) = some (.ref x1) := by kernel_rfl
theorem fsR_here {size : Nat} {t aw ag x1 x2 : Addr} {c : Int} {here : Nat} : (fsR true size t aw ag c x1 x2 here).lookup ("here" : Str) = some (.int (here : Int)) := by kernel_rfl
theorem fsR_noted {size : Nat} {t aw ag x1 x2 : Addr} {c : Int} {here : Nat} : (fsR true size t aw ag c x1 x2 here).lookup ("noted" : Str) = some (.ref x2) := by kernel_rfl
def keysR : List Str := ["wide", "grown", "wrote", "gone", "counted", "kept", "lying", "here", "noted"]
theorem fsR_keys {size : Nat} {t aw ag x1 x2 : Addr} {c : Int} {here : Nat} : ∀ k ∈ (fsR b size t aw ag c x1 x2 here).map (·.1), k ∈ keysR := by
  cases b
  · intro k h
    have h' : k ∈ (["wide", "grown", "wrote", "gone", "counted", "kept"] : List Str) := h
    clear h
    revert k
    decide +kernel
  · intro k h
    have h' : k ∈ (["wide", "grown", "wrote", "gone", "counted", "lying", "here", "noted"] : List Str) := h
    clear h
    revert k
    decide +kernel
theorem fsR_no {size : Nat} {t aw ag x1 x2 : Addr} {c : Int} {here : Nat} {m : Str} (h : m ∉ keysR) : (fsR b size t aw ag c x1 x2 here).lookup m = none := lookup_none fun z => h (fsR_keys m z)
theorem fsR_len {size : Nat} {t aw ag x1 x2 : Addr} {c : Int} {here : Nat} : (fsR b size t aw ag c x1 x2 here).length < 1000 := by
  cases b
  · show 6 < 1000
    decide
  · show 8 < 1000
    decide
theorem putF_counted {size : Nat} {t aw ag x1 x2 : Addr} {c d : Int} {here : Nat} : putF "counted" (.int d) (fsR b size t aw ag c x1 x2 here) = fsR b size t aw ag d x1 x2 here := by kernel_rfl
theorem putF_here {size : Nat} {t aw ag x1 x2 : Addr} {c : Int} {here h2 : Nat} : putF "here" (.int (h2 : Int)) (fsR true size t aw ag c x1 x2 here) = fsR true size t aw ag c x1 x2 h2 := by kernel_rfl
theorem putF_grown {size : Nat} {t t' aw ag x1 x2 : Addr} {c : Int} {here : Nat} : putF "grown" (.ref t') (fsR b size t aw ag c x1 x2 here) = fsR b size t' aw ag c x1 x2 here := by kernel_rfl
theorem putF_wrote {size : Nat} {t aw aw' ag x1 x2 : Addr} {c : Int} {here : Nat} : putF "wrote" (.ref aw') (fsR b size t aw ag c x1 x2 here) = fsR b size t aw' ag c x1 x2 here := by kernel_rfl
theorem putF_gone {size : Nat} {t aw ag ag' x1 x2 : Addr} {c : Int} {here : Nat} : putF "gone" (.ref ag') (fsR b size t aw ag c x1 x2 here) = fsR b size t aw ag' c x1 x2 here := by kernel_rfl
theorem putF_kept {size : Nat} {t aw ag x1 y1 x2 : Addr} {c : Int} {here : Nat} : putF "kept" (.ref y1) (fsR false size t aw ag c x1 x2 here) = fsR false size t aw ag c y1 x2 here := by kernel_rfl
theorem putF_lying {size : Nat} {t aw ag x1 y1 x2 : Addr} {c : Int} {here : Nat} : putF "lying" (.ref y1) (fsR true size t aw ag c x1 x2 here) = fsR true size t aw ag c y1 x2 here := by kernel_rfl
theorem putF_noted {size : Nat} {t aw ag x1 x2 y2 : Addr} {c : Int} {here : Nat} : putF "noted" (.ref y2) (fsR true size t aw ag c x1 x2 here) = fsR true size t aw ag c x1 y2 here := by kernel_rfl
end
end MK

set_option Elab.async false
set_option linter.all false
set_option maxRecDepth 100000
set_option maxHeartbeats 4000000
/-! walks of makeskept.tree and makeskept.leaps, the first half -/
namespace MK
open PySem PySem.Spec PyProof.Rows L2
section
variable {P : Program} {w : World} {K : PySem.W.Frag} {mg : Str → Option Value} {base : Heap}
def spMInit (K : PySem.W.Frag) : Sp := fun vs H Q _ => ∃ t dx : Addr, vs = [.ref t] ∧ H t = some (.ins (CT K) dx []) ∧
  ∀ (ao ad : Addr) (H' : Hp), H ao = none → H ad = none → ao ≠ ad → H' t = some (.ins (CT K) dx [("owners", .ref ao), ("depths", .ref ad)]) → H' ao = some (.lst [.non]) → H' ad = some (.lst [.int 0]) →
    (∀ b, b ≠ t → b ≠ ao → b ≠ ad → H' b = H b) → Q .non H'
theorem ok_M_init (T : Tx K mg) : Fc P w K mg base 1 (aM K "__init__") ["self"] (spMInit K) := by
  refine Fc.mk' T.dM_init c_MakeTree_init (fun vs H Q E h => ?_) (fun _ _ _ _ _ _ us hl => match us, hl with | [_], _ => rfl) (fun cdv A outer s H vs Q E hr h => ?_)
  · obtain ⟨t, dx, rfl, _⟩ := h; rfl
  obtain ⟨t, dx, rfl, ht, q⟩ := h
  refine ⟨_, pss_cons (ps_fld (pv 0) (pe_lst (pa_cons pe_non pa_nil)) rfl) (pss_one (ps_fld (pv 0) (pe_lst (pa_cons pe_int pa_nil)) rfl)), ?_⟩
  refine ⟨by decide, fun ao nao => ⟨_, rfl, t, _, dx, _, rfl, (by rw [upd_ne (ne_of_none ht nao)]; exact ht), T.clT, T.nT_owners, (by show 0 < 1000; decide), ?_⟩⟩
  refine ⟨by decide, fun ad nad => ?_⟩
  have tao : t ≠ ao := ne_of_none ht nao
  have adt : ad ≠ t := fun z => by rw [z, upd_same] at nad; cases nad
  rw [upd_ne adt] at nad
  have adao : ad ≠ ao := fun z => by rw [z, upd_same] at nad; cases nad
  rw [upd_ne adao] at nad
  refine ⟨_, rfl, t, _, dx, _, rfl, (by rw [upd_ne adt.symm, upd_same]), T.clT, T.nT_depths, (by show 1 < 1000; decide), ?_⟩
  refine q ao ad _ nao nad adao.symm ?_ ?_ ?_ (fun b h1 h2 h3 => ?_)
  · rw [upd_same]
    have e : putF "depths" (V.ref ad) (putF "owners" (V.ref ao) []) = ([("owners", .ref ao), ("depths", .ref ad)] : List (Str × V)) := by kernel_rfl
    rw [e]
  · rw [upd_ne tao.symm, upd_ne adao.symm, upd_ne tao.symm, upd_same]
  · rw [upd_ne adt, upd_same]
  · rw [upd_ne h1, upd_ne h3, upd_ne h1, upd_ne h2]
def spTInit (K : PySem.W.Frag) : Sp := fun vs H Q _ => ∃ t dx : Addr, vs = [.ref t] ∧ H t = some (.ins (CT K) dx []) ∧
  ∀ (A : TAd) (W' : Ow) (H' : Hp), A.t = t → (∀ own, TreeIn A K H' W' 1 own) → (∀ b, W' b ≠ 0 → b = t ∨ H b = none) → (∀ b, W' b ≠ 0 → H' b ≠ none) → (∀ b o, H b = some o → b ≠ t → H' b = some o) → Q .non H'
theorem ok_T_init (T : Tx K mg) : Fc P w K mg base 2 (aT K "__init__") ["self"] (spTInit K) := by
  refine Fc.mk' T.dT_init c_LeapTree_init (fun vs H Q E h => ?_) (fun _ _ _ _ _ _ us hl => match us, hl with | [_], _ => rfl) (fun cdv A outer s H vs Q E hr h => ?_)
  · obtain ⟨t, dx, rfl, _⟩ := h; rfl
  obtain ⟨t, dx, rfl, ht, q⟩ := h
  refine ⟨_, pss_cons (ps_expr (qcf T.cfM (ok_M_init T) hr rfl T.g_MakeTree (pa_cons (pv 0) pa_nil))) (pss_one (ps_fld (pv 0) (pe_lst (pa_cons (pe_lst pa_nil) pa_nil)) rfl)), ?_⟩
  refine ⟨_, rfl, t, dx, rfl, ht, fun ao ad H1 nao nad aoad e1 e2 e3 rest => ?_⟩
  refine ⟨by decide, fun x nx => ⟨(by show 1 ≤ sizeLine; decide), fun al nal => ?_⟩⟩
  have tao : t ≠ ao := ne_of_none ht nao
  have tad : t ≠ ad := ne_of_none ht nad
  have xt : x ≠ t := (ne_of_none e1 nx).symm
  have xao : x ≠ ao := (ne_of_none e2 nx).symm
  have xad : x ≠ ad := (ne_of_none e3 nx).symm
  have alx : al ≠ x := fun z => by rw [z, upd_same] at nal; cases nal
  rw [upd_ne alx] at nal
  have alt : al ≠ t := (ne_of_none e1 nal).symm
  have alao : al ≠ ao := (ne_of_none e2 nal).symm
  have alad : al ≠ ad := (ne_of_none e3 nal).symm
  have nx0 : H x = none := (rest x xt xao xad).symm.trans nx
  have nal0 : H al = none := (rest al alt alao alad).symm.trans nal
  refine ⟨_, rfl, t, _, dx, _, rfl, (by rw [upd_ne alt.symm, upd_ne xt.symm]; exact e1), T.clT, T.nT_leaping, (by show 2 < 1000; decide), ?_⟩
  have ef : putF "leaping" (V.ref al) [("owners", .ref ao), ("depths", .ref ad)] = fsT ao ad al := by kernel_rfl
  refine q ⟨t, dx, ao, ad, al, fun _ => x⟩ (rol (rol (rol (rol (rol (fun _ => 0) x 5) al 4) ad 3) ao 2) t 1) _ rfl (fun own => ⟨?_, ?_, ?_, ?_, fun i hi => ?_, ?_, ?_, ?_, ?_, fun i hi => ?_⟩) (fun b hb => ?_) (fun b hb => ?_) (fun b o e h1 => ?_)
  · show upd _ t _ t = _
    rw [upd_same, ef]
  · show upd _ t _ ao = _
    rw [upd_ne tao.symm, upd_ne alao.symm, upd_ne xao.symm]; exact e2
  · show upd _ t _ ad = _
    rw [upd_ne tad.symm, upd_ne alad.symm, upd_ne xad.symm]; exact e3
  · show upd _ t _ al = _
    rw [upd_ne alt, upd_same]; rfl
  · show upd _ t _ x = _
    have : i = 0 := by omega
    subst this
    rw [upd_ne xt, upd_ne alx.symm, upd_same]; rfl
  · exact rol_same
  · show rol _ t 1 ao = 2
    rw [rol_ne tao.symm, rol_same]
  · show rol _ t 1 ad = 3
    rw [rol_ne tad.symm, rol_ne aoad.symm, rol_same]
  · show rol _ t 1 al = 4
    rw [rol_ne alt, rol_ne alao, rol_ne alad, rol_same]
  · show rol _ t 1 x = 5
    rw [rol_ne xt, rol_ne xao, rol_ne xad, rol_ne alx.symm, rol_same]
  · by_cases h1 : b = t
    · exact .inl h1
    · right
      rw [rol_ne h1] at hb
      by_cases h2 : b = ao
      · rw [h2]; exact nao
      · rw [rol_ne h2] at hb
        by_cases h3 : b = ad
        · rw [h3]; exact nad
        · rw [rol_ne h3] at hb
          by_cases h4 : b = al
          · rw [h4]; exact nal0
          · rw [rol_ne h4] at hb
            by_cases h5 : b = x
            · rw [h5]; exact nx0
            · rw [rol_ne h5] at hb; exact absurd rfl hb
  · by_cases h1 : b = t
    · rw [h1, upd_same]; exact fun z => nomatch z
    · rw [rol_ne h1] at hb
      by_cases h2 : b = ao
      · rw [h2, upd_ne tao.symm, upd_ne alao.symm, upd_ne xao.symm, e2]; exact fun z => nomatch z
      · rw [rol_ne h2] at hb
        by_cases h3 : b = ad
        · rw [h3, upd_ne tad.symm, upd_ne alad.symm, upd_ne xad.symm, e3]; exact fun z => nomatch z
        · rw [rol_ne h3] at hb
          by_cases h4 : b = al
          · rw [h4, upd_ne alt, upd_same]; exact fun z => nomatch z
          · rw [rol_ne h4] at hb
            by_cases h5 : b = x
            · rw [h5, upd_ne xt, upd_ne alx.symm, upd_same]; exact fun z => nomatch z
            · rw [rol_ne h5] at hb; exact absurd rfl hb
  · have h2 : b ≠ ao := ne_of_none e nao
    have h3 : b ≠ ad := ne_of_none e nad
    have e' : H1 b = some o := (rest b h1 h2 h3).trans e
    rw [upd_ne h1, upd_ne (ne_of_none e' nal), upd_ne (ne_of_none e' nx)]; exact e'

/-! ### questions that leave the heap as it is -/
/-- a question of a tree, with a make -/
abbrev TQ (K : PySem.W.Frag) (H : Hp) (t : Addr) (n : Nat) (own : Nat → Nat) : Prop := ∃ (A : TAd) (W : Ow), A.t = t ∧ TreeIn A K H W n own
def spTMany (K : PySem.W.Frag) : Sp := fun vs H Q _ => ∃ (t : Addr) (n : Nat) (own : Nat → Nat), vs = [.ref t] ∧ TQ K H t n own ∧ Q (.int (n : Int)) H
theorem ok_T_many (T : Tx K mg) : Fc P w K mg base 1 (aT K "many") ["self"] (spTMany K) := by
  refine Fc.mk' T.dT_many c_MakeTree_many (fun vs H Q E h => ?_) (fun _ _ _ _ _ _ us hl => match us, hl with | [_], _ => rfl) (fun cdv A outer s H vs Q E hr h => ?_)
  · obtain ⟨t, n, own, rfl, _⟩ := h; rfl
  obtain ⟨_, n, own, rfl, ⟨A, W, rfl, R⟩, q⟩ := h
  refine ⟨_, pss_one (ps_ret (pe_callB call_len_seq rfl T.f_len PySem.boot_len (pa_cons (pe_fld (pv 0) rfl) pa_nil))), ?_⟩
  refine ⟨_, rfl, _, _, _, _, _, rfl, R.ht, T.clT, T.nT_owners, fsT_owners, _, _, rfl, .inl (SqL.of R.ho), ?_⟩
  rw [List.length_map, List.length_range]; exact q
def spTNeed (K : PySem.W.Frag) : Sp := fun vs H Q _ => ∃ (t : Addr) (n m : Nat) (own : Nat → Nat), vs = [.ref t, .int (m : Int)] ∧ TQ K H t n own ∧ m < n ∧ Q .non H
theorem ok_T_need_make (T : Tx K mg) : Fc P w K mg base 2 (aT K "need_make") ["self", "make"] (spTNeed K) := by
  refine Fc.mk' T.dT_need_make c_MakeTree_need_make (fun vs H Q E h => ?_) (fun _ _ _ _ _ _ us hl => match us, hl with | [_, _], _ => rfl) (fun cdv A outer s H vs Q E hr h => ?_)
  · obtain ⟨t, n, m, own, rfl, _⟩ := h; rfl
  obtain ⟨_, n, m, own, rfl, ⟨A, W, rfl, R⟩, hm, q⟩ := h
  refine ⟨_, pss_one (ps_if (pt_not (pt_val (qc (ok_is_whole T) hr rfl T.g_is_whole (pa_cons (pv 1) (pa_cons pe_int (pa_cons (pe_op op_sub (pe_callB call_len_seq rfl T.f_len PySem.boot_len (pa_cons (pe_fld (pv 0) rfl) pa_nil)) pe_int) pa_nil)))))) (pss_one ps_never) pss_nil), ?_⟩
  refine ⟨_, rfl, _, rfl, _, _, _, _, _, rfl, R.ht, T.clT, T.nT_owners, fsT_owners, _, _, rfl, .inl (SqL.of R.ho), _, _, rfl, rfl, _, _, _, rfl, _, rfl, ?_⟩
  refine iteNS ?_ q
  rw [List.length_map, List.length_range]
  omega
def spTSteps (K : PySem.W.Frag) : Sp := fun vs H Q _ => ∃ (t : Addr) (n m k : Nat) (own : Nat → Nat), vs = [.ref t, .int (m : Int), .int (k : Int)] ∧ TQ K H t n own ∧ m < n ∧ k ≤ dep own m ∧ Q .non H
theorem ok_T_need_steps (T : Tx K mg) : Fc P w K mg base 2 (aT K "need_steps") ["self", "make", "steps"] (spTSteps K) := by
  refine Fc.mk' T.dT_need_steps c_MakeTree_need_steps (fun vs H Q E h => ?_) (fun _ _ _ _ _ _ us hl => match us, hl with | [_, _, _], _ => rfl) (fun cdv A outer s H vs Q E hr h => ?_)
  · obtain ⟨t, n, m, k, own, rfl, _⟩ := h; rfl
  obtain ⟨_, n, m, k, own, rfl, ⟨A, W, rfl, R⟩, hm, hk, q⟩ := h
  refine ⟨_, pss_one (ps_if (pt_not (pt_val (qc (ok_is_whole T) hr rfl T.g_is_whole (pa_cons (pv 2) (pa_cons pe_int (pa_cons (pe_ix ix_list (pe_fld (pv 0) rfl) (pv 1) (fun _ _ => rfl)) pa_nil)))))) (pss_one ps_never) pss_nil), ?_⟩
  refine ⟨_, rfl, _, rfl, _, _, _, _, _, rfl, R.ht, T.clT, T.nT_depths, fsT_depths, _, rfl, _, _, _, _, rfl, rfl, SqL.of R.hd, atI_nat (rng_at _ _ hm), _, _, _, rfl, _, rfl, ?_⟩
  exact iteNS (by omega) q
def spTOwn (K : PySem.W.Frag) : Sp := fun vs H Q _ => ∃ (t : Addr) (n m : Nat) (own : Nat → Nat), vs = [.ref t, .int (m : Int)] ∧ TQ K H t n own ∧ m < n ∧ Q (ownV own m) H
theorem ok_T_own (T : Tx K mg) : Fc P w K mg base 3 (aT K "own") ["self", "make"] (spTOwn K) := by
  refine Fc.mk' T.dT_own c_MakeTree_own (fun vs H Q E h => ?_) (fun _ _ _ _ _ _ us hl => match us, hl with | [_, _], _ => rfl) (fun cdv A outer s H vs Q E hr h => ?_)
  · obtain ⟨t, n, m, own, rfl, _⟩ := h; rfl
  obtain ⟨_, n, m, own, rfl, ⟨A, W, rfl, R⟩, hm, q⟩ := h
  refine ⟨_, pss_cons (ps_expr (qm (pv 0) T.clT T.mT_need_make (ok_T_need_make T) hr (pa_cons (pv 1) pa_nil))) (pss_one (ps_ret (pe_ix ix_list (pe_fld (pv 0) rfl) (pv 1) (fun _ _ => rfl)))), ?_⟩
  refine ⟨_, rfl, _, _, _, rfl, R.ht, fsT_no (by decide +kernel), _, rfl, _, n, m, own, rfl, ⟨A, W, rfl, R⟩, hm, ?_⟩
  exact ⟨_, rfl, _, _, _, _, _, rfl, R.ht, T.clT, T.nT_owners, fsT_owners, _, rfl, _, _, _, _, rfl, rfl, SqL.of R.ho, atI_nat (rng_at _ _ hm), q⟩
def spTDepth (K : PySem.W.Frag) : Sp := fun vs H Q _ => ∃ (t : Addr) (n m : Nat) (own : Nat → Nat), vs = [.ref t, .int (m : Int)] ∧ TQ K H t n own ∧ m < n ∧ Q (.int ((dep own m : Nat) : Int)) H
theorem ok_T_depth (T : Tx K mg) : Fc P w K mg base 3 (aT K "depth") ["self", "make"] (spTDepth K) := by
  refine Fc.mk' T.dT_depth c_MakeTree_depth (fun vs H Q E h => ?_) (fun _ _ _ _ _ _ us hl => match us, hl with | [_, _], _ => rfl) (fun cdv A outer s H vs Q E hr h => ?_)
  · obtain ⟨t, n, m, own, rfl, _⟩ := h; rfl
  obtain ⟨_, n, m, own, rfl, ⟨A, W, rfl, R⟩, hm, q⟩ := h
  refine ⟨_, pss_cons (ps_expr (qm (pv 0) T.clT T.mT_need_make (ok_T_need_make T) hr (pa_cons (pv 1) pa_nil))) (pss_one (ps_ret (pe_ix ix_list (pe_fld (pv 0) rfl) (pv 1) (fun _ _ => rfl)))), ?_⟩
  refine ⟨_, rfl, _, _, _, rfl, R.ht, fsT_no (by decide +kernel), _, rfl, _, n, m, own, rfl, ⟨A, W, rfl, R⟩, hm, ?_⟩
  exact ⟨_, rfl, _, _, _, _, _, rfl, R.ht, T.clT, T.nT_depths, fsT_depths, _, rfl, _, _, _, _, rfl, rfl, SqL.of R.hd, atI_nat (rng_at _ _ hm), q⟩
end
end MK

set_option Elab.async false
set_option linter.all false
set_option maxRecDepth 100000
set_option maxHeartbeats 4000000
/-! walks of makeskept.tree and makeskept.leaps: growing -/
namespace MK
open PySem PySem.Spec PyProof.Rows L2
section
variable {X : Cx} {e o i : Expr} {te to ti : TE} {p pos apos : Pos}
def rLenS (K : PySem.W.Frag) : List V → Hp → VK → Prop := fun xs H Q => ∃ p ys, xs = [.ref p] ∧ (SqL K H p ys ∨ SqT K H p ys) ∧ Q (.int ys.length) H
theorem qlen (hm : X.mg "len" = none) (he : PE X e te) (hg : Gl X "len" := by rfl) (hs : starEach [e] X.env = (false, eval e X.env) :: starEach [] X.env := by rfl) : PE X (.Call (.Name "len" p) [e] [] pos) (tCB (rLenS X.K) (tCons te tNil)) :=
  pe_callB call_len_seq hg hm PySem.boot_len (pa_cons he pa_nil hs) (by decide) (by decide) hs rfl
theorem qix (ho : PE X o to) (hi : PE X i ti) (hs : PlainIx i := by exact fun _ _ => rfl) : PE X (.Subscript o i pos) (tOp (rIxL X.K) to ti) := pe_ix ix_list ho hi hs
theorem qneg {z : Int} {a : Nat} {p1 : Pos} : PE X (.UnaryOp .USub (.Constant (.int z) a p1) pos) (tUn (rU fun i => .int (-i)) (tC (.int z))) := pe_un un_neg pe_int
end
theorem int_eq {Q : VK} {H : Hp} {i j : Int} (e : i = j) (q : Q (.int i) H) : Q (.int j) H := e ▸ q
theorem atI_neg1 (n : Nat) (f : Nat → V) : atI ((List.range (n + 1)).map f) (-1) = some (f n) := by
  rw [rng_snoc]; exact atI_last _ _
section
variable {P : Program} {w : World} {K : PySem.W.Frag} {mg : Str → Option Value} {base : Heap}
/-- one turn of laying the leaps of a new make -/
theorem lay_step {own : Nat → Nat} (W : WT own) {n m j : Nat} (hm : m < n) (h1 : 2 ^ j ≤ dep (putO own n m) n) :
    up (putO own n m) (2 ^ j) n < n ∧ (2 ^ (j + 1) ≤ dep (putO own n m) n ↔ j < llen (dep own (up (putO own n m) (2 ^ j) n))) ∧ up own (2 ^ j) (up (putO own n m) (2 ^ j) n) = up (putO own n m) (2 ^ (j + 1)) n := by
  have W' := putO_wt W hm
  have hp : 0 < 2 ^ j := Nat.two_pow_pos j
  obtain ⟨k, ek⟩ : ∃ k, 2 ^ j = k + 1 := ⟨2 ^ j - 1, by omega⟩
  have lt : up (putO own n m) (2 ^ j) n < n := by
    rw [ek, putO_upN W hm]
    exact Nat.lt_of_le_of_lt (up_le W k m) hm
  have e2 : (2 : Nat) ^ (j + 1) = 2 ^ j + 2 ^ j := by rw [Nat.pow_succ]; omega
  refine ⟨lt, ?_, ?_⟩
  · rw [llen_iff, ← putO_dep W (m := m) lt, dep_up W', e2]
    omega
  · rw [← putO_up W (m := m) lt, ← up_add, ← e2]
def spTLay (K : PySem.W.Frag) : Sp := fun vs H Q _ => ∃ (A : TAd) (n m : Nat) (own : Nat → Nat), vs = [.ref A.t, .int (m : Int)] ∧ WT own ∧ m < n ∧ n < 64 ∧
  H A.t = some (.ins (CT K) A.dx (fsT A.ao A.ad A.al)) ∧ H A.ad = some (.lst ((List.range n).map (depV own))) ∧ H A.al = some (.lst ((List.range n).map fun i => .ref (A.la i))) ∧
  (∀ i, i < n → H (A.la i) = some (.lst (lpV own i))) ∧ A.ad ≠ A.al ∧ (∀ i, i < n → A.la i ≠ A.ad ∧ A.la i ≠ A.al) ∧
  ∀ (x : Addr) (H' : Hp), H x = none → H' x = some (.lst (lpV (putO own n m) n)) → H' A.ad = some (.lst ((List.range (n + 1)).map (depV (putO own n m)))) →
    H' A.al = some (.lst ((List.range n).map (fun i => V.ref (A.la i)) ++ [.ref x])) → (∀ b, b ≠ x → b ≠ A.ad → b ≠ A.al → H' b = H b) → Q .non H'
theorem ok_T_lay (T : Tx K mg) : Fc P w K mg base 1 (aT K "lay") ["self", "make"] (spTLay K) := by
  refine Fc.mk' T.dT_lay c_LeapTree_lay (fun vs H Q E h => ?_) (fun _ _ _ _ _ _ us hl => match us, hl with | [_, _], _ => rfl) (fun cdv A outer s H vs Q E hr h => ?_)
  · obtain ⟨A, n, m, own, rfl, _⟩ := h; rfl
  obtain ⟨A, n, m, own, rfl, W, hm, hn, ht, hd, hl, hi, adal, lane, q⟩ := h
  have W' := putO_wt W hm
  have tad : A.t ≠ A.ad := ne_of ht hd (fun z => nomatch z)
  have tal : A.t ≠ A.al := ne_of ht hl (fun z => nomatch z)
  have hdN : dep (putO own n m) n = dep own m + 1 := putO_depN W hm
  have dle : dep (putO own n m) n ≤ n := dep_le W' n
  refine ⟨_, pss_cons (ps_expr (pe_bm PySem.F.plainAttrs_list PySem.F.slot_list_append PySem.F.type_list_append mt_append (pe_fld (pv 0) rfl) (pa_cons (pe_op op_add (qix (pe_fld (pv 0) rfl) (pv 1)) pe_int) pa_nil)))
    (pss_cons (ps_set (i := 2) c_LeapTree_lay.nd rfl (.inl rfl) (pe_lst (pa_cons (pv 1) pa_nil)))
    (pss_cons (ps_while PassesOwn.never (pt_cmpR op_ge (qlen T.f_len (qix (pe_fld (pv 0) rfl) (qix (pv 2) qneg))) (qlen T.f_len (pv 2)) (nomark _))
      (pss_one (ps_expr (pe_bm PySem.F.plainAttrs_list PySem.F.slot_list_append PySem.F.type_list_append mt_append (pv 2) (pa_cons (qix (qix (pe_fld (pv 0) rfl) (qix (pv 2) qneg)) (pe_op op_sub (qlen T.f_len (pv 2)) pe_int)) pa_nil)))))
    (pss_one (ps_expr (pe_bm PySem.F.plainAttrs_list PySem.F.slot_list_append PySem.F.type_list_append mt_append (pe_fld (pv 0) rfl) (pa_cons (pv 2) pa_nil)))))), ?_⟩
  -- self.depths.append(self.depths[make] + 1)
  refine ⟨_, rfl, _, _, _, _, _, rfl, ht, T.clT, T.nT_depths, fsT_depths, .inl ⟨rfl, _, SqL.of hd⟩, _, rfl, _, _, _, _, _, rfl, ht, T.clT, T.nT_depths, fsT_depths, _, rfl, _, _, _, _, rfl, rfl, SqL.of hd, atI_nat (rng_at _ _ hm), _, _, rfl, rfl, _, _, _, rfl, rfl, hd, (by rw [rng_len]; exact small1000 (by omega)), ?_⟩
  have e1 : (List.range n).map (depV own) ++ [V.int (((dep own m : Nat) : Int) + 1)] = (List.range (n + 1)).map (depV (putO own n m)) := rng_snoc' (fun i hi => by unfold depV; rw [putO_dep W hi]) (by unfold depV; rw [hdN]; rfl)
  rw [e1]
  -- found = [make]
  refine ⟨_, rfl, (by show 1 ≤ sizeLine; decide), fun fd nfd => ?_⟩
  have fdad : fd ≠ A.ad := fun z => by rw [z, upd_same] at nfd; cases nfd
  rw [upd_ne fdad] at nfd
  have fdt : fd ≠ A.t := (ne_of_none ht nfd).symm
  have fdal : fd ≠ A.al := (ne_of_none hl nfd).symm
  have fdla : ∀ i, i < n → A.la i ≠ fd := fun i h => ne_of_none (hi i h) nfd
  -- while ..
  refine ⟨fun k σ H2 => ∃ j, k + j = llen (dep (putO own n m) n) ∧ 1 ≤ j ∧ 2 ^ (j - 1) ≤ dep (putO own n m) n ∧ σ = [some (.ref A.t), some (.int (m : Int)), some (.ref fd)] ∧
      H2 fd = some (.lst ((List.range j).map fun i => .int ((up (putO own n m) (2 ^ i) n : Nat) : Int))) ∧ H2 A.ad = some (.lst ((List.range (n + 1)).map (depV (putO own n m)))) ∧ ∀ b, b ≠ fd → b ≠ A.ad → H2 b = H b,
    ⟨llen (dep (putO own n m) n) - 1, 1, ?_, Nat.le_refl _, ?_, rfl, ?_, ?_, fun b h1 h2 => by rw [upd_ne h1, upd_ne h2]⟩, ?_⟩
  · have := (llen_iff (dep (putO own n m) n) 0).mpr (by show 1 ≤ _; omega)
    omega
  · show 2 ^ 0 ≤ _
    rw [hdN]; show 1 ≤ _; omega
  · have em : up (putO own n m) (2 ^ 0) n = m := putO_at
    rw [upd_same]
    show some (HO.lst [V.int (m : Int)]) = some (HO.lst [V.int ((up (putO own n m) (2 ^ 0) n : Nat) : Int)])
    rw [em]
  · rw [upd_ne fdad.symm, upd_same]
  rintro k σ H2 ⟨j, hk, h1, hj, rfl, hf, ha, rest⟩
  obtain ⟨j, rfl⟩ : ∃ i, j = i + 1 := ⟨j - 1, by omega⟩
  rw [Nat.add_sub_cancel] at hj
  obtain ⟨xl, xc, xe⟩ := lay_step W hm hj
  have ht2 : H2 A.t = some (.ins (CT K) A.dx (fsT A.ao A.ad A.al)) := (rest _ fdt.symm tad).trans ht
  have hl2 : H2 A.al = some (.lst ((List.range n).map fun i => .ref (A.la i))) := (rest _ fdal.symm adal.symm).trans hl
  have hi2 := (rest _ (fdla _ xl) (lane _ xl).1).trans (hi _ xl)
  have jb : j < 7 := by
    have := (llen_iff (dep (putO own n m) n) j).mpr hj
    have := llen_le (d := dep (putO own n m) n) (k := 7) (by omega)
    omega
  refine ⟨_, rfl, _, _, _, _, _, rfl, ht2, T.clT, T.nT_leaping, fsT_leaping, _, rfl, _, rfl, _, _, _, _, rfl, rfl, SqL.of hf, atI_neg1 _ _, _, _, _, _, rfl, rfl, SqL.of hl2, atI_nat (rng_at _ _ xl), _, _, rfl, .inl (SqL.of hi2),
    _, rfl, _, _, rfl, .inl (SqL.of hf), _, _, rfl, rfl, _, rfl, ?_⟩
  have el : (lpV own (up (putO own n m) (2 ^ j) n)).length = llen (dep own (up (putO own n m) (2 ^ j) n)) := rng_len _ _
  rw [el, rng_len]
  by_cases c : 2 ^ (j + 1) ≤ dep (putO own n m) n
  · have lj := xc.mp c
    refine iteY (by omega) ⟨fun σ' H' => ∃ k', k' < k ∧ ∃ j, k' + j = llen (dep (putO own n m) n) ∧ 1 ≤ j ∧ 2 ^ (j - 1) ≤ dep (putO own n m) n ∧ σ' = [some (.ref A.t), some (.int (m : Int)), some (.ref fd)] ∧
      H' fd = some (.lst ((List.range j).map fun i => .int ((up (putO own n m) (2 ^ i) n : Nat) : Int))) ∧ H' A.ad = some (.lst ((List.range (n + 1)).map (depV (putO own n m)))) ∧ ∀ b, b ≠ fd → b ≠ A.ad → H' b = H b, fun _ _ h => h, ?_⟩
    refine ⟨_, rfl, .inl ⟨rfl, _, SqL.of hf⟩, _, rfl, _, _, _, _, _, rfl, ht2, T.clT, T.nT_leaping, fsT_leaping, _, rfl, _, rfl, _, _, _, _, rfl, rfl, SqL.of hf, atI_neg1 _ _, _, _, _, _, rfl, rfl, SqL.of hl2, atI_nat (rng_at _ _ xl),
      _, rfl, _, _, rfl, .inl (SqL.of hf), _, _, rfl, rfl, _, _, _, .int ((up own (2 ^ j) (up (putO own n m) (2 ^ j) n) : Nat) : Int), rfl, rfl, SqL.of hi2, ?_, _, _, _, rfl, rfl, hf, (by rw [rng_len]; exact small1000 (by omega)), ?_⟩
    · rw [rng_len, show (((j + 1 : Nat) : Int) - 1) = (j : Int) by omega]
      exact atI_nat (rng_at _ _ lj)
    · have := (llen_iff (dep (putO own n m) n) (j + 1)).mpr c
      refine ⟨k - 1, by omega, j + 2, by omega, by omega, c, rfl, ?_, ?_, fun b b1 b2 => ?_⟩
      · rw [upd_same, xe, ← rng_snoc (j + 1) (fun i => V.int ((up (putO own n m) (2 ^ i) n : Nat) : Int))]
      · rw [upd_ne fdad.symm]; exact ha
      · rw [upd_ne b1]; exact rest b b1 b2
  · have lj : ¬ j < llen (dep own (up (putO own n m) (2 ^ j) n)) := fun z => c (xc.mpr z)
    refine iteN (by omega) ?_
    have ej : llen (dep (putO own n m) n) = j + 1 := by
      have a1 := (llen_iff (dep (putO own n m) n) j).mpr hj
      have a2 : ¬ j + 1 < llen (dep (putO own n m) n) := fun z => c ((llen_iff _ _).mp z)
      omega
    refine ⟨_, rfl, _, _, _, _, _, rfl, ht2, T.clT, T.nT_leaping, fsT_leaping, .inl ⟨rfl, _, SqL.of hl2⟩, _, rfl, _, _, _, rfl, rfl, hl2, (by rw [rng_len]; exact small1000 (by omega)), ?_⟩
    refine q fd _ nfd ?_ ?_ upd_same (fun b b1 b2 b3 => ?_)
    · rw [upd_ne fdal, hf]
      unfold lpV
      rw [ej]
    · rw [upd_ne adal]; exact ha
    · rw [upd_ne b3]; exact rest b b1 b2
/-- the tree with a new make -/
def TAd.grow (A : TAd) (n : Nat) (x : Addr) : TAd := { A with la := fun i => if i = n then x else A.la i }
def spTGrow (K : PySem.W.Frag) : Sp := fun vs H Q _ => ∃ (A : TAd) (W : Ow) (n m : Nat) (own : Nat → Nat), vs = [.ref A.t, .int (m : Int)] ∧ TreeIn A K H W n own ∧ WT own ∧ m < n ∧ n < 64 ∧
  ∀ (x : Addr) (H' : Hp), H x = none → (∀ W' : Ow, (∀ b, H b ≠ none → W' b = W b) → W' x = 5 → TreeIn (A.grow n x) K H' W' (n + 1) (putO own n m)) →
    (∀ b, b ≠ x → b ≠ A.ao → b ≠ A.ad → b ≠ A.al → H' b = H b) → H' x ≠ none → (H' A.ao ≠ none ∧ H' A.ad ≠ none ∧ H' A.al ≠ none) → Q (.int (n : Int)) H'
theorem ok_T_grow (T : Tx K mg) : Fc P w K mg base 3 (aT K "grow") ["self", "make"] (spTGrow K) := by
  refine Fc.mk' T.dT_grow c_MakeTree_grow (fun vs H Q E h => ?_) (fun _ _ _ _ _ _ us hl => match us, hl with | [_, _], _ => rfl) (fun cdv A outer s H vs Q E hr h => ?_)
  · obtain ⟨A, W, n, m, own, rfl, _⟩ := h; rfl
  obtain ⟨A, W, n, m, own, rfl, R, wt, hm, hn, q⟩ := h
  obtain ⟨t64, i64⟩ := T.i_MOST_MAKES
  have wt' := putO_wt wt hm
  have tao : A.t ≠ A.ao := role_ne R.rt R.ro (by decide)
  have tad : A.t ≠ A.ad := role_ne R.rt R.rd (by decide)
  have tal : A.t ≠ A.al := role_ne R.rt R.rl (by decide)
  have oad : A.ao ≠ A.ad := role_ne R.ro R.rd (by decide)
  have oal : A.ao ≠ A.al := role_ne R.ro R.rl (by decide)
  have dal : A.ad ≠ A.al := role_ne R.rd R.rl (by decide)
  have lao : ∀ i, i < n → A.la i ≠ A.ao := fun i h => role_ne (R.ri i h) R.ro (by decide)
  have lad : ∀ i, i < n → A.la i ≠ A.ad := fun i h => role_ne (R.ri i h) R.rd (by decide)
  have lal : ∀ i, i < n → A.la i ≠ A.al := fun i h => role_ne (R.ri i h) R.rl (by decide)
  refine ⟨_, pss_cons (ps_expr (qm (pv 0) T.clT T.mT_need_make (ok_T_need_make T) hr (pa_cons (pv 1) pa_nil)))
    (pss_cons (ps_if (pt_cmpR op_eq (qlen T.f_len (pe_fld (pv 0) rfl)) (pe_glob (v := .int 64) rfl i64 ⟨_, rfl⟩) (nomark _)) (pss_one ps_never) pss_nil)
    (pss_cons (ps_expr (pe_bm PySem.F.plainAttrs_list PySem.F.slot_list_append PySem.F.type_list_append mt_append (pe_fld (pv 0) rfl) (pa_cons (pv 1) pa_nil)))
    (pss_cons (ps_expr (qm (pv 0) T.clT T.mT_lay (ok_T_lay T) (hr.mono (by decide)) (pa_cons (pv 1) pa_nil)))
    (pss_one (ps_ret (pe_op op_sub (qlen T.f_len (pe_fld (pv 0) rfl)) pe_int)))))), ?_⟩
  refine ⟨_, rfl, _, _, _, rfl, R.ht, fsT_no (by decide +kernel), _, rfl, _, n, m, own, rfl, ⟨A, W, rfl, R⟩, hm, ?_⟩
  refine ⟨_, rfl, _, _, _, _, _, rfl, R.ht, T.clT, T.nT_owners, fsT_owners, _, _, rfl, .inl (SqL.of R.ho), rfl, _, rfl, iteN (fun z => ?_) ?_⟩
  · rw [rng_len] at z
    have := V.int.inj z
    omega
  refine ⟨_, rfl, _, _, _, _, _, rfl, R.ht, T.clT, T.nT_owners, fsT_owners, .inl ⟨rfl, _, SqL.of R.ho⟩, _, rfl, _, _, _, rfl, rfl, R.ho, (by rw [rng_len]; exact small1000 (by omega)), ?_⟩
  have eo : (List.range n).map (ownV own) ++ [V.int (m : Int)] = (List.range (n + 1)).map (ownV (putO own n m)) :=
    rng_snoc' (fun i hi => by unfold ownV; rw [putO_ne (by omega)]) (by unfold ownV; rw [if_neg (by omega), putO_at])
  rw [eo]
  refine ⟨_, rfl, _, _, _, rfl, (by rw [upd_ne tao]; exact R.ht), fsT_no (by decide +kernel), _, rfl, A, n, m, own, rfl, wt, hm, hn, (by rw [upd_ne tao]; exact R.ht), (by rw [upd_ne oad.symm]; exact R.hd), (by rw [upd_ne oal.symm]; exact R.hl),
    (fun i h => by rw [upd_ne (lao i h)]; exact R.hi i h), dal, (fun i h => ⟨lad i h, lal i h⟩), fun x H' nx hx hd' hl' rest => ?_⟩
  have xo : x ≠ A.ao := fun z => by rw [z, upd_same] at nx; cases nx
  rw [upd_ne xo] at nx
  have xt : A.t ≠ x := ne_of_none R.ht nx
  have xd : A.ad ≠ x := ne_of_none R.hd nx
  have xl : A.al ≠ x := ne_of_none R.hl nx
  have ho' : H' A.ao = some (.lst ((List.range (n + 1)).map (ownV (putO own n m)))) := (rest _ xo.symm oad oal).trans upd_same
  have ht' : H' A.t = some (.ins (CT K) A.dx (fsT A.ao A.ad A.al)) := (rest _ xt tad tal).trans (by rw [upd_ne tao]; exact R.ht)
  refine ⟨_, rfl, _, _, _, _, _, rfl, ht', T.clT, T.nT_owners, fsT_owners, _, _, rfl, .inl (SqL.of ho'), _, _, rfl, rfl, ?_⟩
  rw [rng_len]
  refine int_eq (i := (n : Int)) (by omega) ?_
  refine q x H' nx (fun W' old wx => ?_) (fun b b1 b2 b3 b4 => ?_) (by rw [hx]; exact fun z => nomatch z) ⟨(by rw [ho']; exact fun z => nomatch z), (by rw [hd']; exact fun z => nomatch z), (by rw [hl']; exact fun z => nomatch z)⟩
  · have thr : ∀ {b : Addr} {o : HO}, H b = some o → H b ≠ none := fun e z => by rw [e] at z; cases z
    refine ⟨ht', ho', hd', ?_, fun i hi => ?_, (old _ (thr R.ht)).trans R.rt, (old _ (thr R.ho)).trans R.ro, (old _ (thr R.hd)).trans R.rd, (old _ (thr R.hl)).trans R.rl, fun i hi => ?_⟩
    · show H' A.al = _
      rw [hl']
      exact congrArg (fun l => some (HO.lst l)) (rng_snoc' (f := fun i => V.ref (A.la i)) (g := fun i => V.ref ((A.grow n x).la i)) (fun i hi => congrArg V.ref (if_neg (by omega))) (congrArg V.ref (if_pos rfl)))
    · by_cases e : i = n
      · subst e
        show H' (if i = i then x else A.la i) = _
        rw [if_pos rfl]; exact hx
      · have hi' : i < n := by omega
        have xi : A.la i ≠ x := ne_of_none (R.hi i hi') nx
        show H' (if i = n then x else A.la i) = _
        rw [if_neg e, rest _ xi (lad i hi') (lal i hi'), upd_ne (lao i hi'), R.hi i hi']
        unfold lpV
        rw [putO_dep wt hi']
        exact congrArg (fun l => some (HO.lst l)) (rng_ext fun j _ => by rw [putO_up wt hi'])
    · by_cases e : i = n
      · subst e
        show W' (if i = i then x else A.la i) = 5
        rw [if_pos rfl]; exact wx
      · have hi' : i < n := by omega
        show W' (if i = n then x else A.la i) = 5
        rw [if_neg e, old _ (thr (R.hi i hi'))]; exact R.ri i hi'
  · rw [rest b b1 b3 b4, upd_ne b2]
end
end MK

set_option Elab.async false
set_option linter.all false
set_option maxRecDepth 100000
set_option maxHeartbeats 4000000
/-! walks of makeskept.tree and makeskept.leaps: lines, leaps, nearest, ways, copies -/
namespace MK
open PySem PySem.Spec PyProof.Rows L2
/-- makes as values -/
def nl (l : List Nat) : List V := l.map fun (i : Nat) => V.int ((i : Nat) : Int)
theorem nl_range (n : Nat) (f : Nat → Nat) : nl ((List.range n).map f) = (List.range n).map fun i => V.int ((f i : Nat) : Int) := by
  unfold nl
  rw [List.map_map]; rfl
theorem nl_append (a b : List Nat) : nl (a ++ b) = nl a ++ nl b := by
  unfold nl
  exact List.map_append
theorem nl_len (l : List Nat) : (nl l).length = l.length := by
  unfold nl
  exact List.length_map _
theorem atI_last' {l : List V} {v : V} (h : l[l.length - 1]? = some v) : atI l (-1) = some v := by
  have hp : 0 < l.length := by
    rcases Nat.eq_zero_or_pos l.length with e | e
    · rw [List.getElem?_eq_none (by omega)] at h; cases h
    · exact e
  unfold atI ixN
  rw [if_neg (by omega), if_pos (by omega)]
  show l[((-1 : Int) + (l.length : Int)).toNat]? = some v
  rw [show ((-1 : Int) + (l.length : Int)).toNat = l.length - 1 by omega]
  exact h
theorem and_one (k : Nat) : Builtin.bitAnd (k : Int) 1 = ((k % 2 : Nat) : Int) := by
  rw [bitAnd_pp (by omega) (by omega)]
  have e : ((k : Int).toNat &&& (1 : Int).toNat) = k % 2 := by
    rw [Int.toNat_natCast, show (1 : Int).toNat = 1 from rfl, Nat.and_one_is_mod]
  rw [e]
theorem mod_step (k p : Nat) : k % 2 ^ (p + 1) = k % 2 ^ p + 2 ^ p * (k / 2 ^ p % 2) := by
  rw [Nat.pow_succ, Nat.mod_mul]
theorem cut_from (l : List V) (k : Nat) (h : k ≤ l.length) : cutV l (some (k : Int)) none = l.drop k := by
  unfold cutV
  rw [HT.sIx_nat, HT.sIx_none, Nat.min_eq_left h]
  exact List.take_of_length_le (by rw [List.length_drop]; omega)
theorem dep_pos_of (own : Nat → Nat) (W : WT own) {x y : Nat} (hd : dep own x = dep own y) (ne : x ≠ y) : 0 < dep own x := by
  rcases Nat.eq_zero_or_pos (dep own x) with e | e
  · exact absurd ((dep_eq_zero W e).trans (dep_eq_zero W (hd ▸ e)).symm) ne
  · exact e
section
variable {P : Program} {w : World} {K : PySem.W.Frag} {mg : Str → Option Value} {base : Heap}
def spTLine (K : PySem.W.Frag) : Sp := fun vs H Q _ => ∃ (t : Addr) (n m : Nat) (own : Nat → Nat), vs = [.ref t, .int (m : Int)] ∧ TQ K H t n own ∧ WT own ∧ m < n ∧ n ≤ 64 ∧
  ∀ (l : Addr) (H' : Hp), H l = none → H' l = some (.lst (nl (lineL own m))) → (∀ b, b ≠ l → H' b = H b) → Q (.ref l) H'
theorem ok_T_line (T : Tx K mg) : Fc P w K mg base 3 (aT K "line") ["self", "make"] (spTLine K) := by
  refine Fc.mk' T.dT_line c_MakeTree_line (fun vs H Q E h => ?_) (fun _ _ _ _ _ _ us hl => match us, hl with | [_, _], _ => rfl) (fun cdv A outer s H vs Q E hr h => ?_)
  · obtain ⟨t, n, m, own, rfl, _⟩ := h; rfl
  obtain ⟨_, n, m, own, rfl, ⟨A, W, rfl, R⟩, wt, hm, hn, q⟩ := h
  refine ⟨_, pss_cons (ps_expr (qm (pv 0) T.clT T.mT_need_make (ok_T_need_make T) hr (pa_cons (pv 1) pa_nil)))
    (pss_cons (ps_set (i := 2) c_MakeTree_line.nd rfl (.inl rfl) (pe_lst (pa_cons (pv 1) pa_nil)))
    (pss_cons (ps_while PassesOwn.never (pt_cmpR op_notN (qix (pe_fld (pv 0) rfl) (qix (pv 2) qneg)) pe_non (nomark _))
      (pss_one (ps_expr (pe_bm PySem.F.plainAttrs_list PySem.F.slot_list_append PySem.F.type_list_append mt_append (pv 2) (pa_cons (qix (pe_fld (pv 0) rfl) (qix (pv 2) qneg)) pa_nil)))))
    (pss_cons (ps_expr (pe_bm0 PySem.F.plainAttrs_list PySem.F.slot_list_reverse PySem.F.type_list_reverse mt_reverse (pv 2)))
    (pss_one (ps_ret (pv 2)))))), ?_⟩
  refine ⟨_, rfl, _, _, _, rfl, R.ht, fsT_no (by decide +kernel), _, rfl, _, n, m, own, rfl, ⟨A, W, rfl, R⟩, hm, ?_⟩
  refine ⟨_, rfl, (by show 1 ≤ sizeLine; decide), fun fd nfd => ?_⟩
  have fdt : A.t ≠ fd := ne_of_none R.ht nfd
  have fdo : A.ao ≠ fd := ne_of_none R.ho nfd
  refine ⟨fun k σ H2 => ∃ j, k + j = dep own m ∧ σ = [some (.ref A.t), some (.int (m : Int)), some (.ref fd)] ∧ H2 fd = some (.lst ((List.range (j + 1)).map fun i => .int ((up own i m : Nat) : Int))) ∧ ∀ b, b ≠ fd → H2 b = H b,
    ⟨dep own m, 0, by omega, rfl, upd_same, fun b h1 => upd_ne h1⟩, ?_⟩
  rintro k σ H2 ⟨j, hk, rfl, hf, rest⟩
  have ht2 := (rest _ fdt).trans R.ht
  have ho2 := (rest _ fdo).trans R.ho
  have xl : up own j m < n := Nat.lt_of_le_of_lt (up_le wt j m) hm
  have dl : dep own m ≤ m := dep_le wt m
  refine ⟨_, rfl, _, _, _, _, _, rfl, ht2, T.clT, T.nT_owners, fsT_owners, _, rfl, _, rfl, _, _, _, _, rfl, rfl, SqL.of hf, atI_neg1 _ _, _, _, _, _, rfl, rfl, SqL.of ho2, atI_nat (rng_at _ _ xl), rfl, _, rfl, ?_⟩
  by_cases c : j < dep own m
  · have xp := up_pos wt c
    have eo : ownV own (up own j m) = .int ((up own (j + 1) m : Nat) : Int) := if_neg (by omega)
    rw [eo]
    refine iteNN (fun z => nomatch z) ⟨fun σ' H' => ∃ k', k' < k ∧ ∃ j, k' + j = dep own m ∧ σ' = [some (.ref A.t), some (.int (m : Int)), some (.ref fd)] ∧ H' fd = some (.lst ((List.range (j + 1)).map fun i => .int ((up own i m : Nat) : Int))) ∧ ∀ b, b ≠ fd → H' b = H b, fun _ _ h => h, ?_⟩
    refine ⟨_, rfl, .inl ⟨rfl, _, SqL.of hf⟩, _, rfl, _, _, _, _, _, rfl, ht2, T.clT, T.nT_owners, fsT_owners, _, rfl, _, rfl, _, _, _, _, rfl, rfl, SqL.of hf, atI_neg1 _ _, _, _, _, _, rfl, rfl, SqL.of ho2, atI_nat (rng_at _ _ xl),
      _, _, _, rfl, rfl, hf, (by rw [rng_len]; exact small1000 (by omega)), ?_⟩
    refine ⟨k - 1, by omega, j + 1, by omega, rfl, ?_, fun b h1 => by rw [upd_ne h1]; exact rest b h1⟩
    rw [upd_same, eo, ← rng_snoc (j + 1) (fun i => V.int ((up own i m : Nat) : Int))]
  · have ej : j = dep own m := by omega
    subst ej
    have eo : ownV own (up own (dep own m) m) = .non := if_pos (up_dep wt (Nat.le_refl _))
    rw [eo]
    refine iteNS rfl ?_
    refine ⟨_, rfl, .inl ⟨rfl, _, SqL.of hf⟩, _, _, rfl, rfl, hf, _, rfl, ?_⟩
    refine q fd _ nfd ?_ (fun b h1 => by rw [upd_ne h1]; exact rest b h1)
    rw [upd_same, rng_rev]
    unfold lineL
    rw [nl_range]
    exact congrArg (fun l => some (HO.lst l)) (rng_ext fun i hi => by rw [Nat.add_sub_cancel])
def spTLeapWay (K : PySem.W.Frag) : Sp := fun vs H Q _ => ∃ (t : Addr) (n m k : Nat) (own : Nat → Nat), vs = [.ref t, .int (m : Int), .int (k : Int)] ∧ TQ K H t n own ∧ WT own ∧ m < n ∧ n ≤ 64 ∧ k ≤ dep own m ∧
  ∀ (l : Addr) (f : List Nat) (H' : Hp), H l = none → H' l = some (.lst (nl f)) → f.length ≤ 64 → (m :: f)[f.length]? = some (up own k m) → (∀ b, b ≠ l → H' b = H b) → Q (.ref l) H'
theorem ok_T_leap_way (T : Tx K mg) : Fc P w K mg base 3 (aT K "leap_way") ["self", "make", "steps"] (spTLeapWay K) := by
  refine Fc.mk' T.dT_leap_way c_LeapTree_leap_way (fun vs H Q E h => ?_) (fun _ _ _ _ _ _ us hl => match us, hl with | [_, _, _], _ => rfl) (fun cdv A outer s H vs Q E hr h => ?_)
  · obtain ⟨t, n, m, k, own, rfl, _⟩ := h; rfl
  obtain ⟨_, n, m, k, own, rfl, ⟨A, W, rfl, R⟩, wt, hm, hn, hk, q⟩ := h
  have dl : dep own m ≤ m := dep_le wt m
  have L7 : llen (dep own m) ≤ 6 := llen_le (by omega)
  refine ⟨_, pss_cons (ps_expr (qm (pv 0) T.clT T.mT_need_make (ok_T_need_make T) hr (pa_cons (pv 1) pa_nil)))
    (pss_cons (ps_expr (qm (pv 0) T.clT T.mT_need_steps (ok_T_need_steps T) hr (pa_cons (pv 1) (pa_cons (pv 2) pa_nil))))
    (pss_cons (ps_set (i := 3) c_LeapTree_leap_way.nd rfl (.inl rfl) (pe_lst pa_nil))
    (pss_cons (ps_for PassesOwn.never rfl (pi_revR rfl T.f_reversed (prg_1 rfl T.f_range (qlen T.f_len (qix (pe_fld (pv 0) rfl) (pv 1))))) (pg_name (i := 4) c_LeapTree_leap_way.nd rfl (.inl rfl))
      (pss_one (ps_if (pt_cmpR op_eq (pe_op op_and (pe_op op_shr (pv 2) (pv 4)) pe_int) pe_int (nomark _))
        (pss_cons (ps_set (i := 1) c_LeapTree_leap_way.nd rfl (.inl rfl) (qix (qix (pe_fld (pv 0) rfl) (pv 1)) (pv 4)))
        (pss_one (ps_expr (pe_bm PySem.F.plainAttrs_list PySem.F.slot_list_append PySem.F.type_list_append mt_append (pv 3) (pa_cons (pv 1) pa_nil))))) pss_nil)))
    (pss_one (ps_ret (pv 3)))))), ?_⟩
  refine ⟨_, rfl, _, _, _, rfl, R.ht, fsT_no (by decide +kernel), _, rfl, _, n, m, own, rfl, ⟨A, W, rfl, R⟩, hm, ?_⟩
  refine ⟨_, rfl, _, _, _, rfl, R.ht, fsT_no (by decide +kernel), _, rfl, _, rfl, _, n, m, k, own, rfl, ⟨A, W, rfl, R⟩, hm, hk, ?_⟩
  refine ⟨(by show 0 ≤ sizeLine; decide), fun fd nfd => ?_⟩
  have fdt : A.t ≠ fd := ne_of_none R.ht nfd
  have fdl : A.al ≠ fd := ne_of_none R.hl nfd
  have fdi : ∀ i, i < n → A.la i ≠ fd := fun i h => ne_of_none (R.hi i h) nfd
  have ht1 : ∀ o, upd H fd o A.t = some (.ins (CT K) A.dx (fsT A.ao A.ad A.al)) := fun o => by rw [upd_ne fdt]; exact R.ht
  have hl1 : ∀ o, upd H fd o A.al = some (.lst ((List.range n).map fun i => .ref (A.la i))) := fun o => by rw [upd_ne fdl]; exact R.hl
  have hi1 : ∀ o, upd H fd o (A.la m) = some (.lst (lpV own m)) := fun o => by rw [upd_ne (fdi m hm)]; exact R.hi m hm
  have eL : (lpV own m).length = llen (dep own m) := rng_len _ _
  refine ⟨_, rfl, _, _, _, _, _, rfl, ht1 _, T.clT, T.nT_leaping, fsT_leaping, _, rfl, _, _, _, _, rfl, rfl, SqL.of (hl1 _), atI_nat (rng_at _ _ hm), _, _, rfl, .inl (SqL.of (hi1 _)), _, rfl, by decide, by decide, by omega, by rw [eL]; omega, ?_⟩
  refine for_rangeC (fun i σ H2 => ∃ (f : List Nat) (x4 : Option V), σ = [some (.ref A.t), some (.int ((up own (k - k % 2 ^ (llen (dep own m) - i)) m : Nat) : Int)), some (.int (k : Int)), some (.ref fd), x4] ∧
      H2 fd = some (.lst (nl f)) ∧ f.length ≤ i ∧ (m :: f)[f.length]? = some (up own (k - k % 2 ^ (llen (dep own m) - i)) m) ∧ ∀ b, b ≠ fd → H2 b = H b)
    ⟨[], none, ?_, upd_same, Nat.le_refl _, ?_, fun b h => upd_ne h⟩ ?_ ?_
  · have kl : k < 2 ^ llen (dep own m) := by
      rcases Nat.lt_or_ge k (2 ^ llen (dep own m)) with z | z
      · exact z
      · have := (llen_iff (dep own m) (llen (dep own m))).mpr (by omega)
        omega
    rw [Nat.sub_zero, Nat.mod_eq_of_lt kl, Nat.sub_self]; rfl
  · have kl : k < 2 ^ llen (dep own m) := by
      rcases Nat.lt_or_ge k (2 ^ llen (dep own m)) with z | z
      · exact z
      · have := (llen_iff (dep own m) (llen (dep own m))).mpr (by omega)
        omega
    rw [Nat.sub_zero, Nat.mod_eq_of_lt kl, Nat.sub_self]; rfl
  · rintro i σ H2 hi ⟨f, x4, rfl, hf, fl, fe, rest⟩
    rw [eL] at hi ⊢
    have hi' : i < llen (dep own m) := by omega
    obtain ⟨p, ep⟩ : ∃ p, llen (dep own m) - i = p + 1 := ⟨llen (dep own m) - i - 1, by omega⟩
    have ep2 : llen (dep own m) - (i + 1) = p := by omega
    rw [ep] at fe
    rw [ep, ep2]
    have ex : (0 : Int) + ((((llen (dep own m) : Nat) : Int) - 0).toNat : Int) - 1 + (i : Int) * (-1) = (p : Int) := by omega
    rw [ex]
    have ht2 := (rest _ fdt).trans R.ht
    have hl2 := (rest _ fdl).trans R.hl
    have ms := mod_step k p
    have ml : k % 2 ^ (p + 1) ≤ k := Nat.mod_le _ _
    have pw : (2 : Nat) ^ p = 2 ^ (p : Int).toNat := by rw [Int.toNat_natCast]
    have bt : Builtin.bitAnd ((k : Int) / 2 ^ (p : Int).toNat) 1 = ((k / 2 ^ p % 2 : Nat) : Int) := by
      rw [← and_one, Int.toNat_natCast]; rfl
    refine ⟨_, rfl, _, rfl, _, _, rfl, rfl, (by omega), _, _, rfl, rfl, rfl, _, rfl, ?_⟩
    have b2 := Nat.mod_lt (k / 2 ^ p) (show 0 < 2 by decide)
    by_cases c : k / 2 ^ p % 2 = 1
    · rw [c] at ms
      refine iteY (show V.int (Builtin.bitAnd ((k : Int) / 2 ^ (p : Int).toNat) 1) = V.int 1 from by rw [bt, c]; rfl) ?_
      have xl : up own (k - k % 2 ^ (p + 1)) m < n := Nat.lt_of_le_of_lt (up_le wt _ m) hm
      have hi2 := (rest _ (fdi _ xl)).trans (R.hi _ xl)
      have lp : p < llen (dep own (up own (k - k % 2 ^ (p + 1)) m)) := (llen_iff _ _).mpr (by rw [dep_up wt]; omega)
      have eu : up own (2 ^ p) (up own (k - k % 2 ^ (p + 1)) m) = up own (k - k % 2 ^ p) m := by
        rw [← up_add]
        congr 1
        omega
      refine ⟨_, rfl, _, _, _, _, _, rfl, ht2, T.clT, T.nT_leaping, fsT_leaping, _, rfl, _, _, _, _, rfl, rfl, SqL.of hl2, atI_nat (rng_at _ _ xl), _, rfl, _, _, _, _, rfl, rfl, SqL.of hi2, atI_nat (rng_at _ _ lp), ?_⟩
      rw [eu]
      refine ⟨_, rfl, .inl ⟨rfl, _, SqL.of hf⟩, _, rfl, _, _, _, rfl, rfl, hf, (by rw [nl_len]; exact small1000 (by omega)), ?_⟩
      refine ⟨f ++ [up own (k - k % 2 ^ p) m], _, rfl, ?_, by rw [List.length_append]; simp; omega, ?_, fun b h => by rw [upd_ne h]; exact rest b h⟩
      · rw [upd_same, nl_append]; rfl
      · rw [List.length_append, ← List.cons_append, List.getElem?_append_right (by simp)]
        simp
    · have c0 : k / 2 ^ p % 2 = 0 := by omega
      rw [c0] at ms
      refine iteN (show ¬ V.int (Builtin.bitAnd ((k : Int) / 2 ^ (p : Int).toNat) 1) = V.int 1 from by rw [bt, c0]; intro z; exact absurd (V.int.inj z) (by decide)) ?_
      have em : k % 2 ^ (p + 1) = k % 2 ^ p := by omega
      rw [em] at fe ⊢
      exact ⟨f, _, rfl, hf, by omega, fe, rest⟩
  · rintro σ H2 ⟨f, x4, rfl, hf, fl, fe, rest⟩
    rw [eL] at fl fe
    have e0 : llen (dep own m) - (((llen (dep own m) : Nat) : Int) - 0).toNat = 0 := by omega
    rw [e0, Nat.pow_zero, Nat.mod_one, Nat.sub_zero] at fe
    exact ⟨_, rfl, q fd f H2 nfd hf (by omega) fe rest⟩
end
end MK

set_option Elab.async false
set_option linter.all false
set_option maxRecDepth 100000
set_option maxHeartbeats 4000000
/-! walks of makeskept.leaps: up, nearest; makeskept.tree: way; copies -/
namespace MK
open PySem PySem.Spec PyProof.Rows L2
theorem TQ.same {K : PySem.W.Frag} {H H' : Hp} {t : Addr} {n : Nat} {own : Nat → Nat} (q : TQ K H t n own) (s : Same H H') : TQ K H' t n own :=
  let ⟨A, W, e, R⟩ := q
  ⟨A, W, e, R.at' fun b o i h1 h2 _ _ => ⟨s b o h1, h2⟩⟩
theorem same_of {H H' : Hp} {l : Addr} (n : H l = none) (r : ∀ b, b ≠ l → H' b = H b) : Same H H' := fun b o e => (r b (ne_of_none e n)).trans e
section
variable {P : Program} {w : World} {K : PySem.W.Frag} {mg : Str → Option Value} {base : Heap}
def spTUp (K : PySem.W.Frag) : Sp := fun vs H Q _ => ∃ (t : Addr) (n m k : Nat) (own : Nat → Nat), vs = [.ref t, .int (m : Int), .int (k : Int)] ∧ TQ K H t n own ∧ WT own ∧ m < n ∧ n ≤ 64 ∧ k ≤ dep own m ∧
  ∀ H', Same H H' → Q (.int ((up own k m : Nat) : Int)) H'
theorem ok_T_up (T : Tx K mg) : Fc P w K mg base 4 (aT K "up") ["self", "make", "steps"] (spTUp K) := by
  refine Fc.mk' T.dT_up c_LeapTree_up (fun vs H Q E h => ?_) (fun _ _ _ _ _ _ us hl => match us, hl with | [_, _, _], _ => rfl) (fun cdv A outer s H vs Q E hr h => ?_)
  · obtain ⟨t, n, m, k, own, rfl, _⟩ := h; rfl
  obtain ⟨_, n, m, k, own, rfl, ⟨A, W, rfl, R⟩, wt, hm, hn, hk, q⟩ := h
  refine ⟨_, pss_one (ps_ret (qix (pe_op op_cat (pe_lst (pa_cons (pv 1) pa_nil)) (qm (pv 0) T.clT T.mT_leap_way (ok_T_leap_way T) hr (pa_cons (pv 1) (pa_cons (pv 2) pa_nil)))) qneg)), ?_⟩
  refine ⟨_, rfl, (by show 1 ≤ sizeLine; decide), fun d nd => ?_⟩
  have s1 : Same H (upd H d (.lst [V.int (m : Int)])) := Same.new (Same.refl H) nd
  have R1 := (show TQ K H A.t n own from ⟨A, W, rfl, R⟩).same s1
  refine ⟨_, rfl, _, _, _, rfl, s1 _ _ R.ht, fsT_no (by decide +kernel), _, rfl, _, rfl, _, n, m, k, own, rfl, R1, wt, hm, hn, hk, fun l f H2 nl_ hl fl fe rest => ?_⟩
  have ld : d ≠ l := ne_of_none upd_same nl_
  have hd2 : H2 d = some (.lst [V.int (m : Int)]) := (rest d ld).trans upd_same
  refine ⟨d, l, _, _, rfl, rfl, hd2, hl, (by rw [nl_len]; show 1 + f.length ≤ sizeLine; exact Nat.le_of_lt (small1000 (by omega))), fun p np => ?_⟩
  refine ⟨_, rfl, p, _, _, .int ((up own k m : Nat) : Int), rfl, rfl, SqL.of upd_same, ?_, ?_⟩
  · refine atI_last' ?_
    show (nl (m :: f))[(nl (m :: f)).length - 1]? = _
    rw [nl_len]
    show (nl (m :: f))[f.length]? = _
    unfold nl
    rw [List.getElem?_map, fe]; rfl
  · exact q _ (Same.new (s1.trans (same_of nl_ rest)) np)
def spTNearest (K : PySem.W.Frag) : Sp := fun vs H Q _ => ∃ (t : Addr) (n a b : Nat) (own : Nat → Nat), vs = [.ref t, .int (a : Int), .int (b : Int)] ∧ TQ K H t n own ∧ WT own ∧ a < n ∧ b < n ∧ n ≤ 64 ∧
  ∀ (r : Nat) (H' : Hp), Nca own a b r → Same H H' → Q (.int (r : Int)) H'
/-- what the search knows -/
structure Srch (own : Nat → Nat) (x y o t P : Nat) : Prop where
  hd : dep own o = dep own t
  ne : o ≠ t
  ho : ∃ i, up own i x = o ∧ i ≤ dep own x
  hy : ∃ i, up own i y = t ∧ i ≤ dep own y
  e : up own (2 ^ P) o = up own (2 ^ P) t
theorem Srch.lt {own : Nat → Nat} (W : WT own) {x y o t P : Nat} (S : Srch own x y o t P) : o ≤ x ∧ t ≤ y := by
  obtain ⟨i, h1, _⟩ := S.ho
  obtain ⟨j, h2, _⟩ := S.hy
  exact ⟨h1 ▸ up_le W i x, h2 ▸ up_le W j y⟩
theorem Srch.go {own : Nat → Nat} (W : WT own) {x y o t p : Nat} (S : Srch own x y o t (p + 1)) (h1 : p < llen (dep own o)) (h2 : up own (2 ^ p) o ≠ up own (2 ^ p) t) : Srch own x y (up own (2 ^ p) o) (up own (2 ^ p) t) p := by
  obtain ⟨a, b⟩ := (leap_step W S.hd S.e).1 h1 h2
  have l1 := (llen_iff _ _).mp h1
  obtain ⟨i, e1, i1⟩ := S.ho
  obtain ⟨j, e2, j1⟩ := S.hy
  have d1 : dep own o = dep own x - i := by rw [← e1, dep_up W]
  have d2 : dep own t = dep own y - j := by rw [← e2, dep_up W]
  have := S.hd
  exact ⟨a, h2, ⟨2 ^ p + i, by rw [up_add, e1], by omega⟩, ⟨2 ^ p + j, by rw [up_add, e2], by omega⟩, b⟩
theorem Srch.stay {own : Nat → Nat} (W : WT own) {x y o t p : Nat} (S : Srch own x y o t (p + 1)) (h : ¬ (p < llen (dep own o) ∧ up own (2 ^ p) o ≠ up own (2 ^ p) t)) : Srch own x y o t p :=
  ⟨S.hd, S.ne, S.ho, S.hy, (leap_step W S.hd S.e).2 h⟩
theorem ok_T_nearest (T : Tx K mg) : Fc P w K mg base 5 (aT K "nearest") ["self", "one", "other"] (spTNearest K) := by
  refine Fc.mk' T.dT_nearest c_LeapTree_nearest (fun vs H Q E h => ?_) (fun _ _ _ _ _ _ us hl => match us, hl with | [_, _, _], _ => rfl) (fun cdv A outer s H vs Q E hr h => ?_)
  · obtain ⟨t, n, a, b, own, rfl, _⟩ := h; rfl
  obtain ⟨_, n, a, b, own, rfl, ⟨A, W, rfl, R⟩, wt, ha, hb, hn, q⟩ := h
  have nd := c_LeapTree_nearest.nd
  refine ⟨_, pss_cons (ps_expr (qm (pv 0) T.clT T.mT_need_make (ok_T_need_make T) (hr.mono (by decide)) (pa_cons (pv 1) pa_nil)))
    (pss_cons (ps_expr (qm (pv 0) T.clT T.mT_need_make (ok_T_need_make T) (hr.mono (by decide)) (pa_cons (pv 2) pa_nil)))
    (pss_cons (ps_if (pt_cmpR op_gt (qix (pe_fld (pv 0) rfl) (pv 1)) (qix (pe_fld (pv 0) rfl) (pv 2)) (nomark _))
      (pss_one (ps_par (i := 1) (j := 2) (by rfl) nd rfl rfl (by decide) rfl rfl (pa_cons (pv 2) (pa_cons (pv 1) pa_nil)) (by rfl))) pss_nil)
    (pss_cons (ps_set (i := 2) nd rfl (.inl rfl) (qm (pv 0) T.clT T.mT_up (ok_T_up T) hr (pa_cons (pv 2) (pa_cons (pe_op op_sub (qix (pe_fld (pv 0) rfl) (pv 2)) (qix (pe_fld (pv 0) rfl) (pv 1))) pa_nil))))
    (pss_cons (ps_if (pt_cmpR op_eq (pv 1) (pv 2) (nomark _)) (pss_one (ps_ret (pv 1))) pss_nil)
    (pss_cons (ps_for PassesOwn.never rfl (pi_revR rfl T.f_reversed (prg_1 rfl T.f_range (qlen T.f_len (qix (pe_fld (pv 0) rfl) (pv 1))))) (pg_name (i := 3) nd rfl (.inl rfl))
      (pss_cons (ps_set (i := 4) nd rfl (.inl rfl) (qix (pe_fld (pv 0) rfl) (pv 1)))
      (pss_cons (ps_set (i := 5) nd rfl (.inl rfl) (qix (pe_fld (pv 0) rfl) (pv 2)))
      (pss_one (ps_if (PW.pt (pw_and (pt_cmpR op_lt (pv 3) (qlen T.f_len (pv 4)) (nomark _)) (pw_and1 (pt_cmpR op_ne (qix (pv 4) (pv 3)) (qix (pv 5) (pv 3)) (nomark _)))))
        (pss_cons (ps_set (i := 1) nd rfl (.inl rfl) (qix (pv 4) (pv 3))) (pss_one (ps_set (i := 2) nd rfl (.inl rfl) (qix (pv 5) (pv 3))))) pss_nil)))))
    (pss_one (ps_ret (qix (qix (pe_fld (pv 0) rfl) (pv 1)) pe_int)))))))), ?_⟩
  refine ⟨_, rfl, _, _, _, rfl, R.ht, fsT_no (by decide +kernel), _, rfl, _, n, a, own, rfl, ⟨A, W, rfl, R⟩, ha, ?_⟩
  refine ⟨_, rfl, _, _, _, rfl, R.ht, fsT_no (by decide +kernel), _, rfl, _, n, b, own, rfl, ⟨A, W, rfl, R⟩, hb, ?_⟩
  refine ⟨_, rfl, _, _, _, _, _, rfl, R.ht, T.clT, T.nT_depths, fsT_depths, _, rfl, _, _, _, _, rfl, rfl, SqL.of R.hd, atI_nat (rng_at _ _ ha), _, rfl, _, _, _, _, _, rfl, R.ht, T.clT, T.nT_depths, fsT_depths, _, rfl, _, _, _, _, rfl, rfl, SqL.of R.hd, atI_nat (rng_at _ _ hb),
    _, _, rfl, rfl, _, rfl, ?_⟩
  -- the rest, from x and y, the first one not the deeper one
  have key : ∀ (x y : Nat), x < n → y < n → dep own x ≤ dep own y → (∀ (r : Nat) (H' : Hp), Nca own x y r → Same H H' → Q (.int (r : Int)) H') →
      ∀ v4 v5 v6, tSeq (tAsg (tMeth (CT K) "up" (spTUp K) [] E0 (tVar 0) (tCons (tVar 2) (tCons (tOp (rI0 fun i j => V.int (i - j)) (tOp (rIxL K) (tFld K (tVar 0) "depths") (tVar 2)) (tOp (rIxL K) (tFld K (tVar 0) "depths") (tVar 1))) tNil))) (gName 2))
        (tSeq (tIfS (tTest (tOp rEq (tVar 1) (tVar 2))) (tRet (tVar 1)) tNext)
        (tSeq (tFor (iRevR (tRg1 (tCB (rLenS K) (tCons (tOp (rIxL K) (tFld K (tVar 0) "leaping") (tVar 1)) tNil)))) (gName 3)
          (tSeq (tAsg (tOp (rIxL K) (tFld K (tVar 0) "leaping") (tVar 1)) (gName 4))
          (tSeq (tAsg (tOp (rIxL K) (tFld K (tVar 0) "leaping") (tVar 2)) (gName 5))
          (tIfS (tAnd (tTest (tOp (rI0 fun i j => V.bl (decide (i < j))) (tVar 3) (tCB (rLenS K) (tCons (tVar 4) tNil)))) (tTest (tOp rNe (tOp (rIxL K) (tVar 4) (tVar 3)) (tOp (rIxL K) (tVar 5) (tVar 3)))))
            (tSeq (tAsg (tOp (rIxL K) (tVar 4) (tVar 3)) (gName 1)) (tAsg (tOp (rIxL K) (tVar 5) (tVar 3)) (gName 2))) tNext))))
        (tRet (tOp (rIxL K) (tOp (rIxL K) (tFld K (tVar 0) "leaping") (tVar 1)) (tC (.int 0))))))
        { nx := fun _ H' => Q .non H', rt := Q } [some (.ref A.t), some (.int (x : Int)), some (.int (y : Int)), v4, v5, v6] H := by
    intro x y hx hy hxy q v4 v5 v6
    have dly : dep own y ≤ y := dep_le wt y
    refine ⟨_, rfl, _, _, _, rfl, R.ht, fsT_no (by decide +kernel), _, rfl, _, rfl, _, _, _, _, _, rfl, R.ht, T.clT, T.nT_depths, fsT_depths, _, rfl, _, _, _, _, rfl, rfl, SqL.of R.hd, atI_nat (rng_at _ _ hy), _, rfl, _, _, _, _, _, rfl, R.ht, T.clT, T.nT_depths, fsT_depths,
      _, rfl, _, _, _, _, rfl, rfl, SqL.of R.hd, atI_nat (rng_at _ _ hx), _, _, rfl, rfl, _, n, y, dep own y - dep own x, own, ?_, ⟨A, W, rfl, R⟩, wt, hy, hn, by omega, fun H1 s1 => ?_⟩
    · show [V.ref A.t, V.int (y : Int), V.int (((dep own y : Nat) : Int) - ((dep own x : Nat) : Int))] = _
      rw [show ((dep own y : Nat) : Int) - ((dep own x : Nat) : Int) = ((dep own y - dep own x : Nat) : Int) by omega]
    have R1 := R.at' (H' := H1) (W' := W) fun b o i h1 h2 _ _ => ⟨s1 b o h1, h2⟩
    have dy : dep own (up own (dep own y - dep own x) y) = dep own x := by rw [dep_up wt]; omega
    refine ⟨_, rfl, _, rfl, rfl, _, rfl, ?_⟩
    by_cases e : x = up own (dep own y - dep own x) y
    · refine iteY (by rw [← e]) ⟨_, rfl, q x H1 ?_ s1⟩
      exact (nca_same wt (a := y) (b := x) (x := up own (dep own y - dep own x) y) ⟨_, rfl, by omega⟩ dy e.symm).symm
    refine iteN (fun z => e (by have := V.int.inj z; omega)) ?_
    have dlx : dep own x ≤ x := dep_le wt x
    have L7 : llen (dep own x) ≤ 6 := llen_le (by omega)
    have eL : (lpV own x).length = llen (dep own x) := rng_len _ _
    refine ⟨_, rfl, _, _, _, _, _, rfl, R1.ht, T.clT, T.nT_leaping, fsT_leaping, _, rfl, _, _, _, _, rfl, rfl, SqL.of R1.hl, atI_nat (rng_at _ _ hx), _, _, rfl, .inl (SqL.of (R1.hi x hx)), _, rfl, by decide, by decide, by omega, by rw [eL]; omega, ?_⟩
    refine for_rangeC (fun i σ H2 => H2 = H1 ∧ ∃ (o t : Nat) (v4 v5 v6 : Option V), σ = [some (.ref A.t), some (.int (o : Int)), some (.int (t : Int)), v4, v5, v6] ∧ Srch own x y o t (llen (dep own x) - i))
      ⟨rfl, x, _, v4, v5, v6, rfl, ?_⟩ ?_ ?_
    · refine ⟨dy.symm, e, ⟨0, rfl, Nat.zero_le _⟩, ⟨_, rfl, by omega⟩, ?_⟩
      have kl : dep own x < 2 ^ llen (dep own x) := by
        rcases Nat.lt_or_ge (dep own x) (2 ^ llen (dep own x)) with z | z
        · exact z
        · have := (llen_iff (dep own x) (llen (dep own x))).mpr z
          omega
      rw [Nat.sub_zero, up_dep wt (Nat.le_of_lt kl), up_dep wt (by rw [dy]; exact Nat.le_of_lt kl)]
    · rintro i σ H2 hi ⟨rfl, o, t, v4, v5, v6, rfl, S⟩
      rw [eL] at hi ⊢
      have hi' : i < llen (dep own x) := by omega
      obtain ⟨p, ep⟩ : ∃ p, llen (dep own x) - i = p + 1 := ⟨llen (dep own x) - i - 1, by omega⟩
      have ep2 : llen (dep own x) - (i + 1) = p := by omega
      rw [ep] at S
      rw [ep2]
      have ex : (0 : Int) + ((((llen (dep own x) : Nat) : Int) - 0).toNat : Int) - 1 + (i : Int) * (-1) = (p : Int) := by omega
      rw [ex]
      obtain ⟨ol, tl⟩ := S.lt wt
      have on : o < n := by omega
      have tn : t < n := by omega
      refine ⟨_, rfl, _, _, _, _, _, rfl, R1.ht, T.clT, T.nT_leaping, fsT_leaping, _, rfl, _, _, _, _, rfl, rfl, SqL.of R1.hl, atI_nat (rng_at _ _ on), ?_⟩
      refine ⟨_, rfl, _, _, _, _, _, rfl, R1.ht, T.clT, T.nT_leaping, fsT_leaping, _, rfl, _, _, _, _, rfl, rfl, SqL.of R1.hl, atI_nat (rng_at _ _ tn), ?_⟩
      have eo : (lpV own o).length = llen (dep own o) := rng_len _ _
      refine ⟨_, rfl, _, rfl, _, _, rfl, .inl (SqL.of (R1.hi o on)), _, _, rfl, rfl, _, rfl, ?_⟩
      rw [eo]
      by_cases c : p < llen (dep own o)
      · refine iteY (by omega) ?_
        have c2 : p < llen (dep own t) := by rw [← S.hd]; exact c
        have a1 : atI (lpV own o) (p : Int) = some (.int ((up own (2 ^ p) o : Nat) : Int)) := atI_nat (rng_at _ _ c)
        have a2 : atI (lpV own t) (p : Int) = some (.int ((up own (2 ^ p) t : Nat) : Int)) := atI_nat (rng_at _ _ c2)
        refine ⟨_, rfl, _, rfl, _, _, _, _, rfl, rfl, SqL.of (R1.hi o on), a1, _, rfl, _, rfl, _, _, _, _, rfl, rfl, SqL.of (R1.hi t tn), a2, rfl, _, rfl, ?_⟩
        by_cases d : up own (2 ^ p) o = up own (2 ^ p) t
        · refine iteNS (by rw [d]) ?_
          exact ⟨rfl, o, t, _, _, _, rfl, S.stay wt fun z => z.2 d⟩
        · refine iteNN (fun z => d (by have := V.int.inj z; omega)) ?_
          refine ⟨_, rfl, _, rfl, _, _, _, _, rfl, rfl, SqL.of (R1.hi o on), a1, ?_⟩
          refine ⟨_, rfl, _, rfl, _, _, _, _, rfl, rfl, SqL.of (R1.hi t tn), a2, ?_⟩
          exact ⟨rfl, _, _, _, _, _, rfl, S.go wt c d⟩
      · refine iteN (by omega) ?_
        exact ⟨rfl, o, t, _, _, _, rfl, S.stay wt fun z => c z.1⟩
    · rintro σ H2 ⟨rfl, o, t, v4, v5, v6, rfl, S⟩
      rw [eL] at S
      have e0 : llen (dep own x) - (((llen (dep own x) : Nat) : Int) - 0).toNat = 0 := by omega
      rw [e0] at S
      obtain ⟨ol, tl⟩ := S.lt wt
      have on : o < n := by omega
      have dp := dep_pos_of own wt S.hd S.ne
      have l0 : 0 < llen (dep own o) := (llen_iff _ _).mpr (by show 1 ≤ _; omega)
      refine ⟨_, rfl, _, _, _, _, _, rfl, R1.ht, T.clT, T.nT_leaping, fsT_leaping, _, rfl, _, _, _, _, rfl, rfl, SqL.of R1.hl, atI_nat (rng_at _ _ on), _, _, _, _, rfl, rfl, SqL.of (R1.hi o on), atI_nat (j := 0) (rng_at _ _ l0), ?_⟩
      exact q (own o) _ (nca_step (k := 0) wt S.hd S.ho S.hy S.ne S.e) s1
  by_cases c : dep own b < dep own a
  · refine iteY (by omega) ?_
    exact ⟨_, rfl, _, rfl, _, _, rfl, key b a hb ha (by omega) (fun r H' h s => q r H' h.symm s) _ _ _⟩
  · refine iteN (by omega) ?_
    exact key a b ha hb (by omega) q _ _ _
end
end MK

set_option Elab.async false
set_option linter.all false
set_option maxRecDepth 100000
set_option maxHeartbeats 4000000
/-! walks of makeskept.tree: way; makeskept.leaps: copied -/
namespace MK
open PySem PySem.Spec PyProof.Rows L2
theorem lineL_len (own : Nat → Nat) (m : Nat) : (nl (lineL own m)).length = dep own m + 1 := by
  rw [nl_len]; unfold lineL; exact rng_len _ _
theorem nl_drop (l : List Nat) (k : Nat) : (nl l).drop k = nl (l.drop k) := by unfold nl; exact (List.map_drop).symm
theorem nl_reverse (l : List Nat) : (nl l).reverse = nl l.reverse := by unfold nl; exact (List.map_reverse).symm
theorem way_up {own : Nat → Nat} (a d : Nat) (h : d ≤ dep own a) : ((lineL own a).drop d).reverse = (List.range (dep own a - d + 1)).map fun i => up own i a := by
  unfold lineL
  rw [rng_drop, rng_rev, show dep own a + 1 - d = dep own a - d + 1 by omega]
  refine rng_ext fun i hi => ?_
  congr 1
  omega
theorem way_down {own : Nat → Nat} (b d : Nat) : (lineL own b).drop (d + 1) = (List.range (dep own b - d)).map fun i => up own (dep own b - d - 1 - i) b := by
  unfold lineL
  rw [rng_drop, show dep own b + 1 - (d + 1) = dep own b - d by omega]
  refine rng_ext fun i hi => ?_
  congr 1
  omega
section
variable {P : Program} {w : World} {K : PySem.W.Frag} {mg : Str → Option Value} {base : Heap}
def spTWay (K : PySem.W.Frag) : Sp := fun vs H Q _ => ∃ (t : Addr) (n a b : Nat) (own : Nat → Nat), vs = [.ref t, .int (a : Int), .int (b : Int)] ∧ TQ K H t n own ∧ WT own ∧ a < n ∧ b < n ∧ n ≤ 64 ∧
  ∀ (r : Nat) (l : Addr) (H' : Hp), Nca own a b r → H l = none → H' l = some (.lst (nl (wayL own a b r))) → Same H H' → Q (.ref l) H'
theorem ok_T_way (T : Tx K mg) : Fc P w K mg base 6 (aT K "way") ["self", "one", "other"] (spTWay K) := by
  refine Fc.mk' T.dT_way c_MakeTree_way (fun vs H Q E h => ?_) (fun _ _ _ _ _ _ us hl => match us, hl with | [_, _, _], _ => rfl) (fun cdv A outer s H vs Q E hr h => ?_)
  · obtain ⟨t, n, a, b, own, rfl, _⟩ := h; rfl
  obtain ⟨_, n, a, b, own, rfl, ⟨A, W, rfl, R⟩, wt, ha, hb, hn, q⟩ := h
  have nd := c_MakeTree_way.nd
  have da : dep own a ≤ a := dep_le wt a
  have db : dep own b ≤ b := dep_le wt b
  refine ⟨_, pss_cons (ps_set (i := 3) nd rfl (.inl rfl) (qm (pv 0) T.clT T.mT_nearest (ok_T_nearest T) hr (pa_cons (pv 1) (pa_cons (pv 2) pa_nil))))
    (pss_cons (ps_set (i := 4) nd rfl (.inl rfl) (pe_slice sl_list (qm (pv 0) T.clT T.mT_line (ok_T_line T) (hr.mono (by decide)) (pa_cons (pv 1) pa_nil)) (po_some (qix (pe_fld (pv 0) rfl) (pv 3))) po_none))
    (pss_cons (ps_expr (pe_bm0 PySem.F.plainAttrs_list PySem.F.slot_list_reverse PySem.F.type_list_reverse mt_reverse (pv 4)))
    (pss_one (ps_ret (pe_op op_cat (pv 4) (pe_slice sl_list (qm (pv 0) T.clT T.mT_line (ok_T_line T) (hr.mono (by decide)) (pa_cons (pv 2) pa_nil)) (po_some (pe_op op_add (qix (pe_fld (pv 0) rfl) (pv 3)) pe_int)) po_none)))))), ?_⟩
  refine ⟨_, rfl, _, _, _, rfl, R.ht, fsT_no (by decide +kernel), _, rfl, _, rfl, _, n, a, b, own, rfl, ⟨A, W, rfl, R⟩, wt, ha, hb, hn, fun r H1 hr1 s1 => ?_⟩
  have rn : r < n := by
    have : r ≤ a := hr1.ea ▸ up_le wt _ _
    omega
  have R1 := R.at' (H' := H1) (W' := W) fun b o i h1 h2 _ _ => ⟨s1 b o h1, h2⟩
  -- up = self.line(one)[self.depths[nearest]:]
  refine ⟨_, rfl, _, _, _, rfl, R1.ht, fsT_no (by decide +kernel), _, rfl, _, n, a, own, rfl, ⟨A, W, rfl, R1⟩, wt, ha, hn, fun l1 H2 nl1 hl1 rest1 => ?_⟩
  have s2 := same_of nl1 rest1
  have R2 := R1.at' (H' := H2) (W' := W) fun b o i h1 h2 _ _ => ⟨s2 b o h1, h2⟩
  refine ⟨_, rfl, _, _, _, _, _, rfl, R2.ht, T.clT, T.nT_depths, fsT_depths, _, rfl, _, _, _, _, rfl, rfl, SqL.of R2.hd, atI_nat (rng_at _ _ rn), _, rfl, _, _, rfl, SqL.of hl1, fun u nu => ?_⟩
  rw [cut_from _ _ (by rw [lineL_len]; have := hr1.da; omega), nl_drop]
  have s3 : Same H2 (upd H2 u (.lst (nl ((lineL own a).drop (dep own r))))) := Same.new (Same.refl _) nu
  -- up.reverse()
  refine ⟨_, rfl, .inl ⟨rfl, _, SqL.of upd_same⟩, _, _, rfl, rfl, upd_same, ?_⟩
  rw [nl_reverse, way_up a _ hr1.da, upd_upd]
  have nu1 : H1 u = none := s2.free nu
  have nu0 : H u = none := s1.free nu1
  have s4 : Same H2 (upd H2 u (.lst (nl ((List.range (dep own a - dep own r + 1)).map fun i => up own i a)))) := Same.new (Same.refl _) nu
  have R4 := R2.at' (H' := upd H2 u (.lst (nl ((List.range (dep own a - dep own r + 1)).map fun i => up own i a)))) (W' := W) fun b o i h1 h2 _ _ => ⟨s4 b o h1, h2⟩
  refine ⟨_, rfl, _, rfl, _, _, _, rfl, R4.ht, fsT_no (by decide +kernel), _, rfl, _, n, b, own, rfl, ⟨A, W, rfl, R4⟩, wt, hb, hn, fun l2 H5 nl2 hl2 rest2 => ?_⟩
  have s5 := same_of nl2 rest2
  have R5 := R4.at' (H' := H5) (W' := W) fun b o i h1 h2 _ _ => ⟨s5 b o h1, h2⟩
  refine ⟨_, rfl, _, _, _, _, _, rfl, R5.ht, T.clT, T.nT_depths, fsT_depths, _, rfl, _, _, _, _, rfl, rfl, SqL.of R5.hd, atI_nat (rng_at _ _ rn), _, _, rfl, rfl, ((dep own r + 1 : Nat) : Int), by simp, _, _, rfl, SqL.of hl2, fun v nv => ?_⟩
  rw [cut_from _ _ (by rw [lineL_len]; have := hr1.db; omega), nl_drop, way_down]
  have ul2 : u ≠ l2 := ne_of_none upd_same nl2
  have hu5 : H5 u = some (.lst (nl ((List.range (dep own a - dep own r + 1)).map fun i => up own i a))) := (rest2 u ul2).trans upd_same
  have uv : u ≠ v := ne_of_none hu5 nv
  refine ⟨u, v, _, _, rfl, rfl, (by rw [upd_ne uv]; exact hu5), upd_same, (by rw [nl_len, nl_len, rng_len, rng_len]; exact Nat.le_of_lt (small1000 (by omega))), fun p np => ?_⟩
  have s6 : Same H5 (upd H5 v (.lst (nl ((List.range (dep own b - dep own r)).map fun i => up own (dep own b - dep own r - 1 - i) b)))) := Same.new (Same.refl _) nv
  have s7 := (((s1.trans s2).trans s4).trans s5).trans s6
  refine q r p _ hr1 (s7.free np) ?_ (Same.new s7 np)
  rw [upd_same, ← nl_append]; rfl
def rLst (K : PySem.W.Frag) : List V → Hp → VK → Prop := fun xs H Q => ∃ p ys, xs = [.ref p] ∧ (SqL K H p ys ∨ SqT K H p ys) ∧ ∀ l, H l = none → Q (.ref l) (upd H l (.lst ys))
theorem cl_list {X : Cx} (e : X.K = K) : CallR X (.type "list") (rLst K) := by
  subst e
  exact call_list_of
def spTCopied (K : PySem.W.Frag) : Sp := fun vs H Q _ => ∃ (t : Addr) (n : Nat) (own : Nat → Nat), vs = [.ref t] ∧ TQ K H t n own ∧ n ≤ 64 ∧
  ∀ (A' : TAd) (W' : Ow) (H' : Hp), TreeIn A' K H' W' n own → (∀ b, W' b ≠ 0 → H b = none) → Has W' H' → Same H H' → Q (.ref A'.t) H'
open Classical in
/-- the roles of a copied tree -/
noncomputable def cpW (t o d l : Addr) (n : Nat) (la : Nat → Addr) : Ow := fun b => if b = t then 1 else if b = o then 2 else if b = d then 3 else if b = l then 4 else if ∃ j, j < n ∧ b = la j then 5 else 0
theorem ok_T_copied (T : Tx K mg) : Fc P w K mg base 4 (aT K "copied") ["self"] (spTCopied K) := by
  refine Fc.mk' T.dT_copied c_LeapTree_copied (fun vs H Q E h => ?_) (fun _ _ _ _ _ _ us hl => match us, hl with | [_], _ => rfl) (fun cdv A outer s H vs Q E hr h => ?_)
  · obtain ⟨t, n, own, rfl, _⟩ := h; rfl
  obtain ⟨_, n, own, rfl, ⟨A, W, rfl, R⟩, hn, q⟩ := h
  have nd := c_LeapTree_copied.nd
  refine ⟨_, pss_cons (ps_set (i := 1) nd rfl (.inl rfl) (qk0 T.mkT (ok_T_init T) hr rfl T.g_LeapTree))
    (pss_cons (ps_fld (pv 1) (pe_callTy call_list_of rfl T.f_list boot_listT (pa_cons (pe_fld (pv 0) rfl) pa_nil)) rfl)
    (pss_cons (ps_fld (pv 1) (pe_callTy call_list_of rfl T.f_list boot_listT (pa_cons (pe_fld (pv 0) rfl) pa_nil)) rfl)
    (pss_cons (ps_fld (pv 1) (pe_lc (own := [("leaps", 2)]) (g := gName 2) (tt := tYes) rfl nd (pi_list (pe_fld (pv 0) rfl)) (blkOk_by (N := ["self", "found", "leaps"]) (sc := defScope s_LeapTree_copied) (by decide +kernel))
      (fun _ _ _ _ _ => pg_name (i := 2) nd rfl (.inl rfl)) (fun _ _ _ _ _ => pts_nil) (fun _ _ _ _ _ => pe_callTy (cl_list (K := K) rfl) rfl T.f_list boot_listT (pa_cons (pv 2) pa_nil))) rfl)
    (pss_one (ps_ret (pv 1)))))), ?_⟩
  intro x dx nx ndx nex
  refine ⟨x, dx, rfl, upd_same, fun B W1 H1 eB RB old1 has1 keep1 => ⟨rfl, ?_⟩⟩
  have RB := RB own
  have s0 : Same H (upd (upd H dx (.own x)) x (.ins (CT K) dx [])) := Same.new (Same.new (Same.refl H) ndx) (by rw [upd_ne nex.symm]; exact nx)
  have s1 : Same H H1 := fun b o e => keep1 b o (s0 b o e) (ne_of_none e nx)
  have hx1 : H1 x = some (.ins (CT K) B.dx (fsT B.ao B.ad B.al)) := by rw [← eB]; exact RB.ht
  have R1 := R.at' (H' := H1) (W' := W) fun b o i h1 h2 _ _ => ⟨s1 b o h1, h2⟩
  -- found.owners = list(self.owners)
  refine ⟨_, rfl, _, _, _, _, _, rfl, R1.ht, T.clT, T.nT_owners, fsT_owners, _, _, rfl, .inl (SqL.of R1.ho), fun o no => ?_⟩
  have xo : x ≠ o := ne_of_none hx1 no
  refine ⟨_, rfl, x, _, _, _, rfl, (by rw [upd_ne xo]; exact hx1), T.clT, T.nT_owners, (by show 3 < 1000; decide), ?_⟩
  have e1 : putF "owners" (V.ref o) (fsT B.ao B.ad B.al) = fsT o B.ad B.al := by kernel_rfl
  rw [e1]
  have s2 : Same H (upd (upd H1 o (.lst ((List.range n).map (ownV own)))) x (.ins (CT K) B.dx (fsT o B.ad B.al))) := Same.set (Same.new s1 no) nx
  have R2 := R.at' (H' := upd (upd H1 o (.lst ((List.range n).map (ownV own)))) x (.ins (CT K) B.dx (fsT o B.ad B.al))) (W' := W) fun b o i h1 h2 _ _ => ⟨s2 b o h1, h2⟩
  have no0 : H o = none := s1.free no
  -- found.depths = list(self.depths)
  refine ⟨_, rfl, _, _, _, _, _, rfl, R2.ht, T.clT, T.nT_depths, fsT_depths, _, _, rfl, .inl (SqL.of R2.hd), fun d nd2 => ?_⟩
  have xd : d ≠ x := fun z => by rw [z, upd_same] at nd2; cases nd2
  have nd2' := nd2
  rw [upd_ne xd] at nd2'
  have od : d ≠ o := fun z => by rw [z, upd_same] at nd2'; cases nd2'
  refine ⟨_, rfl, x, _, _, _, rfl, (by rw [upd_ne xd.symm, upd_same]), T.clT, T.nT_depths, (by show 3 < 1000; decide), ?_⟩
  have e2 : putF "depths" (V.ref d) (fsT o B.ad B.al) = fsT o d B.al := by kernel_rfl
  rw [e2]
  have s3 := Same.set (a := x) (o := .ins (CT K) B.dx (fsT o d B.al)) (Same.new (o := .lst ((List.range n).map (depV own))) s2 nd2) nx
  have nd0 : H d = none := s2.free nd2
  generalize hH3 : upd (upd (upd (upd H1 o (.lst ((List.range n).map (ownV own)))) x (.ins (CT K) B.dx (fsT o B.ad B.al))) d (.lst ((List.range n).map (depV own)))) x (.ins (CT K) B.dx (fsT o d B.al)) = H3 at s3 ⊢
  have hx3 : H3 x = some (.ins (CT K) B.dx (fsT o d B.al)) := by rw [← hH3, upd_same]
  have ho3 : H3 o = some (.lst ((List.range n).map (ownV own))) := by rw [← hH3, upd_ne xo.symm, upd_ne od.symm, upd_ne xo.symm, upd_same]
  have hd3 : H3 d = some (.lst ((List.range n).map (depV own))) := by rw [← hH3, upd_ne xd, upd_same]
  have R3 := R.at' (H' := H3) (W' := W) fun b o i h1 h2 _ _ => ⟨s3 b o h1, h2⟩
  -- found.leaping = [list(leaps) for leaps in self.leaping]
  refine ⟨_, rfl, _, _, _, _, _, rfl, R3.ht, T.clT, T.nT_leaping, fsT_leaping, _, rfl, ⟨_, SqL.of R3.hl⟩, fun D nD => ?_⟩
  have nD0 : H D = none := s3.free nD
  refine lc_it (walk_list (K := K) (a := A.al) (xs := (List.range n).map fun i => .ref (A.la i))) (fun i H4 => ∃ la : Nat → Addr, H4 D = some (.lst ((List.range i).map fun j => .ref (la j))) ∧ (∀ j, j < i → H4 (la j) = some (.lst (lpV own j)) ∧ H (la j) = none ∧ la j ≠ x ∧ la j ≠ o ∧ la j ≠ d ∧ la j ≠ D) ∧
      Same H H4 ∧ H4 x = H3 x ∧ H4 o = H3 o ∧ H4 d = H3 d) ⟨fun _ => 0, upd_same, fun j h => absurd h (by omega), Same.new s3 nD, upd_ne (ne_of_none hx3 nD), upd_ne (ne_of_none ho3 nD), upd_ne (ne_of_none hd3 nD)⟩
    (fun i H4 _ ⟨la, _, _, s4, _⟩ => SqL.of (s4 _ _ R.hl)) ?_ ?_
  · rintro i v H4 H5 hi ⟨la, hD, hla, s4, h4x, h4o, h4d⟩ ⟨rfl, hv⟩
    rw [rng_len] at hi
    rw [rng_at _ _ hi] at hv
    cases hv
    refine ⟨rfl, _, rfl, _, _, rfl, .inl (SqL.of (s4 _ _ (R.hi i hi))), fun c nc => ?_⟩
    have cD : D ≠ c := ne_of_none hD nc
    have nc0 : H c = none := s4.free nc
    have hx4 : H5 x = some (.ins (CT K) B.dx (fsT o d B.al)) := h4x.trans hx3
    have ho4 := h4o.trans ho3
    have hd4 := h4d.trans hd3
    refine ⟨_, (by rw [upd_ne cD]; exact hD), (by rw [rng_len]; exact small1000 (by omega)), fun j => if j = i then c else la j, ?_, fun j hj => ?_, ?_, ?_, ?_, ?_⟩
    · rw [upd_same]
      exact congrArg (fun l => some (HO.lst l)) (rng_snoc' (f := fun j => V.ref (la j)) (g := fun j => V.ref (if j = i then c else la j)) (fun j h => congrArg V.ref (if_neg (by omega))) (congrArg V.ref (if_pos rfl)))
    · dsimp only
      by_cases e : j = i
      · subst e
        rw [if_pos rfl]
        exact ⟨by rw [upd_ne cD.symm, upd_same], nc0, (ne_of_none hx4 nc).symm, (ne_of_none ho4 nc).symm, (ne_of_none hd4 nc).symm, cD.symm⟩
      · rw [if_neg e]
        obtain ⟨a1, a2, a3, a4, a5, a6⟩ := hla j (by omega)
        exact ⟨by rw [upd_ne a6, upd_ne (ne_of_none a1 nc)]; exact a1, a2, a3, a4, a5, a6⟩
    · exact Same.set (Same.new s4 nc) nD0
    · rw [upd_ne (ne_of_none hx3 nD), upd_ne (ne_of_none hx4 nc)]; exact h4x
    · rw [upd_ne (ne_of_none ho3 nD), upd_ne (ne_of_none ho4 nc)]; exact h4o
    · rw [upd_ne (ne_of_none hd3 nD), upd_ne (ne_of_none hd4 nc)]; exact h4d
  · rintro H4 ⟨la, hD, hla, s4, h4x, h4o, h4d⟩
    rw [rng_len] at hD hla
    have hx4 : H4 x = some (.ins (CT K) B.dx (fsT o d B.al)) := h4x.trans hx3
    have ho4 := h4o.trans ho3
    have hd4 := h4d.trans hd3
    have xD : x ≠ D := ne_of_none hx3 nD
    have oD : o ≠ D := ne_of_none ho3 nD
    have dD : d ≠ D := ne_of_none hd3 nD
    refine ⟨_, rfl, x, _, _, _, rfl, hx4, T.clT, T.nT_leaping, (by show 3 < 1000; decide), ?_⟩
    have e3 : putF "leaping" (V.ref D) (fsT o d B.al) = fsT o d D := by kernel_rfl
    rw [e3]
    refine ⟨_, rfl, ?_⟩
    refine q ⟨x, B.dx, o, d, D, la⟩ (cpW x o d D n la) _ ⟨upd_same, ?_, ?_, ?_, fun i hi => ?_, if_pos rfl, ?_, ?_, ?_, fun i hi => ?_⟩ (fun b hb => ?_) (fun b hb => ?_) (Same.set s4 nx)
    · show upd H4 x _ o = _
      rw [upd_ne xo.symm]; exact ho4
    · show upd H4 x _ d = _
      rw [upd_ne xd]; exact hd4
    · show upd H4 x _ D = _
      rw [upd_ne xD.symm]; exact hD
    · show upd H4 x _ (la i) = _
      rw [upd_ne (hla i hi).2.2.1]; exact (hla i hi).1
    · show cpW x o d D n la o = 2
      unfold cpW; rw [if_neg xo.symm, if_pos rfl]
    · show cpW x o d D n la d = 3
      unfold cpW; rw [if_neg xd, if_neg od, if_pos rfl]
    · show cpW x o d D n la D = 4
      unfold cpW; rw [if_neg xD.symm, if_neg oD.symm, if_neg dD.symm, if_pos rfl]
    · show cpW x o d D n la (la i) = 5
      obtain ⟨a1, a2, a3, a4, a5, a6⟩ := hla i hi
      unfold cpW; rw [if_neg a3, if_neg a4, if_neg a5, if_neg a6, if_pos ⟨i, hi, rfl⟩]
    · unfold cpW at hb
      by_cases h1 : b = x
      · rw [h1]; exact nx
      rw [if_neg h1] at hb
      by_cases h2 : b = o
      · rw [h2]; exact no0
      rw [if_neg h2] at hb
      by_cases h3 : b = d
      · rw [h3]; exact nd0
      rw [if_neg h3] at hb
      by_cases h4 : b = D
      · rw [h4]; exact nD0
      rw [if_neg h4] at hb
      by_cases h5 : ∃ j, j < n ∧ b = la j
      · obtain ⟨j, hj, rfl⟩ := h5
        exact (hla j hj).2.1
      · rw [if_neg h5] at hb; exact absurd rfl hb
    · unfold cpW at hb
      by_cases h1 : b = x
      · rw [h1, upd_same]; exact fun z => nomatch z
      rw [if_neg h1] at hb
      rw [upd_ne h1]
      by_cases h2 : b = o
      · rw [h2, ho4]; exact fun z => nomatch z
      rw [if_neg h2] at hb
      by_cases h3 : b = d
      · rw [h3, hd4]; exact fun z => nomatch z
      rw [if_neg h3] at hb
      by_cases h4 : b = D
      · rw [h4, hD]; exact fun z => nomatch z
      rw [if_neg h4] at hb
      by_cases h5 : ∃ j, j < n ∧ b = la j
      · obtain ⟨j, hj, rfl⟩ := h5
        rw [(hla j hj).1]; exact fun z => nomatch z
      · rw [if_neg h5] at hb; exact absurd rfl hb
end
end MK

set_option Elab.async false
set_option linter.all false
set_option maxRecDepth 100000
set_option maxHeartbeats 4000000
/-! walks of makeskept.rows: what only asks -/
namespace MK
open PySem PySem.Spec PyProof.Rows L2
/-- a row that is asked: what all ways have -/
abbrev RQ (b : Bool) (K : PySem.W.Frag) (H : Hp) (p : Addr) (M : Mo) : Prop := ∃ (A : RAd) (W : Ow), A.p = p ∧ Com b A K H W M
theorem RQ.same {b : Bool} {K : PySem.W.Frag} {H H' : Hp} {p : Addr} {M : Mo} (q : RQ b K H p M) (s : Same H H') : RQ b K H' p M :=
  let ⟨A, W, e, C⟩ := q
  ⟨A, W, e, C.at' (fun a o i h1 _ _ _ => s a o h1) fun x hx e => C.has x hx (s.free e)⟩
theorem Com.tq {b : Bool} {A : RAd} {K : PySem.W.Frag} {H : Hp} {W : Ow} {M : Mo} (C : Com b A K H W M) : TQ K H A.T.t M.n M.own := ⟨A.T, W, rfl, C.tr⟩
theorem RowAt.rq {b : Bool} {K : PySem.W.Frag} {H : Hp} {p : Addr} {W : Ow} {M : Mo} (R : RowAt b K H p W M) : RQ b K H p M := let ⟨A, e, C, _⟩ := R.ex; ⟨A, W, e, C⟩
def keptL (M : Mo) : List Nat := (List.range M.n).filter fun i => !M.gone i
theorem mem_keptL {M : Mo} {k : Nat} : k ∈ keptL M ↔ M.kept k := by
  unfold keptL Mo.kept
  rw [List.mem_filter, List.mem_range]
  simp
section
variable {P : Program} {w : World} {K : PySem.W.Frag} {mg : Str → Option Value} {base : Heap}
def spAddSteps (b : Bool) (K : PySem.W.Frag) : Sp := fun vs H Q _ => ∃ (p dx t aw ag x1 x2 : Addr) (size here : Nat) (c k : Int), vs = [.ref p, .int k] ∧ H p = some (.ins (CR K b) dx (fsR b size t aw ag c x1 x2 here)) ∧
  Q .non (upd H p (.ins (CR K b) dx (fsR b size t aw ag (c + k) x1 x2 here)))
theorem ok_R_add_steps (T : Tx K mg) (b : Bool) : Fc P w K mg base 1 (aR K b "add_steps") ["self", "many"] (spAddSteps b K) := by
  refine Fc.mk' (T.dR_add_steps b) c_Rows_add_steps (fun vs H Q E h => ?_) (fun _ _ _ _ _ _ us hl => match us, hl with | [_, _], _ => rfl) (fun cdv A outer s H vs Q E hr h => ?_)
  · obtain ⟨p, dx, t, aw, ag, x1, x2, size, here, c, k, rfl, _⟩ := h; rfl
  obtain ⟨p, dx, t, aw, ag, x1, x2, size, here, c, k, rfl, hp, q⟩ := h
  refine ⟨_, pss_one (ps_fldaug (pv 0) (pv 1) in_add), ?_⟩
  refine ⟨_, rfl, p, _, dx, _, _, rfl, hp, T.clR b, T.nR_counted b, fsR_counted, _, rfl, _, _, rfl, rfl, dx, _, hp, fsR_len, ?_⟩
  rw [putF_counted]; exact q
def spSize (b : Bool) (K : PySem.W.Frag) : Sp := fun vs H Q _ => ∃ (p : Addr) (M : Mo), vs = [.ref p] ∧ RQ b K H p M ∧ Q (.int (M.size : Int)) H
theorem ok_R_size (T : Tx K mg) (b : Bool) : Fc P w K mg base 1 (aR K b "size") ["self"] (spSize b K) := by
  refine Fc.mk' (T.dR_size b) c_Rows_size (fun vs H Q E h => ?_) (fun _ _ _ _ _ _ us hl => match us, hl with | [_], _ => rfl) (fun cdv A outer s H vs Q E hr h => ?_)
  · obtain ⟨p, M, rfl, _⟩ := h; rfl
  obtain ⟨_, M, rfl, ⟨A, W, rfl, C⟩, q⟩ := h
  refine ⟨_, pss_one (ps_ret (pe_fld (pv 0) rfl)), ?_⟩
  exact ⟨_, rfl, _, _, _, _, _, rfl, C.hp, T.clR b, T.nR_wide b, fsR_wide, q⟩
def spMany (b : Bool) (K : PySem.W.Frag) : Sp := fun vs H Q _ => ∃ (p : Addr) (M : Mo), vs = [.ref p] ∧ RQ b K H p M ∧ Q (.int (M.n : Int)) H
theorem ok_R_many (T : Tx K mg) (b : Bool) : Fc P w K mg base 2 (aR K b "many") ["self"] (spMany b K) := by
  refine Fc.mk' (T.dR_many b) c_Rows_many (fun vs H Q E h => ?_) (fun _ _ _ _ _ _ us hl => match us, hl with | [_], _ => rfl) (fun cdv A outer s H vs Q E hr h => ?_)
  · obtain ⟨p, M, rfl, _⟩ := h; rfl
  obtain ⟨_, M, rfl, ⟨A, W, rfl, C⟩, q⟩ := h
  refine ⟨_, pss_one (ps_ret (qm0 (pe_fld (pv 0) rfl) T.clT T.mT_many (ok_T_many T) hr)), ?_⟩
  exact ⟨_, rfl, _, _, _, _, _, rfl, C.hp, T.clR b, T.nR_grown b, fsR_grown, _, _, _, rfl, C.tr.ht, fsT_no (by decide +kernel), _, M.n, M.own, rfl, C.tq, q⟩
def spTree (b : Bool) (K : PySem.W.Frag) : Sp := fun vs H Q _ => ∃ (p : Addr) (M : Mo), vs = [.ref p] ∧ RQ b K H p M ∧ M.n ≤ 64 ∧
  ∀ (A' : TAd) (W' : Ow) (H' : Hp), TreeIn A' K H' W' M.n M.own → (∀ b, W' b ≠ 0 → H b = none) → Has W' H' → Same H H' → Q (.ref A'.t) H'
theorem ok_R_tree (T : Tx K mg) (b : Bool) : Fc P w K mg base 5 (aR K b "tree") ["self"] (spTree b K) := by
  refine Fc.mk' (T.dR_tree b) c_Rows_tree (fun vs H Q E h => ?_) (fun _ _ _ _ _ _ us hl => match us, hl with | [_], _ => rfl) (fun cdv A outer s H vs Q E hr h => ?_)
  · obtain ⟨p, M, rfl, _⟩ := h; rfl
  obtain ⟨_, M, rfl, ⟨A, W, rfl, C⟩, hn, q⟩ := h
  refine ⟨_, pss_one (ps_ret (qm0 (pe_fld (pv 0) rfl) T.clT T.mT_copied (ok_T_copied T) hr)), ?_⟩
  exact ⟨_, rfl, _, _, _, _, _, rfl, C.hp, T.clR b, T.nR_grown b, fsR_grown, _, _, _, rfl, C.tr.ht, fsT_no (by decide +kernel), _, M.n, M.own, rfl, C.tq, hn, q⟩
def spMakes (b : Bool) (K : PySem.W.Frag) : Sp := fun vs H Q _ => ∃ (p : Addr) (M : Mo), vs = [.ref p] ∧ RQ b K H p M ∧ M.n ≤ 64 ∧
  ∀ (l : Addr) (H' : Hp), H l = none → H' l = some (.lst (nl (keptL M))) → Same H H' → Q (.ref l) H'
theorem ok_R_makes (T : Tx K mg) (b : Bool) : Fc P w K mg base 1 (aR K b "makes") ["self"] (spMakes b K) := by
  refine Fc.mk' (T.dR_makes b) c_Rows_makes (fun vs H Q E h => ?_) (fun _ _ _ _ _ _ us hl => match us, hl with | [_], _ => rfl) (fun cdv A outer s H vs Q E hr h => ?_)
  · obtain ⟨p, M, rfl, _⟩ := h; rfl
  obtain ⟨_, M, rfl, ⟨A, W, rfl, C⟩, hn, q⟩ := h
  have nd := c_Rows_makes.nd
  refine ⟨_, pss_one (ps_ret (pe_lc (own := [("make", 1), ("gone", 2)]) (g := gTup K 2 (gCons (gName 1) (gCons (gName 2) gNil))) (tt := tNot (tB (tVar 2))) rfl nd (pi_enum rfl T.f_enumerate (pa_cons (pe_fld (pv 0) rfl) pa_nil))
    (blkOk_by (N := ["self", "make", "gone"]) (sc := defScope s_Rows_makes) (by decide +kernel))
    (fun _ _ _ _ _ => pg_tup rfl (pgs_cons (pg_name (i := 1) nd rfl (.inl rfl)) (pgs_cons (pg_name (i := 2) nd rfl (.inl rfl)) pgs_nil))) (fun _ _ _ _ _ => pts_one (pt_not (pt_val (pv 2)))) (fun _ _ _ _ _ => pv 1))), ?_⟩
  refine ⟨_, rfl, _, _, _, _, _, rfl, C.hp, T.clR b, T.nR_gone b, fsR_gone, _, _, rfl, SqL.of C.hg, fun D nD => ?_⟩
  refine lc_it (walk_enum (K := K) (a := A.ag) (xs := (List.range M.n).map (gonV M.gone))) (fun i H2 => H2 D = some (.lst (nl ((List.range i).filter fun j => !M.gone j))) ∧ Same H H2)
    ⟨upd_same, Same.new (Same.refl _) nD⟩ (fun i H2 _ h => SqL.of (h.2 _ _ C.hg)) ?_ ?_
  · rintro i v H2 H3 hi ⟨hD, s2⟩ ⟨t, x, y, rfl, nt, rfl, ex, ey⟩
    rw [rng_len] at hi
    dsimp only at ex ey
    rw [rng_at _ _ hi] at ey
    cases ex
    cases ey
    have Dt : D ≠ t := ne_of_none hD nt
    have hD3 : ∀ o, upd H2 t o D = some (.lst (nl ((List.range i).filter fun j => !M.gone j))) := fun o => by rw [upd_ne Dt]; exact hD
    have s3 : ∀ o, Same H (upd H2 t o) := fun o => Same.new s2 nt
    refine ⟨t, _, rfl, SqT.of upd_same, rfl, _, _, rfl, _, _, rfl, rfl, rfl, _, rfl, _, rfl, ?_⟩
    have ef : (List.range (i + 1)).filter (fun j => !M.gone j) = (List.range i).filter (fun j => !M.gone j) ++ (if M.gone i then [] else [i]) := by
      rw [List.range_succ, List.filter_append]
      cases e : M.gone i <;> simp [e]
    rw [ef]
    cases e : M.gone i with
    | true =>
      refine iteF ?_
      rw [if_pos rfl, List.append_nil]
      exact ⟨hD3 _, s3 _⟩
    | false =>
      refine iteT ?_
      refine ⟨_, rfl, _, hD3 _, ?_, ?_, ?_⟩
      · rw [nl_len]
        have := List.length_filter_le (fun j => !M.gone j) (List.range i)
        rw [List.length_range] at this
        exact small1000 (by omega)
      · rw [upd_same, if_neg (by decide), nl_append]; rfl
      · exact Same.set (s3 _) nD
  · rintro H2 ⟨hD, s2⟩
    rw [rng_len] at hD
    exact q D H2 nD hD s2
def spNeed (b : Bool) (K : PySem.W.Frag) : Sp := fun vs H Q _ => ∃ (p : Addr) (m : Nat) (M : Mo), vs = [.ref p, .int (m : Int)] ∧ RQ b K H p M ∧ M.kept m ∧ Q .non H
theorem ok_R_need_make (T : Tx K mg) (b : Bool) : Fc P w K mg base 2 (aR K b "need_make") ["self", "make"] (spNeed b K) := by
  refine Fc.mk' (T.dR_need_make b) c_Rows_need_make (fun vs H Q E h => ?_) (fun _ _ _ _ _ _ us hl => match us, hl with | [_, _], _ => rfl) (fun cdv A outer s H vs Q E hr h => ?_)
  · obtain ⟨p, m, M, rfl, _⟩ := h; rfl
  obtain ⟨_, m, M, rfl, ⟨A, W, rfl, C⟩, hm, q⟩ := h
  refine ⟨_, pss_one (ps_if (PW.pt (pw_or (pt_not (pt_val (qc (ok_is_whole T) hr rfl T.g_is_whole (pa_cons (pv 1) (pa_cons pe_int (pa_cons (pe_op op_sub (qlen T.f_len (pe_fld (pv 0) rfl)) pe_int) pa_nil))))))
    (pw_or1 (pt_val (qix (pe_fld (pv 0) rfl) (pv 1)))))) (pss_one ps_never) pss_nil), ?_⟩
  refine ⟨_, rfl, _, rfl, _, _, _, _, _, rfl, C.hp, T.clR b, T.nR_gone b, fsR_gone, _, _, rfl, .inl (SqL.of C.hg), _, _, rfl, rfl, _, _, _, rfl, _, rfl, ?_⟩
  refine iteNS (by rw [rng_len]; have := hm.1; omega) ?_
  refine ⟨_, rfl, _, _, _, _, _, rfl, C.hp, T.clR b, T.nR_gone b, fsR_gone, _, rfl, _, _, _, .bl false, rfl, rfl, SqL.of C.hg, ?_, _, rfl, iteF q⟩
  have e := atI_nat (rng_at M.n (gonV M.gone) hm.1)
  rw [e]
  unfold gonV
  rw [hm.2]
theorem ok_R_need_new (T : Tx K mg) (b : Bool) : Fc P w K mg base 3 (aR K b "need_new") ["self", "make"] (spNeed b K) := by
  refine Fc.mk' (T.dR_need_new b) c_Rows_need_new (fun vs H Q E h => ?_) (fun _ _ _ _ _ _ us hl => match us, hl with | [_, _], _ => rfl) (fun cdv A outer s H vs Q E hr h => ?_)
  · obtain ⟨p, m, M, rfl, _⟩ := h; rfl
  obtain ⟨_, m, M, rfl, ⟨A, W, rfl, C⟩, hm, q⟩ := h
  refine ⟨_, pss_one (ps_expr (qm (pv 0) (T.clR b) (T.mR_need_make b) (ok_R_need_make T b) hr (pa_cons (pv 1) pa_nil))), ?_⟩
  exact ⟨_, rfl, _, _, _, rfl, C.hp, fsR_no (by decide +kernel), _, rfl, _, m, M, rfl, ⟨A, W, rfl, C⟩, hm, q⟩
def spNeedPlace (b : Bool) (K : PySem.W.Frag) : Sp := fun vs H Q _ => ∃ (p : Addr) (x : Nat) (M : Mo), vs = [.ref p, .int (x : Int)] ∧ RQ b K H p M ∧ x < M.size ∧ Q .non H
theorem ok_R_need_place (T : Tx K mg) (b : Bool) : Fc P w K mg base 2 (aR K b "need_place") ["self", "place"] (spNeedPlace b K) := by
  refine Fc.mk' (T.dR_need_place b) c_Rows_need_place (fun vs H Q E h => ?_) (fun _ _ _ _ _ _ us hl => match us, hl with | [_, _], _ => rfl) (fun cdv A outer s H vs Q E hr h => ?_)
  · obtain ⟨p, m, M, rfl, _⟩ := h; rfl
  obtain ⟨_, m, M, rfl, ⟨A, W, rfl, C⟩, hm, q⟩ := h
  refine ⟨_, pss_one (ps_if (pt_not (pt_val (qc (ok_is_whole T) hr rfl T.g_is_whole (pa_cons (pv 1) (pa_cons pe_int (pa_cons (pe_op op_sub (pe_fld (pv 0) rfl) pe_int) pa_nil)))))) (pss_one ps_never) pss_nil), ?_⟩
  refine ⟨_, rfl, _, rfl, _, _, _, _, _, rfl, C.hp, T.clR b, T.nR_wide b, fsR_wide, _, _, rfl, rfl, _, _, _, rfl, _, rfl, ?_⟩
  exact iteNS (by omega) q
def spNeedStretch (b : Bool) (K : PySem.W.Frag) : Sp := fun vs H Q _ => ∃ (p : Addr) (x y : Nat) (M : Mo), vs = [.ref p, .int (x : Int), .int (y : Int)] ∧ RQ b K H p M ∧ x < y ∧ y ≤ M.size ∧ Q .non H
theorem ok_R_need_stretch (T : Tx K mg) (b : Bool) : Fc P w K mg base 2 (aR K b "need_stretch") ["self", "low", "high"] (spNeedStretch b K) := by
  refine Fc.mk' (T.dR_need_stretch b) c_Rows_need_stretch (fun vs H Q E h => ?_) (fun _ _ _ _ _ _ us hl => match us, hl with | [_, _, _], _ => rfl) (fun cdv A outer s H vs Q E hr h => ?_)
  · obtain ⟨p, x, y, M, rfl, _⟩ := h; rfl
  obtain ⟨_, x, y, M, rfl, ⟨A, W, rfl, C⟩, h1, h2, q⟩ := h
  refine ⟨_, pss_one (ps_if (PW.pt (pw_or (pt_not (pt_val (qc (ok_is_whole T) hr rfl T.g_is_whole (pa_cons (pv 1) (pa_cons pe_int (pa_cons (pe_op op_sub (pe_fld (pv 0) rfl) pe_int) pa_nil))))))
    (pw_or (pt_not (pt_val (qc (ok_is_whole T) hr rfl T.g_is_whole (pa_cons (pv 2) (pa_cons pe_int (pa_cons (pe_fld (pv 0) rfl) pa_nil))))))
    (pw_or1 (pt_cmpR op_ge (pv 1) (pv 2) (nomark _)))))) (pss_one ps_never) pss_nil), ?_⟩
  refine ⟨_, rfl, _, rfl, _, _, _, _, _, rfl, C.hp, T.clR b, T.nR_wide b, fsR_wide, _, _, rfl, rfl, _, _, _, rfl, _, rfl, ?_⟩
  refine iteNS (by omega) ?_
  refine ⟨_, rfl, _, rfl, _, _, _, _, _, rfl, C.hp, T.clR b, T.nR_wide b, fsR_wide, _, _, _, rfl, _, rfl, ?_⟩
  refine iteNS (by omega) ?_
  refine ⟨_, rfl, _, rfl, _, _, rfl, rfl, _, rfl, iteN (by omega) q⟩
def spNeedRoom (b : Bool) (K : PySem.W.Frag) : Sp := fun vs H Q _ => ∃ (p : Addr) (k : Nat) (M : Mo), vs = [.ref p, .int (k : Int)] ∧ RQ b K H p M ∧ M.n + k ≤ 64 ∧ Q .non H
theorem ok_R_need_room (T : Tx K mg) (b : Bool) : Fc P w K mg base 2 (aR K b "need_room") ["self", "many"] (spNeedRoom b K) := by
  refine Fc.mk' (T.dR_need_room b) c_Rows_need_room (fun vs H Q E h => ?_) (fun _ _ _ _ _ _ us hl => match us, hl with | [_, _], _ => rfl) (fun cdv A outer s H vs Q E hr h => ?_)
  · obtain ⟨p, k, M, rfl, _⟩ := h; rfl
  obtain ⟨_, k, M, rfl, ⟨A, W, rfl, C⟩, hk, q⟩ := h
  obtain ⟨t64, i64⟩ := T.i_MOST_MAKES
  refine ⟨_, pss_one (ps_if (pt_cmpR op_gt (pe_op op_add (qm0 (pe_fld (pv 0) rfl) T.clT T.mT_many (ok_T_many T) hr) (pv 1)) (pe_glob (v := .int 64) rfl i64 ⟨_, rfl⟩) (nomark _)) (pss_one ps_never) pss_nil), ?_⟩
  refine ⟨_, rfl, _, _, _, _, _, rfl, C.hp, T.clR b, T.nR_grown b, fsR_grown, _, _, _, rfl, C.tr.ht, fsT_no (by decide +kernel), _, M.n, M.own, rfl, C.tq, _, rfl, _, _, rfl, rfl, _, _, rfl, rfl, _, rfl, iteN (by omega) q⟩
def spWriterOf (b : Bool) (K : PySem.W.Frag) : Sp := fun vs H Q _ => ∃ (p : Addr) (m x : Nat) (M : Mo), vs = [.ref p, .int (m : Int), .int (x : Int)] ∧ RQ b K H p M ∧ WT M.own ∧ m < M.n ∧ Q (.int ((M.wr m x : Nat) : Int)) H
theorem ok_R_writer_of (T : Tx K mg) (b : Bool) : Fc P w K mg base 4 (aR K b "writer_of") ["self", "make", "place"] (spWriterOf b K) := by
  refine Fc.mk' (T.dR_writer_of b) c_Rows_writer_of (fun vs H Q E h => ?_) (fun _ _ _ _ _ _ us hl => match us, hl with | [_, _, _], _ => rfl) (fun cdv A outer s H vs Q E hr h => ?_)
  · obtain ⟨p, m, x, M, rfl, _⟩ := h; rfl
  obtain ⟨_, m, x, M, rfl, ⟨A, W, rfl, C⟩, wt, hm, q⟩ := h
  have nd := c_Rows_writer_of.nd
  refine ⟨_, pss_cons (ps_while PassesOwn.never (PW.pt (pw_and (pt_cmpR op_gt (pv 1) pe_int (nomark _)) (pw_and1 (pt_cmpR op_ne (qix (pe_fld (pv 0) rfl) (pv 1)) (pv 2) (nomark _)))))
      (pss_one (ps_set (i := 1) nd rfl (.inl rfl) (qm (pe_fld (pv 0) rfl) T.clT T.mT_own (ok_T_own T) hr (pa_cons (pv 1) pa_nil)))))
    (pss_one (ps_ret (pv 1))), ?_⟩
  refine ⟨fun k σ H2 => ∃ c : Nat, k = c ∧ c < M.n ∧ M.wr c x = M.wr m x ∧ σ = [some (.ref A.p), some (.int (c : Int)), some (.int (x : Int))] ∧ H2 = H, ⟨m, m, rfl, hm, rfl, rfl, rfl⟩, ?_⟩
  rintro k σ H2 ⟨c, rfl, hc, ec, rfl, rfl⟩
  refine ⟨_, rfl, _, _, rfl, rfl, _, rfl, ?_⟩
  by_cases c0 : 0 < k
  · refine iteY (by omega) ?_
    have ew : wroV M.wrote k = .int ((M.wrote k : Nat) : Int) := if_neg (by omega)
    refine ⟨_, rfl, _, _, _, _, _, rfl, C.hp, T.clR b, T.nR_wrote b, fsR_wrote, _, rfl, _, _, _, .int ((M.wrote k : Nat) : Int), rfl, rfl, SqL.of C.hw, ?_, _, rfl, rfl, _, rfl, ?_⟩
    · rw [← ew]; exact atI_nat (rng_at _ _ hc)
    have wp : M.wr k x = if M.wrote k = x then k else M.wr (M.own k) x := wr_pos wt c0 x
    by_cases e : M.wrote k = x
    · refine iteNS (by rw [e]) ?_
      rw [if_pos e] at wp
      refine ⟨_, rfl, ?_⟩
      rw [← wp, ec]; exact q
    · rw [if_neg e] at wp
      refine iteNN (fun z => e (by have := V.int.inj z; omega)) ⟨fun σ' H' => ∃ k', k' < k ∧ ∃ c : Nat, k' = c ∧ c < M.n ∧ M.wr c x = M.wr m x ∧ σ' = [some (.ref A.p), some (.int (c : Int)), some (.int (x : Int))] ∧ H' = H2, fun _ _ h => h, ?_⟩
      have lo := wt.lt k c0
      refine ⟨_, rfl, _, _, _, _, _, rfl, C.hp, T.clR b, T.nR_grown b, fsR_grown, _, _, _, rfl, C.tr.ht, fsT_no (by decide +kernel), _, rfl, _, M.n, k, M.own, rfl, C.tq, hc, ?_⟩
      have eo : ownV M.own k = .int ((M.own k : Nat) : Int) := if_neg (by omega)
      rw [eo]
      exact ⟨M.own k, lo, M.own k, rfl, by omega, by rw [← wp]; exact ec, rfl, rfl⟩
  · refine iteN (by omega) ?_
    have e0 : k = 0 := by omega
    subst e0
    refine ⟨_, rfl, ?_⟩
    have z : M.wr 0 x = 0 := wr_zero x
    rw [← ec, z] at q
    exact q
def spWriter (b : Bool) (K : PySem.W.Frag) : Sp := fun vs H Q _ => ∃ (p : Addr) (m x : Nat) (M : Mo), vs = [.ref p, .int (m : Int), .int (x : Int)] ∧ RQ b K H p M ∧ WT M.own ∧ m < M.n ∧ x < M.size ∧ Q (.int ((M.wr m x : Nat) : Int)) H
theorem ok_R_writer (T : Tx K mg) (b : Bool) : Fc P w K mg base 5 (aR K b "writer") ["self", "make", "place"] (spWriter b K) := by
  refine Fc.mk' (T.dR_writer b) c_Rows_writer (fun vs H Q E h => ?_) (fun _ _ _ _ _ _ us hl => match us, hl with | [_, _, _], _ => rfl) (fun cdv A outer s H vs Q E hr h => ?_)
  · obtain ⟨p, m, x, M, rfl, _⟩ := h; rfl
  obtain ⟨_, m, x, M, rfl, ⟨A, W, rfl, C⟩, wt, hm, hx, q⟩ := h
  refine ⟨_, pss_cons (ps_if (pt_not (pt_val (qc (ok_is_whole T) (hr.mono (by decide)) rfl T.g_is_whole (pa_cons (pv 1) (pa_cons pe_int (pa_cons (pe_op op_sub (qlen T.f_len (pe_fld (pv 0) rfl)) pe_int) pa_nil)))))) (pss_one ps_never) pss_nil)
    (pss_cons (ps_expr (qm (pv 0) (T.clR b) (T.mR_need_place b) (ok_R_need_place T b) (hr.mono (by decide)) (pa_cons (pv 2) pa_nil)))
    (pss_one (ps_ret (qm (pv 0) (T.clR b) (T.mR_writer_of b) (ok_R_writer_of T b) hr (pa_cons (pv 1) (pa_cons (pv 2) pa_nil)))))), ?_⟩
  refine ⟨_, rfl, _, rfl, _, _, _, _, _, rfl, C.hp, T.clR b, T.nR_wrote b, fsR_wrote, _, _, rfl, .inl (SqL.of C.hw), _, _, rfl, rfl, _, _, _, rfl, _, rfl, ?_⟩
  refine iteNS (by rw [rng_len]; omega) ?_
  refine ⟨_, rfl, _, _, _, rfl, C.hp, fsR_no (by decide +kernel), _, rfl, _, x, M, rfl, ⟨A, W, rfl, C⟩, hx, ?_⟩
  exact ⟨_, rfl, _, _, _, rfl, C.hp, fsR_no (by decide +kernel), _, rfl, _, rfl, _, m, x, M, rfl, ⟨A, W, rfl, C⟩, wt, hm, q⟩
end
end MK

set_option Elab.async false
set_option linter.all false
set_option maxRecDepth 100000
set_option maxHeartbeats 4000000
/-! the plain way: looked, worths_in, store, begin -/
namespace MK
open PySem PySem.Spec PyProof.Rows L2
section
variable {P : Program} {w : World} {K : PySem.W.Frag} {mg : Str → Option Value} {base : Heap}
theorem Fc.up {j k : Nat} {f : Addr} {ps : List Str} {sp : Sp} (F : Fc P w K mg base j f ps sp) (h : j ≤ k) : Fc P w K mg base k f ps sp :=
  let ⟨fd, a, b⟩ := F.ex
  ⟨⟨fd, a.mono h, b⟩, F.kp⟩
end
section
variable {b : Bool} {A : RAd} {K : PySem.W.Frag} {H H' : Hp} {W : Ow} {M : Mo}
theorem Com.same (C : Com b A K H W M) (s : Same H H') : Com b A K H' W M := C.at' (fun a o i e _ _ _ => s a o e) fun a ha e => C.has a ha (s.free e)
theorem Way.same (Y : Way b A H W M) (s : Same H H') : Way b A H' W M := by
  cases b with
  | false =>
    obtain ⟨kvs, P⟩ := Y
    exact ⟨kvs, P.at' (s _ _ P.hx)⟩
  | true =>
    obtain ⟨N, kvs, P⟩ := Y
    exact ⟨N, kvs, P.at' ((s _ _ P.hx).trans P.hx.symm) ((s _ _ P.hy).trans P.hy.symm) fun t xs e => s t _ e⟩
theorem RowAt.same {p : Addr} (R : RowAt b K H p W M) (s : Same H H') : RowAt b K H' p W M :=
  let ⟨A, e, C, Y⟩ := R.ex
  ⟨⟨A, e, C.same s, Y.same s⟩, R.ok⟩
theorem RowAt.of (C : Com b A K H W M) (Y : Way b A H W M) (ok : M.Ok) : RowAt b K H A.p W M := ⟨⟨A, rfl, C, Y⟩, ok⟩
/-- a write at what is not owned -/
theorem RowAt.off {p D : Addr} {o o1 : HO} (R : RowAt b K H p W M) (hW : W D = 0) (h1 : H D = some o1) (nt : ¬ isTup o1) : RowAt b K (upd H D o) p W M :=
  R.keep (U := fun x => if x = D then 1 else 0) (Keep.refl.set (.inl (by rw [if_pos rfl]; decide)) h1 nt) fun x => by
    by_cases q : x = D
    · exact .inr (by rw [q]; exact hW)
    · exact .inl (if_neg q)
/-- a write at an address of a way -/
theorem Com.off (C : Com b A K H W M) {a : Addr} {o : HO} (h : W a = 0 ∨ 9 ≤ W a) : Com b A K (upd H a o) W M :=
  C.at' (fun x u i e r h1 h8 => by rw [upd_ne (show x ≠ a from fun z => by subst z; omega)]; exact e) fun x hx e => by
    by_cases q : x = a
    · subst q; rw [upd_same] at e; cases e
    · rw [upd_ne q] at e; exact C.has x hx e
/-- other fields of the way -/
theorem Com.setp (C : Com b A K H W M) (c : Int) (x1 x2 : Addr) (h : Nat) :
    Com b { A with c := c, x1 := x1, x2 := x2, here := h } K (upd H A.p (.ins (CR K b) A.dx (fsR b M.size A.T.t A.aw A.ag c x1 x2 h))) W M := by
  have ne : ∀ a i, W a = i → i ≠ 6 → a ≠ A.p := fun a i r h => role_ne r C.rp h
  refine ⟨upd_same, C.tr.at' (fun a o i e r h1 h5 => ⟨by rw [upd_ne (ne a i r (by omega))]; exact e, r⟩), ?_, ?_, C.rp, C.rw, C.rg, fun a ha e => ?_⟩
  · show upd H A.p _ A.aw = _
    rw [upd_ne (ne _ 7 C.rw (by decide))]; exact C.hw
  · show upd H A.p _ A.ag = _
    rw [upd_ne (ne _ 8 C.rg (by decide))]; exact C.hg
  · by_cases q : a = A.p
    · subst q; rw [upd_same] at e; cases e
    · rw [upd_ne q] at e; exact C.has a ha e
theorem valV_drop {κ : Type} [DecidableEq κ] (k j : κ) : ∀ kvs : List (κ × V), valV (dropK kvs k) j = if j = k then none else valV kvs j
  | [] => by by_cases h : j = k <;> simp [h] <;> rfl
  | q :: r => by
    by_cases e : q.1 = k
    · rw [dropK_pos e, valV_drop k j r]
      by_cases h : j = k
      · rw [if_pos h, if_pos h]
      · rw [if_neg h, if_neg h, valV_neg (fun z => h (z.symm.trans e))]
    · rw [dropK_neg e]
      by_cases h : j = k
      · rw [if_pos h, valV_neg (fun z => e (z.trans h)), valV_drop k j r, if_pos h]
      · rw [if_neg h]
        by_cases z : q.1 = j
        · rw [valV_pos z, valV_pos z]
        · rw [valV_neg z, valV_neg z, valV_drop k j r, if_neg h]
theorem nd_drop {κ : Type} [DecidableEq κ] {k : κ} {kvs : List (κ × V)} (h : (kvs.map (·.1)).Nodup) : ((dropK kvs k).map (·.1)).Nodup :=
  h.sublist ((List.filter_sublist).map _)
theorem nd_snoc {κ : Type} {k : κ} {v : V} {kvs : List (κ × V)} (h : (kvs.map (·.1)).Nodup) (n : k ∉ kvs.map (·.1)) : ((kvs ++ [(k, v)]).map (·.1)).Nodup := by
  rw [List.map_append]
  refine List.nodup_append.mpr ⟨h, by simp, ?_⟩
  intro a ha c hc e
  simp only [List.map_cons, List.map_nil, List.mem_singleton] at hc
  subst hc
  subst e
  exact n ha
theorem valV_new {κ : Type} [DecidableEq κ] {k : κ} {kvs : List (κ × V)} (n : k ∉ kvs.map (·.1)) : valV kvs k = none := by
  cases e : valV kvs k with
  | none => rfl
  | some v => exact absurd (valV_in e) n
end
/-- the key of a write -/
abbrev wk (p m : Nat) : List Key := [Sum.inl (p : Int), Sum.inl (m : Int)]
theorem wk_inj {p m p' m' : Nat} (h : wk p m = wk p' m') : p = p' ∧ m = m' := by
  unfold wk at h
  simp only [List.cons.injEq, Sum.inl.injEq, and_true] at h
  omega
theorem wk_map {p m : Nat} : (wk p m).map kV = [V.int (p : Int), V.int (m : Int)] := rfl
section
variable {A A' : RAd} {H H' : Hp} {W W' : Ow} {M : Mo} {kvs : List (List Key × V)}
theorem PlW.fresh (Y : PlW A H W M kvs) (x : Nat) : wk x M.n ∉ kvs.map (·.1) := fun z => by
  obtain ⟨q, hq, e⟩ := List.mem_map.mp z
  obtain ⟨p, m, e2, _, hm⟩ := Y.ks q hq
  have := wk_inj (e.symm.trans e2)
  omega
theorem PlW.put (Y : PlW A H W M kvs) (K : M.Ok) {m x : Nat} {v : Int} (hm : M.kept m) (hx : x < M.size) (h1 : H' A'.x1 = some (.dT (putK kvs (wk x M.n) (.int v)))) (h2 : W' A'.x1 = 9) :
    PlW A' H' W' (M.put m x v) (putK kvs (wk x M.n) (.int v)) := by
  have f := Y.fresh x
  have e := putK_new (V.int v) (valV_new f)
  refine ⟨h1, h2, ?_, ?_, ?_, ?_⟩
  · rw [e]; exact nd_snoc Y.nd f
  · intro q hq
    rw [e] at hq
    rcases List.mem_append.mp hq with hq | hq
    · obtain ⟨p, m', e2, h3, h4⟩ := Y.ks q hq
      exact ⟨p, m', e2, h3, Nat.lt_succ_of_lt h4⟩
    · have := List.mem_singleton.mp hq
      subst this
      exact ⟨x, M.n, rfl, hx, Nat.lt_succ_self _⟩
  · intro m' p hk hp
    rw [valV_put]
    by_cases z : m' = M.n
    · subst z
      have ew := Mo.put_wrN (m := m) (p := x) (w := v) K hm.1 p
      have ev := Mo.put_valN (m := m) (p := x) (w := v) K hm.1 p
      have ew' : (M.put m x v).wr M.n p = if x = p then M.n else M.wr m p := ew
      have ev' : (M.put m x v).val M.n p = if p = x then v else M.val m p := ev
      by_cases y : x = p
      · subst y
        rw [ew', ev', if_pos rfl, if_pos rfl, if_pos rfl]
      · rw [ew', ev', if_neg y, if_neg (fun h : wk p (M.wr m p) = wk x M.n => y (wk_inj h).1.symm), if_neg (fun h : p = x => y h.symm)]
        exact Y.rd m p hm hp
    · have hk1 : m' < M.n + 1 := hk.1
      have hk2 : (if m' = M.n then false else M.gone m') = false := hk.2
      rw [if_neg z] at hk2
      have hm' : m' < M.n := by omega
      rw [Mo.put_wr K hm', Mo.put_val K hm']
      have lw := Mo.wr_lt K (p := p) hm'
      rw [if_neg (fun h => by have := (wk_inj h).2; omega)]
      exact Y.rd m' p ⟨hm', hk2⟩ hp
  · rw [e, List.length_append]
    have := Y.sz
    show kvs.length + 1 ≤ 16 + (M.n + 1)
    omega
end
section
variable {P : Program} {w : World} {K : PySem.W.Frag} {mg : Str → Option Value} {base : Heap}
def spLooked (K : PySem.W.Frag) : Sp := fun vs H Q _ => ∃ (p : Addr) (m x : Nat) (W : Ow) (M : Mo), vs = [.ref p, .int (m : Int), .int (x : Int)] ∧ RowAt false K H p W M ∧ M.kept m ∧ x < M.size ∧
  ∀ H', RowAt false K H' p W M → Keep W H H' → Q (.int (M.val m x)) H'
theorem ok_P_looked (T : Tx K mg) : Fc P w K mg base 6 (aR K false "looked") ["self", "make", "place"] (spLooked K) := by
  refine Fc.mk' T.dP_looked c_Plain_looked (fun vs H Q E h => ?_) (fun _ _ _ _ _ _ us hl => match us, hl with | [_, _, _], _ => rfl) (fun cdv A0 outer s H vs Q E hr h => ?_)
  · obtain ⟨p, m, x, W, M, rfl, _⟩ := h; rfl
  obtain ⟨_, m, x, W, M, rfl, ⟨⟨A, rfl, C, kvs, Y⟩, ok⟩, hm, hx, q⟩ := h
  have nd := c_Plain_looked.nd
  have hu := by have z := hr.units; exact (by omega : (A0.deeper (envOfC "Plain.looked" (defScope s_Plain_looked) s.heap.objs.size (aR K false "looked") cdv)).units + 1 < cLine)
  refine ⟨_, pss_cons (ps_set (i := 3) nd rfl (.inl rfl) (qm (pv 0) (T.clR false) (T.mR_writer false) (ok_R_writer T false) hr (pa_cons (pv 1) (pa_cons (pv 2) pa_nil))))
    (pss_cons (ps_expr (qm (pv 0) (T.clR false) (T.mR_add_steps false) (ok_R_add_steps T false) (hr.mono (by decide)) (pa_cons (pe_op op_add (pe_op op_sub
      (qm (pe_fld (pv 0) rfl) T.clT T.mT_depth (ok_T_depth T) (hr.mono (by decide)) (pa_cons (pv 1) pa_nil))
      (qm (pe_fld (pv 0) rfl) T.clT T.mT_depth (ok_T_depth T) (hr.mono (by decide)) (pa_cons (pv 3) pa_nil))) pe_int) pa_nil)))
    (pss_one (ps_ret (pe_dget hu (pe_fld (pv 0) rfl) (pe_tup (pa_cons (pv 2) (pa_cons (pv 3) pa_nil))) (fun _ _ => rfl))))), ?_⟩
  refine ⟨_, rfl, _, _, _, rfl, C.hp, fsR_no (by decide +kernel), _, rfl, _, rfl, _, m, x, M, rfl, ⟨A, W, rfl, C⟩, ok.wt, hm.1, hx, ?_⟩
  refine ⟨_, rfl, _, _, _, rfl, C.hp, fsR_no (by decide +kernel), ?_⟩
  have lw := Mo.wr_lt ok (p := x) hm.1
  refine ⟨_, rfl, _, _, _, _, _, rfl, C.hp, T.clR false, T.nR_grown false, fsR_grown, _, _, _, rfl, C.tr.ht, fsT_no (by decide +kernel), _, rfl, _, M.n, m, M.own, rfl, C.tq, hm.1, ?_⟩
  refine ⟨_, rfl, _, _, _, _, _, rfl, C.hp, T.clR false, T.nR_grown false, fsR_grown, _, _, _, rfl, C.tr.ht, fsT_no (by decide +kernel), _, rfl, _, M.n, M.wr m x, M.own, rfl, C.tq, lw, ?_⟩
  refine ⟨_, _, rfl, rfl, _, _, rfl, rfl, ?_⟩
  refine ⟨A.p, A.dx, A.T.t, A.aw, A.ag, A.x1, A.x2, M.size, A.here, A.c, _, rfl, C.hp, ?_⟩
  have C2 := C.setp (A.c + ((dep M.own m : Nat) - (dep M.own (M.wr m x) : Nat) + 1 : Int)) A.x1 A.x2 A.here
  have xp : A.x1 ≠ A.p := role_ne Y.r1 C.rp (by decide)
  have x2 : ∀ o, upd H A.p o A.x1 = some (.dT kvs) := fun o => (upd_ne xp).trans Y.hx
  have k2 : ∀ o, Keep W H (upd H A.p o) := fun o => Keep.refl.set (.inl (by rw [C.rp]; decide)) C.hp id
  generalize hH : upd H A.p _ = H2 at C2 ⊢
  have x2 : H2 A.x1 = some (.dT kvs) := hH ▸ x2 _
  have k2 : Keep W H H2 := hH ▸ k2 _
  refine ⟨_, rfl, _, _, _, _, _, rfl, C2.hp, T.clR false, T.nP_kept, fsR_kept, _, rfl, _, rfl, (by show 2 ≤ sizeLine; decide), fun t nt => ?_⟩
  have s3 : Same H2 (upd H2 t (.tup [V.int (x : Int), V.int ((M.wr m x : Nat) : Int)])) := Same.new (Same.refl _) nt
  have R3 := RowAt.of (C2.same s3) ⟨kvs, s3 _ _ x2, Y.r1, Y.nd, Y.ks, Y.rd, Y.sz⟩ ok
  refine ⟨_, _, rfl, ?_, q _ R3 (k2.new nt)⟩
  have g := DGet.t (k := wk x (M.wr m x)) (b := t) (s3 _ _ x2) upd_same
  rw [Y.rd m x hm hx] at g
  exact g
/-- what a stretch answers -/
def stretchV (M : Mo) (m lo hi : Nat) : List V := (List.range (hi - lo)).map fun i => .int (M.val m (lo + i))
def spWorthsIn (b : Bool) (K : PySem.W.Frag) : Sp := fun vs H Q _ => ∃ (p : Addr) (m lo hi : Nat) (W : Ow) (M : Mo), vs = [.ref p, .int (m : Int), .int (lo : Int), .int (hi : Int)] ∧ RowAt b K H p W M ∧ M.kept m ∧ lo ≤ hi ∧ hi ≤ M.size ∧
  ∀ (l : Addr) (H' : Hp), H l = none → H' l = some (.lst (stretchV M m lo hi)) → RowAt b K H' p W M → Keep W H H' → Q (.ref l) H'
theorem ok_P_worths_in (T : Tx K mg) : Fc P w K mg base 7 (aR K false "worths_in") ["self", "make", "low", "high"] (spWorthsIn false K) := by
  refine Fc.mk' T.dP_worths_in c_Rows_worths_in (fun vs H Q E h => ?_) (fun _ _ _ _ _ _ us hl => match us, hl with | [_, _, _, _], _ => rfl) (fun cdv A0 outer s H vs Q E hr h => ?_)
  · obtain ⟨p, m, lo, hi, W, M, rfl, _⟩ := h; rfl
  obtain ⟨p, m, lo, hi, W, M, rfl, R, hm, l1, l2, q⟩ := h
  have nd := c_Rows_worths_in.nd
  refine ⟨_, pss_one (ps_ret (pe_lc (own := [("place", 4)]) (g := gName 4) (tt := tYes) rfl nd (pi_range2 rfl T.f_range (pa_cons (pv 2) (pa_cons (pv 3) pa_nil)))
    (blkOk_by (N := ["self", "make", "low", "high", "place"]) (sc := defScope s_Rows_worths_in) (by decide +kernel))
    (fun _ _ _ _ _ => pg_name (i := 4) nd rfl (.inl rfl)) (fun _ _ _ _ _ => pts_nil) (fun _ _ _ _ _ => qm (pv 0) (T.clR false) T.mP_looked (ok_P_looked T) hr (pa_cons (pv 1) (pa_cons (pv 4) pa_nil))))), ?_⟩
  have s16 := R.ok.s16
  refine ⟨_, rfl, _, rfl, _, _, rfl, (by omega), fun D nD => ?_⟩
  have WD : W D = 0 := R.has.new nD
  refine lc_range (fun i H2 => H2 D = some (.lst (stretchV M m lo (lo + i))) ∧ RowAt false K H2 p W M ∧ Keep W H H2) ⟨?_, R.same (Same.new (Same.refl _) nD), Keep.refl.new nD⟩ ?_ ?_
  · rw [upd_same]
    unfold stretchV
    rw [Nat.add_sub_cancel_left]; rfl
  · rintro i H2 hi' ⟨hD, R2, k2⟩
    obtain ⟨A, ep, C, Y⟩ := R2.ex
    have R2' := R2
    subst ep
    refine ⟨rfl, _, rfl, _, _, _, rfl, C.hp, fsR_no (by decide +kernel), _, rfl, _, rfl, _, m, lo + i, W, M, rfl, R2', hm, (by omega), fun H3 R3 k3 => ?_⟩
    have hD3 : H3 D = some (.lst (stretchV M m lo (lo + i))) := k3.k _ _ hD (.inl WD)
    refine ⟨_, hD3, ?_, ?_, R3.off WD hD3 id, (k2.trans k3).set (.inr nD) hD3 id⟩
    · unfold stretchV
      rw [rng_len]; exact small1000 (by omega)
    · rw [upd_same]
      unfold stretchV
      rw [show lo + (i + 1) - lo = (lo + i - lo) + 1 by omega, rng_snoc, show lo + (lo + i - lo) = lo + i by omega]
  · rintro H2 ⟨hD, R2, k2⟩
    refine q D H2 nD ?_ R2 k2
    rw [hD, show lo + (((hi : Int) - (lo : Int)).toNat) = hi by omega]
end
end MK

set_option Elab.async false
set_option linter.all false
set_option maxRecDepth 100000
set_option maxHeartbeats 4000000
/-! the plain way: store, begin, needed_writes -/
namespace MK
open PySem PySem.Spec PyProof.Rows L2
theorem putK_le {κ : Type} [DecidableEq κ] (kvs : List (κ × V)) (k : κ) (v : V) : (putK kvs k v).length ≤ kvs.length + 1 := by
  unfold putK
  split
  · rw [List.length_map]; omega
  · rw [List.length_append]; exact Nat.le_refl _
def fs5 (size : Nat) (t aw ag : Addr) : List (Str × V) := [("wide", .int (size : Int)), ("grown", .ref t), ("wrote", .ref aw), ("gone", .ref ag), ("counted", .int 0)]
theorem fs5_kept {size : Nat} {t aw ag x1 x2 : Addr} {h : Nat} : putF "kept" (.ref x1) (fs5 size t aw ag) = fsR false size t aw ag 0 x1 x2 h := by kernel_rfl
theorem fs5_tu {size : Nat} {t aw ag x1 x2 : Addr} : putF "noted" (.ref x2) (putF "here" (.int 0) (putF "lying" (.ref x1) (fs5 size t aw ag))) = fsR true size t aw ag 0 x1 x2 0 := by kernel_rfl
section
variable {P : Program} {w : World} {K : PySem.W.Frag} {mg : Str → Option Value} {base : Heap}
def spStore (b : Bool) (K : PySem.W.Frag) : Sp := fun vs H Q _ => ∃ (A : RAd) (W : Ow) (M : Mo) (m x : Nat) (v : Int), vs = [.ref A.p, .int (m : Int), .int (M.n : Int), .int (x : Int), .int v] ∧
  Com b A K H W (M.put m x v) ∧ Way b A H W M ∧ M.Ok ∧ M.kept m ∧ x < M.size ∧ okW v ∧ M.n < 64 ∧ ∀ H', RowAt b K H' A.p W (M.put m x v) → Keep W H H' → Q .non H'
theorem ok_P_store (T : Tx K mg) : Fc P w K mg base 2 (aR K false "store") ["self", "make", "number", "place", "worth"] (spStore false K) := by
  refine Fc.mk' T.dP_store c_Plain_store (fun vs H Q E h => ?_) (fun _ _ _ _ _ _ us hl => match us, hl with | [_, _, _, _, _], _ => rfl) (fun cdv A0 outer s H vs Q E hr h => ?_)
  · obtain ⟨A, W, M, m, x, v, rfl, _⟩ := h; rfl
  obtain ⟨A, W, M, m, x, v, rfl, C, ⟨kvs, Y⟩, ok, hm, hx, hv, hn, q⟩ := h
  have hu : (A0.deeper (envOfC "Plain.store" (defScope s_Plain_store) s.heap.objs.size (aR K false "store") cdv)).units + 1 < cLine := by have z := hr.units; omega
  refine ⟨_, pss_cons (ps_dput hu (pe_fld (pv 0) rfl) (pe_tup (pa_cons (pv 3) (pa_cons (pv 2) pa_nil))) (pv 4) rfl)
    (pss_one (ps_expr (qm (pv 0) (T.clR false) (T.mR_add_steps false) (ok_R_add_steps T false) hr (pa_cons pe_int pa_nil)))), ?_⟩
  refine ⟨_, rfl, _, rfl, _, _, _, _, _, rfl, C.hp, T.clR false, T.nP_kept, fsR_kept, _, rfl, _, rfl, (by show 2 ≤ sizeLine; decide), fun t nt => ?_⟩
  have s3 : Same H (upd H t (.tup [V.int (x : Int), V.int ((M.n : Nat) : Int)])) := Same.new (Same.refl _) nt
  have x3 := s3 _ _ Y.hx
  have sz := Y.sz
  have n64 := ok.n64
  refine ⟨_, _, rfl, DPut.t (k := wk x M.n) (v := .int v) x3 upd_same (small1000 (by omega)), ?_⟩
  have C4 := (C.same s3).off (a := A.x1) (o := .dT (putK kvs (wk x M.n) (.int v))) (.inr (by rw [Y.r1]; decide))
  have k4 : Keep W H (upd (upd H t (.tup [V.int (x : Int), V.int ((M.n : Nat) : Int)])) A.x1 (.dT (putK kvs (wk x M.n) (.int v)))) :=
    (Keep.refl.new nt).set (.inl (by rw [Y.r1]; decide)) x3 id
  have x4 : upd (upd H t (.tup [V.int (x : Int), V.int ((M.n : Nat) : Int)])) A.x1 (.dT (putK kvs (wk x M.n) (.int v))) A.x1 = some (.dT (putK kvs (wk x M.n) (.int v))) := upd_same
  generalize (upd (upd H t (.tup [V.int (x : Int), V.int ((M.n : Nat) : Int)])) A.x1 (.dT (putK kvs (wk x M.n) (.int v)))) = H4 at C4 k4 x4 ⊢
  refine ⟨_, rfl, _, _, _, rfl, C4.hp, fsR_no (by decide +kernel), A.p, A.dx, A.T.t, A.aw, A.ag, A.x1, A.x2, M.size, A.here, A.c, _, rfl, C4.hp, ?_⟩
  have xp : A.x1 ≠ A.p := role_ne Y.r1 C.rp (by decide)
  have R5 := RowAt.of (C4.setp (A.c + 1) A.x1 A.x2 A.here) (M := M.put m x v) (b := false) ⟨_, Y.put ok hm hx ((upd_ne xp).trans x4) Y.r1⟩ (Mo.put_ok ok hm.1 hx hv hn)
  exact q _ R5 (k4.set (.inl (by rw [C.rp]; decide)) C4.hp id)
/-- what begin lays down -/
structure Beg (b : Bool) (K : PySem.W.Frag) (H H' : Hp) (p dx : Addr) (size : Nat) (t aw ag x1 x2 : Addr) (ns : List Int) : Prop where
  hp : H' p = some (.ins (CR K b) dx (fsR b size t aw ag 0 x1 x2 0))
  n1 : H x1 = none
  n2 : b = true → H x2 = none ∧ x1 ≠ x2
  st : ∀ y o, H y = some o → y ≠ p → H' y = some o
  pl : b = false → ∃ kvs, H' x1 = some (.dT kvs) ∧ (kvs.map (·.1)).Nodup ∧ (∀ q ∈ kvs, ∃ x, x < size ∧ q.1 = wk x 0) ∧ (∀ x v, ns[x]? = some v → valV kvs (wk x 0) = some (.int v)) ∧ kvs.length = size
  tu : b = true → H' x1 = some (.lst (ns.map V.int)) ∧ H' x2 = some (.dK [])
def spBegin (b : Bool) (K : PySem.W.Frag) : Sp := fun vs H Q _ => ∃ (p a dx : Addr) (size : Nat) (t aw ag : Addr) (ns : List Int), vs = [.ref p, .ref a] ∧ H p = some (.ins (CR K b) dx (fs5 size t aw ag)) ∧
  H a = some (.lst (ns.map V.int)) ∧ ns.length = size ∧ size ≤ 16 ∧ ∀ (x1 x2 : Addr) (H' : Hp), Beg b K H H' p dx size t aw ag x1 x2 ns → Q .non H'
theorem ok_P_begin (T : Tx K mg) : Fc P w K mg base 2 (aR K false "begin") ["self", "worths"] (spBegin false K) := by
  refine Fc.mk' T.dP_begin c_Plain_begin (fun vs H Q E h => ?_) (fun _ _ _ _ _ _ us hl => match us, hl with | [_, _], _ => rfl) (fun cdv A0 outer s H vs Q E hr h => ?_)
  · obtain ⟨p, a, dx, size, t, aw, ag, ns, rfl, _⟩ := h; rfl
  obtain ⟨p, a, dx, size, t, aw, ag, ns, rfl, hp, ha, hl, h16, q⟩ := h
  have nd := c_Plain_begin.nd
  have hu : (A0.deeper (envOfC "Plain.begin" (defScope s_Plain_begin) s.heap.objs.size (aR K false "begin") cdv)).units + 1 < cLine := by have z := hr.units; omega
  refine ⟨_, pss_cons (ps_fld (pv 0) pe_dnewT rfl)
    (pss_one (ps_for PassesOwn.never rfl (pi_enum rfl T.f_enumerate (pa_cons (pv 1) pa_nil)) (pg_tup rfl (pgs_cons (pg_name (i := 2) nd rfl (.inl rfl)) (pgs_cons (pg_name (i := 3) nd rfl (.inl rfl)) pgs_nil)))
      (pss_one (ps_dput hu (pe_fld (pv 0) rfl) (pe_tup (pa_cons (pv 2) (pa_cons pe_int pa_nil))) (pv 3) rfl)))), ?_⟩
  refine fun x1 n1 => ⟨_, rfl, p, _, dx, _, rfl, (by rw [upd_ne (ne_of_none hp n1)]; exact hp), T.clR false, T.nP_kept, (by show 5 < 1000; decide), ?_⟩
  rw [fs5_kept (x2 := 0) (h := 0)]
  have x1p : x1 ≠ p := (ne_of_none hp n1).symm
  have ap : a ≠ p := fun z => by rw [z, hp] at ha; cases ha
  refine ⟨_, rfl, a, ns.map V.int, rfl, SqL.of (by rw [upd_ne ap, upd_ne (ne_of_none ha n1)]; exact ha), ?_⟩
  refine for_it (walk_enum (K := K) (a := a) (xs := ns.map V.int)) (fun i σ H2 => ∃ (kvs : List (List Key × V)) (v2 v3 : Option V), σ = [some (.ref p), some (.ref a), v2, v3] ∧ H2 p = some (.ins (CR K false) dx (fsR false size t aw ag 0 x1 0 0)) ∧
      H2 x1 = some (.dT kvs) ∧ (∀ y o, H y = some o → y ≠ p → H2 y = some o) ∧ (kvs.map (·.1)).Nodup ∧ (∀ q ∈ kvs, ∃ x, x < i ∧ q.1 = wk x 0) ∧ (∀ x v, x < i → ns[x]? = some v → valV kvs (wk x 0) = some (.int v)) ∧ kvs.length = i)
    ⟨[], none, none, rfl, upd_same, (by rw [upd_ne x1p, upd_same]), fun y o e h => by rw [upd_ne h, upd_ne (ne_of_none e n1)]; exact e, List.nodup_nil, fun q hq => (nomatch hq), fun x v hx => (by omega), rfl⟩ ?_ ?_ ?_
  · rintro i σ H2 _ ⟨kvs, v2, v3, rfl, h1, h2, h3, _⟩
    exact SqL.of (h3 _ _ ha ap)
  · rintro i v σ H2 H3 hi ⟨kvs, v2, v3, rfl, h1, h2, h3, h4, h5, h6, h7⟩ ⟨u, y1, y2, rfl, nu, rfl, e1, e2⟩
    rw [List.length_map] at hi
    dsimp only at e1 e2
    rw [List.getElem?_map] at e2
    cases e1
    obtain ⟨n, hn, rfl⟩ : ∃ n, ns[i]? = some n ∧ V.int n = y2 := by
      cases e : ns[i]? with
      | none => rw [e] at e2; cases e2
      | some n => rw [e] at e2; exact ⟨n, rfl, Option.some.inj e2⟩
    have s3 : Same H2 (upd H2 u (.tup [V.int (i : Int), V.int n])) := Same.new (Same.refl _) nu
    generalize hH : (upd H2 u (.tup [V.int (i : Int), V.int n])) = H3 at s3 ⊢
    have hu3 : H3 u = some (.tup [V.int (i : Int), V.int n]) := by rw [← hH]; exact upd_same
    refine ⟨u, _, rfl, SqT.of hu3, rfl, _, _, rfl, _, _, rfl, rfl, _, rfl, _, rfl, _, _, _, _, _, rfl, s3 _ _ h1, T.clR false, T.nP_kept, fsR_kept, _, rfl, (by show 2 ≤ sizeLine; decide), fun t3 nt3 => ?_⟩
    have s4 : Same H3 (upd H3 t3 (.tup [V.int (i : Int), V.int 0])) := Same.new (Same.refl _) nt3
    generalize hH4 : (upd H3 t3 (.tup [V.int (i : Int), V.int 0])) = H4 at s4 ⊢
    have t4 : H4 t3 = some (.tup [V.int (i : Int), V.int 0]) := by rw [← hH4]; exact upd_same
    have fr : wk i 0 ∉ kvs.map (·.1) := fun z => by
      obtain ⟨q, hq, e⟩ := List.mem_map.mp z
      obtain ⟨x, hx, e2⟩ := h5 q hq
      have := (wk_inj (e.symm.trans e2)).1
      omega
    have ek := putK_new (V.int n) (valV_new fr)
    refine ⟨_, _, rfl, DPut.t (k := wk i 0) (v := .int n) (s4 _ _ (s3 _ _ h2)) t4 (small1000 (by omega)), ?_⟩
    refine ⟨_, _, _, rfl, ?_, upd_same, fun y o e h => ?_, ?_, ?_, ?_, ?_⟩
    · rw [upd_ne x1p.symm]; exact s4 _ _ (s3 _ _ h1)
    · rw [upd_ne (ne_of_none e n1)]; exact s4 _ _ (s3 _ _ (h3 y o e h))
    · rw [ek]; exact nd_snoc h4 fr
    · rw [ek]
      intro q hq
      rcases List.mem_append.mp hq with hq | hq
      · obtain ⟨x, hx, e⟩ := h5 q hq
        exact ⟨x, by omega, e⟩
      · have := List.mem_singleton.mp hq
        subst this
        exact ⟨i, by omega, rfl⟩
    · intro x v hx hv
      rw [valV_put]
      by_cases z : x = i
      · subst z
        rw [if_pos rfl]
        rw [hn] at hv
        cases hv
        rfl
      · rw [if_neg (fun h => z (wk_inj h).1)]
        exact h6 x v (by omega) hv
    · rw [ek, List.length_append, h7]; rfl
  · rintro σ H2 ⟨kvs, v2, v3, rfl, h1, h2, h3, h4, h5, h6, h7⟩
    rw [List.length_map, hl] at h5 h6 h7
    refine q x1 0 H2 ⟨h1, n1, (fun z => (nomatch z)), h3, fun _ => ⟨kvs, h2, h4, h5, fun x v e => h6 x v ?_ e, h7⟩, (fun z => (nomatch z))⟩
    have := (List.getElem?_eq_some_iff.mp e).1
    omega
def spNeedW (K : PySem.W.Frag) : Sp := fun vs H Q _ => ∃ (p : Addr) (M : Mo), vs = [.ref p] ∧ RQ false K H p M ∧ WT M.own ∧ M.n ≤ 64 ∧ M.size ≤ 16 ∧
  ∀ (d : Addr) (nk : List (List Key × V)) (H' : Hp), H d = none → H' d = some (.dT nk) → (∀ m x, M.kept m → x < M.size → (valV nk (wk x (M.wr m x))).isSome = true) → Same H H' → Q (.ref d) H'
theorem ok_P_needed_writes (T : Tx K mg) : Fc P w K mg base 5 (aR K false "needed_writes") ["self"] (spNeedW K) := by
  refine Fc.mk' T.dP_needed_writes c_Rows_needed_writes (fun vs H Q E h => ?_) (fun _ _ _ _ _ _ us hl => match us, hl with | [_], _ => rfl) (fun cdv A0 outer s H vs Q E hr h => ?_)
  · obtain ⟨p, M, rfl, _⟩ := h; rfl
  obtain ⟨_, M, rfl, ⟨A, W, rfl, C⟩, wt, hn, hs, q⟩ := h
  have nd := c_Rows_needed_writes.nd
  have hu : (A0.deeper (envOfC "Rows.needed_writes" (defScope s_Rows_needed_writes) s.heap.objs.size (aR K false "needed_writes") cdv)).units + 1 < cLine := by have z := hr.units; omega
  refine ⟨_, pss_cons (ps_set (i := 1) nd rfl (.inl rfl) pe_dnewT)
    (pss_cons (ps_for PassesOwn.never rfl (pi_list (qm0 (pv 0) (T.clR false) (T.mR_makes false) (ok_R_makes T false) (hr.mono (by decide)))) (pg_name (i := 2) nd rfl (.inl rfl))
      (pss_one (ps_for PassesOwn.never rfl (pi_range1 rfl T.f_range (pa_cons (pe_fld (pv 0) rfl) pa_nil)) (pg_name (i := 3) nd rfl (.inl rfl))
        (pss_one (ps_dput hu (pv 1) (pe_tup (pa_cons (pv 3) (pa_cons (qm (pv 0) (T.clR false) (T.mR_writer_of false) (ok_R_writer_of T false) hr (pa_cons (pv 2) (pa_cons (pv 3) pa_nil))) pa_nil))) pe_bl rfl)))))
    (pss_one (ps_ret (pv 1)))), ?_⟩
  refine fun d nd0 => ?_
  have s1 : Same H (upd H d (.dT [])) := Same.new (Same.refl _) nd0
  have d1 : upd H d (.dT []) d = some (.dT []) := upd_same
  generalize (upd H d (.dT [])) = H1 at s1 d1 ⊢
  have C1 := C.same s1
  refine ⟨_, rfl, _, _, _, rfl, C1.hp, fsR_no (by decide +kernel), A.p, M, rfl, ⟨A, W, rfl, C1⟩, hn, fun l H2 nl1 hl2 s2 => ?_⟩
  refine ⟨l, rfl, ⟨_, SqL.of hl2⟩, ?_⟩
  have ld : l ≠ d := (ne_of_none d1 nl1).symm
  have nl0 : H l = none := s1.free nl1
  have klen : (keptL M).length ≤ 64 := by
    have := List.length_filter_le (fun i => !M.gone i) (List.range M.n)
    rw [List.length_range] at this
    unfold keptL
    omega
  refine for_list (K := K) (a := l) (xs := nl (keptL M)) (fun i σ H3 => ∃ (nk : List (List Key × V)) (v2 v3 : Option V), σ = [some (.ref A.p), some (.ref d), v2, v3] ∧ H3 d = some (.dT nk) ∧ H3 l = some (.lst (nl (keptL M))) ∧ Same H H3 ∧
      nk.length ≤ i * M.size ∧ ∀ j m x, j < i → (keptL M)[j]? = some m → x < M.size → (valV nk (wk x (M.wr m x))).isSome = true)
    ⟨[], none, none, rfl, s2 _ _ d1, hl2, fun a o e => s2 a o (s1 a o e), by simp, fun j m x hj => (by omega)⟩ ?_ ?_ ?_
  · rintro i σ H3 _ ⟨nk, v2, v3, rfl, h1, h2, h3⟩
    exact SqL.of h2
  · rintro i y σ H3 hy ⟨nk, v2, v3, rfl, h1, h2, h3, h4, h5⟩
    unfold nl at hy
    rw [List.getElem?_map] at hy
    obtain ⟨m, hm, rfl⟩ : ∃ n, (keptL M)[i]? = some n ∧ V.int ((n : Nat) : Int) = y := by
      cases e : (keptL M)[i]? with
      | none => rw [e] at hy; cases hy
      | some n => rw [e] at hy; exact ⟨n, rfl, Option.some.inj hy⟩
    have km := mem_keptL.mp (List.mem_of_getElem? hm)
    have hi := (List.getElem?_eq_some_iff.mp hm).1
    have C3 := C.same h3
    refine ⟨_, rfl, _, _, _, _, _, rfl, C3.hp, T.clR false, T.nR_wide false, fsR_wide, _, rfl, by omega, by omega, ?_⟩
    refine for_range (fun j σ H4 => ∃ (nk : List (List Key × V)) (v3 : Option V), σ = [some (.ref A.p), some (.ref d), some (.int (m : Int)), v3] ∧ H4 d = some (.dT nk) ∧ H4 l = some (.lst (nl (keptL M))) ∧ Same H H4 ∧
        nk.length ≤ i * M.size + j ∧ (∀ j m x, j < i → (keptL M)[j]? = some m → x < M.size → (valV nk (wk x (M.wr m x))).isSome = true) ∧ ∀ x, x < j → (valV nk (wk x (M.wr m x))).isSome = true)
      ⟨nk, v3, rfl, h1, h2, h3, by omega, h5, fun x hx => (by omega)⟩ ?_ ?_
    · rintro j σ H4 hj ⟨nk, v3, rfl, g1, g2, g3, g4, g5, g6⟩
      have C4 := C.same g3
      refine ⟨_, rfl, _, rfl, _, rfl, _, _, _, rfl, C4.hp, fsR_no (by decide +kernel), _, rfl, _, rfl, _, m, (0 + j), M, by simp, ⟨A, W, rfl, C4⟩, wt, km.1, (by show 2 ≤ sizeLine; decide), fun t nt => ?_⟩
      have s5 : Same H4 (upd H4 t (.tup [V.int (0 + (j : Int)), V.int ((M.wr m (0 + j) : Nat) : Int)])) := Same.new (Same.refl _) nt
      have t5 : upd H4 t (.tup [V.int (0 + (j : Int)), V.int ((M.wr m (0 + j) : Nat) : Int)]) t = some (.tup [V.int (0 + (j : Int)), V.int ((M.wr m (0 + j) : Nat) : Int)]) := upd_same
      generalize (upd H4 t (.tup [V.int (0 + (j : Int)), V.int ((M.wr m (0 + j) : Nat) : Int)])) = H5 at s5 t5 ⊢
      rw [Nat.zero_add, Int.zero_add] at t5
      have sz : nk.length ≤ 1100 := by
        have : i * M.size ≤ 64 * 16 := Nat.mul_le_mul (by omega) hs
        omega
      refine ⟨_, _, rfl, DPut.t (k := wk j (M.wr m j)) (v := .bl true) (s5 _ _ g1) t5 (Nat.lt_of_le_of_lt sz (by decide)), ?_⟩
      have keepS : ∀ k, (valV nk k).isSome = true → (valV (putK nk (wk j (M.wr m j)) (.bl true)) k).isSome = true := fun k hk => by
        rw [valV_put]
        split
        · rfl
        · exact hk
      refine ⟨_, _, rfl, upd_same, by rw [upd_ne ld]; exact s5 _ _ g2, fun a o e => by rw [upd_ne (ne_of_none e nd0)]; exact s5 _ _ (g3 a o e), ?_, fun j' m' x' a1 a2 a3 => keepS _ (g5 j' m' x' a1 a2 a3), fun x hx => ?_⟩
      · have := putK_le nk (wk j (M.wr m j)) (.bl true)
        omega
      · by_cases z : x = j
        · subst z
          rw [valV_put, if_pos rfl]; rfl
        · exact keepS _ (g6 x (by omega))
    · rintro σ H4 ⟨nk, v3, rfl, g1, g2, g3, g4, g5, g6⟩
      rw [Int.toNat_natCast] at g4 g6
      refine ⟨nk, _, _, rfl, g1, g2, g3, by rw [Nat.add_mul]; omega, fun j' m' x' a1 a2 a3 => ?_⟩
      by_cases z : j' = i
      · subst z
        rw [hm] at a2
        cases a2
        exact g6 x' a3
      · exact g5 j' m' x' (by omega) a2 a3
  · rintro σ H3 ⟨nk, v2, v3, rfl, h1, h2, h3, h4, h5⟩
    refine ⟨_, rfl, q d nk H3 nd0 h1 (fun m x km hx => ?_) h3⟩
    obtain ⟨j, hj, e⟩ := List.mem_iff_getElem.mp (mem_keptL.mpr km)
    exact h5 j m x (by rw [nl_len]; exact hj) (by rw [List.getElem?_eq_getElem hj, e]) hx
end
end MK

set_option Elab.async false
set_option linter.all false
set_option maxRecDepth 100000
set_option maxHeartbeats 4000000
/-! the plain way: freed -/
namespace MK
open PySem PySem.Spec PyProof.Rows L2
theorem paired_perm {α β : Type} {R : α → β → Prop} {ts as : List β} (p : ts.Perm as) : ∀ {xs : List α}, Paired R xs as → ∃ ys, ys.Perm xs ∧ Paired R ys ts := by
  induction p with
  | nil => intro xs h; cases h; exact ⟨[], .nil, .nil⟩
  | cons a p ih =>
    intro xs h
    cases h with
    | cons r t =>
      obtain ⟨ys, h1, h2⟩ := ih t
      exact ⟨_ :: ys, h1.cons _, .cons r h2⟩
  | swap a c l =>
    intro xs h
    cases h with
    | cons r t =>
      cases t with
      | cons r2 t => exact ⟨_ :: _ :: _, List.Perm.swap _ _ _, .cons r2 (.cons r t)⟩
  | trans p1 p2 ih1 ih2 =>
    intro xs h
    obtain ⟨ys, h1, h2⟩ := ih2 h
    obtain ⟨zs, h3, h4⟩ := ih1 h2
    exact ⟨zs, h3.trans h1, h4⟩
theorem paired_at {α β : Type} {R : α → β → Prop} : ∀ {xs : List α} {ys : List β} {i : Nat} {y : β}, Paired R xs ys → ys[i]? = some y → ∃ x, xs[i]? = some x ∧ R x y
  | _, _, i, y, .nil, h => by simp at h
  | _, _, 0, y, .cons f _, h => by
    simp only [List.getElem?_cons_zero, Option.some.injEq] at h
    subst h
    exact ⟨_, rfl, f⟩
  | _, _, i + 1, y, .cons _ r, h => by
    simp only [List.getElem?_cons_succ] at h
    obtain ⟨c, h1, h2⟩ := paired_at (i := i) r h
    exact ⟨c, by rw [List.getElem?_cons_succ]; exact h1, h2⟩
theorem valV_mem {κ : Type} [DecidableEq κ] {k : κ} : ∀ {kvs : List (κ × V)}, k ∈ kvs.map (·.1) → ∃ v, valV kvs k = some v
  | q :: r, h => by
    by_cases e : q.1 = k
    · exact ⟨_, valV_pos e⟩
    · rw [valV_neg e]
      rw [List.map_cons, List.mem_cons] at h
      exact valV_mem (h.resolve_left fun z => e z.symm)
theorem ref_at {us : List Addr} {i : Nat} {x : V} (h : (us.map V.ref)[i]? = some x) : ∃ u, us[i]? = some u ∧ x = .ref u := by
  rw [List.getElem?_map] at h
  cases e : us[i]? with
  | none => rw [e] at h; cases h
  | some u => rw [e] at h; exact ⟨u, rfl, (Option.some.inj h).symm⟩
theorem take_at {α : Type} {l : List α} {i : Nat} {x : α} (h : l[i]? = some x) : l.take (i + 1) = l.take i ++ [x] := by
  rw [List.take_succ, h]; rfl
section
variable {P : Program} {w : World} {K : PySem.W.Frag} {mg : Str → Option Value} {base : Heap}
def spFreed (b : Bool) (K : PySem.W.Frag) : Sp := fun vs H Q _ => ∃ (p : Addr) (m : Nat) (W : Ow) (M : Mo), vs = [.ref p, .int (m : Int)] ∧ RowAt b K H p W M ∧ ∀ v H', RowAt b K H' p W M → Keep W H H' → Q v H'
theorem ok_P_freed (T : Tx K mg) : Fc P w K mg base 6 (aR K false "freed") ["self", "make"] (spFreed false K) := by
  refine Fc.mk' T.dP_freed c_Plain_freed (fun vs H Q E h => ?_) (fun _ _ _ _ _ _ us hl => match us, hl with | [_, _], _ => rfl) (fun cdv A0 outer s H vs Q E hr h => ?_)
  · obtain ⟨p, m, W, M, rfl, _⟩ := h; rfl
  obtain ⟨_, m, W, M, rfl, ⟨⟨A, rfl, C, kvs, Y⟩, ok⟩, q⟩ := h
  have nd := c_Plain_freed.nd
  have hu : (A0.deeper (envOfC "Plain.freed" (defScope s_Plain_freed) s.heap.objs.size (aR K false "freed") cdv)).units + 1 < cLine := by have z := hr.units; omega
  have hu8 : (A0.deeper (envOfC "Plain.freed" (defScope s_Plain_freed) s.heap.objs.size (aR K false "freed") cdv)).units + 8 < cLine := by have z := hr.units; omega
  refine ⟨_, pss_cons (ps_set (i := 2) nd rfl (.inr rfl) (qm0 (pv 0) (T.clR false) T.mP_needed_writes (ok_P_needed_writes T) hr))
    (pss_cons (ps_setLc (i := 3) (own := [("write", 4)]) (g := gName 4) (tt := tB (tDNotIn (tVar 4) (tVar 2))) rfl nd rfl rfl rfl
        (pi_list (pe_callB (call_sortedT rfl) rfl T.f_sorted (by decide +kernel) (pa_cons (pe_fld (pv 0) rfl) pa_nil)))
        (blkOk_by (N := ["self", "make", "needed", "found", "write"]) (sc := defScope s_Plain_freed) (by decide +kernel))
        (fun _ _ _ _ _ => pg_name (i := 4) nd rfl (.inl rfl)) (fun _ _ _ _ _ => pts_one (pt_cmp (pc_dnotin hu (pv 4) (pv 2)))) (fun _ _ _ _ _ => pv 4))
    (pss_cons (ps_for PassesOwn.never rfl (pi_list (pv 3)) (pg_name (i := 4) nd rfl (.inl rfl))
      (pss_one (ps_expr (pe_bm PySem.F.plainAttrs_dict PySem.F.slot_dict_pop PySem.F.type_dict_pop (mt_popT1 hu8) (pe_fld (pv 0) rfl) (pa_cons (pv 4) pa_nil)))))
    (pss_one (ps_ret (pv 3))))), ?_⟩
  refine ⟨_, rfl, _, _, _, rfl, C.hp, fsR_no (by decide +kernel), A.p, M, rfl, ⟨A, W, rfl, C⟩, ok.wt, ok.n64, ok.s16, fun d nk H1 nd0 hd1 hnk s1 => ?_⟩
  have C1 := C.same s1
  refine ⟨_, rfl, _, _, _, _, _, rfl, C1.hp, T.clR false, T.nP_kept, fsR_kept, A.x1, kvs, rfl, s1 _ _ Y.hx, fun q hq => ?_, fun as ts l hp perm nl => ?_⟩
  · obtain ⟨x, m', e, h1, h2⟩ := Y.ks q hq
    have := ok.s16
    have := ok.n64
    exact ⟨x, m', e, by omega, by omega⟩
  obtain ⟨ys, py, pys⟩ := paired_perm perm hp
  have s2 : Same H1 (upd H1 l (.lst (ts.map V.ref))) := Same.new (Same.refl _) nl
  have l2 : upd H1 l (.lst (ts.map V.ref)) l = some (.lst (ts.map V.ref)) := upd_same
  generalize (upd H1 l (.lst (ts.map V.ref))) = H2 at s2 l2 ⊢
  have s02 : Same H H2 := fun a o e => s2 _ _ (s1 _ _ e)
  have hd2 := s2 _ _ hd1
  refine ⟨l, rfl, ⟨_, SqL.of l2⟩, fun D nD => ?_⟩
  have nD0 : H D = none := s02.free nD
  have lenY : ys.length ≤ 80 := by
    have := Y.sz
    have := ok.n64
    rw [py.length_eq]; omega
  have lts : ts.length = ys.length := (Paired.length pys).symm
  have pys2 : Paired (fun (q : List Key × V) (b : Addr) => H2 b = some (.tup (q.1.map kV))) ys ts := Paired.mapP pys fun _ _ z => s2 _ _ z
  refine lc_list (K := K) (a := l) (xs := ts.map V.ref) (fun i H3 => ∃ us : List Addr, H3 D = some (.lst (us.map V.ref)) ∧ Paired (fun (q : List Key × V) (b : Addr) => H2 b = some (.tup (q.1.map kV))) ((ys.take i).filter fun q => !(valV nk q.1).isSome) us ∧
      us.length ≤ i ∧ Same H2 H3) ⟨[], upd_same, .nil, Nat.le_refl _, Same.new (Same.refl _) nD⟩ ?_ ?_ ?_
  · rintro i H3 _ ⟨us, g1, g2, g3, g4⟩
    exact SqL.of (g4 _ _ l2)
  · rintro i x H3 hx ⟨us, g1, g2, g3, g4⟩
    obtain ⟨u, hu', rfl⟩ := ref_at hx
    obtain ⟨y, hy, ry⟩ := paired_at pys2 hu'
    have hi := (List.getElem?_eq_some_iff.mp hu').1
    refine ⟨rfl, _, rfl, _, rfl, d, _, rfl, DGet.t (k := y.1) (g4 _ _ hd2) (g4 _ _ ry), _, rfl, ?_⟩
    rw [take_at hy, List.filter_append]
    cases e : (valV nk y.1).isSome with
    | true =>
      refine iteF ⟨us, g1, ?_, by omega, g4⟩
      rw [List.filter_cons_of_neg (by rw [e]; decide), List.filter_nil, List.append_nil]
      exact g2
    | false =>
      refine iteT ⟨_, rfl, _, g1, ?_, us ++ [u], ?_, ?_, ?_, Same.set g4 nD⟩
      · rw [List.length_map]; exact small1000 (by omega)
      · rw [upd_same, List.map_append]; rfl
      · rw [List.filter_cons_of_pos (by rw [e]; rfl), List.filter_nil]
        exact Paired.snoc g2 ry
      · rw [List.length_append]
        show us.length + 1 ≤ i + 1
        omega
  · rintro H3 ⟨us, g1, g2, g3, g4⟩
    rw [List.length_map, lts, List.take_length] at g2
    generalize hz : (ys.filter fun q => !(valV nk q.1).isSome) = zs at g2
    have hzs : ∀ q ∈ zs, q ∈ kvs ∧ valV nk q.1 = none := fun q hq => by
      rw [← hz] at hq
      have := List.mem_filter.mp hq
      refine ⟨py.mem_iff.mp this.1, ?_⟩
      cases e : valV nk q.1 with
      | none => rfl
      | some v => have z := this.2; rw [e] at z; cases z
    have ndz : (zs.map (·.1)).Nodup := by
      rw [← hz]
      exact ((py.map (·.1)).nodup_iff.mpr Y.nd).sublist ((List.filter_sublist).map _)
    have s03 : Same H H3 := fun a o e => g4 _ _ (s02 _ _ e)
    have W0 : ∀ a, H a = none → W a = 0 := fun a n => C.has.new n
    refine ⟨_, rfl, D, rfl, ⟨_, SqL.of g1⟩, ?_⟩
    refine for_list (K := K) (a := D) (xs := us.map V.ref) (fun i σ H4 => ∃ (kv : List (List Key × V)) (v4 : Option V), σ = [some (.ref A.p), some (.int (m : Int)), some (.ref d), some (.ref D), v4] ∧ H4 A.x1 = some (.dT kv) ∧
        H4 D = some (.lst (us.map V.ref)) ∧ Keep W H3 H4 ∧ Com false A K H4 W M ∧ (kv.map (·.1)).Nodup ∧ (∀ q ∈ kv, q ∈ kvs) ∧ kv.length ≤ kvs.length ∧ ∀ k, k ∉ (zs.take i).map (·.1) → valV kv k = valV kvs k)
      ⟨kvs, none, rfl, s03 _ _ Y.hx, g1, Keep.refl, C.same s03, Y.nd, fun q hq => hq, Nat.le_refl _, fun k _ => rfl⟩ ?_ ?_ ?_
    · rintro i σ H4 _ ⟨kv, v4, rfl, f1, f2, f3, f4, f5, f6, f7, f8⟩
      exact SqL.of f2
    · rintro i x σ H4 hx ⟨kv, v4, rfl, f1, f2, f3, f4, f5, f6, f7, f8⟩
      obtain ⟨u, hu', rfl⟩ := ref_at hx
      obtain ⟨y, hy, ry⟩ := paired_at g2 hu'
      have ry4 : H4 u = some (.tup (y.1.map kV)) := f3.k _ _ (g4 _ _ ry) (.inr trivial)
      have hym := List.mem_of_getElem? hy
      have nin : y.1 ∉ (zs.take i).map (·.1) := fun z => by
        have e1 : (zs.map (·.1))[i]? = some y.1 := by rw [List.getElem?_map, hy]; rfl
        rw [List.map_take] at z
        obtain ⟨j, hj, ej⟩ := List.mem_iff_getElem.mp z
        rw [List.length_take] at hj
        rw [List.getElem_take] at ej
        have hi := (List.getElem?_eq_some_iff.mp e1)
        obtain ⟨hi1, hi2⟩ := hi
        have := (List.getElem_inj (h₀ := by omega) (h₁ := hi1) ndz).mp (ej.trans hi2.symm)
        omega
      obtain ⟨v, hv⟩ := valV_mem (List.mem_map.mpr ⟨y, (hzs y hym).1, rfl⟩)
      refine ⟨_, rfl, _, _, _, _, _, rfl, f4.hp, T.clR false, T.nP_kept, fsR_kept, .inr (.inr (.inl ⟨rfl, .inr ⟨_, f1⟩⟩)), _, rfl, A.x1, kv, y.1, u, v, rfl, rfl, f1, ry4, (f8 _ nin).trans hv, ?_⟩
      have Dx : D ≠ A.x1 := (ne_of_none Y.hx nD0).symm
      refine ⟨dropK kv y.1, _, rfl, upd_same, ?_, f3.set (.inl (by rw [Y.r1]; decide)) f1 id, f4.off (.inr (by rw [Y.r1]; decide)), nd_drop f5, fun q hq => f6 q (dropK_mem hq), Nat.le_trans (dropK_le _ _) f7, fun k hk => ?_⟩
      · rw [upd_ne Dx]; exact f2
      · rw [take_at hy, List.map_append, List.mem_append, not_or] at hk
        rw [valV_drop, if_neg (fun z => hk.2 (by rw [z]; simp))]
        exact f8 k hk.1
    · rintro σ H4 ⟨kv, v4, rfl, f1, f2, f3, f4, f5, f6, f7, f8⟩
      refine ⟨_, rfl, q _ H4 (RowAt.of f4 ⟨kv, f1, Y.r1, f5, fun q hq => Y.ks q (f6 q hq), fun m' x km hx => ?_, Nat.le_trans f7 Y.sz⟩ ok) ((Keep.same s03).trans f3)⟩
      rw [List.length_map, ← Paired.length g2, List.take_length] at f8
      rw [← Y.rd m' x km hx]
      refine f8 _ fun z => ?_
      obtain ⟨q', hq', e⟩ := List.mem_map.mp z
      have h1 := (hzs q' hq').2
      have h2 := hnk m' x km hx
      have e' : q'.1 = wk x (M.wr m' x) := e
      rw [← e', h1] at h2
      cases h2
end
end MK

set_option Elab.async false
set_option linter.all false
set_option maxRecDepth 100000
set_option maxHeartbeats 4000000
/-! rows of either way: written, put, put_all, at, row, stretch, let_go -/
namespace MK
open PySem PySem.Spec PyProof.Rows L2
section
variable {b : Bool} {A A' : RAd} {K : PySem.W.Frag} {H H' : Hp} {W W' : Ow} {M : Mo}
theorem Way.move (Y : Way b A H W M) (e1 : A'.x1 = A.x1) (e2 : A'.x2 = A.x2) (e3 : A'.here = A.here) (h : ∀ a o, H a = some o → 9 ≤ W a ∨ isTup o → H' a = some o) (r : ∀ a, 9 ≤ W a → W' a = W a) : Way b A' H' W' M := by
  cases b with
  | false =>
    obtain ⟨kvs, Y⟩ := Y
    exact ⟨kvs, by rw [e1]; exact h _ _ Y.hx (.inl (by rw [Y.r1]; decide)), by rw [e1, r _ (by rw [Y.r1]; decide)]; exact Y.r1, Y.nd, Y.ks, Y.rd, Y.sz⟩
  | true =>
    obtain ⟨N, kvs, Y⟩ := Y
    refine ⟨N, kvs, ?_, ?_, ?_, ?_, Y.nd, ?_, ?_, ?_, Y.sz⟩
    · rw [e1, e3]; exact h _ _ Y.hx (.inl (by rw [Y.r1]; decide))
    · rw [e2]; exact h _ _ Y.hy (.inl (by rw [Y.r2]; decide))
    · rw [e1, r _ (by rw [Y.r1]; decide)]; exact Y.r1
    · rw [e2, r _ (by rw [Y.r2]; decide)]; exact Y.r2
    · rw [e3]; exact Y.hand
    · rw [e3]
      intro m hm ne
      obtain ⟨t, h1, h2⟩ := Y.nt m hm ne
      exact ⟨t, h1, h _ _ h2 (.inr trivial)⟩
    · rw [e3]; exact Y.ky
theorem Way.let (Y : Way b A H W M) (m : Nat) : Way b A H W (M.let_ m) := by
  cases b with
  | false =>
    obtain ⟨kvs, Y⟩ := Y
    exact ⟨kvs, Y.hx, Y.r1, Y.nd, Y.ks, fun m' p hk hp => Y.rd m' p (Mo.let_kept.mp hk).1 hp, Y.sz⟩
  | true =>
    obtain ⟨N, kvs, Y⟩ := Y
    exact ⟨N, kvs, Y.hx, Y.hy, Y.r1, Y.r2, Y.nd, ⟨Y.hand.sub, Y.hand.here, Y.hand.lt, fun k hk => Y.hand.kept k (Mo.let_kept.mp hk).1⟩, Y.nt, Y.ky, Y.sz⟩
end
def putA : Mo → Nat → List (Nat × Int) → Mo
  | M, _, [] => M
  | M, m, c :: cs => putA (M.put m c.1 c.2) M.n cs
def lastM (M : Mo) (m : Nat) (k : Nat) : Nat := if k = 0 then m else M.n + k - 1
theorem putA_snoc : ∀ (cs : List (Nat × Int)) (c : Nat × Int) (M : Mo) (m : Nat), putA M m (cs ++ [c]) = (putA M m cs).put (lastM M m cs.length) c.1 c.2
  | [], c, M, m => rfl
  | d :: cs, c, M, m => by
    show putA (M.put m d.1 d.2) M.n (cs ++ [c]) = _
    rw [putA_snoc cs c]
    show (putA (M.put m d.1 d.2) M.n cs).put _ _ _ = (putA (M.put m d.1 d.2) M.n cs).put _ _ _
    congr 1
    unfold lastM
    show (if cs.length = 0 then M.n else M.n + 1 + cs.length - 1) = if cs.length + 1 = 0 then m else M.n + (cs.length + 1) - 1
    split <;> split <;> omega
theorem putA_n : ∀ (cs : List (Nat × Int)) (M : Mo) (m : Nat), (putA M m cs).n = M.n + cs.length
  | [], M, m => rfl
  | d :: cs, M, m => by
    show (putA (M.put m d.1 d.2) M.n cs).n = _
    rw [putA_n cs]
    show M.n + 1 + cs.length = M.n + (cs.length + 1)
    omega
theorem putA_size : ∀ (cs : List (Nat × Int)) (M : Mo) (m : Nat), (putA M m cs).size = M.size
  | [], M, m => rfl
  | d :: cs, M, m => putA_size cs _ _
section
variable {P : Program} {w : World} {K : PySem.W.Frag} {mg : Str → Option Value} {base : Heap}
def spWritten (b : Bool) (K : PySem.W.Frag) : Sp := fun vs H Q _ => ∃ (p : Addr) (m x : Nat) (v : Int) (W : Ow) (M : Mo), vs = [.ref p, .int (m : Int), .int (x : Int), .int v] ∧ RowAt b K H p W M ∧ M.kept m ∧ x < M.size ∧ okW v ∧ M.n < 64 ∧
  ∀ W' H', RowAt b K H' p W' (M.put m x v) → Grow W W' H → Keep W H H' → Q (.int (M.n : Int)) H'
theorem ok_R_written (T : Tx K mg) (b : Bool) (F : Fc P w K mg base 4 (aR K b "store") ["self", "make", "number", "place", "worth"] (spStore b K)) : Fc P w K mg base 5 (aR K b "written") ["self", "make", "place", "worth"] (spWritten b K) := by
  refine Fc.mk' (T.dR_written b) c_Rows_written (fun vs H Q E h => ?_) (fun _ _ _ _ _ _ us hl => match us, hl with | [_, _, _, _], _ => rfl) (fun cdv A0 outer s H vs Q E hr h => ?_)
  · obtain ⟨p, m, x, v, W, M, rfl, _⟩ := h; rfl
  obtain ⟨_, m, x, v, W, M, rfl, ⟨⟨A, rfl, C, Y⟩, ok⟩, hm, hx, hv, hn, q⟩ := h
  have nd := c_Rows_written.nd
  refine ⟨_, pss_cons (ps_set (i := 4) nd rfl (.inl rfl) (qm (pe_fld (pv 0) rfl) T.clT T.mT_grow (ok_T_grow T) (hr.mono (by decide)) (pa_cons (pv 1) pa_nil)))
    (pss_cons (ps_expr (pe_bm PySem.F.plainAttrs_list PySem.F.slot_list_append PySem.F.type_list_append mt_append (pe_fld (pv 0) rfl) (pa_cons (pv 2) pa_nil)))
    (pss_cons (ps_expr (pe_bm PySem.F.plainAttrs_list PySem.F.slot_list_append PySem.F.type_list_append mt_append (pe_fld (pv 0) rfl) (pa_cons pe_bl pa_nil)))
    (pss_cons (ps_expr (qm (pv 0) (T.clR b) (T.mR_store b) F hr (pa_cons (pv 1) (pa_cons (pv 4) (pa_cons (pv 2) (pa_cons (pv 3) pa_nil))))))
    (pss_one (ps_ret (pv 4)))))), ?_⟩
  refine ⟨_, rfl, _, _, _, _, _, rfl, C.hp, T.clR b, T.nR_grown b, fsR_grown, _, _, _, rfl, C.tr.ht, fsT_no (by decide +kernel), _, rfl, A.T, W, M.n, m, M.own, rfl, C.tr, ok.wt, hm.1, hn, fun y H1 ny tr1 rest ny1 al => ?_⟩
  have po : A.p ≠ A.T.ao := role_ne C.rp C.tr.ro (by decide)
  have pd : A.p ≠ A.T.ad := role_ne C.rp C.tr.rd (by decide)
  have pl : A.p ≠ A.T.al := role_ne C.rp C.tr.rl (by decide)
  have hp1 : H1 A.p = some (.ins (CR K b) A.dx (fsR b M.size A.T.t A.aw A.ag A.c A.x1 A.x2 A.here)) := (rest _ (ne_of_none C.hp ny) po pd pl).trans C.hp
  have hw1 : H1 A.aw = some (.lst ((List.range M.n).map (wroV M.wrote))) := (rest _ (ne_of_none C.hw ny) (role_ne C.rw C.tr.ro (by decide)) (role_ne C.rw C.tr.rd (by decide)) (role_ne C.rw C.tr.rl (by decide))).trans C.hw
  have hg1 : H1 A.ag = some (.lst ((List.range M.n).map (gonV M.gone))) := (rest _ (ne_of_none C.hg ny) (role_ne C.rg C.tr.ro (by decide)) (role_ne C.rg C.tr.rd (by decide)) (role_ne C.rg C.tr.rl (by decide))).trans C.hg
  have keep1 : ∀ a o, H a = some o → (W a = 0 ∨ 5 ≤ W a ∨ isTup o) → H1 a = some o := fun a o e h => by
    have nt : ∀ {z : Addr} {l : List V}, H z = some (.lst l) → isTup o → a ≠ z := fun e2 t z => by
      rw [z, e2] at e; cases e; exact t
    refine (rest a (ne_of_none e ny) (fun z => ?_) (fun z => ?_) (fun z => ?_)).trans e
    · rcases h with h | h | h
      · rw [z, C.tr.ro] at h; cases h
      · rw [z, C.tr.ro] at h; omega
      · exact nt C.tr.ho h z
    · rcases h with h | h | h
      · rw [z, C.tr.rd] at h; cases h
      · rw [z, C.tr.rd] at h; omega
      · exact nt C.tr.hd h z
    · rcases h with h | h | h
      · rw [z, C.tr.rl] at h; cases h
      · rw [z, C.tr.rl] at h; omega
      · exact nt C.tr.hl h z
  have k1 : Keep W H H1 := ⟨fun a o e h => keep1 a o e (h.elim .inl fun t => .inr (.inr t)), fun a e => by
    by_cases z : a = y
    · rw [z]; exact ny
    · by_cases z1 : a = A.T.ao
      · exact absurd e (by rw [z1]; exact al.1)
      · by_cases z2 : a = A.T.ad
        · exact absurd e (by rw [z2]; exact al.2.1)
        · by_cases z3 : a = A.T.al
          · exact absurd e (by rw [z3]; exact al.2.2)
          · rw [← rest a z z1 z2 z3]; exact e⟩
  have wy : W y = 0 := C.has.new ny
  have gr : Grow W (rol W y 5) H := fun a ha => by
    by_cases z : a = y
    · rw [z]; exact .inr ny
    · rw [rol_ne z] at ha; exact .inl ha
  have ro : ∀ a, W a ≠ 0 → rol W y 5 a = W a := fun a h => rol_ne fun z => h (by rw [z]; exact wy)
  have tr := tr1 (rol W y 5) (fun a h => by
    by_cases z : a = y
    · exact absurd (by rw [z]; exact ny) h
    · exact rol_ne z) rol_same
  refine ⟨_, rfl, _, _, _, _, _, rfl, hp1, T.clR b, T.nR_wrote b, fsR_wrote, .inl ⟨rfl, _, SqL.of hw1⟩, _, rfl, _, _, _, rfl, rfl, hw1, (by rw [rng_len]; exact small1000 (by omega)), ?_⟩
  have ew : (List.range M.n).map (wroV M.wrote) ++ [V.int (x : Int)] = (List.range (M.n + 1)).map (wroV (M.put m x v).wrote) :=
    rng_snoc' (fun i hi => by
      unfold wroV
      show (if i = 0 then V.non else .int (((if i = M.n then x else M.wrote i : Nat)) : Int)) = _
      rw [if_neg (show ¬ i = M.n by omega)]) (by
      unfold wroV
      have := ok.n1
      show (if M.n = 0 then V.non else .int (((if M.n = M.n then x else M.wrote M.n : Nat)) : Int)) = _
      rw [if_neg (by omega), if_pos rfl])
  have eg : (List.range M.n).map (gonV M.gone) ++ [V.bl false] = (List.range (M.n + 1)).map (gonV (M.put m x v).gone) :=
    rng_snoc' (fun i hi => by
      unfold gonV
      show V.bl (if i = M.n then false else M.gone i) = _
      rw [if_neg (show ¬ i = M.n by omega)]) (by
      unfold gonV
      show V.bl (if M.n = M.n then false else M.gone M.n) = _
      rw [if_pos rfl])
  rw [ew]
  have wg : A.ag ≠ A.aw := role_ne C.rg C.rw (by decide)
  have pw : A.p ≠ A.aw := role_ne C.rp C.rw (by decide)
  have pg : A.p ≠ A.ag := role_ne C.rp C.rg (by decide)
  refine ⟨_, rfl, _, _, _, _, _, rfl, (upd_ne pw).trans hp1, T.clR b, T.nR_gone b, fsR_gone, .inl ⟨rfl, _, SqL.of ((upd_ne wg).trans hg1)⟩, _, _, _, rfl, rfl, (upd_ne wg).trans hg1, (by rw [rng_len]; exact small1000 (by omega)), ?_⟩
  rw [eg]
  have e3 : ∀ a, a ≠ A.aw → a ≠ A.ag → upd (upd H1 A.aw (.lst ((List.range (M.n + 1)).map (wroV (M.put m x v).wrote)))) A.ag (.lst ((List.range (M.n + 1)).map (gonV (M.put m x v).gone))) a = H1 a := fun a h1 h2 => by rw [upd_ne h2, upd_ne h1]
  have w3 : upd (upd H1 A.aw (.lst ((List.range (M.n + 1)).map (wroV (M.put m x v).wrote)))) A.ag (.lst ((List.range (M.n + 1)).map (gonV (M.put m x v).gone))) A.aw = some (.lst ((List.range (M.n + 1)).map (wroV (M.put m x v).wrote))) := by
    rw [upd_ne wg.symm, upd_same]
  have g3 : upd (upd H1 A.aw (.lst ((List.range (M.n + 1)).map (wroV (M.put m x v).wrote)))) A.ag (.lst ((List.range (M.n + 1)).map (gonV (M.put m x v).gone))) A.ag = some (.lst ((List.range (M.n + 1)).map (gonV (M.put m x v).gone))) := upd_same
  have k3 : Keep W H (upd (upd H1 A.aw (.lst ((List.range (M.n + 1)).map (wroV (M.put m x v).wrote)))) A.ag (.lst ((List.range (M.n + 1)).map (gonV (M.put m x v).gone)))) :=
    (k1.set (.inl (by rw [C.rw]; decide)) hw1 id).set (.inl (by rw [C.rg]; decide)) ((upd_ne wg).trans hg1) id
  generalize (upd (upd H1 A.aw (.lst ((List.range (M.n + 1)).map (wroV (M.put m x v).wrote)))) A.ag (.lst ((List.range (M.n + 1)).map (gonV (M.put m x v).gone)))) = H3 at e3 w3 g3 k3 ⊢
  have nw : ∀ a i, rol W y 5 a = i → i ≠ 7 → a ≠ A.aw := fun a i r h z => h (by rw [← r, z, ro _ (by rw [C.rw]; decide), C.rw])
  have ng : ∀ a i, rol W y 5 a = i → i ≠ 8 → a ≠ A.ag := fun a i r h z => h (by rw [← r, z, ro _ (by rw [C.rg]; decide), C.rg])
  have C3 : Com b { A with T := A.T.grow M.n y } K H3 (rol W y 5) (M.put m x v) := by
    refine ⟨(e3 _ pw pg).trans hp1, tr.at' fun a o i e r h1 h5 => ⟨(e3 _ (nw a i r (by omega)) (ng a i r (by omega))).trans e, r⟩, w3, g3, (ro _ (by rw [C.rp]; decide)).trans C.rp, (ro _ (by rw [C.rw]; decide)).trans C.rw, (ro _ (by rw [C.rg]; decide)).trans C.rg, fun a ha e => ?_⟩
    by_cases z1 : a = A.aw
    · rw [z1, w3] at e; cases e
    by_cases z2 : a = A.ag
    · rw [z2, g3] at e; cases e
    rw [e3 a z1 z2] at e
    by_cases z : a = y
    · rw [z] at e; exact ny1 e
    · rw [rol_ne z] at ha
      exact C.has a ha (k1.th a e)
  have Y3 : Way b { A with T := A.T.grow M.n y } H3 (rol W y 5) M := Y.move rfl rfl rfl (fun a o e h => by
    rcases h with h | h
    · refine (e3 a (fun z => ?_) (fun z => ?_)).trans (keep1 a o e (.inr (.inl (by omega))))
      · rw [z, C.rw] at h; omega
      · rw [z, C.rg] at h; omega
    · exact k3.k _ _ e (.inr h)) (fun a h => ro a (by omega))
  refine ⟨_, rfl, _, _, _, rfl, C3.hp, fsR_no (by decide +kernel), _, rfl, _, rfl, _, rfl, _, rfl, { A with T := A.T.grow M.n y }, rol W y 5, M, m, x, v, rfl, C3, Y3, ok, hm, hx, hv, hn, fun H4 R4 k4 => ?_⟩
  exact ⟨_, rfl, q _ H4 R4 gr (k3.trans' gr k4)⟩
def spPut (b : Bool) (K : PySem.W.Frag) : Sp := fun vs H Q _ => ∃ (p : Addr) (m x : Nat) (v : Int) (W : Ow) (M : Mo), vs = [.ref p, .int (m : Int), .int (x : Int), .int v] ∧ RowAt b K H p W M ∧ M.kept m ∧ x < M.size ∧ okW v ∧ M.n < 64 ∧
  ∀ W' H', RowAt b K H' p W' (M.put m x v) → Grow W W' H → Keep W H H' → Q (.int (M.n : Int)) H'
theorem ok_R_put (T : Tx K mg) (b : Bool) (F : Fc P w K mg base 4 (aR K b "store") ["self", "make", "number", "place", "worth"] (spStore b K)) : Fc P w K mg base 6 (aR K b "put") ["self", "make", "place", "worth"] (spPut b K) := by
  refine Fc.mk' (T.dR_put b) c_Rows_put (fun vs H Q E h => ?_) (fun _ _ _ _ _ _ us hl => match us, hl with | [_, _, _, _], _ => rfl) (fun cdv A0 outer s H vs Q E hr h => ?_)
  · obtain ⟨p, m, x, v, W, M, rfl, _⟩ := h; rfl
  obtain ⟨p, m, x, v, W, M, rfl, R, hm, hx, hv, hn, q⟩ := h
  refine ⟨_, pss_cons (ps_expr (qm (pv 0) (T.clR b) (T.mR_need_make b) (ok_R_need_make T b) (hr.mono (by decide)) (pa_cons (pv 1) pa_nil)))
    (pss_cons (ps_expr (qm (pv 0) (T.clR b) (T.mR_need_place b) (ok_R_need_place T b) (hr.mono (by decide)) (pa_cons (pv 2) pa_nil)))
    (pss_cons (ps_if (pt_not (pt_val (qc (ok_is_worth T) (hr.mono (by decide)) rfl T.g_is_worth (pa_cons (pv 3) pa_nil)))) (pss_one ps_never) pss_nil)
    (pss_cons (ps_expr (qm (pv 0) (T.clR b) (T.mR_need_new b) (ok_R_need_new T b) (hr.mono (by decide)) (pa_cons (pv 1) pa_nil)))
    (pss_cons (ps_expr (qm (pv 0) (T.clR b) (T.mR_need_room b) (ok_R_need_room T b) (hr.mono (by decide)) (pa_cons pe_int pa_nil)))
    (pss_one (ps_ret (qm (pv 0) (T.clR b) (T.mR_written b) (ok_R_written T b F) hr (pa_cons (pv 1) (pa_cons (pv 2) (pa_cons (pv 3) pa_nil)))))))))), ?_⟩
  have rq := R.rq
  obtain ⟨A, W0, ep, C⟩ := id rq
  have hp := C.hp
  rw [ep] at hp
  refine ⟨_, rfl, _, _, _, rfl, hp, fsR_no (by decide +kernel), _, rfl, p, m, M, rfl, rq, hm, ?_⟩
  refine ⟨_, rfl, _, _, _, rfl, hp, fsR_no (by decide +kernel), _, rfl, p, x, M, rfl, rq, hx, ?_⟩
  refine ⟨_, rfl, v, rfl, hv, _, rfl, iteF ?_⟩
  refine ⟨_, rfl, _, _, _, rfl, hp, fsR_no (by decide +kernel), _, rfl, p, m, M, rfl, rq, hm, ?_⟩
  refine ⟨_, rfl, _, _, _, rfl, hp, fsR_no (by decide +kernel), p, 1, M, rfl, rq, (by omega), ?_⟩
  exact ⟨_, rfl, _, _, _, rfl, hp, fsR_no (by decide +kernel), _, rfl, _, rfl, _, rfl, p, m, x, v, W, M, rfl, R, hm, hx, hv, hn, q⟩
def spPutAll (b : Bool) (K : PySem.W.Frag) : Sp := fun vs H Q _ => ∃ (p a : Addr) (m : Nat) (ts : List Addr) (cs : List (Nat × Int)) (W : Ow) (M : Mo), vs = [.ref p, .int (m : Int), .ref a] ∧ RowAt b K H p W M ∧ M.kept m ∧
  H a = some (.lst (ts.map V.ref)) ∧ W a = 0 ∧ ts.length ≤ 20 ∧ Paired (fun t c => ChAt H M.size t c.1 c.2) ts cs ∧ M.n + cs.length ≤ 64 ∧
  ∀ W' l H', H l = none → H' l = some (.lst (nl ((List.range cs.length).map fun i => M.n + i))) → RowAt b K H' p W' (putA M m cs) → Grow W W' H → Keep W H H' → Q (.ref l) H'
theorem ok_R_put_all (T : Tx K mg) (b : Bool) (F : Fc P w K mg base 4 (aR K b "store") ["self", "make", "number", "place", "worth"] (spStore b K)) : Fc P w K mg base 6 (aR K b "put_all") ["self", "make", "changes"] (spPutAll b K) := by
  refine Fc.mk' (T.dR_put_all b) c_Rows_put_all (fun vs H Q E h => ?_) (fun _ _ _ _ _ _ us hl => match us, hl with | [_, _, _], _ => rfl) (fun cdv A0 outer s H vs Q E hr h => ?_)
  · obtain ⟨p, a, m, ts, cs, W, M, rfl, _⟩ := h; rfl
  obtain ⟨p, a, m, ts, cs, W, M, rfl, R, hm, ha, Wa, l20, pc, hn, q⟩ := h
  have nd := c_Rows_put_all.nd
  have ltc : ts.length = cs.length := Paired.length pc
  refine ⟨_, pss_cons (ps_expr (qm (pv 0) (T.clR b) (T.mR_need_make b) (ok_R_need_make T b) (hr.mono (by decide)) (pa_cons (pv 1) pa_nil)))
    (pss_cons (ps_if (pt_not (pt_val (qc (ok_is_changes T) (hr.mono (by decide)) rfl T.g_is_changes (pa_cons (pv 2) (pa_cons (pe_fld (pv 0) rfl) pa_nil))))) (pss_one ps_never) pss_nil)
    (pss_cons (ps_if (pt_cmpR op_eq (qlen T.f_len (pv 2)) pe_int (nomark _)) (pss_one (ps_ret (pe_lst pa_nil))) pss_nil)
    (pss_cons (ps_expr (qm (pv 0) (T.clR b) (T.mR_need_new b) (ok_R_need_new T b) (hr.mono (by decide)) (pa_cons (pv 1) pa_nil)))
    (pss_cons (ps_expr (qm (pv 0) (T.clR b) (T.mR_need_room b) (ok_R_need_room T b) (hr.mono (by decide)) (pa_cons (qlen T.f_len (pv 2)) pa_nil)))
    (pss_cons (ps_set (i := 3) nd rfl (.inl rfl) (pe_lst (pa_cons (pv 1) pa_nil)))
    (pss_cons (ps_for PassesOwn.never rfl (pi_list (pv 2)) (pg_tup rfl (pgs_cons (pg_name (i := 4) nd rfl (.inl rfl)) (pgs_cons (pg_name (i := 5) nd rfl (.inl rfl)) pgs_nil)))
      (pss_one (ps_expr (pe_bm PySem.F.plainAttrs_list PySem.F.slot_list_append PySem.F.type_list_append mt_append (pv 3)
        (pa_cons (qm (pv 0) (T.clR b) (T.mR_written b) (ok_R_written T b F) hr (pa_cons (qix (pv 3) qneg) (pa_cons (pv 4) (pa_cons (pv 5) pa_nil)))) pa_nil)))))
    (pss_one (ps_ret (pe_slice sl_list (pv 3) (po_some pe_int) po_none))))))))), ?_⟩
  have rq := R.rq
  obtain ⟨A, W0, ep, C⟩ := id rq
  have hp := C.hp
  rw [ep] at hp
  refine ⟨_, rfl, _, _, _, rfl, hp, fsR_no (by decide +kernel), _, rfl, p, m, M, rfl, rq, hm, ?_⟩
  refine ⟨_, rfl, _, rfl, _, _, _, _, _, rfl, hp, T.clR b, T.nR_wide b, fsR_wide, a, M.size, ts, cs, rfl, ha, l20, pc, fun H1 s1 => ⟨_, rfl, iteF ?_⟩⟩
  have R1 := R.same s1
  have rq1 := rq.same s1
  have hp1 := s1 _ _ hp
  have ha1 := s1 _ _ ha
  refine ⟨_, rfl, _, _, rfl, .inl (SqL.of ha1), rfl, _, rfl, ?_⟩
  by_cases c0 : cs.length = 0
  · refine iteY (by rw [List.length_map, ltc, c0]; rfl) ?_
    refine ⟨(by show 0 ≤ sizeLine; decide), fun l nl1 => ?_⟩
    have ec : cs = [] := List.length_eq_zero_iff.mp c0
    subst ec
    exact q W l _ (s1.free nl1) upd_same (R1.same (Same.new (Same.refl _) nl1)) Grow.refl ((Keep.same s1).new nl1)
  refine iteN (fun z => by
    have z' := V.int.inj z
    rw [List.length_map] at z'
    omega) ?_
  refine ⟨_, rfl, _, _, _, rfl, hp1, fsR_no (by decide +kernel), _, rfl, p, m, M, rfl, rq1, hm, ?_⟩
  refine ⟨_, rfl, _, _, _, rfl, hp1, fsR_no (by decide +kernel), _, rfl, _, _, rfl, .inl (SqL.of ha1), p, _, M, rfl, rq1, (by rw [List.length_map]; omega), ?_⟩
  refine ⟨_, rfl, (by show 1 ≤ sizeLine; decide), fun fd nfd => ?_⟩
  have fd2 : upd H1 fd (.lst [V.int (m : Int)]) fd = some (.lst [V.int (m : Int)]) := upd_same
  have s2 : Same H1 (upd H1 fd (.lst [V.int (m : Int)])) := Same.new (Same.refl _) nfd
  generalize (upd H1 fd (.lst [V.int (m : Int)])) = H2 at fd2 s2 ⊢
  have s02 : Same H H2 := fun a o e => s2 _ _ (s1 _ _ e)
  have nfd0 : H fd = none := s1.free nfd
  have Wfd : W fd = 0 := R.has.new nfd0
  have ha2 := s02 _ _ ha
  have fda : a ≠ fd := ne_of_none ha nfd0
  refine ⟨_, rfl, a, rfl, ⟨_, SqL.of ha2⟩, ?_⟩
  refine for_list (K := K) (a := a) (xs := ts.map V.ref) (fun i σ H3 => ∃ (W' : Ow) (v4 v5 : Option V), σ = [some (.ref p), some (.int (m : Int)), some (.ref a), some (.ref fd), v4, v5] ∧ i ≤ cs.length ∧
      RowAt b K H3 p W' (putA M m (cs.take i)) ∧ (putA M m (cs.take i)).kept (lastM M m i) ∧ H3 fd = some (.lst (nl (m :: (List.range i).map fun j => M.n + j))) ∧ W' fd = 0 ∧ W' a = 0 ∧ Grow W W' H ∧ Keep W H H3)
    ⟨W, none, none, rfl, Nat.zero_le _, R.same s02, hm, fd2, Wfd, Wa, Grow.refl, Keep.same s02⟩ ?_ ?_ ?_
  · rintro i σ H3 _ ⟨W', v4, v5, rfl, hi, R3, km, h1, h2, h3, h4, h5⟩
    exact SqL.of (h5.k _ _ ha (.inl Wa))
  · rintro i y σ H3 hy ⟨W', v4, v5, rfl, hi, R3, km, h1, h2, h3, h4, h5⟩
    obtain ⟨t, ht, rfl⟩ := ref_at hy
    obtain ⟨c, hc, c1, c2, c3⟩ := ch_at pc ht
    have hi' := (List.getElem?_eq_some_iff.mp hc).1
    have c1' := h5.k _ _ c1 (.inr trivial)
    refine ⟨t, _, rfl, SqT.of c1', rfl, _, _, rfl, _, _, rfl, rfl, ?_⟩
    obtain ⟨A3, ep3, C3, _⟩ := R3.ex
    have hp3 := C3.hp
    rw [ep3] at hp3
    have el : (nl (m :: (List.range i).map fun j => M.n + j))[(nl (m :: (List.range i).map fun j => M.n + j)).length - 1]? = some (.int ((lastM M m i : Nat) : Int)) := by
      rw [nl_len, List.length_cons, rng_len, Nat.add_sub_cancel]
      unfold nl lastM
      rw [List.getElem?_map]
      cases i with
      | zero => rfl
      | succ j =>
        rw [List.getElem?_cons_succ, rng_at _ _ (Nat.lt_succ_self j), if_neg (by omega)]
        rfl
    refine ⟨_, rfl, .inl ⟨rfl, _, SqL.of h1⟩, _, rfl, _, _, _, rfl, hp3, fsR_no (by decide +kernel), _, rfl, _, rfl, _, _, _, _, rfl, rfl, SqL.of h1, atI_last' el, _, rfl, _, rfl, p, lastM M m i, c.1, c.2, W', putA M m (cs.take i), rfl, R3, km, ?_, c3, ?_, fun W4 H4 R4 g4 k4 => ?_⟩
    · rw [putA_size]; exact c2
    · rw [putA_n, List.length_take]; omega
    have h4' : H4 fd = _ := k4.k _ _ h1 (.inl h2)
    have W4fd : W4 fd = 0 := by
      by_cases z : W4 fd = 0
      · exact z
      · rcases g4 fd z with z1 | z1
        · exact absurd h2 z1
        · rw [h1] at z1; cases z1
    have ha3 := h5.k _ _ ha (.inl Wa)
    have W4a : W4 a = 0 := by
      by_cases z : W4 a = 0
      · exact z
      · rcases g4 a z with z1 | z1
        · exact absurd h3 z1
        · rw [ha3] at z1; cases z1
    have e1 : putA M m (cs.take (i + 1)) = (putA M m (cs.take i)).put (lastM M m i) c.1 c.2 := by
      rw [take_at hc, putA_snoc, List.length_take, Nat.min_eq_left (by omega)]
    have en : (putA M m (cs.take i)).n = M.n + i := by rw [putA_n, List.length_take, Nat.min_eq_left (by omega)]
    have R4' := R4.off (o := .lst (nl (m :: (List.range i).map fun j => M.n + j) ++ [V.int (((putA M m (cs.take i)).n : Nat) : Int)])) W4fd h4' id
    refine ⟨_, _, _, rfl, rfl, h4', (by rw [nl_len, List.length_cons, rng_len]; exact small1000 (by omega)), W4, _, _, rfl, hi', ?_, ?_, ?_, W4fd, W4a, Grow.trans h5.th h4 g4, ?_⟩
    · rw [e1]; exact R4'
    · rw [e1]
      have : lastM M m (i + 1) = (putA M m (cs.take i)).n := by
        rw [en]; unfold lastM; rw [if_neg (by omega)]; omega
      rw [this]
      exact Mo.put_keptN
    · rw [upd_same, en, List.range_succ, List.map_append, ← List.cons_append, nl_append]; rfl
    · exact (h5.trans' h4 k4).set (.inr nfd0) h4' id
  · rintro σ H3 ⟨W', v4, v5, rfl, hi, R3, km, h1, h2, h3, h4, h5⟩
    rw [List.length_map, ltc] at h1 R3
    rw [List.take_length] at R3
    refine ⟨_, rfl, _, rfl, _, _, rfl, SqL.of h1, fun l nl3 => ?_⟩
    have e1 : cutV (nl (m :: (List.range cs.length).map fun j => M.n + j)) (some 1) none = nl ((List.range cs.length).map fun j => M.n + j) :=
      cut_from _ 1 (by rw [nl_len, List.length_cons]; omega)
    rw [e1]
    have nl0 : H l = none := h5.th _ nl3
    refine q W' l _ nl0 upd_same (R3.same (Same.new (Same.refl _) nl3)) h4 ?_
    exact h5.new nl3
end
end MK

set_option Elab.async false
set_option linter.all false
set_option maxRecDepth 100000
set_option maxHeartbeats 4000000
/-! rows of either way: at, row, stretch, let_go -/
namespace MK
open PySem PySem.Spec PyProof.Rows L2
theorem ixN_n {n j : Nat} (hj : j < n) : ixN n (j : Int) = some j := by
  unfold ixN
  rw [if_pos (by omega), if_pos (by omega)]
  simp
section
variable {P : Program} {w : World} {K : PySem.W.Frag} {mg : Str → Option Value} {base : Heap}
theorem RowAt.hp {b : Bool} {H : Hp} {p : Addr} {W : Ow} {M : Mo} (R : RowAt b K H p W M) : ∃ dx t aw ag c x1 x2 here, H p = some (.ins (CR K b) dx (fsR b M.size t aw ag c x1 x2 here)) :=
  let ⟨A, e, C, _⟩ := R.ex
  ⟨A.dx, A.T.t, A.aw, A.ag, A.c, A.x1, A.x2, A.here, e ▸ C.hp⟩
def spAt (b : Bool) (K : PySem.W.Frag) : Sp := fun vs H Q _ => ∃ (p : Addr) (m x : Nat) (W : Ow) (M : Mo), vs = [.ref p, .int (m : Int), .int (x : Int)] ∧ RowAt b K H p W M ∧ M.kept m ∧ x < M.size ∧
  ∀ H', RowAt b K H' p W M → Keep W H H' → Q (.int (M.val m x)) H'
theorem ok_R_at (T : Tx K mg) (b : Bool) (F : Fc P w K mg base 7 (aR K b "worths_in") ["self", "make", "low", "high"] (spWorthsIn b K)) : Fc P w K mg base 8 (aR K b "at") ["self", "make", "place"] (spAt b K) := by
  refine Fc.mk' (T.dR_at b) c_Rows_at (fun vs H Q E h => ?_) (fun _ _ _ _ _ _ us hl => match us, hl with | [_, _, _], _ => rfl) (fun cdv A0 outer s H vs Q E hr h => ?_)
  · obtain ⟨p, m, x, W, M, rfl, _⟩ := h; rfl
  obtain ⟨p, m, x, W, M, rfl, R, hm, hx, q⟩ := h
  refine ⟨_, pss_cons (ps_expr (qm (pv 0) (T.clR b) (T.mR_need_make b) (ok_R_need_make T b) (hr.mono (by decide)) (pa_cons (pv 1) pa_nil)))
    (pss_cons (ps_expr (qm (pv 0) (T.clR b) (T.mR_need_place b) (ok_R_need_place T b) (hr.mono (by decide)) (pa_cons (pv 2) pa_nil)))
    (pss_one (ps_ret (qix (qm (pv 0) (T.clR b) (T.mR_worths_in b) F hr (pa_cons (pv 1) (pa_cons (pv 2) (pa_cons (pe_op op_add (pv 2) pe_int) pa_nil)))) pe_int)))), ?_⟩
  obtain ⟨dx, t, aw, ag, c, x1, x2, here, hp⟩ := R.hp
  refine ⟨_, rfl, _, _, _, rfl, hp, fsR_no (by decide +kernel), _, rfl, p, m, M, rfl, R.rq, hm, ?_⟩
  refine ⟨_, rfl, _, _, _, rfl, hp, fsR_no (by decide +kernel), _, rfl, p, x, M, rfl, R.rq, hx, ?_⟩
  refine ⟨_, rfl, _, _, _, rfl, hp, fsR_no (by decide +kernel), _, rfl, _, rfl, _, rfl, _, _, rfl, rfl, p, m, x, x + 1, W, M, rfl, R, hm, by omega, by omega, fun l H' nl1 hl R' k' => ?_⟩
  refine ⟨_, _, _, _, rfl, rfl, SqL.of hl, atI_nat (j := 0) (v := .int (M.val m x)) ?_, q H' R' k'⟩
  unfold stretchV
  rw [rng_at _ _ (by omega), Nat.add_zero]
def spStretch (b : Bool) (K : PySem.W.Frag) : Sp := fun vs H Q _ => ∃ (p : Addr) (m lo hi : Nat) (W : Ow) (M : Mo), vs = [.ref p, .int (m : Int), .int (lo : Int), .int (hi : Int)] ∧ RowAt b K H p W M ∧ M.kept m ∧ lo < hi ∧ hi ≤ M.size ∧
  ∀ (l : Addr) (H' : Hp), H l = none → H' l = some (.lst (stretchV M m lo hi)) → RowAt b K H' p W M → Keep W H H' → Q (.ref l) H'
theorem ok_R_stretch (T : Tx K mg) (b : Bool) (F : Fc P w K mg base 7 (aR K b "worths_in") ["self", "make", "low", "high"] (spWorthsIn b K)) : Fc P w K mg base 8 (aR K b "stretch") ["self", "make", "low", "high"] (spStretch b K) := by
  refine Fc.mk' (T.dR_stretch b) c_Rows_stretch (fun vs H Q E h => ?_) (fun _ _ _ _ _ _ us hl => match us, hl with | [_, _, _, _], _ => rfl) (fun cdv A0 outer s H vs Q E hr h => ?_)
  · obtain ⟨p, m, lo, hi, W, M, rfl, _⟩ := h; rfl
  obtain ⟨p, m, lo, hi, W, M, rfl, R, hm, h1, h2, q⟩ := h
  refine ⟨_, pss_cons (ps_expr (qm (pv 0) (T.clR b) (T.mR_need_make b) (ok_R_need_make T b) (hr.mono (by decide)) (pa_cons (pv 1) pa_nil)))
    (pss_cons (ps_expr (qm (pv 0) (T.clR b) (T.mR_need_stretch b) (ok_R_need_stretch T b) (hr.mono (by decide)) (pa_cons (pv 2) (pa_cons (pv 3) pa_nil))))
    (pss_one (ps_ret (qm (pv 0) (T.clR b) (T.mR_worths_in b) F hr (pa_cons (pv 1) (pa_cons (pv 2) (pa_cons (pv 3) pa_nil))))))), ?_⟩
  obtain ⟨dx, t, aw, ag, c, x1, x2, here, hp⟩ := R.hp
  refine ⟨_, rfl, _, _, _, rfl, hp, fsR_no (by decide +kernel), _, rfl, p, m, M, rfl, R.rq, hm, ?_⟩
  refine ⟨_, rfl, _, _, _, rfl, hp, fsR_no (by decide +kernel), _, rfl, _, rfl, p, lo, hi, M, rfl, R.rq, h1, h2, ?_⟩
  exact ⟨_, rfl, _, _, _, rfl, hp, fsR_no (by decide +kernel), _, rfl, _, rfl, _, rfl, p, m, lo, hi, W, M, rfl, R, hm, by omega, by omega, q⟩
def spRow (b : Bool) (K : PySem.W.Frag) : Sp := fun vs H Q _ => ∃ (p : Addr) (m : Nat) (W : Ow) (M : Mo), vs = [.ref p, .int (m : Int)] ∧ RowAt b K H p W M ∧ M.kept m ∧
  ∀ (l : Addr) (H' : Hp), H l = none → H' l = some (.lst (stretchV M m 0 M.size)) → RowAt b K H' p W M → Keep W H H' → Q (.ref l) H'
theorem ok_R_row (T : Tx K mg) (b : Bool) (F : Fc P w K mg base 7 (aR K b "worths_in") ["self", "make", "low", "high"] (spWorthsIn b K)) : Fc P w K mg base 8 (aR K b "row") ["self", "make"] (spRow b K) := by
  refine Fc.mk' (T.dR_row b) c_Rows_row (fun vs H Q E h => ?_) (fun _ _ _ _ _ _ us hl => match us, hl with | [_, _], _ => rfl) (fun cdv A0 outer s H vs Q E hr h => ?_)
  · obtain ⟨p, m, W, M, rfl, _⟩ := h; rfl
  obtain ⟨p, m, W, M, rfl, R, hm, q⟩ := h
  refine ⟨_, pss_cons (ps_expr (qm (pv 0) (T.clR b) (T.mR_need_make b) (ok_R_need_make T b) (hr.mono (by decide)) (pa_cons (pv 1) pa_nil)))
    (pss_one (ps_ret (qm (pv 0) (T.clR b) (T.mR_worths_in b) F hr (pa_cons (pv 1) (pa_cons pe_int (pa_cons (pe_fld (pv 0) rfl) pa_nil)))))), ?_⟩
  obtain ⟨dx, t, aw, ag, c, x1, x2, here, hp⟩ := R.hp
  refine ⟨_, rfl, _, _, _, rfl, hp, fsR_no (by decide +kernel), _, rfl, p, m, M, rfl, R.rq, hm, ?_⟩
  exact ⟨_, rfl, _, _, _, rfl, hp, fsR_no (by decide +kernel), _, rfl, _, rfl, _, _, _, _, _, rfl, hp, T.clR b, T.nR_wide b, fsR_wide, p, m, 0, M.size, W, M, rfl, R, hm, by omega, by omega, q⟩
def spLetGo (b : Bool) (K : PySem.W.Frag) : Sp := fun vs H Q _ => ∃ (p : Addr) (m : Nat) (W : Ow) (M : Mo), vs = [.ref p, .int (m : Int)] ∧ RowAt b K H p W M ∧ M.kept m ∧ 2 ≤ (keptL M).length ∧
  ∀ v H', RowAt b K H' p W (M.let_ m) → Keep W H H' → Q v H'
theorem kept_two {M : Mo} (h : 2 ≤ (keptL M).length) (m : Nat) : ∃ k, M.kept k ∧ k ≠ m := by
  have nd : (keptL M).Nodup := List.Nodup.sublist (List.filter_sublist) List.nodup_range
  match e : keptL M, h with
  | a :: c :: l, _ =>
    rw [e] at nd
    have ne : a ≠ c := fun z => by
      have := (List.nodup_cons.mp nd).1
      exact this (by rw [z]; exact List.mem_cons_self)
    by_cases z : a = m
    · exact ⟨c, mem_keptL.mp (by rw [e]; exact List.mem_cons_of_mem _ List.mem_cons_self), fun y => ne (z.trans y.symm)⟩
    · exact ⟨a, mem_keptL.mp (by rw [e]; exact List.mem_cons_self), z⟩
theorem ok_R_let_go (T : Tx K mg) (b : Bool) (F : Fc P w K mg base 8 (aR K b "freed") ["self", "make"] (spFreed b K)) : Fc P w K mg base 9 (aR K b "let_go") ["self", "make"] (spLetGo b K) := by
  refine Fc.mk' (T.dR_let_go b) c_Rows_let_go (fun vs H Q E h => ?_) (fun _ _ _ _ _ _ us hl => match us, hl with | [_, _], _ => rfl) (fun cdv A0 outer s H vs Q E hr h => ?_)
  · obtain ⟨p, m, W, M, rfl, _⟩ := h; rfl
  obtain ⟨_, m, W, M, rfl, R, hm, h2, q⟩ := h
  have rq := R.rq
  obtain ⟨⟨A, rfl, C, Y⟩, ok⟩ := R
  refine ⟨_, pss_cons (ps_expr (qm (pv 0) (T.clR b) (T.mR_need_make b) (ok_R_need_make T b) (hr.mono (by decide)) (pa_cons (pv 1) pa_nil)))
    (pss_cons (ps_if (pt_cmpR op_eq (qlen T.f_len (qm0 (pv 0) (T.clR b) (T.mR_makes b) (ok_R_makes T b) (hr.mono (by decide)))) pe_int (nomark _)) (pss_one ps_never) pss_nil)
    (pss_cons (ps_asg pe_bl (pg_sub (pe_fld (pv 0) rfl) (pv 1) set_list))
    (pss_one (ps_ret (qm (pv 0) (T.clR b) (T.mR_freed b) F hr (pa_cons (pv 1) pa_nil)))))), ?_⟩
  refine ⟨_, rfl, _, _, _, rfl, C.hp, fsR_no (by decide +kernel), _, rfl, _, m, M, rfl, rq, hm, ?_⟩
  refine ⟨_, rfl, _, _, _, rfl, C.hp, fsR_no (by decide +kernel), _, M, rfl, rq, ok.n64, fun l H1 nl1 hl s1 => ?_⟩
  refine ⟨_, _, rfl, .inl (SqL.of hl), rfl, _, rfl, iteN (fun z => ?_) ?_⟩
  · have z' := V.int.inj z
    rw [nl_len] at z'
    omega
  have C1 := C.same s1
  have Y1 := Y.same s1
  refine ⟨_, rfl, _, _, _, _, _, rfl, C1.hp, T.clR b, T.nR_gone b, fsR_gone, _, rfl, A.ag, _, _, m, rfl, rfl, C1.hg, ?_, ?_⟩
  · rw [rng_len]; exact ixN_n hm.1
  rw [rng_set]
  have ne : ∀ a i, W a = i → i ≠ 8 → a ≠ A.ag := fun a i r h => role_ne r C.rg h
  have C2 : Com b A K (upd H1 A.ag (.lst ((List.range M.n).map fun j => if j = m then V.bl true else gonV M.gone j))) W (M.let_ m) := by
    refine ⟨(upd_ne (ne _ _ C.rp (by decide))).trans C1.hp, C1.tr.at' fun a o i e r h1 h5 => ⟨(upd_ne (ne a i r (by omega))).trans e, r⟩, (upd_ne (ne _ _ C.rw (by decide))).trans C1.hw, ?_, C.rp, C.rw, C.rg, fun a ha e => ?_⟩
    · rw [upd_same]
      refine congrArg (fun l => some (HO.lst l)) (rng_ext fun j hj => ?_)
      unfold gonV
      show _ = V.bl (if j = m then true else M.gone j)
      split <;> rfl
    · by_cases z : a = A.ag
      · rw [z, upd_same] at e; cases e
      · rw [upd_ne z] at e; exact C1.has a ha e
  have Y2 : Way b A (upd H1 A.ag (.lst ((List.range M.n).map fun j => if j = m then V.bl true else gonV M.gone j))) W (M.let_ m) :=
    (Y1.move (A' := A) (W' := W) rfl rfl rfl (fun a o e h => (upd_ne (fun z => by
      rcases h with h | h
      · rw [z, C.rg] at h; omega
      · rw [z, C1.hg] at e; cases e; exact h)).trans e) (fun a h => rfl)).let m
  refine ⟨_, rfl, _, _, _, rfl, C2.hp, fsR_no (by decide +kernel), _, rfl, _, m, W, M.let_ m, rfl, RowAt.of C2 Y2 (Mo.let_ok ok (kept_two h2 m)), fun v H' R' k' => q v H' R' ?_⟩
  exact ((Keep.same s1).set (.inl (by rw [C.rg]; decide)) C1.hg id).trans k'
end
end MK

set_option Elab.async false
set_option linter.all false
set_option maxRecDepth 100000
set_option maxHeartbeats 4000000
/-! the turned way: noted_way, turn, turn_to -/
namespace MK
open PySem PySem.Spec PyProof.Rows L2
section
variable {P : Program} {w : World} {K : PySem.W.Frag} {mg : Str → Option Value} {base : Heap}
/-- the makes toward the one at hand -/
def towL (M : Mo) (h m L : Nat) : List Nat := (List.range (L + 1)).map fun i => twI M.own h i m
theorem twI_N {M : Mo} (ok : M.Ok) {N : Nat → Prop} {h m : Nat} (hd : M.Hand N h) (hm : N m) : ∀ i, (∀ j, j < i → twI M.own h j m ≠ h) → N (twI M.own h i m)
  | 0, _ => hm
  | i + 1, q => let ⟨t, S⟩ := hd.sub
    S.tw ok.wt hd.here (twI_N ok hd hm i fun j hj => q j (by omega)) (q i (by omega))
def spNWay (K : PySem.W.Frag) : Sp := fun vs H Q _ => ∃ (A : RAd) (W : Ow) (M2 M : Mo) (N : Nat → Prop) (kvs : List (Key × V)) (m : Nat), vs = [.ref A.p, .int (m : Int)] ∧ Com true A K H W M2 ∧ TuW A H W M N kvs ∧ M.Ok ∧ N m ∧
  ∀ (L : Nat) (l : Addr) (H' : Hp), twI M.own A.here L m = A.here → (∀ i, i < L → twI M.own A.here i m ≠ A.here) → L ≤ 200 → H l = none → H' l = some (.lst (nl (towL M A.here m L))) → Same H H' → Q (.ref l) H'
theorem ok_U_noted_way (T : Tx K mg) : Fc P w K mg base 1 (aR K true "noted_way") ["self", "make"] (spNWay K) := by
  refine Fc.mk' T.dU_noted_way c_Turned_noted_way (fun vs H Q E h => ?_) (fun _ _ _ _ _ _ us hl => match us, hl with | [_, _], _ => rfl) (fun cdv A0 outer s H vs Q E hr h => ?_)
  · obtain ⟨A, W, M2, M, N, kvs, m, rfl, _⟩ := h; rfl
  obtain ⟨A, W, M2, M, N, kvs, m, rfl, C, Y, ok, hm, q⟩ := h
  have nd := c_Turned_noted_way.nd
  have hu : (A0.deeper (envOfC "Turned.noted_way" (defScope s_Turned_noted_way) s.heap.objs.size (aR K true "noted_way") cdv)).units + 1 < cLine := by have z := hr.units; omega
  refine ⟨_, pss_cons (ps_set (i := 2) nd rfl (.inl rfl) (pe_lst (pa_cons (pv 1) pa_nil)))
    (pss_cons (ps_while PassesOwn.never (pt_cmpR op_ne (qix (pv 2) qneg) (pe_fld (pv 0) rfl) (nomark _))
      (pss_one (ps_expr (pe_bm PySem.F.plainAttrs_list PySem.F.slot_list_append PySem.F.type_list_append mt_append (pv 2)
        (pa_cons (pe_ix ix_tup (pe_dget hu (pe_fld (pv 0) rfl) (qix (pv 2) qneg) (fun _ _ => rfl)) pe_int (fun _ _ => rfl)) pa_nil)))))
    (pss_one (ps_ret (pv 2)))), ?_⟩
  refine ⟨_, rfl, (by show 1 ≤ sizeLine; decide), fun fd nfd => ?_⟩
  have lh := Y.hand.lt _ Y.hand.here
  have lm := Y.hand.lt m hm
  have n64 := ok.n64
  have rkm := rk_le (own := M.own) A.here m
  refine ⟨fun k σ H2 => ∃ i : Nat, k = rk M.own A.here (twI M.own A.here i m) ∧ i + k ≤ 200 ∧ (∀ j, j < i → twI M.own A.here j m ≠ A.here) ∧ σ = [some (.ref A.p), some (.int (m : Int)), some (.ref fd)] ∧
      H2 fd = some (.lst (nl (towL M A.here m i))) ∧ Same H H2,
    ⟨rk M.own A.here m, 0, rfl, by omega, fun j hj => (by omega), rfl, upd_same, Same.new (Same.refl _) nfd⟩, ?_⟩
  rintro k σ H2 ⟨i, rfl, hi, hj, rfl, hf, s2⟩
  have C2 := C.same s2
  have el : (nl (towL M A.here m i))[(nl (towL M A.here m i)).length - 1]? = some (.int ((twI M.own A.here i m : Nat) : Int)) := by
    unfold towL
    rw [nl_range]; exact rng_last _ _
  refine ⟨_, rfl, _, rfl, _, _, _, _, rfl, rfl, SqL.of hf, atI_last' el, _, rfl, _, _, _, _, _, rfl, C2.hp, T.clR true, T.nU_here, fsR_here, rfl, _, rfl, ?_⟩
  by_cases e : twI M.own A.here i m = A.here
  · refine iteNS (by rw [e]) ?_
    exact ⟨_, rfl, q i fd H2 e hj (by omega) nfd hf s2⟩
  · refine iteNN (fun z => e (by have := V.int.inj z; omega)) ⟨fun σ' H' => ∃ k', k' < rk M.own A.here (twI M.own A.here i m) ∧ ∃ i : Nat, k' = rk M.own A.here (twI M.own A.here i m) ∧ i + k' ≤ 200 ∧ (∀ j, j < i → twI M.own A.here j m ≠ A.here) ∧ σ' = [some (.ref A.p), some (.int (m : Int)), some (.ref fd)] ∧
      H' fd = some (.lst (nl (towL M A.here m i))) ∧ Same H H', fun _ _ h => h, ?_⟩
    have hN := twI_N ok Y.hand hm i hj
    obtain ⟨t, ht, htt⟩ := Y.nt _ hN e
    have dec := rk_tw ok.wt e
    have hu2 := s2 _ _ htt
    refine ⟨_, rfl, .inl ⟨rfl, _, SqL.of hf⟩, ?_⟩
    refine ⟨_, rfl, _, _, _, _, _, rfl, C2.hp, T.clR true, T.nU_noted, fsR_noted, _, rfl, _, rfl, _, _, _, _, rfl, rfl, SqL.of hf, atI_last' el, _, .ref t, rfl, ?_, ?_⟩
    · have g := DGet.k (k := (Sum.inl ((twI M.own A.here i m : Nat) : Int) : Key)) (s2 _ _ Y.hy)
      rw [ht] at g
      exact g
    refine ⟨t, _, _, .int ((tw M.own A.here (twI M.own A.here i m) : Nat) : Int), rfl, rfl, SqT.of hu2, atI_nat (j := 2) rfl, ?_⟩
    refine ⟨_, _, _, rfl, rfl, hf, (by rw [nl_len]; unfold towL; rw [rng_len]; exact small1000 (by omega)), rk M.own A.here (twI M.own A.here (i + 1) m), dec, i + 1, rfl, ?_, fun j h => ?_, rfl, ?_, Same.set s2 nfd⟩
    · have : rk M.own A.here (twI M.own A.here (i + 1) m) < rk M.own A.here (twI M.own A.here i m) := dec
      omega
    · by_cases z : j = i
      · rw [z]; exact e
      · exact hj j (by omega)
    · rw [upd_same]
      unfold towL
      rw [nl_range, nl_range, rng_snoc (i + 1)]
      rfl
def tuIns (A : RAd) (K : PySem.W.Frag) (size : Nat) : HO := .ins (CR K true) A.dx (fsR true size A.T.t A.aw A.ag A.c A.x1 A.x2 A.here)
def spTurn (K : PySem.W.Frag) : Sp := fun vs H Q _ => ∃ (A : RAd) (W : Ow) (M2 M : Mo) (N : Nat → Prop) (kvs : List (Key × V)) (m : Nat), vs = [.ref A.p, .int (m : Int)] ∧ Com true A K H W M2 ∧ M2.size = M.size ∧ TuW A H W M N kvs ∧ M.Ok ∧ N m ∧ m ≠ A.here ∧ Adj M.own m A.here ∧
  ∀ (c : Int) (kvs' : List (Key × V)) (H' : Hp), Com true { A with c := c, here := m } K H' W M2 → TuW { A with c := c, here := m } H' W M N kvs' → Keep W H H' → Q .non H'
theorem ok_U_turn (T : Tx K mg) : Fc P w K mg base 2 (aR K true "turn") ["self", "make"] (spTurn K) := by
  refine Fc.mk' T.dU_turn c_Turned_turn (fun vs H Q E h => ?_) (fun _ _ _ _ _ _ us hl => match us, hl with | [_, _], _ => rfl) (fun cdv A0 outer s H vs Q E hr h => ?_)
  · obtain ⟨A, W, M2, M, N, kvs, m, rfl, _⟩ := h; rfl
  obtain ⟨A, W, M2, M, N, kvs, m, rfl, C, hs, Y, ok, hm, ne, adj, q⟩ := h
  have nd := c_Turned_turn.nd
  have hu : (A0.deeper (envOfC "Turned.turn" (defScope s_Turned_turn) s.heap.objs.size (aR K true "turn") cdv)).units + 1 < cLine := by have z := hr.units; omega
  refine ⟨_, pss_cons (ps_asg (pe_dpop1 (pe_fld (pv 0) rfl) (pv 1) ⟨rfl, rfl, rfl, rfl⟩) (pg_tup rfl (pgs_cons (pg_name (i := 2) nd rfl (.inl rfl)) (pgs_cons (pg_name (i := 3) nd rfl (.inl rfl)) (pgs_cons (pg_name (i := 4) nd rfl (.inl rfl)) pgs_nil)))))
    (pss_cons (ps_dput hu (pe_fld (pv 0) rfl) (pv 4) (pe_tup (pa_cons (pv 2) (pa_cons (qix (pe_fld (pv 0) rfl) (pv 2)) (pa_cons (pv 1) pa_nil)))) rfl)
    (pss_cons (ps_asg (pv 3) (pg_sub (pe_fld (pv 0) rfl) (pv 2) set_list))
    (pss_cons (ps_fld (pv 0) (pv 1) rfl)
    (pss_one (ps_expr (qm (pv 0) (T.clR true) (T.mR_add_steps true) (ok_R_add_steps T true) hr (pa_cons pe_int pa_nil))))))), ?_⟩
  have lh := Y.hand.lt _ Y.hand.here
  have lm := Y.hand.lt m hm
  obtain ⟨t, ht, htt⟩ := Y.nt m hm ne
  rw [tw_of_adj ok.wt adj] at htt
  have xy : A.x1 ≠ A.x2 := role_ne Y.r1 Y.r2 (by decide)
  have px : A.p ≠ A.x1 := role_ne C.rp Y.r1 (by decide)
  have py : A.p ≠ A.x2 := role_ne C.rp Y.r2 (by decide)
  have plt := Mo.pl_lt ok lh lm ne
  refine ⟨_, rfl, _, _, _, _, _, rfl, C.hp, T.clR true, T.nU_noted, fsR_noted, _, rfl, .inl ⟨kvs, .inl Y.hy⟩, _, rfl, kvs, Sum.inl (m : Int), _, Y.hy, rfl, ht, ?_⟩
  have C1 := C.off (a := A.x2) (o := .dK (dropK kvs (Sum.inl (m : Int)))) (.inr (by rw [Y.r2]; decide))
  have k1 : Keep W H (upd H A.x2 (.dK (dropK kvs (Sum.inl (m : Int))))) := Keep.refl.set (.inl (by rw [Y.r2]; decide)) Y.hy id
  have y1 : upd H A.x2 (.dK (dropK kvs (Sum.inl (m : Int)))) A.x2 = some (.dK (dropK kvs (Sum.inl (m : Int)))) := upd_same
  have x1 : upd H A.x2 (.dK (dropK kvs (Sum.inl (m : Int)))) A.x1 = H A.x1 := upd_ne xy
  generalize (upd H A.x2 (.dK (dropK kvs (Sum.inl (m : Int))))) = H1 at C1 k1 y1 x1 ⊢
  rw [Y.hx] at x1
  have t1 := k1.k _ _ htt (.inr trivial)
  refine ⟨t, _, rfl, SqT.of t1, rfl, _, _, rfl, _, _, rfl, _, _, rfl, rfl, ?_⟩
  refine ⟨_, rfl, _, rfl, _, _, _, _, _, rfl, C1.hp, T.clR true, T.nU_lying, fsR_lying, _, rfl, _, _, _, .int (M.val A.here (M.pl A.here m)), rfl, rfl, SqL.of x1, atI_nat (rng_at _ _ plt), _, rfl, (by show 3 ≤ sizeLine; decide), fun t2 nt2 => ?_⟩
  have s2 : Same H1 (upd H1 t2 (.tup [V.int (M.pl A.here m : Int), V.int (M.val A.here (M.pl A.here m)), V.int (m : Int)])) := Same.new (Same.refl _) nt2
  have t22 : upd H1 t2 (.tup [V.int (M.pl A.here m : Int), V.int (M.val A.here (M.pl A.here m)), V.int (m : Int)]) t2 = some (.tup [V.int (M.pl A.here m : Int), V.int (M.val A.here (M.pl A.here m)), V.int (m : Int)]) := upd_same
  have k2 := k1.new (o := .tup [V.int (M.pl A.here m : Int), V.int (M.val A.here (M.pl A.here m)), V.int (m : Int)]) nt2
  generalize (upd H1 t2 (.tup [V.int (M.pl A.here m : Int), V.int (M.val A.here (M.pl A.here m)), V.int (m : Int)])) = H2 at s2 t22 k2 ⊢
  have C2 := C1.same s2
  have sz : (dropK kvs (Sum.inl (m : Int))).length + 1 = kvs.length := dropK_len Y.nd (valV_in ht)
  have szk := Y.sz
  have n64 := ok.n64
  refine ⟨_, rfl, _, _, _, _, _, rfl, C2.hp, T.clR true, T.nU_noted, fsR_noted, _, rfl, A.x2, _, rfl, DPut.k (k := (Sum.inl (A.here : Int) : Key)) (s2 _ _ y1) (small1000 (by omega)), ?_⟩
  have fr : (Sum.inl (A.here : Int) : Key) ∉ (dropK kvs (Sum.inl (m : Int))).map (·.1) := fun z => by
    obtain ⟨q', hq, e⟩ := List.mem_map.mp z
    obtain ⟨x, e2, _, ne2⟩ := Y.ky q' (dropK_mem hq)
    have e3 : (Sum.inl (x : Int) : Key) = Sum.inl (A.here : Int) := e2.symm.trans e
    have e4 : (x : Int) = (A.here : Int) := Sum.inl.inj e3
    omega
  have ek := putK_new (V.ref t2) (valV_new fr)
  have C3 := C2.off (a := A.x2) (o := .dK (putK (dropK kvs (Sum.inl (m : Int))) (Sum.inl (A.here : Int)) (V.ref t2))) (.inr (by rw [Y.r2]; decide))
  have k3 := k2.set (a := A.x2) (o := .dK (putK (dropK kvs (Sum.inl (m : Int))) (Sum.inl (A.here : Int)) (V.ref t2))) (.inl (by rw [Y.r2]; decide)) (s2 _ _ y1) id
  have y3 : upd H2 A.x2 (.dK (putK (dropK kvs (Sum.inl (m : Int))) (Sum.inl (A.here : Int)) (V.ref t2))) A.x2 = some (.dK (putK (dropK kvs (Sum.inl (m : Int))) (Sum.inl (A.here : Int)) (V.ref t2))) := upd_same
  have x3 : upd H2 A.x2 (.dK (putK (dropK kvs (Sum.inl (m : Int))) (Sum.inl (A.here : Int)) (V.ref t2))) A.x1 = _ := (upd_ne xy).trans (s2 _ _ x1)
  have t3 : upd H2 A.x2 (.dK (putK (dropK kvs (Sum.inl (m : Int))) (Sum.inl (A.here : Int)) (V.ref t2))) t2 = _ := (upd_ne (fun z => by rw [z, s2 _ _ y1] at t22; cases t22)).trans t22
  generalize (upd H2 A.x2 (.dK (putK (dropK kvs (Sum.inl (m : Int))) (Sum.inl (A.here : Int)) (V.ref t2)))) = H3 at C3 k3 y3 x3 t3 ⊢
  refine ⟨_, rfl, _, rfl, _, _, _, _, _, rfl, C3.hp, T.clR true, T.nU_lying, fsR_lying, _, rfl, A.x1, _, _, M.pl A.here m, rfl, rfl, x3, (by rw [rng_len]; exact ixN_n plt), ?_⟩
  rw [rng_set]
  have C4 := C3.off (a := A.x1) (o := .lst ((List.range M.size).map fun j => if j = M.pl A.here m then V.int (M.val m (M.pl A.here m)) else V.int (M.val A.here j))) (.inr (by rw [Y.r1]; decide))
  have k4 := k3.set (a := A.x1) (o := .lst ((List.range M.size).map fun j => if j = M.pl A.here m then V.int (M.val m (M.pl A.here m)) else V.int (M.val A.here j))) (.inl (by rw [Y.r1]; decide)) x3 id
  have x4 : upd H3 A.x1 (.lst ((List.range M.size).map fun j => if j = M.pl A.here m then V.int (M.val m (M.pl A.here m)) else V.int (M.val A.here j))) A.x1 = some (.lst ((List.range M.size).map fun j => if j = M.pl A.here m then V.int (M.val m (M.pl A.here m)) else V.int (M.val A.here j))) := upd_same
  have y4 : upd H3 A.x1 (.lst ((List.range M.size).map fun j => if j = M.pl A.here m then V.int (M.val m (M.pl A.here m)) else V.int (M.val A.here j))) A.x2 = _ := (upd_ne xy.symm).trans y3
  have t4 : upd H3 A.x1 (.lst ((List.range M.size).map fun j => if j = M.pl A.here m then V.int (M.val m (M.pl A.here m)) else V.int (M.val A.here j))) t2 = _ := (upd_ne (fun z => by rw [z, x3] at t3; cases t3)).trans t3
  generalize (upd H3 A.x1 (.lst ((List.range M.size).map fun j => if j = M.pl A.here m then V.int (M.val m (M.pl A.here m)) else V.int (M.val A.here j)))) = H4 at C4 k4 x4 y4 t4 ⊢
  refine ⟨_, rfl, _, rfl, _, _, _, _, rfl, C4.hp, T.clR true, T.nU_here, fsR_len, ?_⟩
  rw [putF_here]
  have C5 := C4.setp A.c A.x1 A.x2 m
  have k5 := k4.set (a := A.p) (o := .ins (CR K true) A.dx (fsR true M2.size A.T.t A.aw A.ag A.c A.x1 A.x2 m)) (.inl (by rw [C.rp]; decide)) C4.hp id
  have e5 : ∀ a, a ≠ A.p → upd H4 A.p (.ins (CR K true) A.dx (fsR true M2.size A.T.t A.aw A.ag A.c A.x1 A.x2 m)) a = H4 a := fun a h => upd_ne h
  generalize (upd H4 A.p (.ins (CR K true) A.dx (fsR true M2.size A.T.t A.aw A.ag A.c A.x1 A.x2 m))) = H5 at C5 k5 e5 ⊢
  refine ⟨_, rfl, _, _, _, rfl, C5.hp, fsR_no (by decide +kernel), A.p, A.dx, A.T.t, A.aw, A.ag, A.x1, A.x2, M2.size, m, A.c, _, rfl, C5.hp, ?_⟩
  have C6 := C5.setp (A.c + 1) A.x1 A.x2 m
  have k6 := k5.set (a := A.p) (o := .ins (CR K true) A.dx (fsR true M2.size A.T.t A.aw A.ag (A.c + 1) A.x1 A.x2 m)) (.inl (by rw [C.rp]; decide)) C5.hp id
  have e6 : ∀ a, a ≠ A.p → upd H5 A.p (.ins (CR K true) A.dx (fsR true M2.size A.T.t A.aw A.ag (A.c + 1) A.x1 A.x2 m)) a = H4 a := fun a h => (upd_ne h).trans (e5 a h)
  refine q (A.c + 1) (putK (dropK kvs (Sum.inl (m : Int))) (Sum.inl (A.here : Int)) (V.ref t2)) _ C6 ⟨?_, ?_, Y.r1, Y.r2, ?_, Y.hand.at hm, ?_, ?_, ?_⟩ k6
  · refine (e6 _ px.symm).trans (x4.trans (congrArg (fun l => some (HO.lst l)) (rng_ext fun j hj => ?_)))
    by_cases z : j = M.pl A.here m
    · rw [if_pos z, z]
    · rw [if_neg z]
      have := Mo.val_tw ok ne z
      rw [tw_of_adj ok.wt adj] at this
      rw [this]
  · exact (e6 _ py.symm).trans y4
  · rw [ek]; exact nd_snoc (nd_drop Y.nd) fr
  · intro x hx nx
    by_cases z : x = A.here
    · subst z
      refine ⟨t2, by rw [valV_put, if_pos rfl], ?_⟩
      have tp : t2 ≠ A.p := fun z => by rw [z, C4.hp] at t4; cases t4
      refine (e6 _ tp).trans (t4.trans ?_)
      show some (HO.tup [V.int (M.pl A.here m : Int), V.int (M.val A.here (M.pl A.here m)), V.int (m : Int)]) = some (HO.tup [V.int ((M.pl m A.here : Nat) : Int), V.int (M.val A.here (M.pl m A.here)), V.int ((tw M.own m A.here : Nat) : Int)])
      rw [Mo.pl_symm ok adj, tw_of_adj ok.wt adj.symm]
    · obtain ⟨u, hu1, hu2⟩ := Y.nt x hx z
      have nx' : x ≠ m := nx
      refine ⟨u, ?_, ?_⟩
      · rw [valV_put, if_neg (fun e => z (by have : (x : Int) = (A.here : Int) := Sum.inl.inj e; omega)), valV_drop, if_neg (fun e => nx' (by have : (x : Int) = (m : Int) := Sum.inl.inj e; omega))]
        exact hu1
      · have := k6.k _ _ hu2 (.inr trivial)
        rw [this]
        show some (HO.tup [V.int ((M.pl A.here x : Nat) : Int), V.int (M.val x (M.pl A.here x)), V.int ((tw M.own A.here x : Nat) : Int)]) = some (HO.tup [V.int ((M.pl m x : Nat) : Int), V.int (M.val x (M.pl m x)), V.int ((tw M.own m x : Nat) : Int)])
        rw [Mo.pl_adj ok adj z nx', tw_adj_eq ok.wt adj z nx']
  · intro q' hq
    rw [ek] at hq
    rcases List.mem_append.mp hq with hq | hq
    · obtain ⟨x, e1, e2, e3⟩ := Y.ky q' (dropK_mem hq)
      refine ⟨x, e1, e2, fun z => ?_⟩
      have z' : x = m := z
      have := (List.mem_filter.mp hq).2
      rw [e1, z'] at this
      simp at this
    · have := List.mem_singleton.mp hq
      subst this
      exact ⟨A.here, rfl, Y.hand.here, fun z => ne z.symm⟩
  · rw [ek, List.length_append]
    show (dropK kvs (Sum.inl (m : Int))).length + 1 ≤ M.n
    omega
end
end MK

set_option Elab.async false
set_option linter.all false
set_option maxRecDepth 100000
set_option maxHeartbeats 4000000
/-! the turned way: turn_to, worths_in, read_by, store, begin -/
namespace MK
open PySem PySem.Spec PyProof.Rows L2
theorem towL_rev (M : Mo) (h m L : Nat) : (nl (towL M h m L)).reverse = nl ((List.range (L + 1)).map fun i => twI M.own h (L - i) m) := by
  rw [nl_reverse]
  unfold towL
  rw [rng_rev]
  rfl
theorem tow_cut (M : Mo) (h m L : Nat) : cutV (nl ((List.range (L + 1)).map fun i => twI M.own h (L - i) m)) (some 1) none = nl ((List.range L).map fun i => twI M.own h (L - (1 + i)) m) := by
  have e := cut_from (nl ((List.range (L + 1)).map fun i => twI M.own h (L - i) m)) 1 (by rw [nl_len, rng_len]; omega)
  have e' : cutV (nl ((List.range (L + 1)).map fun i => twI M.own h (L - i) m)) (some 1) none = (nl ((List.range (L + 1)).map fun i => twI M.own h (L - i) m)).drop 1 := e
  rw [e', nl_drop, rng_drop]
  rfl
theorem nl_at {l : List Nat} {i : Nat} {x : V} (h : (nl l)[i]? = some x) : ∃ u, l[i]? = some u ∧ x = .int (u : Int) := by
  unfold nl at h
  rw [List.getElem?_map] at h
  cases e : l[i]? with
  | none => rw [e] at h; cases h
  | some u => rw [e] at h; exact ⟨u, rfl, (Option.some.inj h).symm⟩
theorem cut_mid (l : List V) (i j : Nat) (hi : i ≤ l.length) (hj : j ≤ l.length) : cutV l (some (i : Int)) (some (j : Int)) = (l.drop i).take (j - i) := by
  unfold cutV
  rw [HT.sIx_nat, HT.sIx_nat, Nat.min_eq_left hi, Nat.min_eq_left hj]
section
variable {P : Program} {w : World} {K : PySem.W.Frag} {mg : Str → Option Value} {base : Heap}
def spTurnTo (K : PySem.W.Frag) : Sp := fun vs H Q _ => ∃ (A : RAd) (W : Ow) (M2 M : Mo) (N : Nat → Prop) (kvs : List (Key × V)) (m : Nat), vs = [.ref A.p, .int (m : Int)] ∧ Com true A K H W M2 ∧ M2.size = M.size ∧ TuW A H W M N kvs ∧ M.Ok ∧ N m ∧
  ∀ (c : Int) (kvs' : List (Key × V)) (v : V) (H' : Hp), Com true { A with c := c, here := m } K H' W M2 → TuW { A with c := c, here := m } H' W M N kvs' → Keep W H H' → Q v H'
theorem ok_U_turn_to (T : Tx K mg) : Fc P w K mg base 3 (aR K true "turn_to") ["self", "make"] (spTurnTo K) := by
  refine Fc.mk' T.dU_turn_to c_Turned_turn_to (fun vs H Q E h => ?_) (fun _ _ _ _ _ _ us hl => match us, hl with | [_, _], _ => rfl) (fun cdv A0 outer s H vs Q E hr h => ?_)
  · obtain ⟨A, W, M2, M, N, kvs, m, rfl, _⟩ := h; rfl
  obtain ⟨A, W, M2, M, N, kvs, m, rfl, C, hs, Y, ok, hm, q⟩ := h
  have nd := c_Turned_turn_to.nd
  refine ⟨_, pss_cons (ps_set (i := 2) nd rfl (.inl rfl) (qm (pv 0) (T.clR true) T.mU_noted_way (ok_U_noted_way T) (hr.mono (by decide)) (pa_cons (pv 1) pa_nil)))
    (pss_cons (ps_expr (pe_bm0 PySem.F.plainAttrs_list PySem.F.slot_list_reverse PySem.F.type_list_reverse mt_reverse (pv 2)))
    (pss_cons (ps_for PassesOwn.never rfl (pi_list (pe_slice sl_list (pv 2) (po_some pe_int) po_none)) (pg_name (i := 3) nd rfl (.inl rfl))
      (pss_one (ps_expr (qm (pv 0) (T.clR true) T.mU_turn (ok_U_turn T) hr (pa_cons (pv 3) pa_nil)))))
    (pss_one (ps_ret (pe_op op_sub (qlen T.f_len (pv 2)) pe_int))))), ?_⟩
  refine ⟨_, rfl, _, _, _, rfl, C.hp, fsR_no (by decide +kernel), _, rfl, A, W, M2, M, N, kvs, m, rfl, C, Y, ok, hm, fun L l H1 eL nL l200 nl1 hl s1 => ?_⟩
  refine ⟨_, rfl, .inl ⟨rfl, _, SqL.of hl⟩, l, _, rfl, rfl, hl, ?_⟩
  rw [towL_rev]
  have l2 : upd H1 l (.lst (nl ((List.range (L + 1)).map fun i => twI M.own A.here (L - i) m))) l = some (.lst (nl ((List.range (L + 1)).map fun i => twI M.own A.here (L - i) m))) := upd_same
  have s2 : Same H (upd H1 l (.lst (nl ((List.range (L + 1)).map fun i => twI M.own A.here (L - i) m)))) := Same.set s1 nl1
  generalize (upd H1 l (.lst (nl ((List.range (L + 1)).map fun i => twI M.own A.here (L - i) m)))) = H2 at l2 s2 ⊢
  refine ⟨_, rfl, _, rfl, _, _, rfl, SqL.of l2, fun d nd2 => ?_⟩
  rw [tow_cut]
  have d3 : upd H2 d (.lst (nl ((List.range L).map fun i => twI M.own A.here (L - (1 + i)) m))) d = some (.lst (nl ((List.range L).map fun i => twI M.own A.here (L - (1 + i)) m))) := upd_same
  have s3 : Same H (upd H2 d (.lst (nl ((List.range L).map fun i => twI M.own A.here (L - (1 + i)) m)))) := Same.new s2 nd2
  have l3 : upd H2 d (.lst (nl ((List.range L).map fun i => twI M.own A.here (L - (1 + i)) m))) l = _ := (upd_ne (ne_of_none l2 nd2)).trans l2
  generalize (upd H2 d (.lst (nl ((List.range L).map fun i => twI M.own A.here (L - (1 + i)) m)))) = H3 at d3 s3 l3 ⊢
  have Wd : W d = 0 := C.has.new (s2.free nd2)
  have Wl : W l = 0 := C.has.new nl1
  refine ⟨d, rfl, ⟨_, SqL.of d3⟩, ?_⟩
  refine for_list (K := K) (a := d) (xs := nl ((List.range L).map fun i => twI M.own A.here (L - (1 + i)) m)) (fun i σ H4 => ∃ (v3 : Option V) (c : Int) (kv : List (Key × V)), σ = [some (.ref A.p), some (.int (m : Int)), some (.ref l), v3] ∧
      Com true { A with c := c, here := twI M.own A.here (L - i) m } K H4 W M2 ∧ TuW { A with c := c, here := twI M.own A.here (L - i) m } H4 W M N kv ∧ Keep W H3 H4)
    ⟨none, A.c, kvs, rfl, by rw [Nat.sub_zero, eL]; exact C.same s3, by rw [Nat.sub_zero, eL]; exact Y.at' ((s3 _ _ Y.hx).trans Y.hx.symm) ((s3 _ _ Y.hy).trans Y.hy.symm) fun t xs e => s3 _ _ e, Keep.refl⟩ ?_ ?_ ?_
  · rintro i σ H4 _ ⟨v3, c, kv, rfl, C4, Y4, k4⟩
    exact SqL.of (k4.k _ _ d3 (.inl Wd))
  · rintro i x σ H4 hx ⟨v3, c, kv, rfl, C4, Y4, k4⟩
    obtain ⟨u, hu, rfl⟩ := nl_at hx
    have hi : i < L := by
      have := (List.getElem?_eq_some_iff.mp hu).1
      rw [rng_len] at this
      exact this
    rw [rng_at _ _ hi] at hu
    cases hu
    have e1 : L - i = (L - (1 + i)) + 1 := by omega
    have ne := nL (L - (1 + i)) (by omega)
    have hN : N (twI M.own A.here (L - (1 + i)) m) := twI_N ok Y.hand hm _ fun j hj => nL j (by omega)
    have est : twI M.own A.here (L - i) m = tw M.own A.here (twI M.own A.here (L - (1 + i)) m) := by rw [e1]; rfl
    have adj := tw_adj ok.wt ne
    rw [← est] at adj
    refine ⟨_, rfl, _, _, _, rfl, C4.hp, fsR_no (by decide +kernel), _, rfl, { A with c := c, here := twI M.own A.here (L - i) m }, W, M2, M, N, kv, twI M.own A.here (L - (1 + i)) m, rfl, C4, hs, Y4, ok, hN, adj.symm.ne ok.wt, adj.symm, fun c' kv' H5 C5 Y5 k5 => ?_⟩
    have e2 : L - (i + 1) = L - (1 + i) := by omega
    refine ⟨_, c', kv', rfl, ?_, ?_, k4.trans k5⟩
    · rw [e2]; exact C5
    · rw [e2]; exact Y5
  · rintro σ H4 ⟨v3, c, kv, rfl, C4, Y4, k4⟩
    rw [nl_len, rng_len, Nat.sub_self] at C4 Y4
    refine ⟨_, rfl, _, _, rfl, .inl (SqL.of (k4.k _ _ l3 (.inl Wl))), _, _, rfl, rfl, q c kv _ H4 C4 Y4 ((Keep.same s3).trans k4)⟩
theorem ok_U_worths_in (T : Tx K mg) : Fc P w K mg base 4 (aR K true "worths_in") ["self", "make", "low", "high"] (spWorthsIn true K) := by
  refine Fc.mk' T.dU_worths_in c_Turned_worths_in (fun vs H Q E h => ?_) (fun _ _ _ _ _ _ us hl => match us, hl with | [_, _, _, _], _ => rfl) (fun cdv A0 outer s H vs Q E hr h => ?_)
  · obtain ⟨p, m, lo, hi, W, M, rfl, _⟩ := h; rfl
  obtain ⟨_, m, lo, hi, W, M, rfl, ⟨⟨A, rfl, C, N, kvs, Y⟩, ok⟩, hm, l1, l2, q⟩ := h
  refine ⟨_, pss_cons (ps_expr (qm (pv 0) (T.clR true) T.mU_turn_to (ok_U_turn_to T) hr (pa_cons (pv 1) pa_nil)))
    (pss_one (ps_ret (pe_slice sl_list (pe_fld (pv 0) rfl) (po_some (pv 2)) (po_some (pv 3))))), ?_⟩
  refine ⟨_, rfl, _, _, _, rfl, C.hp, fsR_no (by decide +kernel), _, rfl, A, W, M, M, N, kvs, m, rfl, C, rfl, Y, ok, Y.hand.kept m hm, fun c kv v H1 C1 Y1 k1 => ?_⟩
  refine ⟨_, rfl, _, _, _, _, _, rfl, C1.hp, T.clR true, T.nU_lying, fsR_lying, _, rfl, _, rfl, _, rfl, _, rfl, _, _, rfl, SqL.of Y1.hx, fun d nd2 => ?_⟩
  have nd0 := k1.th _ nd2
  refine q d _ nd0 ?_ ((RowAt.of C1 ⟨N, kv, Y1⟩ ok).same (Same.new (Same.refl _) nd2)) (k1.new nd2)
  rw [upd_same, cut_mid _ _ _ (by rw [rng_len]; omega) (by rw [rng_len]; exact l2), rng_drop, rng_take]
  refine congrArg (fun l => some (HO.lst l)) ?_
  unfold stretchV
  rw [Nat.min_eq_left (by omega)]
def spReadBy (K : PySem.W.Frag) : Sp := fun vs H Q _ => ∃ (p : Addr) (m : Nat) (W : Ow) (M : Mo), vs = [.ref p, .int (m : Int)] ∧ RowAt true K H p W M ∧ M.kept m ∧
  ∀ (l : Addr) (H' : Hp), H l = none → H' l = some (.lst (stretchV M m 0 M.size)) → Same H H' → Q (.ref l) H'
theorem ok_U_read_by (T : Tx K mg) : Fc P w K mg base 3 (aR K true "read_by") ["self", "make"] (spReadBy K) := by
  refine Fc.mk' T.dU_read_by c_Turned_read_by (fun vs H Q E h => ?_) (fun _ _ _ _ _ _ us hl => match us, hl with | [_, _], _ => rfl) (fun cdv A0 outer s H vs Q E hr h => ?_)
  · obtain ⟨p, m, W, M, rfl, _⟩ := h; rfl
  obtain ⟨_, m, W, M, rfl, R, hm, q⟩ := h
  have rq := R.rq
  obtain ⟨⟨A, rfl, C, N, kvs, Y⟩, ok⟩ := R
  have nd := c_Turned_read_by.nd
  have hu : (A0.deeper (envOfC "Turned.read_by" (defScope s_Turned_read_by) s.heap.objs.size (aR K true "read_by") cdv)).units + 1 < cLine := by have z := hr.units; omega
  refine ⟨_, pss_cons (ps_expr (qm (pv 0) (T.clR true) (T.mR_need_make true) (ok_R_need_make T true) hr (pa_cons (pv 1) pa_nil)))
    (pss_cons (ps_set (i := 2) nd rfl (.inl rfl) (pe_callTy (cl_list (K := K) rfl) rfl T.f_list boot_listT (pa_cons (pe_fld (pv 0) rfl) pa_nil)))
    (pss_cons (ps_set (i := 3) nd rfl (.inl rfl) (qm (pv 0) (T.clR true) T.mU_noted_way (ok_U_noted_way T) (hr.mono (by decide)) (pa_cons (pv 1) pa_nil)))
    (pss_cons (ps_expr (pe_bm0 PySem.F.plainAttrs_list PySem.F.slot_list_reverse PySem.F.type_list_reverse mt_reverse (pv 3)))
    (pss_cons (ps_for PassesOwn.never rfl (pi_list (pe_slice sl_list (pv 3) (po_some pe_int) po_none)) (pg_name (i := 4) nd rfl (.inl rfl))
      (pss_cons (ps_asg (pe_dget hu (pe_fld (pv 0) rfl) (pv 4) (fun _ _ => rfl)) (pg_tup rfl (pgs_cons (pg_name (i := 5) nd rfl (.inl rfl)) (pgs_cons (pg_name (i := 6) nd rfl (.inl rfl)) (pgs_cons (pg_name (i := 7) nd rfl (.inl rfl)) pgs_nil)))))
      (pss_one (ps_asg (pv 6) (pg_sub (pv 2) (pv 5) set_list)))))
    (pss_one (ps_ret (pv 2))))))), ?_⟩
  refine ⟨_, rfl, _, _, _, rfl, C.hp, fsR_no (by decide +kernel), _, rfl, _, m, M, rfl, rq, hm, ?_⟩
  refine ⟨_, rfl, _, _, _, _, _, rfl, C.hp, T.clR true, T.nU_lying, fsR_lying, A.x1, _, rfl, .inl (SqL.of Y.hx), fun wl nwl => ?_⟩
  have s1 : Same H (upd H wl (.lst ((List.range M.size).map fun p => V.int (M.val A.here p)))) := Same.new (Same.refl _) nwl
  have w1 : upd H wl (.lst ((List.range M.size).map fun p => V.int (M.val A.here p))) wl = some (.lst ((List.range M.size).map fun p => V.int (M.val A.here p))) := upd_same
  generalize (upd H wl (.lst ((List.range M.size).map fun p => V.int (M.val A.here p)))) = H1 at s1 w1 ⊢
  have C1 := C.same s1
  have Y1 : TuW A H1 W M N kvs := Y.at' ((s1 _ _ Y.hx).trans Y.hx.symm) ((s1 _ _ Y.hy).trans Y.hy.symm) fun t xs e => s1 _ _ e
  refine ⟨_, rfl, _, _, _, rfl, C1.hp, fsR_no (by decide +kernel), _, rfl, A, W, M, M, N, kvs, m, rfl, C1, Y1, ok, Y.hand.kept m hm, fun L l H2 eL nL l200 nl1 hl s2 => ?_⟩
  refine ⟨_, rfl, .inl ⟨rfl, _, SqL.of hl⟩, l, _, rfl, rfl, hl, ?_⟩
  rw [towL_rev]
  have wll : wl ≠ l := ne_of_none w1 nl1
  have l3 : upd H2 l (.lst (nl ((List.range (L + 1)).map fun i => twI M.own A.here (L - i) m))) l = some (.lst (nl ((List.range (L + 1)).map fun i => twI M.own A.here (L - i) m))) := upd_same
  have s3 : Same H1 (upd H2 l (.lst (nl ((List.range (L + 1)).map fun i => twI M.own A.here (L - i) m)))) := Same.set s2 nl1
  generalize (upd H2 l (.lst (nl ((List.range (L + 1)).map fun i => twI M.own A.here (L - i) m)))) = H3 at l3 s3 ⊢
  refine ⟨_, rfl, _, rfl, _, _, rfl, SqL.of l3, fun d nd2 => ?_⟩
  rw [tow_cut]
  have d4 : upd H3 d (.lst (nl ((List.range L).map fun i => twI M.own A.here (L - (1 + i)) m))) d = some (.lst (nl ((List.range L).map fun i => twI M.own A.here (L - (1 + i)) m))) := upd_same
  have s4 : Same H1 (upd H3 d (.lst (nl ((List.range L).map fun i => twI M.own A.here (L - (1 + i)) m)))) := Same.new s3 nd2
  generalize (upd H3 d (.lst (nl ((List.range L).map fun i => twI M.own A.here (L - (1 + i)) m)))) = H4 at d4 s4 ⊢
  have wld : wl ≠ d := fun z => by rw [← z, s3 _ _ w1] at nd2; cases nd2
  refine ⟨d, rfl, ⟨_, SqL.of d4⟩, ?_⟩
  refine for_list (K := K) (a := d) (xs := nl ((List.range L).map fun i => twI M.own A.here (L - (1 + i)) m)) (fun i σ H5 => ∃ (v4 v5 v6 v7 : Option V), σ = [some (.ref A.p), some (.int (m : Int)), some (.ref wl), some (.ref l), v4, v5, v6, v7] ∧
      H5 wl = some (.lst ((List.range M.size).map fun p => .int (M.val (twI M.own A.here (L - i) m) p))) ∧ Same H H5 ∧ H5 d = some (.lst (nl ((List.range L).map fun i => twI M.own A.here (L - (1 + i)) m))))
    ⟨none, none, none, none, rfl, by rw [Nat.sub_zero, eL]; exact s4 _ _ w1, fun a o e => s4 _ _ (s1 _ _ e), d4⟩ ?_ ?_ ?_
  · rintro i σ H5 _ ⟨v4, v5, v6, v7, rfl, h1, h2, h3⟩
    exact SqL.of h3
  · rintro i x σ H5 hx ⟨v4, v5, v6, v7, rfl, h1, h2, h3⟩
    obtain ⟨u, hu', rfl⟩ := nl_at hx
    have hi : i < L := by
      have := (List.getElem?_eq_some_iff.mp hu').1
      rw [rng_len] at this
      exact this
    rw [rng_at _ _ hi] at hu'
    cases hu'
    have e1 : L - i = (L - (1 + i)) + 1 := by omega
    have ne := nL (L - (1 + i)) (by omega)
    have hN : N (twI M.own A.here (L - (1 + i)) m) := twI_N ok Y.hand (Y.hand.kept m hm) _ fun j hj => nL j (by omega)
    have est : twI M.own A.here (L - i) m = tw M.own A.here (twI M.own A.here (L - (1 + i)) m) := by rw [e1]; rfl
    obtain ⟨t, ht, htt⟩ := Y.nt _ hN ne
    have C5 := C.same h2
    have plt := Mo.pl_lt ok (Y.hand.lt _ Y.hand.here) (Y.hand.lt _ hN) ne
    refine ⟨_, rfl, _, _, _, _, _, rfl, C5.hp, T.clR true, T.nU_noted, fsR_noted, _, rfl, _, .ref t, rfl, ?_, t, _, rfl, SqT.of (h2 _ _ htt), rfl, _, _, rfl, _, _, rfl, _, _, rfl, rfl, ?_⟩
    · have g := DGet.k (k := (Sum.inl ((twI M.own A.here (L - (1 + i)) m : Nat) : Int) : Key)) (h2 _ _ Y.hy)
      rw [ht] at g
      exact g
    refine ⟨_, rfl, _, rfl, _, rfl, wl, _, _, _, rfl, rfl, h1, (by rw [rng_len]; exact ixN_n plt), _, _, _, _, rfl, ?_, Same.set h2 nwl, ?_⟩
    · rw [upd_same, rng_set]
      refine congrArg (fun l => some (HO.lst l)) (rng_ext fun j hj => ?_)
      have e2 : L - (i + 1) = L - (1 + i) := by omega
      rw [e2]
      by_cases z : j = M.pl A.here (twI M.own A.here (L - (1 + i)) m)
      · rw [if_pos z, z]
      · rw [if_neg z, est, Mo.val_tw ok ne z]
    · rw [upd_ne wld.symm]; exact h3
  · rintro σ H5 ⟨v4, v5, v6, v7, rfl, h1, h2, h3⟩
    rw [nl_len, rng_len, Nat.sub_self] at h1
    refine ⟨_, rfl, q wl H5 nwl (h1.trans (congrArg (fun l => some (HO.lst l)) ?_)) h2⟩
    unfold stretchV
    rw [Nat.sub_zero]
    refine rng_ext fun j _ => ?_
    rw [Nat.zero_add]; rfl
end
end MK

set_option Elab.async false
set_option linter.all false
set_option maxRecDepth 100000
set_option maxHeartbeats 4000000
/-! the turned way: begin, store -/
namespace MK
open PySem PySem.Spec PyProof.Rows L2
section
variable {P : Program} {w : World} {K : PySem.W.Frag} {mg : Str → Option Value} {base : Heap}
theorem ok_U_begin (T : Tx K mg) : Fc P w K mg base 1 (aR K true "begin") ["self", "worths"] (spBegin true K) := by
  refine Fc.mk' T.dU_begin c_Turned_begin (fun vs H Q E h => ?_) (fun _ _ _ _ _ _ us hl => match us, hl with | [_, _], _ => rfl) (fun cdv A0 outer s H vs Q E hr h => ?_)
  · obtain ⟨p, a, dx, size, t, aw, ag, ns, rfl, _⟩ := h; rfl
  obtain ⟨p, a, dx, size, t, aw, ag, ns, rfl, hp, ha, hl, h16, q⟩ := h
  refine ⟨_, pss_cons (ps_fld (pv 0) (pe_callTy (cl_list (K := K) rfl) rfl T.f_list boot_listT (pa_cons (pv 1) pa_nil)) rfl)
    (pss_cons (ps_fld (pv 0) pe_int rfl) (pss_one (ps_fld (pv 0) pe_dnewK rfl))), ?_⟩
  refine ⟨_, rfl, a, _, rfl, .inl (SqL.of ha), fun x1 n1 => ?_⟩
  have px : p ≠ x1 := ne_of_none hp n1
  refine ⟨_, rfl, p, _, dx, _, rfl, (by rw [upd_ne px]; exact hp), T.clR true, T.nU_lying, (by show 5 < 1000; decide), ?_⟩
  refine ⟨_, rfl, p, _, dx, _, rfl, upd_same, T.clR true, T.nU_here, (by show 6 < 1000; decide), ?_⟩
  refine fun x2 n2 => ?_
  have x2p : x2 ≠ p := fun z => by rw [z, upd_same] at n2; cases n2
  rw [upd_ne x2p, upd_ne x2p] at n2
  have x21 : x2 ≠ x1 := fun z => by rw [z, upd_same] at n2; cases n2
  rw [upd_ne x21] at n2
  refine ⟨_, rfl, p, _, dx, _, rfl, (by rw [upd_ne x2p.symm, upd_same]), T.clR true, T.nU_noted, (by show 7 < 1000; decide), ?_⟩
  refine q x1 x2 _ ⟨?_, n1, fun _ => ⟨n2, x21.symm⟩, fun y o e h => ?_, (fun z => (nomatch z)), fun _ => ⟨?_, ?_⟩⟩
  · rw [upd_same]
    exact congrArg (fun l => some (HO.ins (CR K true) dx l)) fs5_tu
  · rw [upd_ne h, upd_ne (ne_of_none e n2), upd_ne h, upd_ne h, upd_ne (ne_of_none e n1)]; exact e
  · rw [upd_ne px.symm, upd_ne x21.symm, upd_ne px.symm, upd_ne px.symm, upd_same]
  · rw [upd_ne x2p, upd_same]
theorem ok_U_store (T : Tx K mg) : Fc P w K mg base 4 (aR K true "store") ["self", "make", "number", "place", "worth"] (spStore true K) := by
  refine Fc.mk' T.dU_store c_Turned_store (fun vs H Q E h => ?_) (fun _ _ _ _ _ _ us hl => match us, hl with | [_, _, _, _, _], _ => rfl) (fun cdv A0 outer s H vs Q E hr h => ?_)
  · obtain ⟨A, W, M, m, x, v, rfl, _⟩ := h; rfl
  obtain ⟨A, W, M, m, x, v, rfl, C, ⟨N, kvs, Y⟩, ok, hm, hx, hv, hn, q⟩ := h
  have hu : (A0.deeper (envOfC "Turned.store" (defScope s_Turned_store) s.heap.objs.size (aR K true "store") cdv)).units + 1 < cLine := by have z := hr.units; omega
  refine ⟨_, pss_cons (ps_expr (qm (pv 0) (T.clR true) T.mU_turn_to (ok_U_turn_to T) hr (pa_cons (pv 1) pa_nil)))
    (pss_cons (ps_dput hu (pe_fld (pv 0) rfl) (pv 1) (pe_tup (pa_cons (pv 3) (pa_cons (qix (pe_fld (pv 0) rfl) (pv 3)) (pa_cons (pv 2) pa_nil)))) rfl)
    (pss_cons (ps_asg (pv 4) (pg_sub (pe_fld (pv 0) rfl) (pv 3) set_list))
    (pss_cons (ps_fld (pv 0) (pv 2) rfl)
    (pss_one (ps_expr (qm (pv 0) (T.clR true) (T.mR_add_steps true) (ok_R_add_steps T true) (hr.mono (by decide)) (pa_cons pe_int pa_nil))))))), ?_⟩
  have hNm := Y.hand.kept m hm
  refine ⟨_, rfl, _, _, _, rfl, C.hp, fsR_no (by decide +kernel), _, rfl, A, W, M.put m x v, M, N, kvs, m, rfl, C, rfl, Y, ok, hNm, fun c0 kv v0 H1 C1 Y1 k1 => ?_⟩
  have xy : A.x1 ≠ A.x2 := role_ne Y.r1 Y.r2 (by decide)
  have px : A.p ≠ A.x1 := role_ne C.rp Y.r1 (by decide)
  have py : A.p ≠ A.x2 := role_ne C.rp Y.r2 (by decide)
  have hx1 : H1 A.x1 = some (.lst ((List.range M.size).map fun p => .int (M.val m p))) := Y1.hx
  have hy1 : H1 A.x2 = some (.dK kv) := Y1.hy
  refine ⟨_, rfl, _, rfl, _, _, _, _, _, rfl, C1.hp, T.clR true, T.nU_lying, fsR_lying, _, rfl, _, _, _, .int (M.val m x), rfl, rfl, SqL.of hx1, atI_nat (rng_at _ _ hx), _, rfl, (by show 3 ≤ sizeLine; decide), fun t2 nt2 => ?_⟩
  have s2 : Same H1 (upd H1 t2 (.tup [V.int (x : Int), V.int (M.val m x), V.int (M.n : Int)])) := Same.new (Same.refl _) nt2
  have t22 : upd H1 t2 (.tup [V.int (x : Int), V.int (M.val m x), V.int (M.n : Int)]) t2 = some (.tup [V.int (x : Int), V.int (M.val m x), V.int (M.n : Int)]) := upd_same
  have k2 := (Keep.refl (W := W) (H := H1)).new (o := .tup [V.int (x : Int), V.int (M.val m x), V.int (M.n : Int)]) nt2
  generalize (upd H1 t2 (.tup [V.int (x : Int), V.int (M.val m x), V.int (M.n : Int)])) = H2 at s2 t22 k2 ⊢
  have C2 := C1.same s2
  have szk := Y1.sz
  have n64 := ok.n64
  refine ⟨_, rfl, _, _, _, _, _, rfl, C2.hp, T.clR true, T.nU_noted, fsR_noted, _, rfl, A.x2, _, rfl, DPut.k (k := (Sum.inl (m : Int) : Key)) (s2 _ _ hy1) (small1000 (by omega)), ?_⟩
  have fr : (Sum.inl (m : Int) : Key) ∉ kv.map (·.1) := fun z => by
    obtain ⟨q', hq, e⟩ := List.mem_map.mp z
    obtain ⟨y, e2, _, ne2⟩ := Y1.ky q' hq
    have e4 : (y : Int) = (m : Int) := Sum.inl.inj (e2.symm.trans e)
    have ne3 : y ≠ m := ne2
    omega
  have ek := putK_new (V.ref t2) (valV_new fr)
  have C3 := C2.off (a := A.x2) (o := .dK (putK kv (Sum.inl (m : Int)) (V.ref t2))) (.inr (by rw [Y.r2]; decide))
  have k3 := k2.set (a := A.x2) (o := .dK (putK kv (Sum.inl (m : Int)) (V.ref t2))) (.inl (by rw [Y.r2]; decide)) (s2 _ _ hy1) id
  have y3 : upd H2 A.x2 (.dK (putK kv (Sum.inl (m : Int)) (V.ref t2))) A.x2 = some (.dK (putK kv (Sum.inl (m : Int)) (V.ref t2))) := upd_same
  have x3 : upd H2 A.x2 (.dK (putK kv (Sum.inl (m : Int)) (V.ref t2))) A.x1 = _ := (upd_ne xy).trans (s2 _ _ hx1)
  have t3 : upd H2 A.x2 (.dK (putK kv (Sum.inl (m : Int)) (V.ref t2))) t2 = _ := (upd_ne (fun z => by rw [z, s2 _ _ hy1] at t22; cases t22)).trans t22
  generalize (upd H2 A.x2 (.dK (putK kv (Sum.inl (m : Int)) (V.ref t2)))) = H3 at C3 k3 y3 x3 t3 ⊢
  refine ⟨_, rfl, _, rfl, _, _, _, _, _, rfl, C3.hp, T.clR true, T.nU_lying, fsR_lying, _, rfl, A.x1, _, _, x, rfl, rfl, x3, (by rw [rng_len]; exact ixN_n hx), ?_⟩
  rw [rng_set]
  have C4 := C3.off (a := A.x1) (o := .lst ((List.range M.size).map fun j => if j = x then V.int v else V.int (M.val m j))) (.inr (by rw [Y.r1]; decide))
  have k4 := k3.set (a := A.x1) (o := .lst ((List.range M.size).map fun j => if j = x then V.int v else V.int (M.val m j))) (.inl (by rw [Y.r1]; decide)) x3 id
  have x4 : upd H3 A.x1 (.lst ((List.range M.size).map fun j => if j = x then V.int v else V.int (M.val m j))) A.x1 = some (.lst ((List.range M.size).map fun j => if j = x then V.int v else V.int (M.val m j))) := upd_same
  have y4 : upd H3 A.x1 (.lst ((List.range M.size).map fun j => if j = x then V.int v else V.int (M.val m j))) A.x2 = _ := (upd_ne xy.symm).trans y3
  have t4 : upd H3 A.x1 (.lst ((List.range M.size).map fun j => if j = x then V.int v else V.int (M.val m j))) t2 = _ := (upd_ne (fun z => by rw [z, x3] at t3; cases t3)).trans t3
  generalize (upd H3 A.x1 (.lst ((List.range M.size).map fun j => if j = x then V.int v else V.int (M.val m j)))) = H4 at C4 k4 x4 y4 t4 ⊢
  have hp4 : H4 A.p = some (.ins (CR K true) A.dx (fsR true M.size A.T.t A.aw A.ag c0 A.x1 A.x2 m)) := C4.hp
  refine ⟨_, rfl, _, rfl, _, _, _, _, rfl, hp4, T.clR true, T.nU_here, fsR_len, ?_⟩
  rw [putF_here]
  have C5 := C4.setp c0 A.x1 A.x2 M.n
  have k5 := k4.set (a := A.p) (o := .ins (CR K true) A.dx (fsR true M.size A.T.t A.aw A.ag c0 A.x1 A.x2 M.n)) (.inl (by rw [C.rp]; decide)) C4.hp id
  have e5 : ∀ a, a ≠ A.p → upd H4 A.p (.ins (CR K true) A.dx (fsR true M.size A.T.t A.aw A.ag c0 A.x1 A.x2 M.n)) a = H4 a := fun a h => upd_ne h
  have hp5 : upd H4 A.p (.ins (CR K true) A.dx (fsR true M.size A.T.t A.aw A.ag c0 A.x1 A.x2 M.n)) A.p = some (.ins (CR K true) A.dx (fsR true M.size A.T.t A.aw A.ag c0 A.x1 A.x2 M.n)) := upd_same
  have C5 : Com true { A with c := c0, here := M.n } K (upd H4 A.p (.ins (CR K true) A.dx (fsR true M.size A.T.t A.aw A.ag c0 A.x1 A.x2 M.n))) W (M.put m x v) := C5
  generalize (upd H4 A.p (.ins (CR K true) A.dx (fsR true M.size A.T.t A.aw A.ag c0 A.x1 A.x2 M.n))) = H5 at C5 k5 e5 hp5 ⊢
  refine ⟨_, rfl, _, _, _, rfl, hp5, fsR_no (by decide +kernel), A.p, A.dx, A.T.t, A.aw, A.ag, A.x1, A.x2, M.size, M.n, c0, _, rfl, hp5, ?_⟩
  have C6 := C5.setp (c0 + 1) A.x1 A.x2 M.n
  have k6 := k5.set (a := A.p) (o := .ins (CR K true) A.dx (fsR true M.size A.T.t A.aw A.ag (c0 + 1) A.x1 A.x2 M.n)) (.inl (by rw [C.rp]; decide)) hp5 id
  have e6 : ∀ a, a ≠ A.p → upd H5 A.p (.ins (CR K true) A.dx (fsR true M.size A.T.t A.aw A.ag (c0 + 1) A.x1 A.x2 M.n)) a = H4 a := fun a h => (upd_ne h).trans (e5 a h)
  have ok' := Mo.put_ok ok hm.1 hx hv hn
  have n1 := ok.n1
  have adj : Adj (M.put m x v).own M.n m := .inl ⟨putO_at, n1⟩
  have R6 := RowAt.of (M := M.put m x v) C6 ⟨fun y => N y ∨ y = M.n, putK kv (Sum.inl (m : Int)) (V.ref t2), ⟨?_, ?_, Y.r1, Y.r2, ?_, Mo.Hand.put ok (Y.hand.at hNm), ?_, ?_, ?_⟩⟩ ok'
  · exact q _ R6 (k1.trans k6)
  · refine (e6 _ px.symm).trans (x4.trans (congrArg (fun l => some (HO.lst l)) (rng_ext fun j hj => ?_)))
    have := Mo.put_valN (m := m) (p := x) (w := v) ok hm.1 j
    show _ = V.int ((M.put m x v).val M.n j)
    rw [this]
    split <;> rfl
  · exact (e6 _ py.symm).trans y4
  · rw [ek]; exact nd_snoc Y1.nd fr
  · intro y hy ny
    have ny' : y ≠ M.n := ny
    have hNy : N y := hy.resolve_right ny'
    have ly := Y.hand.lt y hNy
    by_cases z : y = m
    · subst z
      refine ⟨t2, by rw [valV_put, if_pos rfl], ?_⟩
      have tp : t2 ≠ A.p := fun z => by rw [z, C4.hp] at t4; cases t4
      refine (e6 _ tp).trans (t4.trans ?_)
      have e1 : (M.put y x v).pl M.n y = x := by
        unfold Mo.pl
        rw [if_pos (by have := abv_own ok'.wt n1; rw [show (M.put y x v).own M.n = y from putO_at] at this; exact this), tw_of_adj ok'.wt adj.symm]
        exact if_pos rfl
      show _ = some (HO.tup [V.int (((M.put y x v).pl M.n y : Nat) : Int), V.int ((M.put y x v).val y ((M.put y x v).pl M.n y)), V.int ((tw (M.put y x v).own M.n y : Nat) : Int)])
      rw [e1, tw_of_adj ok'.wt adj.symm, Mo.put_val ok ly]
    · obtain ⟨u, hu1, hu2⟩ := Y1.nt y hNy z
      refine ⟨u, ?_, ?_⟩
      · rw [valV_put, if_neg (fun e => z (by have : (y : Int) = (m : Int) := Sum.inl.inj e; omega))]
        exact hu1
      · have hu3 : H1 u = some (HO.tup [V.int ((M.pl m y : Nat) : Int), V.int (M.val y (M.pl m y)), V.int ((tw M.own m y : Nat) : Int)]) := hu2
        refine (k6.k _ _ hu3 (.inr trivial)).trans ?_
        have p1 := Mo.put_pl (m := m) (p := x) (w := v) ok hm.1 ly
        have p2 := Mo.pl_adj ok' (h := m) (m := M.n) (x := y) adj z ny'
        have p3 := Mo.put_tw (m := m) (p := x) (w := v) ok hm.1 ly
        have p4 := tw_adj_eq ok'.wt (h := m) (m := M.n) (x := y) adj z ny'
        show _ = some (HO.tup [V.int (((M.put m x v).pl M.n y : Nat) : Int), V.int ((M.put m x v).val y ((M.put m x v).pl M.n y)), V.int ((tw (M.put m x v).own M.n y : Nat) : Int)])
        rw [p2, p1, p4, p3, Mo.put_val ok ly]
  · intro q' hq
    rw [ek] at hq
    rcases List.mem_append.mp hq with hq | hq
    · obtain ⟨y, e1, e2, e3⟩ := Y1.ky q' hq
      exact ⟨y, e1, .inl e2, fun z => by have := Y.hand.lt y e2; have z' : y = M.n := z; omega⟩
    · have := List.mem_singleton.mp hq
      subst this
      exact ⟨m, rfl, .inl hNm, fun z => by have z' : m = M.n := z; have := hm.1; omega⟩
  · rw [ek, List.length_append]
    show kv.length + 1 ≤ M.n + 1
    omega
end
end MK

set_option Elab.async false
set_option linter.all false
set_option maxRecDepth 100000
set_option maxHeartbeats 4000000
/-! the turned way: needed_makes -/
namespace MK
open PySem PySem.Spec PyProof.Rows L2
theorem Nca.uniq {own : Nat → Nat} {a b r r' : Nat} (h : Nca own a b r) (h' : Nca own a b r') : r = r' := by
  have e1 := h.mx (dep own r') h'.da h'.db (h'.ea.trans h'.eb.symm)
  have e2 := h'.mx (dep own r) h.da h.db (h.ea.trans h.eb.symm)
  have e : dep own r = dep own r' := by omega
  rw [← h.ea, e, h'.ea]
theorem wayL_len (own : Nat → Nat) (a b r : Nat) : (wayL own a b r).length ≤ dep own a + 1 + dep own b := by
  unfold wayL
  rw [List.length_append, rng_len, rng_len]
  omega
theorem inl_nat {x y : Nat} (h : (Sum.inl (x : Int) : Key) = Sum.inl (y : Int)) : x = y := by
  have : (x : Int) = (y : Int) := Sum.inl.inj h
  omega
theorem keptL_ne {M : Mo} (ok : M.Ok) : ∃ k0, (keptL M)[0]? = some k0 := by
  obtain ⟨k, hk⟩ := ok.some
  have := mem_keptL.mpr hk
  cases e : keptL M with
  | nil => rw [e] at this; cases this
  | cons a l => exact ⟨a, rfl⟩
section
variable {P : Program} {w : World} {K : PySem.W.Frag} {mg : Str → Option Value} {base : Heap}
def spNeedM (K : PySem.W.Frag) : Sp := fun vs H Q _ => ∃ (p : Addr) (M : Mo), vs = [.ref p] ∧ RQ true K H p M ∧ M.Ok ∧
  ∀ (k0 : Nat) (d : Addr) (nk : List (Key × V)) (H' : Hp), (keptL M)[0]? = some k0 → H d = none → H' d = some (.dK nk) → (∀ k, M.kept k → ∃ r, Nca M.own k0 k r) →
    (∀ x : Nat, (valV nk (Sum.inl (x : Int) : Key)).isSome = true ↔ Need M.own M.kept k0 x) → Same H H' → Q (.ref d) H'
theorem ok_U_needed_makes (T : Tx K mg) : Fc P w K mg base 7 (aR K true "needed_makes") ["self"] (spNeedM K) := by
  refine Fc.mk' T.dU_needed_makes c_Turned_needed_makes (fun vs H Q E h => ?_) (fun _ _ _ _ _ _ us hl => match us, hl with | [_], _ => rfl) (fun cdv A0 outer s H vs Q E hr h => ?_)
  · obtain ⟨p, M, rfl, _⟩ := h; rfl
  obtain ⟨_, M, rfl, ⟨A, W, rfl, C⟩, ok, q⟩ := h
  have nd := c_Turned_needed_makes.nd
  have hu : (A0.deeper (envOfC "Turned.needed_makes" (defScope s_Turned_needed_makes) s.heap.objs.size (aR K true "needed_makes") cdv)).units + 1 < cLine := by have z := hr.units; omega
  refine ⟨_, pss_cons (ps_set (i := 1) nd rfl (.inl rfl) (qm0 (pv 0) (T.clR true) (T.mR_makes true) (ok_R_makes T true) (hr.mono (by decide))))
    (pss_cons (ps_set (i := 2) nd rfl (.inl rfl) (qm0 (pv 0) (T.clR true) (T.mR_tree true) (ok_R_tree T true) (hr.mono (by decide))))
    (pss_cons (ps_set (i := 3) nd rfl (.inl rfl) pe_dnewK)
    (pss_cons (ps_for PassesOwn.never rfl (pi_list (pv 1)) (pg_name (i := 4) nd rfl (.inl rfl))
      (pss_one (ps_for PassesOwn.never rfl (pi_list (qm (pv 2) T.clT T.mT_way (ok_T_way T) hr (pa_cons (qix (pv 1) pe_int) (pa_cons (pv 4) pa_nil)))) (pg_name (i := 5) nd rfl (.inl rfl))
        (pss_one (ps_dput hu (pv 3) (pv 5) pe_bl rfl)))))
    (pss_one (ps_ret (pv 3)))))), ?_⟩
  obtain ⟨k0, hk0⟩ := keptL_ne ok
  have kk0 := mem_keptL.mp (List.mem_of_getElem? hk0)
  have n64 := ok.n64
  refine ⟨_, rfl, _, _, _, rfl, C.hp, fsR_no (by decide +kernel), A.p, M, rfl, ⟨A, W, rfl, C⟩, n64, fun l H1 nl1 hl s1 => ?_⟩
  have C1 := C.same s1
  refine ⟨_, rfl, _, _, _, rfl, C1.hp, fsR_no (by decide +kernel), A.p, M, rfl, ⟨A, W, rfl, C1⟩, n64, fun A' W' H2 tr _ _ s2 => ?_⟩
  refine fun d nd2 => ?_
  have tq2 : TQ K H2 A'.t M.n M.own := ⟨A', W', rfl, tr⟩
  have s3 : Same H2 (upd H2 d (.dK [])) := Same.new (Same.refl _) nd2
  have d3 : upd H2 d (.dK []) d = some (.dK []) := upd_same
  generalize (upd H2 d (.dK [])) = H3 at s3 d3 ⊢
  have l3 := s3 _ _ (s2 _ _ hl)
  have tq3 := tq2.same s3
  have nd0 : H d = none := s1.free (s2.free nd2)
  have s03 : Same H H3 := fun a o e => s3 _ _ (s2 _ _ (s1 _ _ e))
  have klen : (keptL M).length ≤ 64 := by
    have := List.length_filter_le (fun i => !M.gone i) (List.range M.n)
    rw [List.length_range] at this
    unfold keptL
    omega
  have ld : l ≠ d := fun z => by rw [z, d3] at l3; cases l3
  refine ⟨_, rfl, l, rfl, ⟨_, SqL.of l3⟩, ?_⟩
  refine for_list (K := K) (a := l) (xs := nl (keptL M)) (fun i σ H4 => ∃ (nk : List (Key × V)) (v4 v5 : Option V), σ = [some (.ref A.p), some (.ref l), some (.ref A'.t), some (.ref d), v4, v5] ∧ H4 d = some (.dK nk) ∧ H4 l = some (.lst (nl (keptL M))) ∧
      Same H2 H4 ∧ Same H H4 ∧ nk.length ≤ i * 130 ∧ (∀ j k, j < i → (keptL M)[j]? = some k → ∃ r, Nca M.own k0 k r) ∧
      ∀ x : Nat, (valV nk (Sum.inl (x : Int) : Key)).isSome = true ↔ ∃ j k r, j < i ∧ (keptL M)[j]? = some k ∧ Nca M.own k0 k r ∧ x ∈ wayL M.own k0 k r)
    ⟨[], none, none, rfl, d3, l3, s3, s03, by simp, fun j k hj => (by omega), fun x => ⟨fun h => (nomatch h), fun ⟨j, k, r, hj, _⟩ => (by omega)⟩⟩ ?_ ?_ ?_
  · rintro i σ H4 _ ⟨nk, v4, v5, rfl, g1, g2, g3, g4, g5, g6, g7⟩
    exact SqL.of g2
  · rintro i x σ H4 hx ⟨nk, v4, v5, rfl, g1, g2, g3, g4, g5, g6, g7⟩
    obtain ⟨k, hk, rfl⟩ := nl_at hx
    have kk := mem_keptL.mp (List.mem_of_getElem? hk)
    have hi := (List.getElem?_eq_some_iff.mp hk).1
    have z0 : atI (nl (keptL M)) 0 = some (.int (k0 : Int)) := atI_nat (j := 0) (by unfold nl; rw [List.getElem?_map, hk0]; rfl)
    have tq4 := tq2.same g3
    obtain ⟨A4, W4, e4, tr4⟩ := id tq4
    have ht4 := tr4.ht
    rw [e4] at ht4
    refine ⟨_, rfl, _, _, _, rfl, ht4, fsT_no (by decide +kernel), _, rfl, _, _, _, _, rfl, rfl, SqL.of g2, z0, _, rfl, A'.t, M.n, k0, k, M.own, rfl, tq4, ok.wt, kk0.1, kk.1, n64, fun r u H5 hr5 nu5 hu5 s5 => ?_⟩
    have ud : u ≠ d := fun z => by rw [z, g1] at nu5; cases nu5
    have dk0 : dep M.own k0 ≤ k0 := dep_le ok.wt k0
    have dk : dep M.own k ≤ k := dep_le ok.wt k
    have wl := wayL_len M.own k0 k r
    have := kk0.1
    have := kk.1
    refine ⟨u, rfl, ⟨_, SqL.of hu5⟩, ?_⟩
    refine for_list (K := K) (a := u) (xs := nl (wayL M.own k0 k r)) (fun j σ H6 => ∃ (nk' : List (Key × V)) (v5 : Option V), σ = [some (.ref A.p), some (.ref l), some (.ref A'.t), some (.ref d), some (.int (k : Int)), v5] ∧ H6 d = some (.dK nk') ∧
        H6 l = some (.lst (nl (keptL M))) ∧ H6 u = some (.lst (nl (wayL M.own k0 k r))) ∧ Same H2 H6 ∧ Same H H6 ∧ nk'.length ≤ i * 130 + j ∧
        ∀ x : Nat, (valV nk' (Sum.inl (x : Int) : Key)).isSome = true ↔ (valV nk (Sum.inl (x : Int) : Key)).isSome = true ∨ x ∈ (wayL M.own k0 k r).take j)
      ⟨nk, _, rfl, s5 _ _ g1, s5 _ _ g2, hu5, (fun a o e => s5 _ _ (g3 _ _ e)), (fun a o e => s5 _ _ (g4 _ _ e)), g5, fun x => by simp⟩ ?_ ?_ ?_
    · rintro j σ H6 _ ⟨nk', v5, rfl, f1, f2, f3, f4, f5, f6, f7⟩
      exact SqL.of f3
    · rintro j x σ H6 hx ⟨nk', v5, rfl, f1, f2, f3, f4, f5, f6, f7⟩
      obtain ⟨y, hy, rfl⟩ := nl_at hx
      have hj := (List.getElem?_eq_some_iff.mp hy).1
      have sz : nk'.length ≤ 9000 := by omega
      refine ⟨_, rfl, _, rfl, d, _, rfl, DPut.k (k := (Sum.inl (y : Int) : Key)) f1 (Nat.lt_of_le_of_lt sz (by decide)), putK nk' (Sum.inl (y : Int)) (.bl true), _, rfl, upd_same, (upd_ne ld).trans f2, (upd_ne ud).trans f3, Same.set f4 nd2, fun a o e => ?_, ?_, fun x => ?_⟩
      · rw [upd_ne (ne_of_none e nd0)]; exact f5 _ _ e
      · have := putK_le nk' (Sum.inl (y : Int) : Key) (.bl true)
        omega
      · rw [valV_put, take_at hy, List.mem_append, List.mem_singleton]
        by_cases z : x = y
        · subst z
          rw [if_pos rfl]
          exact ⟨fun _ => .inr (.inr rfl), fun _ => rfl⟩
        · rw [if_neg (fun e => z (inl_nat e)), f7 x]
          exact ⟨fun h => h.elim .inl fun h => .inr (.inl h), fun h => h.elim .inl fun h => h.elim .inr fun h => absurd h z⟩
    · rintro σ H6 ⟨nk', v5, rfl, f1, f2, f3, f4, f5, f6, f7⟩
      rw [nl_len] at f6 f7
      rw [List.take_length] at f7
      refine ⟨nk', _, _, rfl, f1, f2, f4, f5, by omega, fun j k' hj hk' => ?_, fun x => ?_⟩
      · by_cases z : j = i
        · rw [z, hk] at hk'
          cases hk'
          exact ⟨r, hr5⟩
        · exact g6 j k' (by omega) hk'
      · rw [f7 x, g7 x]
        constructor
        · rintro (⟨j, k', r', h1, h2, h3, h4⟩ | h)
          · exact ⟨j, k', r', by omega, h2, h3, h4⟩
          · exact ⟨i, k, r, by omega, hk, hr5, h⟩
        · rintro ⟨j, k', r', h1, h2, h3, h4⟩
          by_cases z : j = i
          · rw [z, hk] at h2
            cases h2
            rw [h3.uniq hr5] at h4
            exact .inr h4
          · exact .inl ⟨j, k', r', by omega, h2, h3, h4⟩
  · rintro σ H4 ⟨nk, v4, v5, rfl, g1, g2, g3, g4, g5, g6, g7⟩
    rw [nl_len] at g6 g7
    have all : ∀ k, M.kept k → ∃ j, j < (keptL M).length ∧ (keptL M)[j]? = some k := fun k hk => by
      obtain ⟨j, hj, e⟩ := List.mem_iff_getElem.mp (mem_keptL.mpr hk)
      exact ⟨j, hj, by rw [List.getElem?_eq_getElem hj, e]⟩
    refine ⟨_, rfl, q k0 d nk H4 hk0 nd0 g1 (fun k hk => ?_) (fun x => ?_) g4⟩
    · obtain ⟨j, hj, e⟩ := all k hk
      exact g6 j k hj e
    · rw [g7 x]
      constructor
      · rintro ⟨j, k, r, hj, e, h1, h2⟩
        exact ⟨k, mem_keptL.mp (List.mem_of_getElem? e), r, h1, h2⟩
      · rintro ⟨k, hk, r, h1, h2⟩
        obtain ⟨j, hj, e⟩ := all k hk
        exact ⟨j, k, r, hj, e, h1, h2⟩
end
end MK

set_option Elab.async false
set_option linter.all false
set_option maxRecDepth 100000
set_option maxHeartbeats 4000000
/-! the turned way: freed -/
namespace MK
open PySem PySem.Spec PyProof.Rows L2
def keyI : Key → Int
  | .inl i => i
  | .inr _ => 0
theorem nodup_of_map {α β : Type} {f : α → β} {l : List α} (h : (l.map f).Nodup) : l.Nodup := List.Pairwise.of_map f (fun a b z e => z (congrArg f e)) h
section
variable {P : Program} {w : World} {K : PySem.W.Frag} {mg : Str → Option Value} {base : Heap}
theorem ok_U_freed (T : Tx K mg) : Fc P w K mg base 8 (aR K true "freed") ["self", "make"] (spFreed true K) := by
  refine Fc.mk' T.dU_freed c_Turned_freed (fun vs H Q E h => ?_) (fun _ _ _ _ _ _ us hl => match us, hl with | [_, _], _ => rfl) (fun cdv A0 outer s H vs Q E hr h => ?_)
  · obtain ⟨p, m, W, M, rfl, _⟩ := h; rfl
  obtain ⟨_, m, W, M, rfl, ⟨⟨A, rfl, C, N, kvs, Y⟩, ok⟩, q⟩ := h
  have nd := c_Turned_freed.nd
  have hu : (A0.deeper (envOfC "Turned.freed" (defScope s_Turned_freed) s.heap.objs.size (aR K true "freed") cdv)).units + 1 < cLine := by have z := hr.units; omega
  refine ⟨_, pss_cons (ps_set (i := 2) nd rfl (.inr rfl) (qm0 (pv 0) (T.clR true) T.mU_needed_makes (ok_U_needed_makes T) hr))
    (pss_cons (ps_for PassesOwn.never rfl (pi_list (qm (qm0 (pv 0) (T.clR true) (T.mR_tree true) (ok_R_tree T true) (hr.mono (by decide))) T.clT T.mT_way (ok_T_way T) (hr.mono (by decide))
        (pa_cons (pe_fld (pv 0) rfl) (pa_cons (qix (qm0 (pv 0) (T.clR true) (T.mR_makes true) (ok_R_makes T true) (hr.mono (by decide))) pe_int) pa_nil)))) (pg_name (i := 3) nd rfl (.inl rfl))
      (pss_one (ps_if (pt_cmp (pc_dnotin hu (pe_fld (pv 0) rfl) (pv 2))) (pss_one (ps_if (pt_cmpR op_ne (pv 3) (pe_fld (pv 0) rfl) (nomark _))
        (pss_one (ps_expr (qm (pv 0) (T.clR true) T.mU_turn (ok_U_turn T) (hr.mono (by decide)) (pa_cons (pv 3) pa_nil)))) pss_nil)) pss_nil)))
    (pss_cons (ps_set (i := 4) nd rfl (.inl rfl) (pe_callB cr_sortedI rfl T.f_sorted (by decide +kernel) (pa_cons (pe_lock (pe_lc (own := [("step", 3)]) (g := gName 3) (tt := tB (tDNotIn (tVar 3) (tVar 2))) rfl nd
        (pi_keys (pe_fld (pv 0) rfl)) (blkOk_by (N := ["self", "make", "needed", "step", "found"]) (sc := defScope s_Turned_freed) (by decide +kernel))
        (fun _ _ _ _ _ => pg_name (i := 3) nd rfl (.inl rfl)) (fun _ _ _ _ _ => pts_one (pt_cmp (pc_dnotin hu (pv 3) (pv 2)))) (fun _ _ _ _ _ => pv 3))) pa_nil)))
    (pss_cons (ps_for PassesOwn.never rfl (pi_list (pv 4)) (pg_name (i := 3) nd rfl (.inl rfl))
      (pss_one (ps_expr (pe_dpop1 (pe_fld (pv 0) rfl) (pv 3) ⟨rfl, rfl, rfl, rfl⟩))))
    (pss_one (ps_ret (pv 4)))))), ?_⟩
  have n64 := ok.n64
  refine ⟨_, rfl, _, _, _, rfl, C.hp, fsR_no (by decide +kernel), A.p, M, rfl, ⟨A, W, rfl, C⟩, ok, fun k0 d nk H1 hk0 nd0 hd1 hnca hneed s1 => ?_⟩
  have kk0 := mem_keptL.mp (List.mem_of_getElem? hk0)
  have C1 := C.same s1
  refine ⟨_, rfl, _, _, _, rfl, C1.hp, fsR_no (by decide +kernel), A.p, M, rfl, ⟨A, W, rfl, C1⟩, n64, fun A' W' H2 tr _ _ s2 => ?_⟩
  have C2 := C1.same s2
  have tq2 : TQ K H2 A'.t M.n M.own := ⟨A', W', rfl, tr⟩
  have z0 : ∀ {l : Addr}, atI (nl (keptL M)) 0 = some (.int (k0 : Int)) := atI_nat (j := 0) (by unfold nl; rw [List.getElem?_map, hk0]; rfl)
  refine ⟨_, _, _, rfl, tr.ht, fsT_no (by decide +kernel), _, rfl, _, _, _, _, _, rfl, C2.hp, T.clR true, T.nU_here, fsR_here, _, rfl, _, _, _, rfl, C2.hp, fsR_no (by decide +kernel), A.p, M, rfl, ⟨A, W, rfl, C2⟩, n64, fun l H3 nl3 hl3 s3 => ?_⟩
  have hh := Y.hand.lt _ Y.hand.here
  refine ⟨_, _, _, _, rfl, rfl, SqL.of hl3, z0 (l := l), A'.t, M.n, A.here, k0, M.own, rfl, tq2.same s3, ok.wt, hh, kk0.1, n64, fun r u H5 hr5 nu5 hu5 s5 => ?_⟩
  have s05 : Same H H5 := fun a o e => s5 _ _ (s3 _ _ (s2 _ _ (s1 _ _ e)))
  have d5 := s5 _ _ (s3 _ _ (s2 _ _ hd1))
  have Wd : W d = 0 := C.has.new nd0
  have Wu : W u = 0 := C.has.new (s1.free (s2.free (s3.free nu5)))
  obtain ⟨t0, S0⟩ := Y.hand.sub
  have hNk0 := Y.hand.kept k0 kk0
  have onw := S0.way ok.wt Y.hand.here hNk0 hr5
  have Y5 : TuW A H5 W M N kvs := Y.at' ((s05 _ _ Y.hx).trans Y.hx.symm) ((s05 _ _ Y.hy).trans Y.hy.symm) fun t xs e => s05 _ _ e
  refine ⟨u, rfl, ⟨_, SqL.of hu5⟩, ?_⟩
  refine for_list (K := K) (a := u) (xs := nl (wayL M.own A.here k0 r)) (fun i σ H6 => ∃ (c : Int) (h : Nat) (kv : List (Key × V)) (v3 : Option V), σ = [some (.ref A.p), some (.int (m : Int)), some (.ref d), v3, none] ∧
      Com true { A with c := c, here := h } K H6 W M ∧ TuW { A with c := c, here := h } H6 W M N kv ∧ Keep W H5 H6 ∧ (Need M.own M.kept k0 h ∨ h = wv M.own A.here k0 r (i - 1)))
    ⟨A.c, A.here, kvs, none, rfl, C.same s05, Y5, Keep.refl, .inr wv_zero.symm⟩ ?_ ?_ ?_
  · rintro i σ H6 _ ⟨c, h, kv, v3, rfl, C6, Y6, k6, nh⟩
    exact SqL.of (k6.k _ _ hu5 (.inl Wu))
  · rintro i x σ H6 hx ⟨c, h, kv, v3, rfl, C6, Y6, k6, nh⟩
    obtain ⟨y, hy, rfl⟩ := nl_at hx
    have d6 := k6.k _ _ d5 (.inl Wd)
    have hi := (List.getElem?_eq_some_iff.mp hy).1
    have ey : y = wv M.own A.here k0 r i := by
      rw [wayL_eq] at hy hi
      rw [rng_len] at hi
      rw [rng_at _ _ hi] at hy
      exact (Option.some.inj hy).symm
    have hi' : i < dep M.own A.here - dep M.own r + 1 + (dep M.own k0 - dep M.own r) := by
      rw [wayL_eq, rng_len] at hi
      exact hi
    refine ⟨_, rfl, _, _, _, _, _, rfl, C6.hp, T.clR true, T.nU_here, fsR_here, _, rfl, d, _, rfl, DGet.k (k := (Sum.inl (h : Int) : Key)) d6, _, rfl, ?_⟩
    cases e : (valV nk (Sum.inl (h : Int) : Key)).isSome with
    | true =>
      refine iteF ⟨c, h, kv, _, rfl, C6, Y6, k6, .inl ((hneed h).mp e)⟩
    | false =>
      have nn : ¬ Need M.own M.kept k0 h := fun z => by
        have := (hneed h).mpr z
        rw [e] at this; cases this
      have eh := nh.resolve_left nn
      refine iteT ?_
      refine ⟨_, rfl, _, rfl, _, _, _, _, _, rfl, C6.hp, T.clR true, T.nU_here, fsR_here, rfl, _, rfl, ?_⟩
      by_cases z : y = h
      · refine iteNS (by rw [z]) ?_
        exact ⟨c, h, kv, _, rfl, C6, Y6, k6, .inr (by rw [← z, ey, Nat.add_sub_cancel])⟩
      · refine iteNN (fun w => z (by have w' : (y : Int) = (h : Int) := V.int.inj w; omega)) ?_
        have i0 : 0 < i := by
          rcases Nat.eq_zero_or_pos i with w | w
          · exfalso
            rw [w] at ey eh
            exact z (ey.trans eh.symm)
          · exact w
        have adj := wv_adj ok.wt (i := i - 1) hr5 (by omega)
        rw [show i - 1 + 1 = i by omega, ← ey, ← eh] at adj
        have hNy : N y := onw y (by rw [ey]; exact wv_mem hi')
        refine ⟨_, rfl, _, _, _, rfl, C6.hp, fsR_no (by decide +kernel), _, rfl, { A with c := c, here := h }, W, M, M, N, kv, y, rfl, C6, rfl, Y6, ok, hNy, z, adj, fun c' kv' H7 C7 Y7 k7 => ?_⟩
        exact ⟨c', y, kv', _, rfl, C7, Y7, k6.trans k7, .inr (by rw [ey, Nat.add_sub_cancel])⟩
  · rintro σ H6 ⟨c, h, kv, v3, rfl, C6, Y6, k6, nh⟩
    have nh' : Need M.own M.kept k0 h := by
      rcases nh with z | z
      · exact z
      · rw [nl_len, wayL_eq, rng_len, show dep M.own A.here - dep M.own r + 1 + (dep M.own k0 - dep M.own r) - 1 = dep M.own A.here - dep M.own r + (dep M.own k0 - dep M.own r) by omega, wv_last hr5] at z
        obtain ⟨r0, hr0⟩ := hnca k0 kk0
        exact ⟨k0, kk0, r0, hr0, by rw [z]; exact way_a hr0⟩
    have d6 := k6.k _ _ d5 (.inl Wd)
    have y6 : H6 A.x2 = some (.dK kv) := Y6.hy
    have dx2 : d ≠ A.x2 := fun z => by rw [z, Y.r2] at Wd; cases Wd
    refine ⟨A.x2, .dK kv, y6, trivial, fun od => ?_⟩
    have px2 : A.p ≠ A.x2 := role_ne C.rp Y.r2 (by decide)
    have hp7 : upd H6 A.x2 (.frz od (.dK kv)) A.p = _ := (upd_ne px2).trans C6.hp
    have y7 : upd H6 A.x2 (.frz od (.dK kv)) A.x2 = some (.frz od (.dK kv)) := upd_same
    have d7 : upd H6 A.x2 (.frz od (.dK kv)) d = _ := (upd_ne dx2).trans d6
    have b7 : ∀ a, a ≠ A.x2 → upd H6 A.x2 (.frz od (.dK kv)) a = H6 a := fun a h => upd_ne h
    generalize (upd H6 A.x2 (.frz od (.dK kv))) = H7 at hp7 y7 d7 b7 ⊢
    refine ⟨_, rfl, _, _, _, _, _, rfl, hp7, T.clR true, T.nU_noted, fsR_noted, A.x2, od, rfl, .inl ⟨kv, y7, fun D nD => ?_⟩⟩
    have Dx2 : D ≠ A.x2 := fun z => by rw [z, y7] at nD; cases nD
    have nD6 : H6 D = none := (b7 D Dx2).symm.trans nD
    have szk := Y6.sz
    refine lc_it (walk_keys (d := A.x2) (o := od) (kvs := kv)) (fun i H8 => H8 D = some (.lst ((((kv.take i).filter fun q => !(valV nk q.1).isSome).map fun q => keyI q.1).map V.int)) ∧ Same H7 H8) ⟨upd_same, Same.new (Same.refl _) nD⟩ (fun i H8 _ h => h.2 _ _ y7) ?_ ?_
    · rintro i x H8 H9 hi ⟨h1, h2⟩ ⟨rfl, k, v, hk, rfl⟩
      have hmem := List.mem_of_getElem? hk
      obtain ⟨y, ek, _, _⟩ := Y6.ky _ hmem
      have ek' : k = Sum.inl (y : Int) := ek
      subst ek'
      refine ⟨rfl, _, rfl, _, rfl, d, _, rfl, DGet.k (k := (Sum.inl (y : Int) : Key)) (h2 _ _ d7), _, rfl, ?_⟩
      rw [take_at hk, List.filter_append]
      cases e : (valV nk (Sum.inl (y : Int) : Key)).isSome with
      | true =>
        refine iteF ⟨?_, h2⟩
        rw [List.filter_cons_of_neg (by rw [e]; decide), List.filter_nil, List.append_nil]
        exact h1
      | false =>
        refine iteT ⟨_, rfl, _, h1, ?_, ?_, Same.set h2 nD⟩
        · rw [List.length_map, List.length_map]
          have := List.length_filter_le (fun q => !(valV nk q.1).isSome) (kv.take i)
          rw [List.length_take] at this
          exact small1000 (by omega)
        · rw [upd_same, List.filter_cons_of_pos (by rw [e]; rfl), List.filter_nil, List.map_append, List.map_append]; rfl
    · rintro H8 ⟨h1, h2⟩
      rw [List.take_length] at h1
      generalize hns : ((kv.filter fun q => !(valV nk q.1).isSome).map fun q => keyI q.1) = ns at h1
      have b8 : Same H6 (upd H8 A.x2 (.dK kv)) := fun a o e => by
        by_cases z : a = A.x2
        · rw [z, y6] at e; rw [z, upd_same]; exact e
        · rw [upd_ne z]; exact h2 _ _ ((b7 a z).trans e)
      have D9 : upd H8 A.x2 (.dK kv) D = _ := (upd_ne Dx2).trans h1
      refine ⟨h2 _ _ y7, ?_⟩
      generalize (upd H8 A.x2 (.dK kv)) = H9 at b8 D9 ⊢
      refine ⟨D, ns, rfl, SqL.of D9, fun ns' l pm _ nl9 => ?_⟩
      have b10 : Same H6 (upd H9 l (.lst (ns'.map V.int))) := Same.new b8 nl9
      have l10 : upd H9 l (.lst (ns'.map V.int)) l = some (.lst (ns'.map V.int)) := upd_same
      generalize (upd H9 l (.lst (ns'.map V.int))) = H10 at b10 l10 ⊢
      have Wl : W l = 0 := C6.has.new (b8.free nl9)
      have lx : l ≠ A.x2 := fun z => by rw [z, Y.r2] at Wl; cases Wl
      have C10 := C6.same b10
      have ndns : ns'.Nodup := by
        refine pm.nodup_iff.mpr ?_
        rw [← hns]
        refine nodup_map_on (fun a ha b hb e => ?_) (nodup_of_map (f := (·.1)) (Y6.nd.sublist ((List.filter_sublist (p := fun q : Key × V => !(valV nk q.1).isSome)).map (·.1))))
        have ha' := (List.mem_filter.mp ha).1
        have hb' := (List.mem_filter.mp hb).1
        obtain ⟨y, e1, _, _⟩ := Y6.ky a ha'
        obtain ⟨z, e2, _, _⟩ := Y6.ky b hb'
        rw [e1, e2] at e
        have e3 : a.1 = b.1 := by rw [e1, e2]; exact congrArg Sum.inl e
        obtain ⟨i, hi, ei⟩ := List.mem_iff_getElem.mp ha'
        obtain ⟨j, hj, ej⟩ := List.mem_iff_getElem.mp hb'
        have ni : (kv.map (·.1))[i]'(by rw [List.length_map]; exact hi) = (kv.map (·.1))[j]'(by rw [List.length_map]; exact hj) := by
          rw [List.getElem_map, List.getElem_map, ei, ej]; exact e3
        have := (List.getElem_inj Y6.nd).mp ni
        subst this
        exact ei.symm.trans ej
      have mem_ns : ∀ x : Nat, (x : Int) ∈ ns' ↔ (∃ v, ((Sum.inl (x : Int) : Key), v) ∈ kv) ∧ (valV nk (Sum.inl (x : Int) : Key)).isSome = false := fun x => by
        rw [pm.mem_iff, ← hns, List.mem_map]
        constructor
        · rintro ⟨q', hq, e⟩
          have hq1 := (List.mem_filter.mp hq).1
          have hq2 := (List.mem_filter.mp hq).2
          obtain ⟨y, e1, _, _⟩ := Y6.ky q' hq1
          rw [e1] at e
          have e4 : y = x := by have : (y : Int) = (x : Int) := e; omega
          subst e4
          refine ⟨⟨q'.2, by rw [← e1]; exact hq1⟩, ?_⟩
          rw [e1] at hq2
          simpa using hq2
        · rintro ⟨⟨v, hv⟩, h2⟩
          exact ⟨_, List.mem_filter.mpr ⟨hv, by show (!(valV nk (Sum.inl (x : Int) : Key)).isSome) = true; rw [h2]; rfl⟩, rfl⟩
      have ns_nat : ∀ n ∈ ns', ∃ x : Nat, n = (x : Int) := fun n hn => by
        rw [pm.mem_iff, ← hns, List.mem_map] at hn
        obtain ⟨q', hq, e⟩ := hn
        obtain ⟨y, e1, _, _⟩ := Y6.ky q' (List.mem_filter.mp hq).1
        rw [e1] at e
        exact ⟨y, e.symm⟩
      refine ⟨_, rfl, l, rfl, ⟨_, SqL.of l10⟩, ?_⟩
      refine for_list (K := K) (a := l) (xs := ns'.map V.int) (fun i σ H11 => ∃ (kv' : List (Key × V)) (v3 : Option V), σ = [some (.ref A.p), some (.int (m : Int)), some (.ref d), v3, some (.ref l)] ∧ H11 A.x2 = some (.dK kv') ∧ H11 l = some (.lst (ns'.map V.int)) ∧
          Keep W H10 H11 ∧ Com true { A with c := c, here := h } K H11 W M ∧ H11 A.x1 = H6 A.x1 ∧ (kv'.map (·.1)).Nodup ∧ (∀ q ∈ kv', q ∈ kv) ∧ kv'.length ≤ kv.length ∧ (∀ k, k ∉ (ns'.take i).map (Sum.inl : Int → Key) → valV kv' k = valV kv k) ∧
          ∀ q ∈ kv', q.1 ∉ (ns'.take i).map (Sum.inl : Int → Key))
        ⟨kv, _, rfl, b10 _ _ y6, l10, Keep.refl, C10, (b10 _ _ Y6.hx).trans Y6.hx.symm, Y6.nd, fun q hq => hq, Nat.le_refl _, fun k _ => rfl, fun q _ h => (nomatch h)⟩ ?_ ?_ ?_
      · rintro i σ H11 _ ⟨kv', v3, rfl, f1, f2, f3, f4, f5, f6, f7, f8, f9, f10⟩
        exact SqL.of f2
      · rintro i x σ H11 hx ⟨kv', v3, rfl, f1, f2, f3, f4, f5, f6, f7, f8, f9, f10⟩
        rw [List.getElem?_map] at hx
        obtain ⟨n, hn, rfl⟩ : ∃ n, ns'[i]? = some n ∧ V.int n = x := by
          cases e : ns'[i]? with
          | none => rw [e] at hx; cases hx
          | some n => rw [e] at hx; exact ⟨n, rfl, Option.some.inj hx⟩
        obtain ⟨y, ey⟩ := ns_nat n (List.mem_of_getElem? hn)
        have hym := List.mem_of_getElem? hn
        rw [ey] at hym
        obtain ⟨⟨v0, hv0⟩, _⟩ := (mem_ns y).mp hym
        have nin : (Sum.inl n : Key) ∉ (ns'.take i).map (Sum.inl : Int → Key) := fun z => by
          obtain ⟨n2, hn2, e2⟩ := List.mem_map.mp z
          have e3 : n2 = n := Sum.inl.inj e2
          rw [e3] at hn2
          obtain ⟨j, hj, ej⟩ := List.mem_iff_getElem.mp hn2
          rw [List.length_take] at hj
          rw [List.getElem_take] at ej
          obtain ⟨hi1, hi2⟩ := List.getElem?_eq_some_iff.mp hn
          have := (List.getElem_inj (h₀ := by omega) (h₁ := hi1) ndns).mp (ej.trans hi2.symm)
          omega
        obtain ⟨v, hv⟩ := valV_mem (kvs := kv) (k := (Sum.inl n : Key)) (List.mem_map.mpr ⟨_, hv0, by rw [ey]⟩)
        refine ⟨_, rfl, _, _, _, _, _, rfl, f4.hp, T.clR true, T.nU_noted, fsR_noted, A.x2, rfl, .inl ⟨_, .inl f1⟩, _, rfl, kv', Sum.inl n, v, f1, rfl, (f9 _ nin).trans hv, ?_⟩
        have x12 : A.x1 ≠ A.x2 := role_ne Y.r1 Y.r2 (by decide)
        refine ⟨dropK kv' (Sum.inl n), _, rfl, upd_same, (upd_ne lx).trans f2, f3.set (.inl (by rw [Y.r2]; decide)) f1 id, f4.off (.inr (by rw [Y.r2]; decide)), (upd_ne x12).trans f5, nd_drop f6, fun q hq => f7 q (dropK_mem hq), Nat.le_trans (dropK_le _ _) f8, fun k hk => ?_, fun q hq => ?_⟩
        · rw [take_at hn, List.map_append, List.mem_append, not_or] at hk
          rw [valV_drop, if_neg (fun z => hk.2 (by rw [z]; simp))]
          exact f9 k hk.1
        · rw [take_at hn, List.map_append, List.mem_append, not_or]
          refine ⟨f10 q (dropK_mem hq), fun z => ?_⟩
          have z' : q.1 = Sum.inl n := by simpa using z
          have := (List.mem_filter.mp hq).2
          rw [z'] at this
          simp at this
      · rintro σ H11 ⟨kv', v3, rfl, f1, f2, f3, f4, f5, f6, f7, f8, f9, f10⟩
        rw [List.length_map, List.take_length] at f9 f10
        have k11 : Keep W H H11 := ((Keep.same s05).trans k6).trans ((Keep.same b10).trans f3)
        have R11 := RowAt.of f4 (M := M) ⟨fun x => N x ∧ Need M.own M.kept k0 x, kv', ⟨f5.trans Y6.hx, f1, Y.r1, Y.r2, f6, Mo.Hand.freed ok Y6.hand kk0 hnca nh', ?_, ?_, Nat.le_trans f8 Y6.sz⟩⟩ ok
        · exact ⟨_, rfl, q _ H11 R11 k11⟩
        · rintro x ⟨hx1, hx2⟩ nx
          obtain ⟨t, ht1, ht2⟩ := Y6.nt x hx1 nx
          refine ⟨t, ?_, f3.k _ _ (b10 _ _ ht2) (.inr trivial)⟩
          rw [f9 _ fun z => ?_]
          · exact ht1
          · obtain ⟨n, hn, e⟩ := List.mem_map.mp z
            have e' : n = (x : Int) := Sum.inl.inj e
            rw [e'] at hn
            have := ((mem_ns x).mp hn).2
            rw [(hneed x).mpr hx2] at this
            cases this
        · intro q' hq
          obtain ⟨y, e1, e2, e3⟩ := Y6.ky q' (f7 q' hq)
          refine ⟨y, e1, ⟨e2, (hneed y).mp ?_⟩, e3⟩
          cases e : (valV nk (Sum.inl (y : Int) : Key)).isSome with
          | true => rfl
          | false =>
            exfalso
            refine f10 q' hq ?_
            rw [e1]
            exact List.mem_map.mpr ⟨_, (mem_ns y).mpr ⟨⟨q'.2, by rw [← e1]; exact f7 q' hq⟩, e⟩, rfl⟩
end
end MK

set_option Elab.async false
set_option linter.all false
set_option maxRecDepth 100000
set_option maxHeartbeats 4000000
/-! rows of either way: __init__ -/
namespace MK
open PySem PySem.Spec PyProof.Rows L2
/-- the row of these worths with make 0 alone -/
def M0 (ns : List Int) : Mo := { n := 1, size := ns.length, own := fun _ => 0, wrote := fun _ => 0, worth := fun _ => 0, gone := fun _ => false, first := fun i => ns.getD i 0 }
theorem M0_ok {ns : List Int} (h1 : 1 ≤ ns.length) (h2 : ns.length ≤ 16) (h : ∀ n ∈ ns, okW n) : (M0 ns).Ok := by
  refine ⟨⟨rfl, fun k hk => hk⟩, Nat.le_refl _, by show 1 ≤ 64; decide, h1, h2, fun i a c => ?_, fun i a c => ?_, fun p hp => ?_, 0, Nat.zero_lt_one, rfl⟩
  · have : i < 1 := c
    omega
  · have : i < 1 := c
    omega
  · have hp' : p < ns.length := hp
    show okW (ns.getD p 0)
    rw [List.getD_eq_getElem?_getD, List.getElem?_eq_getElem hp']
    exact h _ (List.getElem_mem hp')
theorem M0_list (ns : List Int) (m : Nat) (f : Nat → Int) (hf : ∀ p, p < ns.length → f p = ns.getD p 0) : (List.range ns.length).map (fun p => V.int (f p)) = ns.map V.int := by
  apply List.ext_getElem
  · simp
  · intro i h1 h2
    rw [List.length_map] at h2
    simp only [List.getElem_map, List.getElem_range]
    rw [hf i h2, List.getD_eq_getElem?_getD, List.getElem?_eq_getElem h2]; rfl
def rowW (b : Bool) (p aw ag x1 x2 : Addr) (Wt : Ow) : Ow := fun y => if y = p then 6 else if y = aw then 7 else if y = ag then 8 else if y = x1 then 9 else if b = true ∧ y = x2 then 10 else Wt y
section
variable {b : Bool} {p aw ag x1 x2 : Addr} {Wt : Ow}
theorem rowW_t (h1 : Wt p = 0) (h2 : Wt aw = 0) (h3 : Wt ag = 0) (h4 : Wt x1 = 0) (h5 : b = true → Wt x2 = 0) {y : Addr} {i : Nat} (h : Wt y = i) (hi : i ≠ 0) : rowW b p aw ag x1 x2 Wt y = i := by
  subst h
  unfold rowW
  rw [if_neg (fun z => hi (by rw [z]; exact h1)), if_neg (fun z => hi (by rw [z]; exact h2)), if_neg (fun z => hi (by rw [z]; exact h3)), if_neg (fun z => hi (by rw [z]; exact h4)), if_neg (fun z => hi (by rw [z.2]; exact h5 z.1))]
theorem rowW_p : rowW b p aw ag x1 x2 Wt p = 6 := if_pos rfl
theorem rowW_w (h : aw ≠ p) : rowW b p aw ag x1 x2 Wt aw = 7 := by unfold rowW; rw [if_neg h, if_pos rfl]
theorem rowW_g (h : ag ≠ p) (h2 : ag ≠ aw) : rowW b p aw ag x1 x2 Wt ag = 8 := by unfold rowW; rw [if_neg h, if_neg h2, if_pos rfl]
theorem rowW_x (h : x1 ≠ p) (h2 : x1 ≠ aw) (h3 : x1 ≠ ag) : rowW b p aw ag x1 x2 Wt x1 = 9 := by unfold rowW; rw [if_neg h, if_neg h2, if_neg h3, if_pos rfl]
theorem rowW_y (hb : b = true) (h : x2 ≠ p) (h2 : x2 ≠ aw) (h3 : x2 ≠ ag) (h4 : x2 ≠ x1) : rowW b p aw ag x1 x2 Wt x2 = 10 := by unfold rowW; rw [if_neg h, if_neg h2, if_neg h3, if_neg h4, if_pos ⟨hb, rfl⟩]
theorem rowW_of {Pr : Addr → Prop} {y : Addr} (h : rowW b p aw ag x1 x2 Wt y ≠ 0) (h1 : Pr p) (h2 : Pr aw) (h3 : Pr ag) (h4 : Pr x1) (h5 : b = true → Pr x2) (h6 : Wt y ≠ 0 → Pr y) : Pr y := by
  unfold rowW at h
  by_cases z : y = p
  · rw [z]; exact h1
  rw [if_neg z] at h
  by_cases z : y = aw
  · rw [z]; exact h2
  rw [if_neg z] at h
  by_cases z : y = ag
  · rw [z]; exact h3
  rw [if_neg z] at h
  by_cases z : y = x1
  · rw [z]; exact h4
  rw [if_neg z] at h
  by_cases z : b = true ∧ y = x2
  · rw [z.2]; exact h5 z.1
  rw [if_neg z] at h
  exact h6 h
end
section
variable {P : Program} {w : World} {K : PySem.W.Frag} {mg : Str → Option Value} {base : Heap}
def spInit (b : Bool) (K : PySem.W.Frag) : Sp := fun vs H Q _ => ∃ (p a dx : Addr) (ns : List Int), vs = [.ref p, .ref a] ∧ H p = some (.ins (CR K b) dx []) ∧ H a = some (.lst (ns.map V.int)) ∧ 1 ≤ ns.length ∧ ns.length ≤ 16 ∧ (∀ n ∈ ns, okW n) ∧
  ∀ (A : RAd) (W : Ow) (H' : Hp), A.p = p → Com b A K H' W (M0 ns) → Way b A H' W (M0 ns) → (∀ y, W y ≠ 0 → y = p ∨ H y = none) → (∀ y o, H y = some o → y ≠ p → H' y = some o) → Q .non H'
theorem ok_R_init (T : Tx K mg) (b : Bool) (F : Fc P w K mg base 2 (aR K b "begin") ["self", "worths"] (spBegin b K)) : Fc P w K mg base 4 (aR K b "__init__") ["self", "worths"] (spInit b K) := by
  refine Fc.mk' (T.dR_init b) c_Rows_init (fun vs H Q E h => ?_) (fun _ _ _ _ _ _ us hl => match us, hl with | [_, _], _ => rfl) (fun cdv A0 outer s H vs Q E hr h => ?_)
  · obtain ⟨p, a, dx, ns, rfl, _⟩ := h; rfl
  obtain ⟨p, a, dx, ns, rfl, hp, ha, l1, l2, hok, q⟩ := h
  refine ⟨_, pss_cons (ps_if (pt_not (pt_val (qc (ok_is_worths T) hr rfl T.g_is_worths (pa_cons (pv 1) pa_nil)))) (pss_one ps_never) pss_nil)
    (pss_cons (ps_fld (pv 0) (qlen T.f_len (pv 1)) rfl)
    (pss_cons (ps_fld (pv 0) (qk0 T.mkT (ok_T_init T) hr rfl T.g_LeapTree) rfl)
    (pss_cons (ps_fld (pv 0) (pe_lst (pa_cons pe_non pa_nil)) rfl)
    (pss_cons (ps_fld (pv 0) (pe_lst (pa_cons pe_bl pa_nil)) rfl)
    (pss_cons (ps_fld (pv 0) pe_int rfl)
    (pss_one (ps_expr (qm (pv 0) (T.clR b) (T.mR_begin b) F (hr.mono (by decide)) (pa_cons (pe_callTy (cl_list (K := K) rfl) rfl T.f_list boot_listT (pa_cons (pv 1) pa_nil)) pa_nil))))))))), ?_⟩
  have ap : a ≠ p := fun z => by rw [z, hp] at ha; cases ha
  refine ⟨_, rfl, a, ns, rfl, ha, l1, l2, hok, fun H1 s1 => ⟨_, rfl, iteF ?_⟩⟩
  have hp1 := s1 _ _ hp
  have ha1 := s1 _ _ ha
  refine ⟨_, rfl, _, _, rfl, .inl (SqL.of ha1), _, rfl, p, _, dx, _, rfl, hp1, T.clR b, T.nR_wide b, (by show 0 < 1000; decide), ?_⟩
  rw [List.length_map]
  have e2 : putF "wide" (V.int (ns.length : Int)) [] = ([("wide", V.int (ns.length : Int))] : List (Str × V)) := by kernel_rfl
  rw [e2]
  have sb2 : ∀ y o, H y = some o → y ≠ p → upd H1 p (.ins (CR K b) dx [("wide", V.int (ns.length : Int))]) y = some o := fun y o e h => (upd_ne h).trans (s1 _ _ e)
  have p2 : upd H1 p (.ins (CR K b) dx [("wide", V.int (ns.length : Int))]) p = some (.ins (CR K b) dx [("wide", V.int (ns.length : Int))]) := upd_same
  have th2 : ∀ y, upd H1 p (.ins (CR K b) dx [("wide", V.int (ns.length : Int))]) y = none → H y = none := fun y e => by
    by_cases z : y = p
    · rw [z, upd_same] at e; cases e
    · rw [upd_ne z] at e; exact s1.free e
  generalize (upd H1 p (.ins (CR K b) dx [("wide", V.int (ns.length : Int))])) = H2 at sb2 p2 th2 ⊢
  -- the tree
  intro x dxx nx ndx nex
  refine ⟨x, dxx, rfl, upd_same, fun B Wt H3 eB RB old3 has3 keep3 => ⟨rfl, ?_⟩⟩
  have RB := RB fun _ => 0
  have s0 : Same H2 (upd (upd H2 dxx (.own x)) x (.ins (CT K) dxx [])) := Same.new (Same.new (Same.refl H2) ndx) (by rw [upd_ne nex.symm]; exact nx)
  have s3 : Same H2 H3 := fun y o e => keep3 y o (s0 y o e) (ne_of_none e nx)
  have Wtn : ∀ y, Wt y ≠ 0 → H2 y = none := fun y h => by
    rcases old3 y h with z | z
    · rw [z]; exact nx
    · exact s0.free z
  have p3 := s3 _ _ p2
  have Wtp : Wt p = 0 := by
    by_cases z : Wt p = 0
    · exact z
    · have := Wtn p z; rw [p2] at this; cases this
  refine ⟨_, rfl, p, _, dx, _, rfl, p3, T.clR b, T.nR_grown b, (by show 1 < 1000; decide), ?_⟩
  have e4 : putF "grown" (V.ref x) [("wide", V.int (ns.length : Int))] = ([("wide", V.int (ns.length : Int)), ("grown", .ref x)] : List (Str × V)) := by kernel_rfl
  rw [e4]
  have sb4 : ∀ y o, H3 y = some o → y ≠ p → upd H3 p (.ins (CR K b) dx [("wide", V.int (ns.length : Int)), ("grown", .ref x)]) y = some o := fun y o e h => (upd_ne h).trans e
  have p4 : upd H3 p (.ins (CR K b) dx [("wide", V.int (ns.length : Int)), ("grown", .ref x)]) p = some (.ins (CR K b) dx [("wide", V.int (ns.length : Int)), ("grown", .ref x)]) := upd_same
  have th4 : ∀ y, upd H3 p (.ins (CR K b) dx [("wide", V.int (ns.length : Int)), ("grown", .ref x)]) y = none → H3 y = none := fun y e => by
    by_cases z : y = p
    · rw [z, upd_same] at e; cases e
    · rw [upd_ne z] at e; exact e
  generalize (upd H3 p (.ins (CR K b) dx [("wide", V.int (ns.length : Int)), ("grown", .ref x)])) = H4 at sb4 p4 th4 ⊢
  -- wrote
  refine ⟨(by show 1 ≤ sizeLine; decide), fun aw naw => ?_⟩
  have pw : p ≠ aw := ne_of_none p4 naw
  refine ⟨_, rfl, p, _, dx, _, rfl, (upd_ne pw).trans p4, T.clR b, T.nR_wrote b, (by show 2 < 1000; decide), ?_⟩
  have e5 : putF "wrote" (V.ref aw) [("wide", V.int (ns.length : Int)), ("grown", .ref x)] = ([("wide", V.int (ns.length : Int)), ("grown", .ref x), ("wrote", .ref aw)] : List (Str × V)) := by kernel_rfl
  rw [e5]
  have naw3 := th4 _ naw
  have sb5 : ∀ y o, H3 y = some o → y ≠ p → upd (upd H4 aw (.lst [V.non])) p (.ins (CR K b) dx [("wide", V.int (ns.length : Int)), ("grown", .ref x), ("wrote", .ref aw)]) y = some o := fun y o e h => by
    rw [upd_ne h, upd_ne (ne_of_none e naw3)]; exact sb4 _ _ e h
  have p5 : upd (upd H4 aw (.lst [V.non])) p (.ins (CR K b) dx [("wide", V.int (ns.length : Int)), ("grown", .ref x), ("wrote", .ref aw)]) p = some (.ins (CR K b) dx [("wide", V.int (ns.length : Int)), ("grown", .ref x), ("wrote", .ref aw)]) := upd_same
  have w5 : upd (upd H4 aw (.lst [V.non])) p (.ins (CR K b) dx [("wide", V.int (ns.length : Int)), ("grown", .ref x), ("wrote", .ref aw)]) aw = some (.lst [V.non]) := by rw [upd_ne pw.symm, upd_same]
  have th5 : ∀ y, upd (upd H4 aw (.lst [V.non])) p (.ins (CR K b) dx [("wide", V.int (ns.length : Int)), ("grown", .ref x), ("wrote", .ref aw)]) y = none → H3 y = none := fun y e => by
    by_cases z : y = p
    · rw [z, upd_same] at e; cases e
    · rw [upd_ne z] at e
      by_cases z2 : y = aw
      · rw [z2, upd_same] at e; cases e
      · rw [upd_ne z2] at e; exact th4 _ e
  generalize (upd (upd H4 aw (.lst [V.non])) p (.ins (CR K b) dx [("wide", V.int (ns.length : Int)), ("grown", .ref x), ("wrote", .ref aw)])) = H5 at sb5 p5 w5 th5 ⊢
  -- gone
  refine ⟨(by show 1 ≤ sizeLine; decide), fun ag nag => ?_⟩
  have pg : p ≠ ag := ne_of_none p5 nag
  have wg : aw ≠ ag := ne_of_none w5 nag
  refine ⟨_, rfl, p, _, dx, _, rfl, (upd_ne pg).trans p5, T.clR b, T.nR_gone b, (by show 3 < 1000; decide), ?_⟩
  have e6 : putF "gone" (V.ref ag) [("wide", V.int (ns.length : Int)), ("grown", .ref x), ("wrote", .ref aw)] = ([("wide", V.int (ns.length : Int)), ("grown", .ref x), ("wrote", .ref aw), ("gone", .ref ag)] : List (Str × V)) := by kernel_rfl
  rw [e6]
  have nag3 := th5 _ nag
  refine ⟨_, rfl, p, _, dx, _, rfl, upd_same, T.clR b, T.nR_counted b, (by show 4 < 1000; decide), ?_⟩
  have e7 : putF "counted" (V.int 0) [("wide", V.int (ns.length : Int)), ("grown", .ref x), ("wrote", .ref aw), ("gone", .ref ag)] = fs5 ns.length x aw ag := by kernel_rfl
  rw [e7]
  have sb7 : ∀ y o, H3 y = some o → y ≠ p → upd (upd (upd H5 ag (.lst [V.bl false])) p (.ins (CR K b) dx [("wide", V.int (ns.length : Int)), ("grown", .ref x), ("wrote", .ref aw), ("gone", .ref ag)])) p (.ins (CR K b) dx (fs5 ns.length x aw ag)) y = some o := fun y o e h => by
    rw [upd_ne h, upd_ne h, upd_ne (ne_of_none e nag3)]; exact sb5 _ _ e h
  have p7 : upd (upd (upd H5 ag (.lst [V.bl false])) p (.ins (CR K b) dx [("wide", V.int (ns.length : Int)), ("grown", .ref x), ("wrote", .ref aw), ("gone", .ref ag)])) p (.ins (CR K b) dx (fs5 ns.length x aw ag)) p = some (.ins (CR K b) dx (fs5 ns.length x aw ag)) := upd_same
  have w7 : upd (upd (upd H5 ag (.lst [V.bl false])) p (.ins (CR K b) dx [("wide", V.int (ns.length : Int)), ("grown", .ref x), ("wrote", .ref aw), ("gone", .ref ag)])) p (.ins (CR K b) dx (fs5 ns.length x aw ag)) aw = some (.lst [V.non]) := by
    rw [upd_ne pw.symm, upd_ne pw.symm, upd_ne wg]; exact w5
  have g7 : upd (upd (upd H5 ag (.lst [V.bl false])) p (.ins (CR K b) dx [("wide", V.int (ns.length : Int)), ("grown", .ref x), ("wrote", .ref aw), ("gone", .ref ag)])) p (.ins (CR K b) dx (fs5 ns.length x aw ag)) ag = some (.lst [V.bl false]) := by
    rw [upd_ne pg.symm, upd_ne pg.symm, upd_same]
  have th7 : ∀ y, upd (upd (upd H5 ag (.lst [V.bl false])) p (.ins (CR K b) dx [("wide", V.int (ns.length : Int)), ("grown", .ref x), ("wrote", .ref aw), ("gone", .ref ag)])) p (.ins (CR K b) dx (fs5 ns.length x aw ag)) y = none → H3 y = none := fun y e => by
    by_cases z : y = p
    · rw [z, upd_same] at e; cases e
    · rw [upd_ne z, upd_ne z] at e
      by_cases z2 : y = ag
      · rw [z2, upd_same] at e; cases e
      · rw [upd_ne z2] at e; exact th5 _ e
  generalize (upd (upd (upd H5 ag (.lst [V.bl false])) p (.ins (CR K b) dx [("wide", V.int (ns.length : Int)), ("grown", .ref x), ("wrote", .ref aw), ("gone", .ref ag)])) p (.ins (CR K b) dx (fs5 ns.length x aw ag))) = H7 at sb7 p7 w7 g7 th7 ⊢
  have a7 := sb7 _ _ (s3 _ _ (sb2 _ _ ha ap)) ap
  -- begin
  refine ⟨_, rfl, p, dx, fs5 ns.length x aw ag, rfl, p7, (by kernel_rfl), _, rfl, a, _, rfl, .inl (SqL.of a7), fun a2 na2 => ?_⟩
  have sb8 : ∀ y o, H7 y = some o → upd H7 a2 (.lst (ns.map V.int)) y = some o := Same.new (Same.refl _) na2
  have a8 : upd H7 a2 (.lst (ns.map V.int)) a2 = some (.lst (ns.map V.int)) := upd_same
  have th8 : ∀ y, upd H7 a2 (.lst (ns.map V.int)) y = none → H7 y = none := fun y e => by
    by_cases z : y = a2
    · rw [z, upd_same] at e; cases e
    · rw [upd_ne z] at e; exact e
  generalize (upd H7 a2 (.lst (ns.map V.int))) = H8 at sb8 a8 th8 ⊢
  refine ⟨p, a2, dx, ns.length, x, aw, ag, ns, rfl, sb8 _ _ p7, a8, rfl, l2, fun x1 x2 H9 bg => ?_⟩
  have w8 := sb8 _ _ w7
  have g8 := sb8 _ _ g7
  have p8 := sb8 _ _ p7
  have n13 := th7 _ (th8 _ bg.n1)
  have W0 : ∀ y, H3 y = none → Wt y = 0 := fun y e => by
    by_cases z : Wt y = 0
    · exact z
    · exact absurd e (has3 y z)
  have n2p : b = true → x2 ≠ p := fun hb => (ne_of_none p8 (bg.n2 hb).1).symm
  have hW5 : b = true → Wt x2 = 0 := fun hb => W0 _ (th7 _ (th8 _ (bg.n2 hb).1))
  have rp := rowW_p (b := b) (p := p) (aw := aw) (ag := ag) (x1 := x1) (x2 := x2) (Wt := Wt)
  have x1p : x1 ≠ p := (ne_of_none p8 bg.n1).symm
  have x1w : x1 ≠ aw := (ne_of_none w8 bg.n1).symm
  have x1g : x1 ≠ ag := (ne_of_none g8 bg.n1).symm
  have has9 : Has (rowW b p aw ag x1 x2 Wt) H9 := fun y hy => by
    refine rowW_of (Pr := fun y => H9 y ≠ none) hy (by rw [bg.hp]; exact fun z => nomatch z) (by rw [bg.st _ _ w8 pw.symm]; exact fun z => nomatch z) (by rw [bg.st _ _ g8 pg.symm]; exact fun z => nomatch z) ?_ ?_ ?_
    · intro e
      cases b with
      | false =>
        obtain ⟨kvs, h, _⟩ := bg.pl rfl
        rw [h] at e; cases e
      | true => rw [(bg.tu rfl).1] at e; cases e
    · intro hb e
      rw [(bg.tu hb).2] at e; cases e
    · intro h e
      cases e3 : H3 y with
      | none => exact absurd (W0 y e3) h
      | some o =>
        have := bg.st _ _ (sb8 _ _ (sb7 _ _ e3 (fun z => h (by rw [z]; exact Wtp)))) (fun z => h (by rw [z]; exact Wtp))
        rw [this] at e; cases e
  refine q ⟨p, dx, aw, ag, x1, x2, B, 0, 0⟩ (rowW b p aw ag x1 x2 Wt) H9 rfl ⟨?_, ?_, ?_, ?_, rp, rowW_w pw.symm, rowW_g pg.symm wg.symm, has9⟩ ?_ (fun y hy => ?_) (fun y o e h => ?_)
  · show H9 p = some (.ins (CR K b) dx (fsR b ns.length B.t aw ag 0 x1 x2 0))
    rw [eB]; exact bg.hp
  · refine TreeIn.at' (K := K) (own := fun _ => 0) RB fun y o i e r h1 h5 => ?_
    have yp : y ≠ p := fun z => by rw [z, Wtp] at r; omega
    exact ⟨bg.st _ _ (sb8 _ _ (sb7 _ _ e yp)) yp, rowW_t Wtp (W0 _ naw3) (W0 _ nag3) (W0 _ n13) hW5 r (by omega)⟩
  · exact bg.st _ _ w8 pw.symm
  · exact bg.st _ _ g8 pg.symm
  · cases b with
    | false =>
      obtain ⟨kvs, h1, h2, h3, h4, h5⟩ := bg.pl rfl
      refine ⟨kvs, h1, rowW_x x1p x1w x1g, h2, fun q' hq => ?_, fun m x' km hx => ?_, ?_⟩
      · obtain ⟨x', hx, e⟩ := h3 q' hq
        exact ⟨x', 0, e, hx, Nat.zero_lt_one⟩
      · have m0 : m = 0 := by have : m < 1 := km.1; omega
        subst m0
        have hx' : x' < ns.length := hx
        show valV kvs (wk x' 0) = some (V.int (ns.getD x' 0))
        rw [List.getD_eq_getElem?_getD, List.getElem?_eq_getElem hx']
        exact h4 x' _ (List.getElem?_eq_getElem hx')
      · show kvs.length ≤ 16 + 1
        omega
    | true =>
      obtain ⟨h1, h2⟩ := bg.tu rfl
      have n2 := bg.n2 rfl
      refine ⟨fun y => y = 0, [], ?_, h2, rowW_x x1p x1w x1g, rowW_y rfl (n2p rfl) (ne_of_none w8 n2.1).symm (ne_of_none g8 n2.1).symm n2.2.symm, List.nodup_nil, ⟨⟨0, rfl, fun m hm => Nat.zero_le _, fun m hm ne => absurd hm ne⟩, rfl, fun m hm => ?_, fun k hk => ?_⟩, fun m hm ne => absurd hm ne, fun q' hq => (nomatch hq), Nat.zero_le _⟩
      · rw [h1]
        exact congrArg (fun l => some (HO.lst l)) (M0_list ns 0 _ fun p' hp' => rfl).symm
      · show m < 1
        have : m = 0 := hm
        omega
      · have : k < 1 := hk.1
        show k = 0
        omega
  · refine rowW_of (Pr := fun y => y = p ∨ H y = none) hy (.inl rfl) (.inr (th2 _ (s3.free naw3))) (.inr (th2 _ (s3.free nag3))) (.inr (th2 _ (s3.free n13))) (fun hb => .inr (th2 _ (s3.free (th7 _ (th8 _ (bg.n2 hb).1))))) (fun h => .inr (th2 _ (Wtn _ h)))
  · exact bg.st _ _ (sb8 _ _ (sb7 _ _ (s3 _ _ (sb2 _ _ e h)) h)) h
end
end MK

set_option Elab.async false
set_option linter.all false
set_option maxRecDepth 100000
set_option maxHeartbeats 4000000
/-! rows of either way: same_makes, copied -/
namespace MK
open PySem PySem.Spec PyProof.Rows L2
theorem boot_dictT : bootBuiltins ("dict" : Str) = some (.type "dict") := by decide +kernel
section
variable {P : Program} {w : World} {K : PySem.W.Frag} {mg : Str → Option Value} {base : Heap}
def spSame (b : Bool) (K : PySem.W.Frag) : Sp := fun vs H Q _ => ∃ (A : RAd) (W : Ow) (M : Mo) (o dx : Addr) (size : Nat) (t aw ag : Addr) (c : Int) (x1 x2 : Addr) (here : Nat), vs = [.ref A.p, .ref o] ∧ Com b A K H W M ∧ M.n ≤ 64 ∧ W o = 0 ∧
  H o = some (.ins (CR K b) dx (fsR b size t aw ag c x1 x2 here)) ∧
  ∀ (B : TAd) (Wt : Ow) (aw' ag' : Addr) (c' : Int) (H' : Hp), TreeIn B K H' Wt M.n M.own → (∀ y, Wt y ≠ 0 → H y = none) → Has Wt H' → H aw' = none → H ag' = none → aw' ≠ ag' → Wt aw' = 0 → Wt ag' = 0 →
    H' aw' = some (.lst ((List.range M.n).map (wroV M.wrote))) → H' ag' = some (.lst ((List.range M.n).map (gonV M.gone))) → H' o = some (.ins (CR K b) dx (fsR b size B.t aw' ag' c' x1 x2 here)) → (∀ y z, H y = some z → y ≠ o → H' y = some z) → Q (.ref o) H'
theorem ok_R_same_makes (T : Tx K mg) (b : Bool) : Fc P w K mg base 5 (aR K b "same_makes") ["self", "other"] (spSame b K) := by
  refine Fc.mk' (T.dR_same_makes b) c_Rows_same_makes (fun vs H Q E h => ?_) (fun _ _ _ _ _ _ us hl => match us, hl with | [_, _], _ => rfl) (fun cdv A0 outer s H vs Q E hr h => ?_)
  · obtain ⟨A, W, M, o, dx, size, t, aw, ag, c, x1, x2, here, rfl, _⟩ := h; rfl
  obtain ⟨A, W, M, o, dx, size, t, aw, ag, c, x1, x2, here, rfl, C, hn, Wo, ho, q⟩ := h
  refine ⟨_, pss_cons (ps_fld (pv 1) (qm0 (pe_fld (pv 0) rfl) T.clT T.mT_copied (ok_T_copied T) hr) rfl)
    (pss_cons (ps_fld (pv 1) (pe_callTy (cl_list (K := K) rfl) rfl T.f_list boot_listT (pa_cons (pe_fld (pv 0) rfl) pa_nil)) rfl)
    (pss_cons (ps_fld (pv 1) (pe_callTy (cl_list (K := K) rfl) rfl T.f_list boot_listT (pa_cons (pe_fld (pv 0) rfl) pa_nil)) rfl)
    (pss_cons (ps_fld (pv 1) (pe_fld (pv 0) rfl) rfl)
    (pss_one (ps_ret (pv 1)))))), ?_⟩
  have no : ∀ a i, W a = i → 1 ≤ i → a ≠ o := fun a i r h z => by rw [z, Wo] at r; omega
  refine ⟨_, rfl, _, _, _, _, _, rfl, C.hp, T.clR b, T.nR_grown b, fsR_grown, _, _, _, rfl, C.tr.ht, fsT_no (by decide +kernel), _, M.n, M.own, rfl, C.tq, hn, fun B Wt H1 tr fr has1 s1 => ?_⟩
  have o1 := s1 _ _ ho
  have Wto : Wt o = 0 := by
    by_cases z : Wt o = 0
    · exact z
    · have := fr o z; rw [ho] at this; cases this
  refine ⟨_, rfl, o, _, dx, _, rfl, o1, T.clR b, T.nR_grown b, fsR_len, ?_⟩
  rw [putF_grown]
  have sb2 : ∀ y z, H1 y = some z → y ≠ o → upd H1 o (.ins (CR K b) dx (fsR b size B.t aw ag c x1 x2 here)) y = some z := fun y z e h => (upd_ne h).trans e
  have o2 : upd H1 o (.ins (CR K b) dx (fsR b size B.t aw ag c x1 x2 here)) o = some (.ins (CR K b) dx (fsR b size B.t aw ag c x1 x2 here)) := upd_same
  have th2 : ∀ y, upd H1 o (.ins (CR K b) dx (fsR b size B.t aw ag c x1 x2 here)) y = none → H1 y = none := fun y e => by
    by_cases z : y = o
    · rw [z, upd_same] at e; cases e
    · rw [upd_ne z] at e; exact e
  generalize (upd H1 o (.ins (CR K b) dx (fsR b size B.t aw ag c x1 x2 here))) = H2 at sb2 o2 th2 ⊢
  have p2 := sb2 _ _ (s1 _ _ C.hp) (no _ _ C.rp (by decide))
  have w2 := sb2 _ _ (s1 _ _ C.hw) (no _ _ C.rw (by decide))
  have g2 := sb2 _ _ (s1 _ _ C.hg) (no _ _ C.rg (by decide))
  refine ⟨_, rfl, _, _, _, _, _, rfl, p2, T.clR b, T.nR_wrote b, fsR_wrote, A.aw, _, rfl, .inl (SqL.of w2), fun aw' naw => ?_⟩
  have ow : o ≠ aw' := ne_of_none o2 naw
  refine ⟨_, rfl, o, _, dx, _, rfl, (upd_ne ow).trans o2, T.clR b, T.nR_wrote b, fsR_len, ?_⟩
  rw [putF_wrote]
  have naw1 := th2 _ naw
  have sb3 : ∀ y z, H1 y = some z → y ≠ o → upd (upd H2 aw' (.lst ((List.range M.n).map (wroV M.wrote)))) o (.ins (CR K b) dx (fsR b size B.t aw' ag c x1 x2 here)) y = some z := fun y z e h => by
    rw [upd_ne h, upd_ne (ne_of_none e naw1)]; exact sb2 _ _ e h
  have o3 : upd (upd H2 aw' (.lst ((List.range M.n).map (wroV M.wrote)))) o (.ins (CR K b) dx (fsR b size B.t aw' ag c x1 x2 here)) o = some (.ins (CR K b) dx (fsR b size B.t aw' ag c x1 x2 here)) := upd_same
  have w3 : upd (upd H2 aw' (.lst ((List.range M.n).map (wroV M.wrote)))) o (.ins (CR K b) dx (fsR b size B.t aw' ag c x1 x2 here)) aw' = some (.lst ((List.range M.n).map (wroV M.wrote))) := by rw [upd_ne ow.symm, upd_same]
  have th3 : ∀ y, upd (upd H2 aw' (.lst ((List.range M.n).map (wroV M.wrote)))) o (.ins (CR K b) dx (fsR b size B.t aw' ag c x1 x2 here)) y = none → H1 y = none := fun y e => by
    by_cases z : y = o
    · rw [z, upd_same] at e; cases e
    · rw [upd_ne z] at e
      by_cases z2 : y = aw'
      · rw [z2, upd_same] at e; cases e
      · rw [upd_ne z2] at e; exact th2 _ e
  generalize (upd (upd H2 aw' (.lst ((List.range M.n).map (wroV M.wrote)))) o (.ins (CR K b) dx (fsR b size B.t aw' ag c x1 x2 here))) = H3 at sb3 o3 w3 th3 ⊢
  have p3 := sb3 _ _ (s1 _ _ C.hp) (no _ _ C.rp (by decide))
  have g3 := sb3 _ _ (s1 _ _ C.hg) (no _ _ C.rg (by decide))
  refine ⟨_, rfl, _, _, _, _, _, rfl, p3, T.clR b, T.nR_gone b, fsR_gone, A.ag, _, rfl, .inl (SqL.of g3), fun ag' nag => ?_⟩
  have og : o ≠ ag' := ne_of_none o3 nag
  have wg : aw' ≠ ag' := ne_of_none w3 nag
  refine ⟨_, rfl, o, _, dx, _, rfl, (upd_ne og).trans o3, T.clR b, T.nR_gone b, fsR_len, ?_⟩
  rw [putF_gone]
  have nag1 := th3 _ nag
  have sb4 : ∀ y z, H1 y = some z → y ≠ o → upd (upd H3 ag' (.lst ((List.range M.n).map (gonV M.gone)))) o (.ins (CR K b) dx (fsR b size B.t aw' ag' c x1 x2 here)) y = some z := fun y z e h => by
    rw [upd_ne h, upd_ne (ne_of_none e nag1)]; exact sb3 _ _ e h
  have o4 : upd (upd H3 ag' (.lst ((List.range M.n).map (gonV M.gone)))) o (.ins (CR K b) dx (fsR b size B.t aw' ag' c x1 x2 here)) o = some (.ins (CR K b) dx (fsR b size B.t aw' ag' c x1 x2 here)) := upd_same
  have w4 : upd (upd H3 ag' (.lst ((List.range M.n).map (gonV M.gone)))) o (.ins (CR K b) dx (fsR b size B.t aw' ag' c x1 x2 here)) aw' = some (.lst ((List.range M.n).map (wroV M.wrote))) := by rw [upd_ne ow.symm, upd_ne wg]; exact w3
  have g4 : upd (upd H3 ag' (.lst ((List.range M.n).map (gonV M.gone)))) o (.ins (CR K b) dx (fsR b size B.t aw' ag' c x1 x2 here)) ag' = some (.lst ((List.range M.n).map (gonV M.gone))) := by rw [upd_ne og.symm, upd_same]
  generalize (upd (upd H3 ag' (.lst ((List.range M.n).map (gonV M.gone)))) o (.ins (CR K b) dx (fsR b size B.t aw' ag' c x1 x2 here))) = H4 at sb4 o4 w4 g4 ⊢
  have p4 := sb4 _ _ (s1 _ _ C.hp) (no _ _ C.rp (by decide))
  refine ⟨_, rfl, _, _, _, _, _, rfl, p4, T.clR b, T.nR_counted b, fsR_counted, _, rfl, o, _, dx, _, rfl, o4, T.clR b, T.nR_counted b, fsR_len, ?_⟩
  rw [putF_counted]
  have sb5 : ∀ y z, H1 y = some z → y ≠ o → upd H4 o (.ins (CR K b) dx (fsR b size B.t aw' ag' A.c x1 x2 here)) y = some z := fun y z e h => (upd_ne h).trans (sb4 _ _ e h)
  have W0 : ∀ y, H1 y = none → Wt y = 0 := fun y e => by
    by_cases z : Wt y = 0
    · exact z
    · exact absurd e (has1 y z)
  refine ⟨_, rfl, q B Wt aw' ag' A.c _ (tr.at' fun y z i e r h1 h5 => ⟨sb5 _ _ e (fun w => by rw [w, Wto] at r; omega), r⟩) fr (fun y hy e => ?_) (s1.free naw1) (s1.free nag1) wg (W0 _ naw1) (W0 _ nag1) ((upd_ne ow.symm).trans w4) ((upd_ne og.symm).trans g4) upd_same fun y z e h => sb5 _ _ (s1 _ _ e) h⟩
  cases e3 : H1 y with
  | none => exact has1 y hy e3
  | some z =>
    rw [sb5 _ _ e3 (fun w => hy (by rw [w]; exact Wto))] at e
    cases e
theorem com_rowW {b : Bool} {H : Hp} {M : Mo} {x dx aw ag y1 y2 : Addr} {B : TAd} {Wt : Ow} {c : Int} {here : Nat} (hp : H x = some (.ins (CR K b) dx (fsR b M.size B.t aw ag c y1 y2 here))) (tr : TreeIn B K H Wt M.n M.own) (has : Has Wt H)
    (hw : H aw = some (.lst ((List.range M.n).map (wroV M.wrote)))) (hg : H ag = some (.lst ((List.range M.n).map (gonV M.gone)))) (Wx : Wt x = 0) (Ww : Wt aw = 0) (Wg : Wt ag = 0) (W1 : Wt y1 = 0) (W2 : b = true → Wt y2 = 0)
    (xw : aw ≠ x) (xg : ag ≠ x) (wg : ag ≠ aw) (h1 : H y1 ≠ none) (h2 : b = true → H y2 ≠ none) : Com b ⟨x, dx, aw, ag, y1, y2, B, c, here⟩ K H (rowW b x aw ag y1 y2 Wt) M := by
  refine ⟨hp, tr.at' fun y z i e r i1 i5 => ⟨e, rowW_t Wx Ww Wg W1 W2 r (by omega)⟩, hw, hg, rowW_p, rowW_w xw, rowW_g xg wg, fun y hy => ?_⟩
  exact rowW_of (Pr := fun y => H y ≠ none) hy (by rw [hp]; exact fun z => nomatch z) (by rw [hw]; exact fun z => nomatch z) (by rw [hg]; exact fun z => nomatch z) h1 h2 (has y)
theorem rep_flat (n : Nat) : (List.replicate n [V.int 0]).flatten = (List.replicate n (0 : Int)).map V.int := by
  induction n with
  | zero => rfl
  | succ n ih => rw [List.replicate_succ, List.replicate_succ, List.flatten_cons, List.map_cons, ih]; rfl
def spCopied (b : Bool) (K : PySem.W.Frag) : Sp := fun vs H Q _ => ∃ (p : Addr) (W : Ow) (M : Mo), vs = [.ref p] ∧ RowAt b K H p W M ∧
  ∀ (p' : Addr) (W' : Ow) (H' : Hp), RowAt b K H' p' W' M → (∀ y, W' y ≠ 0 → H y = none) → Same H H' → Q (.ref p') H'
theorem ok_P_copied (T : Tx K mg) : Fc P w K mg base 6 (aR K false "copied") ["self"] (spCopied false K) := by
  refine Fc.mk' T.dP_copied c_Plain_copied (fun vs H Q E h => ?_) (fun _ _ _ _ _ _ us hl => match us, hl with | [_], _ => rfl) (fun cdv A0 outer s H vs Q E hr h => ?_)
  · obtain ⟨p, W, M, rfl, _⟩ := h; rfl
  obtain ⟨_, W, M, rfl, R, q⟩ := h
  have rq := R.rq
  obtain ⟨⟨A, rfl, C, kvs, Y⟩, ok⟩ := R
  have nd := c_Plain_copied.nd
  have hu8 : (A0.deeper (envOfC "Plain.copied" (defScope s_Plain_copied) s.heap.objs.size (aR K false "copied") cdv)).units + 8 < cLine := by have z := hr.units; omega
  refine ⟨_, pss_cons (ps_set (i := 1) nd rfl (.inl rfl) (qk (T.mkR false) (ok_R_init T false (ok_P_begin T)) hr rfl T.g_Plain (pa_cons (pe_op op_rep (pe_lst (pa_cons pe_int pa_nil)) (qm0 (pv 0) (T.clR false) (T.mR_size false) (ok_R_size T false) (hr.mono (by decide)))) pa_nil)))
    (pss_cons (ps_fld (pv 1) (pe_callTy (call_dictT hu8) rfl T.f_dict boot_dictT (pa_cons (pe_fld (pv 0) rfl) pa_nil)) rfl)
    (pss_one (ps_ret (qm (pv 0) (T.clR false) (T.mR_same_makes false) (ok_R_same_makes T false) hr (pa_cons (pv 1) pa_nil))))), ?_⟩
  refine ⟨(by show 1 ≤ sizeLine; decide), fun l0 nl0 => ?_⟩
  have s1 : Same H (upd H l0 (.lst [V.int 0])) := Same.new (Same.refl _) nl0
  have l1 : upd H l0 (.lst [V.int 0]) l0 = some (.lst [V.int 0]) := upd_same
  generalize (upd H l0 (.lst [V.int 0])) = H1 at s1 l1 ⊢
  have s16 := ok.s16
  refine ⟨_, rfl, _, _, _, rfl, s1 _ _ C.hp, fsR_no (by decide +kernel), _, M, rfl, rq.same s1, l0, (M.size : Int), [V.int 0], rfl, rfl, l1, by omega, by omega, (by show 1 * ((M.size : Int)).toNat ≤ sizeLine; exact Nat.le_of_lt (small1000 (by omega))), fun l2 nl2 => ?_⟩
  have s2 : Same H (upd H1 l2 (.lst (List.replicate ((M.size : Int)).toNat [V.int 0]).flatten)) := fun a o e => Same.new (Same.refl _) nl2 _ _ (s1 _ _ e)
  have h2 : upd H1 l2 (.lst (List.replicate ((M.size : Int)).toNat [V.int 0]).flatten) l2 = some (.lst ((List.replicate M.size (0 : Int)).map V.int)) := by
    rw [upd_same, Int.toNat_natCast, rep_flat]
  generalize (upd H1 l2 (.lst (List.replicate ((M.size : Int)).toNat [V.int 0]).flatten)) = H2 at s2 h2 ⊢
  intro x dx nx ndx nex
  have s3 : Same H2 (upd (upd H2 dx (.own x)) x (.ins (CR K false) dx [])) := Same.new (Same.new (Same.refl _) ndx) (by rw [upd_ne nex.symm]; exact nx)
  have s1' := ok.s1
  refine ⟨x, l2, dx, List.replicate M.size 0, rfl, upd_same, s3 _ _ h2, by rw [List.length_replicate]; exact s1', by rw [List.length_replicate]; exact s16, (fun n hn => by rw [(List.mem_replicate.mp hn).2]; decide), fun A2 W2 H4 e2 C2 Y2 fr2 sb2 => ⟨rfl, ?_⟩⟩
  have s4 : Same H H4 := fun y o e => sb2 _ _ (s3 _ _ (s2 _ _ e)) (ne_of_none e (s2.free nx))
  have nx0 : H x = none := s2.free nx
  have C4 := C.same s4
  have hx4 := C2.hp
  rw [e2, show (M0 (List.replicate M.size (0 : Int))).size = M.size from List.length_replicate] at hx4
  have Wx : W x = 0 := C.has.new nx0
  have n64 := ok.n64
  refine ⟨_, rfl, _, _, _, _, _, rfl, C4.hp, T.clR false, T.nP_kept, fsR_kept, A.x1, kvs, rfl, s4 _ _ Y.hx, fun q' hq => ?_, fun y1 ny1 => ?_⟩
  · obtain ⟨p', m', e, h1, h2⟩ := Y.ks q' hq
    exact ⟨p', m', e, by omega, by omega⟩
  have ny0 : H y1 = none := s4.free ny1
  have xy : x ≠ y1 := ne_of_none hx4 ny1
  refine ⟨_, rfl, x, _, A2.dx, _, rfl, (upd_ne xy).trans hx4, T.clR false, T.nP_kept, fsR_len, ?_⟩
  rw [putF_kept]
  have s5 : Same H (upd (upd H4 y1 (.dT kvs)) x (.ins (CR K false) A2.dx (fsR false M.size A2.T.t A2.aw A2.ag A2.c y1 A2.x2 A2.here))) := Same.set (Same.new s4 ny1) nx0
  have x5 : upd (upd H4 y1 (.dT kvs)) x (.ins (CR K false) A2.dx (fsR false M.size A2.T.t A2.aw A2.ag A2.c y1 A2.x2 A2.here)) x = some (.ins (CR K false) A2.dx (fsR false M.size A2.T.t A2.aw A2.ag A2.c y1 A2.x2 A2.here)) := upd_same
  have y5 : upd (upd H4 y1 (.dT kvs)) x (.ins (CR K false) A2.dx (fsR false M.size A2.T.t A2.aw A2.ag A2.c y1 A2.x2 A2.here)) y1 = some (.dT kvs) := by rw [upd_ne xy.symm, upd_same]
  generalize (upd (upd H4 y1 (.dT kvs)) x (.ins (CR K false) A2.dx (fsR false M.size A2.T.t A2.aw A2.ag A2.c y1 A2.x2 A2.here))) = H5 at s5 x5 y5 ⊢
  have C5 := C.same s5
  refine ⟨_, rfl, _, _, _, rfl, C5.hp, fsR_no (by decide +kernel), _, rfl, A, W, M, x, A2.dx, M.size, A2.T.t, A2.aw, A2.ag, A2.c, y1, A2.x2, A2.here, rfl, C5, n64, Wx, x5, fun B Wt aw' ag' c' H6 tr fr has6 naw nag wg Ww Wg hw6 hg6 ho6 sb6 => ?_⟩
  have y6 := sb6 _ _ y5 xy.symm
  have W0 : ∀ {y : Addr} {z : HO}, H5 y = some z → Wt y = 0 := fun {y z} e => by
    by_cases w : Wt y = 0
    · exact w
    · have := fr y w; rw [e] at this; cases this
  have C6 := com_rowW (b := false) (M := M) (y1 := y1) (y2 := A2.x2) ho6 tr has6 hw6 hg6 (W0 x5) Ww Wg (W0 y5) (fun z => (nomatch z)) (ne_of_none x5 naw).symm (ne_of_none x5 nag).symm wg.symm (by rw [y6]; exact fun z => nomatch z) (fun z => (nomatch z))
  have R6 := RowAt.of C6 ⟨kvs, y6, rowW_x xy.symm (ne_of_none y5 naw) (ne_of_none y5 nag), Y.nd, Y.ks, Y.rd, Y.sz⟩ ok
  refine q x _ H6 R6 (fun y hy => ?_) (fun y z e => sb6 _ _ (s5 _ _ e) (ne_of_none e nx0))
  exact rowW_of (Pr := fun y => H y = none) hy nx0 (s5.free naw) (s5.free nag) ny0 (fun z => (nomatch z)) fun h => s5.free (fr y h)
theorem ok_U_copied (T : Tx K mg) : Fc P w K mg base 6 (aR K true "copied") ["self"] (spCopied true K) := by
  refine Fc.mk' T.dU_copied c_Turned_copied (fun vs H Q E h => ?_) (fun _ _ _ _ _ _ us hl => match us, hl with | [_], _ => rfl) (fun cdv A0 outer s H vs Q E hr h => ?_)
  · obtain ⟨p, W, M, rfl, _⟩ := h; rfl
  obtain ⟨_, W, M, rfl, R, q⟩ := h
  have rq := R.rq
  obtain ⟨⟨A, rfl, C, N, kvs, Y⟩, ok⟩ := R
  have nd := c_Turned_copied.nd
  refine ⟨_, pss_cons (ps_set (i := 1) nd rfl (.inl rfl) (qk (T.mkR true) (ok_R_init T true ((ok_U_begin T).up (by decide))) hr rfl T.g_Turned (pa_cons (pe_fld (pv 0) rfl) pa_nil)))
    (pss_cons (ps_fld (pv 1) (pe_callTy (cl_list (K := K) rfl) rfl T.f_list boot_listT (pa_cons (pe_fld (pv 0) rfl) pa_nil)) rfl)
    (pss_cons (ps_fld (pv 1) (pe_fld (pv 0) rfl) rfl)
    (pss_cons (ps_fld (pv 1) (pe_callTy call_dictD rfl T.f_dict boot_dictT (pa_cons (pe_fld (pv 0) rfl) pa_nil)) rfl)
    (pss_one (ps_ret (qm (pv 0) (T.clR true) (T.mR_same_makes true) (ok_R_same_makes T true) hr (pa_cons (pv 1) pa_nil))))))), ?_⟩
  have s16 := ok.s16
  have s1' := ok.s1
  have n64 := ok.n64
  have hh := Y.hand.lt _ Y.hand.here
  refine ⟨_, rfl, _, _, _, _, _, rfl, C.hp, T.clR true, T.nU_lying, fsR_lying, ?_⟩
  intro x dx nx ndx nex
  have s3 : Same H (upd (upd H dx (.own x)) x (.ins (CR K true) dx [])) := Same.new (Same.new (Same.refl _) ndx) (by rw [upd_ne nex.symm]; exact nx)
  have ml : (List.range M.size).map (fun p => V.int (M.val A.here p)) = ((List.range M.size).map (M.val A.here)).map V.int := by rw [List.map_map]; rfl
  refine ⟨x, A.x1, dx, (List.range M.size).map (M.val A.here), rfl, upd_same, (by rw [← ml]; exact s3 _ _ Y.hx), by rw [rng_len]; exact s1', by rw [rng_len]; exact s16, (fun n hn => ?_), fun A2 W2 H4 e2 C2 Y2 fr2 sb2 => ⟨rfl, ?_⟩⟩
  · obtain ⟨p', hp', rfl⟩ := List.mem_map.mp hn
    exact Mo.val_ok ok hh (List.mem_range.mp hp')
  have nx0 : H x = none := nx
  have s4 : Same H H4 := fun y o e => sb2 _ _ (s3 _ _ e) (ne_of_none e nx)
  have C4 := C.same s4
  have hx4 := C2.hp
  rw [e2, show (M0 ((List.range M.size).map (M.val A.here))).size = M.size from rng_len _ _] at hx4
  have Wx : W x = 0 := C.has.new nx0
  -- lying
  refine ⟨_, rfl, _, _, _, _, _, rfl, C4.hp, T.clR true, T.nU_lying, fsR_lying, A.x1, _, rfl, .inl (SqL.of (s4 _ _ Y.hx)), fun y1 ny1 => ?_⟩
  have ny0 : H y1 = none := s4.free ny1
  have xy : x ≠ y1 := ne_of_none hx4 ny1
  refine ⟨_, rfl, x, _, A2.dx, _, rfl, (upd_ne xy).trans hx4, T.clR true, T.nU_lying, fsR_len, ?_⟩
  rw [putF_lying]
  have s5 : Same H (upd (upd H4 y1 (.lst ((List.range M.size).map fun p => V.int (M.val A.here p)))) x (.ins (CR K true) A2.dx (fsR true M.size A2.T.t A2.aw A2.ag A2.c y1 A2.x2 A2.here))) := Same.set (Same.new s4 ny1) nx0
  have x5 : upd (upd H4 y1 (.lst ((List.range M.size).map fun p => V.int (M.val A.here p)))) x (.ins (CR K true) A2.dx (fsR true M.size A2.T.t A2.aw A2.ag A2.c y1 A2.x2 A2.here)) x = some (.ins (CR K true) A2.dx (fsR true M.size A2.T.t A2.aw A2.ag A2.c y1 A2.x2 A2.here)) := upd_same
  have y5 : upd (upd H4 y1 (.lst ((List.range M.size).map fun p => V.int (M.val A.here p)))) x (.ins (CR K true) A2.dx (fsR true M.size A2.T.t A2.aw A2.ag A2.c y1 A2.x2 A2.here)) y1 = some (.lst ((List.range M.size).map fun p => V.int (M.val A.here p))) := by rw [upd_ne xy.symm, upd_same]
  generalize (upd (upd H4 y1 (.lst ((List.range M.size).map fun p => V.int (M.val A.here p)))) x (.ins (CR K true) A2.dx (fsR true M.size A2.T.t A2.aw A2.ag A2.c y1 A2.x2 A2.here))) = H5 at s5 x5 y5 ⊢
  have C5 := C.same s5
  -- here
  refine ⟨_, rfl, _, _, _, _, _, rfl, C5.hp, T.clR true, T.nU_here, fsR_here, _, rfl, x, _, A2.dx, _, rfl, x5, T.clR true, T.nU_here, fsR_len, ?_⟩
  rw [putF_here]
  have s6 : Same H (upd H5 x (.ins (CR K true) A2.dx (fsR true M.size A2.T.t A2.aw A2.ag A2.c y1 A2.x2 A.here))) := Same.set s5 nx0
  have x6 : upd H5 x (.ins (CR K true) A2.dx (fsR true M.size A2.T.t A2.aw A2.ag A2.c y1 A2.x2 A.here)) x = some (.ins (CR K true) A2.dx (fsR true M.size A2.T.t A2.aw A2.ag A2.c y1 A2.x2 A.here)) := upd_same
  have y6 : upd H5 x (.ins (CR K true) A2.dx (fsR true M.size A2.T.t A2.aw A2.ag A2.c y1 A2.x2 A.here)) y1 = _ := (upd_ne xy.symm).trans y5
  generalize (upd H5 x (.ins (CR K true) A2.dx (fsR true M.size A2.T.t A2.aw A2.ag A2.c y1 A2.x2 A.here))) = H6 at s6 x6 y6 ⊢
  have C6 := C.same s6
  -- noted
  refine ⟨_, rfl, _, _, _, _, _, rfl, C6.hp, T.clR true, T.nU_noted, fsR_noted, A.x2, kvs, rfl, .inl (s6 _ _ Y.hy), fun y2 ny2 => ?_⟩
  have ny20 : H y2 = none := s6.free ny2
  have xy2 : x ≠ y2 := ne_of_none x6 ny2
  have y12 : y1 ≠ y2 := ne_of_none y6 ny2
  refine ⟨_, rfl, x, _, A2.dx, _, rfl, (upd_ne xy2).trans x6, T.clR true, T.nU_noted, fsR_len, ?_⟩
  rw [putF_noted]
  have s7 : Same H (upd (upd H6 y2 (.dK kvs)) x (.ins (CR K true) A2.dx (fsR true M.size A2.T.t A2.aw A2.ag A2.c y1 y2 A.here))) := Same.set (Same.new s6 ny2) nx0
  have x7 : upd (upd H6 y2 (.dK kvs)) x (.ins (CR K true) A2.dx (fsR true M.size A2.T.t A2.aw A2.ag A2.c y1 y2 A.here)) x = some (.ins (CR K true) A2.dx (fsR true M.size A2.T.t A2.aw A2.ag A2.c y1 y2 A.here)) := upd_same
  have y17 : upd (upd H6 y2 (.dK kvs)) x (.ins (CR K true) A2.dx (fsR true M.size A2.T.t A2.aw A2.ag A2.c y1 y2 A.here)) y1 = _ := (upd_ne xy.symm).trans ((upd_ne y12).trans y6)
  have y27 : upd (upd H6 y2 (.dK kvs)) x (.ins (CR K true) A2.dx (fsR true M.size A2.T.t A2.aw A2.ag A2.c y1 y2 A.here)) y2 = some (.dK kvs) := by rw [upd_ne xy2.symm, upd_same]
  generalize (upd (upd H6 y2 (.dK kvs)) x (.ins (CR K true) A2.dx (fsR true M.size A2.T.t A2.aw A2.ag A2.c y1 y2 A.here))) = H7 at s7 x7 y17 y27 ⊢
  have C7 := C.same s7
  refine ⟨_, rfl, _, _, _, rfl, C7.hp, fsR_no (by decide +kernel), _, rfl, A, W, M, x, A2.dx, M.size, A2.T.t, A2.aw, A2.ag, A2.c, y1, y2, A.here, rfl, C7, n64, Wx, x7, fun B Wt aw' ag' c' H8 tr fr has8 naw nag wg Ww Wg hw8 hg8 ho8 sb8 => ?_⟩
  have y18 := sb8 _ _ y17 xy.symm
  have y28 := sb8 _ _ y27 xy2.symm
  have W0 : ∀ {y : Addr} {z : HO}, H7 y = some z → Wt y = 0 := fun {y z} e => by
    by_cases w : Wt y = 0
    · exact w
    · have := fr y w; rw [e] at this; cases this
  have C8 := com_rowW (b := true) (M := M) (y1 := y1) (y2 := y2) ho8 tr has8 hw8 hg8 (W0 x7) Ww Wg (W0 y17) (fun _ => W0 y27) (ne_of_none x7 naw).symm (ne_of_none x7 nag).symm wg.symm (by rw [y18]; exact fun z => nomatch z) (fun _ => by rw [y28]; exact fun z => nomatch z)
  have s8 : Same H H8 := fun y z e => sb8 _ _ (s7 _ _ e) (ne_of_none e nx0)
  have R8 := RowAt.of C8 ⟨N, kvs, y18, y28, rowW_x xy.symm (ne_of_none y17 naw) (ne_of_none y17 nag), rowW_y rfl xy2.symm (ne_of_none y27 naw) (ne_of_none y27 nag) y12.symm, Y.nd, Y.hand, fun m hm ne => by
    obtain ⟨t, h1, h2⟩ := Y.nt m hm ne
    exact ⟨t, h1, s8 _ _ h2⟩, Y.ky, Y.sz⟩ ok
  refine q x _ H8 R8 (fun y hy => ?_) s8
  exact rowW_of (Pr := fun y => H y = none) hy nx0 (s7.free naw) (s7.free nag) ny0 (fun _ => ny20) fun h => s7.free (fr y h)
end
end MK

set_option Elab.async false
set_option linter.all false
set_option maxRecDepth 100000
set_option maxHeartbeats 4000000
/-! the law's own defs: cell, box, take, worth, worths -/
namespace MK
open PySem PySem.Spec PyProof.Rows L2
theorem boot_maxB : bootBuiltins ("max" : Str) = some (.builtin "max") := by decide +kernel
theorem boot_minB : bootBuiltins ("min" : Str) = some (.builtin "min") := by decide +kernel
/-- a box of draws -/
def BoxO (o : HO) : Prop := ∃ x y z : Nat, o = .lst [.int (x : Int), .int (y : Int), .int (z : Int)] ∧ y < 2147483629
def BoxAt (H : Hp) (B : Addr) : Prop := ∃ o, H B = some o ∧ BoxO o
def onB (B : Addr) : Ow := fun b => if b = B then 1 else 0
theorem onB_self {B : Addr} : onB B B ≠ 0 := by unfold onB; rw [if_pos rfl]; decide
theorem BoxO.nt {o : HO} (h : BoxO o) : ¬ isTup o := by
  obtain ⟨x, y, z, rfl, _⟩ := h
  exact id
theorem keep_box {H : Hp} {B : Addr} {o o1 : HO} (h : H B = some o1) (b : BoxO o1) : Keep (onB B) H (upd H B o) := Keep.refl.set (.inl onB_self) h b.nt
theorem BoxAt.same {H H' : Hp} {B : Addr} (h : BoxAt H B) (s : Same H H') : BoxAt H' B := let ⟨o, e, b⟩ := h; ⟨o, s _ _ e, b⟩
theorem int_nn {i : Int} (h : 0 ≤ i) : ∃ n : Nat, i = (n : Int) := ⟨i.toNat, by omega⟩
def tk1 (y z : Nat) : Int := ((y : Int) + 31337) * (2 * ((z : Int) + 1) + 1) % 2147483647
def tk2 (y z : Nat) : Int := tk1 y z ^ (5 : Int).toNat % 2147483629
def tk3 (y z : Nat) : Int := (tk2 y z + (y : Int) / 65536) ^ (3 : Int).toNat % 2147483587
theorem tk1_b (y z : Nat) : 0 ≤ tk1 y z ∧ tk1 y z < 2147483647 := by
  unfold tk1
  generalize ((y : Int) + 31337) * (2 * ((z : Int) + 1) + 1) = a
  omega
theorem tk2_b (y z : Nat) : 0 ≤ tk2 y z ∧ tk2 y z < 2147483629 := by
  unfold tk2
  generalize tk1 y z ^ (5 : Int).toNat = a
  omega
theorem tk3_b (y z : Nat) : 0 ≤ tk3 y z := by
  unfold tk3
  generalize (tk2 y z + (y : Int) / 65536) ^ (3 : Int).toNat = a
  omega
section
variable {P : Program} {w : World} {K : PySem.W.Frag} {mg : Str → Option Value} {base : Heap}
def spCellL (K : PySem.W.Frag) : Sp := fun vs H Q _ => ∃ (l : Addr) (ns : List Int) (k : Nat), vs = [.ref l, .int (k : Int)] ∧ SqL K H l (ns.map V.int) ∧ ∀ c : Int, Q (.int c) H
theorem ok_l_cell (T : Tx K mg) : Fc P w K mg base 1 (aF K "_law_cell") ["_law_script", "_law_k"] (spCellL K) := by
  refine Fc.mk' T.d__law_cell c__law_cell (fun vs H Q E h => ?_) (fun _ _ _ _ _ _ us hl => match us, hl with | [_, _], _ => rfl) (fun cdv A0 outer s H vs Q E hr h => ?_)
  · obtain ⟨l, ns, k, rfl, _⟩ := h; rfl
  obtain ⟨l, ns, k, rfl, hl, q⟩ := h
  refine ⟨_, pss_cons (ps_if (pt_cmpR op_lt (pv 1) (qlen T.f_len (pv 0)) (nomark _)) (pss_one (ps_ret (qix (pv 0) (pv 1)))) pss_nil)
    (pss_one (ps_ret (pe_op op_add (pe_op op_mul pe_int (pv 1)) pe_int))), ?_⟩
  refine ⟨_, rfl, _, rfl, _, _, rfl, .inl hl, _, _, rfl, rfl, _, rfl, ?_⟩
  by_cases h : k < ns.length
  · refine iteY (by rw [List.length_map]; omega) ?_
    refine ⟨_, rfl, _, rfl, _, _, _, .int (ns[k]), rfl, rfl, hl, atI_nat ?_, q _⟩
    rw [List.getElem?_map, List.getElem?_eq_getElem h]; rfl
  · refine iteN (by rw [List.length_map]; omega) ?_
    exact ⟨_, rfl, _, _, rfl, rfl, .inl ⟨by decide, by decide⟩, _, _, rfl, rfl, q _⟩
def spBoxL : Sp := fun vs H Q _ => ∃ c : Int, vs = [.int c] ∧ ∀ (B : Addr) (o : HO), H B = none → BoxO o → Q (.ref B) (upd H B o)
theorem ok_l_box (T : Tx K mg) : Fc P w K mg base 1 (aF K "_law_box") ["_law_cell_here"] spBoxL := by
  refine Fc.mk' T.d__law_box c__law_box (fun vs H Q E h => ?_) (fun _ _ _ _ _ _ us hl => match us, hl with | [_], _ => rfl) (fun cdv A0 outer s H vs Q E hr h => ?_)
  · obtain ⟨c, rfl, _⟩ := h; rfl
  obtain ⟨c, rfl, q⟩ := h
  refine ⟨_, pss_one (ps_ret (pe_lst (pa_cons (pe_callB (call_max2 rfl) rfl T.f_max boot_maxB (pa_cons pe_int (pa_cons (pe_op op_sub (pv 0) (pe_op op_pow pe_int pe_int)) pa_nil)))
    (pa_cons (pe_op op_mod (pv 0) pe_int) (pa_cons pe_int pa_nil))))), ?_⟩
  refine ⟨_, rfl, _, _, rfl, rfl, ⟨by decide, by decide, by decide⟩, _, _, rfl, rfl, _, _, rfl, _, rfl, _, _, rfl, rfl, (by show (0 : Int) < 2147483629; decide), (by show 3 ≤ sizeLine; decide), fun B nB => q B _ nB ?_⟩
  obtain ⟨x, hx⟩ := int_nn (i := if c - 10 ^ (18 : Int).toNat > 0 then c - 10 ^ (18 : Int).toNat else 0) (by split <;> omega)
  obtain ⟨y, hy⟩ := int_nn (i := c % 2147483629) (by omega)
  refine ⟨x, y, 0, ?_, by omega⟩
  show HO.lst [V.int (if c - 10 ^ (18 : Int).toNat > 0 then c - 10 ^ (18 : Int).toNat else 0), V.int (c % 2147483629), V.int 0] = _
  rw [hx, hy]; rfl
def spTakeL : Sp := fun vs H Q _ => ∃ (B : Addr) (n : Nat), vs = [.ref B, .int (n : Int)] ∧ 0 < n ∧ n < 1073741824 ∧ BoxAt H B ∧ ∀ (r : Nat) (o : HO), r < n → BoxO o → Q (.int (r : Int)) (upd H B o)
theorem ok_l_take (T : Tx K mg) : Fc P w K mg base 1 (aF K "_law_take") ["_law_box_here", "_law_many"] spTakeL := by
  refine Fc.mk' T.d__law_take c__law_take (fun vs H Q E h => ?_) (fun _ _ _ _ _ _ us hl => match us, hl with | [_, _], _ => rfl) (fun cdv A0 outer s H vs Q E hr h => ?_)
  · obtain ⟨B, n, rfl, _⟩ := h; rfl
  obtain ⟨B, n, rfl, n0, n1, ⟨o, hB, x, y, z, rfl, hy⟩, q⟩ := h
  have nd := c__law_take.nd
  refine ⟨_, pss_cons (ps_if (pt_cmpR op_gt (qix (pv 0) pe_int) pe_int (nomark _)) (pss_cons (ps_set (i := 2) nd rfl (.inl rfl) (pe_op op_mod (qix (pv 0) pe_int) (pv 1)))
      (pss_cons (ps_asg (pe_op op_fdiv (qix (pv 0) pe_int) (pv 1)) (pg_sub (pv 0) pe_int set_list)) (pss_one (ps_ret (pv 2))))) pss_nil)
    (pss_cons (ps_asg (pe_op op_add (qix (pv 0) pe_int) pe_int) (pg_sub (pv 0) pe_int set_list))
    (pss_cons (ps_set (i := 3) nd rfl (.inl rfl) (pe_op op_mod (pe_op op_mul (pe_op op_add (qix (pv 0) pe_int) pe_int) (pe_op op_add (pe_op op_mul pe_int (qix (pv 0) pe_int)) pe_int)) pe_int))
    (pss_cons (ps_set (i := 3) nd rfl (.inl rfl) (pe_op op_mod (pe_op op_pow (pv 3) pe_int) pe_int))
    (pss_one (ps_ret (pe_op op_mod (pe_op op_fdiv (pe_op op_mod (pe_op op_pow (pe_op op_add (pv 3) (pe_op op_fdiv (qix (pv 0) pe_int) pe_int)) pe_int) pe_int) pe_int) (pv 1))))))), ?_⟩
  refine ⟨_, rfl, _, _, _, .int (x : Int), rfl, rfl, SqL.of hB, atI_nat (j := 0) rfl, _, _, rfl, rfl, _, rfl, ?_⟩
  by_cases hx : 0 < x
  · refine iteY (by omega) ?_
    refine ⟨_, rfl, _, _, _, .int (x : Int), rfl, rfl, SqL.of hB, atI_nat (j := 0) rfl, _, rfl, _, _, rfl, rfl, (by show (0 : Int) < (n : Int); omega), ?_⟩
    refine ⟨_, rfl, _, _, _, .int (x : Int), rfl, rfl, SqL.of hB, atI_nat (j := 0) rfl, _, rfl, _, _, rfl, rfl, ⟨by omega, by omega⟩, _, rfl, B, _, 0, 0, rfl, rfl, hB, (by show ixN 3 0 = some 0; decide), ?_⟩
    refine ⟨_, rfl, ?_⟩
    have e1 : (x : Int) % (n : Int) = ((x % n : Nat) : Int) := by simp
    have e2 : (x : Int) / (n : Int) = ((x / n : Nat) : Int) := by simp
    show Q (.int ((x : Int) % (n : Int))) (upd H B (.lst [.int ((x : Int) / (n : Int)), .int (y : Int), .int (z : Int)]))
    rw [e1, e2]
    exact q _ _ (Nat.mod_lt _ n0) ⟨_, _, _, rfl, hy⟩
  · refine iteN (by omega) ?_
    refine ⟨_, rfl, _, _, _, .int (z : Int), rfl, rfl, SqL.of hB, atI_nat (j := 2) rfl, _, _, rfl, rfl, _, rfl, B, _, 2, 2, rfl, rfl, hB, (by show ixN 3 2 = some 2; decide), ?_⟩
    have h2 : upd H B (.lst ([V.int (x : Int), V.int (y : Int), V.int (z : Int)].set 2 (V.int ((z : Int) + 1)))) B = some (.lst [V.int (x : Int), V.int (y : Int), V.int ((z : Int) + 1)]) := upd_same
    refine ⟨_, rfl, _, _, _, .int (y : Int), rfl, rfl, SqL.of h2, atI_nat (j := 1) rfl, _, _, rfl, rfl, _, rfl, _, _, _, .int ((z : Int) + 1), rfl, rfl, SqL.of h2, atI_nat (j := 2) rfl, _, _, rfl, rfl, .inl ⟨by decide, by decide⟩, _, _, rfl, rfl, _, _, rfl, rfl, .inl ⟨by omega, by omega⟩, _, _, rfl, rfl, (by show (0 : Int) < 2147483647; decide), ?_⟩
    have b2 := tk1_b y z
    refine ⟨_, rfl, _, _, rfl, rfl, ⟨by decide, by decide, (show (tk1 y z).natAbs < 2 ^ 64 by omega)⟩, _, _, rfl, rfl, (by show (0 : Int) < 2147483629; decide), ?_⟩
    have b4 := tk2_b y z
    refine ⟨_, rfl, _, rfl, _, _, _, .int (y : Int), rfl, rfl, SqL.of h2, atI_nat (j := 1) rfl, _, _, rfl, rfl, ⟨by decide, by decide⟩, _, _, rfl, rfl, _, _, rfl, rfl, ⟨by decide, by decide, (show (tk2 y z + (y : Int) / 65536).natAbs < 2 ^ 64 by omega)⟩, _, _, rfl, rfl, (by show (0 : Int) < 2147483587; decide), _, _, rfl, rfl, ⟨by decide, by decide⟩, _, rfl, _, _, rfl, rfl, (by show (0 : Int) < (n : Int); omega), ?_⟩
    obtain ⟨m, hm⟩ := int_nn (tk3_b y z)
    have e1 : tk3 y z / 16 % (n : Int) = ((m / 16 % n : Nat) : Int) := by rw [hm]; simp
    show Q (.int (tk3 y z / 16 % (n : Int))) _
    rw [e1]
    exact q _ _ (Nat.mod_lt _ n0) ⟨x, y, z + 1, rfl, hy⟩
end
end MK

set_option Elab.async false
set_option linter.all false
set_option maxRecDepth 100000
set_option maxHeartbeats 4000000
/-! the law's own defs: worth, worths -/
namespace MK
open PySem PySem.Spec PyProof.Rows L2
section
variable {P : Program} {w : World} {K : PySem.W.Frag} {mg : Str → Option Value} {base : Heap}
def spWorthL : Sp := fun vs H Q _ => ∃ (B : Addr), vs = [.ref B] ∧ BoxAt H B ∧ ∀ (v : Int) (H' : Hp), okW v → BoxAt H' B → Keep (onB B) H H' → Q (.int v) H'
theorem okW_a : okW (10 ^ (30 : Int).toNat - 1) := by decide +kernel
theorem okW_b : okW (1 - 10 ^ (30 : Int).toNat) := by decide +kernel
theorem okW_c {r : Nat} (h : r < 100000000) : okW (((r : Int) * 10 ^ (22 : Int).toNat + 7) * 1) ∧ okW (((r : Int) * 10 ^ (22 : Int).toNat + 7) * -1) := by
  have e : (10 : Int) ^ (22 : Int).toNat = 10000000000000000000000 := by decide +kernel
  have e2 : big = 999999999999999999999999999999 := by decide +kernel
  unfold okW
  rw [e, e2]
  omega
theorem ok_l_worth (T : Tx K mg) : Fc P w K mg base 2 (aF K "_law_worth") ["_law_box_here"] spWorthL := by
  refine Fc.mk' T.d__law_worth c__law_worth (fun vs H Q E h => ?_) (fun _ _ _ _ _ _ us hl => match us, hl with | [_], _ => rfl) (fun cdv A0 outer s H vs Q E hr h => ?_)
  · obtain ⟨B, rfl, _⟩ := h; rfl
  obtain ⟨B, rfl, ⟨o1, hB, bo1⟩, q⟩ := h
  have nd := c__law_worth.nd
  refine ⟨_, pss_cons (ps_set (i := 1) nd rfl (.inl rfl) (qc (ok_l_take T) hr rfl T.g__law_take (pa_cons (pv 0) (pa_cons pe_int pa_nil))))
    (pss_cons (ps_if (pt_cmpR op_eq (pv 1) pe_int (nomark _)) (pss_one (ps_ret (qix (pe_lst (pa_cons (pe_op op_sub (pe_op op_pow pe_int pe_int) pe_int) (pa_cons (pe_op op_sub pe_int (pe_op op_pow pe_int pe_int)) (pa_cons pe_int (pa_cons pe_int pa_nil)))))
      (qc (ok_l_take T) hr rfl T.g__law_take (pa_cons (pv 0) (pa_cons pe_int pa_nil)))))) pss_nil)
    (pss_cons (ps_if (pt_cmpR op_eq (pv 1) pe_int (nomark _)) (pss_one (ps_ret (pe_op op_mul (pe_op op_add (pe_op op_mul (qc (ok_l_take T) hr rfl T.g__law_take (pa_cons (pv 0) (pa_cons (pe_op op_pow pe_int pe_int) pa_nil))) (pe_op op_pow pe_int pe_int)) pe_int)
      (qix (pe_lst (pa_cons pe_int (pa_cons qneg pa_nil))) (qc (ok_l_take T) hr rfl T.g__law_take (pa_cons (pv 0) (pa_cons pe_int pa_nil))))))) pss_nil)
    (pss_one (ps_ret (pe_op op_sub (qc (ok_l_take T) hr rfl T.g__law_take (pa_cons (pv 0) (pa_cons pe_int pa_nil))) pe_int))))), ?_⟩
  refine ⟨_, rfl, B, 8, rfl, by decide, by decide, ⟨o1, hB, bo1⟩, fun r o lr bo => ?_⟩
  have k1 := keep_box (o := o) hB bo1
  have h1 : upd H B o B = some o := upd_same
  generalize (upd H B o) = H1 at k1 h1 ⊢
  refine ⟨_, rfl, rfl, _, rfl, ?_⟩
  by_cases r0 : r = 0
  · refine iteY (by rw [r0]; rfl) ?_
    refine ⟨_, _, rfl, rfl, ⟨by decide, by decide, by decide⟩, _, _, rfl, rfl, _, _, rfl, rfl, ⟨by decide, by decide, by decide⟩, _, _, rfl, rfl, (by show 4 ≤ sizeLine; decide), fun l nl1 => ?_⟩
    have lB : B ≠ l := ne_of_none h1 nl1
    refine ⟨_, rfl, B, 4, rfl, by decide, by decide, ⟨o, (upd_ne lB).trans h1, bo⟩, fun r2 o2 lr2 bo2 => ?_⟩
    have l3 : ∀ z : List V, upd (upd H1 l (.lst z)) B o2 l = some (.lst z) := fun z => by rw [upd_ne lB.symm, upd_same]
    have k3 : ∀ z : List V, Keep (onB B) H (upd (upd H1 l (.lst z)) B o2) := fun z => (k1.new nl1).set (.inl onB_self) ((upd_ne lB).trans h1) bo.nt
    have b3 : ∀ z : List V, BoxAt (upd (upd H1 l (.lst z)) B o2) B := fun z => ⟨o2, upd_same, bo2⟩
    have : r2 = 0 ∨ r2 = 1 ∨ r2 = 2 ∨ r2 = 3 := by omega
    rcases this with rfl | rfl | rfl | rfl
    · exact ⟨_, _, _, _, rfl, rfl, SqL.of (l3 _), atI_nat (j := 0) rfl, q _ _ okW_a (b3 _) (k3 _)⟩
    · exact ⟨_, _, _, _, rfl, rfl, SqL.of (l3 _), atI_nat (j := 1) rfl, q _ _ okW_b (b3 _) (k3 _)⟩
    · exact ⟨_, _, _, _, rfl, rfl, SqL.of (l3 _), atI_nat (j := 2) rfl, q _ _ (by decide) (b3 _) (k3 _)⟩
    · exact ⟨_, _, _, _, rfl, rfl, SqL.of (l3 _), atI_nat (j := 3) rfl, q _ _ (by decide) (b3 _) (k3 _)⟩
  refine iteN (fun z => r0 (by have := V.int.inj z; omega)) ?_
  refine ⟨_, rfl, rfl, _, rfl, ?_⟩
  by_cases r1 : r = 1
  · refine iteY (by rw [r1]; rfl) ?_
    refine ⟨_, rfl, _, _, rfl, rfl, ⟨by decide, by decide, by decide⟩, B, 100000000, rfl, by decide, by decide, ⟨o, h1, bo⟩, fun r2 o2 lr2 bo2 => ?_⟩
    have k2 := k1.trans (keep_box (o := o2) h1 bo)
    have h2 : upd H1 B o2 B = some o2 := upd_same
    generalize (upd H1 B o2) = H2 at k2 h2 ⊢
    refine ⟨_, _, rfl, rfl, ⟨by decide, by decide, by decide⟩, _, _, rfl, rfl, .inl ⟨by omega, by omega⟩, _, _, rfl, rfl, _, rfl, (by show 2 ≤ sizeLine; decide), fun l nl1 => ?_⟩
    have lB : B ≠ l := ne_of_none h2 nl1
    refine ⟨_, rfl, B, 2, rfl, by decide, by decide, ⟨o2, (upd_ne lB).trans h2, bo2⟩, fun r3 o3 lr3 bo3 => ?_⟩
    have l3 : ∀ z : List V, upd (upd H2 l (.lst z)) B o3 l = some (.lst z) := fun z => by rw [upd_ne lB.symm, upd_same]
    have k3 : ∀ z : List V, Keep (onB B) H (upd (upd H2 l (.lst z)) B o3) := fun z => (k2.new nl1).set (.inl onB_self) ((upd_ne lB).trans h2) bo2.nt
    have b3 : ∀ z : List V, BoxAt (upd (upd H2 l (.lst z)) B o3) B := fun z => ⟨o3, upd_same, bo3⟩
    have : r3 = 0 ∨ r3 = 1 := by omega
    have ok2 := okW_c lr2
    rcases this with rfl | rfl
    · exact ⟨_, _, _, _, rfl, rfl, SqL.of (l3 _), atI_nat (j := 0) rfl, _, _, rfl, rfl, .inr ⟨by decide, by decide⟩, q _ _ ok2.1 (b3 _) (k3 _)⟩
    · exact ⟨_, _, _, _, rfl, rfl, SqL.of (l3 _), atI_nat (j := 1) rfl, _, _, rfl, rfl, .inr ⟨by decide, by decide⟩, q _ _ ok2.2 (b3 _) (k3 _)⟩
  refine iteN (fun z => r1 (by have := V.int.inj z; omega)) ?_
  refine ⟨_, rfl, B, 9, rfl, by decide, by decide, ⟨o, h1, bo⟩, fun r2 o2 lr2 bo2 => ?_⟩
  have e2 : big = 999999999999999999999999999999 := by decide +kernel
  exact ⟨_, _, rfl, rfl, q _ _ (show okW ((r2 : Int) - 4) by unfold okW; rw [e2]; omega) ⟨o2, upd_same, bo2⟩ (k1.trans (keep_box h1 bo))⟩
def spWorthsL : Sp := fun vs H Q _ => ∃ (B : Addr), vs = [.ref B] ∧ BoxAt H B ∧ ∀ (ns : List Int) (l : Addr) (H' : Hp), 1 ≤ ns.length → ns.length ≤ 16 → (∀ n ∈ ns, okW n) → H l = none → H' l = some (.lst (ns.map V.int)) → BoxAt H' B → Keep (onB B) H H' → Q (.ref l) H'
theorem ok_l_worths (T : Tx K mg) : Fc P w K mg base 3 (aF K "_law_worths") ["_law_box_here"] spWorthsL := by
  refine Fc.mk' T.d__law_worths c__law_worths (fun vs H Q E h => ?_) (fun _ _ _ _ _ _ us hl => match us, hl with | [_], _ => rfl) (fun cdv A0 outer s H vs Q E hr h => ?_)
  · obtain ⟨B, rfl, _⟩ := h; rfl
  obtain ⟨B, rfl, ⟨o1, hB, bo1⟩, q⟩ := h
  have nd := c__law_worths.nd
  have tk := fun (n : Nat) => 0
  refine ⟨_, pss_cons (ps_set (i := 1) nd rfl (.inl rfl) (qix (pe_lst (pa_cons (pe_op op_add pe_int (qc (ok_l_take T) (hr.mono (by decide)) rfl T.g__law_take (pa_cons (pv 0) (pa_cons pe_int pa_nil))))
      (pa_cons (pe_op op_add pe_int (qc (ok_l_take T) (hr.mono (by decide)) rfl T.g__law_take (pa_cons (pv 0) (pa_cons pe_int pa_nil)))) (pa_cons pe_int (pa_cons pe_int (pa_cons pe_int pa_nil))))))
      (qc (ok_l_take T) (hr.mono (by decide)) rfl T.g__law_take (pa_cons (pv 0) (pa_cons pe_int pa_nil)))))
    (pss_one (ps_ret (pe_lc (own := [("_law_k", 2)]) (g := gName 2) (tt := tYes) rfl nd (pi_range1 rfl T.f_range (pa_cons (pv 1) pa_nil))
      (blkOk_by (N := ["_law_box_here", "_law_size", "_law_k"]) (sc := defScope s__law_worths) (by decide +kernel))
      (fun _ _ _ _ _ => pg_name (i := 2) nd rfl (.inl rfl)) (fun _ _ _ _ _ => pts_nil) (fun _ _ _ _ _ => qc (ok_l_worth T) hr rfl T.g__law_worth (pa_cons (pv 0) pa_nil))))), ?_⟩
  refine ⟨_, rfl, B, 16, rfl, by decide, by decide, ⟨o1, hB, bo1⟩, fun r o lr bo => ?_⟩
  have k1 := keep_box (o := o) hB bo1
  have h1 : upd H B o B = some o := upd_same
  generalize (upd H B o) = H1 at k1 h1 ⊢
  refine ⟨_, _, rfl, rfl, _, rfl, B, 5, rfl, by decide, by decide, ⟨o, h1, bo⟩, fun r2 o2 lr2 bo2 => ?_⟩
  have k2 := k1.trans (keep_box (o := o2) h1 bo)
  have h2 : upd H1 B o2 B = some o2 := upd_same
  generalize (upd H1 B o2) = H2 at k2 h2 ⊢
  refine ⟨_, _, rfl, rfl, (by show 5 ≤ sizeLine; decide), fun l nl1 => ?_⟩
  have lB : B ≠ l := ne_of_none h2 nl1
  refine ⟨_, rfl, B, 5, rfl, by decide, by decide, ⟨o2, (upd_ne lB).trans h2, bo2⟩, fun r3 o3 lr3 bo3 => ?_⟩
  have l3 : ∀ z : List V, upd (upd H2 l (.lst z)) B o3 l = some (.lst z) := fun z => by rw [upd_ne lB.symm, upd_same]
  have k3 : ∀ z : List V, Keep (onB B) H (upd (upd H2 l (.lst z)) B o3) := fun z => (k2.new nl1).set (.inl onB_self) ((upd_ne lB).trans h2) bo2.nt
  have b3 : ∀ z : List V, BoxAt (upd (upd H2 l (.lst z)) B o3) B := fun z => ⟨o3, upd_same, bo3⟩
  have sel : ∃ n : Nat, 1 ≤ n ∧ n ≤ 16 ∧ atI [V.int (1 + (r : Int)), V.int (1 + (r2 : Int)), V.int 16, V.int 1, V.int 2] (r3 : Int) = some (.int (n : Int)) := by
    have : r3 = 0 ∨ r3 = 1 ∨ r3 = 2 ∨ r3 = 3 ∨ r3 = 4 := by omega
    rcases this with rfl | rfl | rfl | rfl | rfl
    · exact ⟨1 + r, by omega, by omega, (atI_nat (j := 0) rfl).trans (by rw [show ((1 + r : Nat) : Int) = 1 + (r : Int) by omega])⟩
    · exact ⟨1 + r2, by omega, by omega, (atI_nat (j := 1) rfl).trans (by rw [show ((1 + r2 : Nat) : Int) = 1 + (r2 : Int) by omega])⟩
    · exact ⟨16, by decide, by decide, atI_nat (j := 2) rfl⟩
    · exact ⟨1, by decide, by decide, atI_nat (j := 3) rfl⟩
    · exact ⟨2, by decide, by decide, atI_nat (j := 4) rfl⟩
  obtain ⟨n, n1, n16, hn⟩ := sel
  refine ⟨_, _, _, _, rfl, rfl, SqL.of (l3 _), hn, ?_⟩
  have k3 := k3 [V.int (1 + (r : Int)), V.int (1 + (r2 : Int)), V.int 16, V.int 1, V.int 2]
  have b3 := b3 [V.int (1 + (r : Int)), V.int (1 + (r2 : Int)), V.int 16, V.int 1, V.int 2]
  generalize (upd (upd H2 l (.lst [V.int (1 + (r : Int)), V.int (1 + (r2 : Int)), V.int 16, V.int 1, V.int 2])) B o3) = H3 at k3 b3 ⊢
  refine ⟨_, rfl, _, rfl, by omega, by omega, fun D nD => ?_⟩
  have nD0 := k3.th _ nD
  have DB : D ≠ B := fun z => by obtain ⟨o, e, _⟩ := b3; rw [z, e] at nD; cases nD
  refine lc_range (fun i H4 => ∃ ns : List Int, ns.length = i ∧ (∀ n ∈ ns, okW n) ∧ H4 D = some (.lst (ns.map V.int)) ∧ BoxAt H4 B ∧ Keep (onB B) H H4) ⟨[], rfl, (fun n hn => (nomatch hn)), upd_same, ?_, k3.new nD⟩ ?_ ?_
  · exact b3.same (Same.new (Same.refl _) nD)
  · rintro i H4 hi ⟨ns, e1, e2, e3, e4, e5⟩
    refine ⟨rfl, _, rfl, B, rfl, e4, fun v H5 okv b5 k5 => ?_⟩
    have D5 := k5.k _ _ e3 (.inl (if_neg DB))
    refine ⟨_, D5, (by rw [List.length_map]; exact small1000 (by omega)), ns ++ [v], by rw [List.length_append, e1]; rfl, fun n hn => ?_, ?_, ?_, (e5.trans k5).set (.inr nD0) D5 id⟩
    · rcases List.mem_append.mp hn with h | h
      · exact e2 n h
      · rw [List.mem_singleton.mp h]; exact okv
    · rw [upd_same, List.map_append]; rfl
    · obtain ⟨o, e, bo⟩ := b5
      exact ⟨o, (upd_ne DB.symm).trans e, bo⟩
  · rintro H4 ⟨ns, e1, e2, e3, e4, e5⟩
    exact q ns D H4 (by omega) (by omega) e2 nD0 e3 e4 e5
end
end MK

set_option Elab.async false
set_option linter.all false
set_option maxRecDepth 100000
set_option maxHeartbeats 4000000
/-! the law's own model: model, writer, value, line_of, kept, grown -/
namespace MK
open PySem PySem.Spec PyProof.Rows L2
structure MAd where
  d : Addr
  af : Addr
  ao : Addr
  aw : Addr
  at_ : Addr
  ag : Addr
def mdK (A : MAd) : List (Key × V) := [(Sum.inr "first", .ref A.af), (Sum.inr "own", .ref A.ao), (Sum.inr "wrote", .ref A.aw), (Sum.inr "worth", .ref A.at_), (Sum.inr "gone", .ref A.ag)]
theorem md_first {A : MAd} : valV (mdK A) (Sum.inr "first") = some (.ref A.af) := by kernel_rfl
theorem md_own {A : MAd} : valV (mdK A) (Sum.inr "own") = some (.ref A.ao) := by kernel_rfl
theorem md_wrote {A : MAd} : valV (mdK A) (Sum.inr "wrote") = some (.ref A.aw) := by kernel_rfl
theorem md_worth {A : MAd} : valV (mdK A) (Sum.inr "worth") = some (.ref A.at_) := by kernel_rfl
theorem md_gone {A : MAd} : valV (mdK A) (Sum.inr "gone") = some (.ref A.ag) := by kernel_rfl
def worV (worth : Nat → Int) : Nat → V := fun i => if i = 0 then .non else .int (worth i)
structure MdIn (A : MAd) (H : Hp) (W : Ow) (M : Mo) : Prop where
  hd : H A.d = some (.dK (mdK A))
  hf : H A.af = some (.lst ((List.range M.size).map fun p => .int (M.first p)))
  ho : H A.ao = some (.lst ((List.range M.n).map (ownV M.own)))
  hw : H A.aw = some (.lst ((List.range M.n).map (wroV M.wrote)))
  ht : H A.at_ = some (.lst ((List.range M.n).map (worV M.worth)))
  hg : H A.ag = some (.lst ((List.range M.n).map (gonV M.gone)))
  rd : W A.d = 1
  rf : W A.af = 2
  ro : W A.ao = 3
  rw : W A.aw = 4
  rt : W A.at_ = 5
  rg : W A.ag = 6
  has : Has W H
def MdAt (H : Hp) (d : Addr) (W : Ow) (M : Mo) : Prop := ∃ A : MAd, A.d = d ∧ MdIn A H W M
theorem MdIn.at' {A : MAd} {H H' : Hp} {W : Ow} {M : Mo} (R : MdIn A H W M) (h : ∀ b o, H b = some o → W b ≠ 0 → H' b = some o) : MdIn A H' W M :=
  ⟨h _ _ R.hd (by rw [R.rd]; decide), h _ _ R.hf (by rw [R.rf]; decide), h _ _ R.ho (by rw [R.ro]; decide), h _ _ R.hw (by rw [R.rw]; decide), h _ _ R.ht (by rw [R.rt]; decide), h _ _ R.hg (by rw [R.rg]; decide),
    R.rd, R.rf, R.ro, R.rw, R.rt, R.rg, fun b hb e => by
      cases e2 : H b with
      | none => exact R.has b hb e2
      | some o => rw [h b o e2 hb] at e; cases e⟩
theorem MdAt.same {H H' : Hp} {d : Addr} {W : Ow} {M : Mo} (R : MdAt H d W M) (s : Same H H') : MdAt H' d W M := let ⟨A, e, r⟩ := R; ⟨A, e, r.at' fun b o e _ => s b o e⟩
theorem MdAt.keep {H H' : Hp} {d : Addr} {W U : Ow} {M : Mo} (R : MdAt H d W M) (k : Keep U H H') (dj : Dis U W) : MdAt H' d W M := let ⟨A, e, r⟩ := R; ⟨A, e, r.at' fun b o e h => k.k b o e (.inl ((dj b).resolve_right h))⟩
theorem MdAt.has {H : Hp} {d : Addr} {W : Ow} {M : Mo} (R : MdAt H d W M) : Has W H := let ⟨_, _, r⟩ := R; r.has
section
variable {P : Program} {w : World} {K : PySem.W.Frag} {mg : Str → Option Value} {base : Heap}
def mdW (d af ao aw at_ ag : Addr) : Ow := fun b => if b = d then 1 else if b = af then 2 else if b = ao then 3 else if b = aw then 4 else if b = at_ then 5 else if b = ag then 6 else 0
def spModelL : Sp := fun vs H Q _ => ∃ (a : Addr) (ns : List Int), vs = [.ref a] ∧ H a = some (.lst (ns.map V.int)) ∧ ∀ (d : Addr) (W : Ow) (H' : Hp), MdAt H' d W (M0 ns) → (∀ b, W b ≠ 0 → H b = none) → Same H H' → Q (.ref d) H'
theorem ok_l_model (T : Tx K mg) : Fc P w K mg base 1 (aF K "_law_model") ["_law_worths_here"] spModelL := by
  refine Fc.mk' T.d__law_model c__law_model (fun vs H Q E h => ?_) (fun _ _ _ _ _ _ us hl => match us, hl with | [_], _ => rfl) (fun cdv A0 outer s H vs Q E hr h => ?_)
  · obtain ⟨a, ns, rfl, _⟩ := h; rfl
  obtain ⟨a, ns, rfl, ha, q⟩ := h
  refine ⟨_, pss_one (ps_ret (pe_disp (pps_cons pe_str (pe_callTy (cl_list (K := K) rfl) rfl T.f_list boot_listT (pa_cons (pv 0) pa_nil)) (pps_cons pe_str (pe_lst (pa_cons pe_non pa_nil)) (pps_cons pe_str (pe_lst (pa_cons pe_non pa_nil))
    (pps_cons pe_str (pe_lst (pa_cons pe_non pa_nil)) (pps_cons pe_str (pe_lst (pa_cons pe_bl pa_nil)) pps_nil))))) rfl rfl (fun z => nomatch z) (by decide))), ?_⟩
  intro d nd
  have s0 : Same H (upd H d (.dK [])) := Same.new (Same.refl _) nd
  have d0 : upd H d (.dK []) d = some (.dK []) := upd_same
  generalize (upd H d (.dK [])) = H0 at s0 d0 ⊢
  refine ⟨_, rfl, a, _, rfl, .inl (SqL.of (s0 _ _ ha)), fun af nf => ?_⟩
  have s1 : Same H0 (upd H0 af (.lst (ns.map V.int))) := Same.new (Same.refl _) nf
  have f1 : upd H0 af (.lst (ns.map V.int)) af = some (.lst (ns.map V.int)) := upd_same
  generalize (upd H0 af (.lst (ns.map V.int))) = H1 at s1 f1 ⊢
  refine ⟨(by show 1 ≤ sizeLine; decide), fun ao no => ?_⟩
  have s2 : Same H1 (upd H1 ao (.lst [V.non])) := Same.new (Same.refl _) no
  have o2 : upd H1 ao (.lst [V.non]) ao = some (.lst [V.non]) := upd_same
  generalize (upd H1 ao (.lst [V.non])) = H2 at s2 o2 ⊢
  refine ⟨(by show 1 ≤ sizeLine; decide), fun aw nw => ?_⟩
  have s3 : Same H2 (upd H2 aw (.lst [V.non])) := Same.new (Same.refl _) nw
  have w3 : upd H2 aw (.lst [V.non]) aw = some (.lst [V.non]) := upd_same
  generalize (upd H2 aw (.lst [V.non])) = H3 at s3 w3 ⊢
  refine ⟨(by show 1 ≤ sizeLine; decide), fun at_ nt => ?_⟩
  have s4 : Same H3 (upd H3 at_ (.lst [V.non])) := Same.new (Same.refl _) nt
  have t4 : upd H3 at_ (.lst [V.non]) at_ = some (.lst [V.non]) := upd_same
  generalize (upd H3 at_ (.lst [V.non])) = H4 at s4 t4 ⊢
  refine ⟨(by show 1 ≤ sizeLine; decide), fun ag ng => ?_⟩
  have s5 : Same H4 (upd H4 ag (.lst [V.bl false])) := Same.new (Same.refl _) ng
  have g5 : upd H4 ag (.lst [V.bl false]) ag = some (.lst [V.bl false]) := upd_same
  generalize (upd H4 ag (.lst [V.bl false])) = H5 at s5 g5 ⊢
  have d1 := s1 _ _ d0
  have d2 := s2 _ _ d1
  have d3 := s3 _ _ d2
  have d4 := s4 _ _ d3
  have d5 := s5 _ _ d4
  have f2 := s2 _ _ f1
  have f3 := s3 _ _ f2
  have f4 := s4 _ _ f3
  have f5 := s5 _ _ f4
  have o3 := s3 _ _ o2
  have o4 := s4 _ _ o3
  have o5 := s5 _ _ o4
  have w4 := s4 _ _ w3
  have w5 := s5 _ _ w4
  have t5 := s5 _ _ t4
  refine ⟨d5, mdK ⟨d, af, ao, aw, at_, ag⟩, rfl, (by show 5 ≤ 15; decide), ?_⟩
  have em : mergeK [] (mdK ⟨d, af, ao, aw, at_, ag⟩) = mdK ⟨d, af, ao, aw, at_, ag⟩ := by kernel_rfl
  rw [em]
  have nd1 := nd
  have nf0 : H af = none := s0.free nf
  have no0 : H ao = none := s0.free (s1.free no)
  have nw0 : H aw = none := s0.free (s1.free (s2.free nw))
  have nt0 : H at_ = none := s0.free (s1.free (s2.free (s3.free nt)))
  have ng0 : H ag = none := s0.free (s1.free (s2.free (s3.free (s4.free ng))))
  have fd := ne_of_none d0 nf
  have od := ne_of_none d1 no
  have wd := ne_of_none d2 nw
  have td := ne_of_none d3 nt
  have gd := ne_of_none d4 ng
  have fo := ne_of_none f1 no
  have fw := ne_of_none f2 nw
  have ft := ne_of_none f3 nt
  have fg := ne_of_none f4 ng
  have ow := ne_of_none o2 nw
  have ot := ne_of_none o3 nt
  have og := ne_of_none o4 ng
  have wt := ne_of_none w3 nt
  have wg := ne_of_none w4 ng
  have tg := ne_of_none t4 ng
  have s6 : Same H (upd H5 d (.dK (mdK ⟨d, af, ao, aw, at_, ag⟩))) := Same.set (fun b o e => s5 _ _ (s4 _ _ (s3 _ _ (s2 _ _ (s1 _ _ (s0 _ _ e)))))) nd
  refine q d (mdW d af ao aw at_ ag) _ ⟨⟨d, af, ao, aw, at_, ag⟩, rfl, upd_same, ?_, (upd_ne od.symm).trans o5, (upd_ne wd.symm).trans w5, (upd_ne td.symm).trans t5, (upd_ne gd.symm).trans g5, ?_, ?_, ?_, ?_, ?_, ?_, fun b hb => ?_⟩ (fun b hb => ?_) s6
  · refine (upd_ne fd.symm).trans (f5.trans ?_)
    exact congrArg (fun l => some (HO.lst l)) (M0_list ns 0 _ fun p' hp' => rfl).symm
  · exact if_pos rfl
  · unfold mdW; rw [if_neg fd.symm, if_pos rfl]
  · unfold mdW; rw [if_neg od.symm, if_neg fo.symm, if_pos rfl]
  · unfold mdW; rw [if_neg wd.symm, if_neg fw.symm, if_neg ow.symm, if_pos rfl]
  · unfold mdW; rw [if_neg td.symm, if_neg ft.symm, if_neg ot.symm, if_neg wt.symm, if_pos rfl]
  · unfold mdW; rw [if_neg gd.symm, if_neg fg.symm, if_neg og.symm, if_neg wg.symm, if_neg tg.symm, if_pos rfl]
  · unfold mdW at hb
    by_cases z : b = d
    · rw [z, upd_same]; exact fun z => nomatch z
    rw [if_neg z] at hb
    rw [upd_ne z]
    by_cases z : b = af
    · rw [z, f5]; exact fun z => nomatch z
    rw [if_neg z] at hb
    by_cases z : b = ao
    · rw [z, o5]; exact fun z => nomatch z
    rw [if_neg z] at hb
    by_cases z : b = aw
    · rw [z, w5]; exact fun z => nomatch z
    rw [if_neg z] at hb
    by_cases z : b = at_
    · rw [z, t5]; exact fun z => nomatch z
    rw [if_neg z] at hb
    by_cases z : b = ag
    · rw [z, g5]; exact fun z => nomatch z
    rw [if_neg z] at hb
    exact absurd rfl hb
  · unfold mdW at hb
    by_cases z : b = d
    · rw [z]; exact nd
    rw [if_neg z] at hb
    by_cases z : b = af
    · rw [z]; exact nf0
    rw [if_neg z] at hb
    by_cases z : b = ao
    · rw [z]; exact no0
    rw [if_neg z] at hb
    by_cases z : b = aw
    · rw [z]; exact nw0
    rw [if_neg z] at hb
    by_cases z : b = at_
    · rw [z]; exact nt0
    rw [if_neg z] at hb
    by_cases z : b = ag
    · rw [z]; exact ng0
    rw [if_neg z] at hb
    exact absurd rfl hb
end
end MK

set_option Elab.async false
set_option linter.all false
set_option maxRecDepth 100000
set_option maxHeartbeats 4000000
/-! the law's own defs: writer, value, line_of, kept, grown -/
namespace MK
open PySem PySem.Spec PyProof.Rows L2
section
variable {A : MAd} {H : Hp} {W : Ow} {M : Mo}
theorem MdIn.g_first (R : MdIn A H W M) : DGet H A.d (.str "first") (some (.ref A.af)) := by
  have g := DGet.k (k := (Sum.inr "first" : Key)) R.hd
  rw [md_first] at g
  exact g
theorem MdIn.g_own (R : MdIn A H W M) : DGet H A.d (.str "own") (some (.ref A.ao)) := by
  have g := DGet.k (k := (Sum.inr "own" : Key)) R.hd
  rw [md_own] at g
  exact g
theorem MdIn.g_wrote (R : MdIn A H W M) : DGet H A.d (.str "wrote") (some (.ref A.aw)) := by
  have g := DGet.k (k := (Sum.inr "wrote" : Key)) R.hd
  rw [md_wrote] at g
  exact g
theorem MdIn.g_worth (R : MdIn A H W M) : DGet H A.d (.str "worth") (some (.ref A.at_)) := by
  have g := DGet.k (k := (Sum.inr "worth" : Key)) R.hd
  rw [md_worth] at g
  exact g
theorem MdIn.g_gone (R : MdIn A H W M) : DGet H A.d (.str "gone") (some (.ref A.ag)) := by
  have g := DGet.k (k := (Sum.inr "gone" : Key)) R.hd
  rw [md_gone] at g
  exact g
end
section
variable {P : Program} {w : World} {K : PySem.W.Frag} {mg : Str → Option Value} {base : Heap}
def spWriterL : Sp := fun vs H Q _ => ∃ (d : Addr) (m x : Nat) (W : Ow) (M : Mo), vs = [.ref d, .int (m : Int), .int (x : Int)] ∧ MdAt H d W M ∧ WT M.own ∧ m < M.n ∧ Q (.int ((M.wr m x : Nat) : Int)) H
theorem ok_l_writer (T : Tx K mg) : Fc P w K mg base 1 (aF K "_law_writer") ["_law_model_here", "_law_make", "_law_place"] spWriterL := by
  refine Fc.mk' T.d__law_writer c__law_writer (fun vs H Q E h => ?_) (fun _ _ _ _ _ _ us hl => match us, hl with | [_, _, _], _ => rfl) (fun cdv A0 outer s H vs Q E hr h => ?_)
  · obtain ⟨d, m, x, W, M, rfl, _⟩ := h; rfl
  obtain ⟨_, m, x, W, M, rfl, ⟨A, rfl, R⟩, wt, hm, q⟩ := h
  have nd := c__law_writer.nd
  have hu : (A0.deeper (envOfC "_law_writer" (defScope s__law_writer) s.heap.objs.size (aF K "_law_writer") cdv)).units + 1 < cLine := by have z := hr.units; omega
  refine ⟨_, pss_cons (ps_while PassesOwn.never (PW.pt (pw_and (pt_cmpR op_gt (pv 1) pe_int (nomark _)) (pw_and1 (pt_cmpR op_ne (qix (pe_dget hu (pv 0) pe_str (fun _ _ => rfl)) (pv 1)) (pv 2) (nomark _)))))
      (pss_one (ps_set (i := 1) nd rfl (.inl rfl) (qix (pe_dget hu (pv 0) pe_str (fun _ _ => rfl)) (pv 1)))))
    (pss_one (ps_ret (pv 1))), ?_⟩
  refine ⟨fun k σ H2 => ∃ c : Nat, k = c ∧ c < M.n ∧ M.wr c x = M.wr m x ∧ σ = [some (.ref A.d), some (.int (c : Int)), some (.int (x : Int))] ∧ H2 = H, ⟨m, m, rfl, hm, rfl, rfl, rfl⟩, ?_⟩
  rintro k σ H2 ⟨c, rfl, hc, ec, rfl, rfl⟩
  refine ⟨_, rfl, _, _, rfl, rfl, _, rfl, ?_⟩
  by_cases c0 : 0 < k
  · refine iteY (by omega) ?_
    have ew : wroV M.wrote k = .int ((M.wrote k : Nat) : Int) := if_neg (by omega)
    refine ⟨_, rfl, A.d, _, rfl, R.g_wrote, _, rfl, _, _, _, .int ((M.wrote k : Nat) : Int), rfl, rfl, SqL.of R.hw, ?_, _, rfl, rfl, _, rfl, ?_⟩
    · rw [← ew]; exact atI_nat (rng_at _ _ hc)
    have wp : M.wr k x = if M.wrote k = x then k else M.wr (M.own k) x := wr_pos wt c0 x
    by_cases e : M.wrote k = x
    · refine iteNS (by rw [e]) ?_
      rw [if_pos e] at wp
      refine ⟨_, rfl, ?_⟩
      rw [← wp, ec]; exact q
    · rw [if_neg e] at wp
      refine iteNN (fun z => e (by have := V.int.inj z; omega)) ⟨fun σ' H' => ∃ k', k' < k ∧ ∃ c : Nat, k' = c ∧ c < M.n ∧ M.wr c x = M.wr m x ∧ σ' = [some (.ref A.d), some (.int (c : Int)), some (.int (x : Int))] ∧ H' = H2, fun _ _ h => h, ?_⟩
      have lo := wt.lt k c0
      have eo : ownV M.own k = .int ((M.own k : Nat) : Int) := if_neg (by omega)
      refine ⟨_, rfl, A.d, _, rfl, R.g_own, _, rfl, _, _, _, .int ((M.own k : Nat) : Int), rfl, rfl, SqL.of R.ho, ?_, ?_⟩
      · rw [← eo]; exact atI_nat (rng_at _ _ hc)
      exact ⟨M.own k, lo, M.own k, rfl, by omega, by rw [← wp]; exact ec, rfl, rfl⟩
  · refine iteN (by omega) ?_
    have e0 : k = 0 := by omega
    subst e0
    refine ⟨_, rfl, ?_⟩
    have z : M.wr 0 x = 0 := wr_zero x
    rw [← ec, z] at q
    exact q
def spValueL : Sp := fun vs H Q _ => ∃ (d : Addr) (m x : Nat) (W : Ow) (M : Mo), vs = [.ref d, .int (m : Int), .int (x : Int)] ∧ MdAt H d W M ∧ M.Ok ∧ m < M.n ∧ x < M.size ∧ Q (.int (M.val m x)) H
theorem ok_l_value (T : Tx K mg) : Fc P w K mg base 2 (aF K "_law_value") ["_law_model_here", "_law_make", "_law_place"] spValueL := by
  refine Fc.mk' T.d__law_value c__law_value (fun vs H Q E h => ?_) (fun _ _ _ _ _ _ us hl => match us, hl with | [_, _, _], _ => rfl) (fun cdv A0 outer s H vs Q E hr h => ?_)
  · obtain ⟨d, m, x, W, M, rfl, _⟩ := h; rfl
  obtain ⟨_, m, x, W, M, rfl, ⟨A, rfl, R⟩, ok, hm, hx, q⟩ := h
  have nd := c__law_value.nd
  have hu : (A0.deeper (envOfC "_law_value" (defScope s__law_value) s.heap.objs.size (aF K "_law_value") cdv)).units + 1 < cLine := by have z := hr.units; omega
  refine ⟨_, pss_cons (ps_set (i := 3) nd rfl (.inl rfl) (qc (ok_l_writer T) hr rfl T.g__law_writer (pa_cons (pv 0) (pa_cons (pv 1) (pa_cons (pv 2) pa_nil)))))
    (pss_one (ps_ret (pe_ifExp (pt_cmpR op_eq (pv 3) pe_int (nomark _)) (qix (pe_dget hu (pv 0) pe_str (fun _ _ => rfl)) (pv 2)) (qix (pe_dget hu (pv 0) pe_str (fun _ _ => rfl)) (pv 3))))), ?_⟩
  refine ⟨_, rfl, _, rfl, _, rfl, A.d, m, x, W, M, rfl, ⟨A, rfl, R⟩, ok.wt, hm, ?_⟩
  refine ⟨_, rfl, rfl, _, rfl, ?_⟩
  have lw := Mo.wr_lt ok (p := x) hm
  unfold Mo.val at q
  by_cases e : M.wr m x = 0
  · refine iteY (by rw [e]; rfl) ?_
    rw [if_pos e] at q
    exact ⟨_, rfl, A.d, _, rfl, R.g_first, _, rfl, _, _, _, .int (M.first x), rfl, rfl, SqL.of R.hf, atI_nat (rng_at _ _ hx), q⟩
  · refine iteN (fun z => e (by have := V.int.inj z; omega)) ?_
    rw [if_neg e] at q
    have et : worV M.worth (M.wr m x) = .int (M.worth (M.wr m x)) := if_neg e
    refine ⟨_, rfl, A.d, _, rfl, R.g_worth, _, rfl, _, _, _, .int (M.worth (M.wr m x)), rfl, rfl, SqL.of R.ht, ?_, q⟩
    rw [← et]; exact atI_nat (rng_at _ _ lw)
def spLineL : Sp := fun vs H Q _ => ∃ (d : Addr) (m : Nat) (W : Ow) (M : Mo), vs = [.ref d, .int (m : Int)] ∧ MdAt H d W M ∧ M.Ok ∧ m < M.n ∧ ∀ (l : Addr) (H' : Hp), H l = none → H' l = some (.lst (stretchV M m 0 M.size)) → Same H H' → Q (.ref l) H'
theorem ok_l_line_of (T : Tx K mg) : Fc P w K mg base 3 (aF K "_law_line_of") ["_law_model_here", "_law_make"] spLineL := by
  refine Fc.mk' T.d__law_line_of c__law_line_of (fun vs H Q E h => ?_) (fun _ _ _ _ _ _ us hl => match us, hl with | [_, _], _ => rfl) (fun cdv A0 outer s H vs Q E hr h => ?_)
  · obtain ⟨d, m, W, M, rfl, _⟩ := h; rfl
  obtain ⟨_, m, W, M, rfl, ⟨A, rfl, R⟩, ok, hm, q⟩ := h
  have nd := c__law_line_of.nd
  have hu : (A0.deeper (envOfC "_law_line_of" (defScope s__law_line_of) s.heap.objs.size (aF K "_law_line_of") cdv)).units + 1 < cLine := by have z := hr.units; omega
  refine ⟨_, pss_one (ps_ret (pe_lc (own := [("_law_place", 2)]) (g := gName 2) (tt := tYes) rfl nd (pi_range1 rfl T.f_range (pa_cons (qlen T.f_len (pe_dget hu (pv 0) pe_str (fun _ _ => rfl))) pa_nil))
    (blkOk_by (N := ["_law_model_here", "_law_make", "_law_place"]) (sc := defScope s__law_line_of) (by decide +kernel))
    (fun _ _ _ _ _ => pg_name (i := 2) nd rfl (.inl rfl)) (fun _ _ _ _ _ => pts_nil) (fun _ _ _ _ _ => qc (ok_l_value T) hr rfl T.g__law_value (pa_cons (pv 0) (pa_cons (pv 1) (pa_cons (pv 2) pa_nil)))))), ?_⟩
  have s16 := ok.s16
  refine ⟨_, rfl, A.d, _, rfl, R.g_first, _, _, rfl, .inl (SqL.of R.hf), _, rfl, by omega, (by rw [rng_len]; omega), fun D nD => ?_⟩
  rw [Int.toNat_natCast, rng_len]
  refine lc_range (fun i H2 => H2 D = some (.lst ((List.range i).map fun j => .int (M.val m j))) ∧ Same H H2) ⟨upd_same, Same.new (Same.refl _) nD⟩ ?_ ?_
  · rintro i H2 hi ⟨h1, h2⟩
    have R2 := R.at' (H' := H2) fun b o e _ => h2 _ _ e
    refine ⟨rfl, _, rfl, _, rfl, _, rfl, A.d, m, 0 + i, W, M, by simp, ⟨A, rfl, R2⟩, ok, hm, by omega, ?_⟩
    refine ⟨_, h1, (by rw [rng_len]; exact small1000 (by omega)), ?_, Same.set h2 nD⟩
    rw [upd_same, rng_snoc, Nat.zero_add]
  · rintro H2 ⟨h1, h2⟩
    refine q D H2 nD (h1.trans (congrArg (fun l => some (HO.lst l)) ?_)) h2
    unfold stretchV
    rw [Nat.sub_zero]
    refine rng_ext fun j _ => ?_
    rw [Nat.zero_add]
def spKeptL : Sp := fun vs H Q _ => ∃ (d : Addr) (W : Ow) (M : Mo), vs = [.ref d] ∧ MdAt H d W M ∧ M.n ≤ 64 ∧ ∀ (l : Addr) (H' : Hp), H l = none → H' l = some (.lst (nl (keptL M))) → Same H H' → Q (.ref l) H'
theorem ok_l_kept (T : Tx K mg) : Fc P w K mg base 1 (aF K "_law_kept") ["_law_model_here"] spKeptL := by
  refine Fc.mk' T.d__law_kept c__law_kept (fun vs H Q E h => ?_) (fun _ _ _ _ _ _ us hl => match us, hl with | [_], _ => rfl) (fun cdv A0 outer s H vs Q E hr h => ?_)
  · obtain ⟨d, W, M, rfl, _⟩ := h; rfl
  obtain ⟨_, W, M, rfl, ⟨A, rfl, R⟩, hn, q⟩ := h
  have nd := c__law_kept.nd
  have hu : (A0.deeper (envOfC "_law_kept" (defScope s__law_kept) s.heap.objs.size (aF K "_law_kept") cdv)).units + 1 < cLine := by have z := hr.units; omega
  refine ⟨_, pss_one (ps_ret (pe_lc (own := [("_law_make", 1), ("_law_gone", 2)]) (g := gTup K 2 (gCons (gName 1) (gCons (gName 2) gNil))) (tt := tNot (tB (tVar 2))) rfl nd (pi_enum rfl T.f_enumerate (pa_cons (pe_dget hu (pv 0) pe_str (fun _ _ => rfl)) pa_nil))
    (blkOk_by (N := ["_law_model_here", "_law_make", "_law_gone"]) (sc := defScope s__law_kept) (by decide +kernel))
    (fun _ _ _ _ _ => pg_tup rfl (pgs_cons (pg_name (i := 1) nd rfl (.inl rfl)) (pgs_cons (pg_name (i := 2) nd rfl (.inl rfl)) pgs_nil))) (fun _ _ _ _ _ => pts_one (pt_not (pt_val (pv 2)))) (fun _ _ _ _ _ => pv 1))), ?_⟩
  refine ⟨_, rfl, A.d, _, rfl, R.g_gone, _, _, rfl, SqL.of R.hg, fun D nD => ?_⟩
  refine lc_it (walk_enum (K := K) (a := A.ag) (xs := (List.range M.n).map (gonV M.gone))) (fun i H2 => H2 D = some (.lst (nl ((List.range i).filter fun j => !M.gone j))) ∧ Same H H2)
    ⟨upd_same, Same.new (Same.refl _) nD⟩ (fun i H2 _ h => SqL.of (h.2 _ _ R.hg)) ?_ ?_
  · rintro i v H2 H3 hi ⟨hD, s2⟩ ⟨t, x, y, rfl, nt, rfl, ex, ey⟩
    rw [rng_len] at hi
    dsimp only at ex ey
    rw [rng_at _ _ hi] at ey
    cases ex
    cases ey
    have Dt : D ≠ t := ne_of_none hD nt
    have hD3 : ∀ o, upd H2 t o D = some (.lst (nl ((List.range i).filter fun j => !M.gone j))) := fun o => by rw [upd_ne Dt]; exact hD
    have s3 : ∀ o, Same H (upd H2 t o) := fun o => Same.new s2 nt
    refine ⟨t, _, rfl, SqT.of upd_same, rfl, _, _, rfl, _, _, rfl, rfl, rfl, _, rfl, _, rfl, ?_⟩
    have ef : (List.range (i + 1)).filter (fun j => !M.gone j) = (List.range i).filter (fun j => !M.gone j) ++ (if M.gone i then [] else [i]) := by
      rw [List.range_succ, List.filter_append]
      cases e : M.gone i <;> simp [e]
    rw [ef]
    cases e : M.gone i with
    | true =>
      refine iteF ?_
      rw [if_pos rfl, List.append_nil]
      exact ⟨hD3 _, s3 _⟩
    | false =>
      refine iteT ?_
      refine ⟨_, rfl, _, hD3 _, ?_, ?_, ?_⟩
      · rw [nl_len]
        have := List.length_filter_le (fun j => !M.gone j) (List.range i)
        rw [List.length_range] at this
        exact small1000 (by omega)
      · rw [upd_same, if_neg (by decide), nl_append]; rfl
      · exact Same.set (s3 _) nD
  · rintro H2 ⟨hD, s2⟩
    rw [rng_len] at hD
    exact q D H2 nD hD s2
def spGrownL : Sp := fun vs H Q _ => ∃ (d : Addr) (m x : Nat) (v : Int) (W : Ow) (M : Mo), vs = [.ref d, .int (m : Int), .int (x : Int), .int v] ∧ MdAt H d W M ∧ M.Ok ∧ ∀ H', MdAt H' d W (M.put m x v) → Keep W H H' → Q (.int (M.n : Int)) H'
theorem ok_l_grown (T : Tx K mg) : Fc P w K mg base 1 (aF K "_law_grown") ["_law_model_here", "_law_make", "_law_place", "_law_worth_here"] spGrownL := by
  refine Fc.mk' T.d__law_grown c__law_grown (fun vs H Q E h => ?_) (fun _ _ _ _ _ _ us hl => match us, hl with | [_, _, _, _], _ => rfl) (fun cdv A0 outer s H vs Q E hr h => ?_)
  · obtain ⟨d, m, x, v, W, M, rfl, _⟩ := h; rfl
  obtain ⟨_, m, x, v, W, M, rfl, ⟨A, rfl, R⟩, ok, q⟩ := h
  have nd := c__law_grown.nd
  have hu : (A0.deeper (envOfC "_law_grown" (defScope s__law_grown) s.heap.objs.size (aF K "_law_grown") cdv)).units + 1 < cLine := by have z := hr.units; omega
  refine ⟨_, pss_cons (ps_expr (pe_bm PySem.F.plainAttrs_list PySem.F.slot_list_append PySem.F.type_list_append mt_append (pe_dget hu (pv 0) pe_str (fun _ _ => rfl)) (pa_cons (pv 1) pa_nil)))
    (pss_cons (ps_expr (pe_bm PySem.F.plainAttrs_list PySem.F.slot_list_append PySem.F.type_list_append mt_append (pe_dget hu (pv 0) pe_str (fun _ _ => rfl)) (pa_cons (pv 2) pa_nil)))
    (pss_cons (ps_expr (pe_bm PySem.F.plainAttrs_list PySem.F.slot_list_append PySem.F.type_list_append mt_append (pe_dget hu (pv 0) pe_str (fun _ _ => rfl)) (pa_cons (pv 3) pa_nil)))
    (pss_cons (ps_expr (pe_bm PySem.F.plainAttrs_list PySem.F.slot_list_append PySem.F.type_list_append mt_append (pe_dget hu (pv 0) pe_str (fun _ _ => rfl)) (pa_cons pe_bl pa_nil)))
    (pss_one (ps_ret (pe_op op_sub (qlen T.f_len (pe_dget hu (pv 0) pe_str (fun _ _ => rfl))) pe_int)))))), ?_⟩
  have n64 := ok.n64
  have n1 := ok.n1
  have ne : ∀ {a b : Addr} {i j : Nat}, W a = i → W b = j → i ≠ j → a ≠ b := fun h1 h2 h => role_ne h1 h2 h
  have eo : (List.range M.n).map (ownV M.own) ++ [V.int (m : Int)] = (List.range (M.n + 1)).map (ownV (M.put m x v).own) :=
    rng_snoc' (fun i hi => by unfold ownV; show (if i = 0 then V.non else .int ((putO M.own M.n m i : Nat) : Int)) = _; rw [putO_ne (by omega)]) (by unfold ownV; show (if M.n = 0 then V.non else .int ((putO M.own M.n m M.n : Nat) : Int)) = _; rw [if_neg (by omega), putO_at])
  have ew : (List.range M.n).map (wroV M.wrote) ++ [V.int (x : Int)] = (List.range (M.n + 1)).map (wroV (M.put m x v).wrote) :=
    rng_snoc' (fun i hi => by
      unfold wroV
      show (if i = 0 then V.non else .int (((if i = M.n then x else M.wrote i : Nat)) : Int)) = _
      rw [if_neg (show ¬ i = M.n by omega)]) (by
      unfold wroV
      show (if M.n = 0 then V.non else .int (((if M.n = M.n then x else M.wrote M.n : Nat)) : Int)) = _
      rw [if_neg (by omega), if_pos rfl])
  have et : (List.range M.n).map (worV M.worth) ++ [V.int v] = (List.range (M.n + 1)).map (worV (M.put m x v).worth) :=
    rng_snoc' (fun i hi => by
      unfold worV
      show (if i = 0 then V.non else .int (if i = M.n then v else M.worth i)) = _
      rw [if_neg (show ¬ i = M.n by omega)]) (by
      unfold worV
      show (if M.n = 0 then V.non else .int (if M.n = M.n then v else M.worth M.n)) = _
      rw [if_neg (by omega), if_pos rfl])
  have eg : (List.range M.n).map (gonV M.gone) ++ [V.bl false] = (List.range (M.n + 1)).map (gonV (M.put m x v).gone) :=
    rng_snoc' (fun i hi => by
      unfold gonV
      show V.bl (if i = M.n then false else M.gone i) = _
      rw [if_neg (show ¬ i = M.n by omega)]) (by
      unfold gonV
      show V.bl (if M.n = M.n then false else M.gone M.n) = _
      rw [if_pos rfl])
  have dget : ∀ {H' : Hp} {k : Str} {r : V}, H' A.d = some (.dK (mdK A)) → valV (mdK A) (Sum.inr k) = some r → DGet H' A.d (.str k) (some r) := fun {H' k r} h e => by
    have g := DGet.k (k := (Sum.inr k : Key)) h
    rw [e] at g
    exact g
  have odd := ne R.rd R.ro (by decide)
  have owd := ne R.rd R.rw (by decide)
  have otd := ne R.rd R.rt (by decide)
  have ogd := ne R.rd R.rg (by decide)
  have of_ := ne R.rf R.ro (by decide)
  have wf := ne R.rf R.rw (by decide)
  have tf := ne R.rf R.rt (by decide)
  have gf := ne R.rf R.rg (by decide)
  have ow := ne R.ro R.rw (by decide)
  have ot := ne R.ro R.rt (by decide)
  have og := ne R.ro R.rg (by decide)
  have wt := ne R.rw R.rt (by decide)
  have wg := ne R.rw R.rg (by decide)
  have tg := ne R.rt R.rg (by decide)
  have small : ∀ (f : Nat → V), ((List.range M.n).map f).length < sizeLine := fun f => by rw [rng_len]; exact small1000 (by omega)
  refine ⟨_, rfl, A.d, _, rfl, dget R.hd md_own, .inl ⟨rfl, _, SqL.of R.ho⟩, _, rfl, _, _, _, rfl, rfl, R.ho, small _, ?_⟩
  rw [eo]
  have k1 : Keep W H (upd H A.ao (.lst ((List.range (M.n + 1)).map (ownV (M.put m x v).own)))) := Keep.refl.set (.inl (by rw [R.ro]; decide)) R.ho id
  have o1 : upd H A.ao (.lst ((List.range (M.n + 1)).map (ownV (M.put m x v).own))) A.ao = some (.lst ((List.range (M.n + 1)).map (ownV (M.put m x v).own))) := upd_same
  have r1 : ∀ b, b ≠ A.ao → upd H A.ao (.lst ((List.range (M.n + 1)).map (ownV (M.put m x v).own))) b = H b := fun b h => upd_ne h
  generalize (upd H A.ao (.lst ((List.range (M.n + 1)).map (ownV (M.put m x v).own)))) = H1 at k1 o1 r1 ⊢
  refine ⟨_, rfl, A.d, _, rfl, dget ((r1 _ odd).trans R.hd) md_wrote, .inl ⟨rfl, _, SqL.of ((r1 _ ow.symm).trans R.hw)⟩, _, rfl, _, _, _, rfl, rfl, (r1 _ ow.symm).trans R.hw, small _, ?_⟩
  rw [ew]
  have k2 : Keep W H (upd H1 A.aw (.lst ((List.range (M.n + 1)).map (wroV (M.put m x v).wrote)))) := k1.set (.inl (by rw [R.rw]; decide)) ((r1 _ ow.symm).trans R.hw) id
  have w2 : upd H1 A.aw (.lst ((List.range (M.n + 1)).map (wroV (M.put m x v).wrote))) A.aw = some (.lst ((List.range (M.n + 1)).map (wroV (M.put m x v).wrote))) := upd_same
  have o2 : upd H1 A.aw (.lst ((List.range (M.n + 1)).map (wroV (M.put m x v).wrote))) A.ao = _ := (upd_ne ow).trans o1
  have r2 : ∀ b, b ≠ A.ao → b ≠ A.aw → upd H1 A.aw (.lst ((List.range (M.n + 1)).map (wroV (M.put m x v).wrote))) b = H b := fun b h h2 => (upd_ne h2).trans (r1 b h)
  generalize (upd H1 A.aw (.lst ((List.range (M.n + 1)).map (wroV (M.put m x v).wrote)))) = H2 at k2 w2 o2 r2 ⊢
  refine ⟨_, rfl, A.d, _, rfl, dget ((r2 _ odd owd).trans R.hd) md_worth, .inl ⟨rfl, _, SqL.of ((r2 _ ot.symm wt.symm).trans R.ht)⟩, _, rfl, _, _, _, rfl, rfl, (r2 _ ot.symm wt.symm).trans R.ht, small _, ?_⟩
  rw [et]
  have k3 : Keep W H (upd H2 A.at_ (.lst ((List.range (M.n + 1)).map (worV (M.put m x v).worth)))) := k2.set (.inl (by rw [R.rt]; decide)) ((r2 _ ot.symm wt.symm).trans R.ht) id
  have t3 : upd H2 A.at_ (.lst ((List.range (M.n + 1)).map (worV (M.put m x v).worth))) A.at_ = some (.lst ((List.range (M.n + 1)).map (worV (M.put m x v).worth))) := upd_same
  have o3 : upd H2 A.at_ (.lst ((List.range (M.n + 1)).map (worV (M.put m x v).worth))) A.ao = _ := (upd_ne ot).trans o2
  have w3 : upd H2 A.at_ (.lst ((List.range (M.n + 1)).map (worV (M.put m x v).worth))) A.aw = _ := (upd_ne wt).trans w2
  have r3 : ∀ b, b ≠ A.ao → b ≠ A.aw → b ≠ A.at_ → upd H2 A.at_ (.lst ((List.range (M.n + 1)).map (worV (M.put m x v).worth))) b = H b := fun b h h2 h3 => (upd_ne h3).trans (r2 b h h2)
  generalize (upd H2 A.at_ (.lst ((List.range (M.n + 1)).map (worV (M.put m x v).worth)))) = H3 at k3 t3 o3 w3 r3 ⊢
  refine ⟨_, rfl, A.d, _, rfl, dget ((r3 _ odd owd otd).trans R.hd) md_gone, .inl ⟨rfl, _, SqL.of ((r3 _ og.symm wg.symm tg.symm).trans R.hg)⟩, _, _, _, rfl, rfl, (r3 _ og.symm wg.symm tg.symm).trans R.hg, small _, ?_⟩
  rw [eg]
  have k4 : Keep W H (upd H3 A.ag (.lst ((List.range (M.n + 1)).map (gonV (M.put m x v).gone)))) := k3.set (.inl (by rw [R.rg]; decide)) ((r3 _ og.symm wg.symm tg.symm).trans R.hg) id
  have g4 : upd H3 A.ag (.lst ((List.range (M.n + 1)).map (gonV (M.put m x v).gone))) A.ag = some (.lst ((List.range (M.n + 1)).map (gonV (M.put m x v).gone))) := upd_same
  have o4 : upd H3 A.ag (.lst ((List.range (M.n + 1)).map (gonV (M.put m x v).gone))) A.ao = _ := (upd_ne og).trans o3
  have w4 : upd H3 A.ag (.lst ((List.range (M.n + 1)).map (gonV (M.put m x v).gone))) A.aw = _ := (upd_ne wg).trans w3
  have t4 : upd H3 A.ag (.lst ((List.range (M.n + 1)).map (gonV (M.put m x v).gone))) A.at_ = _ := (upd_ne tg).trans t3
  have r4 : ∀ b, b ≠ A.ao → b ≠ A.aw → b ≠ A.at_ → b ≠ A.ag → upd H3 A.ag (.lst ((List.range (M.n + 1)).map (gonV (M.put m x v).gone))) b = H b := fun b h h2 h3 h4 => (upd_ne h4).trans (r3 b h h2 h3)
  generalize (upd H3 A.ag (.lst ((List.range (M.n + 1)).map (gonV (M.put m x v).gone)))) = H4 at k4 g4 o4 w4 t4 r4 ⊢
  have d4 := (r4 _ odd owd otd ogd).trans R.hd
  refine ⟨_, rfl, A.d, _, rfl, dget d4 md_own, _, _, rfl, .inl (SqL.of o4), _, _, rfl, rfl, ?_⟩
  rw [rng_len]
  refine int_eq (i := (M.n : Int)) (by omega) ?_
  exact q H4 ⟨A, rfl, d4, (r4 _ of_ wf tf gf).trans R.hf, o4, w4, t4, g4, R.rd, R.rf, R.ro, R.rw, R.rt, R.rg, R.has.keep k4⟩ k4
end
end MK

set_option Elab.async false
set_option linter.all false
set_option maxRecDepth 100000
set_option maxHeartbeats 4000000
/-! the law's own defs: picked, drawn -/
namespace MK
open PySem PySem.Spec PyProof.Rows L2
theorem atI_negr {l : List V} {r : Nat} {v : V} (h : r < l.length) (hv : l[l.length - 1 - r]? = some v) : atI l (-1 - (r : Int)) = some v := by
  unfold atI ixN
  rw [if_neg (by omega), if_pos (by omega)]
  show l[((-1 - (r : Int)) + (l.length : Int)).toNat]? = some v
  rw [show ((-1 - (r : Int)) + (l.length : Int)).toNat = l.length - 1 - r by omega]
  exact hv
theorem kept_at {M : Mo} {i : Nat} (h : i < (keptL M).length) : ∃ k, M.kept k ∧ (nl (keptL M))[i]? = some (.int (k : Int)) := by
  refine ⟨(keptL M)[i], mem_keptL.mp (List.getElem_mem h), ?_⟩
  unfold nl
  rw [List.getElem?_map, List.getElem?_eq_getElem h]; rfl
theorem dis_onB {B : Addr} {W : Ow} (h : W B = 0) : Dis (onB B) W := fun b => by
  by_cases z : b = B
  · exact .inr (by rw [z]; exact h)
  · exact .inl (if_neg z)
theorem keptL_le {M : Mo} : (keptL M).length ≤ M.n := by
  have := List.length_filter_le (fun i => !M.gone i) (List.range M.n)
  rw [List.length_range] at this
  exact this
theorem keptL_pos {M : Mo} (ok : M.Ok) : 1 ≤ (keptL M).length := by
  obtain ⟨k, h⟩ := keptL_ne ok
  have := (List.getElem?_eq_some_iff.mp h).1
  omega
section
variable {P : Program} {w : World} {K : PySem.W.Frag} {mg : Str → Option Value} {base : Heap}
def spPickedL : Sp := fun vs H Q _ => ∃ (B d : Addr) (W : Ow) (M : Mo), vs = [.ref B, .ref d] ∧ BoxAt H B ∧ MdAt H d W M ∧ M.Ok ∧ W B = 0 ∧ ∀ (k : Nat) (H' : Hp), M.kept k → BoxAt H' B → Keep (onB B) H H' → Q (.int (k : Int)) H'
theorem ok_l_picked (T : Tx K mg) : Fc P w K mg base 2 (aF K "_law_picked") ["_law_box_here", "_law_model_here"] spPickedL := by
  refine Fc.mk' T.d__law_picked c__law_picked (fun vs H Q E h => ?_) (fun _ _ _ _ _ _ us hl => match us, hl with | [_, _], _ => rfl) (fun cdv A0 outer s H vs Q E hr h => ?_)
  · obtain ⟨B, d, W, M, rfl, _⟩ := h; rfl
  obtain ⟨B, d, W, M, rfl, ⟨o1, hB, bo1⟩, R, ok, WB, q⟩ := h
  have nd := c__law_picked.nd
  refine ⟨_, pss_cons (ps_set (i := 2) nd rfl (.inl rfl) (qc (ok_l_kept T) hr rfl T.g__law_kept (pa_cons (pv 1) pa_nil)))
    (pss_cons (ps_set (i := 3) nd rfl (.inl rfl) (qc (ok_l_take T) hr rfl T.g__law_take (pa_cons (pv 0) (pa_cons pe_int pa_nil))))
    (pss_cons (ps_if (pt_cmpR op_eq (pv 3) pe_int (nomark _)) (pss_one (ps_ret (qix (pv 2) qneg))) pss_nil)
    (pss_cons (ps_if (pt_cmpR op_eq (pv 3) pe_int (nomark _)) (pss_one (ps_ret (qix (pv 2) (pe_op op_sub qneg (qc (ok_l_take T) hr rfl T.g__law_take (pa_cons (pv 0)
        (pa_cons (pe_callB (call_min2 rfl) rfl T.f_min boot_minB (pa_cons pe_int (pa_cons (qlen T.f_len (pv 2)) pa_nil))) pa_nil))))))) pss_nil)
    (pss_one (ps_ret (qix (pv 2) (pe_op op_mul (qc (ok_l_take T) hr rfl T.g__law_take (pa_cons (pv 0) (pa_cons (qlen T.f_len (pv 2)) pa_nil)))
      (pe_callTy call_int1 rfl T.f_int boot_intT (pa_cons (pe_orT (pe_cmpR op_eq (pv 3) pe_int (nomark _)) (pe_one (qc (ok_l_take T) hr rfl T.g__law_take (pa_cons (pv 0) (pa_cons pe_int pa_nil))))) pa_nil))))))))), ?_⟩
  have n64 := ok.n64
  have kl := keptL_le (M := M)
  have kp := keptL_pos ok
  refine ⟨_, rfl, d, W, M, rfl, R, n64, fun l H1 nl1 hl s1 => ?_⟩
  have hB1 := s1 _ _ hB
  have lB : l ≠ B := fun z => by rw [z, hB] at nl1; cases nl1
  refine ⟨_, rfl, B, 4, rfl, by decide, by decide, ⟨o1, hB1, bo1⟩, fun r o lr bo => ?_⟩
  have k2 : Keep (onB B) H (upd H1 B o) := (Keep.same s1).set (.inl onB_self) hB1 bo1.nt
  have h2 : upd H1 B o B = some o := upd_same
  have l2 : upd H1 B o l = _ := (upd_ne lB).trans hl
  generalize (upd H1 B o) = H2 at k2 h2 l2 ⊢
  refine ⟨_, rfl, rfl, _, rfl, ?_⟩
  by_cases r0 : r = 0
  · refine iteY (by rw [r0]; rfl) ?_
    obtain ⟨k, kk, hk⟩ := kept_at (M := M) (i := (keptL M).length - 1) (by omega)
    exact ⟨_, rfl, _, rfl, _, _, _, .int (k : Int), rfl, rfl, SqL.of l2, atI_last' (by rw [nl_len]; exact hk), q k _ kk ⟨o, h2, bo⟩ k2⟩
  refine iteN (fun z => r0 (by have := V.int.inj z; omega)) ?_
  refine ⟨_, rfl, rfl, _, rfl, ?_⟩
  by_cases r1 : r = 1
  · refine iteY (by rw [r1]; rfl) ?_
    have em : (if (((nl (keptL M)).length : Nat) : Int) < 3 then (((nl (keptL M)).length : Nat) : Int) else 3) = ((min 3 (keptL M).length : Nat) : Int) := by
      rw [nl_len]
      split <;> omega
    refine ⟨_, rfl, _, rfl, _, rfl, _, rfl, _, _, rfl, .inl (SqL.of l2), 3, _, rfl, ?_⟩
    refine ⟨B, min 3 (keptL M).length, by rw [em]; rfl, by omega, by omega, ⟨o, h2, bo⟩, fun r3 o3 lr3 bo3 => ?_⟩
    obtain ⟨k, kk, hk⟩ := kept_at (M := M) (i := (keptL M).length - 1 - r3) (by omega)
    have k3 : Keep (onB B) H (upd H2 B o3) := k2.set (.inl onB_self) h2 bo.nt
    refine ⟨_, _, rfl, rfl, _, _, _, .int (k : Int), rfl, rfl, SqL.of ((upd_ne lB).trans l2), atI_negr (by rw [nl_len]; omega) (by rw [nl_len]; exact hk), q k _ kk ⟨o3, upd_same, bo3⟩ k3⟩
  refine iteN (fun z => r1 (by have := V.int.inj z; omega)) ?_
  refine ⟨_, rfl, _, rfl, _, rfl, _, _, rfl, .inl (SqL.of l2), B, (keptL M).length, by rw [nl_len]; rfl, by omega, by omega, ⟨o, h2, bo⟩, fun r3 o3 lr3 bo3 => ?_⟩
  have k3 : Keep (onB B) H (upd H2 B o3) := k2.set (.inl onB_self) h2 bo.nt
  have h3 : upd H2 B o3 B = some o3 := upd_same
  have l3 : upd H2 B o3 l = _ := (upd_ne lB).trans l2
  generalize (upd H2 B o3) = H3 at k3 h3 l3 ⊢
  refine ⟨_, rfl, rfl, _, rfl, ?_⟩
  by_cases r2 : r = 2
  · refine iteY (by rw [r2]; rfl) ?_
    obtain ⟨k, kk, hk⟩ := kept_at lr3
    refine .inr ⟨_, rfl, _, _, rfl, rfl, .inl ⟨by omega, by omega⟩, _, _, _, .int (k : Int), rfl, rfl, SqL.of l3, ?_, q k _ kk ⟨o3, h3, bo3⟩ k3⟩
    show atI (nl (keptL M)) ((r3 : Int) * (if decide (V.int (r : Int) = V.int 2) = true then 1 else 0)) = _
    rw [r2, if_pos (by rfl), Int.mul_one]
    exact atI_nat hk
  · refine iteN (fun z => r2 (by have := V.int.inj z; omega)) ?_
    refine ⟨_, rfl, B, 2, rfl, by decide, by decide, ⟨o3, h3, bo3⟩, fun r4 o4 lr4 bo4 => ?_⟩
    have k4 : Keep (onB B) H (upd H3 B o4) := k3.set (.inl onB_self) h3 bo3.nt
    have l4 : upd H3 B o4 l = _ := (upd_ne lB).trans l3
    have ex : ∃ k, M.kept k ∧ atI (nl (keptL M)) ((r3 : Int) * (r4 : Int)) = some (.int (k : Int)) := by
      have : r4 = 0 ∨ r4 = 1 := by omega
      rcases this with z | z
      · obtain ⟨k, kk, hk⟩ := kept_at (M := M) (i := 0) (by omega)
        refine ⟨k, kk, ?_⟩
        rw [z]
        have e : (r3 : Int) * ((0 : Nat) : Int) = ((0 : Nat) : Int) := by simp
        rw [e]
        exact atI_nat hk
      · obtain ⟨k, kk, hk⟩ := kept_at lr3
        refine ⟨k, kk, ?_⟩
        rw [z]
        have e : (r3 : Int) * ((1 : Nat) : Int) = ((r3 : Nat) : Int) := by simp
        rw [e]
        exact atI_nat hk
    obtain ⟨k, kk, hk⟩ := ex
    exact .inl ⟨_, rfl, _, _, rfl, rfl, .inl ⟨by omega, by omega⟩, _, _, _, .int (k : Int), rfl, rfl, SqL.of l4, hk, q k _ kk ⟨o4, upd_same, bo4⟩ k4⟩
def spDrawnL : Sp := fun vs H Q _ => ∃ (B d : Addr) (W : Ow) (M : Mo), vs = [.ref B, .ref d] ∧ BoxAt H B ∧ MdAt H d W M ∧ M.Ok ∧ W B = 0 ∧
  ∀ (k x : Nat) (v : Int) (t : Addr) (H' : Hp), M.kept k → x < M.size → okW v → H t = none → H' t = some (.tup [.int (k : Int), .int (x : Int), .int v]) → BoxAt H' B → Keep (onB B) H H' → Q (.ref t) H'
theorem ok_l_drawn (T : Tx K mg) : Fc P w K mg base 3 (aF K "_law_drawn") ["_law_box_here", "_law_model_here"] spDrawnL := by
  refine Fc.mk' T.d__law_drawn c__law_drawn (fun vs H Q E h => ?_) (fun _ _ _ _ _ _ us hl => match us, hl with | [_, _], _ => rfl) (fun cdv A0 outer s H vs Q E hr h => ?_)
  · obtain ⟨B, d, W, M, rfl, _⟩ := h; rfl
  obtain ⟨B, d, W, M, rfl, b1, R, ok, WB, q⟩ := h
  have nd := c__law_drawn.nd
  have hu : (A0.deeper (envOfC "_law_drawn" (defScope s__law_drawn) s.heap.objs.size (aF K "_law_drawn") cdv)).units + 1 < cLine := by have z := hr.units; omega
  refine ⟨_, pss_cons (ps_set (i := 2) nd rfl (.inl rfl) (qc (ok_l_picked T) hr rfl T.g__law_picked (pa_cons (pv 0) (pa_cons (pv 1) pa_nil))))
    (pss_cons (ps_set (i := 3) nd rfl (.inl rfl) (qc (ok_l_take T) (hr.mono (by decide)) rfl T.g__law_take (pa_cons (pv 0) (pa_cons (qlen T.f_len (pe_dget hu (pv 1) pe_str (fun _ _ => rfl))) pa_nil))))
    (pss_one (ps_ret (pe_tup (pa_cons (pv 2) (pa_cons (pv 3) (pa_cons (qix (pe_lst (pa_cons (qc (ok_l_worth T) hr rfl T.g__law_worth (pa_cons (pv 0) pa_nil))
        (pa_cons (qc (ok_l_value T) hr rfl T.g__law_value (pa_cons (pv 1) (pa_cons (pv 2) (pa_cons (pv 3) pa_nil)))) pa_nil)))
      (pe_callTy call_int1 rfl T.f_int boot_intT (pa_cons (pe_cmpR op_eq (qc (ok_l_take T) (hr.mono (by decide)) rfl T.g__law_take (pa_cons (pv 0) (pa_cons pe_int pa_nil))) pe_int (nomark _)) pa_nil))) pa_nil))))))), ?_⟩
  have dj := dis_onB WB
  refine ⟨_, rfl, _, rfl, B, d, W, M, rfl, b1, R, ok, WB, fun k H1 kk b2 k1 => ?_⟩
  obtain ⟨A, eA, R1⟩ := R.keep k1 dj
  subst eA
  have s16 := ok.s16
  have s1' := ok.s1
  obtain ⟨o2, hB2, bo2⟩ := b2
  refine ⟨_, rfl, _, rfl, A.d, _, rfl, R1.g_first, _, _, rfl, .inl (SqL.of R1.hf), B, M.size, by rw [rng_len]; rfl, by omega, by omega, ⟨o2, hB2, bo2⟩, fun x o lx bo => ?_⟩
  have k2 : Keep (onB B) H (upd H1 B o) := k1.set (.inl onB_self) hB2 bo2.nt
  have h2 : BoxAt (upd H1 B o) B := ⟨o, upd_same, bo⟩
  generalize (upd H1 B o) = H2 at k2 h2 ⊢
  refine ⟨_, rfl, _, rfl, _, rfl, B, rfl, h2, fun v H3 okv b3 k3 => ?_⟩
  have k3 := k2.trans k3
  have R3 := R.keep k3 dj
  refine ⟨_, rfl, _, rfl, _, rfl, A.d, k, x, W, M, rfl, R3, ok, kk.1, lx, (by show 2 ≤ sizeLine; decide), fun l nl1 => ?_⟩
  have b4 := b3.same (Same.new (o := .lst [V.int v, V.int (M.val k x)]) (Same.refl _) nl1)
  have k4 := k3.new (o := .lst [V.int v, V.int (M.val k x)]) nl1
  have l4 : upd H3 l (.lst [V.int v, V.int (M.val k x)]) l = some (.lst [V.int v, V.int (M.val k x)]) := upd_same
  have lB : l ≠ B := fun z => by obtain ⟨_, e, _⟩ := b3; rw [z, e] at nl1; cases nl1
  generalize (upd H3 l (.lst [V.int v, V.int (M.val k x)])) = H4 at b4 k4 l4 ⊢
  obtain ⟨o4, hB4, bo4⟩ := b4
  refine ⟨_, rfl, B, 5, rfl, by decide, by decide, ⟨o4, hB4, bo4⟩, fun r o5 lr5 bo5 => ?_⟩
  have k5 : Keep (onB B) H (upd H4 B o5) := k4.set (.inl onB_self) hB4 bo4.nt
  have h5 : BoxAt (upd H4 B o5) B := ⟨o5, upd_same, bo5⟩
  have l5 : upd H4 B o5 l = _ := (upd_ne lB).trans l4
  generalize (upd H4 B o5) = H5 at k5 h5 l5 ⊢
  refine ⟨rfl, .inr ⟨_, rfl, ?_⟩⟩
  have okv2 := Mo.val_ok ok kk.1 lx
  by_cases z : r = 0
  · refine ⟨_, _, _, .int (M.val k x), rfl, rfl, SqL.of l5, ?_, (by show 3 ≤ sizeLine; decide), fun t nt => ?_⟩
    · show atI _ (if decide (V.int (r : Int) = V.int 0) = true then 1 else 0) = _
      rw [z, if_pos (by rfl)]
      exact atI_nat (j := 1) rfl
    · exact q k x _ t _ kk lx okv2 (k5.th _ nt) upd_same (h5.same (Same.new (Same.refl _) nt)) (k5.new nt)
  · refine ⟨_, _, _, .int v, rfl, rfl, SqL.of l5, ?_, (by show 3 ≤ sizeLine; decide), fun t nt => ?_⟩
    · show atI _ (if decide (V.int (r : Int) = V.int 0) = true then 1 else 0) = _
      rw [if_neg (fun h => z (by have := V.int.inj (of_decide_eq_true h); omega))]
      exact atI_nat (j := 0) rfl
    · exact q k x _ t _ kk lx okv (k5.th _ nt) upd_same (h5.same (Same.new (Same.refl _) nt)) (k5.new nt)
end
end MK

set_option Elab.async false
set_option linter.all false
set_option maxRecDepth 100000
set_option maxHeartbeats 4000000
/-! data that is told by repr; the rows and the model side by side -/
namespace MK
open PySem PySem.Spec PyProof.Rows L2
/-- data that repr can tell and that is alike to itself -/
structure Nice (d : PyData) (n : Nat) : Prop where
  sh : d.showable = true
  lay : d.canLay0 = true
  dep : d.depth ≤ n
  wt : d.weight ≤ 100000
  lv : d.leavesShort 40 = true
theorem Nice.len {d : PyData} {n : Nat} (h : Nice d n) : d.shown.length ≤ sizeLine := by
  have := PyData.shown_le 40 (by decide) d h.lv
  have w := h.wt
  have e : sizeLine = 16777216 := by decide
  omega
theorem Nice.nd {d : PyData} {n : Nat} (h : Nice d n) : d.hasDict = false := PyData.hasDict_of_canLay d h.lay
theorem Nice.shp {d : PyData} {n : Nat} (h : Nice d n) (hn : n ≤ 8) : SeqAt.shaped d = true := by
  unfold SeqAt.shaped
  rw [h.lay]
  have := h.dep
  simp
  omega
/-- ints that are told short -/
def shortI (i : Int) : Prop := i.natAbs < 10 ^ 39
theorem shortI_ok {i : Int} (h : okW i) : shortI i := by
  have e : big = 999999999999999999999999999999 := by decide +kernel
  unfold okW at h
  rw [e] at h
  unfold shortI
  have e2 : (10 : Nat) ^ 39 = 1000000000000000000000000000000000000000 := by decide +kernel
  rw [e2]
  omega
theorem shortI_nat {n : Nat} (h : n ≤ 1000) : shortI (n : Int) := by
  unfold shortI
  have e2 : (10 : Nat) ^ 39 = 1000000000000000000000000000000000000000 := by decide +kernel
  rw [e2]
  omega
theorem log_short {i : Int} (h : shortI i) : i.natAbs.log2 < 1920 := by
  unfold shortI at h
  rcases Nat.eq_zero_or_pos i.natAbs with z | z
  · rw [z]; decide
  · have := (Nat.log2_lt (by omega : i.natAbs ≠ 0) (k := 1920)).mpr (Nat.lt_trans h (by decide +kernel))
    exact this
theorem wt_short {i : Int} (h : shortI i) : PyData.weight (.int i) ≤ 130 := by
  simp only [PyData.weight]
  split
  · exact Nat.zero_le _
  · rename_i z
    have z' : i.natAbs ≠ 0 := fun y => z (by have : i = 0 := by omega
                                             rw [this]; rfl)
    have := (Nat.log2_lt z' (k := 130)).mpr (Nat.lt_trans h (by decide +kernel))
    omega
theorem nice_int {i : Int} (h : shortI i) : Nice (.int i) 0 := by
  refine ⟨decide_eq_true (log_short h), rfl, Nat.le_refl _, Nat.le_trans (wt_short h) (by decide), ?_⟩
  unfold PyData.leavesShort
  refine decide_eq_true ?_
  have := int_text_length_le10 (k := 39) (by decide) h
  show (Str.ofString (toString i)).length ≤ 40
  rw [PySem.ofString_length]
  exact this
theorem all_show : ∀ ns : List Int, (∀ n ∈ ns, shortI n) → PyData.showableAll (ns.map PyData.int) = true
  | [], _ => rfl
  | n :: r, h => by
    have h1 := (nice_int (h n List.mem_cons_self)).sh
    have h2 := all_show r fun m hm => h m (List.mem_cons_of_mem _ hm)
    show (PyData.showable (.int n) && PyData.showableAll (r.map PyData.int)) = true
    rw [h1, h2]; rfl
theorem all_leaves : ∀ ns : List Int, (∀ n ∈ ns, shortI n) → PyData.leavesShortAll 40 (ns.map PyData.int) = true
  | [], _ => rfl
  | n :: r, h => by
    have h1 := (nice_int (h n List.mem_cons_self)).lv
    have h2 := all_leaves r fun m hm => h m (List.mem_cons_of_mem _ hm)
    show (PyData.leavesShort 40 (.int n) && PyData.leavesShortAll 40 (r.map PyData.int)) = true
    rw [h1, h2]; rfl
theorem all_weight : ∀ ns : List Int, (∀ n ∈ ns, shortI n) → PyData.weightAll (ns.map PyData.int) ≤ 131 * ns.length
  | [], _ => Nat.le_refl _
  | n :: r, hs => by
    have h := all_weight r fun m hm => hs m (List.mem_cons_of_mem _ hm)
    have e := wt_short (hs n List.mem_cons_self)
    show PyData.weight (.int n) + 1 + PyData.weightAll (r.map PyData.int) ≤ 131 * (r.length + 1)
    omega
theorem all_lay : ∀ ns : List Int, PyData.canLayAll0 (ns.map PyData.int) = true
  | [] => rfl
  | n :: r => by
    show (PyData.canLay0 (.int n) && PyData.canLayAll0 (r.map PyData.int)) = true
    rw [all_lay r]; rfl
theorem all_dep : ∀ ns : List Int, PyData.depthAll (ns.map PyData.int) = 0
  | [] => rfl
  | n :: r => by
    show max (PyData.depth (.int n)) (PyData.depthAll (r.map PyData.int)) = 0
    rw [all_dep r]; rfl
abbrev dL (ns : List Int) : PyData := .list (ns.map PyData.int)
theorem nice_list {ns : List Int} (h : ∀ n ∈ ns, shortI n) (l : ns.length ≤ 200) : Nice (dL ns) 1 ∧ (dL ns).weight ≤ 40000 := by
  have w : (dL ns).weight ≤ 40000 := by
    have := all_weight ns h
    show PyData.weight (.list (ns.map PyData.int)) ≤ 40000
    simp only [PyData.weight]
    omega
  refine ⟨⟨all_show ns h, all_lay ns, ?_, Nat.le_trans w (by decide), all_leaves ns h⟩, w⟩
  show PyData.depthAll (ns.map PyData.int) + 1 ≤ 1
  rw [all_dep]
  exact Nat.le_refl _
theorem nice_two {a b : PyData} (ha : Nice a 1) (hb : Nice b 1) (wa : a.weight ≤ 40000) (wb : b.weight ≤ 40000) : Nice (.list [a, b]) 2 := by
  refine ⟨?_, ?_, ?_, ?_, ?_⟩
  · show (a.showable && (b.showable && true)) = true
    rw [ha.sh, hb.sh]; rfl
  · show (a.canLay0 && (b.canLay0 && true)) = true
    rw [ha.lay, hb.lay]; rfl
  · have := ha.dep
    have := hb.dep
    simp only [PyData.depth, PyData.depthAll]
    omega
  · simp only [PyData.weight, PyData.weightAll]
    omega
  · show (a.leavesShort 40 && (b.leavesShort 40 && true)) = true
    rw [ha.lv, hb.lv]; rfl
theorem Nice.up {d : PyData} {n m : Nat} (h : Nice d n) (l : n ≤ m) : Nice d m := ⟨h.sh, h.lay, Nat.le_trans h.dep l, h.wt, h.lv⟩
theorem dp_ints {K : PySem.W.Frag} {H : Hp} : ∀ ns : List Int, DpAll K H (ns.map V.int) (ns.map PyData.int)
  | [] => .nil
  | n :: r => .cons (.int n) (dp_ints r)
theorem dp_list {K : PySem.W.Frag} {H : Hp} {a : Addr} {ns : List Int} (h : H a = some (.lst (ns.map V.int))) : Dp K H (.ref a) (dL ns) := .lst (SqL.of h) (dp_ints ns)
def natI (l : List Nat) : List Int := l.map fun (i : Nat) => ((i : Nat) : Int)
theorem nl_int (l : List Nat) : nl l = (natI l).map V.int := by
  unfold nl natI
  rw [List.map_map]; rfl
def strI (M : Mo) (m lo hi : Nat) : List Int := (List.range (hi - lo)).map fun i => M.val m (lo + i)
theorem str_int (M : Mo) (m lo hi : Nat) : stretchV M m lo hi = (strI M m lo hi).map V.int := by
  unfold stretchV strI
  rw [List.map_map]; rfl
theorem strI_short {M : Mo} (ok : M.Ok) {m lo hi : Nat} (hm : m < M.n) (h : hi ≤ M.size) : (∀ n ∈ strI M m lo hi, shortI n) ∧ (strI M m lo hi).length ≤ 200 := by
  refine ⟨fun n hn => ?_, ?_⟩
  · obtain ⟨i, hi', rfl⟩ := List.mem_map.mp hn
    have := List.mem_range.mp hi'
    exact shortI_ok (Mo.val_ok ok hm (by omega))
  · unfold strI
    rw [rng_len]
    have := ok.s16
    omega
theorem natI_short {l : List Nat} (h : ∀ i ∈ l, i ≤ 1000) : ∀ n ∈ natI l, shortI n := fun n hn => by
  obtain ⟨i, hi, rfl⟩ := List.mem_map.mp hn
  exact shortI_nat (h i hi)
/-- repr of data, of an int -/
def rRep (K : PySem.W.Frag) : List V → Hp → VK → Prop := fun xs H Q => (∃ (a : Addr) (d : PyData) (n : Nat), xs = [.ref a] ∧ Dp K H (.ref a) d ∧ Nice d n ∧ n ≤ 8 ∧ Q (.str d.shown) H) ∨ ∃ i, xs = [.int i] ∧ shortI i ∧ Q (.str (toString i)) H
section
variable {X : Cx}
theorem call_rep (hga : GA X.A) (hu : X.A.units + 64 < cLine) : CallR X (.builtin "repr") (rRep X.K) := by
  intro pins s σ H vs us Q I r h
  rcases h with ⟨a, d, n, e, hd, nc, hn, q⟩ | ⟨i, e, hi, q⟩
  · have := nc.dep
    exact call_repr hga hu pins s σ H vs us Q I r ⟨a, d, e, hd, nc.sh, nc.nd, by omega, nc.len, q⟩
  · exact SkE.call_repr_int pins s σ H vs us Q I r ⟨i, e, log_short hi, q⟩
end
theorem boot_repr : bootBuiltins ("repr" : Str) = some (.builtin "repr") := by decide +kernel

/-! ### side by side -/
structure Wd (K : PySem.W.Frag) (H : Hp) (B p1 p2 d : Addr) (W1 W2 Wm : Ow) (M : Mo) : Prop where
  bx : BoxAt H B
  b1 : W1 B = 0
  b2 : W2 B = 0
  bm : Wm B = 0
  r1 : RowAt false K H p1 W1 M
  r2 : RowAt true K H p2 W2 M
  md : MdAt H d Wm M
  d12 : Dis W1 W2
  d1m : Dis W1 Wm
  d2m : Dis W2 Wm
def Un (B : Addr) (W1 W2 Wm : Ow) : Ow := fun b => if b = B ∨ W1 b ≠ 0 ∨ W2 b ≠ 0 ∨ Wm b ≠ 0 then 1 else 0
theorem Keep.mono {U W : Ow} {H H' : Hp} (k : Keep U H H') (h : ∀ b, W b = 0 → U b = 0) : Keep W H H' := ⟨fun b o e z => k.k b o e (z.imp_left (h b)), k.th⟩
section
variable {K : PySem.W.Frag} {H H' : Hp} {B p1 p2 d : Addr} {W1 W2 Wm : Ow} {M : Mo}
theorem un_zero {b : Addr} (h : Un B W1 W2 Wm b = 0) : b ≠ B ∧ W1 b = 0 ∧ W2 b = 0 ∧ Wm b = 0 := by
  unfold Un at h
  split at h
  · cases h
  · rename_i z
    rw [not_or, not_or, not_or] at z
    exact ⟨z.1, Decidable.not_not.mp z.2.1, Decidable.not_not.mp z.2.2.1, Decidable.not_not.mp z.2.2.2⟩
theorem un_of {b : Addr} (h1 : b ≠ B) (h2 : W1 b = 0) (h3 : W2 b = 0) (h4 : Wm b = 0) : Un B W1 W2 Wm b = 0 := by
  unfold Un
  rw [if_neg]
  rintro (z | z | z | z)
  · exact h1 z
  · exact z h2
  · exact z h3
  · exact z h4
theorem un_B (k : Keep (onB B) H H') : Keep (Un B W1 W2 Wm) H H' := k.mono fun b h => if_neg (un_zero h).1
theorem un_1 (k : Keep W1 H H') : Keep (Un B W1 W2 Wm) H H' := k.mono fun b h => (un_zero h).2.1
theorem un_2 (k : Keep W2 H H') : Keep (Un B W1 W2 Wm) H H' := k.mono fun b h => (un_zero h).2.2.1
theorem un_m (k : Keep Wm H H') : Keep (Un B W1 W2 Wm) H H' := k.mono fun b h => (un_zero h).2.2.2
theorem BoxAt.keep {W : Ow} (b : BoxAt H B) (k : Keep W H H') (h : W B = 0) : BoxAt H' B := let ⟨o, e, bo⟩ := b; ⟨o, k.k _ _ e (.inl h), bo⟩
theorem Wd.box (w : Wd K H B p1 p2 d W1 W2 Wm M) (k : Keep (onB B) H H') (b : BoxAt H' B) : Wd K H' B p1 p2 d W1 W2 Wm M :=
  ⟨b, w.b1, w.b2, w.bm, w.r1.keep k (dis_onB w.b1), w.r2.keep k (dis_onB w.b2), w.md.keep k (dis_onB w.bm), w.d12, w.d1m, w.d2m⟩
theorem Wd.same (w : Wd K H B p1 p2 d W1 W2 Wm M) (s : Same H H') : Wd K H' B p1 p2 d W1 W2 Wm M :=
  ⟨w.bx.same s, w.b1, w.b2, w.bm, w.r1.same s, w.r2.same s, w.md.same s, w.d12, w.d1m, w.d2m⟩
theorem Wd.q1 (w : Wd K H B p1 p2 d W1 W2 Wm M) (k : Keep W1 H H') (r : RowAt false K H' p1 W1 M) : Wd K H' B p1 p2 d W1 W2 Wm M :=
  ⟨w.bx.keep k w.b1, w.b1, w.b2, w.bm, r, w.r2.keep k w.d12, w.md.keep k w.d1m, w.d12, w.d1m, w.d2m⟩
theorem Wd.q2 (w : Wd K H B p1 p2 d W1 W2 Wm M) (k : Keep W2 H H') (r : RowAt true K H' p2 W2 M) : Wd K H' B p1 p2 d W1 W2 Wm M :=
  ⟨w.bx.keep k w.b2, w.b1, w.b2, w.bm, w.r1.keep k w.d12.symm, r, w.md.keep k w.d2m, w.d12, w.d1m, w.d2m⟩
/-- what is new is nobody's -/
theorem Wd.new (w : Wd K H B p1 p2 d W1 W2 Wm M) {l : Addr} (n : H l = none) : Un B W1 W2 Wm l = 0 :=
  un_of (fun z => by obtain ⟨o, e, _⟩ := w.bx; rw [z, e] at n; cases n) (w.r1.has.new n) (w.r2.has.new n) (w.md.has.new n)
end
end MK

set_option Elab.async false
set_option linter.all false
set_option maxRecDepth 100000
set_option maxHeartbeats 4000000
/-! the law's own defs: same -/
namespace MK
open PySem PySem.Spec PyProof.Rows L2
section
variable {P : Program} {w : World} {K : PySem.W.Frag} {mg : Str → Option Value} {base : Heap}
theorem okb_store (T : Tx K mg) : ∀ b, Fc P w K mg base 4 (aR K b "store") ["self", "make", "number", "place", "worth"] (spStore b K)
  | false => (ok_P_store T).up (by decide)
  | true => ok_U_store T
theorem okb_worths (T : Tx K mg) : ∀ b, Fc P w K mg base 7 (aR K b "worths_in") ["self", "make", "low", "high"] (spWorthsIn b K)
  | false => ok_P_worths_in T
  | true => (ok_U_worths_in T).up (by decide)
theorem okb_freed (T : Tx K mg) : ∀ b, Fc P w K mg base 8 (aR K b "freed") ["self", "make"] (spFreed b K)
  | false => (ok_P_freed T).up (by decide)
  | true => ok_U_freed T
theorem okb_begin (T : Tx K mg) : ∀ b, Fc P w K mg base 2 (aR K b "begin") ["self", "worths"] (spBegin b K)
  | false => ok_P_begin T
  | true => (ok_U_begin T).up (by decide)
theorem okb_copied (T : Tx K mg) : ∀ b, Fc P w K mg base 6 (aR K b "copied") ["self"] (spCopied b K)
  | false => ok_P_copied T
  | true => ok_U_copied T
def spSameL (K : PySem.W.Frag) : Sp := fun vs H Q _ => ∃ (B p1 p2 d : Addr) (W1 W2 Wm : Ow) (M : Mo), vs = [.ref B, .ref p1, .ref p2, .ref d] ∧ Wd K H B p1 p2 d W1 W2 Wm M ∧
  ∀ H', Wd K H' B p1 p2 d W1 W2 Wm M → Keep (Un B W1 W2 Wm) H H' → Q (.bl true) H'
theorem ok_l_same (T : Tx K mg) : FnG P w K mg base 9 (aF K "_law_same") ["_law_box_here", "_law_first", "_law_second", "_law_model_here"] (spSameL K) := by
  refine FnG.mk' T.d__law_same c__law_same (fun vs H Q E h => ?_) (fun _ _ _ _ _ _ us hl => match us, hl with | [_, _, _, _], _ => rfl) (fun cdv A0 outer s H vs Q hg hr h => ?_)
  · obtain ⟨B, p1, p2, d, W1, W2, Wm, M, rfl, _⟩ := h; rfl
  obtain ⟨B, p1, p2, d, W1, W2, Wm, M, rfl, w0, q⟩ := h
  have nd := c__law_same.nd
  have hga : GA (A0.deeper (envOfC "_law_same" (defScope s__law_same) s.heap.objs.size (aF K "_law_same") cdv)) := hg
  have hu : (A0.deeper (envOfC "_law_same" (defScope s__law_same) s.heap.objs.size (aF K "_law_same") cdv)).units + 64 < cLine := by have z := hr.units; omega
  refine ⟨_, pss_cons (ps_set (i := 4) nd rfl (.inl rfl) (qm0 (pv 1) (T.clR false) (T.mR_size false) (ok_R_size T false) (hr.mono (by decide))))
    (pss_cons (ps_set (i := 5) nd rfl (.inl rfl) (qc (ok_l_picked T) (hr.mono (by decide)) rfl T.g__law_picked (pa_cons (pv 0) (pa_cons (pv 3) pa_nil))))
    (pss_cons (ps_set (i := 6) nd rfl (.inl rfl) (qc (ok_l_take T) (hr.mono (by decide)) rfl T.g__law_take (pa_cons (pv 0) (pa_cons (pv 4) pa_nil))))
    (pss_cons (ps_set (i := 7) nd rfl (.inl rfl) (pe_op op_add (pe_op op_add (pv 6) pe_int) (qc (ok_l_take T) (hr.mono (by decide)) rfl T.g__law_take (pa_cons (pv 0) (pa_cons (pe_op op_sub (pv 4) (pv 6)) pa_nil)))))
    (pss_cons (ps_if (pt_cmpR op_ne (pe_callB (call_rep hga hu) rfl T.f_repr boot_repr (pa_cons (qm (pv 2) (T.clR true) (T.mR_stretch true) (ok_R_stretch T true (okb_worths T true)) hr (pa_cons (pv 5) (pa_cons (pv 6) (pa_cons (pv 7) pa_nil)))) pa_nil))
        (pe_callB (call_rep hga hu) rfl T.f_repr boot_repr (pa_cons (qm (pv 1) (T.clR false) (T.mR_stretch false) (ok_R_stretch T false (okb_worths T false)) hr (pa_cons (pv 5) (pa_cons (pv 6) (pa_cons (pv 7) pa_nil)))) pa_nil)) (nomark _)) (pss_one (ps_ret pe_bl)) pss_nil)
    (pss_cons (ps_if (PW.pt (pw_or (pt_cmpR op_ne (pe_callB (call_rep hga hu) rfl T.f_repr boot_repr (pa_cons (qm (pv 1) (T.clR false) (T.mR_at false) (ok_R_at T false (okb_worths T false)) hr (pa_cons (pv 5) (pa_cons (pv 6) pa_nil))) pa_nil))
        (pe_callB (call_rep hga hu) rfl T.f_repr boot_repr (pa_cons (qm (pv 2) (T.clR true) (T.mR_at true) (ok_R_at T true (okb_worths T true)) hr (pa_cons (pv 5) (pa_cons (pv 6) pa_nil))) pa_nil)) (nomark _))
        (pw_or1 (pt_cmpR op_ne (qm (pv 2) (T.clR true) (T.mR_writer true) (ok_R_writer T true) (hr.mono (by decide)) (pa_cons (pv 5) (pa_cons (pv 6) pa_nil))) (qm (pv 1) (T.clR false) (T.mR_writer false) (ok_R_writer T false) (hr.mono (by decide)) (pa_cons (pv 5) (pa_cons (pv 6) pa_nil))) (nomark _)))))
        (pss_one (ps_ret pe_bl)) pss_nil)
    (pss_cons (ps_set (i := 8) nd rfl (.inl rfl) (qc (ok_l_picked T) (hr.mono (by decide)) rfl T.g__law_picked (pa_cons (pv 0) (pa_cons (pv 3) pa_nil))))
    (pss_cons (ps_if (pt_cmpR op_ne (pe_callB (call_rep hga hu) rfl T.f_repr boot_repr (pa_cons (pe_lst (pa_cons (qm (pv 1) (T.clR false) (T.mR_row false) (ok_R_row T false (okb_worths T false)) hr (pa_cons (pv 8) pa_nil)) (pa_cons (qm (pv 1) (T.clR false) (T.mR_row false) (ok_R_row T false (okb_worths T false)) hr (pa_cons (pv 5) pa_nil)) pa_nil))) pa_nil))
        (pe_callB (call_rep hga hu) rfl T.f_repr boot_repr (pa_cons (pe_lst (pa_cons (qm (pv 2) (T.clR true) (T.mR_row true) (ok_R_row T true (okb_worths T true)) hr (pa_cons (pv 8) pa_nil)) (pa_cons (qm (pv 2) (T.clR true) (T.mR_row true) (ok_R_row T true (okb_worths T true)) hr (pa_cons (pv 5) pa_nil)) pa_nil))) pa_nil)) (nomark _))
        (pss_one (ps_ret pe_bl)) pss_nil)
    (pss_cons (ps_if (PW.pt (pw_or (pt_cmpR (op_neD hu) (qm (qm0 (pv 1) (T.clR false) (T.mR_tree false) (ok_R_tree T false) (hr.mono (by decide))) T.clT T.mT_line (ok_T_line T) (hr.mono (by decide)) (pa_cons (pv 5) pa_nil))
        (qm (qm0 (pv 2) (T.clR true) (T.mR_tree true) (ok_R_tree T true) (hr.mono (by decide))) T.clT T.mT_line (ok_T_line T) (hr.mono (by decide)) (pa_cons (pv 5) pa_nil)) (nomark _))
        (pw_or1 (pt_cmpR (op_neD hu) (qm (pv 2) (T.clR true) T.mU_read_by (ok_U_read_by T) (hr.mono (by decide)) (pa_cons (pv 8) pa_nil)) (qm (pv 1) (T.clR false) (T.mR_row false) (ok_R_row T false (okb_worths T false)) hr (pa_cons (pv 8) pa_nil)) (nomark _)))))
        (pss_one (ps_ret pe_bl)) pss_nil)
    (pss_one (ps_ret (pe_cmpR op_eq (pe_callB (call_rep hga hu) rfl T.f_repr boot_repr (pa_cons (pe_lst (pa_cons (qm0 (pv 1) (T.clR false) (T.mR_makes false) (ok_R_makes T false) (hr.mono (by decide))) (pa_cons (qm0 (pv 1) (T.clR false) (T.mR_many false) (ok_R_many T false) (hr.mono (by decide))) pa_nil))) pa_nil))
        (pe_callB (call_rep hga hu) rfl T.f_repr boot_repr (pa_cons (pe_lst (pa_cons (qm0 (pv 2) (T.clR true) (T.mR_makes true) (ok_R_makes T true) (hr.mono (by decide))) (pa_cons (qm0 (pv 2) (T.clR true) (T.mR_many true) (ok_R_many T true) (hr.mono (by decide))) pa_nil))) pa_nil)) (nomark _)))))))))))), ?_⟩
  have ok := w0.r1.ok
  have n64 := ok.n64
  have s16 := ok.s16
  have s1' := ok.s1
  -- size
  obtain ⟨dx, t, aw, ag, c, x1, x2, here, hp⟩ := w0.r1.hp
  refine ⟨_, rfl, _, _, _, rfl, hp, fsR_no (by decide +kernel), p1, M, rfl, w0.r1.rq, ?_⟩
  -- make
  refine ⟨_, rfl, _, rfl, B, d, Wm, M, rfl, w0.bx, w0.md, ok, w0.bm, fun m H1 km b1 k1 => ?_⟩
  have w1 := w0.box k1 b1
  have u1 := un_B (W1 := W1) (W2 := W2) (Wm := Wm) k1
  -- low
  obtain ⟨o1, hB1, bo1⟩ := b1
  refine ⟨_, rfl, _, rfl, B, M.size, rfl, by omega, by omega, ⟨o1, hB1, bo1⟩, fun lo o2 llo bo2 => ?_⟩
  have w2 := w1.box (keep_box (o := o2) hB1 bo1) ⟨o2, upd_same, bo2⟩
  have u2 := u1.trans (un_B (W1 := W1) (W2 := W2) (Wm := Wm) (keep_box (o := o2) hB1 bo1))
  have h2 : upd H1 B o2 B = some o2 := upd_same
  generalize (upd H1 B o2) = H2 at w2 u2 h2 ⊢
  -- high
  refine ⟨_, rfl, _, _, rfl, rfl, _, rfl, _, rfl, _, rfl, _, _, rfl, rfl, B, M.size - lo, ?_, by omega, by omega, ⟨o2, h2, bo2⟩, fun r o3 lr bo3 => ?_⟩
  · show [V.ref B, V.int ((M.size : Int) - (lo : Int))] = [V.ref B, V.int ((M.size - lo : Nat) : Int)]
    rw [show ((M.size - lo : Nat) : Int) = (M.size : Int) - (lo : Int) by omega]
  have w3 := w2.box (keep_box (o := o3) h2 bo2) ⟨o3, upd_same, bo3⟩
  have u3 := u2.trans (un_B (W1 := W1) (W2 := W2) (Wm := Wm) (keep_box (o := o3) h2 bo2))
  generalize (upd H2 B o3) = H3 at w3 u3 ⊢
  refine ⟨_, _, rfl, rfl, ?_⟩
  -- stretch
  obtain ⟨dx, t, aw, ag, c, x1, x2, here, hp⟩ := w3.r2.hp
  refine ⟨_, rfl, _, _, _, rfl, hp, fsR_no (by decide +kernel), _, rfl, _, rfl, _, rfl, p2, m, lo, lo + 1 + r, W2, M, rfl, w3.r2, km, by omega, by omega, fun l H4 nl4 hl4 R4 k4 => ?_⟩
  have w4 := w3.q2 k4 R4
  have u4 := u3.trans (un_2 (B := B) (W1 := W1) (Wm := Wm) k4)
  rw [str_int] at hl4
  have sh := strI_short ok (lo := lo) (hi := lo + 1 + r) km.1 (by omega)
  refine .inl ⟨_, _, 1, rfl, dp_list hl4, (nice_list sh.1 sh.2).1, by decide, ?_⟩
  obtain ⟨dx, t, aw, ag, c, x1, x2, here, hp⟩ := w4.r1.hp
  refine ⟨_, rfl, _, _, _, rfl, hp, fsR_no (by decide +kernel), _, rfl, _, rfl, _, rfl, p1, m, lo, lo + 1 + r, W1, M, rfl, w4.r1, km, by omega, by omega, fun l5 H5 nl5 hl5 R5 k5 => ?_⟩
  have w5 := w4.q1 k5 R5
  have u5 := u4.trans (un_1 (B := B) (W2 := W2) (Wm := Wm) k5)
  rw [str_int] at hl5
  refine .inl ⟨_, _, 1, rfl, dp_list hl5, (nice_list sh.1 sh.2).1, by decide, rfl, _, rfl, ?_⟩
  refine iteNS rfl ?_
  -- at
  obtain ⟨dx, t, aw, ag, c, x1, x2, here, hp⟩ := w5.r1.hp
  refine ⟨_, rfl, _, _, _, rfl, hp, fsR_no (by decide +kernel), _, rfl, _, rfl, p1, m, lo, W1, M, rfl, w5.r1, km, llo, fun H6 R6 k6 => ?_⟩
  have w6 := w5.q1 k6 R6
  have u6 := u5.trans (un_1 (B := B) (W2 := W2) (Wm := Wm) k6)
  have si := shortI_ok (Mo.val_ok ok km.1 llo)
  refine .inr ⟨_, rfl, si, ?_⟩
  obtain ⟨dx, t, aw, ag, c, x1, x2, here, hp⟩ := w6.r2.hp
  refine ⟨_, rfl, _, _, _, rfl, hp, fsR_no (by decide +kernel), _, rfl, _, rfl, p2, m, lo, W2, M, rfl, w6.r2, km, llo, fun H7 R7 k7 => ?_⟩
  have w7 := w6.q2 k7 R7
  have u7 := u6.trans (un_2 (B := B) (W1 := W1) (Wm := Wm) k7)
  refine .inr ⟨_, rfl, si, rfl, _, rfl, iteNS rfl ?_⟩
  -- writer
  obtain ⟨dx, t, aw, ag, c, x1, x2, here, hp⟩ := w7.r2.hp
  refine ⟨_, rfl, _, _, _, rfl, hp, fsR_no (by decide +kernel), _, rfl, _, rfl, p2, m, lo, M, rfl, w7.r2.rq, ok.wt, km.1, llo, ?_⟩
  obtain ⟨dx, t, aw, ag, c, x1, x2, here, hp⟩ := w7.r1.hp
  refine ⟨_, rfl, _, _, _, rfl, hp, fsR_no (by decide +kernel), _, rfl, _, rfl, p1, m, lo, M, rfl, w7.r1.rq, ok.wt, km.1, llo, rfl, _, rfl, iteNS rfl ?_⟩
  -- other
  refine ⟨_, rfl, _, rfl, B, d, Wm, M, rfl, w7.bx, w7.md, ok, w7.bm, fun o H8 ko b8 k8 => ?_⟩
  have w8 := w7.box k8 b8
  have u8 := u7.trans (un_B (W1 := W1) (W2 := W2) (Wm := Wm) k8)
  -- rows of the first
  have sho := strI_short ok (lo := 0) (hi := M.size) ko.1 (Nat.le_refl _)
  have shm := strI_short ok (lo := 0) (hi := M.size) km.1 (Nat.le_refl _)
  have no := nice_list sho.1 sho.2
  have nm' := nice_list shm.1 shm.2
  have n2 := nice_two no.1 nm'.1 no.2 nm'.2
  obtain ⟨dx, t, aw, ag, c, x1, x2, here, hp⟩ := w8.r1.hp
  refine ⟨_, rfl, _, _, _, rfl, hp, fsR_no (by decide +kernel), _, rfl, p1, o, W1, M, rfl, w8.r1, ko, fun la H9 nla hla R9 k9 => ?_⟩
  have w9 := w8.q1 k9 R9
  have u9 := u8.trans (un_1 (B := B) (W2 := W2) (Wm := Wm) k9)
  have la0 : W1 la = 0 := w8.r1.has.new nla
  obtain ⟨dx, t, aw, ag, c, x1, x2, here, hp⟩ := w9.r1.hp
  refine ⟨_, rfl, _, _, _, rfl, hp, fsR_no (by decide +kernel), _, rfl, p1, m, W1, M, rfl, w9.r1, km, fun lb H10 nlb hlb R10 k10 => ?_⟩
  have w10 := w9.q1 k10 R10
  have u10 := u9.trans (un_1 (B := B) (W2 := W2) (Wm := Wm) k10)
  have hla := k10.k _ _ hla (.inl la0)
  refine ⟨(by show 2 ≤ sizeLine; decide), fun lc nlc => ?_⟩
  have s11 : Same H10 (upd H10 lc (.lst [V.ref la, V.ref lb])) := Same.new (Same.refl _) nlc
  have hlc : upd H10 lc (.lst [V.ref la, V.ref lb]) lc = some (.lst [V.ref la, V.ref lb]) := upd_same
  have w11 := w10.same s11
  have u11 := u10.new (o := .lst [V.ref la, V.ref lb]) nlc
  have hla := s11 _ _ hla
  have hlb := s11 _ _ hlb
  generalize (upd H10 lc (.lst [V.ref la, V.ref lb])) = H11 at hlc w11 u11 hla hlb ⊢
  rw [str_int] at hla hlb
  refine .inl ⟨lc, _, 2, rfl, .lst (SqL.of hlc) (.cons (dp_list hla) (.cons (dp_list hlb) .nil)), n2, by decide, ?_⟩
  -- rows of the second
  obtain ⟨dx, t, aw, ag, c, x1, x2, here, hp⟩ := w11.r2.hp
  refine ⟨_, rfl, _, _, _, rfl, hp, fsR_no (by decide +kernel), _, rfl, p2, o, W2, M, rfl, w11.r2, ko, fun ma H12 nma hma R12 k12 => ?_⟩
  have w12 := w11.q2 k12 R12
  have u12 := u11.trans (un_2 (B := B) (W1 := W1) (Wm := Wm) k12)
  have ma0 : W2 ma = 0 := w11.r2.has.new nma
  obtain ⟨dx, t, aw, ag, c, x1, x2, here, hp⟩ := w12.r2.hp
  refine ⟨_, rfl, _, _, _, rfl, hp, fsR_no (by decide +kernel), _, rfl, p2, m, W2, M, rfl, w12.r2, km, fun mb H13 nmb hmb R13 k13 => ?_⟩
  have w13 := w12.q2 k13 R13
  have u13 := u12.trans (un_2 (B := B) (W1 := W1) (Wm := Wm) k13)
  have hma := k13.k _ _ hma (.inl ma0)
  refine ⟨(by show 2 ≤ sizeLine; decide), fun mc nmc => ?_⟩
  have s14 : Same H13 (upd H13 mc (.lst [V.ref ma, V.ref mb])) := Same.new (Same.refl _) nmc
  have hmc : upd H13 mc (.lst [V.ref ma, V.ref mb]) mc = some (.lst [V.ref ma, V.ref mb]) := upd_same
  have w14 := w13.same s14
  have u14 := u13.new (o := .lst [V.ref ma, V.ref mb]) nmc
  have hma := s14 _ _ hma
  have hmb := s14 _ _ hmb
  generalize (upd H13 mc (.lst [V.ref ma, V.ref mb])) = H14 at hmc w14 u14 hma hmb ⊢
  rw [str_int] at hma hmb
  refine .inl ⟨mc, _, 2, rfl, .lst (SqL.of hmc) (.cons (dp_list hma) (.cons (dp_list hmb) .nil)), n2, by decide, rfl, _, rfl, iteNS rfl ?_⟩
  -- lines
  have lnat : ∀ i ∈ lineL M.own m, i ≤ 1000 := fun i hi => by
    obtain ⟨j, _, rfl⟩ := List.mem_map.mp hi
    have := up_le ok.wt (dep M.own m - j) m
    have := km.1
    omega
  have nl0 := nice_list (natI_short lnat) (by
    unfold natI
    rw [List.length_map]
    unfold lineL
    rw [rng_len]
    have := dep_le ok.wt m
    have := km.1
    omega)
  obtain ⟨dx, t, aw, ag, c, x1, x2, here, hp⟩ := w14.r1.hp
  refine ⟨_, rfl, _, _, _, rfl, hp, fsR_no (by decide +kernel), p1, M, rfl, w14.r1.rq, n64, fun A15 W15 H15 tr15 _ _ s15 => ?_⟩
  have w15 := w14.same s15
  refine ⟨_, _, _, rfl, tr15.ht, fsT_no (by decide +kernel), _, rfl, A15.t, M.n, m, M.own, rfl, ⟨A15, W15, rfl, tr15⟩, ok.wt, km.1, n64, fun na H16 nna hna r16 => ?_⟩
  have s16' := same_of nna r16
  have w16 := w15.same s16'
  obtain ⟨dx, t, aw, ag, c, x1, x2, here, hp⟩ := w16.r2.hp
  refine ⟨_, rfl, _, _, _, rfl, hp, fsR_no (by decide +kernel), p2, M, rfl, w16.r2.rq, n64, fun A17 W17 H17 tr17 _ _ s17 => ?_⟩
  have w17 := w16.same s17
  refine ⟨_, _, _, rfl, tr17.ht, fsT_no (by decide +kernel), _, rfl, A17.t, M.n, m, M.own, rfl, ⟨A17, W17, rfl, tr17⟩, ok.wt, km.1, n64, fun nb H18 nnb hnb r18 => ?_⟩
  have s18 := same_of nnb r18
  have w18 := w17.same s18
  have u18 := u14.trans (Keep.same (fun a o e => s18 _ _ (s17 _ _ (s16' _ _ (s15 _ _ e)))))
  have hna := s18 _ _ (s17 _ _ hna)
  rw [nl_int] at hna hnb
  refine ⟨_, _, dp_list hna, dp_list hnb, nl0.1.shp (by decide), nl0.1.shp (by decide), _, rfl, ?_⟩
  rw [SeqAt.eqv_refl _ nl0.1.lay]
  refine iteF ?_
  -- read_by, row
  obtain ⟨dx, t, aw, ag, c, x1, x2, here, hp⟩ := w18.r2.hp
  refine ⟨_, rfl, _, _, _, rfl, hp, fsR_no (by decide +kernel), _, rfl, p2, o, W2, M, rfl, w18.r2, ko, fun ra H19 nra hra s19 => ?_⟩
  have w19 := w18.same s19
  have u19 := u18.trans (Keep.same s19)
  obtain ⟨dx, t, aw, ag, c, x1, x2, here, hp⟩ := w19.r1.hp
  refine ⟨_, rfl, _, _, _, rfl, hp, fsR_no (by decide +kernel), _, rfl, p1, o, W1, M, rfl, w19.r1, ko, fun rb H20 nrb hrb R20 k20 => ?_⟩
  have w20 := w19.q1 k20 R20
  have u20 := u19.trans (un_1 (B := B) (W2 := W2) (Wm := Wm) k20)
  have hra := k20.k _ _ hra (.inl (w18.r1.has.new nra))
  rw [str_int] at hra hrb
  refine ⟨_, _, dp_list hra, dp_list hrb, no.1.shp (by decide), no.1.shp (by decide), _, rfl, ?_⟩
  rw [SeqAt.eqv_refl _ no.1.lay]
  refine iteF ?_
  -- makes, many
  have knat : ∀ i ∈ keptL M, i ≤ 1000 := fun i hi => by
    have := (mem_keptL.mp hi).1
    omega
  have kl := keptL_le (M := M)
  have nk := nice_list (natI_short knat) (by unfold natI; rw [List.length_map]; omega)
  have nn : Nice (.int (M.n : Int)) 0 := nice_int (shortI_nat (by omega))
  have n3 := nice_two nk.1 (nn.up (by decide)) nk.2 (Nat.le_trans (wt_short (shortI_nat (by omega))) (by decide))
  obtain ⟨dx, t, aw, ag, c, x1, x2, here, hp⟩ := w20.r1.hp
  refine ⟨_, rfl, _, _, _, rfl, hp, fsR_no (by decide +kernel), p1, M, rfl, w20.r1.rq, n64, fun ka H21 nka hka s21 => ?_⟩
  have w21 := w20.same s21
  have u21 := u20.trans (Keep.same s21)
  obtain ⟨dx, t, aw, ag, c, x1, x2, here, hp⟩ := w21.r1.hp
  refine ⟨_, rfl, _, _, _, rfl, hp, fsR_no (by decide +kernel), p1, M, rfl, w21.r1.rq, (by show 2 ≤ sizeLine; decide), fun kc nkc => ?_⟩
  have s22 : Same H21 (upd H21 kc (.lst [V.ref ka, V.int (M.n : Int)])) := Same.new (Same.refl _) nkc
  have hkc : upd H21 kc (.lst [V.ref ka, V.int (M.n : Int)]) kc = some (.lst [V.ref ka, V.int (M.n : Int)]) := upd_same
  have w22 := w21.same s22
  have u22 := u21.trans (Keep.same s22)
  have hka := s22 _ _ hka
  generalize (upd H21 kc (.lst [V.ref ka, V.int (M.n : Int)])) = H22 at hkc w22 u22 hka ⊢
  rw [nl_int] at hka
  refine .inl ⟨kc, _, 2, rfl, .lst (SqL.of hkc) (.cons (dp_list hka) (.cons (.int _) .nil)), n3, by decide, ?_⟩
  obtain ⟨dx, t, aw, ag, c, x1, x2, here, hp⟩ := w22.r2.hp
  refine ⟨_, rfl, _, _, _, rfl, hp, fsR_no (by decide +kernel), p2, M, rfl, w22.r2.rq, n64, fun ja H23 nja hja s23 => ?_⟩
  have w23 := w22.same s23
  have u23 := u22.trans (Keep.same s23)
  obtain ⟨dx, t, aw, ag, c, x1, x2, here, hp⟩ := w23.r2.hp
  refine ⟨_, rfl, _, _, _, rfl, hp, fsR_no (by decide +kernel), p2, M, rfl, w23.r2.rq, (by show 2 ≤ sizeLine; decide), fun jc njc => ?_⟩
  have s24 : Same H23 (upd H23 jc (.lst [V.ref ja, V.int (M.n : Int)])) := Same.new (Same.refl _) njc
  have hjc : upd H23 jc (.lst [V.ref ja, V.int (M.n : Int)]) jc = some (.lst [V.ref ja, V.int (M.n : Int)]) := upd_same
  have w24 := w23.same s24
  have u24 := u23.trans (Keep.same s24)
  have hja := s24 _ _ hja
  generalize (upd H23 jc (.lst [V.ref ja, V.int (M.n : Int)])) = H24 at hjc w24 u24 hja ⊢
  rw [nl_int] at hja
  refine .inl ⟨jc, _, 2, rfl, .lst (SqL.of hjc) (.cons (dp_list hja) (.cons (.int _) .nil)), n3, by decide, rfl, ?_⟩
  exact bl_eq (q H24 w24 u24) (by simp)
end
end MK

set_option Elab.async false
set_option linter.all false
set_option maxRecDepth 100000
set_option maxHeartbeats 4000000
/-! the law's own defs: deed -/
namespace MK
open PySem PySem.Spec PyProof.Rows L2
theorem putA_ok : ∀ (cs : List (Nat × Int)) (M : Mo) (m : Nat), M.Ok → M.kept m → (∀ c ∈ cs, c.1 < M.size ∧ okW c.2) → M.n + cs.length ≤ 64 → (putA M m cs).Ok
  | [], M, m, ok, _, _, _ => ok
  | c :: cs, M, m, ok, km, h, l => by
    have hc := h c List.mem_cons_self
    have l' : M.n + (cs.length + 1) ≤ 64 := l
    exact putA_ok cs (M.put m c.1 c.2) M.n (Mo.put_ok ok km.1 hc.1 hc.2 (by omega)) Mo.put_keptN (fun d hd => h d (List.mem_cons_of_mem _ hd)) (by show M.n + 1 + cs.length ≤ 64; omega)
theorem putA_own : ∀ (cs : List (Nat × Int)) (M : Mo) (m i : Nat), i < M.n → (putA M m cs).own i = M.own i
  | [], M, m, i, _ => rfl
  | c :: cs, M, m, i, h => by
    show (putA (M.put m c.1 c.2) M.n cs).own i = M.own i
    rw [putA_own cs _ _ i (Nat.lt_succ_of_lt h)]
    exact putO_ne (by omega)
theorem putA_ownN {cs : List (Nat × Int)} {M : Mo} {m : Nat} (h : 0 < cs.length) : (putA M m cs).own M.n = m := by
  match cs, h with
  | c :: cs, _ =>
    show (putA (M.put m c.1 c.2) M.n cs).own M.n = m
    rw [putA_own cs _ _ M.n (Nat.lt_succ_self _)]
    exact putO_at
theorem MdAt.let {H : Hp} {d : Addr} {W : Ow} {M : Mo} {A : MAd} {m : Nat} (e : A.d = d) (R : MdIn A H W M) : MdAt (upd H A.ag (.lst ((List.range M.n).map fun j => if j = m then V.bl true else gonV M.gone j))) d W (M.let_ m) := by
  have ne : ∀ {a : Addr} {i : Nat}, W a = i → i ≠ 6 → a ≠ A.ag := fun h1 h => role_ne h1 R.rg h
  refine ⟨A, e, (upd_ne (ne R.rd (by decide))).trans R.hd, (upd_ne (ne R.rf (by decide))).trans R.hf, (upd_ne (ne R.ro (by decide))).trans R.ho, (upd_ne (ne R.rw (by decide))).trans R.hw, (upd_ne (ne R.rt (by decide))).trans R.ht, ?_, R.rd, R.rf, R.ro, R.rw, R.rt, R.rg, fun a ha e => ?_⟩
  · rw [upd_same]
    refine congrArg (fun l => some (HO.lst l)) (rng_ext fun j hj => ?_)
    unfold gonV
    show _ = V.bl (if j = m then true else M.gone j)
    split <;> rfl
  · by_cases z : a = A.ag
    · rw [z, upd_same] at e; cases e
    · rw [upd_ne z] at e; exact R.has a ha e
/-- changes as data -/
def chD (cs : List (Nat × Int)) : List PyData := cs.map fun c => .tuple [.int (c.1 : Int), .int c.2]
theorem chD_lay : ∀ cs, PyData.canLayAll0 (chD cs) = true
  | [] => rfl
  | c :: cs => by
    show (true && PyData.canLayAll0 (chD cs)) = true
    rw [chD_lay cs]; rfl
theorem chD_dep : ∀ cs, PyData.depthAll (chD cs) ≤ 1
  | [] => Nat.zero_le _
  | c :: cs => by
    have := chD_dep cs
    show max 1 (PyData.depthAll (chD cs)) ≤ 1
    omega
theorem chD_shp (cs : List (Nat × Int)) : SeqAt.shaped (.list (chD cs)) = true := by
  unfold SeqAt.shaped
  have e1 : PyData.canLay0 (.list (chD cs)) = true := chD_lay cs
  have e2 : PyData.depth (.list (chD cs)) = PyData.depthAll (chD cs) + 1 := by simp [PyData.depth]
  have := chD_dep cs
  rw [e1, e2]
  simp
  omega
theorem chD_dp {K : PySem.W.Frag} {H : Hp} {size : Nat} : ∀ {ts : List Addr} {cs : List (Nat × Int)}, Paired (fun t c => ChAt H size t c.1 c.2) ts cs → DpAll K H (ts.map V.ref) (chD cs)
  | _, _, .nil => .nil
  | _, _, .cons h t => .cons (.tup (SqT.of h.1) (.cons (.int _) (.cons (.int _) .nil))) (chD_dp t)
theorem chD_eqv (cs : List (Nat × Int)) : PyData.eqv (.list (chD cs)) (.list []) = decide (cs.length = 0) := by
  cases cs with
  | nil => rfl
  | cons c cs =>
    rw [PyData.eqv]
    rfl
theorem iteT' {c : Bool} {A B : Prop} (hc : c = true) (h : A) : if c = true then A else B := by rw [if_pos hc]; exact h
/-- the parts put together again -/
theorem wd_join {K : PySem.W.Frag} {H Hg Hh Hi : Hp} {B p1 p2 d : Addr} {W1 W2 Wm W1' W2' : Ow} {M M' : Mo} (w : Wd K H B p1 p2 d W1 W2 Wm M) (kg : Keep Wm H Hg) (md : MdAt Hg d Wm M')
    (R1 : RowAt false K Hh p1 W1' M') (g1 : Grow W1 W1' Hg) (k1 : Keep W1 Hg Hh) (R2 : RowAt true K Hi p2 W2' M') (g2 : Grow W2 W2' Hh) (k2 : Keep W2 Hh Hi) :
    Wd K Hi B p1 p2 d W1' W2' Wm M' ∧ Keep (Un B W1 W2 Wm) H Hi := by
  have hasm := md.has
  have r2g := w.r2.keep kg w.d2m.symm
  have d12a : Dis W1' W2 := w.d12.grow g1 r2g.has
  have d12b : Dis W2' W1' := d12a.symm.grow g2 R1.has
  have d1ma : Dis W1' Wm := w.d1m.grow g1 hasm
  have mdh := md.keep k1 w.d1m
  have d2ma : Dis W2' Wm := w.d2m.grow g2 mdh.has
  have bg := w.bx.keep kg w.bm
  have bh := bg.keep k1 w.b1
  have bi := bh.keep k2 w.b2
  have mdi := mdh.keep k2 w.d2m
  have b1' : W1' B = 0 := by
    by_cases z : W1' B = 0
    · exact z
    · rcases g1 B z with y | y
      · exact absurd w.b1 y
      · obtain ⟨o, e, _⟩ := bg; rw [e] at y; cases y
  have b2' : W2' B = 0 := by
    by_cases z : W2' B = 0
    · exact z
    · rcases g2 B z with y | y
      · exact absurd w.b2 y
      · obtain ⟨o, e, _⟩ := bh; rw [e] at y; cases y
  exact ⟨⟨bi, b1', b2', w.bm, R1.keep k2 d12a.symm, R2, mdi, d12b.symm, d1ma, d2ma⟩, ((un_m kg).trans (un_1 k1)).trans (un_2 k2)⟩
theorem ite_both {c A B R : Prop} [Decidable c] (r : R) (h1 : c → R → A) (h2 : ¬ c → R → B) : if decide c = true then A else B := by
  by_cases h : c
  · exact iteY h (h1 h r)
  · exact iteN h (h2 h r)
theorem wd_off {K : PySem.W.Frag} {H : Hp} {B p1 p2 d D : Addr} {W1 W2 Wm : Ow} {M : Mo} {o o1 : HO} (w : Wd K H B p1 p2 d W1 W2 Wm M) (h : Un B W1 W2 Wm D = 0) (h1 : H D = some o1) (nt : ¬ isTup o1) : Wd K (upd H D o) B p1 p2 d W1 W2 Wm M := by
  obtain ⟨a1, a2, a3, a4⟩ := un_zero h
  obtain ⟨ob, eb, bb⟩ := w.bx
  refine ⟨⟨ob, (upd_ne a1.symm).trans eb, bb⟩, w.b1, w.b2, w.bm, w.r1.off a2 h1 nt, w.r2.off a3 h1 nt, ?_, w.d12, w.d1m, w.d2m⟩
  obtain ⟨A, e, R⟩ := w.md
  exact ⟨A, e, R.at' fun b o e hb => (upd_ne (fun z => hb (by rw [z]; exact a4))).trans e⟩
section
variable {P : Program} {w : World} {K : PySem.W.Frag} {mg : Str → Option Value} {base : Heap}
def spDeedL (K : PySem.W.Frag) : Sp := fun vs H Q _ => ∃ (B p1 p2 d : Addr) (W1 W2 Wm : Ow) (M : Mo), vs = [.ref B, .ref p1, .ref p2, .ref d] ∧ Wd K H B p1 p2 d W1 W2 Wm M ∧
  ∀ W1' W2' M' H', Wd K H' B p1 p2 d W1' W2' Wm M' → Grow W1 W1' H → Grow W2 W2' H → Keep (Un B W1 W2 Wm) H H' → Q (.bl true) H'
theorem ok_l_deed (T : Tx K mg) : FnG P w K mg base 10 (aF K "_law_deed") ["_law_box_here", "_law_first", "_law_second", "_law_model_here"] (spDeedL K) := by
  refine FnG.mk' T.d__law_deed c__law_deed (fun vs H Q E h => ?_) (fun _ _ _ _ _ _ us hl => match us, hl with | [_, _, _, _], _ => rfl) (fun cdv A0 outer s H vs Q hg hr h => ?_)
  · obtain ⟨B, p1, p2, d, W1, W2, Wm, M, rfl, _⟩ := h; rfl
  obtain ⟨B, p1, p2, d, W1, W2, Wm, M, rfl, w0, q⟩ := h
  have nd := c__law_deed.nd
  have hga : GA (A0.deeper (envOfC "_law_deed" (defScope s__law_deed) s.heap.objs.size (aF K "_law_deed") cdv)) := hg
  have hu : (A0.deeper (envOfC "_law_deed" (defScope s__law_deed) s.heap.objs.size (aF K "_law_deed") cdv)).units + 64 < cLine := by have z := hr.units; omega
  have hu1 : (A0.deeper (envOfC "_law_deed" (defScope s__law_deed) s.heap.objs.size (aF K "_law_deed") cdv)).units + 1 < cLine := by omega
  refine ⟨_, pss_cons (ps_set (i := 4) nd rfl (.inl rfl) (qc (ok_l_take T) (hr.mono (by decide)) rfl T.g__law_take (pa_cons (pv 0) (pa_cons pe_int pa_nil))))
    (pss_cons (ps_asg (qc (ok_l_drawn T) (hr.mono (by decide)) rfl T.g__law_drawn (pa_cons (pv 0) (pa_cons (pv 3) pa_nil))) (pg_tup rfl (pgs_cons (pg_name (i := 5) nd rfl (.inl rfl)) (pgs_cons (pg_name (i := 6) nd rfl (.inl rfl)) (pgs_cons (pg_name (i := 7) nd rfl (.inl rfl)) pgs_nil)))))
    (pss_cons (ps_set (i := 8) nd rfl (.inl rfl) (pe_op op_sub pe_int (qlen T.f_len (pe_dget hu1 (pv 3) pe_str (fun _ _ => rfl)))))
    (pss_cons (ps_if (PW.pt (pw_and (pt_cmpR op_eq (pv 4) pe_int (nomark _)) (pw_and1 (pt_cmpR op_gt (qlen T.f_len (qc (ok_l_kept T) (hr.mono (by decide)) rfl T.g__law_kept (pa_cons (pv 3) pa_nil))) pe_int (nomark _)))))
      (pss_cons (ps_asg pe_bl (pg_sub (pe_dget hu1 (pv 3) pe_str (fun _ _ => rfl)) (pv 5) set_list))
      (pss_cons (ps_expr (qm (pv 1) (T.clR false) (T.mR_let_go false) (ok_R_let_go T false (okb_freed T false)) hr (pa_cons (pv 5) pa_nil)))
      (pss_cons (ps_expr (qm (pv 2) (T.clR true) (T.mR_let_go true) (ok_R_let_go T true (okb_freed T true)) hr (pa_cons (pv 5) pa_nil)))
      (pss_one (ps_ret pe_bl))))) pss_nil)
    (pss_cons (ps_if (pt_cmpR op_eq (pv 4) pe_int (nomark _))
      (pss_cons (ps_setLc (i := 9) (own := [("_law_k", 10)]) (g := gName 10) (tt := tYes) rfl nd rfl rfl rfl (pi_range1 rfl T.f_range (pa_cons (pe_callB (call_min2 rfl) rfl T.f_min boot_minB (pa_cons (pv 8) (pa_cons (qc (ok_l_take T) (hr.mono (by decide)) rfl T.g__law_take (pa_cons (pv 0) (pa_cons pe_int pa_nil))) pa_nil))) pa_nil))
        (blkOk_by (N := ["_law_box_here", "_law_first", "_law_second", "_law_model_here", "_law_way", "_law_make", "_law_place", "_law_worth_here", "_law_room", "_law_places", "_law_k", "_law_changes", "_law_one", "_law_other", "_law_start", "_law_number"]) (sc := defScope s__law_deed) (by decide +kernel))
        (fun _ _ _ _ _ => pg_name (i := 10) nd rfl (.inl rfl)) (fun _ _ _ _ _ => pts_nil) (fun _ _ _ _ _ => qc (ok_l_take T) (hr.mono (by decide)) rfl T.g__law_take (pa_cons (pv 0) (pa_cons (qm0 (pv 1) (T.clR false) (T.mR_size false) (ok_R_size T false) (hr.mono (by decide))) pa_nil))))
      (pss_cons (ps_setLc (i := 11) (own := [("_law_one", 12)]) (g := gName 12) (tt := tYes) rfl nd rfl rfl rfl (pi_list (pv 9))
        (blkOk_by (N := ["_law_box_here", "_law_first", "_law_second", "_law_model_here", "_law_way", "_law_make", "_law_place", "_law_worth_here", "_law_room", "_law_places", "_law_k", "_law_changes", "_law_one", "_law_other", "_law_start", "_law_number"]) (sc := defScope s__law_deed) (by decide +kernel))
        (fun _ _ _ _ _ => pg_name (i := 12) nd rfl (.inl rfl)) (fun _ _ _ _ _ => pts_nil) (fun _ _ _ _ _ => pe_tup (pa_cons (pv 12) (pa_cons (qc (ok_l_worth T) (hr.mono (by decide)) rfl T.g__law_worth (pa_cons (pv 0) pa_nil)) pa_nil))))
      (pss_cons (ps_for PassesOwn.never rfl (pi_list (pv 11)) (pg_tup rfl (pgs_cons (pg_name (i := 12) nd rfl (.inl rfl)) (pgs_cons (pg_name (i := 13) nd rfl (.inl rfl)) pgs_nil)))
        (pss_one (ps_set (i := 5) nd rfl (.inl rfl) (qc (ok_l_grown T) (hr.mono (by decide)) rfl T.g__law_grown (pa_cons (pv 3) (pa_cons (pv 5) (pa_cons (pv 12) (pa_cons (pv 13) pa_nil))))))))
      (pss_cons (ps_set (i := 14) nd rfl (.inl rfl) (pe_ifExp (pt_cmpR (op_eqD hu) (pv 11) (pe_lst pa_nil) (nomark _)) (pv 5) (qix (pe_dget hu1 (pv 3) pe_str (fun _ _ => rfl)) (pe_op op_add (pe_op op_sub (pv 5) (qlen T.f_len (pv 11))) pe_int))))
      (pss_one (ps_ret (pe_cmpR op_eq (pe_callB (call_rep hga hu) rfl T.f_repr boot_repr (pa_cons (qm (pv 1) (T.clR false) (T.mR_put_all false) (ok_R_put_all T false (okb_store T false)) (hr.mono (by decide)) (pa_cons (pv 14) (pa_cons (pe_callTy (cl_list (K := K) rfl) rfl T.f_list boot_listT (pa_cons (pv 11) pa_nil)) pa_nil))) pa_nil))
        (pe_callB (call_rep hga hu) rfl T.f_repr boot_repr (pa_cons (qm (pv 2) (T.clR true) (T.mR_put_all true) (ok_R_put_all T true (okb_store T true)) (hr.mono (by decide)) (pa_cons (pv 14) (pa_cons (pe_callTy (cl_list (K := K) rfl) rfl T.f_list boot_listT (pa_cons (pv 11) pa_nil)) pa_nil))) pa_nil)) (nomark _)))))))) pss_nil)
    (pss_cons (ps_if (pt_cmpR op_eq (pv 8) pe_int (nomark _)) (pss_one (ps_ret pe_bl)) pss_nil)
    (pss_cons (ps_set (i := 15) nd rfl (.inl rfl) (qc (ok_l_grown T) (hr.mono (by decide)) rfl T.g__law_grown (pa_cons (pv 3) (pa_cons (pv 5) (pa_cons (pv 6) (pa_cons (pv 7) pa_nil))))))
    (pss_one (ps_ret (pe_and (pe_cmpR op_eq (qm (pv 1) (T.clR false) (T.mR_put false) (ok_R_put T false (okb_store T false)) (hr.mono (by decide)) (pa_cons (pv 5) (pa_cons (pv 6) (pa_cons (pv 7) pa_nil)))) (pv 15) (nomark _))
      (pe_one (pe_cmpR op_eq (qm (pv 2) (T.clR true) (T.mR_put true) (ok_R_put T true (okb_store T true)) (hr.mono (by decide)) (pa_cons (pv 5) (pa_cons (pv 6) (pa_cons (pv 7) pa_nil)))) (pv 15) (nomark _)))))))))))), ?_⟩
  have ok := w0.r1.ok
  have n64 := ok.n64
  have s16 := ok.s16
  have s1' := ok.s1
  have n1 := ok.n1
  -- way
  obtain ⟨o0, hB0, bo0⟩ := w0.bx
  refine ⟨_, rfl, B, 6, rfl, by decide, by decide, ⟨o0, hB0, bo0⟩, fun way o1 lway bo1 => ?_⟩
  have w1 := w0.box (keep_box (o := o1) hB0 bo0) ⟨o1, upd_same, bo1⟩
  have u1 := un_B (W1 := W1) (W2 := W2) (Wm := Wm) (keep_box (o := o1) hB0 bo0)
  generalize (upd H B o1) = H1 at w1 u1 ⊢
  -- drawn
  refine ⟨_, rfl, _, rfl, B, d, Wm, M, rfl, w1.bx, w1.md, ok, w1.bm, fun k x v t H2 kk lx okv nt ht b2 k2 => ?_⟩
  have w2 := w1.box k2 b2
  have u2 := u1.trans (un_B (W1 := W1) (W2 := W2) (Wm := Wm) k2)
  refine ⟨t, _, rfl, SqT.of ht, rfl, _, _, rfl, _, _, rfl, _, _, rfl, rfl, ?_⟩
  -- room
  obtain ⟨A2, e2, M2⟩ := id w2.md
  refine ⟨_, rfl, A2.d, _, by rw [← e2], M2.g_own, _, _, rfl, .inl (SqL.of M2.ho), _, _, rfl, rfl, ?_⟩
  rw [rng_len]
  refine ⟨_, rfl, rfl, _, rfl, ?_⟩
  by_cases way0 : way = 0
  · refine iteY (by rw [way0]; rfl) ?_
    refine ⟨_, rfl, d, Wm, M, rfl, w2.md, n64, fun l H3 nl3 hl3 s3 => ⟨_, _, rfl, .inl (SqL.of hl3), _, _, rfl, rfl, _, rfl, ?_⟩⟩
    have w3 := w2.same s3
    have u3 := u2.trans (Keep.same s3)
    by_cases two : 2 ≤ (keptL M).length
    · refine iteY (by rw [nl_len]; omega) ?_
      obtain ⟨A3, e3, M3⟩ := id w3.md
      refine ⟨_, rfl, A3.d, _, by rw [← e3], M3.g_gone, _, rfl, A3.ag, _, _, k, rfl, rfl, M3.hg, ?_, ?_⟩
      · rw [rng_len]; exact ixN_n kk.1
      rw [rng_set]
      have md4 := MdAt.let (m := k) e3 M3
      have k4 : Keep Wm H3 (upd H3 A3.ag (.lst ((List.range M.n).map fun j => if j = k then V.bl true else gonV M.gone j))) := Keep.refl.set (.inl (by rw [M3.rg]; decide)) M3.hg id
      generalize (upd H3 A3.ag (.lst ((List.range M.n).map fun j => if j = k then V.bl true else gonV M.gone j))) = H4 at md4 k4 ⊢
      have R14 := w3.r1.keep k4 w3.d1m.symm
      have R24 := w3.r2.keep k4 w3.d2m.symm
      obtain ⟨dx, t0, aw, ag, c, x1, x2, here, hp⟩ := R14.hp
      refine ⟨_, rfl, _, _, _, rfl, hp, fsR_no (by decide +kernel), _, rfl, p1, k, W1, M, rfl, R14, kk, two, fun v5 H5 R15 k5 => ?_⟩
      have R25 := R24.keep k5 w0.d12
      obtain ⟨dx, t0, aw, ag, c, x1, x2, here, hp⟩ := R25.hp
      refine ⟨_, rfl, _, _, _, rfl, hp, fsR_no (by decide +kernel), _, rfl, p2, k, W2, M, rfl, R25, kk, two, fun v6 H6 R26 k6 => ?_⟩
      have fin := wd_join w3 k4 md4 R15 Grow.refl k5 R26 Grow.refl k6
      exact q W1 W2 (M.let_ k) H6 fin.1 Grow.refl Grow.refl (u3.trans fin.2)
    refine iteN (by rw [nl_len]; omega) ?_
    refine ⟨_, rfl, rfl, _, rfl, iteN (fun z => by have z' : (way : Int) = 1 := V.int.inj z; omega) ?_⟩
    refine ⟨_, rfl, rfl, _, rfl, ?_⟩
    by_cases full : M.n = 64
    · refine iteY (by show V.int ((64 : Int) - (M.n : Int)) = V.int 0; rw [full]; rfl) ?_
      exact q W1 W2 M H3 w3 Grow.refl Grow.refl u3
    refine iteN (fun z => full (by have z' : (64 : Int) - (M.n : Int) = 0 := V.int.inj z; omega)) ?_
    refine ⟨_, rfl, _, rfl, _, rfl, _, rfl, d, k, x, v, Wm, M, rfl, w3.md, ok, fun Hg mdg kg => ?_⟩
    have R1g := w3.r1.keep kg w3.d1m.symm
    have R2g := w3.r2.keep kg w3.d2m.symm
    obtain ⟨dx, t0, aw, ag, c, x1, x2, here, hp⟩ := R1g.hp
    refine ⟨_, rfl, _, _, _, rfl, hp, fsR_no (by decide +kernel), _, rfl, _, rfl, _, rfl, p1, k, x, v, W1, M, rfl, R1g, kk, lx, okv, by omega, fun W1' Hh R1h g1 k1h => ?_⟩
    have R2h := R2g.keep k1h w0.d12
    refine ⟨_, rfl, rfl, _, rfl, iteY rfl ?_⟩
    obtain ⟨dx, t0, aw, ag, c, x1, x2, here, hp⟩ := R2h.hp
    refine ⟨_, rfl, _, _, _, rfl, hp, fsR_no (by decide +kernel), _, rfl, _, rfl, _, rfl, p2, k, x, v, W2, M, rfl, R2h, kk, lx, okv, by omega, fun W2' Hi R2i g2 k2i => ?_⟩
    refine ⟨_, rfl, rfl, ?_⟩
    have fin := wd_join w3 kg mdg R1h g1 k1h R2i g2 k2i
    exact bl_eq (q W1' W2' (M.put k x v) Hi fin.1 (fun b hb => (g1 b hb).imp_right fun z => u3.th b (kg.th b z)) (fun b hb => (g2 b hb).imp_right fun z => u3.th b (kg.th b (k1h.th b z))) (u3.trans fin.2)) (by simp)
  refine iteN (fun z => way0 (by have z' : (way : Int) = 0 := V.int.inj z; omega)) ?_
  refine ⟨_, rfl, rfl, _, rfl, ?_⟩
  by_cases way1 : way = 1
  · refine iteY (by rw [way1]; rfl) ?_
    -- places
    obtain ⟨o2, hB2, bo2⟩ := w2.bx
    refine ⟨_, rfl, _, rfl, B, 5, rfl, by decide, by decide, ⟨o2, hB2, bo2⟩, fun r o3 lr bo3 => ?_⟩
    have w3 := w2.box (keep_box (o := o3) hB2 bo2) ⟨o3, upd_same, bo3⟩
    have u3 := u2.trans (un_B (W1 := W1) (W2 := W2) (Wm := Wm) (keep_box (o := o3) hB2 bo2))
    generalize (upd H2 B o3) = H3 at w3 u3 ⊢
    obtain ⟨cn, ecn⟩ := int_nn (i := if (r : Int) < 64 - (M.n : Int) then (r : Int) else 64 - (M.n : Int)) (by split <;> omega)
    have cn4 : cn ≤ 4 ∧ M.n + cn ≤ 64 := by
      split at ecn <;> omega
    refine ⟨_, _, rfl, ?_⟩
    rw [ecn]
    refine ⟨_, rfl, by omega, by omega, fun D nD => ?_⟩
    rw [Int.toNat_natCast]
    have nD0 := u3.th _ nD
    have D0 := w3.new nD
    refine lc_range (fun i H4 => ∃ xs : List Nat, xs.length = i ∧ (∀ x ∈ xs, x < M.size) ∧ H4 D = some (.lst (nl xs)) ∧ Wd K H4 B p1 p2 d W1 W2 Wm M ∧ Keep (Un B W1 W2 Wm) H H4) ⟨[], rfl, (fun x hx => (nomatch hx)), upd_same, w3.same (Same.new (Same.refl _) nD), u3.new nD⟩ ?_ ?_
    · rintro i H4 hi ⟨xs, e1, e2', hD4, w4, u4⟩
      obtain ⟨dx, t0, aw, ag, c, x1, x2, here, hp⟩ := w4.r1.hp
      obtain ⟨o4, hB4, bo4⟩ := w4.bx
      refine ⟨rfl, _, rfl, _, rfl, _, _, _, rfl, hp, fsR_no (by decide +kernel), p1, M, rfl, w4.r1.rq, B, M.size, rfl, by omega, by omega, ⟨o4, hB4, bo4⟩, fun y o5 ly bo5 => ?_⟩
      have w5 := w4.box (keep_box (o := o5) hB4 bo4) ⟨o5, upd_same, bo5⟩
      have u5 := u4.trans (un_B (W1 := W1) (W2 := W2) (Wm := Wm) (keep_box (o := o5) hB4 bo4))
      have DB : D ≠ B := (un_zero D0).1
      have hD5 := (upd_ne DB (H := H4) (o := o5)).trans hD4
      refine ⟨_, hD5, (by rw [nl_len]; exact small1000 (by omega)), xs ++ [y], by rw [List.length_append, e1]; rfl, fun z hz => ?_, ?_, ?_, u5.set (.inr nD0) hD5 id⟩
      · rcases List.mem_append.mp hz with h | h
        · exact e2' z h
        · rw [List.mem_singleton.mp h]; exact ly
      · rw [upd_same, nl_append]; rfl
      · exact wd_off w5 D0 hD5 id
    rintro H4 ⟨xs, exs, lxs, hD4, w4, u4⟩
    -- changes
    refine ⟨_, rfl, D, rfl, ⟨_, SqL.of hD4⟩, fun E nE => ?_⟩
    have nE0 := u4.th _ nE
    have E0 := w4.new nE
    have ED : D ≠ E := ne_of_none hD4 nE
    refine lc_list (K := K) (a := D) (xs := nl xs) (fun i H5 => ∃ (ts : List Addr) (cs : List (Nat × Int)), ts.length = i ∧ Paired (fun t c => ChAt H5 M.size t c.1 c.2) ts cs ∧ H5 E = some (.lst (ts.map V.ref)) ∧ H5 D = some (.lst (nl xs)) ∧ Wd K H5 B p1 p2 d W1 W2 Wm M ∧ Keep (Un B W1 W2 Wm) H H5)
      ⟨[], [], rfl, .nil, upd_same, (upd_ne ED).trans hD4, w4.same (Same.new (Same.refl _) nE), u4.new nE⟩ ?_ ?_ ?_
    · rintro i H5 _ ⟨ts, cs, f1, f2, f3, f4, w5, u5⟩
      exact SqL.of f4
    · rintro i x5 H5 hx5 ⟨ts, cs, f1, f2, f3, f4, w5, u5⟩
      obtain ⟨y, hy, rfl⟩ := nl_at hx5
      have hi := (List.getElem?_eq_some_iff.mp hy).1
      have ly := lxs y (List.mem_of_getElem? hy)
      refine ⟨rfl, _, rfl, _, rfl, B, rfl, w5.bx, fun v5 H6 ok5 b6 k6 => ?_⟩
      have w6 := w5.box k6 b6
      have u6 := u5.trans (un_B (W1 := W1) (W2 := W2) (Wm := Wm) k6)
      have BE : onB B E = 0 := if_neg (un_zero E0).1
      have BD : onB B D = 0 := if_neg (un_zero D0).1
      have hE6 := k6.k _ _ f3 (.inl BE)
      have hD6 := k6.k _ _ f4 (.inl BD)
      refine ⟨(by show 2 ≤ sizeLine; decide), fun t6 nt6 => ?_⟩
      have s7 : Same H6 (upd H6 t6 (.tup [V.int (y : Int), V.int v5])) := Same.new (Same.refl _) nt6
      have t7 : upd H6 t6 (.tup [V.int (y : Int), V.int v5]) t6 = some (.tup [V.int (y : Int), V.int v5]) := upd_same
      have w7 := w6.same s7
      have u7 := u6.trans (Keep.same s7)
      generalize (upd H6 t6 (.tup [V.int (y : Int), V.int v5])) = H7 at s7 t7 w7 u7 ⊢
      have hE7 := s7 _ _ hE6
      have hD7 := s7 _ _ hD6
      have ne7 : ∀ {z : Addr} {l : List V}, H7 z = some (.tup l) → z ≠ E := fun h e => by rw [e, hE7] at h; cases h
      refine ⟨_, hE7, (by rw [List.length_map]; exact small1000 (by omega)), ts ++ [t6], cs ++ [(y, v5)], by rw [List.length_append, f1]; rfl, ?_, ?_, (upd_ne ED).trans hD7, wd_off w7 E0 hE7 id, u7.set (.inr nE0) hE7 id⟩
      · refine Paired.snoc (Paired.mapP f2 fun t c h => ?_) ?_
        · have h7 := s7 _ _ (k6.k _ _ h.1 (.inr trivial))
          exact ⟨(upd_ne (ne7 h7)).trans h7, h.2⟩
        · exact ⟨(upd_ne (ne7 t7)).trans t7, ly, ok5⟩
      · rw [upd_same, List.map_append]; rfl
    rintro H5 ⟨ts, cs, f1, f2, hE5, hD5, w5, u5⟩
    rw [nl_len, exs] at f1
    have lcs : cs.length = cn := (Paired.length f2).symm.trans f1
    have hcs : ∀ c ∈ cs, c.1 < M.size ∧ okW c.2 := fun c hc => by
      obtain ⟨i, hi, e⟩ := List.mem_iff_getElem.mp hc
      have hi' : i < ts.length := by omega
      obtain ⟨c', h1, _, h3, h4⟩ := ch_at f2 (List.getElem?_eq_getElem hi')
      rw [List.getElem?_eq_getElem hi, e] at h1
      cases h1
      exact ⟨h3, h4⟩
    have WmE : Wm E = 0 := (un_zero E0).2.2.2
    -- the model grows
    refine ⟨_, rfl, E, rfl, ⟨_, SqL.of hE5⟩, ?_⟩
    refine for_list (K := K) (a := E) (xs := ts.map V.ref) (fun i σ H6 => ∃ (v12 v13 : Option V), σ = [some (.ref B), some (.ref p1), some (.ref p2), some (.ref d), some (.int (way : Int)), some (.int ((lastM M k i : Nat) : Int)), some (.int (x : Int)), some (.int v), some (.int (64 - (M.n : Int))), some (.ref D), none, some (.ref E), v12, v13, none, none] ∧
        MdAt H6 d Wm (putA M k (cs.take i)) ∧ Keep Wm H5 H6 ∧ i ≤ cs.length) ⟨none, none, rfl, w5.md, Keep.refl, Nat.zero_le _⟩ ?_ ?_ ?_
    · rintro i σ H6 _ ⟨v12, v13, rfl, md6, k6, hi⟩
      exact SqL.of (k6.k _ _ hE5 (.inl WmE))
    · rintro i y6 σ H6 hy6 ⟨v12, v13, rfl, md6, k6, hi⟩
      obtain ⟨t6, ht6, rfl⟩ := ref_at hy6
      obtain ⟨c, hc, c1, c2, c3⟩ := ch_at f2 ht6
      have hi' := (List.getElem?_eq_some_iff.mp hc).1
      have c1' := k6.k _ _ c1 (.inr trivial)
      have ok6 := putA_ok (cs.take i) M k ok kk (fun c hc => hcs c (List.mem_of_mem_take hc)) (by rw [List.length_take]; omega)
      refine ⟨t6, _, rfl, SqT.of c1', rfl, _, _, rfl, _, _, rfl, rfl, ?_⟩
      refine ⟨_, rfl, _, rfl, _, rfl, _, rfl, d, lastM M k i, c.1, c.2, Wm, _, rfl, md6, ok6, fun H7 md7 k7 => ?_⟩
      have e1 : putA M k (cs.take (i + 1)) = (putA M k (cs.take i)).put (lastM M k i) c.1 c.2 := by
        rw [take_at hc, putA_snoc, List.length_take, Nat.min_eq_left (by omega)]
      have en : (putA M k (cs.take i)).n = lastM M k (i + 1) := by
        rw [putA_n, List.length_take, Nat.min_eq_left (by omega)]
        unfold lastM
        rw [if_neg (by omega)]; omega
      rw [en]
      exact ⟨_, _, rfl, by rw [e1]; exact md7, k6.trans k7, hi'⟩
    rintro σ H6 ⟨v12, v13, rfl, md6, k6, hi⟩
    rw [List.length_map, f1, ← lcs, List.take_length] at md6
    have et : (ts.map V.ref).length = cs.length := by rw [List.length_map, f1, lcs]
    rw [et]
    -- start
    have hE6 := k6.k _ _ hE5 (.inl WmE)
    have f6 : Paired (fun t c => ChAt H6 M.size t c.1 c.2) ts cs := Paired.mapP f2 fun t c h => ⟨k6.k _ _ h.1 (.inr trivial), h.2⟩
    refine ⟨_, rfl, (by show 0 ≤ sizeLine; decide), fun z nz => ?_⟩
    have s7 : Same H6 (upd H6 z (.lst [])) := Same.new (Same.refl _) nz
    have hz : upd H6 z (.lst []) z = some (.lst []) := upd_same
    generalize (upd H6 z (.lst [])) = H7 at s7 hz ⊢
    have k7 : Keep Wm H5 H7 := k6.trans (Keep.same s7)
    have md7 := md6.same s7
    have hE7 := s7 _ _ hE6
    have f7 : Paired (fun t c => ChAt H7 M.size t c.1 c.2) ts cs := Paired.mapP f6 fun t c h => ⟨s7 _ _ h.1, h.2⟩
    refine ⟨_, _, .lst (SqL.of hE7) (chD_dp f7), .lst (SqL.of hz) .nil, chD_shp cs, (by decide), _, rfl, ?_⟩
    rw [chD_eqv]
    obtain ⟨A7, e7, M7⟩ := id md7
    refine ite_both (R := _) ?_ (fun c0 r => ⟨_, by rw [c0]; rfl, r⟩) (fun c0 r => ⟨_, rfl, A7.d, _, by rw [← e7], M7.g_own, _, rfl, _, rfl, _, _, rfl, .inl (SqL.of hE7), _, _, rfl, rfl, _, _, rfl, rfl, _, _, _, .int (k : Int), rfl, rfl, SqL.of M7.ho, ?_, r⟩)
    case refine_2 =>
      show atI ((List.range (putA M k cs).n).map (ownV (putA M k cs).own)) (((lastM M k cs.length : Nat) : Int) - ((ts.map V.ref).length : Int) + 1) = _
      rw [et, show ((lastM M k cs.length : Nat) : Int) - (cs.length : Int) + 1 = ((M.n : Nat) : Int) by unfold lastM; rw [if_neg c0]; omega]
      refine (atI_nat (rng_at _ _ (by rw [putA_n]; omega))).trans ?_
      unfold ownV
      rw [if_neg (by omega), putA_ownN (by omega)]
    have W1E : W1 E = 0 := (un_zero E0).2.1
    have R17 := w5.r1.keep k7 w5.d1m.symm
    have R27 := w5.r2.keep k7 w5.d2m.symm
    obtain ⟨dx, t0, aw, ag, c, x1, x2, here, hp⟩ := R17.hp
    refine ⟨_, rfl, _, _, _, rfl, hp, fsR_no (by decide +kernel), _, rfl, _, rfl, E, _, rfl, .inl (SqL.of hE7), fun a na => ?_⟩
    have s8 : Same H7 (upd H7 a (.lst (ts.map V.ref))) := Same.new (Same.refl _) na
    have a8 : upd H7 a (.lst (ts.map V.ref)) a = some (.lst (ts.map V.ref)) := upd_same
    generalize (upd H7 a (.lst (ts.map V.ref))) = H8 at s8 a8 ⊢
    have k8 : Keep Wm H5 H8 := k7.trans (Keep.same s8)
    have f8 : Paired (fun t c => ChAt H8 M.size t c.1 c.2) ts cs := Paired.mapP f7 fun t c h => ⟨s8 _ _ h.1, h.2⟩
    have hE8 := s8 _ _ hE7
    refine ⟨p1, a, k, ts, cs, W1, M, rfl, R17.same s8, kk, a8, R17.has.new na, by omega, f8, by omega, fun W1' l9 H9 nl9 hl9 R19 g1 k9 => ?_⟩
    rw [nl_int] at hl9
    have nk := nice_list (ns := natI ((List.range cs.length).map fun i => M.n + i)) (natI_short (fun i hi => by
      obtain ⟨j, hj, rfl⟩ := List.mem_map.mp hi
      have := List.mem_range.mp hj
      omega)) (by unfold natI; rw [List.length_map, rng_len]; omega)
    refine .inl ⟨l9, _, 1, rfl, dp_list hl9, nk.1, by decide, ?_⟩
    have R29 := (R27.same s8).keep k9 w5.d12
    have hE9 := k9.k _ _ hE8 (.inl W1E)
    have f9 : Paired (fun t c => ChAt H9 M.size t c.1 c.2) ts cs := Paired.mapP f8 fun t c h => ⟨k9.k _ _ h.1 (.inr trivial), h.2⟩
    obtain ⟨dx, t0, aw, ag, c, x1, x2, here, hp⟩ := R29.hp
    refine ⟨_, rfl, _, _, _, rfl, hp, fsR_no (by decide +kernel), _, rfl, _, rfl, E, _, rfl, .inl (SqL.of hE9), fun a2 na2 => ?_⟩
    have s10 : Same H9 (upd H9 a2 (.lst (ts.map V.ref))) := Same.new (Same.refl _) na2
    have a10 : upd H9 a2 (.lst (ts.map V.ref)) a2 = some (.lst (ts.map V.ref)) := upd_same
    generalize (upd H9 a2 (.lst (ts.map V.ref))) = H10 at s10 a10 ⊢
    have f10 : Paired (fun t c => ChAt H10 M.size t c.1 c.2) ts cs := Paired.mapP f9 fun t c h => ⟨s10 _ _ h.1, h.2⟩
    refine ⟨p2, a2, k, ts, cs, W2, M, rfl, R29.same s10, kk, a10, R29.has.new na2, by omega, f10, by omega, fun W2' l11 H11 nl11 hl11 R211 g2 k11 => ?_⟩
    rw [nl_int] at hl11
    refine .inl ⟨l11, _, 1, rfl, dp_list hl11, nk.1, by decide, rfl, ?_⟩
    have fin := wd_join w5 k8 (md7.same s8) (R19.same s10) g1 (k9.trans (Keep.same s10)) R211 g2 k11
    exact bl_eq (q W1' W2' (putA M k cs) H11 fin.1 (fun b hb => (g1 b hb).imp_right fun z => u5.th b (k8.th b z)) (fun b hb => (g2 b hb).imp_right fun z => u5.th b (k8.th b (k9.th b (s10.free z)))) (u5.trans fin.2)) (by simp)
  refine iteN (fun z => way1 (by have z' : (way : Int) = 1 := V.int.inj z; omega)) ?_
  refine ⟨_, rfl, rfl, _, rfl, ?_⟩
  by_cases full : M.n = 64
  · refine iteY (by show V.int ((64 : Int) - (M.n : Int)) = V.int 0; rw [full]; rfl) ?_
    exact q W1 W2 M H2 w2 Grow.refl Grow.refl u2
  refine iteN (fun z => full (by have z' : (64 : Int) - (M.n : Int) = 0 := V.int.inj z; omega)) ?_
  refine ⟨_, rfl, _, rfl, _, rfl, _, rfl, d, k, x, v, Wm, M, rfl, w2.md, ok, fun Hg mdg kg => ?_⟩
  have R1g := w2.r1.keep kg w2.d1m.symm
  have R2g := w2.r2.keep kg w2.d2m.symm
  obtain ⟨dx, t0, aw, ag, c, x1, x2, here, hp⟩ := R1g.hp
  refine ⟨_, rfl, _, _, _, rfl, hp, fsR_no (by decide +kernel), _, rfl, _, rfl, _, rfl, p1, k, x, v, W1, M, rfl, R1g, kk, lx, okv, by omega, fun W1' Hh R1h g1 k1h => ?_⟩
  have R2h := R2g.keep k1h w0.d12
  refine ⟨_, rfl, rfl, _, rfl, iteY rfl ?_⟩
  obtain ⟨dx, t0, aw, ag, c, x1, x2, here, hp⟩ := R2h.hp
  refine ⟨_, rfl, _, _, _, rfl, hp, fsR_no (by decide +kernel), _, rfl, _, rfl, _, rfl, p2, k, x, v, W2, M, rfl, R2h, kk, lx, okv, by omega, fun W2' Hi R2i g2 k2i => ?_⟩
  refine ⟨_, rfl, rfl, ?_⟩
  have fin := wd_join w2 kg mdg R1h g1 k1h R2i g2 k2i
  exact bl_eq (q W1' W2' (M.put k x v) Hi fin.1 (fun b hb => (g1 b hb).imp_right fun z => u2.th b (kg.th b z)) (fun b hb => (g2 b hb).imp_right fun z => u2.th b (kg.th b (k1h.th b z))) (u2.trans fin.2)) (by simp)
end
end MK

set_option Elab.async false
set_option linter.all false
set_option maxRecDepth 100000
set_option maxHeartbeats 4000000
/-! law -/
namespace MK
open PySem PySem.Spec PyProof.Rows L2
/-- the script stands and is nobody's -/
def Scr (K : PySem.W.Frag) (H : Hp) (U : Ow) (l : Addr) (xs : List V) : Prop := (∀ H', SqL K H' l xs) ∨ (Rd H l (.lst xs) ∧ U l = 0)
section
variable {K : PySem.W.Frag} {H H' : Hp} {U U' : Ow} {l : Addr} {xs : List V}
theorem rd_some (r : Rd H l (.lst xs)) : H l ≠ none := by
  rcases r with r | ⟨o, r⟩
  · rw [r]; exact fun z => nomatch z
  · rw [r]; exact fun z => nomatch z
theorem Scr.seq (s : Scr K H U l xs) : SqL K H l xs := s.elim (fun h => h H) fun h => .inl h.1
theorem Scr.keep (s : Scr K H U l xs) (k : Keep U H H') : Scr K H' U l xs := s.imp id fun ⟨r, u⟩ => ⟨r.imp (fun e => k.k _ _ e (.inl u)) fun ⟨o, e⟩ => ⟨o, k.k _ _ e (.inl u)⟩, u⟩
/-- whose is told anew -/
theorem Scr.to (s : Scr K H U l xs) (h : H l ≠ none → U l = 0 → U' l = 0) : Scr K H U' l xs := s.imp id fun ⟨r, u⟩ => ⟨r, h (rd_some r) u⟩
theorem Scr.grow (s : Scr K H U l xs) (k : Keep U H H') (h : H l ≠ none → U l = 0 → U' l = 0) : Scr K H' U' l xs := (s.keep k).elim .inl fun r => by
  rcases s with z | ⟨r0, u⟩
  · exact .inl z
  · exact .inr ⟨r.1, h (rd_some r0) u⟩
theorem Scr.of (s : SqL K H l xs) (h : H l ≠ none → U l = 0) : Scr K H U l xs := by
  rcases s with r | r
  · exact .inr ⟨r, h (rd_some r)⟩
  · exact .inl fun _ => .inr r
end
theorem un_grow {B : Addr} {W1 W2 Wm W1' W2' : Ow} {H : Hp} {l : Addr} (h : H l ≠ none) (u : Un B W1 W2 Wm l = 0) (g1 : Grow W1 W1' H) (g2 : Grow W2 W2' H) : Un B W1' W2' Wm l = 0 := by
  obtain ⟨a1, a2, a3, a4⟩ := un_zero u
  refine un_of a1 ?_ ?_ a4
  · by_cases z : W1' l = 0
    · exact z
    · rcases g1 l z with y | y
      · exact absurd a2 y
      · exact absurd y h
  · by_cases z : W2' l = 0
    · exact z
    · rcases g2 l z with y | y
      · exact absurd a3 y
      · exact absurd y h
theorem not_new {W : Ow} {H : Hp} (h : ∀ y, W y ≠ 0 → H y = none) {b : Addr} (hb : H b ≠ none) : W b = 0 := by
  by_cases z : W b = 0
  · exact z
  · exact absurd (h b z) hb
section
variable {P : Program} {w : World} {K : PySem.W.Frag} {mg : Str → Option Value} {base : Heap}
def spLaw (K : PySem.W.Frag) : Sp := fun vs H Q _ => ∃ (l : Addr) (ns : List Int), vs = [.ref l] ∧ SqL K H l (ns.map V.int) ∧ ns.length ≤ 1000 ∧ ∀ H', Q (.bl true) H'
theorem ok_law (T : Tx K mg) : FnG P w K mg base 11 (aF K "law") ["_law_script"] (spLaw K) := by
  refine FnG.mk' T.d_law c_law (fun vs H Q E h => ?_) (fun _ _ _ _ _ _ us hl => match us, hl with | [_], _ => rfl) (fun cdv A0 outer s H vs Q hg hr h => ?_)
  · obtain ⟨l, ns, rfl, _⟩ := h; rfl
  obtain ⟨l, ns, rfl, hl, nsl, q⟩ := h
  have nd := c_law.nd
  have hga : GA (A0.deeper (envOfC "law" (defScope s_law) s.heap.objs.size (aF K "law") cdv)) := hg
  have hu : (A0.deeper (envOfC "law" (defScope s_law) s.heap.objs.size (aF K "law") cdv)).units + 64 < cLine := by have z := hr.units; omega
  refine ⟨_, pss_cons (ps_set (i := 1) nd rfl (.inl rfl) (qc (ok_l_box T) (hr.mono (by decide)) rfl T.g__law_box (pa_cons (qc (ok_l_cell T) (hr.mono (by decide)) rfl T.g__law_cell (pa_cons (pv 0) (pa_cons pe_int pa_nil))) pa_nil)))
    (pss_cons (ps_set (i := 2) nd rfl (.inl rfl) (qc (ok_l_worths T) (hr.mono (by decide)) rfl T.g__law_worths (pa_cons (pv 1) pa_nil)))
    (pss_cons (ps_set (i := 3) nd rfl (.inl rfl) (qc (ok_l_model T) (hr.mono (by decide)) rfl T.g__law_model (pa_cons (pv 2) pa_nil)))
    (pss_cons (ps_set (i := 4) nd rfl (.inl rfl) (qk (T.mkR false) (ok_R_init T false (okb_begin T false)) (hr.mono (by decide)) rfl T.g_Plain (pa_cons (pv 2) pa_nil)))
    (pss_cons (ps_set (i := 5) nd rfl (.inl rfl) (qk (T.mkR true) (ok_R_init T true (okb_begin T true)) (hr.mono (by decide)) rfl T.g_Turned (pa_cons (pv 2) pa_nil)))
    (pss_cons (ps_for PassesOwn.never rfl (pi_range2 rfl T.f_range (pa_cons pe_int (pa_cons (pe_callB (call_max2 rfl) rfl T.f_max boot_maxB (pa_cons pe_int (pa_cons (pe_callB (call_min2 rfl) rfl T.f_min boot_minB (pa_cons (qlen T.f_len (pv 0)) (pa_cons pe_int pa_nil))) pa_nil))) pa_nil))) (pg_name (i := 6) nd rfl (.inl rfl))
      (pss_cons (ps_set (i := 1) nd rfl (.inl rfl) (qc (ok_l_box T) (hr.mono (by decide)) rfl T.g__law_box (pa_cons (qc (ok_l_cell T) (hr.mono (by decide)) rfl T.g__law_cell (pa_cons (pv 0) (pa_cons (pv 6) pa_nil))) pa_nil)))
      (pss_cons (ps_if (pt_cmpR op_eq (qc (ok_l_take T) (hr.mono (by decide)) rfl T.g__law_take (pa_cons (pv 1) (pa_cons pe_int pa_nil))) pe_int (nomark _))
        (pss_one (ps_par (i := 4) (j := 5) rfl nd rfl rfl (by decide) rfl rfl (pa_cons (qm0 (pv 4) (T.clR false) (T.mR_copied false) (okb_copied T false) (hr.mono (by decide))) (pa_cons (qm0 (pv 5) (T.clR true) (T.mR_copied true) (okb_copied T true) (hr.mono (by decide))) pa_nil)) rfl)) pss_nil)
      (pss_cons (ps_if (pt_not (pt_val (qcg (ok_l_deed T) hga hr rfl T.g__law_deed (pa_cons (pv 1) (pa_cons (pv 4) (pa_cons (pv 5) (pa_cons (pv 3) pa_nil)))) (fun _ _ => Iff.rfl)))) (pss_one (ps_ret pe_bl)) pss_nil)
      (pss_one (ps_for PassesOwn.never rfl (pi_range1 rfl T.f_range (pa_cons pe_int pa_nil)) (pg_name (i := 7) nd rfl (.inl rfl))
        (pss_one (ps_if (pt_not (pt_val (qcg (ok_l_same T) hga (hr.mono (by decide)) rfl T.g__law_same (pa_cons (pv 1) (pa_cons (pv 4) (pa_cons (pv 5) (pa_cons (pv 3) pa_nil)))) (fun _ _ => Iff.rfl)))) (pss_one (ps_ret pe_bl)) pss_nil))))))))
    (pss_cons (ps_set (i := 8) nd rfl (.inl rfl) (qc (ok_l_kept T) (hr.mono (by decide)) rfl T.g__law_kept (pa_cons (pv 3) pa_nil)))
    (pss_cons (ps_for PassesOwn.never rfl (pi_list (pe_op op_cat (pv 8) (pe_revL (pv 8)))) (pg_name (i := 9) nd rfl (.inl rfl))
      (pss_one (ps_if (PW.pt (pw_or (pt_cmpR op_ne (pe_callB (call_rep hga hu) rfl T.f_repr boot_repr (pa_cons (qm (pv 5) (T.clR true) (T.mR_row true) (ok_R_row T true (okb_worths T true)) (hr.mono (by decide)) (pa_cons (pv 9) pa_nil)) pa_nil))
          (pe_callB (call_rep hga hu) rfl T.f_repr boot_repr (pa_cons (qm (pv 4) (T.clR false) (T.mR_row false) (ok_R_row T false (okb_worths T false)) (hr.mono (by decide)) (pa_cons (pv 9) pa_nil)) pa_nil)) (nomark _))
        (pw_or1 (pt_cmpR (op_neD hu) (qm (pv 4) (T.clR false) (T.mR_row false) (ok_R_row T false (okb_worths T false)) (hr.mono (by decide)) (pa_cons (pv 9) pa_nil)) (qc (ok_l_line_of T) (hr.mono (by decide)) rfl T.g__law_line_of (pa_cons (pv 3) (pa_cons (pv 9) pa_nil))) (nomark _)))))
        (pss_one (ps_ret pe_bl)) pss_nil)))
    (pss_one (ps_ret pe_bl))))))))), ?_⟩
  -- box
  refine ⟨_, rfl, l, ns, 0, rfl, hl, fun c0 => ⟨c0, rfl, fun B o nB bo => ?_⟩⟩
  have s1 : Same H (upd H B o) := Same.new (Same.refl _) nB
  have b1 : BoxAt (upd H B o) B := ⟨o, upd_same, bo⟩
  generalize (upd H B o) = H1 at s1 b1 ⊢
  -- worths
  refine ⟨_, rfl, B, rfl, b1, fun ws lw H2 ws1 ws16 okw nlw hlw b2 k2 => ?_⟩
  -- model
  refine ⟨_, rfl, lw, ws, rfl, hlw, fun d Wm H3 md3 frm s3 => ?_⟩
  -- first
  refine ⟨_, rfl, fun x dx nx ndx nex => ?_⟩
  have si3 : Same H3 (upd (upd H3 dx (.own x)) x (.ins (CR K false) dx [])) := Same.new (Same.new (Same.refl _) ndx) (by rw [upd_ne nex.symm]; exact nx)
  have ok0 := M0_ok ws1 ws16 okw
  refine ⟨x, lw, dx, ws, rfl, upd_same, si3 _ _ (s3 _ _ hlw), ws1, ws16, okw, fun A1 W1 H4 e1 C1 Y1 fr1 sb1 => ⟨rfl, ?_⟩⟩
  have s4 : Same H3 H4 := fun y o e => sb1 _ _ (si3 _ _ e) (ne_of_none e nx)
  have R14 := RowAt.of C1 Y1 ok0
  rw [e1] at R14
  have fr1' : ∀ y, W1 y ≠ 0 → H3 y = none := fun y h => (fr1 y h).elim (fun z => by rw [z]; exact nx) fun z => si3.free z
  -- second
  refine ⟨_, rfl, fun x' dx' nx' ndx' nex' => ?_⟩
  have si4 : Same H4 (upd (upd H4 dx' (.own x')) x' (.ins (CR K true) dx' [])) := Same.new (Same.new (Same.refl _) ndx') (by rw [upd_ne nex'.symm]; exact nx')
  refine ⟨x', lw, dx', ws, rfl, upd_same, si4 _ _ (s4 _ _ (s3 _ _ hlw)), ws1, ws16, okw, fun A2 W2 H5 e2 C2 Y2 fr2 sb2 => ⟨rfl, ?_⟩⟩
  have s5 : Same H4 H5 := fun y o e => sb2 _ _ (si4 _ _ e) (ne_of_none e nx')
  have R25 := RowAt.of C2 Y2 ok0
  rw [e2] at R25
  have fr2' : ∀ y, W2 y ≠ 0 → H4 y = none := fun y h => (fr2 y h).elim (fun z => by rw [z]; exact nx') fun z => si4.free z
  have some_of : ∀ {Ha Hb : Hp} {y : Addr}, Same Ha Hb → Ha y ≠ none → Hb y ≠ none := fun sm h e => h (sm.free e)
  have nB2 : H2 B ≠ none := by obtain ⟨_, e, _⟩ := b2; rw [e]; exact fun z => nomatch z
  have w5 : Wd K H5 B x x' d W1 W2 Wm (M0 ws) := by
    refine ⟨((b2.same s3).same s4).same s5, not_new fr1' (some_of s3 nB2), not_new fr2' (some_of s4 (some_of s3 nB2)), not_new frm nB2, R14.same s5, R25, (md3.same s4).same s5, fun b => ?_, fun b => ?_, fun b => ?_⟩
    · by_cases z : W1 b = 0
      · exact .inl z
      · exact .inr (not_new fr2' (R14.has b z))
    · by_cases z : Wm b = 0
      · exact .inr z
      · exact .inl (not_new fr1' (md3.has b z))
    · by_cases z : Wm b = 0
      · exact .inr z
      · exact .inl (not_new fr2' (some_of s4 (md3.has b z)))
  have sc5 : Scr K H5 (Un B W1 W2 Wm) l (ns.map V.int) := by
    have sc0 : Scr K H (Un B W1 W2 Wm) l (ns.map V.int) := Scr.of hl fun h => by
      have h1 := some_of s1 h
      have lB : l ≠ B := fun z => h (by rw [z]; exact nB)
      have h2 : H2 l ≠ none := fun e => h1 (k2.th _ e)
      exact un_of lB (not_new fr1' (some_of s3 h2)) (not_new fr2' (some_of s4 (some_of s3 h2))) (not_new frm h2)
    exact sc0.keep (((Keep.same s1).trans (un_B k2)).trans (Keep.same fun a o e => s5 _ _ (s4 _ _ (s3 _ _ e))))
  -- the loop
  refine ⟨_, rfl, _, _, rfl, .inl sc5.seq, _, _, rfl, _, _, rfl, _, _, rfl, ⟨by decide, by decide, ?_, ?_⟩, ?_⟩
  · rw [List.length_map]; split <;> split <;> omega
  · rw [List.length_map]; split <;> split <;> omega
  refine for_range (fun i σ H6 => ∃ (B p1 p2 : Addr) (W1 W2 : Ow) (M : Mo) (v6 v7 : Option V), σ = [some (.ref l), some (.ref B), some (.ref lw), some (.ref d), some (.ref p1), some (.ref p2), v6, v7, none, none] ∧
      Wd K H6 B p1 p2 d W1 W2 Wm M ∧ Scr K H6 (Un B W1 W2 Wm) l (ns.map V.int)) ⟨B, x, x', W1, W2, M0 ws, none, none, rfl, w5, sc5⟩ ?_ ?_
  · rintro i σ H6 hi ⟨B, p1, p2, W1, W2, M, v6, v7, rfl, w6, sc6⟩
    refine ⟨_, rfl, _, rfl, l, ns, 1 + i, by rfl, sc6.seq, fun c => ⟨c, rfl, fun B' o' nB' bo' => ?_⟩⟩
    have s7 : Same H6 (upd H6 B' o') := Same.new (Same.refl _) nB'
    have h7 : upd H6 B' o' B' = some o' := upd_same
    generalize (upd H6 B' o') = H7 at s7 h7 ⊢
    have w7 : Wd K H7 B' p1 p2 d W1 W2 Wm M := ⟨⟨o', h7, bo'⟩, w6.r1.has.new nB', w6.r2.has.new nB', w6.md.has.new nB', w6.r1.same s7, w6.r2.same s7, w6.md.same s7, w6.d12, w6.d1m, w6.d2m⟩
    have sc7 : Scr K H7 (Un B' W1 W2 Wm) l (ns.map V.int) := sc6.grow (Keep.same s7) fun h u => by
      obtain ⟨_, a2, a3, a4⟩ := un_zero u
      exact un_of (fun z => h (by rw [z]; exact nB')) a2 a3 a4
    refine ⟨_, rfl, B', 4, rfl, by decide, by decide, ⟨o', h7, bo'⟩, fun r o8 lr bo8 => ?_⟩
    have w8 := w7.box (keep_box (o := o8) h7 bo') ⟨o8, upd_same, bo8⟩
    have sc8 := sc7.keep (un_B (keep_box (o := o8) h7 bo'))
    generalize (upd H7 B' o8) = H8 at w8 sc8 ⊢
    refine ⟨rfl, _, rfl, ?_⟩
    refine ite_both (R := ∀ (p1 p2 : Addr) (W1 W2 : Ow) (H9 : Hp), Wd K H9 B' p1 p2 d W1 W2 Wm M → Scr K H9 (Un B' W1 W2 Wm) l (ns.map V.int) →
      (_ : L2.St → Hp → Prop) [some (V.ref l), some (.ref B'), some (.ref lw), some (.ref d), some (.ref p1), some (.ref p2), some (.int (1 + (i : Int))), v7, none, none] H9) ?_ (fun c rr => ?_) (fun c rr => rr p1 p2 W1 W2 H8 w8 sc8)
    · intro p1 p2 W1 W2 H9 w9 sc9
      refine ⟨_, rfl, _, rfl, _, rfl, _, rfl, B', p1, p2, d, W1, W2, Wm, M, rfl, w9, fun W1' W2' M' H10 w10 g1 g2 k10 => ⟨_, rfl, iteF ?_⟩⟩
      have sc10 : Scr K H10 (Un B' W1' W2' Wm) l (ns.map V.int) := sc9.grow k10 fun h u => un_grow h u g1 g2
      refine ⟨_, rfl, by decide, by decide, ?_⟩
      refine for_range (fun j σ H11 => ∃ v7, σ = [some (.ref l), some (.ref B'), some (.ref lw), some (.ref d), some (.ref p1), some (.ref p2), some (.int (1 + (i : Int))), v7, none, none] ∧
          Wd K H11 B' p1 p2 d W1' W2' Wm M' ∧ Scr K H11 (Un B' W1' W2' Wm) l (ns.map V.int)) ⟨v7, rfl, w10, sc10⟩ ?_ ?_
      · rintro j σ H11 hj ⟨v7, rfl, w11, sc11⟩
        refine ⟨_, rfl, _, rfl, _, rfl, _, rfl, B', p1, p2, d, W1', W2', Wm, M', rfl, w11, fun H12 w12 k12 => ⟨_, rfl, iteF ?_⟩⟩
        exact ⟨_, rfl, w12, sc11.keep k12⟩
      · rintro σ H11 ⟨v7, rfl, w11, sc11⟩
        exact ⟨B', p1, p2, W1', W2', M', _, _, rfl, w11, sc11⟩
    · obtain ⟨dx, t0, aw, ag, c, x1, x2, here, hp⟩ := w8.r1.hp
      refine ⟨_, rfl, _, _, _, rfl, hp, fsR_no (by decide +kernel), p1, W1, M, rfl, w8.r1, fun p1' W1' H9 R19 fr19 s9 => ?_⟩
      have r29 := w8.r2.same s9
      obtain ⟨dx, t0, aw, ag, c, x1, x2, here, hp⟩ := r29.hp
      refine ⟨_, rfl, _, _, _, rfl, hp, fsR_no (by decide +kernel), p2, W2, M, rfl, r29, fun p2' W2' H10 R210 fr210 s10 => ⟨_, _, rfl, ?_⟩⟩
      have nB8 : H8 B' ≠ none := by obtain ⟨_, e, _⟩ := w8.bx; rw [e]; exact fun z => nomatch z
      have w10 : Wd K H10 B' p1' p2' d W1' W2' Wm M := by
        refine ⟨(w8.bx.same s9).same s10, not_new fr19 nB8, not_new fr210 (some_of s9 nB8), w8.bm, R19.same s10, R210, (w8.md.same s9).same s10, fun b => ?_, fun b => ?_, fun b => ?_⟩
        · by_cases z : W1' b = 0
          · exact .inl z
          · exact .inr (not_new fr210 (R19.has b z))
        · by_cases z : Wm b = 0
          · exact .inr z
          · exact .inl (not_new fr19 (w8.md.has b z))
        · by_cases z : Wm b = 0
          · exact .inr z
          · exact .inl (not_new fr210 (some_of s9 (w8.md.has b z)))
      refine rr p1' p2' W1' W2' H10 w10 (sc8.grow (Keep.same fun a o e => s10 _ _ (s9 _ _ e)) fun h u => ?_)
      obtain ⟨a1, _, _, a4⟩ := un_zero u
      exact un_of a1 (not_new fr19 h) (not_new fr210 (some_of s9 h)) a4
  · rintro σ H6 ⟨B, p1, p2, W1, W2, M, v6, v7, rfl, w6, sc6⟩
    have ok := w6.r1.ok
    have n64 := ok.n64
    have s16 := ok.s16
    have kle := keptL_le (M := M)
    refine ⟨_, rfl, d, Wm, M, rfl, w6.md, n64, fun kl H7 nkl hkl s7 => ?_⟩
    have w7 := w6.same s7
    refine ⟨_, rfl, _, rfl, kl, _, rfl, SqL.of hkl, fun r nr => ?_⟩
    rw [nl_reverse]
    have s8 : Same H7 (upd H7 r (.lst (nl (keptL M).reverse))) := Same.new (Same.refl _) nr
    have r8 : upd H7 r (.lst (nl (keptL M).reverse)) r = some (.lst (nl (keptL M).reverse)) := upd_same
    generalize (upd H7 r (.lst (nl (keptL M).reverse))) = H8 at s8 r8 ⊢
    have w8 := w7.same s8
    refine ⟨kl, r, _, _, rfl, rfl, s8 _ _ hkl, r8, (by rw [nl_len, nl_len, List.length_reverse]; exact Nat.le_of_lt (small1000 (by omega))), fun p9 np9 => ?_⟩
    rw [← nl_append]
    have s9 : Same H8 (upd H8 p9 (.lst (nl (keptL M ++ (keptL M).reverse)))) := Same.new (Same.refl _) np9
    have h9 : upd H8 p9 (.lst (nl (keptL M ++ (keptL M).reverse))) p9 = some (.lst (nl (keptL M ++ (keptL M).reverse))) := upd_same
    generalize (upd H8 p9 (.lst (nl (keptL M ++ (keptL M).reverse)))) = H9 at s9 h9 ⊢
    have w9 := w8.same s9
    have W1p := w8.r1.has.new np9
    have W2p := w8.r2.has.new np9
    refine ⟨p9, rfl, ⟨_, SqL.of h9⟩, ?_⟩
    refine for_list (K := K) (a := p9) (xs := nl (keptL M ++ (keptL M).reverse)) (fun i σ H10 => ∃ v9, σ = [some (.ref l), some (.ref B), some (.ref lw), some (.ref d), some (.ref p1), some (.ref p2), v6, v7, some (.ref kl), v9] ∧
        Wd K H10 B p1 p2 d W1 W2 Wm M ∧ H10 p9 = some (.lst (nl (keptL M ++ (keptL M).reverse)))) ⟨none, rfl, w9, h9⟩ ?_ ?_ ?_
    · rintro i σ H10 _ ⟨v9, rfl, w10, h10⟩
      exact SqL.of h10
    · rintro i y σ H10 hy ⟨v9, rfl, w10, h10⟩
      obtain ⟨m, hm, rfl⟩ := nl_at hy
      have km : M.kept m := by
        have := List.mem_of_getElem? hm
        rcases List.mem_append.mp this with z | z
        · exact mem_keptL.mp z
        · exact mem_keptL.mp (List.mem_reverse.mp z)
      have sh := strI_short ok (lo := 0) (hi := M.size) km.1 (Nat.le_refl _)
      have no := nice_list sh.1 sh.2
      obtain ⟨dx, t0, aw, ag, c, x1, x2, here, hp⟩ := w10.r2.hp
      refine ⟨_, rfl, _, _, _, rfl, hp, fsR_no (by decide +kernel), _, rfl, p2, m, W2, M, rfl, w10.r2, km, fun l1 H11 nl1 hl1 R11 k11 => ?_⟩
      have w11 := w10.q2 k11 R11
      have h11 := k11.k _ _ h10 (.inl W2p)
      rw [str_int] at hl1
      refine .inl ⟨l1, _, 1, rfl, dp_list hl1, no.1, by decide, ?_⟩
      obtain ⟨dx, t0, aw, ag, c, x1, x2, here, hp⟩ := w11.r1.hp
      refine ⟨_, rfl, _, _, _, rfl, hp, fsR_no (by decide +kernel), _, rfl, p1, m, W1, M, rfl, w11.r1, km, fun l2 H12 nl2 hl2 R12 k12 => ?_⟩
      have w12 := w11.q1 k12 R12
      have h12 := k12.k _ _ h11 (.inl W1p)
      rw [str_int] at hl2
      refine .inl ⟨l2, _, 1, rfl, dp_list hl2, no.1, by decide, rfl, _, rfl, iteNS rfl ?_⟩
      obtain ⟨dx, t0, aw, ag, c, x1, x2, here, hp⟩ := w12.r1.hp
      refine ⟨_, rfl, _, _, _, rfl, hp, fsR_no (by decide +kernel), _, rfl, p1, m, W1, M, rfl, w12.r1, km, fun l3 H13 nl3 hl3 R13 k13 => ?_⟩
      have w13 := w12.q1 k13 R13
      have h13 := k13.k _ _ h12 (.inl W1p)
      rw [str_int] at hl3
      refine ⟨_, rfl, _, rfl, d, m, Wm, M, rfl, w13.md, ok, km.1, fun l4 H14 nl4 hl4 s14 => ?_⟩
      have w14 := w13.same s14
      have h14 := s14 _ _ h13
      rw [str_int] at hl4
      refine ⟨_, _, dp_list (s14 _ _ hl3), dp_list hl4, no.1.shp (by decide), no.1.shp (by decide), _, rfl, ?_⟩
      rw [SeqAt.eqv_refl _ no.1.lay]
      exact iteF ⟨_, rfl, w14, h14⟩
    · rintro σ H10 ⟨v9, rfl, w10, h10⟩
      exact q H10
end
end MK

set_option Elab.async false
set_option linter.all false
set_option maxRecDepth 100000
set_option maxHeartbeats 0
/-! the head: what the module's top leaves, by runs in the kernel -/
namespace MK
open PySem PySem.Spec PyProof.Rows L2
abbrev R : PySem.W.OpenRow := PySem.W.OpenLaw.row PySem.Challenge.rw_makeskept_k31_whole_turned_as_plain
def ads0 : List Addr := [2, 3, 6, 4, 21, 38, 58, 77, 96, 115, 134, 153, 172, 191, 210, 219, 226, 231, 238, 243, 356, 417, 649, 766, 825, 834, 841, 848, 855, 860, 867, 874, 881, 886, 891, 898, 905, 912, 919, 926, 933]
def ads1 : List Addr := [940, 945, 952, 0, 20, 37, 57, 76, 95, 114, 133, 152, 171, 190, 209, 218, 225, 230, 237, 242, 355, 416, 648, 765, 824, 833, 840, 847, 854, 859, 866, 873, 880, 885, 890, 897, 904, 911, 918, 925]
def ads2 : List Addr := [932, 939, 944, 951, 15, 16, 17, 18, 19, 35, 36, 39, 55, 56, 74, 75, 93, 94, 112, 113, 131, 132, 150, 151, 169, 170, 188, 189, 207, 208, 213, 214, 215, 216, 217, 220, 221, 222, 223, 224]
def ads3 : List Addr := [227, 228, 229, 232, 233, 234, 235, 236, 239, 240, 241, 257, 264, 271, 278, 285, 292, 299, 306, 311, 318, 325, 332, 339, 346, 353, 354, 357, 358, 374, 381, 388, 395, 402, 409, 414, 415, 433, 440, 447]
def ads4 : List Addr := [454, 461, 468, 475, 482, 489, 496, 503, 508, 515, 522, 529, 536, 543, 550, 557, 564, 571, 578, 585, 592, 599, 606, 613, 620, 625, 632, 639, 646, 647, 650, 651, 667, 674, 681, 688, 695, 702, 709, 716]
def ads5 : List Addr := [723, 730, 737, 744, 751, 756, 763, 764, 782, 789, 796, 803, 810, 815, 822, 823, 828, 829, 830, 831, 832, 835, 836, 837, 838, 839, 842, 843, 844, 845, 846, 849, 850, 851, 852, 853, 856, 857, 858, 861]
def ads6 : List Addr := [862, 863, 864, 865, 868, 869, 870, 871, 872, 875, 876, 877, 878, 879, 882, 883, 884, 887, 888, 889, 892, 893, 894, 895, 896, 899, 900, 901, 902, 903, 906, 907, 908, 909, 910, 913, 914, 915, 916, 917]
def ads7 : List Addr := [920, 921, 922, 923, 924, 927, 928, 929, 930, 931, 934, 935, 936, 937, 938, 941, 942, 943, 946, 947, 948, 949, 950, 34, 54, 73, 92, 111, 130, 149, 168, 187, 206, 256, 263, 270, 277, 284, 291, 298]
def ads8 : List Addr := [305, 310, 317, 324, 331, 338, 345, 352, 373, 380, 387, 394, 401, 408, 413, 432, 439, 446, 453, 460, 467, 474, 481, 488, 495, 502, 507, 514, 521, 528, 535, 542, 549, 556, 563, 570, 577, 584, 591, 598]
def ads9 : List Addr := [605, 612, 619, 624, 631, 638, 645, 666, 673, 680, 687, 694, 701, 708, 715, 722, 729, 736, 743, 750, 755, 762, 781, 788, 795, 802, 809, 814, 821]
def ads : List Addr := ads0 ++ ads1 ++ ads2 ++ ads3 ++ ads4 ++ ads5 ++ ads6 ++ ads7 ++ ads8 ++ ads9
def names1 : List PySem.Str := ["_wall", "MakesError", "NoRow", "NoWorth", "NoPlace", "NoStretch", "NoMake", "NoNumber", "NoChanges", "TooMany", "Alone", "MOST_PLACES", "MOST_CHANGES", "is_whole", "is_worth", "is_worths", "is_change", "is_changes", "MOST_MAKES", "MakeTree", "LeapTree", "Rows", "Turned", "Plain"]
def names2 : List PySem.Str := ["_law_cell", "_law_box", "_law_take", "_law_worth", "_law_worths", "_law_model", "_law_writer", "_law_value", "_law_line_of", "_law_kept", "_law_picked", "_law_grown", "_law_line", "_law_path", "_law_needed", "_law_drawn", "_law_same", "_law_deed"]
def names : List PySem.Str := names1 ++ names2
/-- C.__init__ read off the class -/
def cfB (K : PySem.W.Frag) : Bool := PySem.W.readsIn K (He.ga K "MakeTree") (.type "type") && decide (PySem.W.specialIn K (.ref (He.ga K "MakeTree")) "__getattribute__" = some (some (.builtin "type.__getattribute__"))) &&
  (match PySem.W.findCls K (.ref (He.ga K "MakeTree")) (.type "type") "__init__" with
  | some (.val v) => decide (v = .ref (aM K "__init__"))
  | _ => false)
abbrev AlX : Type := Bool × He.AlD
def obsX (K : PySem.W.Frag) : AlX := (cfB K, He.obsD fa fn K)
def kOf (g : Addr → Option Obj) : PySem.W.Frag := He.frG g ads
def hk : PySem.W.Hook where
  α := AlX
  obs := fun s => obsX (kOf s.heap.get?)
  val := fun _ => (true, He.valD fn)
  says := fun _ h => ∃ K : PySem.W.Frag, K.In h ∧ cfB K = true ∧ He.SaysD fa fn K
  of := fun _ _ e => ⟨_, He.frG_in, congrArg (fun z : AlX => z.1) e, congrArg (fun z : AlX => z.2) e⟩
  keeps := fun _ _ _ ⟨K, hK, c⟩ k => ⟨K, PySem.W.Frag.In.keeps hK k, c⟩
def ob (s : PySem.W.SharedT) : AlX := obsX (kOf (HandSHeadRun.getT s))
theorem ob_eq (s : PySem.W.SharedT) : ob s = hk.obs s.abs := by
  have e : HandSHeadRun.getT s = s.abs.heap.get? := funext fun a => HandSHeadRun.getT_eq s a
  show obsX (kOf (HandSHeadRun.getT s)) = obsX (kOf s.abs.heap.get?)
  rw [e]
noncomputable abbrev EndQ (w : World) (os : OsState) : Option PySem.W.SharedT := HandSHeadRun.endF (HandSHeadRun.stepQ (HandSHeadRun.denQ HandSHeadRun.tabQ) R.prog w) 20000 R.prog w os

/-- facts in parts -/
def kT (s : PySem.W.SharedT) : PySem.W.Frag := kOf (HandSHeadRun.getT s)
open HandSHeadRun PySem.W PySem.Calls in
theorem run1 (w : World) (os : OsState) : (EndQ w os).map (fun s => HandSHeadRun.looksF R.prog (boot_heap w.params) s.abs) = some true := by kernel_rfl
theorem run2 (w : World) (os : OsState) : (EndQ w os).map (fun s => HandSHeadRun.seenQ (PySem.W.view R.prog [50]) names (importedModules R.prog.main.body) (fun s => PySem.W.xlAt (PySem.W.view R.prog [50]) [] s && PySem.W.recOk R.toRowW.records s) s.abs) = some (PySem.W.openGood (PySem.W.view R.prog [50]) names) := by kernel_rfl
theorem run3 (w : World) (os : OsState) : (EndQ w os).map (fun s => cfB (kT s)) = some true := by kernel_rfl
theorem run4 (w : World) (os : OsState) : (EndQ w os).map (fun s => let K := kT s; fa.all fun f => f.ok K) = some true := by kernel_rfl
theorem run5 (w : World) (os : OsState) : (EndQ w os).map (fun s => let K := kT s; fn.all fun d => d.ok K) = some true := by kernel_rfl
theorem run6 (w : World) (os : OsState) : (EndQ w os).map (fun s => let K := kT s; fn.map fun d => He.fnW K d.at_) = some (fn.map He.DefD.val) := by kernel_rfl
end MK

set_option Elab.async false
set_option linter.all false
set_option maxRecDepth 100000
set_option maxHeartbeats 4000000
/-! the end: what the head tells, the call of law -/
namespace MK
open PySem PySem.Spec PyProof.Rows L2
theorem cf_of {K : PySem.W.Frag} (h : cfB K = true) : ClsFn K (He.ga K "MakeTree") "__init__" (aM K "__init__") := by
  unfold cfB at h
  obtain ⟨h12, h3⟩ := Bool.and_eq_true_iff.mp h
  obtain ⟨h1, h2⟩ := Bool.and_eq_true_iff.mp h12
  refine ⟨⟨h1, of_decide_eq_true h2⟩, ?_⟩
  cases e : PySem.W.findCls K (.ref (He.ga K "MakeTree")) (.type "type") "__init__" with
  | none => rw [e] at h3; cases h3
  | some r =>
    rw [e] at h3
    cases r with
    | val v =>
      have := of_decide_eq_true h3
      rw [this]
    | _ => cases h3
theorem opt_of {α β : Type} {o : Option α} {f : α → β} {v : β} (h : o.map f = some v) : ∃ s, o = some s ∧ f s = v := by
  cases o with
  | none => cases h
  | some s => exact ⟨s, rfl, Option.some.inj h⟩
theorem run_all (w : World) : HandSHeadRun.RunEq R (PySem.W.view R.prog [50]) hk ob 20000 names w := by
  intro os
  have r1 := run1 w os
  have r2 := run2 w os
  have r3 := run3 w os
  have r4 := run4 w os
  have r5 := run5 w os
  have r6 := run6 w os
  show (EndQ w os).map _ = _
  generalize EndQ w os = o at r1 r2 r3 r4 r5 r6 ⊢
  obtain ⟨s, rfl, e1⟩ := opt_of r1
  have e2 := Option.some.inj r2
  have e3 := Option.some.inj r3
  have e4 := Option.some.inj r4
  have e5 := Option.some.inj r5
  have e6 := Option.some.inj r6
  have eo : ob s = hk.val w := by
    show (cfB (kT s), He.obsD fa fn (kT s)) = (true, He.valD fn)
    have e45 : ((fa.all fun f => f.ok (kT s)) && fn.all fun d => d.ok (kT s)) = true := by
      have e4' : (fa.all fun f => f.ok (kT s)) = true := e4
      have e5' : (fn.all fun d => d.ok (kT s)) = true := e5
      rw [e4', e5']; rfl
    have e6' : (fn.map fun d => He.fnW (kT s) d.at_) = fn.map He.DefD.val := e6
    have e7 : He.obsD fa fn (kT s) = He.valD fn := by
      show (((fa.all fun f => f.ok (kT s)) && fn.all fun d => d.ok (kT s)), (fn.map fun d => He.fnW (kT s) d.at_)) = (true, fn.map He.DefD.val)
      rw [e45, e6']
    have e3' : cfB (kT s) = true := e3
    rw [e3', e7]
  show some (_, _, _) = some (_, _, _)
  exact congrArg some (Prod.ext e1 (Prod.ext e2 eo))
/-- law, called from outside -/
theorem call_G {P : Program} {w : World} {K : PySem.W.Frag} {mg mb : Str → Option Value} {k : Nat} {f a : Addr} {x : Str} {s : Shared} {vs : List Value} {ns : List Int}
    (KX : K.In s.heap) (gm : s.heap.Ns mainGlobals mg) (gb : s.heap.Ns builtinsNs mb) (bb : ∀ x : Str, x ≠ "__name__" → mb x = bootBuiltins x) (lim : s.heap.NoLimit) (gens : s.gens = #[])
    (ha : s.heap.get? a = some { cls := .type "list", data := .seq vs.toArray }) (hi : IntsAre vs ns) (hl : ns.length ≤ 1000) (hr : Room k callerA) (hg : GA callerA)
    (F : ∀ base : Heap, FnG P w K mg base k f [x] (spLaw K)) :
    codeAny (model P w) callerA (.call (.ref f) ⟨[.ref a], []⟩) (fun r s' => r = .ok (.ret (.bool true)) ∧ OldK s.heap s'.heap ∧ s'.os = s.os ∧ AllBare s'.gens) s := by
  have rv := vals_ints hi
  have lv := hi.length
  have sl : ns.length ≤ sizeLine := Nat.le_trans hl (Nat.le_of_lt (small1000 (Nat.le_refl _)))
  -- the script alone is told of, and only where no module object is
  obtain ⟨H, eH⟩ : ∃ H : Hp, H = fun b => if b = a ∧ K.lookup a = none then some (.frz { cls := .type "list", data := .seq vs.toArray } (.lst (ns.map V.int))) else none := ⟨_, rfl⟩
  have only : ∀ b u, H b = some u → b = a ∧ K.lookup a = none ∧ u = .frz { cls := .type "list", data := .seq vs.toArray } (.lst (ns.map V.int)) := fun b u e => by
    rw [eH] at e
    by_cases z : b = a ∧ K.lookup a = none
    · have e' := (if_pos z).symm.trans e
      exact ⟨z.1, z.2, (Option.some.inj e').symm⟩
    · have e' := (if_neg z).symm.trans e
      cases e'
  have scr : SqL K H a (ns.map V.int) := by
    cases e : K.lookup a with
    | none => exact .inl (.inr ⟨_, by rw [eH]; exact if_pos ⟨rfl, e⟩⟩)
    | some o =>
      have z := (KX a o e).symm.trans ha
      cases z
      exact .inr ⟨_, vs.toArray, _, e, rfl, rfl, rfl, by rw [List.size_toArray, lv]; exact sl, by simpa using rv⟩
  have hok : HOk P w H s.heap := fun b u e => by
    obtain ⟨rfl, _, rfl⟩ := only b u e
    exact ⟨ha, by rw [List.length_map]; exact sl, vs, _, rv, ha⟩
  -- the part of the heap that is not told of
  have low : ∀ {b : Addr} {o : Obj}, s.heap.get? b = some o → (∀ u n, o.data ≠ .seq u n) → (hidT s.heap H).get? b = some o := fun {b o} e nd => hidT_get e (by
    cases z : H b with
    | none => rfl
    | some u =>
      obtain ⟨rfl, _, _⟩ := only b u z
      rw [ha] at e
      cases e
      exact absurd rfl (nd _ _))
  have lowN : ∀ {b : Addr} {m : Str → Option Value}, s.heap.Ns b m → (hidT s.heap H).Ns b m := fun ⟨o, es, ep, e, d, r⟩ => ⟨o, es, ep, low e (fun u n z => by rw [d] at z; cases z), d, r⟩
  have lowK : K.In (hidT s.heap H) := fun b o e => hidT_get (KX b o e) (by
    cases z : H b with
    | none => rfl
    | some u =>
      obtain ⟨rfl, n, _⟩ := only b u z
      rw [n] at e; cases e)
  have md : Mod K mg (hidT s.heap H) := ⟨lowK, lowN gm, ⟨mb, lowN gb, bb⟩, let ⟨mc, h1, h2⟩ := lim; ⟨mc, lowN h1, h2⟩⟩
  have env : Env0 P w K mg (hidT s.heap H) callerA [] s H :=
    ⟨rfl, md, fun b o e => of_hidT e, Nat.le_of_eq (hidT_size _ _), trivial, fun b hb => (nomatch (show b ∈ ([] : List Addr) from hb)), hok, .of_eq gens⟩
  refine codeAny_mono ((F _).run callerA [] s H [.ref a] [.ref a] (fun v _ => v = .bl true) hg hr env (.cons rfl .nil) ⟨a, ns, rfl, scr, hl, fun _ => rfl⟩) fun r s' h => ?_
  match r, h with
  | .ok (.ret u), ⟨v, H', os, bare, un, ok', ru, ev⟩ =>
    have ev' : v = .bl true := ev
    subst ev'
    obtain rfl : u = Value.bool true := ru
    refine ⟨rfl, OldK.of_keep fun b o e => ?_, os, bare⟩
    cases z : H b with
    | none => exact un.keep b o e z (fun m => (nomatch (show b ∈ ([] : List Addr) from m))) (fun m => (nomatch m))
    | some u =>
      obtain ⟨rfl, _, rfl⟩ := only b u z
      have z2 := un.frzs _ _ _ z
      rw [(hok _ _ z).1] at e
      cases e
      exact (ok' _ _ z2).1
  | .ok .next, h => exact False.elim h
  | .ok .brk, h => exact False.elim h
  | .ok .cont, h => exact False.elim h
  | .error e, h => exact False.elim h
end MK

set_option Elab.async false
set_option linter.all false
set_option maxRecDepth 100000
set_option maxHeartbeats 0
open PySem PySem.W PySem.Calls PyProof.Rows
theorem PySem.Challenge.cw_makeskept_k31_whole_turned_as_plain_holds : PySem.Challenge.rw_makeskept_k31_whole_turned_as_plain.Holds := by
  w_on; o_law
  refine HandSHeadRun.head_any (r := OpenLaw.row PySem.Challenge.rw_makeskept_k31_whole_turned_as_plain) (q := view (OpenLaw.row PySem.Challenge.rw_makeskept_k31_whole_turned_as_plain).prog [50]) (H := MK.hk) (ob := MK.ob) (M := 20000) (loose := MK.names) (d := HandSHeadRun.topDef (OpenLaw.row PySem.Challenge.rw_makeskept_k31_whole_turned_as_plain).prog 50) (kwd := []) MK.ob_eq
    (by kernel_rfl) (fun s => by kernel_rfl) MK.run_all (by kernel_rfl) (by kernel_rfl) (by kernel_rfl) (by rfl) (by first | assumption | decide +kernel) (by decide +kernel) ⟨rfl, rfl, rfl, rfl, rfl, by decide +kernel⟩ ?hw ?hc
  case hw => w_witness2
  case hc =>
    refine Att.attach_call (l := PySem.Challenge.rw_makeskept_k31_whole_turned_as_plain) (n := 63) rfl (by kernel_rfl) fun w s₀ s₁ mg mb fa o pm cd doc a vs ns G Y ho hd hcd hmg hobj hints hlen hg => ?_
    obtain ⟨K, KX, cf, c⟩ := Y
    have hmg' : mg ("law" : PySem.Str) = some (.ref fa) := by
      have e : (HandSHeadRun.topDef (OpenLaw.row PySem.Challenge.rw_makeskept_k31_whole_turned_as_plain).prog 50).name = ("law" : PySem.Str) := by kernel_rfl
      rw [← e]
      exact hmg
    have T := MK.tx_of KX G.T.g c (MK.cf_of cf)
    have ef := Option.some.inj (hmg'.symm.trans T.g_law)
    cases ef
    exact MK.call_G KX G.T.g G.T.b G.T.builtins G.T.nolimit hg hobj hints (Nat.le_trans hlen (by decide)) ⟨rfl, by decide, by decide⟩ rfl (fun base => MK.ok_law T)
