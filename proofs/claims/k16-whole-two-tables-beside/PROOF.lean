import PyProof.Rows.All
import Wide.All
import OpenK.AllK
import Wide.FinOn
import KE.KOpsOwn
import KE.SortData
import HandS.ForMost
import HandS.Star
import HandS.Property
import HandS.IsInst
import KE.GoesEnum
import HandS.Exc
import HandS.WordsExc
import HandS.ExcInit
import HandS.Defaults
import PySem.Challenge.RW_rowclash_k16_whole_two_tables_beside
import HandS.Walk
import HandS.SetKeys
import HandS.Wide
import HandS.WideMore
import HandS.TupAny
import HandS.TupLe
import HandS.DictComp
import KE.KExcSuper
import KE.KSuper
import HandS.Nested
import HandS.Style
import HandS.Conv
import HandS.ExcField
import HandS.HotCalls
import HandS.ExcIs
import HandS.Lambda
import KE.KExcIs
import HandS.Head2
import HandS.HeadHook4
import HandS.HeadNt
import HandS.HeadWalk
set_option Elab.async false
set_option linter.all false
set_option maxRecDepth 100000
set_option maxHeartbeats 0
/-! KMath -/
/-! The plain law, part one: tables, waiting, paths, rings. No program here. -/
namespace RC

abbrev Tab := List (Int × Int)
def keys (R : Tab) : List Int := R.map (·.1)

/-! ### lists -/
theorem nodup_len : ∀ {l S : List Int}, l.Nodup → (∀ x ∈ l, x ∈ S) → l.length ≤ S.length
  | [], _, _, _ => Nat.zero_le _
  | a :: l, S, h, hs => by
    have h1 := List.nodup_cons.mp h
    have ha : a ∈ S := hs a List.mem_cons_self
    have h2 : l.length ≤ (S.erase a).length := nodup_len h1.2 fun x hx => by
      have hne : x ≠ a := fun e => h1.1 (e ▸ hx)
      exact (List.mem_erase_of_ne hne).mpr (hs x (List.mem_cons_of_mem _ hx))
    rw [List.length_erase_of_mem ha] at h2
    have : 0 < S.length := List.length_pos_of_mem ha
    rw [List.length_cons]
    omega
theorem lookup_mem : ∀ {R : Tab} {k n : Int}, R.lookup k = some n → (k, n) ∈ R
  | [], _, _, h => by cases h
  | (a, b) :: R, k, n, h => by
    rw [List.lookup_cons] at h
    by_cases e : k = a
    · subst e
      rw [beq_self_eq_true] at h
      cases h
      exact List.mem_cons_self
    · rw [beq_eq_false_iff_ne.mpr e] at h
      exact List.mem_cons_of_mem _ (lookup_mem h)
theorem lookup_some : ∀ {R : Tab} {k : Int}, k ∈ keys R → ∃ n, R.lookup k = some n
  | [], _, h => by cases h
  | (a, b) :: R, k, h => by
    rw [List.lookup_cons]
    by_cases e : k = a
    · subst e
      rw [beq_self_eq_true]
      exact ⟨b, rfl⟩
    · rw [beq_eq_false_iff_ne.mpr e]
      have h' : k ∈ a :: keys R := h
      rcases List.mem_cons.mp h' with h' | h'
      · exact absurd h' e
      · exact lookup_some h'
theorem lookup_none {R : Tab} {k : Int} (h : k ∉ keys R) : R.lookup k = none := by
  cases e : R.lookup k with
  | none => rfl
  | some n => exact absurd (List.mem_map.mpr ⟨_, lookup_mem e, rfl⟩) h
theorem lookup_of_mem : ∀ {R : Tab} {k n : Int}, (keys R).Nodup → (k, n) ∈ R → R.lookup k = some n
  | [], _, _, _, h => by cases h
  | (a, b) :: R, k, n, nd, h => by
    rw [List.lookup_cons]
    have nd' : a ∉ keys R ∧ (keys R).Nodup := List.nodup_cons.mp nd
    rcases List.mem_cons.mp h with h | h
    · injection h with h1 h2
      subst h1 h2
      rw [beq_self_eq_true]
    · have hk : k ∈ keys R := List.mem_map.mpr ⟨_, h, rfl⟩
      have : k ≠ a := fun e => nd'.1 (e ▸ hk)
      rw [beq_eq_false_iff_ne.mpr this]
      exact lookup_of_mem nd'.2 h
theorem lookup_append_l {R1 R2 : Tab} {k : Int} (h : k ∈ keys R1) : (R1 ++ R2).lookup k = R1.lookup k := by
  rw [List.lookup_append]
  obtain ⟨n, e⟩ := lookup_some h
  rw [e]
  rfl
theorem lookup_append_r {R1 R2 : Tab} {k : Int} (h : k ∉ keys R1) : (R1 ++ R2).lookup k = R2.lookup k := by
  rw [List.lookup_append, lookup_none h]
  rfl
theorem keys_append (R1 R2 : Tab) : keys (R1 ++ R2) = keys R1 ++ keys R2 := List.map_append ..

/-! ### waiting -/
def waited (R : Tab) (k : Int) : Option Int := match R.lookup k with
  | some n => if n ≠ k ∧ n ∈ keys R then some n else none
  | none => none
theorem waited_some {R : Tab} {k r : Int} (h : waited R k = some r) : R.lookup k = some r ∧ r ≠ k ∧ r ∈ keys R := by
  unfold waited at h
  cases e : R.lookup k with
  | none =>
    rw [e] at h
    cases h
  | some n =>
    rw [e] at h
    dsimp only at h
    by_cases c : n ≠ k ∧ n ∈ keys R
    · rw [if_pos c] at h
      cases h
      exact ⟨rfl, c.1, c.2⟩
    · rw [if_neg c] at h
      cases h
theorem waited_key {R : Tab} {k r : Int} (h : waited R k = some r) : k ∈ keys R := List.mem_map.mpr ⟨_, lookup_mem (waited_some h).1, rfl⟩

/-- the keys and new keys of the one lie below those of the other -/
def Sep (R1 R2 : Tab) : Prop := ∃ c : Int, (∀ p ∈ R1, p.1 < c ∧ p.2 < c) ∧ ∀ p ∈ R2, c ≤ p.1 ∧ c ≤ p.2
section
variable {R1 R2 : Tab} (h : Sep R1 R2)
include h
theorem Sep.kk {a b : Int} (ha : a ∈ keys R1) (hb : b ∈ keys R2) : a < b := by
  obtain ⟨c, h1, h2⟩ := h
  obtain ⟨p, hp, rfl⟩ := List.mem_map.mp ha
  obtain ⟨q, hq, rfl⟩ := List.mem_map.mp hb
  have := (h1 p hp).1
  have := (h2 q hq).1
  omega
theorem Sep.nk {k a b : Int} (ha : R1.lookup k = some a) (hb : b ∈ keys R2) : a < b := by
  obtain ⟨c, h1, h2⟩ := h
  obtain ⟨q, hq, rfl⟩ := List.mem_map.mp hb
  have := (h1 _ (lookup_mem ha)).2
  have := (h2 q hq).1
  simp only at *
  omega
theorem Sep.kn {k a b : Int} (hb : R2.lookup k = some b) (ha : a ∈ keys R1) : a < b := by
  obtain ⟨c, h1, h2⟩ := h
  obtain ⟨q, hq, rfl⟩ := List.mem_map.mp ha
  have := (h2 _ (lookup_mem hb)).2
  have := (h1 q hq).1
  simp only at *
  omega
theorem Sep.not_l {k : Int} (hk : k ∈ keys R2) : k ∉ keys R1 := fun z => by
  have := h.kk z hk
  omega
theorem Sep.not_r {k : Int} (hk : k ∈ keys R1) : k ∉ keys R2 := fun z => by
  have := h.kk hk z
  omega
theorem waited_l {k : Int} (hk : k ∈ keys R1) : waited (R1 ++ R2) k = waited R1 k := by
  unfold waited
  rw [lookup_append_l hk, keys_append]
  cases e : R1.lookup k with
  | none => rfl
  | some n =>
    dsimp only
    have : n ∈ keys R1 ++ keys R2 ↔ n ∈ keys R1 := by
      rw [List.mem_append]
      exact ⟨fun z => z.elim id fun z => absurd (h.nk e z) (by omega), .inl⟩
    simp only [this]
theorem waited_r {k : Int} (hk : k ∈ keys R2) : waited (R1 ++ R2) k = waited R2 k := by
  unfold waited
  rw [lookup_append_r (h.not_l hk), keys_append]
  cases e : R2.lookup k with
  | none => rfl
  | some n =>
    dsimp only
    have : n ∈ keys R1 ++ keys R2 ↔ n ∈ keys R2 := by
      rw [List.mem_append]
      exact ⟨fun z => z.elim (fun z => absurd (h.kn e z) (by omega)) id, .inr⟩
    simp only [this]
end

/-! ### paths -/
def pgo (w : Int → Option Int) : Nat → List Int → Option Int → List Int
  | 0, f, _ => f
  | _ + 1, f, none => f
  | n + 1, f, some r => if r ∈ f then f else pgo w n (f ++ [r]) (w r)
def path (R : Tab) (k : Int) : List Int := pgo (waited R) 64 [k] (waited R k)
def lastOf (p : List Int) : Int := p.getLastD 0
theorem lastOf_snoc (l : List Int) (x : Int) : lastOf (l ++ [x]) = x := by
  unfold lastOf
  rw [List.getLastD_concat]
theorem snoc_of {p : List Int} (h : p ≠ []) : p = p.dropLast ++ [lastOf p] := by
  have e := List.dropLast_concat_getLast h
  have : lastOf p = p.getLast h := by
    unfold lastOf
    rw [List.getLastD_eq_getLast?, List.getLast?_eq_some_getLast h]
    rfl
  rw [this]
  exact e.symm
theorem lastOf_mem {p : List Int} (h : p ≠ []) : lastOf p ∈ p := by
  have e := snoc_of h
  rw [e]
  rw [lastOf_snoc]
  simp

theorem last_get {p : List Int} (h : p ≠ []) : p[p.length - 1]? = some (lastOf p) := by
  unfold lastOf
  rw [List.getLastD_eq_getLast?, List.getLast?_eq_getElem?]
  cases e : p[p.length - 1]? with
  | some x => rfl
  | none =>
    have := List.getElem?_eq_none_iff.mp e
    have := List.length_pos_iff.mpr h
    omega
theorem pgo_congr {w w' : Int → Option Int} {S : List Int} (hw : ∀ x ∈ S, w x = w' x) (hc : ∀ x ∈ S, ∀ r, w x = some r → r ∈ S) :
    ∀ (n : Nat) (f : List Int) (o : Option Int), (∀ r, o = some r → r ∈ S) → pgo w n f o = pgo w' n f o
  | 0, _, _, _ => rfl
  | _ + 1, _, none, _ => rfl
  | n + 1, f, some r, ho => by
    have hr := ho r rfl
    unfold pgo
    by_cases c : r ∈ f
    · rw [if_pos c, if_pos c]
    · rw [if_neg c, if_neg c, ← hw r hr]
      exact pgo_congr hw hc n _ _ fun q e => hc r hr q e
theorem waited_closed {R : Tab} {k r : Int} (h : waited R k = some r) : r ∈ keys R := (waited_some h).2.2
theorem path_l {R1 R2 : Tab} (h : Sep R1 R2) {k : Int} (hk : k ∈ keys R1) : path (R1 ++ R2) k = path R1 k := by
  unfold path
  rw [waited_l h hk]
  exact pgo_congr (S := keys R1) (fun x hx => waited_l h hx) (fun x hx r e => by
    rw [waited_l h hx] at e
    exact waited_closed e) _ _ _ fun r e => waited_closed e
theorem path_r {R1 R2 : Tab} (h : Sep R1 R2) {k : Int} (hk : k ∈ keys R2) : path (R1 ++ R2) k = path R2 k := by
  unfold path
  rw [waited_r h hk]
  exact pgo_congr (S := keys R2) (fun x hx => waited_r h hx) (fun x hx r e => by
    rw [waited_r h hx] at e
    exact waited_closed e) _ _ _ fun r e => waited_closed e

/-- each waits for the next -/
def Chn (w : Int → Option Int) (p : List Int) : Prop := ∀ (i : Nat) (a b : Int), p[i]? = some a → p[i + 1]? = some b → w a = some b
structure PthOk (w : Int → Option Int) (S : List Int) (f : List Int) : Prop where
  ne : f ≠ []
  nd : f.Nodup
  chn : Chn w f
  sub : ∀ x ∈ f, x ∈ S
theorem PthOk.step {w : Int → Option Int} {S f : List Int} {r : Int} (h : PthOk w S f) (hr : w (lastOf f) = some r) (hf : r ∉ f) (hS : r ∈ S) : PthOk w S (f ++ [r]) := by
  refine ⟨by simp, ?_, ?_, fun x hx => ?_⟩
  · rw [List.nodup_append]
    refine ⟨h.nd, List.nodup_cons.mpr ⟨by simp, List.nodup_nil⟩, fun a ha b hb e => ?_⟩
    have : b = r := by simpa using hb
    subst this
    exact hf (e ▸ ha)
  · intro i a b ha hb
    by_cases c : i + 1 < f.length
    · rw [List.getElem?_append_left (by omega)] at ha
      rw [List.getElem?_append_left c] at hb
      exact h.chn i a b ha hb
    · have hi : i + 1 < (f ++ [r]).length := (List.getElem?_eq_some_iff.mp hb).1
      have el : i + 1 = f.length := by
        rw [List.length_append, List.length_singleton] at hi
        omega
      rw [List.getElem?_append_right (by omega), el, Nat.sub_self] at hb
      have eb : r = b := by simpa using hb
      rw [List.getElem?_append_left (by omega)] at ha
      have ea : lastOf f = a := by
        have e := snoc_of h.ne
        rw [e] at ha
        have : f.dropLast.length = i := by
          rw [List.length_dropLast]
          omega
        rw [List.getElem?_append_right (by omega), this, Nat.sub_self] at ha
        simpa using ha
      rw [← ea, ← eb]
      exact hr
  · rcases List.mem_append.mp hx with hx | hx
    · exact h.sub x hx
    · have : x = r := by simpa using hx
      exact this ▸ hS
theorem pgo_ok {w : Int → Option Int} {S : List Int} (hc : ∀ x r, w x = some r → r ∈ S) :
    ∀ (n : Nat) (f : List Int), PthOk w S f → S.length < n + f.length →
      PthOk w S (pgo w n f (w (lastOf f))) ∧ (∃ t, pgo w n f (w (lastOf f)) = f ++ t) ∧ ∀ r, w (lastOf (pgo w n f (w (lastOf f)))) = some r → r ∈ pgo w n f (w (lastOf f))
  | 0, f, h, hl => absurd (nodup_len h.nd h.sub) (by omega)
  | n + 1, f, h, hl => by
    cases e : w (lastOf f) with
    | none => exact ⟨h, ⟨[], by simp [pgo]⟩, fun r hr => by
        have hr' : w (lastOf f) = some r := hr
        rw [e] at hr'
        cases hr'⟩
    | some r =>
      unfold pgo
      by_cases c : r ∈ f
      · rw [if_pos c]
        refine ⟨h, ⟨[], by simp⟩, fun q hq => ?_⟩
        rw [e] at hq
        cases hq
        exact c
      · rw [if_neg c]
        have ih := pgo_ok hc n (f ++ [r]) (h.step e c (hc _ _ e)) (by rw [List.length_append, List.length_singleton]; omega)
        rw [lastOf_snoc] at ih
        obtain ⟨h1, ⟨t, h2⟩, h3⟩ := ih
        exact ⟨h1, ⟨r :: t, by rw [h2, List.append_assoc]; rfl⟩, h3⟩
theorem path_ok {R : Tab} {k : Int} (hk : k ∈ keys R) (hl : R.length ≤ 40) :
    PthOk (waited R) (keys R) (path R k) ∧ (∃ t, path R k = k :: t) ∧ ∀ r, waited R (lastOf (path R k)) = some r → r ∈ path R k := by
  have h0 : PthOk (waited R) (keys R) [k] := ⟨by simp, by simp, fun i a b _ hb => by simp at hb, fun x hx => by
    have : x = k := by simpa using hx
    exact this ▸ hk⟩
  have hlast : lastOf [k] = k := rfl
  have := pgo_ok (w := waited R) (S := keys R) (fun x r e => waited_closed e) 64 [k] h0 (by
    have : (keys R).length = R.length := List.length_map ..
    rw [List.length_singleton]
    omega)
  rw [hlast] at this
  obtain ⟨h1, ⟨t, h2⟩, h3⟩ := this
  exact ⟨h1, ⟨t, h2⟩, h3⟩
theorem path_len {R : Tab} {k : Int} (hk : k ∈ keys R) (hl : R.length ≤ 40) : 1 ≤ (path R k).length ∧ (path R k).length ≤ R.length := by
  obtain ⟨h, ⟨t, e⟩, _⟩ := path_ok hk hl
  refine ⟨by rw [e, List.length_cons]; omega, ?_⟩
  have := nodup_len h.nd h.sub
  unfold keys at this
  rwa [List.length_map] at this

/-! ### iterates, cycles -/
def iter (w : Int → Option Int) : Nat → Int → Option Int
  | 0, k => some k
  | n + 1, k => (iter w n k).bind w
theorem iter_add {w : Int → Option Int} {a x : Int} : ∀ {n m : Nat}, iter w m a = some x → iter w (m + n) a = iter w n x
  | 0, m, h => h
  | n + 1, m, h => by
    show (iter w (m + n) a).bind w = (iter w n x).bind w
    rw [iter_add h]
theorem iter_chn {w : Int → Option Int} {p : List Int} (h : Chn w p) {i : Nat} {a : Int} (ha : p[i]? = some a) : ∀ {n : Nat} {b : Int}, p[i + n]? = some b → iter w n a = some b
  | 0, b, hb => by
    rw [Nat.add_zero, ha] at hb
    exact hb
  | n + 1, b, hb => by
    have hlt : i + n < p.length := by
      have := (List.getElem?_eq_some_iff.mp hb).1
      omega
    have hc := List.getElem?_eq_getElem hlt
    have ih := iter_chn h ha (n := n) hc
    show (iter w n a).bind w = some b
    rw [ih]
    exact h (i + n) _ b hc hb
def Cyc (w : Int → Option Int) (k : Int) : Prop := ∃ n, 0 < n ∧ iter w n k = some k
theorem Cyc.mul {w : Int → Option Int} {k : Int} {n : Nat} (h : iter w n k = some k) : ∀ q, iter w (n * q) k = some k
  | 0 => rfl
  | q + 1 => by
    rw [Nat.mul_succ, iter_add (Cyc.mul h q)]
    exact h
theorem Cyc.def_ {w : Int → Option Int} {k : Int} (h : Cyc w k) : ∀ m, ∃ r, iter w m k = some r := fun m => by
  obtain ⟨n, hn, e⟩ := h
  cases q : iter w m k with
  | some r => exact ⟨r, rfl⟩
  | none =>
    have all : ∀ j, iter w (m + j) k = none := fun j => by
      induction j with
      | zero => exact q
      | succ j ih =>
        show (iter w (m + j) k).bind w = none
        rw [ih]
        rfl
    have e2 := Cyc.mul e (m + 1)
    obtain ⟨j, hj⟩ : ∃ j, n * (m + 1) = m + j := ⟨n * (m + 1) - m, by
      have : m + 1 ≤ n * (m + 1) := Nat.le_mul_of_pos_left _ hn
      omega⟩
    rw [hj, all j] at e2
    cases e2
theorem Cyc.iter {w : Int → Option Int} {k x : Int} {j : Nat} (h : Cyc w k) (hx : iter w j k = some x) : Cyc w x := by
  obtain ⟨n, hn, e⟩ := h
  refine ⟨n, hn, ?_⟩
  rw [← iter_add hx, Nat.add_comm, iter_add e]
  exact hx
section
variable {R : Tab} (hl : R.length ≤ 40)
include hl
/-- where a path does not end, it comes to a cyclic row -/
theorem cyc_of {k r : Int} (hk : k ∈ keys R) (h : waited R (lastOf (path R k)) = some r) : Cyc (waited R) r := by
  obtain ⟨ok, _, hr⟩ := path_ok hk hl
  obtain ⟨i, hi, ei⟩ := List.mem_iff_getElem.mp (hr r h)
  have hlast := last_get ok.ne
  have hi2 : (path R k)[i]? = some r := by rw [List.getElem?_eq_getElem hi, ei]
  have e1 : iter (waited R) ((path R k).length - 1 - i) r = some (lastOf (path R k)) := iter_chn ok.chn hi2 (by
    have : i + ((path R k).length - 1 - i) = (path R k).length - 1 := by omega
    rw [this]
    exact hlast)
  refine ⟨(path R k).length - 1 - i + 1, by omega, ?_⟩
  show (iter (waited R) ((path R k).length - 1 - i) r).bind (waited R) = some r
  rw [e1]
  exact h
/-- a cyclic row's path comes back to it -/
theorem cyc_last {k : Int} (hk : k ∈ keys R) (h : Cyc (waited R) k) : waited R (lastOf (path R k)) = some k := by
  obtain ⟨ok, ⟨t, et⟩, hr⟩ := path_ok hk hl
  have h0 : (path R k)[0]? = some k := by rw [et]; rfl
  have hlast := last_get ok.ne
  have hpos : 0 < (path R k).length := by rw [et]; simp
  have e1 : iter (waited R) ((path R k).length - 1) k = some (lastOf (path R k)) := iter_chn ok.chn h0 (by rw [Nat.zero_add]; exact hlast)
  have em : iter (waited R) (path R k).length k = waited R (lastOf (path R k)) := by
    have : (path R k).length = (path R k).length - 1 + 1 := by omega
    rw [this]
    show (iter (waited R) ((path R k).length - 1) k).bind (waited R) = _
    rw [e1]
    rfl
  obtain ⟨r, er⟩ := h.def_ (path R k).length
  have ew : waited R (lastOf (path R k)) = some r := em ▸ er
  obtain ⟨i, hi, ei⟩ := List.mem_iff_getElem.mp (hr r ew)
  have hi2 : (path R k)[i]? = some r := by rw [List.getElem?_eq_getElem hi, ei]
  have eI : iter (waited R) i k = some r := iter_chn ok.chn h0 (by rw [Nat.zero_add]; exact hi2)
  obtain ⟨n, hn, en⟩ := h
  by_cases c : i = 0
  · subst c
    rw [h0] at hi2
    rw [ew]
    exact congrArg some (Option.some.inj hi2).symm
  · exfalso
    -- go on from r to k, in steps
    have hN := Cyc.mul en (i + 1)
    obtain ⟨j, hj⟩ : ∃ j, n * (i + 1) = i + j := ⟨n * (i + 1) - i, by
      have : i + 1 ≤ n * (i + 1) := Nat.le_mul_of_pos_left _ hn
      omega⟩
    have back : iter (waited R) j r = some k := by
      rw [← iter_add eI, ← hj]
      exact hN
    have e2 : iter (waited R) ((path R k).length + j) k = some k := by
      rw [iter_add er]
      exact back
    have e3 : (path R k).length + j = n * (i + 1) + ((path R k).length - i) := by omega
    rw [e3, iter_add hN] at e2
    have hlt : (path R k).length - i < (path R k).length := by omega
    have e4 := iter_chn ok.chn h0 (n := (path R k).length - i) (by rw [Nat.zero_add]; exact List.getElem?_eq_getElem hlt)
    rw [e2] at e4
    have e5 : (path R k)[0] = (path R k)[(path R k).length - i] := by
      have : (path R k)[0] = k := by
        have := List.getElem?_eq_getElem hpos
        rw [h0] at this
        exact (Option.some.inj this).symm
      rw [this]
      exact Option.some.inj e4
    have := (List.getElem_inj ok.nd).mp e5
    omega
end
theorem exists_min (P : Int → Prop) : ∀ (l : List Int), (∃ x ∈ l, P x) → ∃ m ∈ l, P m ∧ ∀ x ∈ l, P x → m ≤ x
  | [], ⟨_, h, _⟩ => by cases h
  | a :: l, h => by
    by_cases c : ∃ x ∈ l, P x
    · obtain ⟨m, hm, pm, le⟩ := exists_min P l c
      by_cases d : P a ∧ a ≤ m
      · exact ⟨a, List.mem_cons_self, d.1, fun x hx px => by
          rcases List.mem_cons.mp hx with e | hx
          · omega
          · have := le x hx px
            omega⟩
      · refine ⟨m, List.mem_cons_of_mem _ hm, pm, fun x hx px => ?_⟩
        rcases List.mem_cons.mp hx with e | hx
        · subst e
          have : ¬ x ≤ m := fun z => d ⟨px, z⟩
          omega
        · exact le x hx px
    · obtain ⟨x, hx, px⟩ := h
      rcases List.mem_cons.mp hx with e | hx
      · subst e
        exact ⟨x, List.mem_cons_self, px, fun y hy py => by
          rcases List.mem_cons.mp hy with e | hy
          · omega
          · exact absurd ⟨y, hy, py⟩ c⟩
      · exact absurd ⟨x, hx, px⟩ c

/-! ### rings -/
def ringAt (R : Tab) (k : Int) : Bool := decide (waited R (lastOf (path R k)) = some k) && (path R k).all fun x => decide (k ≤ x)
def ringsOf (R : Tab) : List (List Int) := ((keys R).filter (ringAt R)).map (path R)
theorem filter_congr_mem {α : Type} {p q : α → Bool} : ∀ {l : List α}, (∀ x ∈ l, p x = q x) → l.filter p = l.filter q
  | [], _ => rfl
  | a :: l, h => by
    rw [List.filter_cons, List.filter_cons, h a List.mem_cons_self, filter_congr_mem fun x hx => h x (List.mem_cons_of_mem _ hx)]
theorem map_congr_mem {α β : Type} {f g : α → β} {l : List α} (h : ∀ x ∈ l, f x = g x) : l.map f = l.map g := List.map_congr_left h
theorem rings_append {R1 R2 : Tab} (h : Sep R1 R2) (h1 : R1.length ≤ 40) (h2 : R2.length ≤ 40) : ringsOf (R1 ++ R2) = ringsOf R1 ++ ringsOf R2 := by
  unfold ringsOf
  rw [keys_append, List.filter_append, List.map_append]
  have a : ∀ x ∈ keys R1, ringAt (R1 ++ R2) x = ringAt R1 x := fun x hx => by
    unfold ringAt
    rw [path_l h hx, waited_l h ((path_ok hx h1).1.sub _ (lastOf_mem (path_ok hx h1).1.ne))]
  have b : ∀ x ∈ keys R2, ringAt (R1 ++ R2) x = ringAt R2 x := fun x hx => by
    unfold ringAt
    rw [path_r h hx, waited_r h ((path_ok hx h2).1.sub _ (lastOf_mem (path_ok hx h2).1.ne))]
  rw [filter_congr_mem a, filter_congr_mem b, map_congr_mem (g := path R1) fun x hx => path_l h (List.mem_filter.mp hx).1, map_congr_mem (f := path (R1 ++ R2)) (g := path R2) fun x hx => path_r h (List.mem_filter.mp hx).1]
/-- without rings every path comes to an end -/
theorem path_ends {R : Tab} (hl : R.length ≤ 40) (hr : ringsOf R = []) {k : Int} (hk : k ∈ keys R) : waited R (lastOf (path R k)) = none := by
  cases e : waited R (lastOf (path R k)) with
  | none => rfl
  | some r =>
    exfalso
    have hc := cyc_of hl hk e
    obtain ⟨m, hm, cm, le⟩ := exists_min (Cyc (waited R)) (keys R) ⟨r, waited_closed e, hc⟩
    have hlast := cyc_last hl hm cm
    obtain ⟨ok, ⟨t, et⟩, _⟩ := path_ok hm hl
    have h0 : (path R m)[0]? = some m := by rw [et]; rfl
    have hx : ringAt R m = true := by
      unfold ringAt
      rw [Bool.and_eq_true]
      refine ⟨decide_eq_true hlast, List.all_eq_true.mpr fun x hx => decide_eq_true ?_⟩
      obtain ⟨i, hi, ei⟩ := List.mem_iff_getElem.mp hx
      have e1 : iter (waited R) i m = some x := iter_chn ok.chn h0 (by rw [Nat.zero_add, List.getElem?_eq_getElem hi, ei])
      exact le x (ok.sub x hx) (cm.iter e1)
    have : path R m ∈ ringsOf R := List.mem_map.mpr ⟨m, List.mem_filter.mpr ⟨hm, hx⟩, rfl⟩
    rw [hr] at this
    cases this
end RC

/-! KMath2 -/
/-! The plain law, part two: groups, trees, chains, the number of orders, stages, the first order. -/
namespace RC

/-! ### dicts of lists -/
abbrev Grp := List (Int × List Int)
def bump (G : Grp) (n k : Int) : Grp := if n ∈ G.map (·.1) then G.map fun p => if p.1 = n then (p.1, p.2 ++ [k]) else p else G ++ [(n, [k])]
theorem bump_app {G1 G : Grp} {n k : Int} (h : n ∉ G1.map (·.1)) : bump (G1 ++ G) n k = G1 ++ bump G n k := by
  unfold bump
  have e : n ∈ (G1 ++ G).map (·.1) ↔ n ∈ G.map (·.1) := by
    rw [List.map_append, List.mem_append]
    exact ⟨fun z => z.elim (fun z => absurd z h) id, .inr⟩
  by_cases c : n ∈ G.map (·.1)
  · rw [if_pos (e.mpr c), if_pos c, List.map_append]
    congr 1
    refine (List.map_congr_left (g := id) fun p hp => ?_).trans (List.map_id _)
    have : p.1 ≠ n := fun z => h (List.mem_map.mpr ⟨p, hp, z⟩)
    rw [if_neg this]
    rfl
  · rw [if_neg (fun z => c (e.mp z)), if_neg c, List.append_assoc]
theorem bump_keys {G : Grp} {n k x : Int} : x ∈ (bump G n k).map (·.1) ↔ x ∈ G.map (·.1) ∨ x = n := by
  unfold bump
  by_cases c : n ∈ G.map (·.1)
  · rw [if_pos c, List.map_map]
    have : (fun p : Int × List Int => p.1) ∘ (fun p => if p.1 = n then (p.1, p.2 ++ [k]) else p) = fun p => p.1 := by
      funext p
      show (if p.1 = n then (p.1, p.2 ++ [k]) else p).1 = p.1
      split <;> rfl
    rw [this]
    exact ⟨.inl, fun z => z.elim id fun z => z ▸ c⟩
  · rw [if_neg c, List.map_append, List.mem_append]
    simp
theorem bump_nodup {G : Grp} {n k : Int} (h : (G.map (·.1)).Nodup) : ((bump G n k).map (·.1)).Nodup := by
  unfold bump
  by_cases c : n ∈ G.map (·.1)
  · rw [if_pos c, List.map_map]
    have : (fun p : Int × List Int => p.1) ∘ (fun p => if p.1 = n then (p.1, p.2 ++ [k]) else p) = fun p => p.1 := by
      funext p
      show (if p.1 = n then (p.1, p.2 ++ [k]) else p).1 = p.1
      split <;> rfl
    rw [this]
    exact h
  · rw [if_neg c, List.map_append, List.nodup_append]
    refine ⟨h, by simp, fun a ha b hb e => ?_⟩
    have : b = n := by simpa using hb
    subst this
    exact c (e ▸ ha)
/-- a fold of bumps: (new, key), one after another -/
def bumps (G : Grp) (l : List (Int × Int)) : Grp := l.foldl (fun G p => bump G p.1 p.2) G
theorem bumps_app {G1 : Grp} : ∀ {l : List (Int × Int)} {G : Grp}, (∀ p ∈ l, p.1 ∉ G1.map (·.1)) → bumps (G1 ++ G) l = G1 ++ bumps G l
  | [], _, _ => rfl
  | p :: l, G, h => by
    show bumps (bump (G1 ++ G) p.1 p.2) l = G1 ++ bumps (bump G p.1 p.2) l
    rw [bump_app (h p List.mem_cons_self)]
    exact bumps_app fun q hq => h q (List.mem_cons_of_mem _ hq)
theorem bumps_append (G : Grp) (l m : List (Int × Int)) : bumps G (l ++ m) = bumps (bumps G l) m := List.foldl_append ..
theorem bumps_keys : ∀ {l : List (Int × Int)} {G : Grp} {x : Int}, x ∈ (bumps G l).map (·.1) → x ∈ G.map (·.1) ∨ ∃ p ∈ l, x = p.1
  | [], _, _, h => .inl h
  | p :: l, G, x, h => by
    rcases bumps_keys (l := l) (G := bump G p.1 p.2) h with h | ⟨q, hq, e⟩
    · rcases bump_keys.mp h with h | h
      · exact .inl h
      · exact .inr ⟨p, List.mem_cons_self, h⟩
    · exact .inr ⟨q, List.mem_cons_of_mem _ hq, e⟩
theorem bumps_split {l m : List (Int × Int)} (h : ∀ p ∈ l, ∀ q ∈ m, p.1 ≠ q.1) : bumps [] (l ++ m) = bumps [] l ++ bumps [] m := by
  rw [bumps_append]
  have := bumps_app (G1 := bumps [] l) (G := []) (l := m) fun q hq z => by
    rcases bumps_keys z with z | ⟨p, hp, e⟩
    · cases z
    · exact h p hp q hq e.symm
  rw [List.append_nil] at this
  exact this
theorem bumps_nodup : ∀ {l : List (Int × Int)} {G : Grp}, (G.map (·.1)).Nodup → ((bumps G l).map (·.1)).Nodup
  | [], _, h => h
  | p :: l, G, h => bumps_nodup (l := l) (G := bump G p.1 p.2) (bump_nodup h)
/-- each entry: the keys of its own, in their order -/
theorem bump_entry {G : Grp} {n k : Int} {pre : List (Int × Int)} (h : ∀ e ∈ G, e.2 = (pre.filter fun p => decide (p.1 = e.1)).map (·.2)) (hk : ∀ p ∈ pre, p.1 ∈ G.map (·.1)) :
    (∀ e ∈ bump G n k, e.2 = ((pre ++ [(n, k)]).filter fun p => decide (p.1 = e.1)).map (·.2)) ∧ ∀ p ∈ pre ++ [(n, k)], p.1 ∈ (bump G n k).map (·.1) := by
  refine ⟨fun e he => ?_, fun p hp => ?_⟩
  · unfold bump at he
    by_cases c : n ∈ G.map (·.1)
    · rw [if_pos c] at he
      obtain ⟨q, hq, eq⟩ := List.mem_map.mp he
      by_cases d : q.1 = n
      · rw [if_pos d] at eq
        subst eq
        rw [List.filter_append, List.map_append, ← h q hq]
        simp [d]
      · rw [if_neg d] at eq
        subst eq
        rw [List.filter_append, List.map_append, ← h q hq]
        have : ¬ n = q.1 := fun z => d z.symm
        simp [this]
    · rw [if_neg c] at he
      rcases List.mem_append.mp he with he | he
      · have : ¬ n = e.1 := fun z => c (List.mem_map.mpr ⟨e, he, z.symm⟩)
        rw [List.filter_append, List.map_append, ← h e he]
        simp [this]
      · have : e = (n, [k]) := by simpa using he
        subst this
        have : pre.filter (fun p => decide (p.1 = n)) = [] := List.filter_eq_nil_iff.mpr fun p hp z => c (of_decide_eq_true z ▸ hk p hp)
        rw [List.filter_append, this]
        simp
  · rw [bump_keys]
    rcases List.mem_append.mp hp with hp | hp
    · exact .inl (hk p hp)
    · have : p = (n, k) := by simpa using hp
      exact .inr (by rw [this])
theorem bumps_entry_go : ∀ {l : List (Int × Int)} {G : Grp} {pre : List (Int × Int)}, (∀ e ∈ G, e.2 = (pre.filter fun p => decide (p.1 = e.1)).map (·.2)) → (∀ p ∈ pre, p.1 ∈ G.map (·.1)) →
    (∀ e ∈ bumps G l, e.2 = ((pre ++ l).filter fun p => decide (p.1 = e.1)).map (·.2)) ∧ ∀ p ∈ pre ++ l, p.1 ∈ (bumps G l).map (·.1)
  | [], G, pre, h, hk => by
    rw [List.append_nil]
    exact ⟨h, hk⟩
  | q :: l, G, pre, h, hk => by
    obtain ⟨h1, h2⟩ := bump_entry (n := q.1) (k := q.2) h hk
    have := bumps_entry_go (l := l) h1 h2
    rw [List.append_assoc] at this
    exact this
theorem bumps_entry {l : List (Int × Int)} : (∀ e ∈ bumps [] l, e.2 = (l.filter fun p => decide (p.1 = e.1)).map (·.2)) ∧ ∀ p ∈ l, p.1 ∈ (bumps [] l).map (·.1) := by
  have := bumps_entry_go (l := l) (G := []) (pre := []) (by simp) (by simp)
  rwa [List.nil_append] at this
theorem bumps_ne {l : List (Int × Int)} : ∀ e ∈ bumps [] l, e.2 ≠ [] := fun e he => by
  obtain ⟨h1, h2⟩ := bumps_entry (l := l)
  have := bumps_keys (l := l) (G := []) (x := e.1) (List.mem_map.mpr ⟨e, he, rfl⟩)
  rcases this with z | ⟨p, hp, ep⟩
  · cases z
  · rw [h1 e he]
    intro z
    have : p.2 ∈ (l.filter fun q => decide (q.1 = e.1)).map (·.2) := List.mem_map.mpr ⟨p, List.mem_filter.mpr ⟨hp, decide_eq_true ep.symm⟩, rfl⟩
    rw [z] at this
    cases this

/-! ### groups -/
def byNew (R : Tab) : Grp := bumps [] (R.map fun p => (p.2, p.1))
def groupsRaw (R : Tab) : List (List Int) := ((byNew R).filter fun e => decide (1 < e.2.length)).map (·.2)
theorem byNew_append {R1 R2 : Tab} (h : Sep R1 R2) : byNew (R1 ++ R2) = byNew R1 ++ byNew R2 := by
  unfold byNew
  rw [List.map_append]
  refine bumps_split fun p hp q hq => ?_
  obtain ⟨c, h1, h2⟩ := h
  obtain ⟨p', hp', rfl⟩ := List.mem_map.mp hp
  obtain ⟨q', hq', rfl⟩ := List.mem_map.mp hq
  have := (h1 p' hp').2
  have := (h2 q' hq').2
  simp only
  omega
theorem groups_append {R1 R2 : Tab} (h : Sep R1 R2) : groupsRaw (R1 ++ R2) = groupsRaw R1 ++ groupsRaw R2 := by
  unfold groupsRaw
  rw [byNew_append h, List.filter_append, List.map_append]
theorem byNew_sub {R : Tab} {e : Int × List Int} (h : e ∈ byNew R) : ∀ x ∈ e.2, (x, e.1) ∈ R := fun x hx => by
  rw [bumps_entry.1 e h] at hx
  obtain ⟨p, hp, rfl⟩ := List.mem_map.mp hx
  obtain ⟨h1, h2⟩ := List.mem_filter.mp hp
  obtain ⟨q, hq, rfl⟩ := List.mem_map.mp h1
  have := of_decide_eq_true h2
  simp only at this
  rw [← this]
  exact hq
theorem groups_sub {R : Tab} {g : List Int} (h : g ∈ groupsRaw R) : g ≠ [] ∧ 1 < g.length ∧ ∀ x ∈ g, x ∈ keys R := by
  obtain ⟨e, he, rfl⟩ := List.mem_map.mp h
  obtain ⟨h1, h2⟩ := List.mem_filter.mp he
  exact ⟨bumps_ne e h1, of_decide_eq_true h2, fun x hx => List.mem_map.mpr ⟨_, byNew_sub h1 x hx, rfl⟩⟩
theorem nodup_two {α : Type} {l : List α} {a b : α} (ha : a ∈ l) (hb : b ∈ l) (h : a ≠ b) : 1 < l.length := by
  match l with
  | [] => cases ha
  | [x] =>
    have e1 : a = x := by simpa using ha
    have e2 : b = x := by simpa using hb
    exact absurd (e1.trans e2.symm) h
  | _ :: _ :: _ => simp
/-- no group: two rows with one new key are one -/
theorem no_compete {R : Tab} (h : groupsRaw R = []) {a b n : Int} (ha : (a, n) ∈ R) (hb : (b, n) ∈ R) : a = b := by
  apply Classical.byContradiction
  intro hne
  obtain ⟨h1, h2⟩ := bumps_entry (l := R.map fun p => (p.2, p.1))
  obtain ⟨e, he, ee⟩ := List.mem_map.mp (h2 (n, a) (List.mem_map.mpr ⟨_, ha, rfl⟩))
  have ma : a ∈ e.2 := by
    rw [h1 e he]
    exact List.mem_map.mpr ⟨(n, a), List.mem_filter.mpr ⟨List.mem_map.mpr ⟨_, ha, rfl⟩, decide_eq_true ee.symm⟩, rfl⟩
  have mb : b ∈ e.2 := by
    rw [h1 e he]
    exact List.mem_map.mpr ⟨(n, b), List.mem_filter.mpr ⟨List.mem_map.mpr ⟨_, hb, rfl⟩, decide_eq_true ee.symm⟩, rfl⟩
  have : e.2 ∈ groupsRaw R := List.mem_map.mpr ⟨e, List.mem_filter.mpr ⟨he, decide_eq_true (nodup_two ma mb hne)⟩, rfl⟩
  rw [h] at this
  cases this

/-! ### trees -/
/-- a path's end is free -/
def freeEnd (R : Tab) (k : Int) : Bool := decide (waited R (lastOf (path R k)) = none) && decide (R.lookup (lastOf (path R k)) ≠ some (lastOf (path R k)))
def endNew (R : Tab) (k : Int) : Int := (R.lookup (lastOf (path R k))).getD 0
def treeRows (R : Tab) : List (Int × Int) := ((keys R).filter (freeEnd R)).map fun k => (endNew R k, k)
def treesRaw (R : Tab) : Grp := bumps [] (treeRows R)
theorem last_key {R : Tab} {k : Int} (hk : k ∈ keys R) (hl : R.length ≤ 40) : lastOf (path R k) ∈ keys R := (path_ok hk hl).1.sub _ (lastOf_mem (path_ok hk hl).1.ne)
theorem endNew_mem {R : Tab} {k : Int} (hk : k ∈ keys R) (hl : R.length ≤ 40) : (lastOf (path R k), endNew R k) ∈ R := by
  obtain ⟨n, e⟩ := lookup_some (last_key hk hl)
  unfold endNew
  rw [e]
  exact lookup_mem e
theorem treeRows_append {R1 R2 : Tab} (h : Sep R1 R2) (h1 : R1.length ≤ 40) (h2 : R2.length ≤ 40) : treeRows (R1 ++ R2) = treeRows R1 ++ treeRows R2 := by
  unfold treeRows
  rw [keys_append, List.filter_append, List.map_append]
  have a : ∀ x ∈ keys R1, freeEnd (R1 ++ R2) x = freeEnd R1 x := fun x hx => by
    unfold freeEnd
    rw [path_l h hx, waited_l h (last_key hx h1), lookup_append_l (last_key hx h1)]
  have b : ∀ x ∈ keys R2, freeEnd (R1 ++ R2) x = freeEnd R2 x := fun x hx => by
    unfold freeEnd
    rw [path_r h hx, waited_r h (last_key hx h2), lookup_append_r (h.not_l (last_key hx h2))]
  have a' : ∀ x ∈ keys R1, endNew (R1 ++ R2) x = endNew R1 x := fun x hx => by
    unfold endNew
    rw [path_l h hx, lookup_append_l (last_key hx h1)]
  have b' : ∀ x ∈ keys R2, endNew (R1 ++ R2) x = endNew R2 x := fun x hx => by
    unfold endNew
    rw [path_r h hx, lookup_append_r (h.not_l (last_key hx h2))]
  rw [filter_congr_mem a, filter_congr_mem b, map_congr_mem (g := fun k => (endNew R1 k, k)) fun x hx => by rw [a' x (List.mem_filter.mp hx).1],
    map_congr_mem (f := fun k => (endNew (R1 ++ R2) k, k)) (g := fun k => (endNew R2 k, k)) fun x hx => by rw [b' x (List.mem_filter.mp hx).1]]
theorem treeRow_mem {R : Tab} (hl : R.length ≤ 40) {p : Int × Int} (hp : p ∈ treeRows R) : ∃ x, (x, p.1) ∈ R ∧ p.2 ∈ keys R := by
  obtain ⟨k, hk, rfl⟩ := List.mem_map.mp hp
  have := (List.mem_filter.mp hk).1
  exact ⟨_, endNew_mem this hl, this⟩
theorem trees_append {R1 R2 : Tab} (h : Sep R1 R2) (h1 : R1.length ≤ 40) (h2 : R2.length ≤ 40) : treesRaw (R1 ++ R2) = treesRaw R1 ++ treesRaw R2 := by
  unfold treesRaw
  rw [treeRows_append h h1 h2]
  refine bumps_split fun p hp q hq => ?_
  obtain ⟨x, hx, _⟩ := treeRow_mem h1 hp
  obtain ⟨y, hy, _⟩ := treeRow_mem h2 hq
  obtain ⟨c, a, b⟩ := h
  have := (a _ hx).2
  have := (b _ hy).2
  simp only at *
  omega
theorem trees_new {R : Tab} (hl : R.length ≤ 40) {e : Int × List Int} (he : e ∈ treesRaw R) : ∃ x, (x, e.1) ∈ R := by
  rcases bumps_keys (l := treeRows R) (G := []) (x := e.1) (List.mem_map.mpr ⟨e, he, rfl⟩) with z | ⟨p, hp, ep⟩
  · cases z
  · obtain ⟨x, hx, _⟩ := treeRow_mem hl hp
    exact ⟨x, ep ▸ hx⟩

/-! ### free tables -/
def Free (R : Tab) : Prop := groupsRaw R = [] ∧ ringsOf R = []
instance (R : Tab) : Decidable (Free R) := inferInstanceAs (Decidable (_ ∧ _))
theorem free_append {R1 R2 : Tab} (h : Sep R1 R2) (h1 : R1.length ≤ 40) (h2 : R2.length ≤ 40) : Free (R1 ++ R2) ↔ Free R1 ∧ Free R2 := by
  unfold Free
  rw [groups_append h, rings_append h h1 h2, List.append_eq_nil_iff, List.append_eq_nil_iff]
  constructor
  · rintro ⟨⟨a, b⟩, c, d⟩
    exact ⟨⟨a, c⟩, b, d⟩
  · rintro ⟨⟨a, c⟩, b, d⟩
    exact ⟨⟨a, b⟩, c, d⟩

/-! ### the first order -/
def readyOf (R : Tab) (done : List Int) : List Int := (keys R).filter fun k => !decide (k ∈ done) && (match waited R k with
  | none => true
  | some r => decide (r ∈ done))
def Passes (R : Tab) (o : List Int) : Prop := ∀ (a : List Int) (x : Int) (b : List Int), o = a ++ x :: b → ∀ r, waited R x = some r → r ∈ a
theorem Passes.nil {R : Tab} : Passes R [] := fun a x b e => by simp at e
theorem Passes.snoc {R : Tab} {o : List Int} {x : Int} (h : Passes R o) (hx : ∀ r, waited R x = some r → r ∈ o) : Passes R (o ++ [x]) := fun a y b e r hr => by
  rcases List.eq_nil_or_concat b with rfl | ⟨b', z, rfl⟩
  · have e' : o ++ [x] = a ++ [y] := e
    obtain ⟨e1, e2⟩ := List.append_inj' e' rfl
    have e3 : x = y := by simpa using e2
    subst e1 e3
    exact hx r hr
  · have e' : o ++ [x] = (a ++ y :: b') ++ [z] := by rw [e]; simp
    obtain ⟨e1, _⟩ := List.append_inj' e' rfl
    exact h a y b' e1 r hr
theorem not_sub : ∀ {l S : List Int}, l.Nodup → S.length < l.length → ∃ x ∈ l, x ∉ S := fun {l S} nd h => Classical.byContradiction fun z => by
  have := nodup_len nd (S := S) fun x hx => Classical.byContradiction fun nx => z ⟨x, hx, nx⟩
  omega
theorem keys_len (R : Tab) : (keys R).length = R.length := List.length_map ..
/-- the last of a path's rows that is not done is ready -/
theorem ready_on {R : Tab} {done : List Int} : ∀ (p : List Int), p ≠ [] → Chn (waited R) p → waited R (lastOf p) = none → (∃ x, p.head? = some x ∧ x ∉ done) → (∀ x ∈ p, x ∈ keys R) → ∃ y, y ∈ readyOf R done
  | [], h, _, _, _, _ => absurd rfl h
  | [a], _, _, hl, ⟨x, hx, nx⟩, hk => by
    have e : a = x := by simpa using hx
    subst e
    have hl' : waited R a = none := hl
    refine ⟨a, List.mem_filter.mpr ⟨hk a (by simp), ?_⟩⟩
    rw [hl']
    simp [nx]
  | a :: b :: p, _, hc, hl, ⟨x, hx, nx⟩, hk => by
    have e : a = x := by simpa using hx
    subst e
    have hab : waited R a = some b := hc 0 a b rfl rfl
    by_cases c : b ∈ done
    · refine ⟨a, List.mem_filter.mpr ⟨hk a (by simp), ?_⟩⟩
      rw [hab]
      simp [nx, c]
    · refine ready_on (b :: p) (by simp) (fun i u v hu hv => hc (i + 1) u v (by simpa using hu) (by simpa using hv)) ?_ ⟨b, rfl, c⟩ fun y hy => hk y (List.mem_cons_of_mem _ hy)
      have : lastOf (a :: b :: p) = lastOf (b :: p) := by
        unfold lastOf
        rfl
      rw [← this]
      exact hl
theorem ready_ne {R : Tab} (nd : (keys R).Nodup) (hl : R.length ≤ 40) (hr : ringsOf R = []) {done : List Int} (hd : done.length < R.length) : readyOf R done ≠ [] := by
  obtain ⟨x, hx, nx⟩ := not_sub nd (S := done) (by rw [keys_len]; exact hd)
  obtain ⟨ok, ⟨t, et⟩, _⟩ := path_ok hx hl
  obtain ⟨y, hy⟩ := ready_on (path R x) ok.ne ok.chn (path_ends hl hr hx) ⟨x, by rw [et]; rfl, nx⟩ ok.sub
  intro z
  rw [z] at hy
  cases hy
theorem ready_mem {R : Tab} {done : List Int} {y : Int} (h : y ∈ readyOf R done) : y ∈ keys R ∧ y ∉ done ∧ ∀ r, waited R y = some r → r ∈ done := by
  obtain ⟨h1, h2⟩ := List.mem_filter.mp h
  rw [Bool.and_eq_true] at h2
  refine ⟨h1, by simpa using h2.1, fun r hr => ?_⟩
  have h3 := h2.2
  rw [hr] at h3
  exact of_decide_eq_true h3

/-! ### mixed orders -/
inductive Shuf : List Int → List Int → List Int → Prop
  | nil : Shuf [] [] []
  | inl {a b c : List Int} {x : Int} : Shuf a b c → Shuf (a ++ [x]) b (c ++ [x])
  | inr {a b c : List Int} {x : Int} : Shuf a b c → Shuf a (b ++ [x]) (c ++ [x])
theorem Shuf.perm {a b c : List Int} (h : Shuf a b c) : c.Perm (a ++ b) := by
  induction h with
  | nil => exact List.Perm.refl _
  | @inl a b c x _ ih =>
    refine (ih.append_right [x]).trans ?_
    rw [List.append_assoc, List.append_assoc]
    exact List.Perm.append_left a List.perm_append_comm
  | @inr a b c x _ ih =>
    rw [← List.append_assoc]
    exact ih.append_right [x]
theorem Shuf.mem {a b c : List Int} (h : Shuf a b c) {x : Int} : x ∈ c ↔ x ∈ a ∨ x ∈ b := by rw [h.perm.mem_iff, List.mem_append]
theorem Passes.front {R : Tab} {o : List Int} {x : Int} (h : Passes R (o ++ [x])) : Passes R o := fun a y b e r hr => h a y (b ++ [x]) (by rw [e]; simp) r hr
theorem Passes.end_ {R : Tab} {o : List Int} {x : Int} (h : Passes R (o ++ [x])) : ∀ r, waited R x = some r → r ∈ o := h o x [] rfl
theorem passes_shuf {R1 R2 : Tab} (h : Sep R1 R2) {a b c : List Int} (hs : Shuf a b c) : (∀ x ∈ a, x ∈ keys R1) → (∀ x ∈ b, x ∈ keys R2) → Passes R1 a → Passes R2 b → Passes (R1 ++ R2) c := by
  induction hs with
  | nil => exact fun _ _ _ _ => Passes.nil
  | @inl a b c x hs ih =>
    intro ha hb pa pb
    refine (ih (fun y hy => ha y (List.mem_append_left _ hy)) hb pa.front pb).snoc fun r hr => ?_
    rw [waited_l h (ha x (by simp))] at hr
    exact hs.mem.mpr (.inl (pa.end_ r hr))
  | @inr a b c x hs ih =>
    intro ha hb pa pb
    refine (ih ha (fun y hy => hb y (List.mem_append_left _ hy)) pa pb.front).snoc fun r hr => ?_
    rw [waited_r h (hb x (by simp))] at hr
    exact hs.mem.mpr (.inr (pb.end_ r hr))

/-! ### how many orders pass -/
def fact : Nat → Nat
  | 0 => 1
  | n + 1 => (n + 1) * fact n
theorem fact_pos : ∀ n, 0 < fact n
  | 0 => Nat.one_pos
  | n + 1 => Nat.mul_pos (Nat.succ_pos n) (fact_pos n)
/-- n + k over k -/
def ch : Nat → Nat → Nat
  | _, 0 => 1
  | 0, _ + 1 => 1
  | n + 1, k + 1 => ch n (k + 1) + ch (n + 1) k
theorem ch_fact : ∀ n k, ch n k * (fact n * fact k) = fact (n + k)
  | n, 0 => by
    cases n <;> simp [ch, fact]
  | 0, k + 1 => by simp [ch, fact]
  | n + 1, k + 1 => by
    have h1 := ch_fact n (k + 1)
    have h2 := ch_fact (n + 1) k
    have e1 : fact (n + 1) = (n + 1) * fact n := rfl
    have e2 : fact (k + 1) = (k + 1) * fact k := rfl
    have e3 : fact (n + 1 + (k + 1)) = (n + 1 + k + 1) * fact (n + 1 + k) := rfl
    have e4 : n + (k + 1) = n + 1 + k := by omega
    rw [e4] at h1
    rw [show ch (n + 1) (k + 1) = ch n (k + 1) + ch (n + 1) k by rw [ch], Nat.add_mul, e3]
    have a1 : ch n (k + 1) * (fact (n + 1) * fact (k + 1)) = (n + 1) * fact (n + 1 + k) := by
      rw [← h1, e1]
      simp only [Nat.mul_assoc, Nat.mul_left_comm]
    have a2 : ch (n + 1) k * (fact (n + 1) * fact (k + 1)) = (k + 1) * fact (n + 1 + k) := by
      rw [← h2, e2]
      simp only [Nat.mul_assoc, Nat.mul_left_comm]
    rw [a1, a2, ← Nat.add_mul]
    congr 1
theorem fact_dvd (n k : Nat) : fact n * fact k ∣ fact (n + k) := ⟨ch n k, by rw [← ch_fact n k, Nat.mul_comm]⟩
theorem fact_mono_dvd {n m : Nat} (h : n ≤ m) : fact n ∣ fact m := by
  obtain ⟨k, rfl⟩ := Nat.exists_eq_add_of_le h
  exact Nat.dvd_trans (Nat.dvd_mul_right _ _) (fact_dvd n k)
def prodF (l : List (List Int)) : Nat := l.foldr (fun c n => fact c.length * n) 1
theorem prodF_append : ∀ (l m : List (List Int)), prodF (l ++ m) = prodF l * prodF m
  | [], m => by simp [prodF]
  | c :: l, m => by
    show fact c.length * prodF (l ++ m) = fact c.length * prodF l * prodF m
    rw [prodF_append l m, Nat.mul_assoc]
theorem prodF_dvd : ∀ (l : List (List Int)), prodF l ∣ fact l.flatten.length
  | [] => by simp [prodF]
  | c :: l => by
    rw [List.flatten_cons, List.length_append]
    exact Nat.dvd_trans (Nat.mul_dvd_mul (Nat.dvd_refl _) (prodF_dvd l)) (fact_dvd _ _)
def divs (n : Nat) (l : List (List Int)) : Nat := l.foldl (fun n c => n / fact c.length) n
theorem divs_eq : ∀ (l : List (List Int)) (n : Nat), divs n l = n / prodF l
  | [], n => by simp [divs, prodF]
  | c :: l, n => by
    show divs (n / fact c.length) l = n / (fact c.length * prodF l)
    rw [divs_eq l, Nat.div_div_eq_div_mul]
def waitsFor (R : Tab) (k : Int) : List Int := (R.filter fun p => decide (p.2 = k) && !decide (p.1 = k)).map (·.1)
def chainsOf (R : Tab) : List (List Int) := ((keys R).filter fun k => decide (waitsFor R k = [])).map (path R)
def ordersOf (R : Tab) : Nat := if Free R then divs (fact R.length) (chainsOf R) else 0
theorem iter_inj {R : Tab} (nd : (keys R).Nodup) (hg : groupsRaw R = []) : ∀ {n : Nat} {a b x : Int}, iter (waited R) n a = some x → iter (waited R) n b = some x → a = b
  | 0, a, b, x, h1, h2 => by
    have e1 : some a = some x := h1
    have e2 : some b = some x := h2
    rw [Option.some.inj e1, Option.some.inj e2]
  | n + 1, a, b, x, h1, h2 => by
    have h1' : (iter (waited R) n a).bind (waited R) = some x := h1
    have h2' : (iter (waited R) n b).bind (waited R) = some x := h2
    cases e1 : iter (waited R) n a with
    | none =>
      rw [e1] at h1'
      cases h1'
    | some u =>
      cases e2 : iter (waited R) n b with
      | none =>
        rw [e2] at h2'
        cases h2'
      | some v =>
        rw [e1] at h1'
        rw [e2] at h2'
        have wu : waited R u = some x := h1'
        have wv : waited R v = some x := h2'
        have euv : u = v := no_compete hg (lookup_mem (waited_some wu).1) (lookup_mem (waited_some wv).1)
        subst euv
        exact iter_inj nd hg e1 e2
theorem iter_waiter {R : Tab} {n : Nat} {a b : Int} (h : iter (waited R) (n + 1) b = some a) : waitsFor R a ≠ [] := by
  have h' : (iter (waited R) n b).bind (waited R) = some a := h
  cases e : iter (waited R) n b with
  | none =>
    rw [e] at h'
    cases h'
  | some u =>
    rw [e] at h'
    have wu : waited R u = some a := h'
    obtain ⟨w1, w2, _⟩ := waited_some wu
    intro z
    have : u ∈ waitsFor R a := List.mem_map.mpr ⟨(u, a), List.mem_filter.mpr ⟨lookup_mem w1, by
      have : ¬ u = a := fun q => w2 q.symm
      simp [this]⟩, rfl⟩
    rw [z] at this
    cases this
theorem path_iter {R : Tab} {k x : Int} (hk : k ∈ keys R) (hl : R.length ≤ 40) (hx : x ∈ path R k) : ∃ i, iter (waited R) i k = some x := by
  obtain ⟨ok, ⟨t, et⟩, _⟩ := path_ok hk hl
  obtain ⟨i, hi, ei⟩ := List.mem_iff_getElem.mp hx
  exact ⟨i, iter_chn ok.chn (i := 0) (by rw [et]; rfl) (by rw [Nat.zero_add, List.getElem?_eq_getElem hi, ei])⟩
theorem chains_apart {R : Tab} (nd : (keys R).Nodup) (hl : R.length ≤ 40) (hg : groupsRaw R = []) {a b x : Int} (ha : a ∈ keys R) (hb : b ∈ keys R) (wa : waitsFor R a = []) (wb : waitsFor R b = []) (xa : x ∈ path R a) (xb : x ∈ path R b) : a = b := by
  obtain ⟨i, hi⟩ := path_iter ha hl xa
  obtain ⟨j, hj⟩ := path_iter hb hl xb
  rcases Nat.lt_trichotomy i j with c | c | c
  · exfalso
    obtain ⟨d, rfl⟩ : ∃ d, j = d + 1 + i := ⟨j - i - 1, by omega⟩
    cases e : iter (waited R) (d + 1) b with
    | none =>
      have all : ∀ m, iter (waited R) (d + 1 + m) b = none := fun m => by
        induction m with
        | zero => exact e
        | succ m ih =>
          show (iter (waited R) (d + 1 + m) b).bind _ = none
          rw [ih]
          rfl
      rw [all i] at hj
      cases hj
    | some y =>
      rw [iter_add e] at hj
      have := iter_inj nd hg hj hi
      subst this
      exact iter_waiter e wa
  · subst c
    exact iter_inj nd hg hi hj
  · exfalso
    obtain ⟨d, rfl⟩ : ∃ d, i = d + 1 + j := ⟨i - j - 1, by omega⟩
    cases e : iter (waited R) (d + 1) a with
    | none =>
      have all : ∀ m, iter (waited R) (d + 1 + m) a = none := fun m => by
        induction m with
        | zero => exact e
        | succ m ih =>
          show (iter (waited R) (d + 1 + m) a).bind _ = none
          rw [ih]
          rfl
      rw [all j] at hi
      cases hi
    | some y =>
      rw [iter_add e] at hi
      have := iter_inj nd hg hi hj
      subst this
      exact iter_waiter e wb
theorem flatten_nodup {f : Int → List Int} : ∀ {l : List Int}, l.Nodup → (∀ a ∈ l, (f a).Nodup) → (∀ a ∈ l, ∀ b ∈ l, ∀ x, x ∈ f a → x ∈ f b → a = b) → (l.map f).flatten.Nodup
  | [], _, _, _ => List.nodup_nil
  | a :: l, nd, h1, h2 => by
    have nd' := List.nodup_cons.mp nd
    rw [List.map_cons, List.flatten_cons, List.nodup_append]
    refine ⟨h1 a List.mem_cons_self, flatten_nodup nd'.2 (fun b hb => h1 b (List.mem_cons_of_mem _ hb)) fun b hb c hc => h2 b (List.mem_cons_of_mem _ hb) c (List.mem_cons_of_mem _ hc), fun x hx y hy e => ?_⟩
    subst e
    obtain ⟨m, hm, hxm⟩ := List.mem_flatten.mp hy
    obtain ⟨b, hb, rfl⟩ := List.mem_map.mp hm
    have := h2 a List.mem_cons_self b (List.mem_cons_of_mem _ hb) x hx hxm
    exact nd'.1 (this ▸ hb)
theorem chains_len {R : Tab} (nd : (keys R).Nodup) (hl : R.length ≤ 40) (hg : groupsRaw R = []) : (chainsOf R).flatten.length ≤ R.length := by
  rw [← keys_len R]
  refine nodup_len ?_ fun x hx => ?_
  · refine flatten_nodup (nd.filter _) (fun a ha => (path_ok (List.mem_filter.mp ha).1 hl).1.nd) fun a ha b hb x xa xb => ?_
    obtain ⟨a1, a2⟩ := List.mem_filter.mp ha
    obtain ⟨b1, b2⟩ := List.mem_filter.mp hb
    exact chains_apart nd hl hg a1 b1 (of_decide_eq_true a2) (of_decide_eq_true b2) xa xb
  · obtain ⟨m, hm, hxm⟩ := List.mem_flatten.mp hx
    obtain ⟨b, hb, rfl⟩ := List.mem_map.mp hm
    exact (path_ok (List.mem_filter.mp hb).1 hl).1.sub x hxm
theorem chains_dvd {R : Tab} (nd : (keys R).Nodup) (hl : R.length ≤ 40) (hg : groupsRaw R = []) : prodF (chainsOf R) ∣ fact R.length :=
  Nat.dvd_trans (prodF_dvd _) (fact_mono_dvd (chains_len nd hl hg))
theorem waitsFor_append (R1 R2 : Tab) (k : Int) : waitsFor (R1 ++ R2) k = waitsFor R1 k ++ waitsFor R2 k := by
  unfold waitsFor
  rw [List.filter_append, List.map_append]
theorem chains_append {R1 R2 : Tab} (h : Sep R1 R2) : chainsOf (R1 ++ R2) = chainsOf R1 ++ chainsOf R2 := by
  have z2 : ∀ k ∈ keys R1, waitsFor R2 k = [] := fun k hk => by
    obtain ⟨c, h1, h2⟩ := h
    obtain ⟨p, hp, rfl⟩ := List.mem_map.mp hk
    unfold waitsFor
    rw [List.map_eq_nil_iff, List.filter_eq_nil_iff]
    intro q hq e
    have := (h1 p hp).1
    have := (h2 q hq).2
    simp at e
    omega
  have z1 : ∀ k ∈ keys R2, waitsFor R1 k = [] := fun k hk => by
    obtain ⟨c, h1, h2⟩ := h
    obtain ⟨p, hp, rfl⟩ := List.mem_map.mp hk
    unfold waitsFor
    rw [List.map_eq_nil_iff, List.filter_eq_nil_iff]
    intro q hq e
    have := (h1 q hq).2
    have := (h2 p hp).1
    simp at e
    omega
  unfold chainsOf
  rw [keys_append, List.filter_append, List.map_append]
  rw [filter_congr_mem (l := keys R1) (q := fun k => decide (waitsFor R1 k = [])) fun k hk => by rw [waitsFor_append, z2 k hk, List.append_nil],
    filter_congr_mem (l := keys R2) (q := fun k => decide (waitsFor R2 k = [])) fun k hk => by rw [waitsFor_append, z1 k hk, List.nil_append],
    map_congr_mem (g := path R1) fun x hx => path_l h (List.mem_filter.mp hx).1, map_congr_mem (f := path (R1 ++ R2)) (g := path R2) fun x hx => path_r h (List.mem_filter.mp hx).1]
theorem prodF_pos : ∀ l : List (List Int), 0 < prodF l
  | [] => Nat.one_pos
  | c :: l => Nat.mul_pos (fact_pos _) (prodF_pos l)
/-- the passing orders of both: those of the one, those of the other, the ways to mix them -/
theorem orders_append {R1 R2 : Tab} (h : Sep R1 R2) (n1 : (keys R1).Nodup) (n2 : (keys R2).Nodup) (h1 : R1.length ≤ 40) (h2 : R2.length ≤ 40) :
    ordersOf (R1 ++ R2) = ordersOf R1 * ordersOf R2 * ch R2.length R1.length := by
  unfold ordersOf
  by_cases f1 : Free R1
  · by_cases f2 : Free R2
    · rw [if_pos ((free_append h h1 h2).mpr ⟨f1, f2⟩), if_pos f1, if_pos f2, chains_append h, divs_eq, divs_eq, divs_eq, prodF_append, List.length_append]
      obtain ⟨a, ea⟩ := chains_dvd n1 h1 f1.1
      obtain ⟨b, eb⟩ := chains_dvd n2 h2 f2.1
      rw [Nat.add_comm, ← ch_fact, ea, eb, Nat.mul_div_cancel_left _ (prodF_pos _), Nat.mul_div_cancel_left _ (prodF_pos _)]
      have : ch R2.length R1.length * (prodF (chainsOf R2) * b * (prodF (chainsOf R1) * a)) = prodF (chainsOf R1) * prodF (chainsOf R2) * (a * b * ch R2.length R1.length) := by
        simp only [Nat.mul_assoc, Nat.mul_left_comm, Nat.mul_comm]
      rw [this, Nat.mul_div_cancel_left _ (Nat.mul_pos (prodF_pos _) (prodF_pos _))]
    · rw [if_neg (fun z => f2 ((free_append h h1 h2).mp z).2), if_neg f2]
      simp
  · rw [if_neg (fun z => f1 ((free_append h h1 h2).mp z).1), if_neg f1]
    simp
/-- one turn of the product: n + i over i, times n + i + 1, by i + 1 -/
theorem ch_step (n i : Nat) : ch n (i + 1) * (i + 1) = ch n i * (n + i + 1) := by
  have h1 := ch_fact n (i + 1)
  have h2 := ch_fact n i
  have e2 : fact (i + 1) = (i + 1) * fact i := rfl
  have e3 : fact (n + (i + 1)) = (n + i + 1) * fact (n + i) := rfl
  rw [e2, e3, ← h2] at h1
  have hp : 0 < fact n * fact i := Nat.mul_pos (fact_pos _) (fact_pos _)
  refine Nat.eq_of_mul_eq_mul_right hp ?_
  have a1 : ch n (i + 1) * (i + 1) * (fact n * fact i) = ch n (i + 1) * (fact n * ((i + 1) * fact i)) := by
    simp only [Nat.mul_assoc, Nat.mul_left_comm, Nat.mul_comm]
  rw [a1, h1]
  simp only [Nat.mul_assoc, Nat.mul_left_comm, Nat.mul_comm]
theorem ch_div (n i : Nat) : ch n i * (n + i + 1) / (i + 1) = ch n (i + 1) := by
  rw [← ch_step, Nat.mul_div_cancel _ (Nat.succ_pos i)]

/-! ### stages -/
def maxD (R : Tab) : List Int → Nat
  | [] => 0
  | k :: l => max (path R k).length (maxD R l)
def level (R : Tab) (l : List Int) (d : Nat) : List Int := l.filter fun k => decide ((path R k).length = d + 1)
def levels (R : Tab) (l : List Int) : List (List Int) := (List.range (maxD R l)).map (level R l)
def stagesOf (R : Tab) : List (List Int) := levels R (keys R)
theorem maxD_append (R : Tab) : ∀ l m, maxD R (l ++ m) = max (maxD R l) (maxD R m)
  | [], m => by simp [maxD]
  | k :: l, m => by
    show max _ (maxD R (l ++ m)) = max (max _ (maxD R l)) (maxD R m)
    rw [maxD_append R l m]
    omega
theorem maxD_le {R : Tab} : ∀ {l : List Int} {k : Int}, k ∈ l → (path R k).length ≤ maxD R l
  | [], _, h => by cases h
  | a :: l, k, h => by
    show _ ≤ max (path R a).length (maxD R l)
    rcases List.mem_cons.mp h with e | h
    · subst e
      omega
    · have := maxD_le (R := R) h
      omega
theorem level_high {R : Tab} {l : List Int} {d : Nat} (h : maxD R l ≤ d) : level R l d = [] := by
  unfold level
  rw [List.filter_eq_nil_iff]
  intro k hk e
  have := maxD_le (R := R) hk
  have := of_decide_eq_true e
  omega
/-- the next row, put into its stage -/
theorem levels_snoc {R : Tab} {l : List Int} {k : Int} (hk : 1 ≤ (path R k).length) :
    levels R (l ++ [k]) = (levels R l ++ List.replicate ((path R k).length - maxD R l) []).modify ((path R k).length - 1) (· ++ [k]) := by
  apply List.ext_getElem?
  intro i
  rw [List.getElem?_modify]
  unfold levels
  have hm : maxD R (l ++ [k]) = max (maxD R l) (path R k).length := by
    rw [maxD_append]
    show max _ (max _ 0) = _
    omega
  have hl : ∀ d, level R (l ++ [k]) d = level R l d ++ if (path R k).length = d + 1 then [k] else [] := fun d => by
    unfold level
    rw [List.filter_append]
    by_cases c : (path R k).length = d + 1
    · simp [c]
    · simp [c]
  rw [List.getElem?_map, hm]
  by_cases c1 : i < max (maxD R l) (path R k).length
  · rw [List.getElem?_range c1]
    have key : ((List.range (maxD R l)).map (level R l) ++ List.replicate ((path R k).length - maxD R l) [])[i]? = some (level R l i) := by
      by_cases c2 : i < maxD R l
      · rw [List.getElem?_append_left (by simpa using c2), List.getElem?_map, List.getElem?_range c2]
        rfl
      · rw [List.getElem?_append_right (by simp; omega), level_high (by omega), List.getElem?_replicate]
        simp only [List.length_map, List.length_range]
        rw [if_pos (by omega)]
    rw [key]
    show some (level R (l ++ [k]) i) = (some (level R l i)).map _
    rw [Option.map_some, hl]
    by_cases c3 : (path R k).length - 1 = i
    · rw [if_pos c3, if_pos (by omega)]
    · rw [if_neg c3, if_neg (by omega), List.append_nil]
  · rw [List.getElem?_eq_none (by simp; omega), List.getElem?_eq_none (by simp; omega)]
    rfl
theorem levels_len (R : Tab) (l : List Int) : (levels R l).length = maxD R l := by simp [levels]
theorem maxD_congr {R R' : Tab} : ∀ {l : List Int}, (∀ k ∈ l, path R k = path R' k) → maxD R l = maxD R' l
  | [], _ => rfl
  | k :: l, h => by
    show max _ (maxD R l) = max _ (maxD R' l)
    rw [h k List.mem_cons_self, maxD_congr fun x hx => h x (List.mem_cons_of_mem _ hx)]
theorem level_congr {R R' : Tab} {l : List Int} (h : ∀ k ∈ l, path R k = path R' k) (d : Nat) : level R l d = level R' l d := filter_congr_mem fun k hk => by rw [h k hk]
theorem stages_append {R1 R2 : Tab} (h : Sep R1 R2) : stagesOf (R1 ++ R2) = (List.range (max (stagesOf R1).length (stagesOf R2).length)).map fun d => (stagesOf R1).getD d [] ++ (stagesOf R2).getD d [] := by
  have a : ∀ k ∈ keys R1, path (R1 ++ R2) k = path R1 k := fun k hk => path_l h hk
  have b : ∀ k ∈ keys R2, path (R1 ++ R2) k = path R2 k := fun k hk => path_r h hk
  have g : ∀ (R : Tab) (d : Nat), (stagesOf R).getD d [] = level R (keys R) d := fun R d => by
    unfold stagesOf levels
    rw [List.getD_eq_getElem?_getD, List.getElem?_map]
    by_cases c : d < maxD R (keys R)
    · rw [List.getElem?_range c]
      rfl
    · rw [List.getElem?_eq_none (by simpa using Nat.le_of_not_lt c), level_high (by omega)]
      rfl
  unfold stagesOf at *
  rw [levels_len, levels_len]
  conv => lhs; unfold levels
  rw [keys_append, maxD_append, maxD_congr a, maxD_congr b]
  apply List.map_congr_left
  intro d _
  rw [g R1, g R2]
  unfold level
  rw [List.filter_append, filter_congr_mem (l := keys R1) (q := fun k => decide ((path R1 k).length = d + 1)) fun k hk => by rw [a k hk],
    filter_congr_mem (l := keys R2) (q := fun k => decide ((path R2 k).length = d + 1)) fun k hk => by rw [b k hk]]
end RC

/-! KMath3 -/
/-! The plain law, part three: the rules that go on (Ignore, Replace), sorted lists, the drawn pairs. -/
namespace RC

/-! ### sorted rearrangements are one -/
theorem perm_asc_eq {α : Type} {r : α → α → Prop} (anti : ∀ a b, r a b → r b a → a = b) : ∀ {l m : List α}, l.Perm m → l.Pairwise r → m.Pairwise r → l = m
  | [], m, p, _, _ => (List.Perm.eq_nil p.symm).symm
  | a :: l, m, p, hl, hm => by
    cases m with
    | nil => exact absurd p.length_eq (by simp)
    | cons b m =>
      have hl' := List.pairwise_cons.mp hl
      have hm' := List.pairwise_cons.mp hm
      have e : a = b := by
        have ha : a ∈ b :: m := p.mem_iff.mp List.mem_cons_self
        have hb : b ∈ a :: l := p.mem_iff.mpr List.mem_cons_self
        rcases List.mem_cons.mp ha with e | ha
        · exact e
        · rcases List.mem_cons.mp hb with e | hb
          · exact e.symm
          · exact anti a b (hl'.1 b hb) (hm'.1 a ha)
      subst e
      rw [perm_asc_eq anti p.cons_inv hl'.2 hm'.2]
/-- rows in ascending order of their keys -/
def Asc (R : Tab) : Prop := R.Pairwise fun a b => a.1 < b.1
theorem Asc.nodup {R : Tab} (h : Asc R) : (keys R).Nodup := by
  unfold keys List.Nodup
  rw [List.pairwise_map]
  exact h.imp fun z e => by omega
theorem asc_keys {R : Tab} (h : Asc R) : (keys R).Pairwise (· < ·) := by
  unfold keys
  rw [List.pairwise_map]
  exact h
theorem asc_eq {R S : Tab} (h : Asc R) (g : Asc S) (p : R.Perm S) : R = S := by
  refine perm_asc_eq (r := fun a b => a.1 < b.1 ∨ a = b) (fun a b h1 h2 => ?_) p (h.imp .inl) (g.imp .inl)
  rcases h1 with h1 | h1
  · rcases h2 with h2 | h2
    · omega
    · exact h2.symm
  · exact h1
theorem Asc.append {R S : Tab} (h : Asc R) (g : Asc S) (s : Sep R S) : Asc (R ++ S) := by
  unfold Asc
  rw [List.pairwise_append]
  exact ⟨h, g, fun a ha b hb => s.kk (List.mem_map.mpr ⟨a, ha, rfl⟩) (List.mem_map.mpr ⟨b, hb, rfl⟩)⟩
theorem int_asc_eq {l m : List Int} (p : l.Perm m) (hl : l.Pairwise (· ≤ ·)) (hm : m.Pairwise (· ≤ ·)) : l = m := perm_asc_eq (fun a b h1 h2 => by omega) p hl hm

/-! ### the rules -/
abbrev Plc := Int → Option Int
def setP (pl : Plc) (k : Int) (v : Option Int) : Plc := fun x => if x = k then v else pl x
def holder (O : List Int) (pl : Plc) (k : Int) : Option Int := O.find? fun r => decide (pl r = some k)
def rstep (rep : Bool) (R : Tab) (O : List Int) (pl : Plc) (row : Int) : Plc :=
  if pl row = none ∨ R.lookup row = some row then pl else match holder O pl ((R.lookup row).getD 0) with
    | none => setP pl row (R.lookup row)
    | some h => if rep then setP (setP pl h none) row (R.lookup row) else pl
def rrun (rep : Bool) (R : Tab) (O l : List Int) : Plc := l.foldl (rstep rep R O) some
def endsOf (O : List Int) (pl : Plc) : List (Int × Int) := O.filterMap fun r => (pl r).map fun v => (r, v)
theorem find_shuf {p : Int → Bool} {a b c : List Int} (h : Shuf a b c) : (∀ x ∈ b, p x = false) → c.find? p = a.find? p := by
  induction h with
  | nil => exact fun _ => rfl
  | @inl a b c x _ ih =>
    intro hb
    rw [List.find?_append, List.find?_append, ih hb]
  | @inr a b c x _ ih =>
    intro hb
    rw [List.find?_append, ih fun y hy => hb y (List.mem_append_left _ hy)]
    have : [x].find? p = none := by
      rw [List.find?_cons, hb x (by simp)]
      rfl
    rw [this]
    cases a.find? p <;> rfl
theorem Shuf.symm {a b c : List Int} (h : Shuf a b c) : Shuf b a c := by
  induction h with
  | nil => exact .nil
  | inl _ ih => exact ih.inr
  | inr _ ih => exact ih.inl
theorem find_congr {p q : Int → Bool} : ∀ {l : List Int}, (∀ x ∈ l, p x = q x) → l.find? p = l.find? q
  | [], _ => rfl
  | a :: l, h => by
    rw [List.find?_cons, List.find?_cons, h a List.mem_cons_self, find_congr fun x hx => h x (List.mem_cons_of_mem _ hx)]
theorem setP_same {pl : Plc} {k : Int} {v : Option Int} : setP pl k v k = v := if_pos rfl
theorem setP_ne {pl : Plc} {k x : Int} {v : Option Int} (h : x ≠ k) : setP pl k v x = pl x := if_neg h
/-- both states told by the one and the other -/
structure Sim (c : Int) (O1 O2 : List Int) (pl p1 p2 : Plc) : Prop where
  e1 : ∀ r ∈ O1, pl r = p1 r
  e2 : ∀ r ∈ O2, pl r = p2 r
  l1 : ∀ r ∈ O1, ∀ v, p1 r = some v → v < c
  l2 : ∀ r ∈ O2, ∀ v, p2 r = some v → c ≤ v
section
variable {R1 R2 : Tab} {c : Int} {O1 O2 O : List Int} {rep : Bool}
theorem holder_mem {O : List Int} {pl : Plc} {k h : Int} (e : holder O pl k = some h) : h ∈ O ∧ pl h = some k := by
  refine ⟨List.mem_of_find?_eq_some e, ?_⟩
  have := List.find?_some e
  exact of_decide_eq_true this
/-- a step of the one -/
theorem sim_l (sh : Shuf O1 O2 O) (hc1 : ∀ p ∈ R1, p.1 < c ∧ p.2 < c) (k1 : ∀ x ∈ O1, x ∈ keys R1) (lo : ∀ x ∈ O1, x < c) (hi : ∀ x ∈ O2, c ≤ x) {pl p1 p2 : Plc} (S : Sim c O1 O2 pl p1 p2) {x : Int} (hx : x ∈ O1) :
    Sim c O1 O2 (rstep rep (R1 ++ R2) O pl x) (rstep rep R1 O1 p1 x) p2 := by
  have el : (R1 ++ R2).lookup x = R1.lookup x := lookup_append_l (k1 x hx)
  obtain ⟨n, en⟩ := lookup_some (k1 x hx)
  have hn : n < c := (hc1 _ (lookup_mem en)).2
  have eh : holder O pl n = holder O1 p1 n := by
    unfold holder
    rw [find_shuf sh fun y hy => decide_eq_false fun z => by
      rw [S.e2 y hy] at z
      have := S.l2 y hy n z
      omega]
    exact find_congr fun y hy => by rw [S.e1 y hy]
  unfold rstep
  rw [el, S.e1 x hx]
  by_cases t : p1 x = none ∨ R1.lookup x = some x
  · rw [if_pos t, if_pos t]
    exact S
  · rw [if_neg t, if_neg t, en]
    show Sim c O1 O2 (match holder O pl n with
      | none => setP pl x (some n)
      | some h => if rep then setP (setP pl h none) x (some n) else pl) (match holder O1 p1 n with
      | none => setP p1 x (some n)
      | some h => if rep then setP (setP p1 h none) x (some n) else p1) p2
    rw [eh]
    cases q : holder O1 p1 n with
    | none =>
      refine ⟨fun r hr => ?_, fun r hr => ?_, fun r hr v hv => ?_, S.l2⟩
      · by_cases e : r = x
        · subst e
          show setP pl r (some n) r = setP p1 r (some n) r
          rw [setP_same, setP_same]
        · show setP pl x (some n) r = setP p1 x (some n) r
          rw [setP_ne e, setP_ne e, S.e1 r hr]
      · have : r ≠ x := fun e => by
          have := lo x hx
          have := hi r hr
          omega
        show setP pl x (some n) r = p2 r
        rw [setP_ne this, S.e2 r hr]
      · have hv' : setP p1 x (some n) r = some v := hv
        by_cases e : r = x
        · subst e
          rw [setP_same] at hv'
          cases hv'
          exact hn
        · rw [setP_ne e] at hv'
          exact S.l1 r hr v hv'
    | some h =>
      obtain ⟨hh, _⟩ := holder_mem q
      cases rep with
      | false => exact S
      | true =>
        refine ⟨fun r hr => ?_, fun r hr => ?_, fun r hr v hv => ?_, S.l2⟩
        · show setP (setP pl h none) x (some n) r = setP (setP p1 h none) x (some n) r
          by_cases e : r = x
          · subst e
            rw [setP_same, setP_same]
          · rw [setP_ne e, setP_ne e]
            by_cases e2 : r = h
            · subst e2
              rw [setP_same, setP_same]
            · rw [setP_ne e2, setP_ne e2, S.e1 r hr]
        · have h1 : r ≠ x := fun e => by
            have := lo x hx
            have := hi r hr
            omega
          have h2 : r ≠ h := fun e => by
            have := lo h hh
            have := hi r hr
            omega
          show setP (setP pl h none) x (some n) r = p2 r
          rw [setP_ne h1, setP_ne h2, S.e2 r hr]
        · have hv' : setP (setP p1 h none) x (some n) r = some v := hv
          by_cases e : r = x
          · subst e
            rw [setP_same] at hv'
            cases hv'
            exact hn
          · rw [setP_ne e] at hv'
            by_cases e2 : r = h
            · subst e2
              rw [setP_same] at hv'
              cases hv'
            · rw [setP_ne e2] at hv'
              exact S.l1 r hr v hv'
/-- a step of the other -/
theorem sim_r (sh : Shuf O1 O2 O) (hc2 : ∀ p ∈ R2, c ≤ p.1 ∧ c ≤ p.2) (k2 : ∀ x ∈ O2, x ∈ keys R2) (n1 : ∀ x ∈ O2, x ∉ keys R1) (lo : ∀ x ∈ O1, x < c) (hi : ∀ x ∈ O2, c ≤ x) {pl p1 p2 : Plc} (S : Sim c O1 O2 pl p1 p2) {x : Int} (hx : x ∈ O2) :
    Sim c O1 O2 (rstep rep (R1 ++ R2) O pl x) p1 (rstep rep R2 O2 p2 x) := by
  have el : (R1 ++ R2).lookup x = R2.lookup x := lookup_append_r (n1 x hx)
  obtain ⟨n, en⟩ := lookup_some (k2 x hx)
  have hn : c ≤ n := (hc2 _ (lookup_mem en)).2
  have eh : holder O pl n = holder O2 p2 n := by
    unfold holder
    rw [find_shuf sh.symm fun y hy => decide_eq_false fun z => by
      rw [S.e1 y hy] at z
      have := S.l1 y hy n z
      omega]
    exact find_congr fun y hy => by rw [S.e2 y hy]
  unfold rstep
  rw [el, S.e2 x hx]
  by_cases t : p2 x = none ∨ R2.lookup x = some x
  · rw [if_pos t, if_pos t]
    exact S
  · rw [if_neg t, if_neg t, en]
    show Sim c O1 O2 (match holder O pl n with
      | none => setP pl x (some n)
      | some h => if rep then setP (setP pl h none) x (some n) else pl) p1 (match holder O2 p2 n with
      | none => setP p2 x (some n)
      | some h => if rep then setP (setP p2 h none) x (some n) else p2)
    rw [eh]
    cases q : holder O2 p2 n with
    | none =>
      refine ⟨fun r hr => ?_, fun r hr => ?_, S.l1, fun r hr v hv => ?_⟩
      · have : r ≠ x := fun e => by
          have := hi x hx
          have := lo r hr
          omega
        show setP pl x (some n) r = p1 r
        rw [setP_ne this, S.e1 r hr]
      · by_cases e : r = x
        · subst e
          show setP pl r (some n) r = setP p2 r (some n) r
          rw [setP_same, setP_same]
        · show setP pl x (some n) r = setP p2 x (some n) r
          rw [setP_ne e, setP_ne e, S.e2 r hr]
      · have hv' : setP p2 x (some n) r = some v := hv
        by_cases e : r = x
        · subst e
          rw [setP_same] at hv'
          cases hv'
          exact hn
        · rw [setP_ne e] at hv'
          exact S.l2 r hr v hv'
    | some h =>
      obtain ⟨hh, _⟩ := holder_mem q
      cases rep with
      | false => exact S
      | true =>
        refine ⟨fun r hr => ?_, fun r hr => ?_, S.l1, fun r hr v hv => ?_⟩
        · have h1 : r ≠ x := fun e => by
            have := hi x hx
            have := lo r hr
            omega
          have h2 : r ≠ h := fun e => by
            have := hi h hh
            have := lo r hr
            omega
          show setP (setP pl h none) x (some n) r = p1 r
          rw [setP_ne h1, setP_ne h2, S.e1 r hr]
        · show setP (setP pl h none) x (some n) r = setP (setP p2 h none) x (some n) r
          by_cases e : r = x
          · subst e
            rw [setP_same, setP_same]
          · rw [setP_ne e, setP_ne e]
            by_cases e2 : r = h
            · subst e2
              rw [setP_same, setP_same]
            · rw [setP_ne e2, setP_ne e2, S.e2 r hr]
        · have hv' : setP (setP p2 h none) x (some n) r = some v := hv
          by_cases e : r = x
          · subst e
            rw [setP_same] at hv'
            cases hv'
            exact hn
          · rw [setP_ne e] at hv'
            by_cases e2 : r = h
            · subst e2
              rw [setP_same] at hv'
              cases hv'
            · rw [setP_ne e2] at hv'
              exact S.l2 r hr v hv'
theorem sim_run (sh : Shuf O1 O2 O) (hc1 : ∀ p ∈ R1, p.1 < c ∧ p.2 < c) (hc2 : ∀ p ∈ R2, c ≤ p.1 ∧ c ≤ p.2) (k1 : ∀ x ∈ O1, x ∈ keys R1) (k2 : ∀ x ∈ O2, x ∈ keys R2) (n1 : ∀ x ∈ O2, x ∉ keys R1)
    (lo : ∀ x ∈ O1, x < c) (hi : ∀ x ∈ O2, c ≤ x) {a b s : List Int} (h : Shuf a b s) : (∀ x ∈ a, x ∈ O1) → (∀ x ∈ b, x ∈ O2) → Sim c O1 O2 (rrun rep (R1 ++ R2) O s) (rrun rep R1 O1 a) (rrun rep R2 O2 b) := by
  induction h with
  | nil => exact fun _ _ => ⟨fun _ _ => rfl, fun _ _ => rfl, fun r hr v e => by
      cases e
      exact lo r hr, fun r hr v e => by
      cases e
      exact hi r hr⟩
  | @inl a b s x _ ih =>
    intro ha hb
    have := sim_l (rep := rep) (R2 := R2) sh hc1 k1 lo hi (ih (fun y hy => ha y (List.mem_append_left _ hy)) hb) (ha x (by simp))
    unfold rrun at this ⊢
    rw [List.foldl_append, List.foldl_append]
    exact this
  | @inr a b s x _ ih =>
    intro ha hb
    have := sim_r (rep := rep) (R1 := R1) sh hc2 k2 n1 lo hi (ih ha fun y hy => hb y (List.mem_append_left _ hy)) (hb x (by simp))
    unfold rrun at this ⊢
    rw [List.foldl_append, List.foldl_append]
    exact this
end
theorem filterMap_congr_mem {α β : Type} {f g : α → Option β} : ∀ {l : List α}, (∀ x ∈ l, f x = g x) → l.filterMap f = l.filterMap g
  | [], _ => rfl
  | a :: l, h => by
    rw [List.filterMap_cons, List.filterMap_cons, h a List.mem_cons_self, filterMap_congr_mem fun x hx => h x (List.mem_cons_of_mem _ hx)]
/-- each row of the one ends as without the other -/
theorem ends_shuf {R1 R2 : Tab} (h : Sep R1 R2) {o1 o2 s : List Int} (sh : Shuf o1 o2 s) (k1 : ∀ x ∈ o1, x ∈ keys R1) (k2 : ∀ x ∈ o2, x ∈ keys R2) (rep : Bool) :
    (endsOf s (rrun rep (R1 ++ R2) s s)).Perm (endsOf o1 (rrun rep R1 o1 o1) ++ endsOf o2 (rrun rep R2 o2 o2)) := by
  have hh := h
  obtain ⟨c, h1, h2⟩ := h
  have S := sim_run (rep := rep) sh h1 h2 k1 k2 (fun x hx => hh.not_l (k2 x hx)) (fun x hx => by
    obtain ⟨p, hp, rfl⟩ := List.mem_map.mp (k1 x hx)
    exact (h1 p hp).1) (fun x hx => by
    obtain ⟨p, hp, rfl⟩ := List.mem_map.mp (k2 x hx)
    exact (h2 p hp).1) sh (fun _ z => z) fun _ z => z
  refine (sh.perm.filterMap _).trans ?_
  rw [List.filterMap_append]
  unfold endsOf
  rw [filterMap_congr_mem (l := o1) (g := fun r => (rrun rep R1 o1 o1 r).map fun v => (r, v)) fun x hx => by rw [S.e1 x hx],
    filterMap_congr_mem (l := o2) (g := fun r => (rrun rep R2 o2 o2 r).map fun v => (r, v)) fun x hx => by rw [S.e2 x hx]]

/-! ### the drawn pairs -/
structure Drawn (s : Int) (L : Tab) : Prop where
  ex : ∃ xs : Tab, L = xs.map (fun p => (p.1 * s, p.2 * s)) ∧ xs.length ≤ 20 ∧ (keys xs).Nodup ∧ ∀ p ∈ xs, (-100 < p.1 ∧ p.1 < 100) ∧ -100 < p.2 ∧ p.2 < 100
def bigIn (L : Tab) : Bool := L.any fun p => decide ((100000000000000000000 : Int) ≤ (p.1.natAbs : Int) + (p.2.natAbs : Int))
def nearT (L : Tab) : Tab := if bigIn L then L.map fun p => (p.1 / 100000000000000000000, p.2 / 100000000000000000000) else L
structure Near (L : Tab) : Prop where
  len : L.length ≤ 20
  nd : (keys L).Nodup
  bd : ∀ p ∈ L, (p.1.natAbs : Int) < 100000000000000000000 ∧ (p.2.natAbs : Int) < 100000000000000000000
theorem scaled_nodup {xs : Tab} {s : Int} (h : 0 < s) (nd : (keys xs).Nodup) : (keys (xs.map fun p => (p.1 * s, p.2 * s))).Nodup := by
  unfold keys at *
  rw [List.map_map]
  unfold List.Nodup at *
  rw [List.pairwise_map] at *
  refine nd.imp fun hne e => hne ?_
  have e' : _ * s = _ * s := e
  exact Int.eq_of_mul_eq_mul_right (by omega) e'
theorem abs_lt {x s : Int} (h1 : -100 < x) (h2 : x < 100) (h : 0 < s) : ((x * s).natAbs : Int) < 100 * s := by
  rw [Int.natAbs_mul]
  have : (x.natAbs : Int) ≤ 99 := by omega
  have e : (((x.natAbs * s.natAbs : Nat)) : Int) = (x.natAbs : Int) * s := by
    rw [Int.natCast_mul]
    congr 1
    omega
  rw [e]
  have := Int.mul_le_mul_of_nonneg_right this (show 0 ≤ s by omega)
  omega
theorem near_good {s : Int} {L : Tab} (hs : s = 1 ∨ s = 3 ∨ s = 1000000000 ∨ s = 10000000000000000000000000000) (h : Drawn s L) : Near (nearT L) := by
  obtain ⟨xs, rfl, hl, nd, hb⟩ := h.ex
  have h0 : 0 < s := by omega
  unfold nearT
  by_cases c : bigIn (xs.map fun p => (p.1 * s, p.2 * s)) = true
  · rw [if_pos c]
    have es : s = 10000000000000000000000000000 := by
      apply Classical.byContradiction
      intro ne
      unfold bigIn at c
      obtain ⟨p, hp, e⟩ := List.any_eq_true.mp c
      obtain ⟨q, hq, rfl⟩ := List.mem_map.mp hp
      have e := of_decide_eq_true e
      obtain ⟨⟨b1, b2⟩, b3, b4⟩ := hb q hq
      have := abs_lt b1 b2 h0
      have := abs_lt b3 b4 h0
      simp only at e
      omega
    have em : (xs.map fun p => (p.1 * s, p.2 * s)).map (fun p => (p.1 / 100000000000000000000, p.2 / 100000000000000000000)) = xs.map fun p => (p.1 * 100000000, p.2 * 100000000) := by
      rw [List.map_map]
      apply List.map_congr_left
      intro p _
      have k : ∀ x : Int, x * s / 100000000000000000000 = x * 100000000 := fun x => by
        rw [es]
        have : x * 10000000000000000000000000000 = x * 100000000 * 100000000000000000000 := by omega
        rw [this, Int.mul_ediv_cancel _ (by decide)]
      show (p.1 * s / _, p.2 * s / _) = _
      rw [k, k]
    rw [em]
    refine ⟨by rw [List.length_map]; exact hl, scaled_nodup (by decide) nd, fun p hp => ?_⟩
    obtain ⟨q, hq, rfl⟩ := List.mem_map.mp hp
    obtain ⟨⟨b1, b2⟩, b3, b4⟩ := hb q hq
    have := abs_lt (s := 100000000) b1 b2 (by decide)
    have := abs_lt (s := 100000000) b3 b4 (by decide)
    simp only
    omega
  · rw [if_neg c]
    refine ⟨by rw [List.length_map]; exact hl, scaled_nodup h0 nd, fun p hp => ?_⟩
    have c' : bigIn (xs.map fun p => (p.1 * s, p.2 * s)) = false := by simpa using c
    unfold bigIn at c'
    have := List.any_eq_false.mp c' p hp
    have := of_decide_eq_false (by simpa using this : decide ((100000000000000000000 : Int) ≤ (p.1.natAbs : Int) + (p.2.natAbs : Int)) = false)
    omega
/-- the other, moved far -/
def moved (far : Int) (L : Tab) : Tab := L.map fun p => (p.1 + far, p.2 + far)
theorem moved_nodup {far : Int} {L : Tab} (nd : (keys L).Nodup) : (keys (moved far L)).Nodup := by
  unfold keys moved at *
  rw [List.map_map]
  unfold List.Nodup at *
  rw [List.pairwise_map] at *
  exact nd.imp fun hne e => hne (by
    have e' : _ + far = _ + far := e
    omega)
theorem far_sep {L M R S : Tab} {m d : Int} (hL : ∀ p ∈ L, (p.1.natAbs : Int) ≤ m ∧ (p.2.natAbs : Int) ≤ m) (hM : ∀ p ∈ M, (p.1.natAbs : Int) ≤ m ∧ (p.2.natAbs : Int) ≤ m) (hd : 0 ≤ d) (hR : R.Perm L) (hS : S.Perm (moved (2 * m + 1 + d) M)) : Sep R S := by
  refine ⟨m + 1, fun p hp => ?_, fun p hp => ?_⟩
  · have := hL p (hR.mem_iff.mp hp)
    omega
  · obtain ⟨q, hq, rfl⟩ := List.mem_map.mp (hS.mem_iff.mp hp)
    have := hM q hq
    simp only
    omega
end RC

/-! KExt -/
/-! Rules of the layer that the program wants besides: the operators that an own class defines (in, [], len, +), sorted of data. -/
namespace RX
open PySem PySem.Spec PyProof.Rows L2

/-! ### an own method, called from within an operator -/
section
variable {X : Cx} {CX : CXT} {k : Nat} {C f : Addr} {fd : FuncData} {ps : List Str} {sp : Sp} {E : XK} {pins : List (Addr × Obj)} {σ : L2.St} {H : Hp} {s : Shared} {Q : VK} {A : Around}
theorem run_own {us : List Value} {vs : List V} (F : FnOk X.prog X.w X.K X.mg X.base CX k f fd ps sp) (hb : Binds X.K fd ps []) (hx : Passes CX X E)
    (hr : Room k A) (hA : A.frames = X.A.frames) (I : Inv X pins σ H s) (r : Vals vs us) (h : sp vs H Q E) :
    wpAny (model X.prog X.w) A (call (.ref f) us) (EP X pins σ Q) X.xe s := by
  have hl : us.length = ps.length := r.length.symm.trans (F.len _ _ _ _ h)
  have e0 : Env0 X.prog X.w X.K X.mg X.base A X.stack s H := by
    have e := I.env0
    exact ⟨hA.trans e.frames, e.mod, e.bs, e.bsz, e.funs, e.frf, e.hok, e.bare⟩
  have hbi : BindsTo s fd ⟨us, []⟩ (ps.zip us) := by
    have z := hb s us I.kIn (by rw [List.append_nil]; exact hl)
    rwa [List.append_nil] at z
  refine wpAny_call (codeAny_mono (F.run A X.stack s H ⟨us, []⟩ us vs Q E hr e0 hbi r h) fun q s' hq => ?_)
  match q, hq with
  | .error e, hq => exact hx pins σ H s e s' I hq
  | .ok (.ret u), hq => exact I.after hq
theorem inst_at {a dx : Addr} {fs : List (Str × V)} (I : Inv X pins σ H s) (h : H a = some (.ins C dx fs)) : ∃ od, PySem.W.InstAt s.heap a (PySem.W.instObj C dx) C od := by
  obtain ⟨mA, O, _⟩ := ins_get I.hok h
  obtain ⟨od, J, _⟩ := O.look
  exact ⟨_, J⟩

/-- x in o, o an instance of C: its own __contains__ -/
def rOIn (C : Addr) (sp : Sp) (E : XK) (g : Bool → Bool) : R2 := fun x y H Q => ∃ a dx fs, y = .ref a ∧ H a = some (.ins C dx fs) ∧ sp [.ref a, x] H (fun z H' => ∃ b, z = .bl b ∧ Q (.bl (g b)) H') E
theorem op_in_own (hm : Meth X.K C "__contains__" f) (F : FnOk X.prog X.w X.K X.mg X.base CX k f fd ps sp) (hr : Room k X.A) (hb : Binds X.K fd ps []) (hx : Passes CX X E) : OpR X (compareOp .In) (rOIn C sp E id) := by
  intro pins s σ H x y v u Q I rx ry hq
  obtain ⟨a, dx, fs, rfl, ha, hq⟩ := hq
  obtain rfl : u = Value.ref a := ry
  obtain ⟨od, J⟩ := inst_at I ha
  obtain ⟨m, hF⟩ := I.fr
  refine PySem.W.in_K hF I.ok.mod.kin J hm.at_ hm.fn (thn (run_own (us := [.ref a, v]) (vs := [.ref a, x]) F hb hx hr rfl I (.cons rfl (.cons rx .nil)) hq) fun r s' z => ?_)
  obtain ⟨z, H', I', rz, b, rfl, q⟩ := z
  cases rz
  exact wpAny_truthy_bool ⟨.bl b, H', I', rfl, q⟩
theorem op_notin_own (hm : Meth X.K C "__contains__" f) (F : FnOk X.prog X.w X.K X.mg X.base CX k f fd ps sp) (hr : Room k X.A) (hb : Binds X.K fd ps []) (hx : Passes CX X E) : OpR X (compareOp .NotIn) (rOIn C sp E not) := by
  intro pins s σ H x y v u Q I rx ry hq
  obtain ⟨a, dx, fs, rfl, ha, hq⟩ := hq
  obtain rfl : u = Value.ref a := ry
  obtain ⟨od, J⟩ := inst_at I ha
  obtain ⟨m, hF⟩ := I.fr
  refine PySem.W.notIn_K hF I.ok.mod.kin J hm.at_ hm.fn (thn (run_own (us := [.ref a, v]) (vs := [.ref a, x]) F hb hx hr rfl I (.cons rfl (.cons rx .nil)) hq) fun r s' z => ?_)
  obtain ⟨z, H', I', rz, b, rfl, q⟩ := z
  cases rz
  exact wpAny_truthy_bool ⟨.bl (!b), H', I', rfl, q⟩

/-- o[i], o an instance of C: its own __getitem__ -/
def rOIx (C : Addr) (sp : Sp) (E : XK) : R2 := fun x y H Q => ∃ a dx fs, x = .ref a ∧ H a = some (.ins C dx fs) ∧ sp [.ref a, y] H Q E
def OwnIx (b : Expr) : Prop := ∀ (o : Addr) (i : Value), subscripted b true (.ref o) i = runValue (.builtin "lifetime.subscript" ⟨[.ref o, i], []⟩)
theorem pe_oix {a b : Expr} {ta tb : TE} {pos : Pos} (hm : Meth X.K C "__getitem__" f) (hfi : PySem.W.fnIn X.K f = true) (F : FnOk X.prog X.w X.K X.mg X.base CX k f fd ps sp) (hr : Room (k + 1) X.A) (hb : Binds X.K fd ps []) (hx : Passes CX X E)
    (ha : PE X a ta) (hbe : PE X b tb) (hs : OwnIx b := by intro _ _; rfl) : PE X (.Subscript a b pos) (tOp (rOIx C sp E) ta tb) := by
  refine ⟨fun pins s σ H Q I h => ?_⟩
  refine Subscript_ (binT ha hbe I h fun v u s2 x y H2 I2 rx ry q => ?_)
  obtain ⟨o, dx, fs, rfl, ho, q⟩ := q
  obtain rfl : v = Value.ref o := rx
  obtain ⟨od, J⟩ := inst_at I2 ho
  obtain ⟨m, hF⟩ := I2.fr
  exact PySem.W.sub_K hF I2.ok.mod.kin J hm.at_ hfi hm.fn (run_own (us := [.ref o, u]) (vs := [.ref o, y]) F hb hx hr.in1 rfl I2 (.cons rfl (.cons ry .nil)) q) (hs o u)

/-- len(o): its own __len__ -/
def rOLen (C : Addr) (sp : Sp) (E : XK) : List V → Hp → VK → Prop := fun xs H Q => ∃ a dx fs, xs = [.ref a] ∧ H a = some (.ins C dx fs) ∧ sp [.ref a] H (fun z H' => ∃ n : Int, z = .int n ∧ (0 ≤ n ∧ n < 2 ^ 63) ∧ Q (.int n) H') E
theorem call_olen (hm : Meth X.K C "__len__" f) (F : FnOk X.prog X.w X.K X.mg X.base CX k f fd ps sp) (hr : Room (k + 1) X.A) (hb : Binds X.K fd ps []) (hx : Passes CX X E) : CallR X (.builtin "len") (rOLen C sp E) := by
  intro pins s σ H xs us Q I r h
  obtain ⟨a, dx, fs, rfl, ha, hq⟩ := h
  obtain ⟨u, rfl, ru⟩ := vals1 r
  obtain rfl : u = Value.ref a := ru
  obtain ⟨od, J⟩ := inst_at I ha
  obtain ⟨m, hF⟩ := I.fr
  refine PySem.W.len_K hF I.ok.mod.kin J hm.at_ hm.fn (thn (run_own (us := [.ref a]) (vs := [.ref a]) F hb hx hr.in1 rfl I (.cons rfl .nil) hq) fun q s' z => ?_)
  obtain ⟨z, H', I', rz, n, rfl, hn, q⟩ := z
  obtain ⟨t, rfl⟩ := rz
  exact ⟨hn, .int n, H', I'.tok _, ⟨_, rfl⟩, q⟩

/-- o + p, both of C: the own __add__ -/
def rOAdd (C : Addr) (sp : Sp) (E : XK) : R2 := fun x y H Q => ∃ a b dx fs dy gs, x = .ref a ∧ y = .ref b ∧ H a = some (.ins C dx fs) ∧ H b = some (.ins C dy gs) ∧ sp [.ref a, .ref b] H (fun z H' => (∃ c, z = .ref c) ∧ Q z H') E
theorem op_add_own (hm : Meth X.K C "__add__" f) (hc : PySem.W.selfFirst X.K C = true) (F : FnOk X.prog X.w X.K X.mg X.base CX k f fd ps sp) (hr : Room k X.A) (hb : Binds X.K fd ps []) (hx : Passes CX X E) : OpR X (binaryOp .Add) (rOAdd C sp E) := by
  intro pins s σ H x y v u Q I rx ry hq
  obtain ⟨a, b, dx, fs, dy, gs, rfl, rfl, ha, hb', hq⟩ := hq
  obtain rfl : v = Value.ref a := rx
  obtain rfl : u = Value.ref b := ry
  obtain ⟨od, J⟩ := inst_at I ha
  obtain ⟨oe, J2⟩ := inst_at I hb'
  obtain ⟨m, hF⟩ := I.fr
  refine PySem.W.binop_K hF I.ok.mod.kin J J2.type hc hm.at_ hm.fn (thn (run_own (us := [.ref a, .ref b]) (vs := [.ref a, .ref b]) F hb hx hr rfl I (.cons rfl (.cons rfl .nil)) hq) fun r s' z => ?_)
  obtain ⟨z, H', I', rz, ⟨c, rfl⟩, q⟩ := z
  obtain rfl : r = Value.ref c := rz
  exact ⟨.ref c, H', I', rfl, q⟩
end

/-! ### o + t, o of C, t an object of a built-in type -/
section
open PySem.W
variable {prog : Program} {w : World} {A : Around} {E : Value → Shared → Prop} {s : Shared} {K : Frag} {x C L f : Addr} {h0 : Heap} {m : Str → Option Value} {ox : Obj} {od : Option Obj} {T : String}
/-- what the written part says of + for C and the type T -/
structure AddT (K : Frag) (C : Addr) (T : String) : Prop where
  fst : selfFirst K C = true
  rad : findIn K (.ref C) "__radd__" = some none
  tad : ∃ fo, findIn K (.type T) "__add__" = some fo
  tra : ∃ ro, findIn K (.type T) "__radd__" = some ro
  sub : subIn K (.type T) (.ref C) = some false
theorem add_heapT {b : Value} {Q : Value → Shared → Prop} (F : Fr h0 L s.heap m) (X0 : K.In h0) (I : InstAt s.heap x ox C od) (hb : Looks (model prog w) s.heap (typeOf b) (.type T)) (N : AddT K C T)
    (hs : findIn K (.ref C) "__add__" = some (some (.ref f))) (hf : isFn K (.ref f) = true) (h : wpAny (model prog w) A (call (.ref f) [.ref x, b]) (PySem.W.CmpBack Q) E s) : wpAny (model prog w) A (binaryOp .Add (.ref x) b) Q E s := by
  have X : K.In s.heap := X0.keeps F.keep
  obtain ⟨cd, rest, e1, e2⟩ := ksp_first N.fst
  obtain ⟨fo, e3⟩ := N.tad
  obtain ⟨ro, e4⟩ := N.tra
  have one := ksp_try X I hs hf h
  obtain ⟨hh, gg, dd, tt, os⟩ := s
  have J1 : Looks (model prog w) hh (typeOf (.ref x)) (.ref C) := I.type
  have J2 := hb
  have J3 : Looks (model prog w) hh (fillsNumberSlot (.ref C) "add") true := fills_K X e1 e2 hs
  have J4 : Looks (model prog w) hh (fillsNumberSlot (.type T) "add") ((fo.isSome && !isSeqSlot fo) || (ro.isSome && !isSeqSlot ro)) := ksp_fillsT X e3 e4
  have J5 : Looks (model prog w) hh (isSubtype (.type T) (.ref C)) false := looks_subIn X N.sub
  have J6 : Looks (model prog w) hh (numberSlotInPython (.ref C) "add") true := ksp_inPy X hs N.rad (.inl rfl)
  have J7 : Looks (model prog w) hh (numberSlotInPython (.type T) "add") false := Looks.of_pure rfl
  have J8 : Looks (model prog w) hh (typeLookup (.type T) (dunderR "add")) ro := looks_findIn X e4
  have ne : (Value.ref C == Value.type T) = false := Bool.eq_false_iff.mpr fun z => by cases beq_iff_eq.mp z
  generalize ((fo.isSome && !isSeqSlot fo) || (ro.isSome && !isSeqSlot ro)) = right at J4
  show wpAny (model prog w) A (binaryOp .Add (.ref x) b) Q E _
  simp only [binaryOp, show Operator.info .Add = ("+", "add") from rfl]
  refine wpAny_holding (wpAny_bind ?_)
  unfold binaryOp1
  refine wpAny_bind (J1.at (wpAny_bind (J2.at (wpAny_bind (J3.at ?_)))))
  simp only [ne, if_false, Bool.false_eq_true]
  cases right with
  | true =>
    ksp_lk
    refine wpAny_mono one (fun r s' z => ?_) fun _ _ e => e
    obtain ⟨v, rfl, q⟩ := z
    ksp_lk
    exact q
  | false =>
    ksp_lk
    refine wpAny_mono one (fun r s' z => ?_) fun _ _ e => e
    obtain ⟨v, rfl, q⟩ := z
    ksp_lk
    exact q
end
section
variable {X : Cx} {CX : CXT} {k : Nat} {C f : Addr} {fd : FuncData} {ps : List Str} {sp : Sp} {E : XK}
def rOAddT (K : PySem.W.Frag) (C : Addr) (sp : Sp) (E : XK) : R2 := fun x y H Q => ∃ a b dx fs xs, x = .ref a ∧ y = .ref b ∧ H a = some (.ins C dx fs) ∧ H b = some (.tup xs) ∧ sp [.ref a, .ref b] H (fun z H' => (∃ c, z = .ref c) ∧ Q z H') E
theorem op_add_tup (hm : Meth X.K C "__add__" f) (hc : AddT X.K C "tuple") (F : FnOk X.prog X.w X.K X.mg X.base CX k f fd ps sp) (hr : Room k X.A) (hb : Binds X.K fd ps []) (hx : Passes CX X E) : OpR X (binaryOp .Add) (rOAddT X.K C sp E) := by
  intro pins s σ H x y v u Q I rx ry hq
  obtain ⟨a, b, dx, fs, xs, rfl, rfl, ha, hb', hq⟩ := hq
  obtain rfl : v = Value.ref a := rx
  obtain rfl : u = Value.ref b := ry
  obtain ⟨od, J⟩ := inst_at I ha
  obtain ⟨m, hF⟩ := I.fr
  obtain ⟨_, its, _, o, ho, hcl, _⟩ := (show ObjOk X.prog X.w H s.heap b (.tup xs) from I.hok b _ hb')
  have L : PySem.W.Looks (model X.prog X.w) s.heap (typeOf (.ref b)) (.type "tuple") := fun A Q E s' k q => wpAny_typeOf_ref (k b o ho) (hcl ▸ q)
  refine add_heapT hF I.ok.mod.kin J L hc hm.at_ hm.fn (thn (run_own (us := [.ref a, .ref b]) (vs := [.ref a, .ref b]) F hb hx hr rfl I (.cons rfl (.cons rfl .nil)) hq) fun r s' z => ?_)
  obtain ⟨z, H', I', rz, ⟨c, rfl⟩, q⟩ := z
  obtain rfl : r = Value.ref c := rz
  exact ⟨.ref c, H', I', rfl, q⟩
end
end RX

namespace RX
open PySem PySem.Spec PyProof.Rows L2
/-! ### C(), C(*xs) -/
section
variable {X : Cx} {CX : CXT} {k : Nat} {C f : Addr} {sp : Sp} {E : XK} {x : Str} {e : Expr} {te : TE} {p pos spos : Pos}
/-- C() by a positional promise of its __init__ -/
theorem pe_makeR0 (M : Mk X.K C f) (F : FnR X.prog X.w X.K X.mg X.base CX k f sp) (hr : Room (k + 1) X.A) (hm : X.mg x = some (.ref C)) (hx : Passes CX X E) (hg : Gl X x := by rfl) (hdb : (x == ("__debug__" : Str)) = false := by decide) :
    PE X (.Call (.Name x p) [] [] pos) (StX.tMakeR C sp E tNil) :=
  ⟨fun pins s σ H Q I h => wpAny_Call_Name_kw (ld_glob I hg hm (PySem.W.callWith_K0 I.kIn M.kp (StX.run_makeR (us := []) M F hr hx I .nil h)) hdb)⟩
/-- C(*e) -/
theorem pe_makeS (M : Mk X.K C f) (F : FnR X.prog X.w X.K X.mg X.base CX k f sp) (hr : Room (k + 1) X.A) (hm : X.mg x = some (.ref C)) (hx : Passes CX X E) (he : PE X e te) (hg : Gl X x := by rfl) (hdb : (x == ("__debug__" : Str)) = false := by decide)
    (hst : starEach [.Starred e spos] X.env = [(true, eval e X.env)] := by rfl) :
    PE X (.Call (.Name x p) [.Starred e spos] [] pos) (fun σ H Q => te σ H fun y H1 => ∃ a xs, y = V.ref a ∧ (SqT X.K H1 a xs ∨ SqL X.K H1 a xs) ∧ StX.tMakeR C sp E (fun _ H Q => Q xs H) σ H1 Q) := by
  refine ⟨fun pins s σ H Q I h => wpAny_Call_Name_kw (ld_glob I hg hm ?_ hdb)⟩
  refine PySem.W.callWith_S (h₀ := X.base) I.ok.mod.kin M.kp (thn (he.run pins s σ H _ I h) fun v s1 ⟨y, H1, I1, ry, a, xs, ey, hxs, q⟩ => ?_) hst
  subst ey
  obtain rfl : v = Value.ref a := ry
  exact StX.star_any I1 hxs fun us s2 I2 rv => ⟨I2.kIn, StX.run_makeR M F hr hx I2 rv q⟩
/-- C(), C without an __init__ of its own -/
def tMakeN (C : Addr) : TE := fun _ H Q => ∀ x dx, H x = Option.none → H dx = Option.none → dx ≠ x → Q (.ref x) (upd (upd H dx (.own x)) x (.ins C dx []))
theorem pe_makeN (hmk : PySem.W.makesIn X.K C = true) (hi : PySem.W.findIn X.K (.ref C) "__init__" = some (some (.builtin "object.__init__"))) (hk : PySem.W.keepIn X.K (.ref C) = true) (hm : X.mg x = some (.ref C))
    (hg : Gl X x := by rfl) (hdb : (x == ("__debug__" : Str)) = false := by decide) : PE X (.Call (.Name x p) [] [] pos) (tMakeN C) := by
  refine ⟨fun pins s σ H Q I h => wpAny_Call_Name_kw (ld_glob I hg hm (PySem.W.callWith_K0 I.kIn hk ?_) hdb)⟩
  have q := h (s.heap.objs.size + 1) s.heap.objs.size (I.hok.fresh (Nat.le_succ _)) (I.hok.fresh (Nat.le_refl _)) (Nat.ne_of_lt (Nat.lt_succ_self _))
  have J := Inv.made (C := C) I
  have Y := PySem.W.makes_of (M := model X.prog X.w) I.kIn hmk
  refine wpAny_call (make_map0 I.kIn hmk hi (fun self => PySem.W.Looks.of_pure (PySem.W.oi_bind self)) ?_)
  have hob : ((s.heap.push PySem.W.emptyDict).push (PySem.W.instObj C s.heap.objs.size)).get? (s.heap.objs.size + 1) = some (PySem.W.instObj C s.heap.objs.size) := by
    have z := Heap.get?_push_size (s.heap.push PySem.W.emptyDict) (o := PySem.W.instObj C s.heap.objs.size) rfl
    rwa [Heap.size_push] at z
  have t1 : PySem.W.Looks (model X.prog X.w) ((s.heap.push PySem.W.emptyDict).push (PySem.W.instObj C s.heap.objs.size)) (typeOf (.ref (s.heap.objs.size + 1))) (.ref C) := (PySem.W.Looks.ld hob).andThen .now
  have t2 : PySem.W.Looks (model X.prog X.w) ((s.heap.push PySem.W.emptyDict).push (PySem.W.instObj C s.heap.objs.size)) (isInstance (.ref (s.heap.objs.size + 1)) (.type "object")) true :=
    t1.andThen (Y.top.keeps fun b o z => Heap.get?_push_of_some _ (Heap.get?_push_of_some _ z))
  refine codeAny_call_builtin PySem.W.oi_plain PySem.W.entry_oi (@PySem.W.check_slot (model X.prog X.w) _ _ _ "object.__init__" "object" "__init__" (.ref (s.heap.objs.size + 1)) [] [] _ PySem.W.oi_kind PySem.W.oi_split t2 (PySem.W.oi_args (.ref (s.heap.objs.size + 1))) ?_)
  rw [PySem.W.oi_run]
  exact wpAny_pure ⟨rfl, ⟨V.ref (s.heap.objs.size + 1), _, J, rfl, q⟩⟩
end
end RX

/-! KSrt -/
/-! sorted(xs), xs a list or a tuple of data: ints, pairs, tuples of ints. -/
namespace RX
open PySem PySem.Spec PyProof.Rows L2

section
open PySem.W
variable {prog : Program} {w : World} {A : Around} {E : Value → Shared → Prop} {s : Shared} {β : Type} {vs : List Value} {bs : List β} {enc : β → PyData} {R : Value → β → Prop}
theorem srt_seq {l : Addr} {T : String} {o : Obj} {n : Nat} {Q : Value → Shared → Prop} (hT : T = "list" ∨ T = "tuple") (ho : s.heap.get? l = some o) (hc : o.cls = .type T) (hd : o.data = .seq vs.toArray n)
    (e : EachIs R vs bs) (er : EachIs (fun v b => ∃ as, Reads s.heap v (enc b) as) vs bs) (hal : AllAlike (bs.map enc)) (hk : Sortable (bs.map enc)) (hL : bs.length ≤ sizeLine) (hu : ∀ b, b ∈ bs → A.units + 2 + (enc b).depth < cLine)
    (h : ∀ (h1 : Heap) (out : List Value), (∀ b o, s.heap.get? b = some o → h1.get? b = some o) → EachIs R out (bs.mergeSort (dataLe false enc)) → Q (.ref h1.objs.size) { s with heap := sortedHeap (h1.push (seqObj "list" vs.toArray 0)) h1.objs.size vs out.toArray }) :
    wpAny (model prog w) A (call (.builtin "sorted") [.ref l]) Q E s := by
  have hz : vs.length ≤ sizeLine := by rw [e.length]; exact hL
  refine Calls.call_function_entry kind_sorted plain_sorted entry_sorted (args_sorted1 _) ?_
  unfold Builtin.«sorted»
  refine wpAny_bind (m := checkCount "sorted" 1 1 _) (wpAny_pure ?_)
  refine wpAny_bind (wpAny_collect_seq l hT ho hc hd (fun h1 k1 => ?_) (by rw [List.size_toArray]; exact hz))
  refine wpAny_bind (wpAny_newList ?_ (by simpa using hz))
  show wpAny (model prog w) A.in1 _ _ _ { s with heap := h1.push (seqObj "list" vs.toArray 0) }
  have hD : (h1.push (seqObj "list" vs.toArray 0)).get? h1.objs.size = some (seqObj "list" vs.toArray 0) := Heap.get?_push_size _ rfl
  have er2 : EachIs (fun v b => ∃ as, Reads (sortingHeap (h1.push (seqObj "list" vs.toArray 0)) h1.objs.size vs) v (enc b) as) vs bs :=
    er.mono fun v b ⟨as, r⟩ => ⟨as, Reads.keeps (fun b o q => sortingHeap_old (Nat.ne_of_lt (Heap.lt_size (k1 _ _ q))) (Heap.get?_push_of_some _ (k1 _ _ q))) r⟩
  refine wpAny_bind (wpAny_holding (wpAny_call_entry slot_list_sort ⟨_, hD, rfl⟩ entry_list_sort (list_sort_vals (κ := dataKind (sortingHeap (h1.push (seqObj "list" vs.toArray 0)) h1.objs.size vs) (bs.map enc)) hD
    (SortsAt.data (s := { s with heap := sortingHeap (h1.push (seqObj "list" vs.toArray 0)) h1.objs.size vs }) (each_map (R := fun v d => ∃ as, Reads (sortingHeap (h1.push (seqObj "list" vs.toArray 0)) h1.objs.size vs) v d as) enc er2) hal hk (bound_map fun b hb => ?_)) hz ⟨.none, rfl, ?_⟩) (args_list_sort _)))
  · exact Nat.lt_of_le_of_lt (by show A.units + 1 + 1 + _ ≤ _; omega) (hu b hb)
  · exact wpAny_pure ⟨_, rfl, h h1 _ k1 (sortVals_data false e er2 hal)⟩
end
/-- what sorted asks of items with their data, and what it makes -/
abbrev srtd (bs : List (V × PyData)) : List (V × PyData) := bs.mergeSort (PySem.W.dataLe false Prod.snd)
def rSrt (K : PySem.W.Frag) : List V → Hp → VK → Prop := fun vs H Q => ∃ (a : Addr) (bs : List (V × PyData)), vs = [.ref a] ∧ (SqL K H a (bs.map Prod.fst) ∨ SqT K H a (bs.map Prod.fst)) ∧ (∀ b ∈ bs, Dp K H b.1 b.2) ∧ PySem.W.AllAlike (bs.map Prod.snd) ∧ PySem.W.Sortable (bs.map Prod.snd) ∧
  (∀ b ∈ bs, b.2.depth ≤ 50) ∧ ∀ p, H p = none → Q (.ref p) (upd H p (.lst ((srtd bs).map Prod.fst)))
theorem eachIs_of {K : PySem.W.Frag} {R : Value → V × PyData → Prop} (hR : ∀ v b, RelV b.1 v → R v b) : ∀ {bs : List (V × PyData)} {us : List Value}, Vals (bs.map Prod.fst) us → PySem.W.EachIs R us bs
  | [], _, .nil => .nil
  | b :: bs, _, .cons r t => .cons (hR _ _ r) (eachIs_of (K := K) hR t)
theorem vals_each : ∀ {bs : List (V × PyData)} {us : List Value}, PySem.W.EachIs (fun v (b : V × PyData) => RelV b.1 v) us bs → Vals (bs.map Prod.fst) us
  | _, _, .nil => .nil
  | _, _, .cons r t => .cons r (vals_each t)
theorem each_reads {X : Cx} {pins : List (Addr × Obj)} {σ : L2.St} {H : Hp} {s : Shared} (I : Inv X pins σ H s) : ∀ {bs : List (V × PyData)} {us : List Value}, (∀ b ∈ bs, Dp X.K H b.1 b.2) → Vals (bs.map Prod.fst) us → PySem.W.EachIs (fun v (b : V × PyData) => ∃ as, Reads s.heap v b.2 as) us bs
  | [], _, _, .nil => .nil
  | b :: bs, _, hd, .cons r t => .cons (Dp.reads I b.2 b.1 _ (hd b List.mem_cons_self) r) (each_reads I (fun c hc => hd c (List.mem_cons_of_mem _ hc)) t)
section
variable {X : Cx}
theorem cr_srt (hu : X.A.units + 64 < cLine) : CallR X (.builtin "sorted") (rSrt X.K) := by
  intro pins s σ H vs us Q I r h
  obtain ⟨a, bs, rfl, hs, hdp, hal, hk, hdep, q⟩ := h
  obtain ⟨u, rfl, ru⟩ := vals1 r
  obtain rfl : u = Value.ref a := ru
  obtain ⟨T, o, its, n, hT, ho, hc, hd, rv, hz⟩ : ∃ (T : String) (o : Obj) (its : List Value) (n : Nat), (T = "list" ∨ T = "tuple") ∧ s.heap.get? a = some o ∧ o.cls = .type T ∧ o.data = .seq its.toArray n ∧ Vals (bs.map Prod.fst) its ∧ (bs.map Prod.fst).length ≤ sizeLine := by
    rcases hs with hs | hs
    · obtain ⟨its, rv, ⟨o, n, e1, e2, _, e3⟩, hz⟩ := I.list hs
      exact ⟨"list", o, its, n, .inl rfl, e1, e2, e3, rv, hz⟩
    · obtain ⟨its, rv, ⟨o, e1, e2, n, e3⟩, hz⟩ := I.tuple hs
      exact ⟨"tuple", o, its, n, .inr rfl, e1, e2, e3, rv, hz⟩
  rw [List.length_map] at hz
  refine srt_seq (enc := Prod.snd) hT ho hc hd (eachIs_of (K := X.K) (R := fun v b => RelV b.1 v) (fun _ _ z => z) rv) (each_reads I hdp rv) hal hk hz (fun b hb => by have := hdep b hb; omega) fun h1 out k1 eo => ?_
  have J : Inv X pins σ H { s with heap := h1 } := I.kept (t' := s.toks) k1
  have vo := vals_each eo
  have hD : (h1.push (seqObj "list" its.toArray 0)).get? h1.objs.size = some (seqObj "list" its.toArray 0) := Heap.get?_push_size _ rfl
  obtain ⟨c, hc2⟩ := sortedHeap_at (vs := its) (out := out.toArray) hD
  refine ⟨.ref h1.objs.size, upd H h1.objs.size (.lst ((srtd bs).map Prod.fst)), J.laid (t' := s.toks) (fun b u z => ?_) (Nat.le_refl _) ⟨?_, out, c, vo, hc2⟩, rfl, q _ (J.hok.fresh (Nat.le_refl _))⟩
  · have lt := Heap.lt_size z
    rw [sortedHeap_old (Nat.ne_of_lt lt) (by rw [Heap.size_push]; exact Nat.lt_succ_of_lt lt)]
    exact Heap.get?_push_of_some _ z
  · rw [List.length_map, List.length_mergeSort]
    exact hz
end
end RX

/-! KEnum -/
/-! for i, x in enumerate(t), t a tuple. -/
namespace RX
open PySem PySem.Spec PyProof.Rows L2

theorem meets_enum1 {v : Value} {o : Obj} {Ho : Heap → Prop} (B : Begins v o Ho) :
    Meets (Builtin.«enumerate.__new__» ⟨[.type "enumerate", v], []⟩) (fun _ R s => Ho s.heap ∧
      R (.ok (.ret (.ref (s.heap.push o).objs.size))) { s with heap := (s.heap.push o).push { cls := .type "enumerate", data := .fields #[.none, .bool false, .ref s.heap.objs.size, rawInt 0, .none, .none] } }) :=
  .of_wp fun prog w A R s ⟨h1, h⟩ => by
    obtain ⟨hp, gs, dr, tk, os⟩ := s
    have su := sub_enumerate
    have it1 : ∀ {A' : Around} {E' : Value → Shared → Prop} {Q : Value → Shared → Prop}, Q (.ref hp.objs.size) ⟨hp.push o, gs, dr, tk, os⟩ → wpAny (model prog w) A' (pyIter v) Q E' ⟨hp, gs, dr, tk, os⟩ :=
      fun z => B.iter prog w _ _ ⟨hp, gs, dr, tk, os⟩ _ h1 z
    wp_walk using it1
    refine wpAny_stack_any fun st => wpAny_pure ?_
    split
    · rename_i c _ _ _ _ _
      cases (c == Value.type "enumerate") <;> (wp_walk using it1; exact ⟨_, rfl, h⟩)
    · wp_walk using it1
      exact ⟨_, rfl, h⟩
theorem call_enum1 {prog : Program} {w : World} {A : Around} {E : Value → Shared → Prop} {s : Shared} {v : Value} {o : Obj} {Ho : Heap → Prop} {Q : Value → Shared → Prop} (B : Begins v o Ho) (h1 : Ho s.heap)
    (h : ∀ h', IsEnum h' (s.heap.objs.size + 1) s.heap.objs.size 0 .none → h'.get? s.heap.objs.size = some o → (∀ b o, s.heap.get? b = some o → h'.get? b = some o) → Q (.ref (s.heap.objs.size + 1)) { s with heap := h' }) :
    wpAny (model prog w) A (call (.type "enumerate") [v]) Q E s := by
  refine callType_new F.called_enumerate (by decide) (F.typeCall_enumerate_1 _) (F.newCall_enumerate_1 _) (fun ob => F.args_object_init_2 ob _) F.entry_enumerate_new (meets_enum1 B) ⟨h1, ?_⟩
  have sz : (s.heap.push o).objs.size = s.heap.objs.size + 1 := Heap.size_push ..
  show _ ∧ _
  rw [sz]
  have he : IsEnum ((s.heap.push o).push { cls := .type "enumerate", data := .fields #[.none, .bool false, .ref s.heap.objs.size, rawInt 0, .none, .none] }) (s.heap.objs.size + 1) s.heap.objs.size 0 .none := by
    have z := Heap.get?_push_size (s.heap.push o) (o := { cls := .type "enumerate", data := .fields #[.none, .bool false, .ref s.heap.objs.size, rawInt 0, .none, .none] }) rfl
    rwa [sz] at z
  exact ⟨⟨_, he, rfl⟩, h _ he (Heap.get?_push_of_some _ (Heap.get?_push_size _ B.free)) fun b ob z => Heap.get?_push_of_some _ (Heap.get?_push_of_some _ z)⟩

/-- the tuple at a, each item in a new pair -/
def Iet (K : PySem.W.Frag) (a : Addr) : It :=
  ⟨fun i H => ∃ (xs : List V) (x : V), SqT K H a xs ∧ xs[i]? = some x, fun i H v H' => ∃ T x, v = .ref T ∧ H T = none ∧ H' = upd H T (.tup [.int (i : Nat), x]) ∧ ∀ xs, SqT K H a xs → xs[i]? = some x, fun i H => ∃ xs : List V, SqT K H a xs ∧ xs.length = i⟩
theorem turn_enumT {P : Program} {w : World} {K : PySem.W.Frag} {elts : List Expr} {kk : Nat} {tpos : Pos} (a e it : Addr) :
    Turn P w K (.Tuple elts kk tpos) (Iet K a) [e, it] e (fun i h => (∃ old, IsEnum h e it ((i : Nat) : Int) old) ∧ h.IsTupleIter it a i ∧ e ≠ it) where
  mem := by simp
  obj := fun i h st b hb => by
    obtain ⟨⟨old, he⟩, ⟨o, ho, _, hd⟩, _⟩ := st
    rcases (show b = e ∨ b = it by simpa using hb) with rfl | rfl
    · exact ⟨_, he, fun v q => nomatch q⟩
    · exact ⟨o, ho, fun v q => by rw [hd] at q; cases q⟩
  keep := fun i h h' ⟨⟨old, he⟩, hi, hne⟩ k => ⟨⟨old, k e (by simp) _ he⟩, hi.at fun o q => k it (by simp) o q, hne⟩
  item := by
    intro X hP hw hK hc i pins s σ H E I hf st hg
    subst hP hw hK
    obtain ⟨⟨old, he⟩, hit, hne⟩ := st
    obtain ⟨xs, x, hq, hx⟩ := hg
    obtain ⟨its, rv, tp, hz⟩ := I.tuple hq
    obtain ⟨u, hu, ru⟩ := rv.get hx
    have hu' : its.toArray[i]? = some u := by simpa using hu
    have lt_e : e < s.heap.objs.size := Heap.lt_size he
    have lt_i : it < s.heap.objs.size := by
      obtain ⟨_, q, _⟩ := hit
      exact Heap.lt_size q
    have nea : e ≠ a := fun z => by
      obtain ⟨o, ho, hcl, _⟩ := tp
      rw [← z, he] at ho
      cases ho
      exact absurd (Value.type.inj hcl) (by decide)
    have nia : a ≠ it := fun z => by
      obtain ⟨o, ho, hcl, _⟩ := tp
      obtain ⟨o2, ho2, hc2, _⟩ := hit
      rw [z, ho2] at ho
      cases ho
      rw [hc2] at hcl
      exact absurd (Value.type.inj hcl) (by decide)
    have D := Draws.tuple (prog := X.prog) (w := X.w) (A := X.A.in1) (I.ok.hd hc) it a nia its.toArray
    have lt : i < its.toArray.size := by
      rcases Array.getElem?_eq_some_iff.mp hu' with ⟨z, _⟩
      exact z
    refine wpAny_pyNext_enum_itemD D he ⟨hit, tp⟩ lt hne (by simp [hne, nea]) fun y h' tk hy ho ht hT hsz hk => ?_
    have ey : y = u := Option.some.inj (hy.symm.trans hu')
    subst ey
    refine ⟨_, rfl, wpAny_letOwnedTupleGo_enum (s := { s with heap := h', toks := tk + 1 }) ho fun h2 he2 sb => ?_⟩
    have hT2 : h2.get? s.heap.objs.size = some { cls := .type "tuple", data := .seq #[.int i tk, y] } := (sb.2 _ (Nat.ne_of_gt lt_e)).trans hT
    have new : ObjOk X.prog X.w (upd H s.heap.objs.size (.tup [.int (i : Nat), x])) h2 s.heap.objs.size (.tup [.int (i : Nat), x]) :=
      ⟨by show 2 ≤ sizeLine; decide, [.int i tk, y], .cons ⟨_, rfl⟩ (.cons ru .nil), ⟨_, hT2, rfl, _, rfl⟩⟩
    have J : Inv X pins σ (upd H s.heap.objs.size (.tup [.int (i : Nat), x])) { s with heap := h2, toks := tk + 1 } :=
      I.turnedNew (ch := [e, it]) (fun b ob hb q => (sb.2 b (fun z => hb (by simp [z]))).trans (hk b ob (fun z => hb (by simp [z])) (fun z => hb (by simp [z])) q)) hf (Nat.le_refl _) new
    refine ⟨.ref s.heap.objs.size, _, J, rfl, ⟨_, x, rfl, I.hok.fresh (Nat.le_refl _), rfl, fun ys hy => by rw [I.tuple_inj hy hq]; exact hx⟩, ⟨⟨y, ?_⟩, ht.1.at fun o q => (sb.2 it (Ne.symm hne)).trans q, hne⟩, fun b hb => ?_⟩
    · have e1 : ((i + 1 : Nat) : Int) = (i : Int) + 1 := by omega
      rw [e1]
      exact he2
    · have lt_b : b < s.heap.objs.size := by
        rcases (show b = e ∨ b = it by simpa using hb) with z | z
        · rw [z]; exact lt_e
        · rw [z]; exact lt_i
      rw [upd_ne (Nat.ne_of_lt lt_b)]
      exact (hf b hb).1
  done := by
    intro X hP hw hK hc i pins s σ H E I hf st hg
    subst hP hw hK
    obtain ⟨⟨old, he⟩, hit, hne⟩ := st
    obtain ⟨xs, hq, hx⟩ := hg
    obtain ⟨its, rv, tp, hz⟩ := I.tuple hq
    obtain ⟨f0, f1, f2, f3, f4, f5⟩ := hf it (by simp)
    have len := rv.length
    have nia : a ≠ it := fun z => by
      obtain ⟨o, ho, hcl, _⟩ := tp
      obtain ⟨o2, ho2, hc2, _⟩ := hit
      rw [z, ho2] at ho
      cases ho
      rw [hc2] at hcl
      exact absurd (Value.type.inj hcl) (by decide)
    have D := Draws.tuple (prog := X.prog) (w := X.w) (A := X.A.in1) (I.ok.hd hc) it a nia its.toArray
    have es : its.toArray.size = i := by
      rw [List.size_toArray]
      omega
    rw [es] at D
    exact wpAny_pyNext_enum_endD D he ⟨hit, tp⟩ fun h' eb => ⟨rfl, I.turned (t' := s.toks) (fun b o hb q => eb b o hb q) f0 f1 f3 f4 f5⟩
  self := fun A i s Q E ⟨⟨_, he⟩, _⟩ h => wpAny_pyIter_enum he h
def iEnumT (K : PySem.W.Frag) (ta : TA) : TI := fun σ H R => ta σ H fun vs H1 => ∃ a xs, vs = [.ref a] ∧ SqT K H1 a xs ∧ R (Iet K a) H1
theorem pi_enumT {X : Cx} {e : Expr} {ta : TA} {p pos tpos : Pos} {elts : List Expr} {kk : Nat} (hm : X.mg "enumerate" = none) (ha : PA X [e] ta) (hg : Gl X "enumerate" := by rfl) (hs : starEach [e] X.env = [(false, eval e X.env)] := by rfl) :
    PI X (.Tuple elts kk tpos) (.Call (.Name "enumerate" p) [e] [] pos) (iEnumT X.K ta) := by
  refine ⟨fun pins s σ H R I h => Call_ (ld_blt I hg hm boot_enumerate (PyProof.Rows.callWith_type1 (thn (ha.run pos pins s σ H _ I h) fun us s1 ⟨vs, H1, I1, r1, q1⟩ => ?_) hs rfl))⟩
  obtain ⟨a, xs, rfl, hq, q⟩ := q1
  obtain ⟨u, rfl, ru⟩ := vals1 r1
  obtain rfl : u = Value.ref a := ru
  obtain ⟨its, rv, tp, hz⟩ := I1.tuple hq
  refine call_enum1 (begins_tuple a its.toArray) tp fun h' he hit hk => wpAny_pyIter_enum he ?_
  have J : Inv X pins σ H1 { s1 with heap := h' } := I1.kept (t' := s1.toks) hk
  refine ⟨s1.heap.objs.size + 1, [s1.heap.objs.size + 1, s1.heap.objs.size], _, _, H1, rfl, J, turn_enumT a (s1.heap.objs.size + 1) s1.heap.objs.size, ⟨⟨.none, he⟩, ⟨_, hit, rfl, rfl⟩, Nat.succ_ne_self _⟩, fun b hb => ?_, q⟩
  have le : s1.heap.objs.size ≤ b := by
    rcases (show b = s1.heap.objs.size + 1 ∨ b = s1.heap.objs.size by simpa using hb) with z | z
    · rw [z]; exact Nat.le_add_right _ _
    · rw [z]; exact Nat.le_refl _
  exact I1.fpOk le (I1.hok.fresh le)
end RX

/-! KTx -/
/-! Where each def of the text stands; what the walks ask of the top. Printed by gentx.py. -/
namespace RP
open PySem PySem.Spec PyProof.Rows L2
def top (i : Nat) : Stmt := PySem.Challenge.pw_rowclash_k16_whole_two_tables_beside.main.body.getD i (.Pass ⟨0, 0, 0, 0⟩)
abbrev sIsInteger : Stmt := top 31
abbrev sIsKey : Stmt := top 32
abbrev sIsRow : Stmt := top 33
abbrev sCheckedRows : Stmt := top 35
abbrev sMoreRows : Stmt := top 36
abbrev sKeysOf : Stmt := top 38
abbrev sNeedTable : Stmt := top 39
abbrev sIsOrder : Stmt := top 42
abbrev sNeedOrder : Stmt := top 43
abbrev sWaited : Stmt := top 45
abbrev sPathOf : Stmt := top 46
abbrev sEndOf : Stmt := top 47
abbrev sRingsOf : Stmt := top 48
abbrev sRings : Stmt := top 49
abbrev sByNew : Stmt := top 50
abbrev sGroupsOf : Stmt := top 51
abbrev sGroups : Stmt := top 52
abbrev sTreesOf : Stmt := top 53
abbrev sTrees : Stmt := top 54
abbrev sWaitingFor : Stmt := top 55
abbrev sNeedNoPair : Stmt := top 57
abbrev sNeedNoRing : Stmt := top 58
abbrev sReady : Stmt := top 59
abbrev sFirstOrder : Stmt := top 60
abbrev sVerdict : Stmt := top 61
abbrev sPasses : Stmt := top 62
abbrev sIsFreeOf : Stmt := top 63
abbrev sShowsVerdict : Stmt := top 66
abbrev sFactorial : Stmt := top 67
abbrev sChainsOf : Stmt := top 68
abbrev sOrdersOf : Stmt := top 69
abbrev sPassingOrders : Stmt := top 70
abbrev sStages : Stmt := top 71
abbrev sHolderOf : Stmt := top 75
abbrev sLawCellAt : Stmt := top 83
abbrev sLawPen : Stmt := top 84
abbrev sLawDraw : Stmt := top 85
abbrev sLawPick : Stmt := top 86
abbrev sLawMixed : Stmt := top 87
abbrev sLawPairs : Stmt := top 88
abbrev sLawWord : Stmt := top 89
abbrev sLawSaid : Stmt := top 90
abbrev sLawNear : Stmt := top 91
abbrev sLawWays : Stmt := top 92
abbrev sLawShuffled : Stmt := top 93
abbrev sLawJoined : Stmt := top 94
abbrev sLawEndsRight : Stmt := top 95
abbrev sLaw : Stmt := top 96
abbrev sCompetingInit : Stmt := inClass (top 25) 0
abbrev sRingedInit : Stmt := inClass (top 26) 0
abbrev sTableInit : Stmt := inClass (top 37) 0
abbrev sTableRows : Stmt := inClass (top 37) 1
abbrev sTableGetitem : Stmt := inClass (top 37) 2
abbrev sTableSetitem : Stmt := inClass (top 37) 3
abbrev sTableContains : Stmt := inClass (top 37) 4
abbrev sTableIter : Stmt := inClass (top 37) 5
abbrev sTableLen : Stmt := inClass (top 37) 6
abbrev sTableEq : Stmt := inClass (top 37) 7
abbrev sTableRepr : Stmt := inClass (top 37) 8
abbrev sTableAdd : Stmt := inClass (top 37) 9
abbrev sTableIadd : Stmt := inClass (top 37) 10
abbrev sTableSub : Stmt := inClass (top 37) 11
abbrev sTableShifted : Stmt := inClass (top 37) 12
abbrev sOutcomeInit : Stmt := inClass (top 73) 0
abbrev sOutcomeRows : Stmt := inClass (top 73) 1
abbrev sOutcomeStop : Stmt := inClass (top 73) 2
abbrev sOutcomeEnds : Stmt := inClass (top 73) 3
abbrev sOutcomeMoved : Stmt := inClass (top 73) 4
abbrev sOutcomeLeft : Stmt := inClass (top 73) 5
abbrev sOutcomeHeld : Stmt := inClass (top 73) 6
abbrev sOutcomeGetitem : Stmt := inClass (top 73) 7
abbrev sOutcomeIter : Stmt := inClass (top 73) 8
abbrev sOutcomeLen : Stmt := inClass (top 73) 9
abbrev sOutcomeEq : Stmt := inClass (top 73) 10
abbrev sOutcomeLt : Stmt := inClass (top 73) 11
abbrev sOutcomeLe : Stmt := inClass (top 73) 12
abbrev sOutcomeGt : Stmt := inClass (top 73) 13
abbrev sOutcomeGe : Stmt := inClass (top 73) 14
abbrev sOutcomeRepr : Stmt := inClass (top 73) 15
abbrev sRuleNamed : Stmt := inClass (top 76) 1
abbrev sRuleHalts : Stmt := inClass (top 76) 2
abbrev sRuleSettle : Stmt := inClass (top 76) 3
abbrev sRuleCall : Stmt := inClass (top 76) 4
abbrev sRuleEq : Stmt := inClass (top 76) 5
abbrev sRuleRepr : Stmt := inClass (top 76) 6
abbrev sContinuesHalts : Stmt := inClass (top 77) 0
abbrev sLeavesSettle : Stmt := inClass (top 78) 0
abbrev sRemovesSettle : Stmt := inClass (top 79) 0
/-- a def of the module, as the top has left it -/
structure DG (K : PySem.W.Frag) (mg : Str → Option Value) (x : Str) (st : Stmt) (ps : List Str) where
  f : Addr
  fd : FuncData
  F : Fun K x x st f fd
  g : mg x = some (.ref f)
  b : Binds K fd ps []
/-- a method of the class at C -/
structure MG (K : PySem.W.Frag) (C : Addr) (m qual : Str) (st : Stmt) (ps : List Str) where
  f : Addr
  fd : FuncData
  F : Fun K m qual st f fd
  m : Meth K C m f
  b : Binds K fd ps []
/-- an own class whose objects hold their fields in a dict, and isinstance of it -/
structure CG (K : PySem.W.Frag) (mg : Str → Option Value) (x : Str) where
  C : Addr
  g : mg x = some (.ref C)
  cl : Cls K C
  kp : PySem.W.keepIn K (.ref C) = true
  mks : PySem.W.makesIn K C = true
  ha : PySem.W.findIn K (.ref C) "__class__" = some (some (.builtin "object.__class__"))
  hm : PySem.W.mroIn K C (.type "object") = some true
structure TX (K : PySem.W.Frag) (mg : Str → Option Value) where
  n_ValueError : mg "ValueError" = none
  n_abs : mg "abs" = none
  n_all : mg "all" = none
  n_bool : mg "bool" = none
  n_enumerate : mg "enumerate" = none
  n_int : mg "int" = none
  n_isinstance : mg "isinstance" = none
  n_len : mg "len" = none
  n_list : mg "list" = none
  n_max : mg "max" = none
  n_min : mg "min" = none
  n_range : mg "range" = none
  n_sorted : mg "sorted" = none
  n_str : mg "str" = none
  n_tuple : mg "tuple" = none
  d_is_integer : DG K mg "is_integer" sIsInteger ["thing"]
  d_is_key : DG K mg "is_key" sIsKey ["thing"]
  d_is_row : DG K mg "is_row" sIsRow ["thing"]
  d_checked_rows : DG K mg "checked_rows" sCheckedRows ["rows"]
  d_more_rows : DG K mg "more_rows" sMoreRows ["other"]
  d_keys_of : DG K mg "keys_of" sKeysOf ["table"]
  d_need_table : DG K mg "need_table" sNeedTable ["table"]
  d_is_order : DG K mg "is_order" sIsOrder ["table", "thing"]
  d_need_order : DG K mg "need_order" sNeedOrder ["table", "order"]
  d_waited : DG K mg "waited" sWaited ["table", "key"]
  d_path_of : DG K mg "path_of" sPathOf ["table", "key"]
  d_end_of : DG K mg "end_of" sEndOf ["table", "rows"]
  d_rings_of : DG K mg "rings_of" sRingsOf ["table"]
  d_rings : DG K mg "rings" sRings ["table"]
  d_by_new : DG K mg "by_new" sByNew ["table"]
  d_groups_of : DG K mg "groups_of" sGroupsOf ["table"]
  d_groups : DG K mg "groups" sGroups ["table"]
  d_trees_of : DG K mg "trees_of" sTreesOf ["table"]
  d_trees : DG K mg "trees" sTrees ["table"]
  d_waiting_for : DG K mg "waiting_for" sWaitingFor ["table", "key"]
  d_need_no_pair : DG K mg "need_no_pair" sNeedNoPair ["table"]
  d_need_no_ring : DG K mg "need_no_ring" sNeedNoRing ["table"]
  d_ready : DG K mg "ready" sReady ["table", "done"]
  d_first_order : DG K mg "first_order" sFirstOrder ["table"]
  d_verdict : DG K mg "verdict" sVerdict ["table"]
  d_passes : DG K mg "passes" sPasses ["table", "order"]
  d_is_free_of : DG K mg "is_free_of" sIsFreeOf ["table"]
  d_shows_verdict : DG K mg "shows_verdict" sShowsVerdict ["table", "thing"]
  d_factorial : DG K mg "factorial" sFactorial ["many"]
  d_chains_of : DG K mg "chains_of" sChainsOf ["table"]
  d_orders_of : DG K mg "orders_of" sOrdersOf ["table"]
  d_passing_orders : DG K mg "passing_orders" sPassingOrders ["table"]
  d_stages : DG K mg "stages" sStages ["table"]
  d_holder_of : DG K mg "holder_of" sHolderOf ["places", "key"]
  d_law_cell_at : DG K mg "_law_cell_at" sLawCellAt ["_law_script", "_law_k"]
  d_law_pen : DG K mg "_law_pen" sLawPen ["_law_cell"]
  d_law_draw : DG K mg "_law_draw" sLawDraw ["_law_pen_here", "_law_many"]
  d_law_pick : DG K mg "_law_pick" sLawPick ["_law_pen_here", "_law_things"]
  d_law_mixed : DG K mg "_law_mixed" sLawMixed ["_law_pen_here", "_law_things"]
  d_law_pairs : DG K mg "_law_pairs" sLawPairs ["_law_pen_here", "_law_most"]
  d_law_word : DG K mg "_law_word" sLawWord ["_law_e"]
  d_law_said : DG K mg "_law_said" sLawSaid ["_law_call"]
  d_law_near : DG K mg "_law_near" sLawNear ["_law_pairs_here"]
  d_law_ways : DG K mg "_law_ways" sLawWays ["_law_many", "_law_few"]
  d_law_shuffled : DG K mg "_law_shuffled" sLawShuffled ["_law_pen_here", "_law_one", "_law_other"]
  d_law_joined : DG K mg "_law_joined" sLawJoined ["_law_one", "_law_other"]
  d_law_ends_right : DG K mg "_law_ends_right" sLawEndsRight ["_law_pen_here", "_law_one", "_law_other", "_law_both"]
  d_law : DG K mg "law" sLaw ["_law_script"]
  cTable : CG K mg "Table"
  cOutcome : CG K mg "Outcome"
  cIgnore : CG K mg "Ignore"
  cReplace : CG K mg "Replace"
  g_get : PySem.W.specialIn K (.builtin "object.__class__") "__get__" = some (some (.builtin "getset_descriptor.__get__"))
  g_tak : PySem.W.takesIn K (.builtin "object.__class__") = some true
  pTable_rows : Addr
  mTable_rows_f : Addr
  mTable_rows_fd : FuncData
  mTable_rows_F : Fun K "rows" "Table.rows" sTableRows mTable_rows_f mTable_rows_fd
  mTable_rows_p : PropOf K cTable.C "rows" pTable_rows mTable_rows_f
  mTable_rows_b : Binds K mTable_rows_fd ["self"] []
  mTable_getitem : MG K cTable.C "__getitem__" "Table.__getitem__" sTableGetitem ["self", "key"]
  mTable_contains : MG K cTable.C "__contains__" "Table.__contains__" sTableContains ["self", "thing"]
  mTable_len : MG K cTable.C "__len__" "Table.__len__" sTableLen ["self"]
  mTable_add : MG K cTable.C "__add__" "Table.__add__" sTableAdd ["self", "other"]
  mOutcome_init : MG K cOutcome.C "__init__" "Outcome.__init__" sOutcomeInit ["self", "rows", "stop", "ends"]
  pOutcome_stop : Addr
  mOutcome_stop_f : Addr
  mOutcome_stop_fd : FuncData
  mOutcome_stop_F : Fun K "stop" "Outcome.stop" sOutcomeStop mOutcome_stop_f mOutcome_stop_fd
  mOutcome_stop_p : PropOf K cOutcome.C "stop" pOutcome_stop mOutcome_stop_f
  mOutcome_stop_b : Binds K mOutcome_stop_fd ["self"] []
  pOutcome_ends : Addr
  mOutcome_ends_f : Addr
  mOutcome_ends_fd : FuncData
  mOutcome_ends_F : Fun K "ends" "Outcome.ends" sOutcomeEnds mOutcome_ends_f mOutcome_ends_fd
  mOutcome_ends_p : PropOf K cOutcome.C "ends" pOutcome_ends mOutcome_ends_f
  mOutcome_ends_b : Binds K mOutcome_ends_fd ["self"] []
  tWants : NoAttr K cTable.C "wants"
  tInit_f : Addr
  tInit_fd : FuncData
  tInit_F : Fun K "__init__" "Table.__init__" sTableInit tInit_f tInit_fd
  tInit_m : Mk K cTable.C tInit_f
  tGet_fi : PySem.W.fnIn K mTable_getitem.f = true
  tSeq : PySem.W.noSeq K cTable.C = true
  tAdd : RX.AddT K cTable.C "tuple"
  tIsTup : PySem.W.kitOne K (.type "tuple") (.ref cTable.C) = some false
  oTriple : NoAttr K cOutcome.C "triple"
  oInit : Mk K cOutcome.C mOutcome_init.f
  mostRows : ∃ t, mg "MOST_ROWS" = some (.int 40 t)
  keyBound : ∃ t, mg "KEY_BOUND" = some (.int 1000000000000000000000000000000 t)
  iInit : PySem.W.findIn K (.ref cIgnore.C) "__init__" = some (some (.builtin "object.__init__"))
  rInit : PySem.W.findIn K (.ref cReplace.C) "__init__" = some (some (.builtin "object.__init__"))
  callF : Addr
  iCall : StX.CallO K cIgnore.C callF
  rCall : StX.CallO K cReplace.C callF
  call_fd : FuncData
  call_F : Fun K "__call__" "Rule.__call__" sRuleCall callF call_fd
  call_b : Binds K call_fd ["self", "table", "order"] []
  iSettle : MG K cIgnore.C "settle" "Leaves.settle" sLeavesSettle ["self", "places", "row", "holder", "new"]
  rSettle : MG K cReplace.C "settle" "Removes.settle" sRemovesSettle ["self", "places", "row", "holder", "new"]
  iHalts : MG K cIgnore.C "halts" "Continues.halts" sContinuesHalts ["self"]
  rHalts : MG K cReplace.C "halts" "Continues.halts" sContinuesHalts ["self"]
theorem fun_of_D {K : PySem.W.Frag} {x qual : Str} {st : Stmt} {f : Addr} {fd : FuncData} (F : FunD K x qual (defArgs st) (defBody st) (defScope st) [] [] f fd) : Fun K x qual st f fd := by
  obtain ⟨oc, od, dV, kV, doc, pm, an, cdv, ct, osl, e, lk, hc, hD, _⟩ := F.ex
  rcases hD with ⟨_, rfl⟩ | ⟨h, _⟩
  · exact ⟨⟨oc, od, kV, doc, pm, an, cdv, ct, osl, e, lk, hc⟩, F.kp⟩
  · exact absurd rfl h
end RP

/-! KW0 -/
/-! Short words for the walks. -/
namespace RP
open PySem PySem.Spec PyProof.Rows L2

theorem bb_isinstance : bootBuiltins "isinstance" = some (.builtin "isinstance") := by decide +kernel
theorem bb_len : bootBuiltins "len" = some (.builtin "len") := by decide +kernel
theorem bb_all : bootBuiltins "all" = some (.builtin "all") := by decide +kernel
theorem bb_abs : bootBuiltins "abs" = some (.builtin "abs") := by decide +kernel
theorem bb_max : bootBuiltins "max" = some (.builtin "max") := by decide +kernel
theorem bb_min : bootBuiltins "min" = some (.builtin "min") := by decide +kernel
theorem bb_sorted : bootBuiltins "sorted" = some (.builtin "sorted") := by decide +kernel
theorem bb_int : bootBuiltins "int" = some (.type "int") := by decide +kernel
theorem bb_bool : bootBuiltins "bool" = some (.type "bool") := by decide +kernel
theorem bb_str : bootBuiltins "str" = some (.type "str") := by decide +kernel
theorem bb_tuple : bootBuiltins "tuple" = some (.type "tuple") := by decide +kernel
theorem bb_list : bootBuiltins "list" = some (.type "list") := by decide +kernel
theorem bb_range : bootBuiltins "range" = some (.type "range") := by decide +kernel
theorem bb_VE : bootBuiltins "ValueError" = some (.type "ValueError") := by decide +kernel

section
variable {X : Cx} {k : Nat} {x : Str} {st : Stmt} {ps : List Str} {sp : Sp} {e : Expr} {es : List Expr} {t : TA} {te ta : TE} {p pos : Pos} {id n : String} {r : List V → Hp → VK → Prop}
/-- f(..), f a def of the module -/
theorem pc (D : DG X.K X.mg x st ps) (G : FnOk X.prog X.w X.K X.mg X.base CX0 k D.f D.fd ps sp) (hr : Room k X.A) (ha : PA X (e :: es) t) (hg : Gl X x := by rfl) (hdb : (x == ("__debug__" : Str)) = false := by decide)
    (he : starEach (e :: es) X.env = (false, eval e X.env) :: starEach es X.env := by rfl) (hpl : (backTo pos (starEach es X.env)).any (·.1) = false := by rfl) : PE X (.Call (.Name x p) (e :: es) [] pos) (tCall sp [] E0 t) :=
  pe_call G hr hg D.g D.F.kp D.b .nil pass0 ha hdb he hpl
/-- a built-in function, a built-in type -/
theorem pb (hc : CallR X (.builtin id) r) (hm : X.mg x = none) (hv : bootBuiltins x = some (.builtin id)) (ha : PA X (e :: es) t) (hg : Gl X x := by rfl) (hn : x ≠ "__name__" := by decide) (hdb : (x == ("__debug__" : Str)) = false := by decide)
    (he : starEach (e :: es) X.env = (false, eval e X.env) :: starEach es X.env := by rfl) (hpl : (backTo pos (starEach es X.env)).any (·.1) = false := by rfl) : PE X (.Call (.Name x p) (e :: es) [] pos) (tCB r t) :=
  pe_callB hc hg hm hv ha hn hdb he hpl
theorem pbt (hc : CallR X (.type id) r) (hm : X.mg x = none) (hv : bootBuiltins x = some (.type id)) (ha : PA X (e :: es) t) (hg : Gl X x := by rfl) (hn : x ≠ "__name__" := by decide) (hdb : (x == ("__debug__" : Str)) = false := by decide)
    (he : starEach (e :: es) X.env = (false, eval e X.env) :: starEach es X.env := by rfl) (hpl : (backTo pos (starEach es X.env)).any (·.1) = false := by rfl) : PE X (.Call (.Name x p) (e :: es) [] pos) (tCB r t) :=
  pe_callTy hc hg hm hv ha hn hdb he hpl
/-- a built-in type's name as a value -/
theorem pty (hm : X.mg x = none) (hv : bootBuiltins x = some (.type n)) (hg : Gl X x := by rfl) (hn : x ≠ "__name__" := by decide) (hdb : (x == ("__debug__" : Str)) = false := by decide) : PE X (.Name x pos) (tC (.ty n)) :=
  pe_bltn hg hm hv rfl hn hdb
/-- isinstance(e, T) -/
theorem pisi {T : Expr} {tT : TE} (hm : X.mg "isinstance" = none) (he : PE X e te) (hT : PE X T tT) (hg : Gl X "isinstance" := by rfl) (h1 : starEach (e :: [T]) X.env = (false, eval e X.env) :: starEach [T] X.env := by rfl) (h2 : starEach [T] X.env = (false, eval T X.env) :: starEach [] X.env := by rfl)
    (hpl : (backTo pos (starEach [T] X.env)).any (·.1) = false := by rfl) : PE X (.Call (.Name "isinstance" p) [e, T] [] pos) (tCB (rIsi X.K) (tCons te (tCons tT tNil))) :=
  pe_callB call_isi hg hm bb_isinstance (pa_cons he (pa_cons hT pa_nil h2) h1) (by decide) (by decide) h1 hpl
end

/-! ### data -/
end RP
namespace L2
open PySem PySem.Spec PyProof.Rows
abbrev dI (i : Int) : PyData := .int i
abbrev dT (xs : List Int) : PyData := .tuple (xs.map .int)
abbrev dL (xs : List Int) : PyData := .list (xs.map .int)
abbrev dP (p : Int × Int) : PyData := .tuple [.int p.1, .int p.2]
abbrev dTs (l : List (List Int)) : PyData := .tuple (l.map dT)
abbrev dRows (R : RC.Tab) : PyData := .tuple (R.map dP)
section
variable {K : PySem.W.Frag} {H H' : Hp}
theorem same_rd {a : Addr} {u : HO} (s : Same H H') (h : Rd H a u) : Rd H' a u := h.elim (fun h => .inl (s _ _ h)) fun ⟨o, h⟩ => .inr ⟨o, s _ _ h⟩
theorem same_t {a : Addr} {xs : List V} (s : Same H H') (h : SqT K H a xs) : SqT K H' a xs := h.elim (fun h => .inl (same_rd s h)) .inr
theorem same_l {a : Addr} {xs : List V} (s : Same H H') (h : SqL K H a xs) : SqL K H' a xs := h.elim (fun h => .inl (same_rd s h)) .inr
mutual
theorem Dp.same (s : Same H H') : ∀ {v : V} {d : PyData}, Dp K H v d → Dp K H' v d
  | _, _, .non => .non
  | _, _, .bl b => .bl b
  | _, _, .int i => .int i
  | _, _, .str x => .str x
  | _, _, .lst h a => .lst (same_l s h) (DpAll.same s a)
  | _, _, .tup h a => .tup (same_t s h) (DpAll.same s a)
theorem DpAll.same (s : Same H H') : ∀ {vs : List V} {ds : List PyData}, DpAll K H vs ds → DpAll K H' vs ds
  | _, _, .nil => .nil
  | _, _, .cons h a => .cons (Dp.same s h) (DpAll.same s a)
end
theorem Dp.int_inv {v : V} {i : Int} (h : Dp K H v (.int i)) : v = .int i := by
  cases h
  rfl
theorem Dp.tup_inv {v : V} {ds : List PyData} (h : Dp K H v (.tuple ds)) : ∃ a xs, v = .ref a ∧ SqT K H a xs ∧ DpAll K H xs ds := by
  cases h with
  | tup h a => exact ⟨_, _, rfl, h, a⟩
theorem Dp.lst_inv {v : V} {ds : List PyData} (h : Dp K H v (.list ds)) : ∃ a xs, v = .ref a ∧ SqL K H a xs ∧ DpAll K H xs ds := by
  cases h with
  | lst h a => exact ⟨_, _, rfl, h, a⟩
theorem DpAll.len : ∀ {vs : List V} {ds : List PyData}, DpAll K H vs ds → vs.length = ds.length
  | _, _, .nil => rfl
  | _, _, .cons _ a => by rw [List.length_cons, List.length_cons, DpAll.len a]
theorem DpAll.get : ∀ {vs : List V} {ds : List PyData} {i : Nat} {v : V}, DpAll K H vs ds → vs[i]? = some v → ∃ d, ds[i]? = some d ∧ Dp K H v d
  | _, _, _, _, .nil, e => by simp at e
  | _, _, 0, _, .cons h _, e => by
    simp at e
    subst e
    exact ⟨_, rfl, h⟩
  | _, _, i + 1, _, .cons _ a, e => by
    obtain ⟨d, e1, h⟩ := DpAll.get a (by simpa using e)
    exact ⟨d, by simpa using e1, h⟩
theorem DpAll.app : ∀ {vs ws : List V} {ds es : List PyData}, DpAll K H vs ds → DpAll K H ws es → DpAll K H (vs ++ ws) (ds ++ es)
  | _, _, _, _, .nil, b => b
  | _, _, _, _, .cons h a, b => .cons h (DpAll.app a b)
theorem DpAll.snoc {vs : List V} {ds : List PyData} {v : V} {d : PyData} (a : DpAll K H vs ds) (h : Dp K H v d) : DpAll K H (vs ++ [v]) (ds ++ [d]) := a.app (.cons h .nil)
theorem dpAll_ints {K : PySem.W.Frag} {H : Hp} : ∀ (xs : List Int), DpAll K H (xs.map V.int) (xs.map PyData.int)
  | [] => .nil
  | _ :: xs => .cons (.int _) (dpAll_ints xs)
theorem DpAll.ints : ∀ {vs : List V} {xs : List Int}, DpAll K H vs (xs.map PyData.int) → vs = xs.map V.int
  | _, [], .nil => rfl
  | _, _ :: xs, .cons h a => by rw [Dp.int_inv h, DpAll.ints a]; rfl
theorem Dp.ints_inv {v : V} {xs : List Int} (h : Dp K H v (dT xs)) : ∃ a, v = .ref a ∧ SqT K H a (xs.map V.int) := by
  obtain ⟨a, vs, rfl, hs, ha⟩ := h.tup_inv
  exact ⟨a, rfl, ha.ints ▸ hs⟩
theorem Dp.intl_inv {v : V} {xs : List Int} (h : Dp K H v (dL xs)) : ∃ a, v = .ref a ∧ SqL K H a (xs.map V.int) := by
  obtain ⟨a, vs, rfl, hs, ha⟩ := h.lst_inv
  exact ⟨a, rfl, ha.ints ▸ hs⟩
theorem Dp.ofT {a : Addr} {xs : List Int} (h : SqT K H a (xs.map V.int)) : Dp K H (.ref a) (dT xs) := .tup h (dpAll_ints xs)
theorem Dp.ofL {a : Addr} {xs : List Int} (h : SqL K H a (xs.map V.int)) : Dp K H (.ref a) (dL xs) := .lst h (dpAll_ints xs)
theorem Dp.pair_inv {v : V} {p : Int × Int} (h : Dp K H v (dP p)) : ∃ a, v = .ref a ∧ SqT K H a [.int p.1, .int p.2] := by
  obtain ⟨a, vs, rfl, hs, ha⟩ := h.tup_inv
  cases ha with
  | cons h1 ha =>
    cases ha with
    | cons h2 ha =>
      cases ha
      rw [h1.int_inv, h2.int_inv] at hs
      exact ⟨a, rfl, hs⟩
theorem DpAll.mem : ∀ {vs : List V} {ds : List PyData} {v : V}, DpAll K H vs ds → v ∈ vs → ∃ d ∈ ds, Dp K H v d
  | _, _, _, .cons h a, m => by
    rcases List.mem_cons.mp m with rfl | m
    · exact ⟨_, List.mem_cons_self, h⟩
    · obtain ⟨d, hd, z⟩ := DpAll.mem a m
      exact ⟨d, List.mem_cons_of_mem _ hd, z⟩
end
theorem same_new {H : Hp} {p : Addr} {o : HO} (h : H p = none) : Same H (upd H p o) := fun a u e => by
  rw [upd_ne (ne_of_none e h)]
  exact e
/-- an object that H does not know may change -/
theorem Same.mut {H H' : Hp} {p : Addr} {o : HO} (e : Same H H') (h : H p = none) : Same H (upd H' p o) := fun a u ha => by
  rw [upd_ne (ne_of_none ha h)]
  exact e a u ha
end L2

/-! KW0b -/
/-! Comprehensions that make data. -/
namespace L2
open PySem PySem.Spec PyProof.Rows
theorem del_same' {H H' : Hp} {D : Addr} (s : Same H H') : Same (del H D) (del H' D) := fun a o h => by
  by_cases e : a = D
  · subst e
    rw [del_same] at h
    cases h
  · rw [del_ne e] at h ⊢
    exact s a o h
theorem del_upd {H : Hp} {D : Addr} {o : HO} : Same (del H D) (upd H D o) := fun a u h => by
  by_cases e : a = D
  · subst e
    rw [del_same] at h
    cases h
  · rw [del_ne e] at h
    rw [upd_ne e]
    exact h
theorem del_of_upd {H : Hp} {D : Addr} {o : HO} : del (upd H D o) D = del H D := by
  funext a
  by_cases e : a = D
  · subst e
    rw [del_same, del_same]
  · rw [del_ne e, del_ne e, upd_ne e]
theorem del_sub {H : Hp} {D : Addr} : Same (del H D) H := fun a u h => by
  by_cases e : a = D
  · subst e
    rw [del_same] at h
    cases h
  · rw [del_ne e] at h
    exact h
theorem del_keep {H H' : Hp} {D : Addr} (s : Same H H') (hD : H D = none) : Same H (del H' D) := fun a u h => by
  have : a ≠ D := ne_of_none h hD
  rw [del_ne this]
  exact s a u h
/-- data without lists: it stays whatever happens to a list, a dict, an object -/
def tupD : PyData → Bool
  | .none => true
  | .bool _ => true
  | .int _ => true
  | .str _ => true
  | .tuple ds => tupDs ds
  | _ => false
where tupDs : List PyData → Bool
  | [] => true
  | d :: ds => tupD d && tupDs ds
/-- what stands at D is no tuple -/
def NoTup (H : Hp) (D : Addr) : Prop := ∀ xs, ¬ Rd H D (.tup xs)
mutual
theorem Dp.del {K : PySem.W.Frag} {H : Hp} {D : Addr} (n : NoTup H D) : ∀ {v : V} {d : PyData}, tupD d = true → Dp K H v d → Dp K (L2.del H D) v d
  | _, _, _, .non => .non
  | _, _, _, .bl b => .bl b
  | _, _, _, .int i => .int i
  | _, _, _, .str x => .str x
  | _, _, h, .lst _ _ => by
    exact absurd h (by simp [tupD])
  | _, .tuple ds, h, .tup (a := a) hs ha => by
    refine .tup ?_ (DpAll.del n (by simpa [tupD] using h) ha)
    rcases hs with hs | hs
    · refine .inl ?_
      have ne : a ≠ D := fun e => n _ (e ▸ hs)
      rcases hs with hs | ⟨o, hs⟩
      · exact .inl (by rw [del_ne ne]; exact hs)
      · exact .inr ⟨o, by rw [del_ne ne]; exact hs⟩
    · exact .inr hs
theorem DpAll.del {K : PySem.W.Frag} {H : Hp} {D : Addr} (n : NoTup H D) : ∀ {vs : List V} {ds : List PyData}, tupD.tupDs ds = true → DpAll K H vs ds → DpAll K (L2.del H D) vs ds
  | _, _, _, .nil => .nil
  | _, _, h, .cons h1 a => by
    have h' : (tupD _ && tupD.tupDs _) = true := h
    rw [Bool.and_eq_true] at h'
    exact .cons (Dp.del n h'.1 h1) (DpAll.del n h'.2 a)
end
theorem noTup_of {H : Hp} {D : Addr} {o : HO} (h : H D = some o) (h1 : ∀ xs, o ≠ .tup xs) (h2 : ∀ ob xs, o ≠ .frz ob (.tup xs)) : NoTup H D := fun xs r => by
  rcases r with r | ⟨ob, r⟩
  · rw [h] at r
    exact h1 xs (Option.some.inj r)
  · rw [h] at r
    exact h2 ob xs (Option.some.inj r)
theorem noTup_lst {H : Hp} {D : Addr} {xs : List V} (h : H D = some (.lst xs)) : NoTup H D := noTup_of h (fun _ z => by cases z) fun _ _ z => by cases z
theorem noTup_dk {H : Hp} {D : Addr} {kvs : List (Key × V)} (h : H D = some (.dK kvs)) : NoTup H D := noTup_of h (fun _ z => by cases z) fun _ _ z => by cases z
theorem tupDs_ints : ∀ xs : List Int, tupD.tupDs (xs.map PyData.int) = true
  | [] => rfl
  | _ :: xs => by
    show (tupD _ && tupD.tupDs _) = true
    rw [tupDs_ints xs]
    rfl
theorem tupD_T (xs : List Int) : tupD (dT xs) = true := tupDs_ints xs
theorem tupDs_map {α : Type} {f : α → PyData} (h : ∀ x, tupD (f x) = true) : ∀ l : List α, tupD.tupDs (l.map f) = true
  | [] => rfl
  | a :: l => by
    show (tupD _ && tupD.tupDs _) = true
    rw [h a, tupDs_map h l]
    rfl
/-- a comprehension that makes data: f i is what turn i gives -/
theorem lc_dp {J : It} {n : Nat} {G : Hp → Prop} {Y : Nat → Hp → V → Hp → Prop} (w : Walk J n G Y) {K : PySem.W.Frag} {g : TG} {tt : TT} {te : TE} {vs : List Nat} {σ : St} {H1 : Hp} {D : Addr} {Qd : Hp → Prop} (f : Nat → Option PyData)
    (hD : H1 D = none) (hn : n ≤ 100000) (hG : ∀ H', Same H1 H' → G H')
    (hs : ∀ i x H H' (QY : V → Hp → Prop) (QN : Hp → Prop), i < n → Same H1 H → (∃ acc, H D = some (.lst acc)) → Y i H x H' → (∀ d, f i = some d → ∀ y H4, Same H H4 → Dp K (del H4 D) y d → QY y H4) → (f i = none → ∀ H4, Same H H4 → QN H4) →
      g x (wipe σ vs) H' fun σ2 H2 => wipe σ2 vs = wipe σ vs ∧ tt σ2 H2 fun b H3 => if b = true then te σ2 H3 QY else QN H3)
    (hd : ∀ H' acc, Same H1 H' → H' D = some (.lst acc) → DpAll K (del H' D) acc ((List.range n).filterMap f) → Qd H') :
    ∃ W : Nat → Nat → Hp → Prop, (∃ m, W 0 m (upd H1 D (.lst []))) ∧ ∀ i m H, W i m H →
      (J.stop i H ∧ Qd H) ∨ (J.go i H ∧ ∃ Nx : Hp → Prop, (∀ H', Nx H' → ∃ m', m' < m ∧ W (i + 1) m' H') ∧ ∀ x H', J.yld i H x H' → g x (wipe σ vs) H' fun σ2 H2 => wipe σ2 vs = wipe σ vs ∧ tt σ2 H2 fun b H3 =>
        if b = true then te σ2 H3 fun y H4 => ∃ acc, H4 D = some (.lst acc) ∧ acc.length < sizeLine ∧ Nx (upd H4 D (.lst (acc ++ [y]))) else Nx H3) := by
  refine lc_it w (fun i H => Same H1 H ∧ ∃ acc, H D = some (.lst acc) ∧ acc.length ≤ i ∧ DpAll K (del H D) acc ((List.range i).filterMap f)) ⟨same_new hD, [], upd_same, Nat.le_refl _, .nil⟩ (fun i H _ p => hG H p.1) (fun i x H H' hi p y => ?_) (fun H p => ?_)
  · obtain ⟨s1, acc, h1, hl, h2⟩ := p
    refine hs i x H H' _ _ hi s1 ⟨acc, h1⟩ y (fun d e y' H4 s4 hy => ?_) (fun e H4 s4 => ?_)
    · refine ⟨acc, s4 _ _ h1, Nat.lt_of_le_of_lt (show acc.length ≤ 100000 by omega) (by decide), Same.mut (s1.trans s4) hD, acc ++ [y'], upd_same, by rw [List.length_append, List.length_singleton]; omega, ?_⟩
      rw [del_of_upd, List.range_succ, List.filterMap_append]
      have : [i].filterMap f = [d] := by simp [e]
      rw [this]
      exact (h2.same (del_same' s4)).snoc hy
    · refine ⟨s1.trans s4, acc, s4 _ _ h1, by omega, ?_⟩
      rw [List.range_succ, List.filterMap_append]
      have : [i].filterMap f = [] := by simp [e]
      rw [this, List.append_nil]
      exact h2.same (del_same' s4)
  · obtain ⟨s1, acc, h1, _, h2⟩ := p
    exact hd H acc s1 h1 h2
theorem rng_take {α β : Type} (l : List α) (f : α → Option β) : ∀ i, (List.range i).filterMap (fun j => (l[j]?).bind f) = (l.take i).filterMap f
  | 0 => by simp
  | i + 1 => by
    rw [List.range_succ, List.filterMap_append, rng_take l f i, List.take_add_one, List.filterMap_append]
    congr 1
    rw [List.filterMap_cons, List.filterMap_nil]
    cases l[i]? with
    | none => rfl
    | some a =>
      show (match f a with | none => [] | some b => [b]) = [a].filterMap f
      rw [List.filterMap_cons, List.filterMap_nil]
      rfl
theorem rng_filterMap {α β : Type} (l : List α) (f : α → Option β) : (List.range l.length).filterMap (fun j => (l[j]?).bind f) = l.filterMap f := by
  rw [rng_take, List.take_length]
theorem rng_map {α β : Type} (l : List α) (f : α → β) : (List.range l.length).filterMap (fun j => (l[j]?).map f) = l.map f := by
  have := rng_filterMap l (fun a => some (f a))
  rw [List.filterMap_eq_map'] at this
  rw [← this]
  congr 1
  funext j
  cases l[j]? <;> rfl
end L2

/-! KSd -/
/-! Sorting rows of data. -/
namespace L2
open PySem PySem.Spec PyProof.Rows
abbrev leD : PyData → PyData → Bool := PySem.W.dataLe false id
def sds (ds : List PyData) : List PyData := ds.mergeSort leD
theorem leD_total : PySem.W.TotalLe leD := PySem.W.sortLe_total _ _ _
theorem leD_eq (a b : PyData) : leD a b = !PySem.W.dataLt b a := rfl
theorem sds_perm (ds : List PyData) : (sds ds).Perm ds := List.mergeSort_perm ..
theorem sds_asc (ds : List PyData) : (sds ds).Pairwise (fun a b => leD a b = true) := PySem.W.sort_pairwise leD_total ds
theorem sds_eq {ds m : List PyData} (p : m.Perm ds) (hs : m.Pairwise (fun a b => leD a b = true)) (anti : ∀ a ∈ ds, ∀ b ∈ ds, leD a b = true → leD b a = true → a = b) : sds ds = m := by
  refine RC.perm_asc_eq (r := fun a b => a ∈ ds ∧ b ∈ ds ∧ leD a b = true) (fun a b h1 h2 => anti a h1.1 b h1.2.1 h1.2.2 h2.2.2) ((sds_perm ds).trans p.symm) ?_ ?_
  · exact List.Pairwise.imp_of_mem (fun ha hb h => ⟨(sds_perm ds).mem_iff.mp ha, (sds_perm ds).mem_iff.mp hb, h⟩) (sds_asc ds)
  · exact List.Pairwise.imp_of_mem (fun ha hb h => ⟨p.mem_iff.mp ha, p.mem_iff.mp hb, h⟩) hs
theorem sds_congr {ds es : List PyData} (p : ds.Perm es) (anti : ∀ a ∈ ds, ∀ b ∈ ds, leD a b = true → leD b a = true → a = b) : sds ds = sds es :=
  sds_eq ((sds_perm es).trans p.symm) (sds_asc es) anti
theorem sds_append {A B : List PyData} (h : ∀ a ∈ A, ∀ b ∈ B, leD a b = true) : sds (A ++ B) = sds A ++ sds B := by
  refine (PySem.W.sort_unique leD_total ?_ fun c => ?_).symm
  · exact List.pairwise_append.mpr ⟨sds_asc A, sds_asc B, fun a ha b hb => h a ((sds_perm A).mem_iff.mp ha) b ((sds_perm B).mem_iff.mp hb)⟩
  · rw [List.filter_append, List.filter_append]
    exact congr (congrArg _ (PySem.W.sort_stable leD_total A c)) (PySem.W.sort_stable leD_total B c)
theorem sds_nil : sds [] = [] := by simp [sds]
theorem sds_len (ds : List PyData) : (sds ds).length = ds.length := List.length_mergeSort ..
theorem leD_int (a b : Int) : leD (dI a) (dI b) = decide (a ≤ b) := by
  rw [leD_eq, PySem.W.dataLt_int]
  by_cases h : b < a
  · rw [decide_eq_true h, decide_eq_false (by omega)]
    rfl
  · rw [decide_eq_false h, decide_eq_true (by omega)]
    rfl
theorem leD_pair (p q : Int × Int) : leD (dP p) (dP q) = decide (p.1 < q.1 ∨ (p.1 = q.1 ∧ p.2 ≤ q.2)) := by
  rw [leD_eq, PySem.W.dataLt_ii]
  by_cases h : q.1 < p.1 ∨ (q.1 = p.1 ∧ q.2 < p.2)
  · rw [decide_eq_true h, decide_eq_false (by omega)]
    rfl
  · rw [decide_eq_false h, decide_eq_true (by omega)]
    rfl
/-- tuples whose first items differ -/
theorem leD_first {x y : Int} (h : x < y) (r s : List PyData) : leD (.tuple (dI x :: r)) (.tuple (dI y :: s)) = true := by
  rw [leD_eq, PySem.W.dataLt_tuple, PySem.W.dataLt_cons (by simp [PySem.W.alike]), PySem.W.dataLt_int, decide_eq_false (by omega)]
  have : PyData.eqv (dI y) (dI x) = false := by
    simp only [PyData.eqv, beq_eq_false_iff_ne]
    omega
  rw [this]
  rfl
theorem sds_ints {xs ys : List Int} (p : ys.Perm xs) (h : ys.Pairwise (· ≤ ·)) : sds (xs.map dI) = ys.map dI := by
  refine sds_eq (p.map _) ?_ ?_
  · rw [List.pairwise_map]
    exact h.imp fun {a b} z => by rw [leD_int]; exact decide_eq_true z
  · intro a ha b hb h1 h2
    obtain ⟨x, _, rfl⟩ := List.mem_map.mp ha
    obtain ⟨y, _, rfl⟩ := List.mem_map.mp hb
    rw [leD_int] at h1 h2
    have := of_decide_eq_true h1
    have := of_decide_eq_true h2
    have : x = y := by omega
    rw [this]
theorem pair_anti {L : List (Int × Int)} : ∀ a ∈ L.map dP, ∀ b ∈ L.map dP, leD a b = true → leD b a = true → a = b := by
  intro a ha b hb h1 h2
  obtain ⟨x, _, rfl⟩ := List.mem_map.mp ha
  obtain ⟨y, _, rfl⟩ := List.mem_map.mp hb
  rw [leD_pair] at h1 h2
  have := of_decide_eq_true h1
  have := of_decide_eq_true h2
  have : x = y := by
    cases x
    cases y
    simp only [Prod.mk.injEq] at *
    omega
  rw [this]
theorem sds_pairs {L R : RC.Tab} (p : R.Perm L) (h : RC.Asc R) : sds (L.map dP) = R.map dP := by
  refine sds_eq (p.map _) ?_ pair_anti
  rw [List.pairwise_map]
  exact h.imp fun {a b} z => by rw [leD_pair]; exact decide_eq_true (.inl z)
theorem sds_pairs_congr {L R : RC.Tab} (p : L.Perm R) : sds (L.map dP) = sds (R.map dP) := sds_congr (p.map _) pair_anti

/-! ### what sorted makes, told by the data -/
section
variable {K : PySem.W.Frag} {H : Hp}
theorem dpAll_zip : ∀ {xs : List V} {ds : List PyData}, DpAll K H xs ds → ∃ bs : List (V × PyData), bs.map Prod.fst = xs ∧ bs.map Prod.snd = ds ∧ ∀ b ∈ bs, Dp K H b.1 b.2
  | _, _, .nil => ⟨[], rfl, rfl, fun b hb => nomatch hb⟩
  | _, _, .cons h a => by
    obtain ⟨bs, e1, e2, e3⟩ := dpAll_zip a
    refine ⟨(_, _) :: bs, congrArg _ e1, congrArg _ e2, fun b hb => ?_⟩
    rcases List.mem_cons.mp hb with rfl | hb
    · exact h
    · exact e3 b hb
theorem dpAll_map {bs : List (V × PyData)} (h : ∀ b ∈ bs, Dp K H b.1 b.2) : DpAll K H (bs.map Prod.fst) (bs.map Prod.snd) := by
  induction bs with
  | nil => exact .nil
  | cons b bs ih => exact .cons (h b List.mem_cons_self) (ih fun c hc => h c (List.mem_cons_of_mem _ hc))
end
def rSrtD (K : PySem.W.Frag) : List V → Hp → VK → Prop := fun vs H Q => ∃ (a : Addr) (xs : List V) (ds : List PyData), vs = [.ref a] ∧ (SqL K H a xs ∨ SqT K H a xs) ∧ DpAll K H xs ds ∧ PySem.W.AllAlike ds ∧ PySem.W.Sortable ds ∧
  (∀ d ∈ ds, d.depth ≤ 50) ∧ ∀ p ys, H p = none → DpAll K H ys (sds ds) → Q (.ref p) (upd H p (.lst ys))
theorem cr_srtD {X : Cx} (hu : X.A.units + 64 < cLine) : CallR X (.builtin "sorted") (rSrtD X.K) := by
  intro pins s σ H vs us Q I r h
  obtain ⟨a, xs, ds, rfl, hs, hd, h1, h2, h3, q⟩ := h
  obtain ⟨bs, rfl, rfl, e3⟩ := dpAll_zip hd
  refine RX.cr_srt hu pins s σ H _ us Q I r ⟨a, bs, rfl, hs, e3, h1, h2, fun b hb => h3 _ (List.mem_map.mpr ⟨b, hb, rfl⟩), fun p hp => q p _ hp ?_⟩
  have e : sds (bs.map Prod.snd) = (RX.srtd bs).map Prod.snd := (PySem.W.sort_maps Prod.snd (l := bs) (r := PySem.W.dataLe false Prod.snd) (s := leD) fun _ _ _ _ => rfl).symm
  rw [e]
  exact dpAll_map fun b hb => e3 b ((List.mergeSort_perm ..).mem_iff.mp hb)
theorem alike_pairs (L : List (Int × Int)) : PySem.W.AllAlike (L.map dP) := PySem.W.AllAlike.of fun _ _ => by simp [PySem.W.alike, PySem.W.alikeAll]
theorem sortable_pairs (L : List (Int × Int)) : PySem.W.Sortable (L.map dP) := PySem.W.Sortable.tuples fun _ => ⟨_, _, rfl⟩
theorem alike_ints' (L : List Int) : PySem.W.AllAlike (L.map dI) := PySem.W.AllAlike.of fun _ _ => by simp [PySem.W.alike]
theorem sortable_ints (L : List Int) : PySem.W.Sortable (L.map dI) := PySem.W.Sortable.others fun _ => ⟨by simp, by simp⟩
theorem depth_ints : ∀ L : List Int, PyData.depthAll (L.map dI) ≤ 1
  | [] => by simp [PyData.depthAll]
  | x :: L => by
    have := depth_ints L
    simp [PyData.depthAll, PyData.depth]
    omega
theorem depth_T (L : List Int) : (dT L).depth ≤ 2 := by
  have := depth_ints L
  show (PyData.tuple (L.map dI)).depth ≤ 2
  simp only [PyData.depth]
  omega
theorem depth_P (p : Int × Int) : (dP p).depth ≤ 2 := by simp [PyData.depth, PyData.depthAll]
theorem depth_pairs {L : List (Int × Int)} : ∀ d ∈ L.map dP, d.depth ≤ 50 := fun d hd => by
  obtain ⟨p, _, rfl⟩ := List.mem_map.mp hd
  exact Nat.le_trans (depth_P p) (by decide)
theorem yesI {σ : L2.St} {H : Hp} {A B : Hp → Prop} (h : A H) : tYes σ H fun b H3 => if b = true then A H3 else B H3 := by
  show if true = true then A H else B H
  rw [if_pos rfl]
  exact h
end L2

/-! KLc -/
/-! Comprehensions over rows, over whole numbers. -/
namespace L2
open PySem PySem.Spec PyProof.Rows
/-- for i, j in .. -/
abbrev g2 (K : PySem.W.Frag) (i j : Nat) : TG := gTup K 2 (gCons (gName i) (gCons (gName j) gNil))
abbrev LcW (J : It) (g : TG) (tt : TT) (te : TE) (vs : List Nat) (σ : L2.St) (H1 : Hp) (D : Addr) (Qd : Hp → Prop) : Prop :=
    ∃ W : Nat → Nat → Hp → Prop, (∃ m, W 0 m (upd H1 D (.lst []))) ∧ ∀ i m H, W i m H →
      (J.stop i H ∧ Qd H) ∨ (J.go i H ∧ ∃ Nx : Hp → Prop, (∀ H', Nx H' → ∃ m', m' < m ∧ W (i + 1) m' H') ∧ ∀ x H', J.yld i H x H' → g x (wipe σ vs) H' fun σ2 H2 => wipe σ2 vs = wipe σ vs ∧ tt σ2 H2 fun b H3 =>
        if b = true then te σ2 H3 fun y H4 => ∃ acc, H4 D = some (.lst acc) ∧ acc.length < sizeLine ∧ Nx (upd H4 D (.lst (acc ++ [y]))) else Nx H3)
theorem lc_rows {K : PySem.W.Frag} {J : It} {i j : Nat} {tt : TT} {te : TE} {vs : List Nat} {σ : L2.St} {H1 : Hp} {D : Addr} {Qd : Hp → Prop} {xs : List V} {L : List (Int × Int)} {G : Hp → Prop} (w : Walk J xs.length G (YAt xs)) (f : Int × Int → Option PyData)
    (hD : H1 D = none) (hG : ∀ H', Same H1 H' → G H') (hxs : DpAll K H1 xs (L.map dP)) (hn : L.length ≤ 100000) (hw : ∀ a b, wipe (((wipe σ vs).set i (some a)).set j (some b)) vs = wipe σ vs)
    (hs : ∀ p H (QY : V → Hp → Prop) (QN : Hp → Prop), p ∈ L → Same H1 H → (∃ acc, H D = some (.lst acc)) → (∀ d, f p = some d → ∀ y H4, Same H H4 → Dp K (del H4 D) y d → QY y H4) → (f p = none → ∀ H4, Same H H4 → QN H4) →
      tt (((wipe σ vs).set i (some (.int p.1))).set j (some (.int p.2))) H fun b H3 => if b = true then te (((wipe σ vs).set i (some (.int p.1))).set j (some (.int p.2))) H3 QY else QN H3)
    (hd : ∀ H' acc, Same H1 H' → H' D = some (.lst acc) → DpAll K (del H' D) acc (L.filterMap f) → Qd H') : LcW J (g2 K i j) tt te vs σ H1 D Qd := by
  have hl : xs.length = L.length := by rw [hxs.len, List.length_map]
  refine lc_dp (K := K) w (fun i => (L[i]?).bind f) hD (by omega) hG (fun n x H H' QY QN hi s1 hacc hy qy qn => ?_) (fun H' acc s1 hacc h => ?_)
  · obtain ⟨rfl, hx⟩ := hy
    obtain ⟨d, e1, e2⟩ := (hxs.same s1).get hx
    rw [List.getElem?_map] at e1
    cases e3 : L[n]? with
    | none =>
      rw [e3] at e1
      cases e1
    | some p =>
      rw [e3] at e1 qy qn
      cases e1
      obtain ⟨b, rfl, hb⟩ := e2.pair_inv
      exact ⟨b, _, rfl, hb, rfl, _, _, rfl, _, _, rfl, rfl, hw _ _, hs p _ QY QN (List.mem_of_getElem? e3) s1 hacc qy qn⟩
  · rw [hl, rng_filterMap] at h
    exact hd H' acc s1 hacc h
theorem lc_ints {K : PySem.W.Frag} {J : It} {i : Nat} {tt : TT} {te : TE} {vs : List Nat} {σ : L2.St} {H1 : Hp} {D : Addr} {Qd : Hp → Prop} {ks : List Int} {G : Hp → Prop} (w : Walk J (ks.map V.int).length G (YAt (ks.map V.int))) (f : Int → Option PyData)
    (hD : H1 D = none) (hG : ∀ H', Same H1 H' → G H') (hn : ks.length ≤ 100000) (hw : ∀ a, wipe ((wipe σ vs).set i (some a)) vs = wipe σ vs)
    (hs : ∀ k H (QY : V → Hp → Prop) (QN : Hp → Prop), k ∈ ks → Same H1 H → (∃ acc, H D = some (.lst acc)) → (∀ d, f k = some d → ∀ y H4, Same H H4 → Dp K (del H4 D) y d → QY y H4) → (f k = none → ∀ H4, Same H H4 → QN H4) →
      tt ((wipe σ vs).set i (some (.int k))) H fun b H3 => if b = true then te ((wipe σ vs).set i (some (.int k))) H3 QY else QN H3)
    (hd : ∀ H' acc, Same H1 H' → H' D = some (.lst acc) → DpAll K (del H' D) acc (ks.filterMap f) → Qd H') : LcW J (gName i) tt te vs σ H1 D Qd := by
  refine lc_dp (K := K) w (fun i => (ks[i]?).bind f) hD (by rw [List.length_map]; omega) hG (fun n x H H' QY QN hi s1 hacc hy qy qn => ?_) (fun H' acc s1 hacc h => ?_)
  · obtain ⟨rfl, hx⟩ := hy
    rw [List.getElem?_map] at hx
    cases e3 : ks[n]? with
    | none =>
      rw [e3] at hx
      cases hx
    | some k =>
      rw [e3] at hx qy qn
      cases hx
      exact ⟨hw _, hs k _ QY QN (List.mem_of_getElem? e3) s1 hacc qy qn⟩
  · rw [List.length_map, rng_filterMap] at h
    exact hd H' acc s1 hacc h
/-- an int of a comprehension -/
theorem dp_del {K : PySem.W.Frag} {H : Hp} {D : Addr} {xs : List V} (h : H D = some (.lst xs)) {v : V} {d : PyData} (hd : tupD d = true) (hv : Dp K H v d) : Dp K (del H D) v d := hv.del (noTup_lst h) hd
end L2

/-! KGrp -/
/-! A dict of lists that grows: found.setdefault(n, []).append(k). -/
namespace L2
open PySem PySem.Spec PyProof.Rows
theorem filterMap_if {α β : Type} {c : α → Bool} {f : α → β} : ∀ l : List α, l.filterMap (fun p => if c p = true then some (f p) else none) = (l.filter c).map f
  | [] => rfl
  | p :: l => by
    rw [List.filterMap_cons, List.filter_cons]
    cases e : c p with
    | true =>
      rw [if_pos rfl, if_pos rfl, List.map_cons, filterMap_if l]
    | false =>
      rw [if_neg Bool.false_ne_true, if_neg Bool.false_ne_true, filterMap_if l]
theorem bump_len (G : RC.Grp) (n k : Int) : (RC.bump G n k).length ≤ G.length + 1 := by
  unfold RC.bump
  split
  · rw [List.length_map]
    omega
  · rw [List.length_append, List.length_singleton]
    omega
theorem bumps_len : ∀ (l : List (Int × Int)) (G : RC.Grp), (RC.bumps G l).length ≤ G.length + l.length
  | [], G => Nat.le_refl _
  | p :: l, G => by
    have h := bumps_len l (RC.bump G p.1 p.2)
    have := bump_len G p.1 p.2
    show (RC.bumps (RC.bump G p.1 p.2) l).length ≤ _
    rw [List.length_cons]
    omega
theorem bumps_entry_len {l : List (Int × Int)} : ∀ e ∈ RC.bumps [] l, e.2.length ≤ l.length := fun e he => by
  rw [RC.bumps_entry.1 e he, List.length_map]
  exact List.length_filter_le ..
abbrev kvE (E : List (Int × Addr × List Int)) : List (Key × V) := E.map fun e => (Sum.inl e.1, V.ref e.2.1)
structure GE (H0 H : Hp) (d : Addr) (E : List (Int × Addr × List Int)) : Prop where
  same : Same H0 H
  dnew : H0 d = none
  dat : H d = some (.dK (kvE E))
  nk : (E.map fun e => e.1).Nodup
  na : (E.map fun e => e.2.1).Nodup
  at_ : ∀ e ∈ E, H0 e.2.1 = none ∧ H e.2.1 = some (.lst (e.2.2.map V.int))
def GrpAt (H0 H : Hp) (d : Addr) (G : RC.Grp) : Prop := ∃ E, GE H0 H d E ∧ E.map (fun e => (e.1, e.2.2)) = G
theorem GE.mono {H0 H H' : Hp} {d : Addr} {E} (g : GE H0 H d E) (s : Same H H') : GE H0 H' d E :=
  ⟨g.same.trans s, g.dnew, s _ _ g.dat, g.nk, g.na, fun e he => ⟨(g.at_ e he).1, s _ _ (g.at_ e he).2⟩⟩
theorem GrpAt.mono {H0 H H' : Hp} {d : Addr} {G} (g : GrpAt H0 H d G) (s : Same H H') : GrpAt H0 H' d G := by
  obtain ⟨E, h, e⟩ := g
  exact ⟨E, h.mono s, e⟩
theorem none_of_same {H H0 : Hp} {a : Addr} (s : Same H H0) (h : H0 a = none) : H a = none := by
  cases e : H a with
  | none => rfl
  | some o =>
    rw [s _ _ e] at h
    cases h
theorem GrpAt.base {H H0 H' : Hp} {d : Addr} {G} (g : GrpAt H0 H' d G) (s : Same H H0) : GrpAt H H' d G := by
  obtain ⟨E, h, e⟩ := g
  exact ⟨E, ⟨s.trans h.same, none_of_same s h.dnew, h.dat, h.nk, h.na, fun e he => ⟨none_of_same s (h.at_ e he).1, (h.at_ e he).2⟩⟩, e⟩
theorem kvE_get : ∀ (E : List (Int × Addr × List Int)) (k : Int), (k ∉ E.map (fun e => e.1) → valV (kvE E) (Sum.inl k : Key) = none) ∧ ∀ v, valV (kvE E) (Sum.inl k : Key) = some v → ∃ e ∈ E, e.1 = k ∧ v = .ref e.2.1
  | [], k => ⟨fun _ => rfl, fun v h => by cases h⟩
  | e :: E, k => by
    obtain ⟨h1, h2⟩ := kvE_get E k
    by_cases q : k = e.1
    · refine ⟨fun z => absurd (by simp [q]) z, fun v h => ?_⟩
      have : valV (kvE (e :: E)) (Sum.inl k : Key) = some (.ref e.2.1) := by
        rw [q]
        exact valV_pos rfl
      rw [this] at h
      exact ⟨e, List.mem_cons_self, q.symm, (Option.some.inj h).symm⟩
    · have : valV (kvE (e :: E)) (Sum.inl k : Key) = valV (kvE E) (Sum.inl k : Key) := valV_neg (fun z => q (Sum.inl.inj z).symm)
      rw [this]
      refine ⟨fun z => h1 fun y => z (List.mem_cons_of_mem _ y), fun v h => ?_⟩
      obtain ⟨x, hx, y⟩ := h2 v h
      exact ⟨x, List.mem_cons_of_mem _ hx, y⟩
theorem kvE_some {E : List (Int × Addr × List Int)} {e : Int × Addr × List Int} (nk : (E.map fun e => e.1).Nodup) (he : e ∈ E) : valV (kvE E) (Sum.inl e.1 : Key) = some (.ref e.2.1) := by
  induction E with
  | nil => cases he
  | cons x E ih =>
    rw [List.map_cons, List.nodup_cons] at nk
    rcases List.mem_cons.mp he with rfl | he
    · exact valV_pos rfl
    · have q : e.1 ≠ x.1 := fun z => nk.1 (List.mem_map.mpr ⟨e, he, z⟩)
      rw [show valV (kvE (x :: E)) (Sum.inl e.1 : Key) = valV (kvE E) (Sum.inl e.1 : Key) from valV_neg (fun z => q (Sum.inl.inj z).symm)]
      exact ih nk.2 he
/-- the group is there -/
theorem GE.old {H0 H : Hp} {d : Addr} {E} (g : GE H0 H d E) {e : Int × Addr × List Int} (he : e ∈ E) (k : Int) :
    GrpAt H0 (upd H e.2.1 (.lst ((e.2.2 ++ [k]).map V.int))) d (RC.bump (E.map fun e => (e.1, e.2.2)) e.1 k) := by
  have nd : d ≠ e.2.1 := fun z => by
    have h1 := g.dat
    have h2 := (g.at_ e he).2
    rw [z, h2] at h1
    cases h1
  refine ⟨E.map fun x => if x.1 = e.1 then (x.1, x.2.1, x.2.2 ++ [k]) else x, ⟨g.same.mut (g.at_ e he).1, g.dnew, ?_, ?_, ?_, ?_⟩, ?_⟩
  · rw [upd_ne nd, g.dat]
    congr 2
    unfold kvE
    rw [List.map_map]
    refine List.map_congr_left fun x _ => ?_
    show _ = (Sum.inl (if x.1 = e.1 then (x.1, x.2.1, x.2.2 ++ [k]) else x).1, V.ref (if x.1 = e.1 then (x.1, x.2.1, x.2.2 ++ [k]) else x).2.1)
    split <;> rfl
  · rw [List.map_map]
    have : E.map ((fun e : Int × Addr × List Int => e.1) ∘ fun x => if x.1 = e.1 then (x.1, x.2.1, x.2.2 ++ [k]) else x) = E.map fun e => e.1 := List.map_congr_left fun x _ => by
      show (if x.1 = e.1 then (x.1, x.2.1, x.2.2 ++ [k]) else x).1 = x.1
      split <;> rfl
    rw [this]
    exact g.nk
  · rw [List.map_map]
    have : E.map ((fun e : Int × Addr × List Int => e.2.1) ∘ fun x => if x.1 = e.1 then (x.1, x.2.1, x.2.2 ++ [k]) else x) = E.map fun e => e.2.1 := List.map_congr_left fun x _ => by
      show (if x.1 = e.1 then (x.1, x.2.1, x.2.2 ++ [k]) else x).2.1 = x.2.1
      split <;> rfl
    rw [this]
    exact g.na
  · intro y hy
    obtain ⟨x, hx, rfl⟩ := List.mem_map.mp hy
    by_cases q : x.1 = e.1
    · have hxe : x = e := by
        have nk := g.nk
        clear g hy
        induction E with
        | nil => cases hx
        | cons z E ih =>
          rw [List.map_cons, List.nodup_cons] at nk
          rcases List.mem_cons.mp hx with h1 | hx
          · rcases List.mem_cons.mp he with h2 | he
            · rw [h1, h2]
            · exact absurd (List.mem_map.mpr ⟨e, he, by rw [← q, h1]⟩) nk.1
          · rcases List.mem_cons.mp he with h2 | he
            · exact absurd (List.mem_map.mpr ⟨x, hx, by rw [q, h2]⟩) nk.1
            · exact ih he hx nk.2
      subst hxe
      rw [if_pos rfl]
      exact ⟨(g.at_ x hx).1, upd_same⟩
    · rw [if_neg q]
      refine ⟨(g.at_ x hx).1, ?_⟩
      have : x.2.1 ≠ e.2.1 := fun z => q (by
        have na := g.na
        clear g hy
        induction E with
        | nil => cases hx
        | cons y E ih =>
          rw [List.map_cons, List.nodup_cons] at na
          rcases List.mem_cons.mp hx with h1 | hx
          · rcases List.mem_cons.mp he with h2 | he
            · rw [h1, h2]
            · exact absurd (List.mem_map.mpr ⟨e, he, by rw [← z, h1]⟩) na.1
          · rcases List.mem_cons.mp he with h2 | he
            · exact absurd (List.mem_map.mpr ⟨x, hx, by rw [z, h2]⟩) na.1
            · exact ih he hx na.2)
      rw [upd_ne this]
      exact (g.at_ x hx).2
  · unfold RC.bump
    rw [if_pos (by rw [List.map_map]; exact List.mem_map.mpr ⟨e, he, rfl⟩), List.map_map, List.map_map]
    refine List.map_congr_left fun x _ => ?_
    show ((if x.1 = e.1 then (x.1, x.2.1, x.2.2 ++ [k]) else x).1, (if x.1 = e.1 then (x.1, x.2.1, x.2.2 ++ [k]) else x).2.2) = (if x.1 = e.1 then (x.1, x.2.2 ++ [k]) else (x.1, x.2.2))
    split <;> rfl
/-- a new group -/
theorem GE.new {H0 H : Hp} {d : Addr} {E} (g : GE H0 H d E) {n : Int} (hn : n ∉ E.map fun e => e.1) {z : Addr} (hz : H z = none) (k : Int) :
    GrpAt H0 (upd (upd (upd H z (.lst [])) d (.dK (putK (kvE E) (Sum.inl n) (.ref z)))) z (.lst [V.int k])) d (RC.bump (E.map fun e => (e.1, e.2.2)) n k) := by
  have nd : d ≠ z := ne_of_none g.dat hz
  have z0 : H0 z = none := none_of_same g.same hz
  have hput : putK (kvE E) (Sum.inl n : Key) (.ref z) = kvE (E ++ [(n, z, [k])]) := by
    rw [putK_new _ (by rw [(kvE_get E n).1 hn])]
    unfold kvE
    rw [List.map_append]
    rfl
  refine ⟨E ++ [(n, z, [k])], ⟨((g.same.mut z0).mut g.dnew).mut z0, g.dnew, ?_, ?_, ?_, ?_⟩, ?_⟩
  · rw [upd_ne nd, upd_same, hput]
  · rw [List.map_append]
    refine List.nodup_append.mpr ⟨g.nk, by simp, fun a ha b hb => ?_⟩
    have : b = n := by simpa using hb
    rw [this]
    exact fun e => hn (e ▸ ha)
  · rw [List.map_append]
    refine List.nodup_append.mpr ⟨g.na, by simp, fun a ha b hb => ?_⟩
    have : b = z := by simpa using hb
    rw [this]
    obtain ⟨e, he, rfl⟩ := List.mem_map.mp ha
    exact ne_of_none (g.at_ e he).2 hz
  · intro e he
    rcases List.mem_append.mp he with he | he
    · refine ⟨(g.at_ e he).1, ?_⟩
      have n1 : e.2.1 ≠ z := ne_of_none (g.at_ e he).2 hz
      have n2 : e.2.1 ≠ d := fun q => by
        have h1 := g.dat
        have h2 := (g.at_ e he).2
        rw [← q, h2] at h1
        cases h1
      rw [upd_ne n1, upd_ne n2, upd_ne n1]
      exact (g.at_ e he).2
    · have : e = (n, z, [k]) := by simpa using he
      subst this
      exact ⟨z0, upd_same⟩
  · unfold RC.bump
    rw [if_neg (by rw [List.map_map]; exact hn), List.map_append]
    rfl
/-- found.setdefault(n, []).append(k) -/
theorem grp_app {K : PySem.W.Frag} {H0 H : Hp} {d : Addr} {G : RC.Grp} {n k : Int} {ty tk : TE} {f : Nat} {σ : L2.St} {D : Ends} (g : GrpAt H0 H d G) (hG : G.length ≤ 1000) (hL : ∀ e ∈ G, e.2.length ≤ 1000) (hf : σ[f]? = some (some (.ref d)))
    (hty : ∀ Q : VK, Q (.int n) H → ty σ H Q) (htk : ∀ (H' : Hp) (Q : VK), Q (.int k) H' → tk σ H' Q) (q : ∀ H', GrpAt H0 H' d (RC.bump G n k) → D.nx σ H') :
    tDrop (tBM K "list" rAppend (tDSetd (tVar f) ty (tLst tNil)) (tCons tk tNil)) D σ H := by
  obtain ⟨E, g, rfl⟩ := g
  have big : (1001 : Nat) < sizeLine := by decide
  refine ⟨_, hf, d, rfl, .inl ⟨_, .inl g.dat⟩, hty _ ⟨Nat.zero_le _, fun z hz => ?_⟩⟩
  have nd : d ≠ z := ne_of_none g.dat hz
  refine ⟨kvE E, Sum.inl n, by rw [upd_ne nd]; exact g.dat, rfl, by unfold kvE; rw [List.length_map] at hG ⊢; omega, fun v hv => ?_, fun hv => ?_⟩
  · obtain ⟨e, he, e1, rfl⟩ := (kvE_get E n).2 v hv
    subst e1
    have g2 := g.mono (same_new (o := .lst []) hz)
    have ha := (g2.at_ e he).2
    refine ⟨.inl ⟨rfl, _, SqL.of ha⟩, htk _ _ ⟨_, _, _, rfl, rfl, ha, ?_, ?_⟩⟩
    · have := hL (e.1, e.2.2) (List.mem_map.mpr ⟨e, he, rfl⟩)
      rw [List.length_map]
      exact Nat.lt_trans (Nat.lt_succ_of_le this) big
    · refine q _ ?_
      have := g2.old he k
      rw [List.map_append] at this
      exact this
  · have hn : n ∉ E.map fun e => e.1 := fun z => by
      obtain ⟨e, he, e1⟩ := List.mem_map.mp z
      subst e1
      rw [kvE_some g.nk he] at hv
      cases hv
    have ha : (upd (upd H z (.lst [])) d (.dK (putK (kvE E) (Sum.inl n) (.ref z)))) z = some (.lst []) := by rw [upd_ne nd.symm, upd_same]
    exact ⟨.inl ⟨rfl, _, SqL.of ha⟩, htk _ _ ⟨_, _, _, rfl, rfl, ha, Nat.lt_trans (Nat.zero_lt_succ 1000) big, q _ (g.new hn hz k)⟩⟩
theorem grp_empty {H0 H : Hp} {d : Addr} (s : Same H0 H) (hd : H0 d = none) (h : H d = some (.dK [])) : GrpAt H0 H d [] :=
  ⟨[], ⟨s, hd, h, List.nodup_nil, List.nodup_nil, fun e he => nomatch he⟩, rfl⟩
end L2

/-! KW1 -/
/-! Walks: is_integer, is_key, is_row. -/
namespace RP
open PySem PySem.Spec PyProof.Rows L2
variable {P : Program} {w : World} {K : PySem.W.Frag} {mg : Str → Option Value} {base : Heap}

def spIsInteger : Sp := fun vs H Q _ => ∃ i : Int, vs = [.int i] ∧ Q (.bl true) H
theorem sc_is_integer : FnScope ["thing"] ["thing"] (defScope sIsInteger) := ⟨rfl, rfl, rfl, by decide +kernel, rfl, by decide +kernel, by decide +kernel⟩
theorem ok_is_integer (T : TX K mg) : FnOk P w K mg base CX0 1 T.d_is_integer.f T.d_is_integer.fd ["thing"] spIsInteger := by
  refine T.d_is_integer.F.ok sc_is_integer (fun vs H Q E h => ?_) (fun cdv A outer s H vs Q E hr h => ?_)
  · obtain ⟨i, rfl, _⟩ := h
    rfl
  · obtain ⟨i, rfl, q⟩ := h
    refine ⟨_, pss_one (ps_ret (pe_and (pisi T.n_isinstance (pv 0) (pty T.n_int bb_int)) (pe_one (pe_not (pisi T.n_isinstance (pv 0) (pty T.n_bool bb_bool)))))), ?_⟩
    exact ⟨_, rfl, _, _, _, _, _, rfl, .ty _, .base (.int i), kit_ty (by decide +kernel), true, rfl, _, rfl, _, _, _, _, _, rfl, .ty _, .base (.int i), kit_ty (r := false) (by decide +kernel), false, rfl, q⟩

/-- a whole number that is a key -/
def Key30 (i : Int) : Prop := -1000000000000000000000000000000 < i ∧ i < 1000000000000000000000000000000
def spIsKey : Sp := fun vs H Q _ => ∃ i : Int, vs = [.int i] ∧ Key30 i ∧ Q (.bl true) H
theorem sc_is_key : FnScope ["thing"] ["thing"] (defScope sIsKey) := ⟨rfl, rfl, rfl, by decide +kernel, rfl, by decide +kernel, by decide +kernel⟩
theorem ok_is_key (T : TX K mg) : FnOk P w K mg base CX0 2 T.d_is_key.f T.d_is_key.fd ["thing"] spIsKey := by
  have G1 := ok_is_integer (P := P) (w := w) (base := base) T
  refine T.d_is_key.F.ok sc_is_key (fun vs H Q E h => ?_) (fun cdv A outer s H vs Q E hr h => ?_)
  · obtain ⟨i, rfl, _⟩ := h
    rfl
  · obtain ⟨i, rfl, hi, q⟩ := h
    obtain ⟨t, kb⟩ := T.keyBound
    refine ⟨_, pss_one (ps_ret (pe_and (pc T.d_is_integer G1 hr (pa_cons (pv 0) pa_nil)) (pe_one (pe_chain op_lt op_lt (pe_un un_neg (pe_glob (v := .int 1000000000000000000000000000000) (by rfl) kb ⟨_, rfl⟩)) (pv 0) (pe_glob (v := .int 1000000000000000000000000000000) (by rfl) kb ⟨_, rfl⟩))))), ?_⟩
    refine ⟨_, rfl, i, rfl, true, rfl, _, rfl, _, rfl, _, _, rfl, rfl, true, ?_, _, _, rfl, rfl, ?_⟩
    · exact congrArg V.bl (decide_eq_true hi.1)
    · show Q (V.bl (decide (i < 1000000000000000000000000000000))) H
      rw [decide_eq_true hi.2]
      exact q

theorem tyx_tup {H : Hp} {a : Addr} {xs : List V} (h : SqT K H a xs) : TyX K H (.ref a) (.type "tuple") := by
  rcases h with (h | ⟨o, h⟩) | ⟨o, its, n, h, hc, _⟩
  · exact .base (.tup h)
  · exact .fTuple h
  · exact .kTuple h hc
def spIsRow (K : PySem.W.Frag) : Sp := fun vs H Q _ => ∃ (v : V) (p : Int × Int), vs = [v] ∧ Dp K H v (dP p) ∧ Key30 p.1 ∧ Key30 p.2 ∧ Q (.bl true) H
theorem sc_is_row : FnScope ["thing"] ["thing"] (defScope sIsRow) := ⟨rfl, rfl, rfl, by decide +kernel, rfl, by decide +kernel, by decide +kernel⟩
theorem ok_is_row (T : TX K mg) : FnOk P w K mg base CX0 3 T.d_is_row.f T.d_is_row.fd ["thing"] (spIsRow K) := by
  have G1 := ok_is_key (P := P) (w := w) (base := base) T
  refine T.d_is_row.F.ok sc_is_row (fun vs H Q E h => ?_) (fun cdv A outer s H vs Q E hr h => ?_)
  · obtain ⟨v, p, rfl, _⟩ := h
    rfl
  · obtain ⟨v, p, rfl, hd, k1, k2, q⟩ := h
    obtain ⟨a, rfl, hs⟩ := hd.pair_inv
    refine ⟨_, pss_one (ps_ret (pe_and (pisi T.n_isinstance (pv 0) (pty T.n_tuple bb_tuple)) (pe_and (pe_cmpR op_eq (pb call_len T.n_len bb_len (pa_cons (pv 0) pa_nil)) pe_int (nomark _))
      (pe_and (pc T.d_is_key G1 hr (pa_cons (pe_ix ix_tup (pv 0) pe_int (fun _ _ => rfl)) pa_nil)) (pe_one (pc T.d_is_key G1 hr (pa_cons (pe_ix ix_tup (pv 0) pe_int (fun _ _ => rfl)) pa_nil))))))), ?_⟩
    refine ⟨_, rfl, _, _, _, _, _, rfl, .ty _, tyx_tup hs, kit_ty (r := true) (by decide +kernel), true, rfl, _, rfl, _, 2, rfl, .inr ⟨_, hs, rfl⟩, rfl, true, rfl, ?_⟩
    refine ⟨_, rfl, _, _, _, _, rfl, rfl, hs, atI_nat (j := 0) rfl, p.1, rfl, k1, true, rfl, _, rfl, _, _, _, _, rfl, rfl, hs, atI_nat (j := 1) rfl, p.2, rfl, k2, q⟩
end RP

/-! KW2 -/
/-! Walks: the class Table. -/
namespace RP
open PySem PySem.Spec PyProof.Rows L2
variable {P : Program} {w : World} {K : PySem.W.Frag} {mg : Str → Option Value} {base : Heap}

def kvT (L : RC.Tab) : List (Key × V) := L.map fun p => (Sum.inl p.1, V.int p.2)
theorem kvT_len (L : RC.Tab) : (kvT L).length = L.length := List.length_map ..
theorem kvT_get : ∀ (L : RC.Tab) (k : Int), valV (kvT L) (Sum.inl k : Key) = (L.lookup k).map V.int
  | [], _ => rfl
  | (a, b) :: L, k => by
    show valV ((Sum.inl a, V.int b) :: kvT L) (Sum.inl k : Key) = _
    rw [List.lookup_cons]
    by_cases e : k = a
    · subst e
      rw [valV_pos rfl, beq_self_eq_true]
      rfl
    · rw [valV_neg (fun z => e (Sum.inl.inj z).symm), kvT_get L k, beq_eq_false_iff_ne.mpr e]
theorem kvT_put {L : RC.Tab} {k n : Int} (h : k ∉ RC.keys L) : putK (kvT L) (Sum.inl k : Key) (V.int n) = kvT (L ++ [(k, n)]) := by
  rw [putK_new _ (by rw [kvT_get, RC.lookup_none h]; rfl)]
  unfold kvT
  rw [List.map_append]
  rfl

/-- a table at a: its rows, in ascending order -/
structure TabAt (C : Addr) (H : Hp) (a : Addr) (R : RC.Tab) : Prop where
  ex : ∃ (d dx : Addr) (L : RC.Tab), H a = some (.ins C dx [("wants", .ref d)]) ∧ H d = some (.dK (kvT L)) ∧ L.Perm R
  asc : RC.Asc R
  len : R.length ≤ 40
  bd : ∀ p ∈ R, Key30 p.1 ∧ Key30 p.2
theorem TabAt.same {C : Addr} {H H' : Hp} {a : Addr} {R : RC.Tab} (s : Same H H') (h : TabAt C H a R) : TabAt C H' a R := by
  obtain ⟨d, dx, L, h1, h2, h3⟩ := h.ex
  exact ⟨⟨d, dx, L, s _ _ h1, s _ _ h2, h3⟩, h.asc, h.len, h.bd⟩
theorem perm_lookup {L R : RC.Tab} (p : L.Perm R) (nd : (RC.keys R).Nodup) (k : Int) : L.lookup k = R.lookup k := by
  have pk : (RC.keys L).Perm (RC.keys R) := p.map _
  cases e : R.lookup k with
  | some n => exact RC.lookup_of_mem (pk.nodup_iff.mpr nd) (p.mem_iff.mpr (RC.lookup_mem e))
  | none =>
    refine RC.lookup_none fun hk => ?_
    obtain ⟨n, z⟩ := RC.lookup_some (pk.mem_iff.mp hk)
    rw [e] at z
    cases z

/-! ### checked_rows -/
structure RowsOk (L : RC.Tab) : Prop where
  nd : (RC.keys L).Nodup
  len : L.length ≤ 40
  bd : ∀ p ∈ L, Key30 p.1 ∧ Key30 p.2
def spChecked (K : PySem.W.Frag) : Sp := fun vs H Q _ => ∃ (a : Addr) (xs : List V) (L : RC.Tab), vs = [.ref a] ∧ SqL K H a xs ∧ DpAll K H xs (L.map dP) ∧ RowsOk L ∧
  ∀ d H', H d = none → Same H H' → H' d = some (.dK (kvT L)) → Q (.ref d) H'
theorem sc_checked : FnScope ["rows", "row", "wants", "key", "new"] ["rows"] (defScope sCheckedRows) := ⟨rfl, rfl, rfl, by decide +kernel, rfl, by decide +kernel, by decide +kernel⟩
theorem take_get {α : Type} {l : List α} {i : Nat} {x : α} (h : l[i]? = some x) : l.take (i + 1) = l.take i ++ [x] := by
  rw [List.take_add_one, h]
  rfl
theorem keys_take_not {L : RC.Tab} (nd : (RC.keys L).Nodup) {i : Nat} {p : Int × Int} (h : L[i]? = some p) : p.1 ∉ RC.keys (L.take i) := by
  obtain ⟨hi, e⟩ := List.getElem?_eq_some_iff.mp h
  have e2 : RC.keys L = RC.keys (L.take i) ++ p.1 :: RC.keys (L.drop (i + 1)) := by
    conv => lhs; rw [← List.take_append_drop i L, List.drop_eq_getElem_cons hi, e]
    exact List.map_append ..
  intro z
  rw [e2, List.nodup_append] at nd
  exact nd.2.2 _ z _ List.mem_cons_self rfl
theorem ok_checked (T : TX K mg) : FnOk P w K mg base CX0 4 T.d_checked_rows.f T.d_checked_rows.fd ["rows"] (spChecked K) := by
  have G1 := ok_is_row (P := P) (w := w) (base := base) T
  refine T.d_checked_rows.F.ok sc_checked (fun vs H Q E h => ?_) (fun cdv A outer s H vs Q E hr h => ?_)
  · obtain ⟨a, xs, L, rfl, _⟩ := h
    rfl
  · obtain ⟨a, xs, L, rfl, hs, hd, ok, q⟩ := h
    obtain ⟨t, mr⟩ := T.mostRows
    have hu := hu_of hr
    have hlen : xs.length = L.length := by rw [hd.len, List.length_map]
    refine ⟨_, pss_cons (ps_for PassesOwn.never rfl (pi_list (pv 0)) (pg_name (i := 1) sc_checked.nd rfl (.inl rfl)) (pss_one (ps_if (pt_not (pt_val (pc T.d_is_row G1 hr (pa_cons (pv 1) pa_nil)))) pss_never pss_nil)))
      (pss_cons (ps_set (i := 2) sc_checked.nd rfl (.inl rfl) pe_dnewK)
      (pss_cons (ps_for PassesOwn.never rfl (pi_list (pv 0)) (pg_tup rfl (pgs_cons (pg_name (i := 3) sc_checked.nd rfl (.inl rfl)) (pgs_cons (pg_name (i := 4) sc_checked.nd rfl (.inl rfl)) pgs_nil)))
        (pss_cons (ps_if (pt_cmp (pc_din hu (pv 3) (pv 2))) pss_never pss_nil) (pss_one (ps_dput hu (pv 2) (pv 3) (pv 4) rfl))))
      (pss_cons (ps_if (pt_cmpR op_gt (pb call_len_seq T.n_len bb_len (pa_cons (pv 0) pa_nil)) (pe_glob (v := .int 40) (by rfl) mr ⟨_, rfl⟩) (nomark _)) pss_never pss_nil)
      (pss_one (ps_ret (pv 2)))))), ?_⟩
    refine ⟨_, rfl, a, rfl, ⟨_, hs⟩, for_list (K := K) (a := a) (xs := xs) (fun i σ H' => ∃ v, σ = [some (.ref a), v, none, none, none] ∧ H = H') ⟨none, rfl, rfl⟩ (fun i σ H' _ ⟨_, _, e⟩ => e ▸ hs) ?_ ?_⟩
    · rintro i x σ H' hi ⟨v, rfl, rfl⟩
      obtain ⟨d, e1, e2⟩ := hd.get hi
      rw [List.getElem?_map] at e1
      cases e3 : L[i]? with
      | none =>
        rw [e3] at e1
        cases e1
      | some p =>
        rw [e3] at e1
        cases e1
        have hb := ok.bd p (List.mem_of_getElem? e3)
        refine ⟨_, rfl, x, p, rfl, e2, hb.1, hb.2, true, rfl, ?_⟩
        exact iteF ⟨_, rfl, rfl⟩
    · rintro σ H' ⟨v, rfl, rfl⟩
      intro d hd0
      have s0 : Same H (upd H d (.dK [])) := same_new hd0
      have had : ∀ {H' : Hp}, Same H H' → SqL K H' a xs := fun s => same_l s hs
      refine ⟨_, rfl, a, rfl, ⟨_, had s0⟩, for_list (K := K) (a := a) (xs := xs) (fun i σ H' => ∃ v k n, σ = [some (.ref a), v, some (.ref d), k, n] ∧ Same H H' ∧ H' d = some (.dK (kvT (L.take i)))) ⟨v, none, none, rfl, s0, upd_same⟩
        (fun i σ H' _ ⟨_, _, _, _, z, _⟩ => had z) ?_ ?_⟩
      · rintro i x σ H' hi ⟨v, k, n, rfl, sm, hD⟩
        obtain ⟨dd, e1, e2⟩ := hd.get hi
        rw [List.getElem?_map] at e1
        cases e3 : L[i]? with
        | none =>
          rw [e3] at e1
          cases e1
        | some p =>
          rw [e3] at e1
          cases e1
          obtain ⟨b, rfl, hb⟩ := (e2.same sm).pair_inv
          have nk := keys_take_not ok.nd e3
          have li : i < L.length := (List.getElem?_eq_some_iff.mp e3).1
          refine ⟨b, _, rfl, hb, rfl, _, _, rfl, _, _, rfl, rfl, ?_⟩
          refine ⟨_, rfl, _, rfl, d, _, rfl, DGet.k (k := Sum.inl p.1) hD, _, rfl, ?_⟩
          rw [kvT_get, RC.lookup_none nk]
          refine iteF ?_
          refine ⟨_, rfl, _, rfl, _, rfl, d, _, rfl, DPut.k (k := Sum.inl p.1) hD (by rw [kvT_len, List.length_take]; exact small1000 (by have := ok.len; omega)), ?_⟩
          refine ⟨_, _, _, rfl, sm.mut hd0, ?_⟩
          rw [upd_same, kvT_put nk, take_get e3]
      · rintro σ H' ⟨v, k, n, rfl, sm, hD⟩
        rw [hlen, List.take_length] at hD
        refine ⟨_, rfl, a, xs, rfl, .inl (had sm), _, _, rfl, rfl, _, rfl, ?_⟩
        have : decide ((40 : Int) < ((xs.length : Nat) : Int)) = false := decide_eq_false (by have := ok.len; omega)
        rw [this]
        exact iteF ⟨_, rfl, q d H' hd0 sm hD⟩
end RP

/-! KW3 -/
/-! Walks: the class Table, its making and its rows. -/
namespace RP
open PySem PySem.Spec PyProof.Rows L2
variable {P : Program} {w : World} {K : PySem.W.Frag} {mg : Str → Option Value} {base : Heap}

abbrev wantsF (d : Addr) : List (Str × V) := [("wants", V.ref d)]
def spTInit (K : PySem.W.Frag) (C : Addr) : Sp := fun vs H Q _ => ∃ (p dx : Addr) (xs : List V) (L : RC.Tab), vs = .ref p :: xs ∧ H p = some (.ins C dx []) ∧ DpAll K H xs (L.map dP) ∧ RowsOk L ∧
  ∀ d H', H d = none → (∀ b o, H b = some o → b ≠ p → H' b = some o) → H' p = some (.ins C dx (wantsF d)) → H' d = some (.dK (kvT L)) → Q .non H'
theorem sc_tinit : FnScope ["self", "rows"] ["self", "rows"] (defScope sTableInit) := ⟨rfl, rfl, rfl, by decide +kernel, rfl, by decide +kernel, by decide +kernel⟩
theorem ok_tinit (T : TX K mg) : FnR P w K mg base CX0 5 T.tInit_f (spTInit K T.cTable.C) := by
  have G1 := ok_checked (P := P) (w := w) (base := base) T
  obtain ⟨oc, od, kV, doc, pm, an, cdv, ct, osl, e, lk, hcd⟩ := T.tInit_F.ex
  rw [e] at lk
  have star := StX.fn_star (P := P) (w := w) (mg := mg) (base := base) (CX := CX0) (k := 4) (ps := ["self"]) (pv := "rows") (N := ["self", "rows"])
    (sp := fun vs H Q _ => ∃ (p dx t : Addr) (xs : List V) (L : RC.Tab), vs = [.ref p, .ref t] ∧ H p = some (.ins T.cTable.C dx []) ∧ H t = some (.tup xs) ∧ DpAll K H xs (L.map dP) ∧ RowsOk L ∧
      ∀ d H', H d = none → (∀ b o, H b = some o → b ≠ p → H' b = some o) → H' p = some (.ins T.cTable.C dx (wantsF d)) → H' d = some (.dK (kvT L)) → Q .non H')
    lk hcd sc_tinit StX.cxUp_none (StX.bind_star1 (B := fun us => bindArgs (PySem.W.fnOf "__init__" "Table.__init__" (defArgs sTableInit) (defBody sTableInit) (defScope sTableInit) .none kV doc pm an cdv ct) ⟨us, []⟩) (fun a => rfl) (fun a r rs => rfl)) (fun A outer s H vs Q E hr h => ?_)
  · intro A outer s H us vs Q E hr e0 r hsp
    obtain ⟨p, dx, xs, L, rfl, hp, hd, ok, q⟩ := hsp
    refine star A outer s H us _ Q E hr e0 r ⟨[.ref p], xs, rfl, rfl, ?_, fun t ht => ⟨p, dx, t, xs, L, rfl, ?_, upd_same, hd.same (same_new ht), ok, fun d H' h1 h2 h3 h4 => ?_⟩⟩
    · rw [hd.len, List.length_map]
      exact Nat.le_of_lt (small1000 (by have := ok.len; omega))
    · rw [upd_ne (ne_of_none hp ht)]
      exact hp
    · have hdt : d ≠ t := fun z => by
        rw [z, upd_same] at h1
        cases h1
      refine q d H' ?_ (fun b o hb hne => h2 b o ?_ hne) h3 h4
      · rw [upd_ne hdt] at h1
        exact h1
      · rw [upd_ne (ne_of_none hb ht)]
        exact hb
  · obtain ⟨p, dx, t, xs, L, rfl, hp, ht, hd, ok, q⟩ := h
    refine ⟨_, PSs.nox (pss_one (ps_fld (pv 0) (pc T.d_checked_rows G1 hr (pa_cons (pbt call_list_of T.n_list bb_list (pa_cons (pv 1) pa_nil)) pa_nil)) rfl)), ?_⟩
    refine ⟨_, rfl, t, xs, rfl, .inr (SqT.of ht), fun l hl => ?_⟩
    have s1 : Same H (upd H l (.lst xs)) := same_new hl
    refine ⟨l, xs, L, rfl, SqL.of upd_same, hd.same s1, ok, fun d H' hd0 s2 h4 => ?_⟩
    have hdl : d ≠ l := fun z => by
      rw [z, upd_same] at hd0
      cases hd0
    have hd0' : H d = none := by rwa [upd_ne hdl] at hd0
    have hp' : H' p = some (.ins T.cTable.C dx []) := s2 _ _ (s1 _ _ hp)
    have npd : d ≠ p := (ne_of_none hp hd0').symm
    refine ⟨_, rfl, p, T.cTable.C, dx, [], rfl, hp', T.cTable.cl, T.tWants, by decide, ?_⟩
    refine q d _ hd0' (fun b o hb hne => ?_) upd_same ?_
    · rw [upd_ne hne]
      exact s2 _ _ (s1 _ _ hb)
    · rw [upd_ne npd]
      exact h4

theorem same_unlock {H H2 : Hp} {d : Addr} {o o' : HO} (h : H d = some o) (s : Same (upd H d o') H2) : Same H (upd H2 d o) := fun b u hb => by
  by_cases e : b = d
  · subst e
    rw [h] at hb
    rw [upd_same]
    exact hb
  · rw [upd_ne e]
    exact s _ _ (by rw [upd_ne e]; exact hb)
/-- d[k] -/
theorem pdg {X : Cx} {o i : Expr} {td ty : TE} {pos : Pos} (hd : PE X o td) (hk : PE X i ty) (hu : X.A.units + 1 < cLine) (hs : NoSl i := by intro _ _; rfl) : PE X (.Subscript o i pos) (tDGet td ty) := pe_dget hu hd hk hs
/-! ### rows -/
def spRows (K : PySem.W.Frag) (C : Addr) : Sp := fun vs H Q _ => ∃ (a : Addr) (R : RC.Tab), vs = [.ref a] ∧ TabAt C H a R ∧ ∀ p H', Same H H' → Dp K H' (.ref p) (dRows R) → (∃ xs, H' p = some (.tup xs)) → Q (.ref p) H'
theorem sc_rows : FnScope ["self", "key"] ["self"] (defScope sTableRows) := ⟨rfl, rfl, rfl, by decide +kernel, rfl, by decide +kernel, by decide +kernel⟩
theorem ok_rows (T : TX K mg) : FnOk P w K mg base CX0 1 T.mTable_rows_f T.mTable_rows_fd ["self"] (spRows K T.cTable.C) := by
  refine T.mTable_rows_F.ok sc_rows (fun vs H Q E h => ?_) (fun cdv A outer s H vs Q E hr h => ?_)
  · obtain ⟨a, R, rfl, _⟩ := h
    rfl
  · obtain ⟨a, R, rfl, ht, q⟩ := h
    have hu := hu_of hr
    have ht' := ht
    obtain ⟨d, dx, L, h1, h2, h3⟩ := ht.ex
    refine ⟨_, pss_one (ps_ret (pbt call_tuple_of T.n_tuple bb_tuple (pa_cons (pb (cr_srtD (by exact hr.units)) T.n_sorted bb_sorted (pa_cons (pe_lock
      (pe_lc (te := tTup (tCons (tVar 1) (tCons (tDGet (tFld K (tVar 0) "wants") (tVar 1)) tNil))) (own := [("key", 1)]) (g := gName 1) (tt := tYes) rfl sc_rows.nd (pi_keys (pe_fld (pv 0) rfl)) (blkOk_by (N := ["self", "key"]) (sc := defScope sTableRows) (by decide +kernel)) (fun _ _ _ _ _ => pg_name (i := 1) sc_rows.nd rfl (Or.inl rfl)) (fun _ _ _ _ _ => pts_nil)
        (fun _ _ _ _ _ => by
          refine pe_tup (pa_cons (pv 1) (pa_cons ?_ pa_nil))
          refine pe_dget hu ?_ (pv 1) (fun _ _ => rfl)
          refine pe_fld ?_ rfl
          exact pv 0))) pa_nil)) pa_nil))), ?_⟩
    refine ⟨d, _, h2, trivial, fun od => ?_⟩
    have nad : a ≠ d := ne_of h1 h2 (by intro z; cases z)
    have h1' : upd H d (.frz od (.dK (kvT L))) a = some (.ins T.cTable.C dx (wantsF d)) := by rw [upd_ne nad]; exact h1
    refine ⟨_, rfl, a, T.cTable.C, dx, _, _, rfl, h1', T.cTable.cl, T.tWants, rfl, d, od, rfl, .inl ⟨kvT L, upd_same, fun D hD => ?_⟩⟩
    have dlen : L.length ≤ 40 := by rw [h3.length_eq]; exact ht.len
    have ndL : (RC.keys L).Nodup := (h3.map (fun p : Int × Int => p.1)).nodup_iff.mpr ht.asc.nodup
    refine lc_dp (walk_keys (d := d) (o := od) (kvs := kvT L)) (K := K) (fun i => (L[i]?).map dP) hD (by rw [kvT_len]; omega) (fun H' s => s _ _ upd_same) (fun i x H2 H3 QY QN hi s2 hacc hy qy qn => ?_) (fun H2 acc s2 hacc hdp => ?_)
    · obtain ⟨rfl, k, v, e1, rfl⟩ := hy
      unfold kvT at e1
      rw [List.getElem?_map] at e1
      cases e2 : L[i]? with
      | none =>
        rw [e2] at e1
        cases e1
      | some p =>
        rw [e2] at e1 qy
        cases e1
        have g : valV (kvT L) (Sum.inl p.1 : Key) = some (.int p.2) := by
          rw [kvT_get, RC.lookup_of_mem ndL (List.mem_of_getElem? e2)]
          rfl
        have ha2 := s2 _ _ h1'
        have hd2 := s2 _ _ (upd_same (H := H) (a := d) (o := .frz od (.dK (kvT L))))
        refine ⟨rfl, yesI ⟨_, rfl, _, rfl, a, T.cTable.C, dx, _, _, rfl, ha2, T.cTable.cl, T.tWants, rfl, _, rfl, d, .int p.2, rfl, ?_, ⟨by show (2 : Nat) ≤ sizeLine; decide, fun q1 hq1 => ?_⟩⟩⟩
        · exact g ▸ .inl ⟨kvT L, Sum.inl p.1, .inr ⟨od, hd2⟩, rfl, rfl⟩
        · refine qy _ rfl _ _ (same_new hq1) ?_
          obtain ⟨acc, hacc⟩ := hacc
          have ne : q1 ≠ D := (ne_of_none hacc hq1).symm
          exact .tup (.inl (.inl (by rw [del_ne ne, upd_same]; rfl))) (.cons (.int _) (.cons (.int _) .nil))
    · have nDd : D ≠ d := fun e => by rw [e, upd_same] at hD; cases hD
      have hd2 := s2 _ _ (upd_same (H := H) (a := d) (o := .frz od (.dK (kvT L))))
      refine ⟨hd2, ?_⟩
      have hD3 : upd H2 d (.dK (kvT L)) D = some (.lst acc) := by rw [upd_ne nDd]; exact hacc
      have hdp2 : DpAll K (upd H2 d (.dK (kvT L))) acc (L.map dP) := by
        rw [kvT_len, rng_map] at hdp
        refine DpAll.same ?_ (DpAll.del (D := d) (H := del H2 D) ?_ (tupDs_map (fun p => rfl) L) hdp)
        · intro b o hb
          by_cases e : b = d
          · subst e
            rw [del_same] at hb
            cases hb
          · rw [del_ne e] at hb
            rw [upd_ne e]
            exact del_sub _ _ hb
        · exact noTup_of (o := .frz od (.dK (kvT L))) (by rw [del_ne nDd.symm]; exact hd2) (fun _ z => by cases z) fun _ _ z => by cases z
      have sm : Same H (upd H2 d (.dK (kvT L))) := same_unlock h2 s2
      refine ⟨D, acc, L.map dP, rfl, .inl (.inl (.inl hD3)), hdp2, alike_pairs L, sortable_pairs L, depth_pairs, fun p ys hp hys => ?_⟩
      refine ⟨p, ys, rfl, .inl ⟨.inl (.inl upd_same), fun t ht => ?_⟩⟩
      have s3 := same_new (o := .tup ys) ht
      have s4 : Same (upd H2 d (.dK (kvT L))) (upd H2 d (.dK (kvT L)) ) := fun _ _ h => h
      have s5 : Same (upd H2 d (.dK (kvT L))) (upd (upd (upd H2 d (.dK (kvT L))) p (.lst ys)) t (.tup ys)) := (same_new hp).trans s3
      rw [sds_pairs h3.symm ht'.asc] at hys
      exact q t _ (sm.trans s5) (.tup (.inl (.inl upd_same)) (hys.same s5)) ⟨_, upd_same⟩
end RP

/-! KW4 -/
/-! Walks: the other methods of Table; more_rows. -/
namespace RP
open PySem PySem.Spec PyProof.Rows L2
variable {P : Program} {w : World} {K : PySem.W.Frag} {mg : Str → Option Value} {base : Heap}
theorem TabAt.ins {C : Addr} {H : Hp} {a : Addr} {R : RC.Tab} (h : TabAt C H a R) : ∃ dx fs, H a = some (.ins C dx fs) := by
  obtain ⟨d, dx, L, h1, _⟩ := h.ex
  exact ⟨dx, _, h1⟩
theorem TabAt.look {C : Addr} {H : Hp} {a : Addr} {R : RC.Tab} (h : TabAt C H a R) (k : Int) : ∃ d dx L, H a = some (.ins C dx [("wants", .ref d)]) ∧ H d = some (.dK (kvT L)) ∧ valV (kvT L) (Sum.inl k : Key) = (R.lookup k).map V.int ∧ L.length = R.length := by
  obtain ⟨d, dx, L, h1, h2, h3⟩ := h.ex
  exact ⟨d, dx, L, h1, h2, by rw [kvT_get, perm_lookup h3 h.asc.nodup], h3.length_eq⟩
theorem TabAt.key {C : Addr} {H : Hp} {a : Addr} {R : RC.Tab} (h : TabAt C H a R) {k : Int} (hk : k ∈ RC.keys R) : Key30 k := by
  obtain ⟨p, hp, rfl⟩ := List.mem_map.mp hk
  exact (h.bd p hp).1
theorem TabAt.new {C : Addr} {H : Hp} {a : Addr} {R : RC.Tab} (h : TabAt C H a R) {k n : Int} (hk : R.lookup k = some n) : Key30 n := (h.bd _ (RC.lookup_mem hk)).2
theorem TabAt.nodup {C : Addr} {H : Hp} {a : Addr} {R : RC.Tab} (h : TabAt C H a R) : (RC.keys R).Nodup := h.asc.nodup

/-- o.x, a property -/
theorem pprop {X : Cx} {C p g : Addr} {f : Str} {fd : FuncData} {sp : Sp} {e : Expr} {pos : Pos} {ta : TE} {k n : Nat} (he : PE X e ta) (c : Cls X.K C) (hp : PropOf X.K C f p g) (G : FnOk X.prog X.w X.K X.mg X.base CX0 k g fd ["self"] sp) (hb : Binds X.K fd ["self"] []) (hr : Room n X.A) (hl : k + 1 ≤ n := by decide)
    (hab : attributeBase e f X.env (eval e X.env) = eval e X.env := by rfl) : PE X (.Attribute e f pos) (tProp C sp [] E0 ta) := pe_prop he c hp G (hr.mono hl) hb .nil pass0 hab

/-! ### __contains__, __getitem__, __len__ -/
def spHas (C : Addr) : Sp := fun vs H Q _ => ∃ (a : Addr) (R : RC.Tab) (k : Int), vs = [.ref a, .int k] ∧ TabAt C H a R ∧ Key30 k ∧ Q (.bl (decide (k ∈ RC.keys R))) H
theorem sc_has : FnScope ["self", "thing"] ["self", "thing"] (defScope sTableContains) := ⟨rfl, rfl, rfl, by decide +kernel, rfl, by decide +kernel, by decide +kernel⟩
theorem ok_has (T : TX K mg) : FnOk P w K mg base CX0 3 T.mTable_contains.f T.mTable_contains.fd ["self", "thing"] (spHas T.cTable.C) := by
  have G1 := ok_is_key (P := P) (w := w) (base := base) T
  refine T.mTable_contains.F.ok sc_has (fun vs H Q E h => ?_) (fun cdv A outer s H vs Q E hr h => ?_)
  · obtain ⟨a, R, k, rfl, _⟩ := h
    rfl
  · obtain ⟨a, R, k, rfl, ht, hk, q⟩ := h
    have hu := hu_of hr
    obtain ⟨d, dx, L, h1, h2, h3, _⟩ := ht.look k
    refine ⟨_, pss_one (ps_ret (pe_and (pc T.d_is_key G1 hr (pa_cons (pv 1) pa_nil)) (pe_one (pe_cmp (pc_din hu (pv 1) (pe_fld (pv 0) rfl)))))), ?_⟩
    refine ⟨_, rfl, k, rfl, hk, true, rfl, _, rfl, _, rfl, a, _, dx, _, _, rfl, h1, T.cTable.cl, T.tWants, rfl, d, _, rfl, DGet.k (k := Sum.inl k) h2, ?_⟩
    show Q (.bl (valV (kvT L) (Sum.inl k : Key)).isSome) H
    rw [h3]
    by_cases hm : k ∈ RC.keys R
    · obtain ⟨n, e⟩ := RC.lookup_some hm
      rw [e]
      rw [decide_eq_true hm] at q
      exact q
    · rw [RC.lookup_none hm]
      rw [decide_eq_false hm] at q
      exact q
def spGet (C : Addr) : Sp := fun vs H Q _ => ∃ (a : Addr) (R : RC.Tab) (k n : Int), vs = [.ref a, .int k] ∧ TabAt C H a R ∧ R.lookup k = some n ∧ Q (.int n) H
theorem sc_get : FnScope ["self", "key"] ["self", "key"] (defScope sTableGetitem) := ⟨rfl, rfl, rfl, by decide +kernel, rfl, by decide +kernel, by decide +kernel⟩
theorem key_of_lookup {R : RC.Tab} {k n : Int} (h : R.lookup k = some n) : k ∈ RC.keys R := List.mem_map.mpr ⟨_, RC.lookup_mem h, rfl⟩
theorem ok_get (T : TX K mg) : FnOk P w K mg base CX0 4 T.mTable_getitem.f T.mTable_getitem.fd ["self", "key"] (spGet T.cTable.C) := by
  have G1 := ok_has (P := P) (w := w) (base := base) T
  refine T.mTable_getitem.F.ok sc_get (fun vs H Q E h => ?_) (fun cdv A outer s H vs Q E hr h => ?_)
  · obtain ⟨a, R, k, n, rfl, _⟩ := h
    rfl
  · obtain ⟨a, R, k, n, rfl, ht, hk, q⟩ := h
    have hu := hu_of hr
    obtain ⟨d, dx, L, h1, h2, h3, _⟩ := ht.look k
    have hm := key_of_lookup hk
    refine ⟨_, pss_cons (ps_if (pt_cmpR (RX.op_notin_own T.mTable_contains.m G1 hr T.mTable_contains.b pass0) (pv 1) (pv 0) (by with_unfolding_all rfl)) pss_never pss_nil) (pss_one (ps_ret (pe_dget hu (pe_fld (pv 0) rfl) (pv 1) (fun _ _ => rfl)))), ?_⟩
    refine ⟨_, rfl, _, rfl, a, dx, _, rfl, h1, a, R, k, rfl, ht, ht.key hm, _, rfl, _, rfl, ?_⟩
    rw [decide_eq_true hm]
    refine iteF ⟨_, rfl, a, _, dx, _, _, rfl, h1, T.cTable.cl, T.tWants, rfl, _, rfl, d, .int n, rfl, ?_, q⟩
    have z := DGet.k (k := (Sum.inl k : Key)) h2
    rw [h3, hk] at z
    exact z
def spLen (C : Addr) : Sp := fun vs H Q _ => ∃ (a : Addr) (R : RC.Tab), vs = [.ref a] ∧ TabAt C H a R ∧ Q (.int R.length) H
theorem sc_len : FnScope ["self"] ["self"] (defScope sTableLen) := ⟨rfl, rfl, rfl, by decide +kernel, rfl, by decide +kernel, by decide +kernel⟩
theorem ok_len (T : TX K mg) : FnOk P w K mg base CX0 1 T.mTable_len.f T.mTable_len.fd ["self"] (spLen T.cTable.C) := by
  refine T.mTable_len.F.ok sc_len (fun vs H Q E h => ?_) (fun cdv A outer s H vs Q E hr h => ?_)
  · obtain ⟨a, R, rfl, _⟩ := h
    rfl
  · obtain ⟨a, R, rfl, ht, q⟩ := h
    obtain ⟨d, dx, L, h1, h2, _, h3⟩ := ht.look 0
    refine ⟨_, pss_one (ps_ret (pb call_lenD T.n_len bb_len (pa_cons (pe_fld (pv 0) rfl) pa_nil))), ?_⟩
    refine ⟨_, rfl, a, _, dx, _, _, rfl, h1, T.cTable.cl, T.tWants, rfl, d, _, rfl, h2, ?_⟩
    rw [kvT_len, h3]
    exact q

/-! ### more_rows, + -/
/-- what can be added: a table, a tuple of rows -/
def Rows (K : PySem.W.Frag) (C : Addr) (H : Hp) (b : Addr) (L : RC.Tab) : Prop := TabAt C H b L ∨ ∃ xs, H b = some (.tup xs) ∧ DpAll K H xs (L.map dP)
theorem ty_tab (T : TX K mg) {H : Hp} {a : Addr} {R : RC.Tab} (h : TabAt T.cTable.C H a R) : TyX K H (.ref a) (.ref T.cTable.C) := by
  obtain ⟨dx, fs, e⟩ := h.ins
  exact .base (.ins e T.cTable.cl T.cTable.ha T.g_get T.g_tak T.cTable.hm)
theorem kit_self {K : PySem.W.Frag} {C : Addr} : PySem.W.kitOne K (.ref C) (.ref C) = some true := if_pos (beq_self_eq_true _)
def spMore (K : PySem.W.Frag) (C : Addr) : Sp := fun vs H Q _ => ∃ (b : Addr) (L : RC.Tab), vs = [.ref b] ∧ Rows K C H b L ∧ ∀ p xs H', Same H H' → H' p = some (.lst xs) → DpAll K H' xs (L.map dP) → Q (.ref p) H'
theorem sc_more : FnScope ["other"] ["other"] (defScope sMoreRows) := ⟨rfl, rfl, rfl, by decide +kernel, rfl, by decide +kernel, by decide +kernel⟩
theorem ok_more (T : TX K mg) : FnOk P w K mg base CX0 3 T.d_more_rows.f T.d_more_rows.fd ["other"] (spMore K T.cTable.C) := by
  have G1 := ok_rows (P := P) (w := w) (base := base) T
  refine T.d_more_rows.F.ok sc_more (fun vs H Q E h => ?_) (fun cdv A outer s H vs Q E hr h => ?_)
  · obtain ⟨a, R, rfl, _⟩ := h
    rfl
  · obtain ⟨b, L, rfl, ht, q⟩ := h
    refine ⟨_, pss_cons (ps_if (pt_val (pisi T.n_isinstance (pv 0) (pe_glob (v := .ref T.cTable.C) (by rfl) T.cTable.g rfl))) (pss_one (ps_ret (pbt call_list_of T.n_list bb_list (pa_cons (pprop (pv 0) T.cTable.cl T.mTable_rows_p G1 T.mTable_rows_b hr) pa_nil)))) pss_nil)
      (pss_cons (ps_if (pt_val (pisi T.n_isinstance (pv 0) (pty T.n_tuple bb_tuple))) (pss_one (ps_ret (pbt call_list_of T.n_list bb_list (pa_cons (pv 0) pa_nil)))) pss_nil) pss_never), ?_⟩
    rcases ht with ht | ⟨xs, h1, h2⟩
    · obtain ⟨dx, fs, e⟩ := ht.ins
      refine ⟨_, rfl, _, _, _, _, _, rfl, .own _, ty_tab T ht, kit_self, true, rfl, iteT ⟨_, rfl, b, dx, fs, rfl, e, b, L, rfl, ht, fun p H' sm hd hp => ?_⟩⟩
      obtain ⟨ys, hp⟩ := hp
      obtain ⟨p', ys', e1, hs, ha⟩ := hd.tup_inv
      cases e1
      refine ⟨p, ys', rfl, .inr hs, fun l hl => ?_⟩
      exact q l ys' _ (sm.trans (same_new hl)) upd_same (ha.same (same_new hl))
    · refine ⟨_, rfl, _, _, _, _, _, rfl, .own _, tyx_tup (.inl (.inl h1)), T.tIsTup, false, rfl, iteF ?_⟩
      refine ⟨_, rfl, _, _, _, _, _, rfl, .ty _, tyx_tup (.inl (.inl h1)), kit_ty (r := true) (by decide +kernel), true, rfl, iteT ⟨_, rfl, b, xs, rfl, .inr (.inl (.inl h1)), fun l hl => ?_⟩⟩
      exact q l xs _ (same_new hl) upd_same (h2.same (same_new hl))
end RP

/-! KW5 -/
/-! Walks: + of tables, Table(), keys_of, need_table. -/
namespace RP
open PySem PySem.Spec PyProof.Rows L2
variable {P : Program} {w : World} {K : PySem.W.Frag} {mg : Str → Option Value} {base : Heap}
theorem asc_of {L : RC.Tab} (nd : (RC.keys L).Nodup) : ∃ R : RC.Tab, R.Perm L ∧ RC.Asc R := by
  refine ⟨L.mergeSort fun a b => decide (a.1 ≤ b.1), List.mergeSort_perm .., ?_⟩
  have p := List.mergeSort_perm L fun a b => decide (a.1 ≤ b.1)
  have h1 : (L.mergeSort fun a b => decide (a.1 ≤ b.1)).Pairwise fun a b => a.1 ≤ b.1 := by
    refine (List.pairwise_mergeSort (le := fun a b : Int × Int => decide (a.1 ≤ b.1)) (fun a b c h1 h2 => ?_) (fun a b => ?_) L).imp fun {a b} z => by simpa using z
    · have := of_decide_eq_true h1
      have := of_decide_eq_true h2
      exact decide_eq_true (by omega)
    · by_cases h : a.1 ≤ b.1
      · simp [h]
      · have : b.1 ≤ a.1 := by omega
        simp [this]
  have h2 : (RC.keys (L.mergeSort fun a b => decide (a.1 ≤ b.1))).Nodup := (p.map fun q : Int × Int => q.1).nodup_iff.mpr nd
  have h3 : (L.mergeSort fun a b => decide (a.1 ≤ b.1)).Pairwise fun a b => a.1 ≠ b.1 := by
    have z := h2
    unfold RC.keys List.Nodup at z
    rw [List.pairwise_map] at z
    exact z
  exact (h1.and h3).imp fun {a b} z => by omega
/-- what a new table's making gives -/
theorem made_tab {C : Addr} {H1 : Hp} {x dx d : Addr} {L R : RC.Tab} {H' : Hp} (hx : H1 x = none) (hdx : H1 dx = none) (hne : dx ≠ x) (ok : RowsOk L) (h0 : upd (upd H1 dx (.own x)) x (.ins C dx []) d = none) (h1 : ∀ b o, upd (upd H1 dx (.own x)) x (.ins C dx []) b = some o → b ≠ x → H' b = some o)
    (h2 : H' x = some (.ins C dx (wantsF d))) (h3 : H' d = some (.dK (kvT L))) (p : R.Perm L) (asc : RC.Asc R) : Same H1 H' ∧ TabAt C H' x R := by
  refine ⟨fun b o hb => h1 b o ?_ (ne_of_none hb hx), ⟨d, dx, L, h2, h3, p.symm⟩, asc, by rw [p.length_eq]; exact ok.len, fun q hq => ok.bd q (p.mem_iff.mp hq)⟩
  rw [upd_ne (ne_of_none hb hx), upd_ne (ne_of_none hb hdx)]
  exact hb
def spAdd (K : PySem.W.Frag) (C : Addr) : Sp := fun vs H Q _ => ∃ (a b : Addr) (R L : RC.Tab), vs = [.ref a, .ref b] ∧ TabAt C H a R ∧ Rows K C H b L ∧ RowsOk (R ++ L) ∧ ∀ p S H', Same H H' → TabAt C H' p S → S.Perm (R ++ L) → Q (.ref p) H'
theorem sc_add : FnScope ["self", "other", "rows"] ["self", "other"] (defScope sTableAdd) := ⟨rfl, rfl, rfl, by decide +kernel, rfl, by decide +kernel, by decide +kernel⟩
theorem Rows.same {C : Addr} {H H' : Hp} {b : Addr} {L : RC.Tab} (s : Same H H') (h : Rows K C H b L) : Rows K C H' b L := h.elim (fun h => .inl (h.same s)) fun ⟨xs, h1, h2⟩ => .inr ⟨xs, s _ _ h1, h2.same s⟩
theorem ok_add (T : TX K mg) : FnOk P w K mg base CX0 8 T.mTable_add.f T.mTable_add.fd ["self", "other"] (spAdd K T.cTable.C) := by
  have G1 := ok_rows (P := P) (w := w) (base := base) T
  have G2 := ok_more (P := P) (w := w) (base := base) T
  have G3 := ok_tinit (P := P) (w := w) (base := base) T
  refine T.mTable_add.F.ok sc_add (fun vs H Q E h => ?_) (fun cdv A outer s H vs Q E hr h => ?_)
  · obtain ⟨a, b, R, L, rfl, _⟩ := h
    rfl
  · obtain ⟨a, b, R, L, rfl, ht, hb, ok, q⟩ := h
    refine ⟨_, pss_cons (ps_set (i := 2) sc_add.nd rfl (.inl rfl) (pe_op op_cat (pbt call_list_of T.n_list bb_list (pa_cons (pprop (pv 0) T.cTable.cl T.mTable_rows_p G1 T.mTable_rows_b hr) pa_nil)) (pc T.d_more_rows G2 (hr.mono (by decide)) (pa_cons (pv 1) pa_nil))))
      (pss_one (ps_ret (RX.pe_makeS T.tInit_m G3 (hr.mono (by decide)) T.cTable.g pass0 (pv 2)))), ?_⟩
    obtain ⟨dx, fs, e⟩ := ht.ins
    refine ⟨_, rfl, a, dx, fs, rfl, e, a, R, rfl, ht, fun p H1 s1 hd hp => ?_⟩
    obtain ⟨p', xs, e1, hs, ha⟩ := hd.tup_inv
    cases e1
    refine ⟨p, xs, rfl, .inr hs, fun l hl => ?_⟩
    have s2 := s1.trans (same_new (o := .lst xs) hl)
    refine ⟨_, rfl, b, L, rfl, hb.same s2, fun p2 ys H2 s3 h2 h3 => ?_⟩
    have hl2 : H2 l = some (.lst xs) := s3 _ _ upd_same
    have hxs := ha.same ((same_new (o := .lst xs) hl).trans s3)
    have z1 := ha.len
    have z2 := h3.len
    have z3 := ok.len
    rw [List.length_map] at z1 z2
    rw [List.length_append] at z3
    refine ⟨l, p2, xs, ys, rfl, rfl, hl2, h2, Nat.le_of_lt (small1000 (by omega)), fun l3 hl3 => ?_⟩
    have s4 := same_new (o := .lst (xs ++ ys)) hl3
    have all : DpAll K (upd H2 l3 (.lst (xs ++ ys))) (xs ++ ys) ((R ++ L).map dP) := by
      rw [List.map_append]
      exact (hxs.app h3).same s4
    refine ⟨_, rfl, l3, xs ++ ys, rfl, .inr (.inl (.inl upd_same)), fun x dx2 hx hdx hne => ?_⟩
    have s5 : Same (upd H2 l3 (.lst (xs ++ ys))) (upd (upd (upd H2 l3 (.lst (xs ++ ys))) dx2 (.own x)) x (.ins T.cTable.C dx2 [])) := (same_new hdx).trans (same_new (by rw [upd_ne hne.symm]; exact hx))
    refine ⟨x, dx2, _, R ++ L, rfl, upd_same, all.same s5, ok, fun d H' h0 h1 h2 h3 => ⟨rfl, ?_⟩⟩
    obtain ⟨S, hS, hA⟩ := asc_of ok.nd
    obtain ⟨m1, m2⟩ := made_tab hx hdx hne ok h0 h1 h2 h3 hS hA
    exact q x S H' (((s2.trans s3).trans s4).trans m1) m2 hS

/-- Table() -/
theorem new_tab (T : TX K mg) {H1 : Hp} {Q : VK} (q : ∀ x H', Same H1 H' → TabAt T.cTable.C H' x [] → Q (.ref x) H') {σ : L2.St} : StX.tMakeR T.cTable.C (spTInit K T.cTable.C) E0 tNil σ H1 Q := by
  intro x dx hx hdx hne
  have ok : RowsOk [] := ⟨List.Pairwise.nil, Nat.zero_le _, fun p hp => by cases hp⟩
  refine ⟨x, dx, [], [], rfl, upd_same, .nil, ok, fun d H' h0 h1 h2 h3 => ⟨rfl, ?_⟩⟩
  obtain ⟨m1, m2⟩ := made_tab hx hdx hne ok h0 h1 h2 h3 (.refl _) (List.Pairwise.nil)
  exact q x H' m1 m2

/-! ### keys_of -/
def spKeys (K : PySem.W.Frag) (C : Addr) : Sp := fun vs H Q _ => ∃ (a : Addr) (R : RC.Tab), vs = [.ref a] ∧ TabAt C H a R ∧ ∀ p H', H p = none → Same H H' → H' p = some (.lst ((RC.keys R).map V.int)) → Q (.ref p) H'
theorem sc_keys : FnScope ["table", "key", "new"] ["table"] (defScope sKeysOf) := ⟨rfl, rfl, rfl, by decide +kernel, rfl, by decide +kernel, by decide +kernel⟩
theorem ok_keys (T : TX K mg) : FnOk P w K mg base CX0 3 T.d_keys_of.f T.d_keys_of.fd ["table"] (spKeys K T.cTable.C) := by
  have G1 := ok_rows (P := P) (w := w) (base := base) T
  refine T.d_keys_of.F.ok sc_keys (fun vs H Q E h => ?_) (fun cdv A outer s H vs Q E hr h => ?_)
  · obtain ⟨a, R, rfl, _⟩ := h
    rfl
  · obtain ⟨a, R, rfl, ht, q⟩ := h
    refine ⟨_, pss_one (ps_ret (pe_lc (own := [("key", 1), ("new", 2)]) (g := g2 K 1 2) (te := tVar 1) (tt := tYes) rfl sc_keys.nd (pi_tup (pprop (pv 0) T.cTable.cl T.mTable_rows_p G1 T.mTable_rows_b hr)) (blkOk_by (N := ["table", "key", "new"]) (sc := defScope sKeysOf) (by decide +kernel))
      (fun _ _ _ _ _ => pg_tup rfl (pgs_cons (pg_name (i := 1) sc_keys.nd rfl (.inl rfl)) (pgs_cons (pg_name (i := 2) sc_keys.nd rfl (.inl rfl)) pgs_nil))) (fun _ _ _ _ _ => pts_nil) (fun _ _ _ _ _ => pv 1))), ?_⟩
    obtain ⟨dx, fs, e⟩ := ht.ins
    refine ⟨_, rfl, a, dx, fs, rfl, e, a, R, rfl, ht, fun p H1 s1 hd hp => ?_⟩
    obtain ⟨p', xs, e1, hs, ha⟩ := hd.tup_inv
    cases e1
    refine ⟨p, rfl, ⟨_, hs⟩, fun D hD => ?_⟩
    refine lc_rows (K := K) walk_tup (fun p => some (dI p.1)) hD (fun H' s => same_t s hs) ha (by have := ht.len; omega) (fun _ _ => rfl) (fun p H2 QY QN hp s2 hacc qy qn => yesI ⟨_, rfl, qy _ rfl _ _ (fun _ _ h => h) (.int _)⟩) (fun H' acc s2 hacc h => ?_)
    have : R.filterMap (fun p => some (dI p.1)) = (RC.keys R).map PyData.int := by
      unfold RC.keys
      rw [List.filterMap_eq_map', List.map_map]
      rfl
    rw [this] at h
    rw [h.ints] at hacc
    exact q D H' (none_of_same s1 hD) (s1.trans s2) hacc
end RP

/-! KW6 -/
/-! Walks: need_table, waited, path_of, end_of. -/
namespace RP
open PySem PySem.Spec PyProof.Rows L2
variable {P : Program} {w : World} {K : PySem.W.Frag} {mg : Str → Option Value} {base : Heap}
theorem inV_ints (k : Int) (xs : List Int) : inV (.int k) (xs.map V.int) = decide (k ∈ xs) := by
  unfold inV
  rw [List.any_map]
  induction xs with
  | nil => rfl
  | cons x xs ih =>
    rw [List.any_cons, ih, Bool.eq_iff_iff]
    simp only [Function.comp, eqV, Bool.or_eq_true, beq_iff_eq, decide_eq_true_eq, List.mem_cons]
    constructor
    · rintro (h | h)
      · exact .inl h.symm
      · exact .inr h
    · rintro (h | h)
      · exact .inl h.symm
      · exact .inr h
theorem flat_ints : ∀ xs : List Int, (xs.map V.int).all flatV = true
  | [] => rfl
  | _ :: xs => by
    rw [List.map_cons, List.all_cons, flat_ints xs]
    rfl
def oV : Option Int → V
  | none => .non
  | some r => .int r
theorem oV_non (o : Option Int) : (!decide (oV o = .non)) = o.isSome := by cases o <;> rfl
def spNeedT (C : Addr) : Sp := fun vs H Q _ => ∃ (a : Addr) (R : RC.Tab), vs = [.ref a] ∧ TabAt C H a R ∧ Q .non H
theorem sc_needT : FnScope ["table"] ["table"] (defScope sNeedTable) := ⟨rfl, rfl, rfl, by decide +kernel, rfl, by decide +kernel, by decide +kernel⟩
theorem ok_needT (T : TX K mg) : FnOk P w K mg base CX0 1 T.d_need_table.f T.d_need_table.fd ["table"] (spNeedT T.cTable.C) := by
  refine T.d_need_table.F.ok sc_needT (fun vs H Q E h => ?_) (fun cdv A outer s H vs Q E hr h => ?_)
  · obtain ⟨a, R, rfl, _⟩ := h
    rfl
  · obtain ⟨a, R, rfl, ht, q⟩ := h
    refine ⟨_, pss_one (ps_if (pt_not (pt_val (pisi T.n_isinstance (pv 0) (pe_glob (v := .ref T.cTable.C) (by rfl) T.cTable.g rfl)))) pss_never pss_nil), ?_⟩
    exact ⟨_, rfl, _, _, _, _, _, rfl, .own _, ty_tab T ht, kit_self, true, rfl, iteF q⟩
def spWaited (C : Addr) : Sp := fun vs H Q _ => ∃ (a : Addr) (R : RC.Tab) (k : Int), vs = [.ref a, .int k] ∧ TabAt C H a R ∧ k ∈ RC.keys R ∧ Q (oV (RC.waited R k)) H
theorem sc_waited : FnScope ["table", "key", "new"] ["table", "key"] (defScope sWaited) := ⟨rfl, rfl, rfl, by decide +kernel, rfl, by decide +kernel, by decide +kernel⟩
theorem ok_waited (T : TX K mg) : FnOk P w K mg base CX0 6 T.d_waited.f T.d_waited.fd ["table", "key"] (spWaited T.cTable.C) := by
  have G1 := ok_get (P := P) (w := w) (base := base) T
  have G2 := ok_has (P := P) (w := w) (base := base) T
  refine T.d_waited.F.ok sc_waited (fun vs H Q E h => ?_) (fun cdv A outer s H vs Q E hr h => ?_)
  · obtain ⟨a, R, k, rfl, _⟩ := h
    rfl
  · obtain ⟨a, R, k, rfl, ht, hk, q⟩ := h
    obtain ⟨dx, fs, e⟩ := ht.ins
    obtain ⟨n, hn⟩ := RC.lookup_some hk
    refine ⟨_, pss_cons (ps_set (i := 2) sc_waited.nd rfl (.inl rfl) (RX.pe_oix T.mTable_getitem.m T.tGet_fi G1 (hr.mono (by decide)) T.mTable_getitem.b pass0 (pv 0) (pv 1)))
      (pss_one (ps_ret (pe_ifExp (pw_and (pt_cmpR op_ne (pv 2) (pv 1) (nomark _)) (pw_and1 (pt_cmpR (RX.op_in_own T.mTable_contains.m G2 (hr.mono (by decide)) T.mTable_contains.b pass0) (pv 2) (pv 0) (by with_unfolding_all rfl)))).pt (pv 2) pe_non))), ?_⟩
    refine ⟨_, rfl, _, rfl, a, dx, fs, rfl, e, a, R, k, n, rfl, ht, hn, _, rfl, _, rfl, ?_⟩
    refine ⟨rfl, !decide (V.int n = V.int k), rfl, ?_⟩
    have e0 : (!decide (V.int n = V.int k)) = decide (n ≠ k) := by
      by_cases h : n = k
      · subst h
        simp
      · simp [h]
    rw [e0]
    have ew : RC.waited R k = if n ≠ k ∧ n ∈ RC.keys R then some n else none := by
      unfold RC.waited
      rw [hn]
    rw [ew] at q
    by_cases h : n ≠ k
    · rw [decide_eq_true h]
      refine iteT ⟨_, rfl, _, rfl, a, dx, fs, rfl, e, a, R, n, rfl, ht, ht.new hn, decide (n ∈ RC.keys R), rfl, decide (n ∈ RC.keys R), rfl, ?_⟩
      by_cases h2 : n ∈ RC.keys R
      · rw [decide_eq_true h2]
        rw [if_pos ⟨h, h2⟩] at q
        exact iteT ⟨_, rfl, q⟩
      · rw [decide_eq_false h2]
        rw [if_neg (fun z => h2 z.2)] at q
        exact iteF q
    · rw [decide_eq_false h]
      rw [if_neg (fun z => h z.1)] at q
      exact iteF (iteF q)

/-! ### path_of -/
theorem pgo_len {w : Int → Option Int} : ∀ (n : Nat) (f : List Int) (o : Option Int), (RC.pgo w n f o).length ≤ f.length + n
  | 0, f, o => by
    unfold RC.pgo
    omega
  | n + 1, f, none => by
    unfold RC.pgo
    omega
  | n + 1, f, some r => by
    unfold RC.pgo
    split
    · omega
    · have := pgo_len (w := w) n (f ++ [r]) (w r)
      rw [List.length_append, List.length_singleton] at this
      omega
def spPath (C : Addr) : Sp := fun vs H Q _ => ∃ (a : Addr) (R : RC.Tab) (k : Int), vs = [.ref a, .int k] ∧ TabAt C H a R ∧ k ∈ RC.keys R ∧ ∀ p H', H p = none → Same H H' → H' p = some (.lst ((RC.path R k).map V.int)) → Q (.ref p) H'
theorem sc_path : FnScope ["table", "key", "found", "row"] ["table", "key"] (defScope sPathOf) := ⟨rfl, rfl, rfl, by decide +kernel, rfl, by decide +kernel, by decide +kernel⟩
theorem ok_path (T : TX K mg) : FnOk P w K mg base CX0 7 T.d_path_of.f T.d_path_of.fd ["table", "key"] (spPath T.cTable.C) := by
  have G1 := ok_waited (P := P) (w := w) (base := base) T
  refine T.d_path_of.F.ok sc_path (fun vs H Q E h => ?_) (fun cdv A outer s H vs Q E hr h => ?_)
  · obtain ⟨a, R, k, rfl, _⟩ := h
    rfl
  · obtain ⟨a, R, k, rfl, ht, hk, q⟩ := h
    refine ⟨_, pss_cons (ps_par (i := 2) (j := 3) rfl sc_path.nd rfl rfl (by decide) rfl rfl (pa_cons (pe_lst (pa_cons (pv 1) pa_nil)) (pa_cons (pc T.d_waited G1 hr (pa_cons (pv 0) (pa_cons (pv 1) pa_nil))) pa_nil)) (by rfl))
      (pss_cons (ps_while PassesOwn.never (pw_and (pt_cmp (pc_notN (pv 3))) (pw_and1 (pt_cmpR op_notIn_seq (pv 3) (pv 2) (by with_unfolding_all rfl)))).pt
        (pss_cons (ps_expr (pe_bm PySem.F.plainAttrs_list PySem.F.slot_list_append PySem.F.type_list_append mt_append (pv 2) (pa_cons (pv 3) pa_nil)))
        (pss_one (ps_set (i := 3) sc_path.nd rfl (.inl rfl) (pc T.d_waited G1 hr (pa_cons (pv 0) (pa_cons (pv 3) pa_nil)))))))
      (pss_one (ps_ret (pv 2)))), ?_⟩
    refine ⟨_, rfl, (by show (1 : Nat) ≤ sizeLine; decide), fun l hl => ⟨_, rfl, _, rfl, a, R, k, rfl, ht.same (same_new hl), hk, _, _, rfl, ?_⟩⟩
    refine ⟨fun n σ H' => ∃ (f : List Int) (o : Option Int), σ = [some (.ref a), some (.int k), some (.ref l), some (oV o)] ∧ Same H H' ∧ H' l = some (.lst (f.map V.int)) ∧ RC.pgo (RC.waited R) n f o = RC.path R k ∧ (∀ r, o = some r → r ∈ RC.keys R) ∧ f.length + n = 65,
      ⟨64, [k], RC.waited R k, rfl, same_new hl, upd_same, rfl, fun r e => RC.waited_closed e, rfl⟩, ?_⟩
    rintro n σ H1 ⟨f, o, rfl, s1, hf, hp, ho, hn⟩
    have pl := (RC.path_len hk ht.len).2
    have hlen := ht.len
    cases o with
    | none =>
      refine ⟨_, rfl, false, rfl, iteF (iteF ⟨_, rfl, q l H1 hl s1 ?_⟩)⟩
      have : RC.pgo (RC.waited R) n f none = f := by cases n <;> rfl
      rw [← hp, this]
      exact hf
    | some r =>
      refine ⟨_, rfl, true, rfl, iteT ⟨_, rfl, _, rfl, l, _, rfl, .inl (SqL.of hf), rfl, flat_ints f, !inV (.int r) (f.map V.int), rfl, ?_⟩⟩
      rw [inV_ints]
      by_cases hm : r ∈ f
      · rw [decide_eq_true hm]
        refine iteF ⟨_, rfl, q l H1 hl s1 ?_⟩
        have : RC.pgo (RC.waited R) n f (some r) = f := by
          cases n with
          | zero => rfl
          | succ n => exact if_pos hm
        rw [← hp, this]
        exact hf
      · rw [decide_eq_false hm]
        cases n with
        | zero =>
          have : f = RC.path R k := hp
          rw [← this] at pl
          omega
        | succ n =>
          have e1 : RC.pgo (RC.waited R) n (f ++ [r]) (RC.waited R r) = RC.path R k := by
            rw [← hp]
            exact (if_neg hm).symm
          refine iteT ⟨_, fun σ' H' z => ⟨n, Nat.lt_succ_self n, z⟩, ?_⟩
          refine ⟨_, rfl, .inl ⟨rfl, _, SqL.of hf⟩, _, rfl, l, _, _, rfl, rfl, hf, by rw [List.length_map]; exact small1000 (by omega), ?_⟩
          refine ⟨_, rfl, _, rfl, a, R, r, rfl, ht.same (s1.mut hl), ho r rfl, f ++ [r], RC.waited R r, rfl, s1.mut hl, ?_, e1, fun r' e => RC.waited_closed e, ?_⟩
          · rw [upd_same, List.map_append]
            rfl
          · rw [List.length_append, List.length_singleton]
            omega

/-! ### end_of -/
def spEnd (K : PySem.W.Frag) (C : Addr) : Sp := fun vs H Q _ => ∃ (a l : Addr) (R : RC.Tab) (p : List Int), vs = [.ref a, .ref l] ∧ TabAt C H a R ∧ H l = some (.lst (p.map V.int)) ∧ p ≠ [] ∧ (∀ x ∈ p, x ∈ RC.keys R) ∧
  Q (.str (if RC.waited R (RC.lastOf p) ≠ none then "ring" else if R.lookup (RC.lastOf p) = some (RC.lastOf p) then "still" else "free")) H
theorem sc_end : FnScope ["table", "rows", "last"] ["table", "rows"] (defScope sEndOf) := ⟨rfl, rfl, rfl, by decide +kernel, rfl, by decide +kernel, by decide +kernel⟩
theorem ok_end (T : TX K mg) : FnOk P w K mg base CX0 7 T.d_end_of.f T.d_end_of.fd ["table", "rows"] (spEnd K T.cTable.C) := by
  have G1 := ok_waited (P := P) (w := w) (base := base) T
  have G2 := ok_get (P := P) (w := w) (base := base) T
  refine T.d_end_of.F.ok sc_end (fun vs H Q E h => ?_) (fun cdv A outer s H vs Q E hr h => ?_)
  · obtain ⟨a, l, R, p, rfl, _⟩ := h
    rfl
  · obtain ⟨a, l, R, p, rfl, ht, hl, hne, hsub, q⟩ := h
    obtain ⟨dx, fs, e⟩ := ht.ins
    have hk := hsub _ (RC.lastOf_mem hne)
    obtain ⟨n, hn⟩ := RC.lookup_some hk
    refine ⟨_, pss_cons (ps_set (i := 2) sc_end.nd rfl (.inl rfl) (pe_ix ix_list (pv 1) (pe_un un_neg pe_int) (fun _ _ => rfl)))
      (pss_cons (ps_if (pt_cmp (pc_notN (pc T.d_waited G1 hr (pa_cons (pv 0) (pa_cons (pv 2) pa_nil))))) (pss_one (ps_ret pe_str)) pss_nil)
      (pss_one (ps_ret (pe_ifExp (pt_cmpR op_eq (RX.pe_oix T.mTable_getitem.m T.tGet_fi G2 (hr.mono (by decide)) T.mTable_getitem.b pass0 (pv 0) (pv 2)) (pv 2) (nomark _)) pe_str pe_str)))), ?_⟩
    have hix : atI (p.map V.int) (-1) = some (V.int (RC.lastOf p)) := by
      conv => lhs; rw [RC.snoc_of hne, List.map_append]
      exact atI_last _ _
    refine ⟨_, rfl, _, rfl, l, _, _, _, rfl, rfl, SqL.of hl, hix, ?_⟩
    refine ⟨_, rfl, _, rfl, a, R, _, rfl, ht, hk, _, rfl, ?_⟩
    rw [oV_non]
    cases e1 : RC.waited R (RC.lastOf p) with
    | some r =>
      rw [e1, if_pos (by simp)] at q
      exact iteT q
    | none =>
      rw [e1, if_neg (by simp)] at q
      refine iteF ⟨_, rfl, _, rfl, a, dx, fs, rfl, e, a, R, _, n, rfl, ht, hn, _, rfl, rfl, decide (V.int n = V.int (RC.lastOf p)), rfl, ?_⟩
      rw [hn] at q
      by_cases h : n = RC.lastOf p
      · rw [if_pos (congrArg some h)] at q
        rw [decide_eq_true (congrArg V.int h)]
        exact iteT q
      · rw [if_neg (fun z => h (Option.some.inj z))] at q
        rw [decide_eq_false (fun z => h (V.int.inj z))]
        exact iteF q
end RP

/-! KW7 -/
/-! Walks: rings_of, rings, waiting_for, by_new. -/
namespace RP
open PySem PySem.Spec PyProof.Rows L2
variable {P : Program} {w : World} {K : PySem.W.Frag} {mg : Str → Option Value} {base : Heap}
/-- a list at l grows by a datum without lists -/
theorem grow {H H2 : Hp} {l : Addr} {acc : List V} {ds : List PyData} {v : V} {d : PyData} {o : HO} (h : DpAll K (del H l) acc ds) (s : Same H H2) {xs : List V} (hl : H2 l = some (.lst xs)) (hd : tupD d = true) (hv : Dp K H2 v d) :
    DpAll K (del (upd H2 l o) l) (acc ++ [v]) (ds ++ [d]) := by
  rw [del_of_upd]
  exact (h.same (del_same' s)).snoc (dp_del hl hd hv)
theorem min_iff {p : List Int} {k m : Int} (hm : m ∈ p) (hle : ∀ y ∈ p, m ≤ y) (hk : k ∈ p) : decide (k = m) = p.all fun x => decide (k ≤ x) := by
  rw [Bool.eq_iff_iff, decide_eq_true_eq, List.all_eq_true]
  constructor
  · rintro rfl y hy
    exact decide_eq_true (hle y hy)
  · intro h
    have h1 := of_decide_eq_true (h m hm)
    have h2 := hle k hk
    omega
def spRingsOf (K : PySem.W.Frag) (C : Addr) : Sp := fun vs H Q _ => ∃ (a : Addr) (R : RC.Tab), vs = [.ref a] ∧ TabAt C H a R ∧ ∀ p ys H', Same H H' → H' p = some (.lst ys) → DpAll K H' ys ((RC.ringsOf R).map dT) → Q (.ref p) H'
theorem sc_ringsOf : FnScope ["table", "found", "key", "rows"] ["table"] (defScope sRingsOf) := ⟨rfl, rfl, rfl, by decide +kernel, rfl, by decide +kernel, by decide +kernel⟩
theorem ok_ringsOf (T : TX K mg) : FnOk P w K mg base CX0 8 T.d_rings_of.f T.d_rings_of.fd ["table"] (spRingsOf K T.cTable.C) := by
  have G1 := ok_waited (P := P) (w := w) (base := base) T
  have G2 := ok_path (P := P) (w := w) (base := base) T
  have G3 := ok_keys (P := P) (w := w) (base := base) T
  refine T.d_rings_of.F.ok sc_ringsOf (fun vs H Q E h => ?_) (fun cdv A outer s H vs Q E hr h => ?_)
  · obtain ⟨a, R, rfl, _⟩ := h
    rfl
  · obtain ⟨a, R, rfl, ht, q⟩ := h
    refine ⟨_, pss_cons (ps_set (i := 1) sc_ringsOf.nd rfl (.inl rfl) (pe_lst pa_nil))
      (pss_cons (ps_for PassesOwn.never rfl (pi_list (pc T.d_keys_of G3 (hr.mono (by decide)) (pa_cons (pv 0) pa_nil))) (pg_name (i := 2) sc_ringsOf.nd rfl (.inl rfl))
        (pss_cons (ps_set (i := 3) sc_ringsOf.nd rfl (.inl rfl) (pc T.d_path_of G2 hr (pa_cons (pv 0) (pa_cons (pv 2) pa_nil))))
        (pss_one (ps_if (pw_and (pt_cmpR op_eq (pc T.d_waited G1 (hr.mono (by decide)) (pa_cons (pv 0) (pa_cons (pe_ix ix_list (pv 3) (pe_un un_neg pe_int) (fun _ _ => rfl)) pa_nil))) (pv 2) (nomark _)) (pw_and1 (pt_cmpR op_eq (pv 2) (pb (cr_min rfl) T.n_min bb_min (pa_cons (pv 3) pa_nil)) (nomark _)))).pt
          (pss_one (ps_expr (pe_bm PySem.F.plainAttrs_list PySem.F.slot_list_append PySem.F.type_list_append mt_append (pv 1) (pa_cons (pbt call_tuple_of T.n_tuple bb_tuple (pa_cons (pv 3) pa_nil)) pa_nil)))) pss_nil))))
      (pss_one (ps_ret (pv 1)))), ?_⟩
    refine ⟨(by show (0 : Nat) ≤ sizeLine; decide), fun l hl => ?_⟩
    have s0 := same_new (o := .lst []) hl
    refine ⟨_, rfl, a, R, rfl, ht.same s0, fun kl H1 hkl s1 hk => ⟨kl, rfl, ⟨_, SqL.of hk⟩, ?_⟩⟩
    refine for_list (K := K) (a := kl) (xs := (RC.keys R).map V.int) (fun i σ H' => ∃ v2 v3 acc, σ = [some (.ref a), some (.ref l), v2, v3] ∧ Same H H' ∧ H' kl = some (.lst ((RC.keys R).map V.int)) ∧ H' l = some (.lst acc) ∧ acc.length ≤ i ∧
      DpAll K (del H' l) acc (((((RC.keys R).take i).filter (RC.ringAt R)).map (RC.path R)).map dT)) ⟨none, none, [], rfl, s0.trans s1, hk, s1 _ _ upd_same, Nat.le_refl _, .nil⟩ (fun i σ H' _ ⟨_, _, _, _, _, h, _⟩ => SqL.of h) ?_ ?_
    · rintro i x σ H2 hi ⟨v2, v3, acc, rfl, s2, hk2, hl2, hi2, hd⟩
      have nkl : kl ≠ l := fun e => by rw [e, upd_same] at hkl; cases hkl
      rw [List.getElem?_map] at hi
      cases e3 : (RC.keys R)[i]? with
      | none =>
        rw [e3] at hi
        cases hi
      | some k =>
        rw [e3] at hi
        cases hi
        have hkk := List.mem_of_getElem? e3
        have hlen : i < 40 := by
          have := (List.getElem?_eq_some_iff.mp e3).1
          rw [RC.keys_len] at this
          have := ht.len
          omega
        have pok := (RC.path_ok hkk ht.len).1
        have etk : (((RC.keys R).take (i + 1)).filter (RC.ringAt R)) = ((RC.keys R).take i).filter (RC.ringAt R) ++ (if RC.ringAt R k = true then [k] else []) := by
          rw [take_get e3, List.filter_append, List.filter_cons, List.filter_nil]
        rw [etk]
        refine ⟨_, rfl, _, rfl, a, R, k, rfl, ht.same s2, hkk, fun p H3 hp0 s3 hp => ?_⟩
        have hl3 := s3 _ _ hl2
        have hk3 := s3 _ _ hk2
        have hix : atI ((RC.path R k).map V.int) (-1) = some (V.int (RC.lastOf (RC.path R k))) := by
          conv => lhs; rw [RC.snoc_of pok.ne, List.map_append]
          exact atI_last _ _
        refine ⟨_, rfl, _, rfl, _, rfl, p, _, _, _, rfl, rfl, SqL.of hp, hix, a, R, _, rfl, ht.same (s2.trans s3), RC.last_key hkk ht.len, _, rfl, by cases RC.waited R (RC.lastOf (RC.path R k)) <;> rfl, _, rfl, ?_⟩
        have ering : RC.ringAt R k = (decide (oV (RC.waited R (RC.lastOf (RC.path R k))) = V.int k) && (RC.path R k).all fun x => decide (k ≤ x)) := by
          unfold RC.ringAt
          congr 1
          cases RC.waited R (RC.lastOf (RC.path R k)) with
          | none => rfl
          | some r =>
            rw [Bool.eq_iff_iff]
            simp [oV]
        have stay : ∀ H4, Same H3 H4 → RC.ringAt R k = false → (∃ v2 v3 acc, ([some (V.ref a), some (.ref l), some (.int k), some (.ref p)] : L2.St) = [some (.ref a), some (.ref l), v2, v3] ∧ Same H H4 ∧ H4 kl = some (.lst ((RC.keys R).map V.int)) ∧ H4 l = some (.lst acc) ∧ acc.length ≤ i + 1 ∧
            DpAll K (del H4 l) acc (((((RC.keys R).take i).filter (RC.ringAt R) ++ (if RC.ringAt R k = true then [k] else [])).map (RC.path R)).map dT)) := fun H4 s4 e => by
          rw [e, if_neg Bool.false_ne_true, List.append_nil]
          exact ⟨_, _, acc, rfl, (s2.trans s3).trans s4, s4 _ _ hk3, s4 _ _ hl3, by omega, hd.same (del_same' (s3.trans s4))⟩
        cases ew : decide (oV (RC.waited R (RC.lastOf (RC.path R k))) = V.int k) with
        | false =>
          rw [ew, Bool.false_and] at ering
          exact iteF (iteF (stay H3 (fun _ _ h => h) ering))
        | true =>
          rw [ew, Bool.true_and] at ering
          refine iteT ⟨_, rfl, _, rfl, p, RC.path R k, rfl, SqL.of hp, List.length_pos_iff.mpr pok.ne, fun m hm hle => ⟨rfl, decide (V.int k = V.int m), rfl, ?_⟩⟩
          have e5 : decide (V.int k = V.int m) = RC.ringAt R k := by
            rw [ering, ← min_iff hm hle (by obtain ⟨t, e⟩ := (RC.path_ok hkk ht.len).2.1; rw [e]; exact List.mem_cons_self)]
            by_cases h : k = m
            · subst h
              simp
            · simp [h]
          rw [e5]
          cases er : RC.ringAt R k with
          | false =>
            have := stay H3 (fun _ _ h => h) er
            rw [er] at this
            exact iteF this
          | true =>
            refine iteT ⟨_, rfl, .inl ⟨rfl, _, SqL.of hl3⟩, _, rfl, p, _, rfl, .inl ⟨SqL.of hp, fun t htt => ?_⟩⟩
            have s4 := same_new (o := .tup ((RC.path R k).map V.int)) htt
            have hl4 := s4 _ _ hl3
            refine ⟨l, acc, .ref t, rfl, rfl, hl4, small1000 (by omega), ?_⟩
            refine ⟨_, _, acc ++ [.ref t], rfl, ((s2.trans s3).trans s4).mut hl, ?_, upd_same, by rw [List.length_append, List.length_singleton]; omega, ?_⟩
            · rw [upd_ne nkl]
              exact s4 _ _ hk3
            · rw [if_pos rfl, List.map_append, List.map_append]
              exact grow hd (s3.trans s4) hl4 (tupD_T _) (Dp.ofT (.inl (.inl upd_same)))
    · rintro σ H2 ⟨v2, v3, acc, rfl, s2, hk2, hl2, hi2, hd⟩
      refine ⟨_, rfl, q l acc H2 s2 hl2 ?_⟩
      rw [List.length_map, List.take_length] at hd
      exact hd.same del_sub

/-! ### waiting_for, by_new -/
def spWaitFor (K : PySem.W.Frag) (C : Addr) : Sp := fun vs H Q _ => ∃ (a : Addr) (R : RC.Tab) (k : Int), vs = [.ref a, .int k] ∧ TabAt C H a R ∧ ∀ p H', H p = none → Same H H' → H' p = some (.lst ((RC.waitsFor R k).map V.int)) → Q (.ref p) H'
theorem sc_waitFor : FnScope ["table", "key", "one", "new"] ["table", "key"] (defScope sWaitingFor) := ⟨rfl, rfl, rfl, by decide +kernel, rfl, by decide +kernel, by decide +kernel⟩
theorem ok_waitFor (T : TX K mg) : FnOk P w K mg base CX0 3 T.d_waiting_for.f T.d_waiting_for.fd ["table", "key"] (spWaitFor K T.cTable.C) := by
  have G1 := ok_rows (P := P) (w := w) (base := base) T
  refine T.d_waiting_for.F.ok sc_waitFor (fun vs H Q E h => ?_) (fun cdv A outer s H vs Q E hr h => ?_)
  · obtain ⟨a, R, k, rfl, _⟩ := h
    rfl
  · obtain ⟨a, R, k, rfl, ht, q⟩ := h
    refine ⟨_, pss_one (ps_ret (pe_lc (own := [("one", 2), ("new", 3)]) (g := g2 K 2 3) (te := tVar 2) rfl sc_waitFor.nd (pi_tup (pprop (pv 0) T.cTable.cl T.mTable_rows_p G1 T.mTable_rows_b hr)) (blkOk_by (N := ["table", "key", "one", "new"]) (sc := defScope sWaitingFor) (by decide +kernel))
      (fun _ _ _ _ _ => pg_tup rfl (pgs_cons (pg_name (i := 2) sc_waitFor.nd rfl (.inl rfl)) (pgs_cons (pg_name (i := 3) sc_waitFor.nd rfl (.inl rfl)) pgs_nil))) (fun _ _ _ _ _ => pts_one (pw_and (pt_cmpR op_eq (pv 3) (pv 1) (nomark _)) (pw_and1 (pt_cmpR op_ne (pv 2) (pv 1) (nomark _)))).pt) (fun _ _ _ _ _ => pv 2))), ?_⟩
    obtain ⟨dx, fs, e⟩ := ht.ins
    refine ⟨_, rfl, a, dx, fs, rfl, e, a, R, rfl, ht, fun p H1 s1 hd hp => ?_⟩
    obtain ⟨p', xs, e1, hs, ha⟩ := hd.tup_inv
    cases e1
    refine ⟨p, rfl, ⟨_, hs⟩, fun D hD => ?_⟩
    refine lc_rows (K := K) walk_tup (fun p => if decide (p.2 = k) && !decide (p.1 = k) then some (dI p.1) else none) hD (fun H' s => same_t s hs) ha (by have := ht.len; omega) (fun _ _ => rfl) (fun p H2 QY QN hp s2 hacc qy qn => ?_) (fun H' acc s2 hacc h => ?_)
    · refine ⟨_, rfl, _, rfl, rfl, decide (V.int p.2 = V.int k), rfl, ?_⟩
      by_cases h1 : p.2 = k
      · rw [decide_eq_true (congrArg V.int h1)]
        refine iteT ⟨_, rfl, _, rfl, rfl, !decide (V.int p.1 = V.int k), rfl, ?_⟩
        by_cases h2 : p.1 = k
        · rw [decide_eq_true (congrArg V.int h2)]
          exact iteF (qn (by simp [h2]) _ fun _ _ h => h)
        · rw [decide_eq_false (fun z => h2 (V.int.inj z))]
          exact iteT ⟨_, rfl, qy _ (by simp [h1, h2]) _ _ (fun _ _ h => h) (.int _)⟩
      · rw [decide_eq_false (fun z => h1 (V.int.inj z))]
        exact iteF (iteF (qn (by simp [h1]) _ fun _ _ h => h))
    · have : R.filterMap (fun p => if decide (p.2 = k) && !decide (p.1 = k) then some (dI p.1) else none) = (RC.waitsFor R k).map PyData.int := by
        unfold RC.waitsFor
        rw [List.map_map]
        exact filterMap_if (c := fun p : Int × Int => decide (p.2 = k) && !decide (p.1 = k)) (f := fun p => dI p.1) R
      rw [this] at h
      rw [h.ints] at hacc
      exact q D H' (none_of_same s1 hD) (s1.trans s2) hacc
def spByNew (C : Addr) : Sp := fun vs H Q _ => ∃ (a : Addr) (R : RC.Tab), vs = [.ref a] ∧ TabAt C H a R ∧ ∀ d H', GrpAt H H' d (RC.byNew R) → Q (.ref d) H'
theorem sc_byNew : FnScope ["table", "found", "key", "new"] ["table"] (defScope sByNew) := ⟨rfl, rfl, rfl, by decide +kernel, rfl, by decide +kernel, by decide +kernel⟩
theorem ok_byNew (T : TX K mg) : FnOk P w K mg base CX0 3 T.d_by_new.f T.d_by_new.fd ["table"] (spByNew T.cTable.C) := by
  have G1 := ok_rows (P := P) (w := w) (base := base) T
  refine T.d_by_new.F.ok sc_byNew (fun vs H Q E h => ?_) (fun cdv A outer s H vs Q E hr h => ?_)
  · obtain ⟨a, R, rfl, _⟩ := h
    rfl
  · obtain ⟨a, R, rfl, ht, q⟩ := h
    refine ⟨_, pss_cons (ps_set (i := 1) sc_byNew.nd rfl (.inl rfl) pe_dnewK)
      (pss_cons (ps_for PassesOwn.never rfl (pi_tup (pprop (pv 0) T.cTable.cl T.mTable_rows_p G1 T.mTable_rows_b hr)) (pg_tup rfl (pgs_cons (pg_name (i := 2) sc_byNew.nd rfl (.inl rfl)) (pgs_cons (pg_name (i := 3) sc_byNew.nd rfl (.inl rfl)) pgs_nil)))
        (pss_one (ps_expr (pe_bm PySem.F.plainAttrs_list PySem.F.slot_list_append PySem.F.type_list_append mt_append (pe_dsetd (pv 1) (pv 3) (pe_lst pa_nil) ⟨rfl, rfl, rfl, rfl⟩) (pa_cons (pv 2) pa_nil)))))
      (pss_one (ps_ret (pv 1)))), ?_⟩
    intro d hd
    have s0 := same_new (o := .dK []) hd
    obtain ⟨dx, fs, e⟩ := ht.ins
    refine ⟨_, rfl, a, dx, fs, rfl, s0 _ _ e, a, R, rfl, ht.same s0, fun t H1 s1 hdt htup => ?_⟩
    have d1 : H1 d = some (.dK []) := s1 _ _ upd_same
    have sH : Same H (del H1 d) := del_keep (s0.trans s1) hd
    have hdt' : Dp K (del H1 d) (.ref t) (dRows R) := hdt.del (noTup_dk d1) (tupDs_map (fun p => rfl) R)
    obtain ⟨t', xs, e1, hs, ha⟩ := hdt'.tup_inv
    cases e1
    have hl : xs.length = R.length := by rw [ha.len, List.length_map]
    refine ⟨t, rfl, ⟨_, same_t del_sub hs⟩, ?_⟩
    refine for_tup (K := K) (a := t) (xs := xs) (fun i σ H' => ∃ v2 v3, σ = [some (.ref a), some (.ref d), v2, v3] ∧ GrpAt (del H1 d) H' d (RC.bumps [] ((R.take i).map fun p => (p.2, p.1))))
      ⟨none, none, rfl, grp_empty del_sub del_same d1⟩ (fun i σ H' _ ⟨_, _, _, g⟩ => by obtain ⟨E, g, _⟩ := g; exact same_t g.same hs) ?_ ?_
    · rintro i x σ H2 hi ⟨v2, v3, rfl, g⟩
      obtain ⟨d', e1, e2⟩ := ha.get hi
      rw [List.getElem?_map] at e1
      cases e3 : R[i]? with
      | none =>
        rw [e3] at e1
        cases e1
      | some p =>
        rw [e3] at e1
        cases e1
        have sg : Same (del H1 d) H2 := by obtain ⟨E, g, _⟩ := g; exact g.same
        obtain ⟨b, rfl, hb⟩ := (e2.same sg).pair_inv
        refine ⟨b, _, rfl, hb, rfl, _, _, rfl, _, _, rfl, rfl, ?_⟩
        have h40 := ht.len
        have hlt : ((R.take i).map fun p : Int × Int => (p.2, p.1)).length ≤ 40 := by rw [List.length_map, List.length_take]; omega
        refine grp_app (f := 1) (n := p.2) (k := p.1) g ?_ (fun e he => ?_) rfl (fun Q q => ⟨_, rfl, q⟩) (fun H' Q q => ⟨_, rfl, q⟩) fun H' g' => ⟨_, _, rfl, ?_⟩
        · have := bumps_len ((R.take i).map fun p : Int × Int => (p.2, p.1)) []
          simp only [List.length_nil] at this
          omega
        · have := bumps_entry_len e he
          omega
        · rw [take_get e3, List.map_append, RC.bumps_append]
          exact g'
    · rintro σ H2 ⟨v2, v3, rfl, g⟩
      refine ⟨_, rfl, q d H2 ?_⟩
      rw [hl, List.take_length] at g
      exact g.base sH
end RP

/-! KW8 -/
/-! Walks: groups_of, groups, rings, trees_of, trees. -/
namespace RP
open PySem PySem.Spec PyProof.Rows L2
variable {P : Program} {w : World} {K : PySem.W.Frag} {mg : Str → Option Value} {base : Heap}
abbrev dGs (R : RC.Tab) : List PyData := sds ((RC.groupsRaw R).map dT)
theorem alike_T {L : List (List Int)} : PySem.W.AllAlike (L.map dT) := PySem.W.AllAlike.of fun a b => by
  show PySem.W.alike (.tuple (a.map .int)) (.tuple (b.map .int)) = true
  rw [PySem.W.alike]
  exact PySem.W.alike_ints a b
theorem depth_Ts {L : List (List Int)} : ∀ d ∈ L.map dT, d.depth ≤ 50 := fun d hd => by
  obtain ⟨p, _, rfl⟩ := List.mem_map.mp hd
  exact Nat.le_trans (depth_T p) (by decide)
theorem sortable_T {L : List (List Int)} (h : ∀ g ∈ L, g ≠ []) : PySem.W.Sortable (L.map dT) := .inl fun d hd => by
  obtain ⟨g, hg, rfl⟩ := List.mem_map.mp hd
  cases g with
  | nil => exact absurd rfl (h _ hg)
  | cons x g => exact ⟨_, _, rfl⟩
abbrev rTupK (K : PySem.W.Frag) : List V → Hp → VK → Prop := fun xs H Q => ∃ p ys, xs = [V.ref p] ∧ ((SqL K H p ys ∧ ∀ l, H l = none → Q (.ref l) (upd H l (.tup ys))) ∨ (SqT K H p ys ∧ Q (.ref p) H))
abbrev rLenK (K : PySem.W.Frag) : List V → Hp → VK → Prop := fun xs H Q => ∃ x n, xs = [x] ∧ LenV K x H n ∧ Q (.int n) H
/-- an entry of a locked dict of lists -/
theorem dget_frz {H : Hp} {d : Addr} {od : Obj} {E : List (Int × Addr × List Int)} {e : Int × Addr × List Int} (nk : (E.map fun e => e.1).Nodup) (he : e ∈ E) (h : H d = some (.frz od (.dK (kvE E)))) : DGet H d (.int e.1) (some (.ref e.2.1)) := by
  have z : DGet H d (kV (Sum.inl e.1)) (valV (kvE E) (Sum.inl e.1 : Key)) := .inl ⟨kvE E, Sum.inl e.1, .inr ⟨od, h⟩, rfl, rfl⟩
  rw [kvE_some nk he] at z
  exact z
/-- a comprehension over the keys of a locked dict of lists -/
theorem lc_grp {i : Nat} {tt : TT} {te : TE} {vs : List Nat} {σ : L2.St} {H1 : Hp} {D d : Addr} {od : Obj} {Qd : Hp → Prop} {E : List (Int × Addr × List Int)} (f : Int × Addr × List Int → Option PyData)
    (hD : H1 D = none) (hd1 : H1 d = some (.frz od (.dK (kvE E)))) (hn : E.length ≤ 100000) (hw : ∀ a, wipe ((wipe σ vs).set i (some a)) vs = wipe σ vs)
    (hs : ∀ e H (QY : V → Hp → Prop) (QN : Hp → Prop), e ∈ E → Same H1 H → (∃ acc, H D = some (.lst acc)) → (∀ d, f e = some d → ∀ y H4, Same H H4 → Dp K (del H4 D) y d → QY y H4) → (f e = none → ∀ H4, Same H H4 → QN H4) →
      tt ((wipe σ vs).set i (some (.int e.1))) H fun b H3 => if b = true then te ((wipe σ vs).set i (some (.int e.1))) H3 QY else QN H3)
    (hd : ∀ H' acc, Same H1 H' → H' D = some (.lst acc) → DpAll K (del H' D) acc (E.filterMap f) → Qd H') : LcW (Itk d od (kvE E)) (gName i) tt te vs σ H1 D Qd := by
  have hlen : (kvE E).length = E.length := List.length_map ..
  refine lc_dp (K := K) walk_keys (fun i => (E[i]?).bind f) hD (by omega) (fun H' s => s _ _ hd1) (fun n x H H' QY QN hi s1 hacc hy qy qn => ?_) (fun H' acc s1 hacc h => ?_)
  · obtain ⟨rfl, k, v, e1, rfl⟩ := hy
    unfold kvE at e1
    rw [List.getElem?_map] at e1
    cases e3 : E[n]? with
    | none =>
      rw [e3] at e1
      cases e1
    | some e =>
      rw [e3] at e1 qy qn
      cases e1
      exact ⟨hw _, hs e _ QY QN (List.mem_of_getElem? e3) s1 hacc qy qn⟩
  · rw [hlen, rng_filterMap] at h
    exact hd H' acc s1 hacc h
theorem unlock_dp {H2 : Hp} {D d : Addr} {od : Obj} {kvs : List (Key × V)} {acc : List V} {ds : List PyData} (ht : tupD.tupDs ds = true) (nD : D ≠ d) (hd2 : H2 d = some (.frz od (.dK kvs))) (h : DpAll K (del H2 D) acc ds) : DpAll K (upd H2 d (.dK kvs)) acc ds := by
  refine DpAll.same ?_ (DpAll.del (D := d) (H := del H2 D) ?_ ht h)
  · intro b o hb
    by_cases e : b = d
    · subst e
      rw [L2.del_same] at hb
      cases hb
    · rw [del_ne e] at hb
      rw [upd_ne e]
      exact del_sub _ _ hb
  · exact noTup_of (o := .frz od (.dK kvs)) (by rw [del_ne nD.symm]; exact hd2) (fun _ z => by cases z) fun _ _ z => by cases z
def spGroupsOf (K : PySem.W.Frag) (C : Addr) : Sp := fun vs H Q _ => ∃ (a : Addr) (R : RC.Tab), vs = [.ref a] ∧ TabAt C H a R ∧ ∀ p ys H', Same H H' → H' p = some (.lst ys) → DpAll K H' ys (dGs R) → Q (.ref p) H'
theorem sc_groupsOf : FnScope ["table", "wants", "new"] ["table"] (defScope sGroupsOf) := ⟨rfl, rfl, rfl, by decide +kernel, rfl, by decide +kernel, by decide +kernel⟩
theorem ok_groupsOf (T : TX K mg) : FnOk P w K mg base CX0 4 T.d_groups_of.f T.d_groups_of.fd ["table"] (spGroupsOf K T.cTable.C) := by
  have G1 := ok_byNew (P := P) (w := w) (base := base) T
  refine T.d_groups_of.F.ok sc_groupsOf (fun vs H Q E h => ?_) (fun cdv A outer s H vs Q E hr h => ?_)
  · obtain ⟨a, R, rfl, _⟩ := h
    rfl
  · obtain ⟨a, R, rfl, ht, q⟩ := h
    have hu := hu_of hr
    refine ⟨_, pss_cons (ps_set (i := 1) sc_groupsOf.nd rfl (.inr rfl) (pc T.d_by_new G1 hr (pa_cons (pv 0) pa_nil)))
      (pss_one (ps_ret (pb (cr_srtD (by exact hr.units)) T.n_sorted bb_sorted (pa_cons (pe_lock
        (pe_lc (own := [("new", 2)]) (g := gName 2) (te := tCB (rTupK K) (tCons (tDGet (tVar 1) (tVar 2)) tNil)) (tt := tTest (tOp (rI0 fun i j => V.bl (decide (j < i))) (tCB (rLenK K) (tCons (tDGet (tVar 1) (tVar 2)) tNil)) (tC (.int 1))))
          rfl sc_groupsOf.nd (pi_keys (pv 1)) (blkOk_by (N := ["table", "wants", "new"]) (sc := defScope sGroupsOf) (by decide +kernel)) (fun _ _ _ _ _ => pg_name (i := 2) sc_groupsOf.nd rfl (Or.inl rfl))
          (fun _ _ _ _ _ => pts_one (pt_cmpR op_gt (pb call_len T.n_len bb_len (pa_cons (pe_dget hu (pv 1) (pv 2) (fun _ _ => rfl)) pa_nil)) pe_int (nomark _)))
          (fun _ _ _ _ _ => pbt call_tuple_of T.n_tuple bb_tuple (pa_cons (pe_dget hu (pv 1) (pv 2) (fun _ _ => rfl)) pa_nil)))) pa_nil)))), ?_⟩
    refine ⟨_, rfl, a, R, rfl, ht, fun d H1 g => ?_⟩
    obtain ⟨E, g, hE⟩ := g
    refine ⟨d, _, g.dat, trivial, fun od => ⟨_, rfl, d, od, rfl, .inl ⟨kvE E, upd_same, fun D hD => ?_⟩⟩⟩
    have hl40 : E.length ≤ 40 := by
      have := bumps_len (R.map fun p => (p.2, p.1)) []
      have h2 : E.length = (RC.byNew R).length := by rw [← hE, List.length_map]
      have := ht.len
      rw [List.length_map] at *
      unfold RC.byNew at h2
      simp only [List.length_nil] at *
      omega
    have nD : D ≠ d := fun z => by rw [z, upd_same] at hD; cases hD
    refine lc_grp (K := K) (fun e => if decide (1 < e.2.2.length) = true then some (dT e.2.2) else none) hD upd_same (by omega) (fun _ => rfl) (fun e H2 QY QN he s2 hacc qy qn => ?_) (fun H2 acc s2 hacc h => ?_)
    · have hd2 := s2 _ _ (upd_same (H := H1) (a := d) (o := .frz od (.dK (kvE E))))
      have ha := (g.at_ e he).2
      have nad : e.2.1 ≠ d := fun z => by
        have h1 := g.dat
        rw [← z, ha] at h1
        cases h1
      have ha2 : H2 e.2.1 = some (.lst (e.2.2.map V.int)) := s2 _ _ (by rw [upd_ne nad]; exact ha)
      refine ⟨_, rfl, _, rfl, d, _, rfl, dget_frz g.nk he hd2, _, _, rfl, .inl ⟨_, SqL.of ha2, rfl⟩, _, _, rfl, rfl, _, rfl, ?_⟩
      rw [List.length_map]
      by_cases h1 : 1 < e.2.2.length
      · have : decide ((1 : Int) < ((e.2.2.length : Nat) : Int)) = true := decide_eq_true (by omega)
        rw [this]
        refine iteT ⟨_, rfl, _, rfl, d, _, rfl, dget_frz g.nk he hd2, _, _, rfl, .inl ⟨SqL.of ha2, fun t htt => ?_⟩⟩
        obtain ⟨acc, hacc⟩ := hacc
        have hD2 := (same_new (o := .tup (e.2.2.map V.int)) htt) _ _ hacc
        exact qy _ (by rw [decide_eq_true h1, if_pos rfl]) _ _ (same_new htt) (dp_del hD2 (tupD_T _) (Dp.ofT (.inl (.inl upd_same))))
      · have : decide ((1 : Int) < ((e.2.2.length : Nat) : Int)) = false := decide_eq_false (by omega)
        rw [this]
        exact iteF (qn (by rw [decide_eq_false h1, if_neg Bool.false_ne_true]) _ fun _ _ h => h)
    · have hd2 := s2 _ _ (upd_same (H := H1) (a := d) (o := .frz od (.dK (kvE E))))
      refine ⟨hd2, ?_⟩
      have hD3 : upd H2 d (.dK (kvE E)) D = some (.lst acc) := by rw [upd_ne nD]; exact hacc
      have hdata : E.filterMap (fun e => if decide (1 < e.2.2.length) = true then some (dT e.2.2) else none) = (RC.groupsRaw R).map dT := by
        rw [filterMap_if (c := fun e : Int × Addr × List Int => decide (1 < e.2.2.length)) (f := fun e => dT e.2.2)]
        unfold RC.groupsRaw
        rw [← hE, List.filter_map, List.map_map, List.map_map]
        rfl
      rw [hdata] at h
      have hdp2 : DpAll K (upd H2 d (.dK (kvE E))) acc ((RC.groupsRaw R).map dT) := unlock_dp (tupDs_map (fun p => tupD_T p) _) nD hd2 h
      have sm : Same H (upd H2 d (.dK (kvE E))) := g.same.trans (same_unlock g.dat s2)
      refine ⟨D, acc, _, rfl, .inl (.inl (.inl hD3)), hdp2, alike_T, sortable_T (fun x hx => (RC.groups_sub hx).1), depth_Ts, fun p ys hp hys => ?_⟩
      exact q p ys _ (sm.trans (same_new hp)) upd_same (hys.same (same_new hp))
end RP

/-! KW9 -/
/-! Walks: groups, rings, trees_of, trees. -/
namespace RP
open PySem PySem.Spec PyProof.Rows L2
variable {P : Program} {w : World} {K : PySem.W.Frag} {mg : Str → Option Value} {base : Heap}
/-- a table's data as a tuple -/
def spTup (K : PySem.W.Frag) (C : Addr) (f : RC.Tab → List PyData) : Sp := fun vs H Q _ => ∃ (a : Addr) (R : RC.Tab), vs = [.ref a] ∧ TabAt C H a R ∧ ∀ p H', Same H H' → Dp K H' (.ref p) (.tuple (f R)) → Q (.ref p) H'
def spLst (K : PySem.W.Frag) (C : Addr) (f : RC.Tab → List PyData) : Sp := fun vs H Q _ => ∃ (a : Addr) (R : RC.Tab), vs = [.ref a] ∧ TabAt C H a R ∧ ∀ p ys H', Same H H' → H' p = some (.lst ys) → DpAll K H' ys (f R) → Q (.ref p) H'
theorem sc_rings : FnScope ["table"] ["table"] (defScope sRings) := ⟨rfl, rfl, rfl, by decide +kernel, rfl, by decide +kernel, by decide +kernel⟩
theorem sc_groups : FnScope ["table"] ["table"] (defScope sGroups) := ⟨rfl, rfl, rfl, by decide +kernel, rfl, by decide +kernel, by decide +kernel⟩
theorem sc_trees : FnScope ["table"] ["table"] (defScope sTrees) := ⟨rfl, rfl, rfl, by decide +kernel, rfl, by decide +kernel, by decide +kernel⟩
theorem ok_rings (T : TX K mg) : FnOk P w K mg base CX0 9 T.d_rings.f T.d_rings.fd ["table"] (spTup K T.cTable.C fun R => (RC.ringsOf R).map dT) := by
  have G1 := ok_needT (P := P) (w := w) (base := base) T
  have G2 := ok_ringsOf (P := P) (w := w) (base := base) T
  refine T.d_rings.F.ok sc_rings (fun vs H Q E h => ?_) (fun cdv A outer s H vs Q E hr h => ?_)
  · obtain ⟨a, R, rfl, _⟩ := h
    rfl
  · obtain ⟨a, R, rfl, ht, q⟩ := h
    refine ⟨_, pss_cons (ps_expr (pc T.d_need_table G1 (hr.mono (by decide)) (pa_cons (pv 0) pa_nil))) (pss_one (ps_ret (pbt call_tuple_of T.n_tuple bb_tuple (pa_cons (pc T.d_rings_of G2 hr (pa_cons (pv 0) pa_nil)) pa_nil)))), ?_⟩
    refine ⟨_, rfl, a, R, rfl, ht, _, rfl, a, R, rfl, ht, fun p ys H' s1 hp hd => ⟨p, ys, rfl, .inl ⟨SqL.of hp, fun l hl => q l _ (s1.trans (same_new hl)) (.tup (.inl (.inl upd_same)) (hd.same (same_new hl)))⟩⟩⟩
theorem ok_groups (T : TX K mg) : FnOk P w K mg base CX0 5 T.d_groups.f T.d_groups.fd ["table"] (spTup K T.cTable.C dGs) := by
  have G1 := ok_needT (P := P) (w := w) (base := base) T
  have G2 := ok_groupsOf (P := P) (w := w) (base := base) T
  refine T.d_groups.F.ok sc_groups (fun vs H Q E h => ?_) (fun cdv A outer s H vs Q E hr h => ?_)
  · obtain ⟨a, R, rfl, _⟩ := h
    rfl
  · obtain ⟨a, R, rfl, ht, q⟩ := h
    refine ⟨_, pss_cons (ps_expr (pc T.d_need_table G1 (hr.mono (by decide)) (pa_cons (pv 0) pa_nil))) (pss_one (ps_ret (pbt call_tuple_of T.n_tuple bb_tuple (pa_cons (pc T.d_groups_of G2 hr (pa_cons (pv 0) pa_nil)) pa_nil)))), ?_⟩
    refine ⟨_, rfl, a, R, rfl, ht, _, rfl, a, R, rfl, ht, fun p ys H' s1 hp hd => ⟨p, ys, rfl, .inl ⟨SqL.of hp, fun l hl => q l _ (s1.trans (same_new hl)) (.tup (.inl (.inl upd_same)) (hd.same (same_new hl)))⟩⟩⟩

/-! ### trees_of -/
abbrev dG (e : Int × List Int) : PyData := .tuple [.int e.1, dT e.2]
abbrev dTr (R : RC.Tab) : List PyData := sds ((RC.treesRaw R).map dG)
theorem alike_G {L : List (Int × List Int)} : PySem.W.AllAlike (L.map dG) := PySem.W.AllAlike.of fun a b => by
  have : PySem.W.alike (dT a.2) (dT b.2) = true := by
    show PySem.W.alike (.tuple (a.2.map .int)) (.tuple (b.2.map .int)) = true
    rw [PySem.W.alike]
    exact PySem.W.alike_ints a.2 b.2
  show PySem.W.alike (.tuple [.int a.1, dT a.2]) (.tuple [.int b.1, dT b.2]) = true
  rw [PySem.W.alike, PySem.W.alikeAll, PySem.W.alikeAll, this]
  simp [PySem.W.alike, PySem.W.alikeAll]
theorem depth_G {L : List (Int × List Int)} : ∀ d ∈ L.map dG, d.depth ≤ 50 := fun d hd => by
  obtain ⟨p, _, rfl⟩ := List.mem_map.mp hd
  have := depth_T p.2
  simp only [PyData.depth, PyData.depthAll] at this ⊢
  omega
theorem sortable_G {L : List (Int × List Int)} : PySem.W.Sortable (L.map dG) := PySem.W.Sortable.tuples fun _ => ⟨_, _, rfl⟩
theorem tupD_G (e : Int × List Int) : tupD (dG e) = true := by
  show (tupD (.int e.1) && tupD.tupDs [dT e.2]) = true
  show (tupD (.int e.1) && (tupD (dT e.2) && tupD.tupDs [])) = true
  rw [tupD_T]
  rfl
theorem sc_treesOf : FnScope ["table", "found", "key", "rows", "new"] ["table"] (defScope sTreesOf) := ⟨rfl, rfl, rfl, by decide +kernel, rfl, by decide +kernel, by decide +kernel⟩
theorem end_free {R : RC.Tab} {k : Int} : decide (V.str (if RC.waited R (RC.lastOf (RC.path R k)) ≠ none then "ring" else if R.lookup (RC.lastOf (RC.path R k)) = some (RC.lastOf (RC.path R k)) then "still" else "free") = V.str "free") = RC.freeEnd R k := by
  unfold RC.freeEnd
  by_cases h1 : RC.waited R (RC.lastOf (RC.path R k)) = none
  · rw [if_neg (fun z => z h1), decide_eq_true h1, Bool.true_and]
    by_cases h2 : R.lookup (RC.lastOf (RC.path R k)) = some (RC.lastOf (RC.path R k))
    · have e1 : decide (R.lookup (RC.lastOf (RC.path R k)) ≠ some (RC.lastOf (RC.path R k))) = false := decide_eq_false (fun z => z h2)
      rw [if_pos h2, e1]
      decide
    · have e1 : decide (R.lookup (RC.lastOf (RC.path R k)) ≠ some (RC.lastOf (RC.path R k))) = true := decide_eq_true h2
      rw [if_neg h2, e1]
      decide
  · rw [if_pos h1, decide_eq_false h1, Bool.false_and]
    decide
theorem ok_treesOf (T : TX K mg) : FnOk P w K mg base CX0 8 T.d_trees_of.f T.d_trees_of.fd ["table"] (spLst K T.cTable.C dTr) := by
  have G1 := ok_keys (P := P) (w := w) (base := base) T
  have G2 := ok_path (P := P) (w := w) (base := base) T
  have G3 := ok_end (P := P) (w := w) (base := base) T
  have G4 := ok_get (P := P) (w := w) (base := base) T
  refine T.d_trees_of.F.ok sc_treesOf (fun vs H Q E h => ?_) (fun cdv A outer s H vs Q E hr h => ?_)
  · obtain ⟨a, R, rfl, _⟩ := h
    rfl
  · obtain ⟨a, R, rfl, ht, q⟩ := h
    have hu := hu_of hr
    refine ⟨_, pss_cons (ps_set (i := 1) sc_treesOf.nd rfl (.inr rfl) pe_dnewK)
      (pss_cons (ps_for PassesOwn.never rfl (pi_list (pc T.d_keys_of G1 (hr.mono (by decide)) (pa_cons (pv 0) pa_nil))) (pg_name (i := 2) sc_treesOf.nd rfl (.inl rfl))
        (pss_cons (ps_set (i := 3) sc_treesOf.nd rfl (.inl rfl) (pc T.d_path_of G2 hr (pa_cons (pv 0) (pa_cons (pv 2) pa_nil))))
        (pss_one (ps_if (pt_cmpR op_eq (pc T.d_end_of G3 hr (pa_cons (pv 0) (pa_cons (pv 3) pa_nil))) pe_str (nomark _))
          (pss_one (ps_expr (pe_bm PySem.F.plainAttrs_list PySem.F.slot_list_append PySem.F.type_list_append mt_append (pe_dsetd (pv 1) (RX.pe_oix T.mTable_getitem.m T.tGet_fi G4 (hr.mono (by decide)) T.mTable_getitem.b pass0 (pv 0) (pe_ix ix_list (pv 3) (pe_un un_neg pe_int) (fun _ _ => rfl))) (pe_lst pa_nil) ⟨rfl, rfl, rfl, rfl⟩) (pa_cons (pv 2) pa_nil)))) pss_nil))))
      (pss_one (ps_ret (pb (cr_srtD (by exact hr.units)) T.n_sorted bb_sorted (pa_cons (pe_lock
        (pe_lc (own := [("new", 4)]) (g := gName 4) (te := tTup (tCons (tVar 4) (tCons (tCB (rTupK K) (tCons (tDGet (tVar 1) (tVar 4)) tNil)) tNil))) (tt := tYes) rfl sc_treesOf.nd (pi_keys (pv 1)) (blkOk_by (N := ["table", "found", "key", "rows", "new"]) (sc := defScope sTreesOf) (by decide +kernel)) (fun _ _ _ _ _ => pg_name (i := 4) sc_treesOf.nd rfl (Or.inl rfl))
          (fun _ _ _ _ _ => pts_nil)
          (fun _ _ _ _ _ => pe_tup (pa_cons (pv 4) (pa_cons (pbt call_tuple_of T.n_tuple bb_tuple (pa_cons (pe_dget hu (pv 1) (pv 4) (fun _ _ => rfl)) pa_nil)) pa_nil))))) pa_nil))))), ?_⟩
    intro d hd
    have s0 := same_new (o := .dK []) hd
    refine ⟨_, rfl, a, R, rfl, ht.same s0, fun kl H1 hkl s1 hk => ?_⟩
    have d1 : H1 d = some (.dK []) := s1 _ _ upd_same
    have sH : Same H (del H1 d) := del_keep (s0.trans s1) hd
    have nkd : kl ≠ d := ne_of hk d1 (by intro z; cases z)
    have hk' : del H1 d kl = some (.lst ((RC.keys R).map V.int)) := by rw [del_ne nkd]; exact hk
    refine ⟨kl, rfl, ⟨_, SqL.of hk⟩, ?_⟩
    refine for_list (K := K) (a := kl) (xs := (RC.keys R).map V.int) (fun i σ H' => ∃ v2 v3, σ = [some (.ref a), some (.ref d), v2, v3, none] ∧ GrpAt (del H1 d) H' d (RC.bumps [] ((((RC.keys R).take i).filter (RC.freeEnd R)).map fun k => (RC.endNew R k, k))))
      ⟨none, none, rfl, grp_empty del_sub L2.del_same d1⟩ (fun i σ H' _ ⟨_, _, _, g⟩ => by obtain ⟨E, g, _⟩ := g; exact SqL.of (g.same _ _ hk')) ?_ ?_
    · rintro i x σ H2 hi ⟨v2, v3, rfl, g⟩
      rw [List.getElem?_map] at hi
      cases e3 : (RC.keys R)[i]? with
      | none =>
        rw [e3] at hi
        cases hi
      | some k =>
        rw [e3] at hi
        cases hi
        have hkk := List.mem_of_getElem? e3
        have sg : Same (del H1 d) H2 := by obtain ⟨E, g, _⟩ := g; exact g.same
        have pok := (RC.path_ok hkk ht.len).1
        have etk : (((RC.keys R).take (i + 1)).filter (RC.freeEnd R)) = ((RC.keys R).take i).filter (RC.freeEnd R) ++ (if RC.freeEnd R k = true then [k] else []) := by
          rw [take_get e3, List.filter_append, List.filter_cons, List.filter_nil]
        rw [etk]
        refine ⟨_, rfl, _, rfl, a, R, k, rfl, ht.same (sH.trans sg), hkk, fun p H3 hp0 s3 hp => ?_⟩
        refine ⟨_, rfl, _, rfl, a, p, R, RC.path R k, rfl, ht.same ((sH.trans sg).trans s3), hp, pok.ne, pok.sub, rfl, _, rfl, ?_⟩
        rw [end_free]
        have g3 := g.mono s3
        cases ef : RC.freeEnd R k with
        | false =>
          refine iteF ⟨_, _, rfl, ?_⟩
          rw [if_neg Bool.false_ne_true, List.append_nil]
          exact g3
        | true =>
          have h40 := ht.len
          have hl1 : ((((RC.keys R).take i).filter (RC.freeEnd R)).map fun k => (RC.endNew R k, k)).length ≤ 40 := by
            have h1 := List.length_filter_le (RC.freeEnd R) ((RC.keys R).take i)
            have h2 : ((RC.keys R).take i).length ≤ (RC.keys R).length := by rw [List.length_take]; omega
            rw [RC.keys_len] at h2
            rw [List.length_map]
            omega
          have hix : atI ((RC.path R k).map V.int) (-1) = some (V.int (RC.lastOf (RC.path R k))) := by
            conv => lhs; rw [RC.snoc_of pok.ne, List.map_append]
            exact atI_last _ _
          have hlast := RC.last_key hkk ht.len
          obtain ⟨n, hn⟩ := RC.lookup_some hlast
          have hen : RC.endNew R k = n := by
            unfold RC.endNew
            rw [hn]
            rfl
          have ht3 := ht.same ((sH.trans sg).trans s3)
          obtain ⟨dx, fs, e⟩ := ht3.ins
          refine iteT (grp_app (f := 1) (n := RC.endNew R k) (k := k) g3 ?_ (fun e he => ?_) rfl (fun Q q => ⟨_, rfl, _, rfl, _, rfl, p, _, _, _, rfl, rfl, SqL.of hp, hix, a, dx, fs, rfl, e, a, R, _, n, rfl, ht3, hn, hen ▸ q⟩) (fun H' Q q => ⟨_, rfl, q⟩) fun H' g' => ⟨_, _, rfl, ?_⟩)
          · have := bumps_len ((((RC.keys R).take i).filter (RC.freeEnd R)).map fun k => (RC.endNew R k, k)) []
            simp only [List.length_nil] at this
            omega
          · have := bumps_entry_len e he
            omega
          · rw [if_pos rfl, List.map_append, RC.bumps_append]
            exact g'
    · rintro σ H2 ⟨v2, v3, rfl, g⟩
      rw [List.length_map, List.take_length] at g
      have g := g.base sH
      obtain ⟨E, g, hE⟩ := g
      have hE : E.map (fun e => (e.1, e.2.2)) = RC.treesRaw R := hE
      refine ⟨d, _, g.dat, trivial, fun od => ⟨_, rfl, d, od, rfl, .inl ⟨kvE E, upd_same, fun D hD => ?_⟩⟩⟩
      have hl40 : E.length ≤ 40 := by
        have := bumps_len (RC.treeRows R) []
        have h2 : E.length = (RC.treesRaw R).length := by rw [← hE, List.length_map]
        have h3 := ht.len
        have h4 : (RC.treeRows R).length ≤ R.length := by
          unfold RC.treeRows
          have h1 := List.length_filter_le (RC.freeEnd R) (RC.keys R)
          rw [RC.keys_len] at h1
          rw [List.length_map]
          exact h1
        unfold RC.treesRaw at h2
        simp only [List.length_nil] at *
        omega
      have nD : D ≠ d := fun z => by rw [z, upd_same] at hD; cases hD
      refine lc_grp (K := K) (fun e => some (dG (e.1, e.2.2))) hD upd_same (by omega) (fun _ => rfl) (fun e H3 QY QN he s2 hacc qy qn => yesI ?_) (fun H3 acc s2 hacc h => ?_)
      · have hd2 := s2 _ _ (upd_same (H := H2) (a := d) (o := .frz od (.dK (kvE E))))
        have ha := (g.at_ e he).2
        have nad : e.2.1 ≠ d := fun z => by
          have h1 := g.dat
          rw [← z, ha] at h1
          cases h1
        have ha2 : H3 e.2.1 = some (.lst (e.2.2.map V.int)) := s2 _ _ (by rw [upd_ne nad]; exact ha)
        refine ⟨_, rfl, _, rfl, _, rfl, d, _, rfl, dget_frz g.nk he hd2, _, _, rfl, .inl ⟨SqL.of ha2, fun t htt => ⟨(by show (2 : Nat) ≤ sizeLine; decide), fun t2 ht2 => ?_⟩⟩⟩
        obtain ⟨acc, hacc⟩ := hacc
        have s4 := (same_new (o := .tup (e.2.2.map V.int)) htt).trans (same_new (o := .tup [.int e.1, .ref t]) ht2)
        refine qy _ rfl _ _ s4 (dp_del (s4 _ _ hacc) (tupD_G _) (.tup (.inl (.inl upd_same)) (.cons (.int _) (.cons (Dp.same (same_new ht2) (Dp.ofT (.inl (.inl upd_same)))) .nil))))
      · have hd2 := s2 _ _ (upd_same (H := H2) (a := d) (o := .frz od (.dK (kvE E))))
        refine ⟨hd2, ?_⟩
        have hD3 : upd H3 d (.dK (kvE E)) D = some (.lst acc) := by rw [upd_ne nD]; exact hacc
        have hdata : E.filterMap (fun e => some (dG (e.1, e.2.2))) = (RC.treesRaw R).map dG := by
          rw [List.filterMap_eq_map', ← hE, List.map_map]
          rfl
        rw [hdata] at h
        have hdp2 : DpAll K (upd H3 d (.dK (kvE E))) acc ((RC.treesRaw R).map dG) := unlock_dp (tupDs_map (fun p => tupD_G p) _) nD hd2 h
        have sm : Same H (upd H3 d (.dK (kvE E))) := g.same.trans (same_unlock g.dat s2)
        refine ⟨D, acc, _, rfl, .inl (.inl (.inl hD3)), hdp2, alike_G, sortable_G, depth_G, fun p ys hp hys => ?_⟩
        exact q p ys _ (sm.trans (same_new hp)) upd_same (hys.same (same_new hp))
theorem ok_trees (T : TX K mg) : FnOk P w K mg base CX0 9 T.d_trees.f T.d_trees.fd ["table"] (spTup K T.cTable.C dTr) := by
  have G1 := ok_needT (P := P) (w := w) (base := base) T
  have G2 := ok_treesOf (P := P) (w := w) (base := base) T
  refine T.d_trees.F.ok sc_trees (fun vs H Q E h => ?_) (fun cdv A outer s H vs Q E hr h => ?_)
  · obtain ⟨a, R, rfl, _⟩ := h
    rfl
  · obtain ⟨a, R, rfl, ht, q⟩ := h
    refine ⟨_, pss_cons (ps_expr (pc T.d_need_table G1 (hr.mono (by decide)) (pa_cons (pv 0) pa_nil))) (pss_one (ps_ret (pbt call_tuple_of T.n_tuple bb_tuple (pa_cons (pc T.d_trees_of G2 hr (pa_cons (pv 0) pa_nil)) pa_nil)))), ?_⟩
    refine ⟨_, rfl, a, R, rfl, ht, _, rfl, a, R, rfl, ht, fun p ys H' s1 hp hd => ⟨p, ys, rfl, .inl ⟨SqL.of hp, fun l hl => q l _ (s1.trans (same_new hl)) (.tup (.inl (.inl upd_same)) (hd.same (same_new hl)))⟩⟩⟩
end RP

/-! KShp -/
/-! Shapes of data; == with an empty list, == of one datum. -/
namespace L2
open PySem PySem.Spec PyProof.Rows
/-- small plain data -/
def Shp (n : Nat) (d : PyData) : Prop := d.canLay0 = true ∧ d.depth ≤ n
theorem shp_all {n : Nat} : ∀ {ds : List PyData}, (∀ d ∈ ds, Shp n d) → PyData.canLayAll0 ds = true ∧ PyData.depthAll ds ≤ n
  | [], _ => by
    refine ⟨by rw [PyData.canLayAll0], ?_⟩
    rw [PyData.depthAll]
    exact Nat.zero_le _
  | d :: ds, h => by
    obtain ⟨h1, h2⟩ := shp_all fun e he => h e (List.mem_cons_of_mem _ he)
    obtain ⟨h3, h4⟩ := h d List.mem_cons_self
    refine ⟨by rw [PyData.canLayAll0, h3, h1]; rfl, ?_⟩
    rw [PyData.depthAll]
    exact Nat.max_le.mpr ⟨h4, h2⟩
theorem Shp.lst {n : Nat} {ds : List PyData} (h : ∀ d ∈ ds, Shp n d) : Shp (n + 1) (.list ds) := by
  obtain ⟨h1, h2⟩ := shp_all h
  refine ⟨by rw [PyData.canLay0]; exact h1, ?_⟩
  rw [PyData.depth]
  omega
theorem Shp.tup {n : Nat} {ds : List PyData} (h : ∀ d ∈ ds, Shp n d) : Shp (n + 1) (.tuple ds) := by
  obtain ⟨h1, h2⟩ := shp_all h
  refine ⟨by rw [PyData.canLay0]; exact h1, ?_⟩
  rw [PyData.depth]
  omega
theorem Shp.int {n : Nat} (i : Int) : Shp n (dI i) := ⟨by rw [PyData.canLay0], by rw [PyData.depth]; exact Nat.zero_le _⟩
theorem Shp.ints {n : Nat} (xs : List Int) : ∀ d ∈ xs.map dI, Shp n d := fun d hd => by
  obtain ⟨i, _, rfl⟩ := List.mem_map.mp hd
  exact .int i
theorem Shp.mono {n m : Nat} {d : PyData} (h : Shp n d) (l : n ≤ m) : Shp m d := ⟨h.1, Nat.le_trans h.2 l⟩
theorem Shp.T {n : Nat} (xs : List Int) : Shp (n + 1) (dT xs) := .tup (.ints xs)
theorem Shp.L {n : Nat} (xs : List Int) : Shp (n + 1) (dL xs) := .lst (.ints xs)
theorem Shp.Ts {n : Nat} (l : List (List Int)) : ∀ d ∈ l.map dT, Shp (n + 1) d := fun d hd => by
  obtain ⟨i, _, rfl⟩ := List.mem_map.mp hd
  exact .T i
theorem Shp.P {n : Nat} (p : Int × Int) : Shp (n + 1) (dP p) := .tup fun d hd => by
  simp only [List.mem_cons, List.not_mem_nil, or_false] at hd
  rcases hd with rfl | rfl
  · exact .int _
  · exact .int _
theorem Shp.sds {n : Nat} {ds : List PyData} (h : ∀ d ∈ ds, Shp n d) : ∀ d ∈ L2.sds ds, Shp n d := fun d hd => h d ((sds_perm ds).mem_iff.mp hd)
theorem Shp.ok {n : Nat} {d : PyData} (h : Shp n d) (hn : n ≤ 64 := by decide) : SeqAt.shaped d = true := by
  unfold SeqAt.shaped
  rw [h.1, decide_eq_true (Nat.le_trans h.2 hn)]
  rfl
theorem eqv_self {n : Nat} {d : PyData} (h : Shp n d) : PyData.eqv d d = true := PySem.SeqAt.eqv_refl d h.1
theorem eqv_nil (ds : List PyData) : PyData.eqv (.list ds) (.list []) = ds.isEmpty := by
  cases ds <;> simp [PyData.eqv, PyData.eqvAll]
theorem sds_isEmpty (ds : List PyData) : (sds ds).isEmpty = ds.isEmpty := by
  have := sds_len ds
  cases h : sds ds <;> cases g : ds <;> simp_all
/-- x == [] -/
theorem eq_nil {K : PySem.W.Frag} {n : Nat} {H : Hp} {p z : Addr} {ys : List V} {ds : List PyData} {Q : VK} (hp : H p = some (.lst ys)) (hd : DpAll K H ys ds) (hz : H z = none) (hs : ∀ d ∈ ds, Shp n d) (q : Q (.bl ds.isEmpty) (upd H z (.lst []))) (hn : n + 1 ≤ 64 := by decide) :
    rEqD K (.ref p) (.ref z) (upd H z (.lst [])) Q := by
  refine ⟨.list ds, .list [], .lst (SqL.of (by rw [upd_ne (ne_of_none hp hz)]; exact hp)) (hd.same (same_new hz)), .lst (SqL.of upd_same) .nil, (Shp.lst hs).ok hn, (Shp.lst (n := 0) (fun _ h => absurd h (List.not_mem_nil))).ok, ?_⟩
  rw [eqv_nil]
  exact q
theorem ne_nil {K : PySem.W.Frag} {n : Nat} {H : Hp} {p z : Addr} {ys : List V} {ds : List PyData} {Q : VK} (hp : H p = some (.lst ys)) (hd : DpAll K H ys ds) (hz : H z = none) (hs : ∀ d ∈ ds, Shp n d) (q : Q (.bl (!ds.isEmpty)) (upd H z (.lst []))) (hn : n + 1 ≤ 64 := by decide) :
    rNeD K (.ref p) (.ref z) (upd H z (.lst [])) Q := by
  refine ⟨.list ds, .list [], .lst (SqL.of (by rw [upd_ne (ne_of_none hp hz)]; exact hp)) (hd.same (same_new hz)), .lst (SqL.of upd_same) .nil, (Shp.lst hs).ok hn, (Shp.lst (n := 0) (fun _ h => absurd h (List.not_mem_nil))).ok, ?_⟩
  rw [eqv_nil]
  exact q
end L2

/-! KW10 -/
/-! Walks: is_free_of, factorial, chains_of, orders_of, passing_orders. -/
namespace RP
open PySem PySem.Spec PyProof.Rows L2
variable {P : Program} {w : World} {K : PySem.W.Frag} {mg : Str → Option Value} {base : Heap}
def spFree (C : Addr) : Sp := fun vs H Q _ => ∃ (a : Addr) (R : RC.Tab), vs = [.ref a] ∧ TabAt C H a R ∧ ∀ H', Same H H' → Q (.bl (decide (RC.Free R))) H'
theorem sc_free : FnScope ["table"] ["table"] (defScope sIsFreeOf) := ⟨rfl, rfl, rfl, by decide +kernel, rfl, by decide +kernel, by decide +kernel⟩
theorem dGs_empty (R : RC.Tab) : (dGs R).isEmpty = decide (RC.groupsRaw R = []) := by
  unfold dGs
  rw [sds_isEmpty]
  cases h : RC.groupsRaw R <;> simp
theorem rings_empty (R : RC.Tab) : ((RC.ringsOf R).map dT).isEmpty = decide (RC.ringsOf R = []) := by
  cases h : RC.ringsOf R <;> simp
theorem shp_gs (R : RC.Tab) : ∀ d ∈ dGs R, Shp 1 d := Shp.sds (Shp.Ts _)
theorem ok_free (T : TX K mg) : FnOk P w K mg base CX0 9 T.d_is_free_of.f T.d_is_free_of.fd ["table"] (spFree T.cTable.C) := by
  have G1 := ok_groupsOf (P := P) (w := w) (base := base) T
  have G2 := ok_ringsOf (P := P) (w := w) (base := base) T
  refine T.d_is_free_of.F.ok sc_free (fun vs H Q E h => ?_) (fun cdv A outer s H vs Q E hr h => ?_)
  · obtain ⟨a, R, rfl, _⟩ := h
    rfl
  · obtain ⟨a, R, rfl, ht, q⟩ := h
    refine ⟨_, pss_one (ps_ret (pe_and (pe_cmpR (op_eqD (by exact hr.units)) (pc T.d_groups_of G1 (hr.mono (by decide)) (pa_cons (pv 0) pa_nil)) (pe_lst pa_nil) (nomark _)) (pe_one (pe_cmpR (op_eqD (by exact hr.units)) (pc T.d_rings_of G2 hr (pa_cons (pv 0) pa_nil)) (pe_lst pa_nil) (nomark _))))), ?_⟩
    refine ⟨_, rfl, a, R, rfl, ht, fun p ys H1 s1 hp hd => ⟨Nat.zero_le _, fun z hz => eq_nil hp hd hz (shp_gs R) ?_⟩⟩
    rw [dGs_empty]
    by_cases h1 : RC.groupsRaw R = []
    · rw [decide_eq_true h1]
      refine ⟨true, rfl, ?_⟩
      have s2 := s1.trans (same_new (o := .lst []) hz)
      refine ⟨_, rfl, a, R, rfl, ht.same s2, fun p ys H1 s3 hp hd => ⟨Nat.zero_le _, fun z hz => eq_nil (n := 1) hp hd hz (Shp.Ts _) ?_⟩⟩
      rw [rings_empty]
      have := q _ ((s2.trans s3).trans (same_new (o := .lst []) hz))
      have e : decide (RC.Free R) = decide (RC.ringsOf R = []) := by
        unfold RC.Free
        simp [h1]
      rw [e] at this
      exact this
    · rw [decide_eq_false h1]
      have e : decide (RC.Free R) = false := decide_eq_false fun z => h1 z.1
      have := q _ (s1.trans (same_new (o := .lst []) hz))
      rw [e] at this
      exact ⟨false, rfl, this⟩

/-! ### factorial -/
def spFact : Sp := fun vs H Q _ => ∃ n : Nat, vs = [.int n] ∧ n ≤ 40 ∧ Q (.int (RC.fact n)) H
theorem sc_fact : FnScope ["many", "found", "number"] ["many"] (defScope sFactorial) := ⟨rfl, rfl, rfl, by decide +kernel, rfl, by decide +kernel, by decide +kernel⟩
theorem ok_fact (T : TX K mg) : FnOk P w K mg base CX0 1 T.d_factorial.f T.d_factorial.fd ["many"] spFact := by
  refine T.d_factorial.F.ok sc_fact (fun vs H Q E h => ?_) (fun cdv A outer s H vs Q E hr h => ?_)
  · obtain ⟨n, rfl, _⟩ := h
    rfl
  · obtain ⟨n, rfl, hn, q⟩ := h
    refine ⟨_, pss_cons (ps_set (i := 1) sc_fact.nd rfl (.inl rfl) pe_int)
      (pss_cons (ps_for PassesOwn.never rfl (pi_range2 rfl T.n_range (pa_cons pe_int (pa_cons (pe_op op_add (pv 0) pe_int) pa_nil))) (pg_name (i := 2) sc_fact.nd rfl (.inl rfl)) (pss_one (ps_aug (i := 1) sc_fact.nd rfl (.inl rfl) (pv 2) iop_mul)))
      (pss_one (ps_ret (pv 1)))), ?_⟩
    refine ⟨_, rfl, _, _, rfl, rfl, 2, (n : Int) + 1, rfl, ⟨by omega, by omega, by omega, by omega⟩, ?_⟩
    have e0 : ((n : Int) + 1 - 2).toNat = n - 1 := by omega
    show ∃ W, _
    rw [e0]
    refine for_range (lo := 2) (n := n - 1) (fun i σ H' => ∃ v, σ = [some (.int n), some (.int (RC.fact (i + 1))), v] ∧ H = H') ⟨none, rfl, rfl⟩ ?_ ?_
    · rintro i σ H' hi ⟨v, rfl, rfl⟩
      refine ⟨_, rfl, _, rfl, _, _, rfl, rfl, .inr ⟨by omega, by omega⟩, some (.int (2 + (i : Int))), ?_, rfl⟩
      have : (RC.fact (i + 1) : Int) * (2 + (i : Int)) = (RC.fact (i + 1 + 1) : Nat) := by
        show _ = (((i + 1 + 1) * RC.fact (i + 1) : Nat) : Int)
        rw [Int.natCast_mul, Int.mul_comm]
        congr 1
        omega
      show [some (V.int (n : Int)), some (V.int ((RC.fact (i + 1) : Int) * (2 + (i : Int)))), some (V.int (2 + (i : Int)))] = _
      rw [this]
    · rintro σ H' ⟨v, rfl, rfl⟩
      refine ⟨_, rfl, ?_⟩
      have : RC.fact (n - 1 + 1) = RC.fact n := by
        cases n with
        | zero => rfl
        | succ n => rfl
      rw [this]
      exact q

/-! ### chains_of, orders_of -/
theorem sc_chains : FnScope ["table", "key"] ["table"] (defScope sChainsOf) := ⟨rfl, rfl, rfl, by decide +kernel, rfl, by decide +kernel, by decide +kernel⟩
theorem ok_chains (T : TX K mg) : FnOk P w K mg base CX0 8 T.d_chains_of.f T.d_chains_of.fd ["table"] (spLst K T.cTable.C fun R => (RC.chainsOf R).map dL) := by
  have G1 := ok_keys (P := P) (w := w) (base := base) T
  have G2 := ok_path (P := P) (w := w) (base := base) T
  have G3 := ok_waitFor (P := P) (w := w) (base := base) T
  refine T.d_chains_of.F.ok sc_chains (fun vs H Q E h => ?_) (fun cdv A outer s H vs Q E hr h => ?_)
  · obtain ⟨a, R, rfl, _⟩ := h
    rfl
  · obtain ⟨a, R, rfl, ht, q⟩ := h
    refine ⟨_, pss_one (ps_ret (pe_lc (own := [("key", 1)]) (g := gName 1) (te := tCall (spPath T.cTable.C) [] E0 (tCons (tVar 0) (tCons (tVar 1) tNil))) (tt := tTest (tOp (rEqD K) (tCall (spWaitFor K T.cTable.C) [] E0 (tCons (tVar 0) (tCons (tVar 1) tNil))) (tLst tNil))) rfl sc_chains.nd
      (pi_list (pc T.d_keys_of G1 (hr.mono (by decide)) (pa_cons (pv 0) pa_nil))) (blkOk_by (N := ["table", "key"]) (sc := defScope sChainsOf) (by decide +kernel)) (fun _ _ _ _ _ => pg_name (i := 1) sc_chains.nd rfl (Or.inl rfl))
      (fun _ _ _ _ _ => pts_one (pt_cmpR (op_eqD (by exact hr.units)) (pc T.d_waiting_for G3 (hr.mono (by decide)) (pa_cons (pv 0) (pa_cons (pv 1) pa_nil))) (pe_lst pa_nil) (nomark _))) (fun _ _ _ _ _ => pc T.d_path_of G2 hr (pa_cons (pv 0) (pa_cons (pv 1) pa_nil))))), ?_⟩
    refine ⟨_, rfl, a, R, rfl, ht, fun kl H1 hkl s1 hk => ⟨kl, rfl, ⟨_, SqL.of hk⟩, fun D hD => ?_⟩⟩
    refine lc_ints (K := K) walk_list (fun k => if decide (RC.waitsFor R k = []) = true then some (dL (RC.path R k)) else none) hD (fun H' s => SqL.of (s _ _ hk)) (by rw [RC.keys_len]; have := ht.len; omega) (fun _ => rfl) (fun k H2 QY QN hkk s2 hacc qy qn => ?_) (fun H' acc s2 hacc h => ?_)
    · have ht2 := ht.same (s1.trans s2)
      refine ⟨_, rfl, _, rfl, a, R, k, rfl, ht2, fun p H3 hp0 s3 hp => ⟨Nat.zero_le _, fun z hz => eq_nil (n := 0) hp (dpAll_ints _) hz (Shp.ints _) ⟨_, rfl, ?_⟩⟩⟩
      have e : ((RC.waitsFor R k).map PyData.int).isEmpty = decide (RC.waitsFor R k = []) := by
        cases RC.waitsFor R k <;> simp
      rw [e]
      have s4 := s3.trans (same_new (o := .lst []) hz)
      by_cases h1 : RC.waitsFor R k = []
      · rw [decide_eq_true h1]
        refine iteT ⟨_, rfl, _, rfl, a, R, k, rfl, ht2.same s4, hkk, fun p2 H5 hp2 s5 hp5 => ?_⟩
        obtain ⟨acc, hacc⟩ := hacc
        have ne : p2 ≠ D := (ne_of_none (s4 _ _ hacc) hp2).symm
        exact qy _ (by rw [decide_eq_true h1, if_pos rfl]) _ _ (s4.trans s5) (.lst (SqL.of (by rw [del_ne ne]; exact hp5)) (dpAll_ints _))
      · rw [decide_eq_false h1]
        exact iteF (qn (by rw [decide_eq_false h1, if_neg Bool.false_ne_true]) _ s4)
    · refine q D acc H' (s1.trans s2) hacc ?_
      rw [filterMap_if (c := fun k => decide (RC.waitsFor R k = [])) (f := fun k => dL (RC.path R k))] at h
      show DpAll K H' acc ((RC.chainsOf R).map dL)
      unfold RC.chainsOf
      rw [List.map_map]
      exact h.same del_sub
def spOrders (C : Addr) : Sp := fun vs H Q _ => ∃ (a : Addr) (R : RC.Tab), vs = [.ref a] ∧ TabAt C H a R ∧ ∀ H', Same H H' → Q (.int (RC.ordersOf R)) H'
theorem sc_orders : FnScope ["table", "found", "chain"] ["table"] (defScope sOrdersOf) := ⟨rfl, rfl, rfl, by decide +kernel, rfl, by decide +kernel, by decide +kernel⟩
theorem sc_passing : FnScope ["table"] ["table"] (defScope sPassingOrders) := ⟨rfl, rfl, rfl, by decide +kernel, rfl, by decide +kernel, by decide +kernel⟩
theorem fact_lt : ∀ n, n ≤ 40 → RC.fact n < 2 ^ 200 := fun n hn => by
  have h : RC.fact 40 < 2 ^ 200 := by decide +kernel
  exact Nat.lt_of_le_of_lt (Nat.le_of_dvd (RC.fact_pos 40) (RC.fact_mono_dvd hn)) h
theorem ok_orders (T : TX K mg) : FnOk P w K mg base CX0 10 T.d_orders_of.f T.d_orders_of.fd ["table"] (spOrders T.cTable.C) := by
  have G1 := ok_free (P := P) (w := w) (base := base) T
  have G2 := ok_fact (P := P) (w := w) (base := base) T
  have G3 := ok_chains (P := P) (w := w) (base := base) T
  have G4 := ok_len (P := P) (w := w) (base := base) T
  refine T.d_orders_of.F.ok sc_orders (fun vs H Q E h => ?_) (fun cdv A outer s H vs Q E hr h => ?_)
  · obtain ⟨a, R, rfl, _⟩ := h
    rfl
  · obtain ⟨a, R, rfl, ht, q⟩ := h
    refine ⟨_, pss_cons (ps_if (pt_not (pt_val (pc T.d_is_free_of G1 hr (pa_cons (pv 0) pa_nil)))) (pss_one (ps_ret pe_int)) pss_nil)
      (pss_cons (ps_set (i := 1) sc_orders.nd rfl (.inl rfl) (pc T.d_factorial G2 (hr.mono (by decide)) (pa_cons (pb (RX.call_olen T.mTable_len.m G4 (hr.mono (by decide)) T.mTable_len.b pass0) T.n_len bb_len (pa_cons (pv 0) pa_nil)) pa_nil)))
      (pss_cons (ps_for PassesOwn.never rfl (pi_list (pc T.d_chains_of G3 (hr.mono (by decide)) (pa_cons (pv 0) pa_nil))) (pg_name (i := 2) sc_orders.nd rfl (.inl rfl))
        (pss_one (ps_aug (i := 1) sc_orders.nd rfl (.inl rfl) (pc T.d_factorial G2 (hr.mono (by decide)) (pa_cons (pb call_len_seq T.n_len bb_len (pa_cons (pv 2) pa_nil)) pa_nil)) iop_fdivW)))
      (pss_one (ps_ret (pv 1))))), ?_⟩
    refine ⟨_, rfl, a, R, rfl, ht, fun H1 s1 => ⟨_, rfl, ?_⟩⟩
    have h40 := ht.len
    by_cases hf : RC.Free R
    · rw [decide_eq_true hf]
      have ht1 := ht.same s1
      obtain ⟨dx, fs, e⟩ := ht1.ins
      have e0 : RC.ordersOf R = RC.divs (RC.fact R.length) (RC.chainsOf R) := if_pos hf
      refine iteF ⟨_, rfl, a, dx, fs, rfl, e, a, R, rfl, ht1, _, rfl, ⟨by omega, by omega⟩, R.length, rfl, h40, ?_⟩
      refine ⟨_, rfl, a, R, rfl, ht1, fun p ys H2 s2 hp hd => ⟨p, rfl, ⟨_, SqL.of hp⟩, ?_⟩⟩
      have hyl : ys.length = (RC.chainsOf R).length := by rw [hd.len, List.length_map]
      refine for_list (K := K) (a := p) (xs := ys) (fun i σ H' => ∃ v, σ = [some (.ref a), some (.int (RC.divs (RC.fact R.length) ((RC.chainsOf R).take i))), v] ∧ H2 = H') ⟨none, rfl, rfl⟩ (fun i σ H' _ ⟨_, _, e⟩ => e ▸ SqL.of hp) ?_ ?_
      · rintro i x σ H' hi ⟨v, rfl, rfl⟩
        obtain ⟨d, e1, e2⟩ := hd.get hi
        rw [List.getElem?_map] at e1
        cases e3 : (RC.chainsOf R)[i]? with
        | none =>
          rw [e3] at e1
          cases e1
        | some c =>
          rw [e3] at e1
          cases e1
          obtain ⟨b, rfl, hb⟩ := e2.intl_inv
          have hc : c.length ≤ 40 := by
            have hm := List.mem_of_getElem? e3
            unfold RC.chainsOf at hm
            obtain ⟨k, hk, rfl⟩ := List.mem_map.mp hm
            have := (RC.path_len (List.mem_filter.mp hk).1 h40).2
            omega
          refine ⟨_, rfl, _, rfl, b, _, rfl, .inl hb, c.length, by simp, hc, _, _, rfl, rfl, wide_div (b := 200) (by have := RC.fact_pos c.length; omega) (by rw [Int.natAbs_natCast]; exact fact_lt _ hc) (by decide) (by decide), some (.ref b), ?_, rfl⟩
          rw [take_get e3]
          show [some (V.ref a), some (V.int ((RC.divs (RC.fact R.length) ((RC.chainsOf R).take i) : Int) / (RC.fact c.length : Int))), some (V.ref b)] = _
          have : RC.divs (RC.fact R.length) ((RC.chainsOf R).take i ++ [c]) = RC.divs (RC.fact R.length) ((RC.chainsOf R).take i) / RC.fact c.length := by
            unfold RC.divs
            rw [List.foldl_append]
            rfl
          rw [this, Int.natCast_ediv]
      · rintro σ H' ⟨v, rfl, rfl⟩
        refine ⟨_, rfl, ?_⟩
        rw [hyl, List.take_length, ← e0]
        exact q H2 (s1.trans s2)
    · rw [decide_eq_false hf]
      have e0 : RC.ordersOf R = 0 := if_neg hf
      have := q H1 s1
      rw [e0] at this
      exact iteT this
theorem ok_passing (T : TX K mg) : FnOk P w K mg base CX0 11 T.d_passing_orders.f T.d_passing_orders.fd ["table"] (spOrders T.cTable.C) := by
  have G1 := ok_needT (P := P) (w := w) (base := base) T
  have G2 := ok_orders (P := P) (w := w) (base := base) T
  refine T.d_passing_orders.F.ok sc_passing (fun vs H Q E h => ?_) (fun cdv A outer s H vs Q E hr h => ?_)
  · obtain ⟨a, R, rfl, _⟩ := h
    rfl
  · obtain ⟨a, R, rfl, ht, q⟩ := h
    refine ⟨_, pss_cons (ps_expr (pc T.d_need_table G1 (hr.mono (by decide)) (pa_cons (pv 0) pa_nil))) (pss_one (ps_ret (pc T.d_orders_of G2 hr (pa_cons (pv 0) pa_nil)))), ?_⟩
    exact ⟨_, rfl, a, R, rfl, ht, _, rfl, a, R, rfl, ht, q⟩
end RP

/-! KW11 -/
/-! Walks: ready, first_order. -/
namespace RP
open PySem PySem.Spec PyProof.Rows L2
variable {P : Program} {w : World} {K : PySem.W.Frag} {mg : Str → Option Value} {base : Heap}
def spReady (C : Addr) : Sp := fun vs H Q _ => ∃ (a dn : Addr) (R : RC.Tab) (o : List Int), vs = [.ref a, .ref dn] ∧ TabAt C H a R ∧ H dn = some (.lst (o.map V.int)) ∧ ∀ p H', Same H H' → H' p = some (.lst ((RC.readyOf R o).map V.int)) → Q (.ref p) H'
theorem sc_ready : FnScope ["table", "done", "found", "key", "row"] ["table", "done"] (defScope sReady) := ⟨rfl, rfl, rfl, by decide +kernel, rfl, by decide +kernel, by decide +kernel⟩
def isR (R : RC.Tab) (o : List Int) (k : Int) : Bool := !decide (k ∈ o) && (match RC.waited R k with
  | some r => decide (r ∈ o)
  | none => true)
theorem ok_ready (T : TX K mg) : FnOk P w K mg base CX0 7 T.d_ready.f T.d_ready.fd ["table", "done"] (spReady T.cTable.C) := by
  have G1 := ok_keys (P := P) (w := w) (base := base) T
  have G2 := ok_waited (P := P) (w := w) (base := base) T
  refine T.d_ready.F.ok sc_ready (fun vs H Q E h => ?_) (fun cdv A outer s H vs Q E hr h => ?_)
  · obtain ⟨a, dn, R, o, rfl, _⟩ := h
    rfl
  · obtain ⟨a, dn, R, o, rfl, ht, hdn, q⟩ := h
    refine ⟨_, pss_cons (ps_set (i := 2) sc_ready.nd rfl (.inl rfl) (pe_lst pa_nil))
      (pss_cons (ps_for PassesOwn.never rfl (pi_list (pc T.d_keys_of G1 (hr.mono (by decide)) (pa_cons (pv 0) pa_nil))) (pg_name (i := 3) sc_ready.nd rfl (.inl rfl))
        (pss_cons (ps_set (i := 4) sc_ready.nd rfl (.inl rfl) (pc T.d_waited G2 hr (pa_cons (pv 0) (pa_cons (pv 3) pa_nil))))
        (pss_one (ps_if (pw_and (pt_cmpR op_notIn_seq (pv 3) (pv 1) (by with_unfolding_all rfl)) (pw_and1 (pw_or (pt_cmp (pc_isN (pv 4))) (pw_or1 (pt_cmpR op_in_seq (pv 4) (pv 1) (by with_unfolding_all rfl)))).pt)).pt
          (pss_one (ps_expr (pe_bm PySem.F.plainAttrs_list PySem.F.slot_list_append PySem.F.type_list_append mt_append (pv 2) (pa_cons (pv 3) pa_nil)))) pss_nil))))
      (pss_one (ps_ret (pv 2)))), ?_⟩
    refine ⟨Nat.zero_le _, fun l hl => ?_⟩
    have s0 := same_new (o := .lst []) hl
    refine ⟨_, rfl, a, R, rfl, ht.same s0, fun kl H1 hkl s1 hk => ⟨kl, rfl, ⟨_, SqL.of hk⟩, ?_⟩⟩
    have nkl : kl ≠ l := fun e => by rw [e, upd_same] at hkl; cases hkl
    refine for_list (K := K) (a := kl) (xs := (RC.keys R).map V.int) (fun i σ H' => ∃ v3 v4, σ = [some (.ref a), some (.ref dn), some (.ref l), v3, v4] ∧ Same H H' ∧ H' kl = some (.lst ((RC.keys R).map V.int)) ∧ H' l = some (.lst ((((RC.keys R).take i).filter (isR R o)).map V.int)))
      ⟨none, none, rfl, s0.trans s1, hk, s1 _ _ upd_same⟩ (fun i σ H' _ ⟨_, _, _, _, h, _⟩ => SqL.of h) ?_ ?_
    · rintro i x σ H2 hi ⟨v3, v4, rfl, s2, hk2, hl2⟩
      rw [List.getElem?_map] at hi
      cases e3 : (RC.keys R)[i]? with
      | none =>
        rw [e3] at hi
        cases hi
      | some k =>
        rw [e3] at hi
        cases hi
        have hkk := List.mem_of_getElem? e3
        have etk : (((RC.keys R).take (i + 1)).filter (isR R o)) = ((RC.keys R).take i).filter (isR R o) ++ (if isR R o k = true then [k] else []) := by
          rw [take_get e3, List.filter_append, List.filter_cons, List.filter_nil]
        rw [etk]
        have hdn2 := s2 _ _ hdn
        have no : isR R o k = false → ∃ v3 v4, ([some (.ref a), some (.ref dn), some (.ref l), some (.int k), some (oV (RC.waited R k))] : L2.St) = [some (.ref a), some (.ref dn), some (.ref l), v3, v4] ∧ Same H H2 ∧ H2 kl = some (.lst ((RC.keys R).map V.int)) ∧ H2 l = some (.lst ((((RC.keys R).take i).filter (isR R o) ++ (if isR R o k = true then [k] else [])).map V.int)) := fun e => by
          rw [e, if_neg Bool.false_ne_true, List.append_nil]
          exact ⟨_, _, rfl, s2, hk2, hl2⟩
        have hsz : ((((RC.keys R).take i).filter (isR R o)).map V.int).length < sizeLine := by
          have h1 := List.length_filter_le (isR R o) ((RC.keys R).take i)
          have h2 : ((RC.keys R).take i).length ≤ (RC.keys R).length := by rw [List.length_take]; omega
          rw [RC.keys_len] at h2
          rw [List.length_map]
          exact small1000 (by have := ht.len; omega)
        have yes : isR R o k = true → ∃ v3 v4, ([some (.ref a), some (.ref dn), some (.ref l), some (.int k), some (oV (RC.waited R k))] : L2.St) = [some (.ref a), some (.ref dn), some (.ref l), v3, v4] ∧ Same H (upd H2 l (.lst ((((RC.keys R).take i).filter (isR R o)).map V.int ++ [.int k]))) ∧ upd H2 l (.lst ((((RC.keys R).take i).filter (isR R o)).map V.int ++ [.int k])) kl = some (.lst ((RC.keys R).map V.int)) ∧
            upd H2 l (.lst ((((RC.keys R).take i).filter (isR R o)).map V.int ++ [.int k])) l = some (.lst ((((RC.keys R).take i).filter (isR R o) ++ (if isR R o k = true then [k] else [])).map V.int)) := fun e => by
          refine ⟨_, _, rfl, s2.mut hl, by rw [upd_ne nkl]; exact hk2, ?_⟩
          rw [upd_same, e, if_pos rfl, List.map_append]
          rfl
        refine ⟨_, rfl, _, rfl, a, R, k, rfl, ht.same s2, hkk, _, rfl, _, rfl, dn, _, rfl, .inl (SqL.of hdn2), rfl, flat_ints o, !inV (.int k) (o.map V.int), rfl, ?_⟩
        rw [inV_ints]
        by_cases h1 : k ∈ o
        · rw [decide_eq_true h1]
          refine iteF (iteF (no ?_))
          unfold isR
          rw [decide_eq_true h1]
          rfl
        · have e1 : isR R o k = (match RC.waited R k with
            | some r => decide (r ∈ o)
            | none => true) := by
            unfold isR
            rw [decide_eq_false h1]
            rfl
          rw [decide_eq_false h1]
          refine iteT ?_
          cases ew : RC.waited R k with
          | none =>
            rw [ew] at e1 yes
            exact ⟨_, rfl, true, rfl, iteT (iteT ⟨_, rfl, .inl ⟨rfl, _, SqL.of hl2⟩, _, rfl, l, _, _, rfl, rfl, hl2, hsz, yes e1⟩)⟩
          | some r =>
            rw [ew] at e1 yes no
            refine ⟨_, rfl, false, rfl, iteF ⟨_, rfl, _, rfl, dn, _, rfl, .inl (SqL.of hdn2), rfl, flat_ints o, inV (.int r) (o.map V.int), rfl, ?_⟩⟩
            rw [inV_ints]
            by_cases h2 : r ∈ o
            · rw [decide_eq_true h2]
              exact iteT ⟨_, rfl, .inl ⟨rfl, _, SqL.of hl2⟩, _, rfl, l, _, _, rfl, rfl, hl2, hsz, yes (e1.trans (decide_eq_true h2))⟩
            · rw [decide_eq_false h2]
              exact iteF (no (e1.trans (decide_eq_false h2)))
    · rintro σ H2 ⟨v3, v4, rfl, s2, hk2, hl2⟩
      rw [List.length_map, List.take_length] at hl2
      have e : RC.readyOf R o = (RC.keys R).filter (isR R o) := by
        unfold RC.readyOf
        refine List.filter_congr fun k _ => ?_
        unfold isR
        cases RC.waited R k <;> rfl
      exact ⟨_, rfl, q l H2 s2 (e ▸ hl2)⟩

/-! ### first_order -/
theorem perm_of_nodup {l S : List Int} (nl : l.Nodup) (nS : S.Nodup) (sub : ∀ x ∈ l, x ∈ S) (hle : S.length ≤ l.length) : l.Perm S := by
  refine (List.perm_ext_iff_of_nodup nl nS).mpr fun a => ⟨sub a, fun ha => Classical.byContradiction fun hn => ?_⟩
  have h1 : (a :: l).Nodup := List.nodup_cons.mpr ⟨hn, nl⟩
  have h2 := RC.nodup_len h1 fun x hx => by
    rcases List.mem_cons.mp hx with rfl | hx
    · exact ha
    · exact sub x hx
  rw [List.length_cons] at h2
  omega
def spFirst (K : PySem.W.Frag) (C : Addr) : Sp := fun vs H Q _ => ∃ (a : Addr) (R : RC.Tab), vs = [.ref a] ∧ TabAt C H a R ∧ RC.ringsOf R = [] ∧ ∀ p o H', Same H H' → o.Perm (RC.keys R) → RC.Passes R o → Dp K H' (.ref p) (dT o) → Q (.ref p) H'
theorem sc_first : FnScope ["table", "done"] ["table"] (defScope sFirstOrder) := ⟨rfl, rfl, rfl, by decide +kernel, rfl, by decide +kernel, by decide +kernel⟩
theorem ok_first (T : TX K mg) : FnOk P w K mg base CX0 8 T.d_first_order.f T.d_first_order.fd ["table"] (spFirst K T.cTable.C) := by
  have G1 := ok_ready (P := P) (w := w) (base := base) T
  have G2 := ok_len (P := P) (w := w) (base := base) T
  refine T.d_first_order.F.ok sc_first (fun vs H Q E h => ?_) (fun cdv A outer s H vs Q E hr h => ?_)
  · obtain ⟨a, R, rfl, _⟩ := h
    rfl
  · obtain ⟨a, R, rfl, ht, hrg, q⟩ := h
    refine ⟨_, pss_cons (ps_set (i := 1) sc_first.nd rfl (.inl rfl) (pe_lst pa_nil))
      (pss_cons (ps_while PassesOwn.never (pt_cmpR op_lt (pb call_len_seq T.n_len bb_len (pa_cons (pv 1) pa_nil)) (pb (RX.call_olen T.mTable_len.m G2 (hr.mono (by decide)) T.mTable_len.b pass0) T.n_len bb_len (pa_cons (pv 0) pa_nil)) (nomark _))
        (pss_one (ps_expr (pe_bm PySem.F.plainAttrs_list PySem.F.slot_list_append PySem.F.type_list_append mt_append (pv 1) (pa_cons (pe_ix ix_list (pc T.d_ready G1 hr (pa_cons (pv 0) (pa_cons (pv 1) pa_nil))) pe_int (fun _ _ => rfl)) pa_nil)))))
      (pss_one (ps_ret (pbt call_tuple_of T.n_tuple bb_tuple (pa_cons (pv 1) pa_nil))))), ?_⟩
    refine ⟨Nat.zero_le _, fun l hl => ?_⟩
    have s0 := same_new (o := .lst []) hl
    have h40 := ht.len
    refine ⟨fun m σ H' => ∃ o : List Int, σ = [some (.ref a), some (.ref l)] ∧ Same H H' ∧ H' l = some (.lst (o.map V.int)) ∧ o.Nodup ∧ (∀ x ∈ o, x ∈ RC.keys R) ∧ RC.Passes R o ∧ o.length + m = R.length, ⟨R.length, [], rfl, s0, upd_same, List.nodup_nil, fun x hx => absurd hx List.not_mem_nil, RC.Passes.nil, Nat.zero_add _⟩, ?_⟩
    rintro m σ H1 ⟨o, rfl, s1, hl1, nd, sub, hp, hm⟩
    have ht1 := ht.same s1
    obtain ⟨dx, fs, e⟩ := ht1.ins
    refine ⟨_, rfl, l, _, rfl, .inl (SqL.of hl1), _, rfl, a, dx, fs, rfl, e, a, R, rfl, ht1, _, rfl, ⟨by omega, by omega⟩, _, _, rfl, rfl, _, rfl, ?_⟩
    rw [List.length_map]
    by_cases h : o.length < R.length
    · have e1 : decide (((o.length : Nat) : Int) < ((R.length : Nat) : Int)) = true := decide_eq_true (by omega)
      rw [e1]
      cases m with
      | zero => omega
      | succ m =>
        refine iteT ⟨_, fun σ' H' z => ⟨m, Nat.lt_succ_self m, z⟩, _, rfl, .inl ⟨rfl, _, SqL.of hl1⟩, _, rfl, _, rfl, a, l, R, o, rfl, ht1, hl1, fun p H2 s2 hp2 => ?_⟩
        have hne := RC.ready_ne ht.nodup h40 hrg h
        cases er : RC.readyOf R o with
        | nil => exact absurd er hne
        | cons y ys =>
          rw [er] at hp2
          have hy := RC.ready_mem (R := R) (done := o) (y := y) (by rw [er]; exact List.mem_cons_self)
          refine ⟨p, _, _, .int y, rfl, rfl, SqL.of hp2, atI_nat (j := 0) rfl, l, _, _, rfl, rfl, s2 _ _ hl1, by rw [List.length_map]; exact small1000 (by omega), o ++ [y], rfl, (s1.trans s2).mut hl, ?_, ?_, ?_, hp.snoc hy.2.2, ?_⟩
          · rw [upd_same, List.map_append]
            rfl
          · refine List.nodup_append.mpr ⟨nd, by simp, fun x hx z hz => ?_⟩
            have : z = y := by simpa using hz
            rw [this]
            exact fun e => hy.2.1 (e ▸ hx)
          · intro x hx
            rcases List.mem_append.mp hx with hx | hx
            · exact sub x hx
            · have : x = y := by simpa using hx
              rw [this]
              exact hy.1
          · rw [List.length_append, List.length_singleton]
            omega
    · have e1 : decide (((o.length : Nat) : Int) < ((R.length : Nat) : Int)) = false := decide_eq_false (by omega)
      rw [e1]
      refine iteF ⟨_, rfl, l, _, rfl, .inl ⟨SqL.of hl1, fun t htt => ?_⟩⟩
      exact q t o _ (s1.trans (same_new htt)) (perm_of_nodup nd ht.nodup sub (by rw [RC.keys_len]; omega)) hp (Dp.ofT (.inl (.inl upd_same)))
end RP

/-! KW12 -/
/-! Walks: verdict, passes, is_order, need_order, shows_verdict. -/
namespace RP
open PySem PySem.Spec PyProof.Rows L2
variable {P : Program} {w : World} {K : PySem.W.Frag} {mg : Str → Option Value} {base : Heap}
theorem sl_head {H : Hp} {t : Addr} {xs : List V} {Q : VK} {n : Nat} (ht : SqT K H t xs) (q : ∀ p H', Same H H' → SqT K H' p (xs.take n) → Q (.ref p) H') : rSlA K (.ref t) none (some (n : Int)) H Q := by
  refine ⟨t, xs, rfl, ht, fun e => ?_, fun _ p hp => ?_⟩
  · refine q t H (fun _ _ h => h) ?_
    have h := e.2
    rw [HT.sIx_nat] at h
    rw [List.take_of_length_le (by omega)]
    exact ht
  · refine q p _ (same_new hp) (.inl (.inl ?_))
    rw [upd_same]
    unfold cutV
    rw [HT.sIx_nat, HT.sIx_none, List.drop_zero, Nat.sub_zero]
    congr 2
    by_cases h : n ≤ xs.length
    · rw [Nat.min_eq_left h]
    · rw [Nat.min_eq_right (by omega), List.take_of_length_le (Nat.le_refl _), List.take_of_length_le (by omega)]
def spVerdict (K : PySem.W.Frag) (C : Addr) : Sp := fun vs H Q _ => ∃ (a : Addr) (R : RC.Tab), vs = [.ref a] ∧ TabAt C H a R ∧ ∀ p wd x H', Same H H' → H' p = some (.tup [.str wd, x]) → (RC.Free R → wd = "order" ∧ ∃ o, Dp K H' x (dT o) ∧ o.Perm (RC.keys R) ∧ RC.Passes R o) → (¬ RC.Free R → wd ≠ "order") → Q (.ref p) H'
theorem sc_verdict : FnScope ["table", "groups", "rings"] ["table"] (defScope sVerdict) := ⟨rfl, rfl, rfl, by decide +kernel, rfl, by decide +kernel, by decide +kernel⟩
theorem ok_verdict (T : TX K mg) : FnOk P w K mg base CX0 9 T.d_verdict.f T.d_verdict.fd ["table"] (spVerdict K T.cTable.C) := by
  have G0 := ok_needT (P := P) (w := w) (base := base) T
  have G1 := ok_groupsOf (P := P) (w := w) (base := base) T
  have G2 := ok_ringsOf (P := P) (w := w) (base := base) T
  have G3 := ok_first (P := P) (w := w) (base := base) T
  refine T.d_verdict.F.ok sc_verdict (fun vs H Q E h => ?_) (fun cdv A outer s H vs Q E hr h => ?_)
  · obtain ⟨a, R, rfl, _⟩ := h
    rfl
  · obtain ⟨a, R, rfl, ht, q⟩ := h
    refine ⟨_, pss_cons (ps_expr (pc T.d_need_table G0 (hr.mono (by decide)) (pa_cons (pv 0) pa_nil)))
      (pss_cons (ps_par (i := 1) (j := 2) rfl sc_verdict.nd rfl rfl (by decide) rfl rfl (pa_cons (pc T.d_groups_of G1 (hr.mono (by decide)) (pa_cons (pv 0) pa_nil)) (pa_cons (pc T.d_rings_of G2 hr (pa_cons (pv 0) pa_nil)) pa_nil)) (by rfl))
      (pss_cons (ps_if (pt_cmpR (op_neD (by exact hr.units)) (pv 1) (pe_lst pa_nil) (nomark _)) (pss_one (ps_ret (pe_tup (pa_cons pe_str (pa_cons (pe_slice sl_tupA (pe_ix ix_list (pv 1) pe_int (fun _ _ => rfl)) po_none (po_some pe_int)) pa_nil))))) pss_nil)
      (pss_cons (ps_if (pt_cmpR (op_neD (by exact hr.units)) (pv 2) (pe_lst pa_nil) (nomark _)) (pss_one (ps_ret (pe_tup (pa_cons pe_str (pa_cons (pe_ix ix_list (pv 2) pe_int (fun _ _ => rfl)) pa_nil))))) pss_nil)
      (pss_one (ps_ret (pe_tup (pa_cons pe_str (pa_cons (pc T.d_first_order G3 hr (pa_cons (pv 0) pa_nil)) pa_nil)))))))), ?_⟩
    refine ⟨_, rfl, a, R, rfl, ht, _, rfl, a, R, rfl, ht, fun p1 ys1 H1 s1 hp1 hd1 => ⟨_, rfl, a, R, rfl, ht.same s1, fun p2 ys2 H2 s2 hp2 hd2 => ⟨_, _, rfl, ?_⟩⟩⟩
    have hp1' := s2 _ _ hp1
    have hd1' := hd1.same s2
    refine ⟨_, rfl, Nat.zero_le _, fun z hz => ne_nil hp1' hd1' hz (shp_gs R) ⟨_, rfl, ?_⟩⟩
    rw [dGs_empty]
    have s3 : Same H2 (upd H2 z (.lst [])) := same_new hz
    have sA := (s1.trans s2).trans s3
    by_cases h1 : RC.groupsRaw R = []
    · rw [decide_eq_true h1]
      refine iteF ?_
      have hp2' := s3 _ _ hp2
      have hd2' := hd2.same s3
      refine ⟨_, rfl, Nat.zero_le _, fun z2 hz2 => ne_nil (n := 1) hp2' hd2' hz2 (Shp.Ts _) ⟨_, rfl, ?_⟩⟩
      have s4 : Same (upd H2 z (.lst [])) (upd (upd H2 z (.lst [])) z2 (.lst [])) := same_new hz2
      rw [rings_empty]
      by_cases h2 : RC.ringsOf R = []
      · rw [decide_eq_true h2]
        refine iteF ⟨_, rfl, a, R, rfl, ht.same (sA.trans s4), h2, fun p o H5 s5 hperm hpass hd => ⟨by show (2 : Nat) ≤ sizeLine; decide, fun t htt => ?_⟩⟩
        exact q t _ _ _ (((sA.trans s4).trans s5).trans (same_new htt)) upd_same (fun _ => ⟨rfl, o, hd.same (same_new htt), hperm, hpass⟩) fun z => absurd ⟨h1, h2⟩ z
      · rw [decide_eq_false h2]
        have nf : ¬ RC.Free R := fun z => h2 z.2
        cases er : RC.ringsOf R with
        | nil => exact absurd er h2
        | cons g gs =>
          rw [er] at hd2'
          cases ys2 with
          | nil => cases hd2'
          | cons y ys2 =>
            refine iteT ⟨_, rfl, p2, _, _, y, rfl, rfl, SqL.of (s4 _ _ hp2'), atI_nat (j := 0) rfl, by show (2 : Nat) ≤ sizeLine; decide, fun t htt => ?_⟩
            exact q t _ _ _ ((sA.trans s4).trans (same_new htt)) upd_same (fun z => absurd z nf) fun _ => by decide
    · rw [decide_eq_false h1]
      have nf : ¬ RC.Free R := fun z => h1 z.1
      have hne : dGs R ≠ [] := fun e => h1 (by have := dGs_empty R; rw [e] at this; exact of_decide_eq_true this.symm)
      have hd1'' := hd1'.same s3
      cases ys1 with
      | nil =>
        cases hh : dGs R with
        | nil => exact absurd hh hne
        | cons d ds =>
          rw [hh] at hd1''
          cases hd1''
      | cons y ys1 =>
        cases hh : dGs R with
        | nil => exact absurd hh hne
        | cons d ds =>
          rw [hh] at hd1''
          cases hd1'' with
          | cons hy _ =>
            have hdm : d ∈ (RC.groupsRaw R).map dT := (sds_perm _).mem_iff.mp (by show d ∈ dGs R; rw [hh]; exact List.mem_cons_self)
            obtain ⟨g, hg, rfl⟩ := List.mem_map.mp hdm
            obtain ⟨b, rfl, hb⟩ := hy.ints_inv
            refine iteT ⟨_, rfl, p1, _, _, .ref b, rfl, rfl, SqL.of (s3 _ _ hp1'), atI_nat (j := 0) rfl, 2, rfl, sl_head (n := 2) hb fun p H5 s5 hp5 => ⟨by show (2 : Nat) ≤ sizeLine; decide, fun t htt => ?_⟩⟩
            exact q t _ _ _ ((sA.trans s5).trans (same_new htt)) upd_same (fun z => absurd z nf) fun _ => by decide
end RP

/-! KW13 -/
/-! Walks: passes, is_order, need_order, shows_verdict. -/
namespace RP
open PySem PySem.Spec PyProof.Rows L2
variable {P : Program} {w : World} {K : PySem.W.Frag} {mg : Str → Option Value} {base : Heap}
theorem walk_enumT {a : Addr} {xs : List V} : Walk (RX.Iet K a) xs.length (fun H => SqT K H a xs) (YPair (fun i => some (.int (i : Nat))) (fun i => xs[i]?)) := by
  refine ⟨fun i _ hi q => ⟨xs, xs[i], q, by simp [hi]⟩, fun _ q => ⟨xs, q, rfl⟩, fun i H v H' _ q y => ?_⟩
  obtain ⟨t, x, h1, h2, h3, h4⟩ := y
  exact ⟨t, .int (i : Nat), x, h1, h2, h3, rfl, h4 xs q⟩
def spPasses (K : PySem.W.Frag) (C : Addr) : Sp := fun vs H Q _ => ∃ (a t : Addr) (R : RC.Tab) (o : List Int), vs = [.ref a, .ref t] ∧ TabAt C H a R ∧ SqT K H t (o.map V.int) ∧ (∀ x ∈ o, x ∈ RC.keys R) ∧ RC.Passes R o ∧ ∀ H', Same H H' → Q (.bl true) H'
theorem sc_passes : FnScope ["table", "order", "at", "key", "row"] ["table", "order"] (defScope sPasses) := ⟨rfl, rfl, rfl, by decide +kernel, rfl, by decide +kernel, by decide +kernel⟩
theorem ok_passes (T : TX K mg) : FnOk P w K mg base CX0 7 T.d_passes.f T.d_passes.fd ["table", "order"] (spPasses K T.cTable.C) := by
  have G1 := ok_waited (P := P) (w := w) (base := base) T
  refine T.d_passes.F.ok sc_passes (fun vs H Q E h => ?_) (fun cdv A outer s H vs Q E hr h => ?_)
  · obtain ⟨a, t, R, o, rfl, _⟩ := h
    rfl
  · obtain ⟨a, t, R, o, rfl, ht, hs, sub, hp, q⟩ := h
    refine ⟨_, pss_cons (ps_for PassesOwn.never rfl (RX.pi_enumT T.n_enumerate (pa_cons (pv 1) pa_nil)) (pg_tup rfl (pgs_cons (pg_name (i := 2) sc_passes.nd rfl (.inl rfl)) (pgs_cons (pg_name (i := 3) sc_passes.nd rfl (.inl rfl)) pgs_nil)))
        (pss_cons (ps_set (i := 4) sc_passes.nd rfl (.inl rfl) (pc T.d_waited G1 hr (pa_cons (pv 0) (pa_cons (pv 3) pa_nil))))
        (pss_one (ps_if (pw_and (pt_cmp (pc_notN (pv 4))) (pw_and1 (pt_cmpR op_notIn_seq (pv 4) (pe_slice sl_tupA (pv 1) po_none (po_some (pv 2))) (by with_unfolding_all rfl)))).pt (pss_one (ps_ret pe_bl)) pss_nil))))
      (pss_one (ps_ret pe_bl)), ?_⟩
    refine ⟨_, rfl, t, _, rfl, hs, ?_⟩
    refine for_it (walk_enumT (K := K) (a := t) (xs := o.map V.int)) (fun i σ H' => ∃ v2 v3 v4, σ = [some (.ref a), some (.ref t), v2, v3, v4] ∧ Same H H') ⟨none, none, none, rfl, fun _ _ h => h⟩ (fun i σ H' _ ⟨_, _, _, _, s⟩ => same_t s hs) ?_ ?_
    · rintro i x σ H1 H2 hi ⟨v2, v3, v4, rfl, s1⟩ ⟨T1, x1, x2, rfl, hT, rfl, e1, e2⟩
      have e2 : (o.map V.int)[i]? = some x2 := e2
      rw [List.getElem?_map] at e2
      cases e1
      cases e3 : o[i]? with
      | none =>
        rw [e3] at e2
        cases e2
      | some k =>
        rw [e3] at e2
        cases e2
        have hk := sub k (List.mem_of_getElem? e3)
        have s2 := s1.trans (same_new (o := .tup [.int (i : Nat), .int k]) hT)
        refine ⟨T1, _, rfl, .inl (.inl upd_same), rfl, _, _, rfl, _, _, rfl, rfl, ?_⟩
        refine ⟨_, rfl, _, rfl, a, R, k, rfl, ht.same s2, hk, _, rfl, _, rfl, ?_⟩
        rw [oV_non]
        cases ew : RC.waited R k with
        | none => exact iteF (iteF ⟨_, _, _, rfl, s2⟩)
        | some r =>
          refine iteT ⟨_, rfl, _, rfl, _, rfl, _, rfl, sl_head (n := i) (same_t s2 hs) fun p H5 s5 hp5 => ⟨p, _, rfl, .inr hp5, rfl, ?_, !inV (.int r) ((o.map V.int).take i), rfl, ?_⟩⟩
          · rw [← List.map_take]
            exact flat_ints _
          · rw [← List.map_take, inV_ints]
            have hm : r ∈ o.take i := by
              obtain ⟨hi', e4⟩ := List.getElem?_eq_some_iff.mp e3
              refine hp (o.take i) k (o.drop (i + 1)) ?_ r ew
              conv => lhs; rw [← List.take_append_drop i o, List.drop_eq_getElem_cons hi', e4]
            rw [decide_eq_true hm]
            exact iteF ⟨_, _, _, rfl, s2.trans s5⟩
    · rintro σ H1 ⟨v2, v3, v4, rfl, s1⟩
      exact q H1 s1

/-! ### is_order, need_order -/
theorem DpAll.bls {H : Hp} : ∀ {vs : List V} {bs : List Bool}, DpAll K H vs (bs.map PyData.bool) → vs = bs.map V.bl
  | _, [], .nil => rfl
  | _, _ :: bs, .cons h a => by
    cases h
    rw [DpAll.bls a]
    rfl
def spIsOrder (K : PySem.W.Frag) (C : Addr) : Sp := fun vs H Q _ => ∃ (a t : Addr) (R : RC.Tab) (o : List Int), vs = [.ref a, .ref t] ∧ TabAt C H a R ∧ SqT K H t (o.map V.int) ∧ o.Perm (RC.keys R) ∧ ∀ H', Same H H' → Q (.bl true) H'
theorem sc_isOrder : FnScope ["table", "thing", "key"] ["table", "thing"] (defScope sIsOrder) := ⟨rfl, rfl, rfl, by decide +kernel, rfl, by decide +kernel, by decide +kernel⟩
theorem ok_isOrder (T : TX K mg) : FnOk P w K mg base CX0 4 T.d_is_order.f T.d_is_order.fd ["table", "thing"] (spIsOrder K T.cTable.C) := by
  have G1 := ok_has (P := P) (w := w) (base := base) T
  have G2 := ok_keys (P := P) (w := w) (base := base) T
  refine T.d_is_order.F.ok sc_isOrder (fun vs H Q E h => ?_) (fun cdv A outer s H vs Q E hr h => ?_)
  · obtain ⟨a, t, R, o, rfl, _⟩ := h
    rfl
  · obtain ⟨a, t, R, o, rfl, ht, hs, hp, q⟩ := h
    refine ⟨_, pss_cons (ps_if (pw_or (pt_not (pt_val (pisi T.n_isinstance (pv 1) (pty T.n_tuple bb_tuple)))) (pw_or1 (pt_not (pt_val (pb (cr_all rfl) T.n_all bb_all (pa_cons
        (pe_lc (own := [("key", 2)]) (g := gName 2) (te := tOp (RX.rOIn T.cTable.C (spHas T.cTable.C) E0 id) (tVar 2) (tVar 0)) (tt := tYes) rfl sc_isOrder.nd (pi_tup (pv 1)) (blkOk_by (N := ["table", "thing", "key"]) (sc := defScope sIsOrder) (by decide +kernel)) (fun _ _ _ _ _ => pg_name (i := 2) sc_isOrder.nd rfl (Or.inl rfl))
          (fun _ _ _ _ _ => pts_nil) (fun _ _ _ _ _ => pe_cmpR (RX.op_in_own T.mTable_contains.m G1 hr T.mTable_contains.b pass0) (pv 2) (pv 0) (by with_unfolding_all rfl))) pa_nil)))))).pt (pss_one (ps_ret pe_bl)) pss_nil)
      (pss_one (ps_ret (pe_cmpR (op_eqD (by exact hr.units)) (pb (cr_srtD (by exact hr.units)) T.n_sorted bb_sorted (pa_cons (pv 1) pa_nil)) (pc T.d_keys_of G2 hr (pa_cons (pv 0) pa_nil)) (nomark _)))), ?_⟩
    have ho40 : o.length ≤ 40 := by rw [hp.length_eq, RC.keys_len]; exact ht.len
    obtain ⟨dx, fs, e⟩ := ht.ins
    refine ⟨_, rfl, _, _, _, _, _, rfl, .ty _, tyx_tup hs, kit_ty (r := true) (by decide +kernel), true, rfl, iteF ?_⟩
    refine ⟨_, rfl, t, rfl, ⟨_, hs⟩, fun D hD => ?_⟩
    refine lc_ints (K := K) walk_tup (fun k => some (.bool true)) hD (fun H' s => same_t s hs) (by omega) (fun _ => rfl) (fun k H2 QY QN hkk s2 hacc qy qn => yesI ?_) (fun H' acc s2 hacc h => ?_)
    · have hk := hp.mem_iff.mp hkk
      refine ⟨_, rfl, _, rfl, a, dx, fs, rfl, s2 _ _ e, a, R, k, rfl, ht.same s2, ht.key hk, _, rfl, ?_⟩
      rw [decide_eq_true hk]
      exact qy _ rfl _ _ (fun _ _ h => h) (.bl true)
    · have e1 : o.filterMap (fun k => some (PyData.bool true)) = (o.map fun _ => true).map PyData.bool := by
        rw [List.filterMap_eq_map', List.map_map]
        rfl
      rw [e1] at h
      rw [DpAll.bls h] at hacc
      refine ⟨D, _, rfl, SqL.of hacc, (o.map fun _ => true).all id, rfl, ?_⟩
      have e2 : (o.map fun _ => true).all id = true := by
        rw [List.all_eq_true]
        intro b hb
        obtain ⟨_, _, rfl⟩ := List.mem_map.mp hb
        rfl
      rw [e2]
      refine iteF ?_
      have srt : sds (o.map dI) = (RC.keys R).map dI := sds_ints hp.symm ((RC.asc_keys ht.asc).imp fun h => Int.le_of_lt h)
      refine ⟨_, rfl, t, _, _, rfl, .inr (same_t s2 hs), dpAll_ints o, alike_ints' o, sortable_ints o, fun d hd => ?_, fun p ys hp2 hys => ?_⟩
      · obtain ⟨i, _, rfl⟩ := List.mem_map.mp hd
        show (PyData.int i).depth ≤ 50
        rw [PyData.depth]
        exact Nat.zero_le _
      · rw [srt] at hys
        have s3 := s2.trans (same_new (o := .lst ys) hp2)
        refine ⟨_, rfl, a, R, rfl, ht.same s3, fun kl H3 hkl s4 hk => ⟨dL (RC.keys R), dL (RC.keys R), .lst (SqL.of (s4 _ _ upd_same)) (hys.same ((same_new hp2).trans s4)), .lst (SqL.of hk) (dpAll_ints _), (Shp.L (n := 0) _).ok, (Shp.L (n := 0) _).ok, ?_⟩⟩
        rw [eqv_self (Shp.L (n := 0) _)]
        exact q H3 (s3.trans s4)
def spNeedOrder (K : PySem.W.Frag) (C : Addr) : Sp := fun vs H Q _ => ∃ (a t : Addr) (R : RC.Tab) (o : List Int), vs = [.ref a, .ref t] ∧ TabAt C H a R ∧ SqT K H t (o.map V.int) ∧ o.Perm (RC.keys R) ∧ ∀ H', Same H H' → Q .non H'
theorem sc_needOrder : FnScope ["table", "order"] ["table", "order"] (defScope sNeedOrder) := ⟨rfl, rfl, rfl, by decide +kernel, rfl, by decide +kernel, by decide +kernel⟩
theorem ok_needOrder (T : TX K mg) : FnOk P w K mg base CX0 5 T.d_need_order.f T.d_need_order.fd ["table", "order"] (spNeedOrder K T.cTable.C) := by
  have G1 := ok_needT (P := P) (w := w) (base := base) T
  have G2 := ok_isOrder (P := P) (w := w) (base := base) T
  refine T.d_need_order.F.ok sc_needOrder (fun vs H Q E h => ?_) (fun cdv A outer s H vs Q E hr h => ?_)
  · obtain ⟨a, t, R, o, rfl, _⟩ := h
    rfl
  · obtain ⟨a, t, R, o, rfl, ht, hs, hp, q⟩ := h
    refine ⟨_, pss_cons (ps_expr (pc T.d_need_table G1 (hr.mono (by decide)) (pa_cons (pv 0) pa_nil))) (pss_one (ps_if (pt_not (pt_val (pc T.d_is_order G2 hr (pa_cons (pv 0) (pa_cons (pv 1) pa_nil))))) pss_never pss_nil)), ?_⟩
    exact ⟨_, rfl, a, R, rfl, ht, _, rfl, _, rfl, a, t, R, o, rfl, ht, hs, hp, fun H' s' => ⟨true, rfl, iteF (q H' s')⟩⟩

/-! ### shows_verdict -/
def spShows (K : PySem.W.Frag) (C : Addr) : Sp := fun vs H Q _ => ∃ (a th t : Addr) (R : RC.Tab) (o : List Int), vs = [.ref a, .ref th] ∧ TabAt C H a R ∧ H th = some (.tup [.str "order", .ref t]) ∧ SqT K H t (o.map V.int) ∧ o.Perm (RC.keys R) ∧ RC.Passes R o ∧ RC.Free R ∧ ∀ H', Same H H' → Q (.bl true) H'
theorem sc_shows : FnScope ["table", "thing", "word", "shown"] ["table", "thing"] (defScope sShowsVerdict) := ⟨rfl, rfl, rfl, by decide +kernel, rfl, by decide +kernel, by decide +kernel⟩
theorem ok_shows (T : TX K mg) : FnOk P w K mg base CX0 10 T.d_shows_verdict.f T.d_shows_verdict.fd ["table", "thing"] (spShows K T.cTable.C) := by
  have G0 := ok_needT (P := P) (w := w) (base := base) T
  have G1 := ok_free (P := P) (w := w) (base := base) T
  have G2 := ok_isOrder (P := P) (w := w) (base := base) T
  have G3 := ok_passes (P := P) (w := w) (base := base) T
  refine T.d_shows_verdict.F.ok sc_shows (fun vs H Q E h => ?_) (fun cdv A outer s H vs Q E hr h => ?_)
  · obtain ⟨a, th, t, R, o, rfl, _⟩ := h
    rfl
  · obtain ⟨a, th, t, R, o, rfl, ht, hth, hs, hp, hpass, hf, q⟩ := h
    refine ⟨_, pss_cons (ps_expr (pc T.d_need_table G0 (hr.mono (by decide)) (pa_cons (pv 0) pa_nil)))
      (pss_cons (ps_if (pw_or (pt_not (pt_val (pisi T.n_isinstance (pv 1) (pty T.n_tuple bb_tuple)))) (pw_or (pt_cmpR op_ne (pb call_len T.n_len bb_len (pa_cons (pv 1) pa_nil)) pe_int (nomark _)) (pw_or1 (pt_not (pt_val (pisi T.n_isinstance (pe_ix ix_tup (pv 1) pe_int (fun _ _ => rfl)) (pty T.n_str bb_str))))))).pt (pss_one (ps_ret pe_bl)) pss_nil)
      (pss_cons (ps_asg (pv 1) (pg_tup rfl (pgs_cons (pg_name (i := 2) sc_shows.nd rfl (.inl rfl)) (pgs_cons (pg_name (i := 3) sc_shows.nd rfl (.inl rfl)) pgs_nil))))
      (pss_cons (ps_if (pt_cmpR op_eq (pv 2) pe_str (nomark _)) pss_never pss_nil)
      (pss_cons (ps_if (pt_cmpR op_eq (pv 2) pe_str (nomark _)) pss_never pss_nil)
      (pss_one (ps_ret (pe_and (pe_cmpR op_eq (pv 2) pe_str (nomark _)) (pe_and (pc T.d_is_free_of G1 hr (pa_cons (pv 0) pa_nil)) (pe_and (pc T.d_is_order G2 (hr.mono (by decide)) (pa_cons (pv 0) (pa_cons (pv 3) pa_nil))) (pe_one (pc T.d_passes G3 (hr.mono (by decide)) (pa_cons (pv 0) (pa_cons (pv 3) pa_nil))))))))))))), ?_⟩
    have hst : SqT K H th [.str "order", .ref t] := .inl (.inl hth)
    refine ⟨_, rfl, a, R, rfl, ht, ?_⟩
    refine ⟨_, rfl, _, _, _, _, _, rfl, .ty _, tyx_tup hst, kit_ty (r := true) (by decide +kernel), true, rfl, iteF ?_⟩
    refine ⟨_, rfl, _, 2, rfl, .inr ⟨_, hst, rfl⟩, rfl, false, rfl, iteF ?_⟩
    refine ⟨_, rfl, _, _, _, _, rfl, rfl, hst, atI_nat (j := 0) rfl, _, _, _, _, _, rfl, .ty _, .base (.str _), kit_ty (r := true) (by decide +kernel), true, rfl, iteF ?_⟩
    refine ⟨_, rfl, th, _, rfl, hst, rfl, _, _, rfl, _, _, rfl, rfl, ?_⟩
    refine ⟨_, rfl, rfl, false, by congr 1, iteF ⟨_, rfl, rfl, false, by congr 1, iteF ?_⟩⟩
    refine ⟨_, rfl, rfl, true, by congr 1, ?_⟩
    refine ⟨_, rfl, a, R, rfl, ht, fun H1 s1 => ?_⟩
    rw [decide_eq_true hf]
    refine ⟨true, rfl, ?_⟩
    refine ⟨_, rfl, _, rfl, a, t, R, o, rfl, ht.same s1, same_t s1 hs, hp, fun H2 s2 => ⟨true, rfl, ?_⟩⟩
    exact ⟨_, rfl, _, rfl, a, t, R, o, rfl, (ht.same s1).same s2, same_t (s1.trans s2) hs, fun x hx => hp.mem_iff.mp hx, hpass, fun H3 s3 => q H3 ((s1.trans s2).trans s3)⟩
end RP

/-! KW14 -/
/-! Walks: Outcome, holder_of, settle, halts. -/
namespace RP
open PySem PySem.Spec PyProof.Rows L2
variable {P : Program} {w : World} {K : PySem.W.Frag} {mg : Str → Option Value} {base : Heap}
/-! ### Outcome -/
def OutAt (C : Addr) (H : Hp) (p : Addr) (r st en : V) : Prop := ∃ dx t, H p = some (.ins C dx [("triple", .ref t)]) ∧ H t = some (.tup [r, st, en])
theorem OutAt.same {C : Addr} {H H' : Hp} {p : Addr} {r st en : V} (s : Same H H') (h : OutAt C H p r st en) : OutAt C H' p r st en := by
  obtain ⟨dx, t, h1, h2⟩ := h
  exact ⟨dx, t, s _ _ h1, s _ _ h2⟩
def spOutInit (C : Addr) : Sp := fun vs H Q _ => ∃ (p dx : Addr) (r st en : V), vs = [.ref p, r, st, en] ∧ H p = some (.ins C dx []) ∧ ∀ t, H t = none → Q .non (upd (upd H t (.tup [r, st, en])) p (.ins C dx [("triple", .ref t)]))
theorem sc_outInit : FnScope ["self", "rows", "stop", "ends"] ["self", "rows", "stop", "ends"] (defScope sOutcomeInit) := ⟨rfl, rfl, rfl, by decide +kernel, rfl, by decide +kernel, by decide +kernel⟩
theorem ok_outInit (T : TX K mg) : FnOk P w K mg base CX0 1 T.mOutcome_init.f T.mOutcome_init.fd ["self", "rows", "stop", "ends"] (spOutInit T.cOutcome.C) := by
  refine T.mOutcome_init.F.ok sc_outInit (fun vs H Q E h => ?_) (fun cdv A outer s H vs Q E hr h => ?_)
  · obtain ⟨p, dx, r, st, en, rfl, _⟩ := h
    rfl
  · obtain ⟨p, dx, r, st, en, rfl, hp, q⟩ := h
    refine ⟨_, pss_one (ps_fld (pv 0) (pe_tup (pa_cons (pv 1) (pa_cons (pv 2) (pa_cons (pv 3) pa_nil)))) rfl), ?_⟩
    refine ⟨_, rfl, _, rfl, _, rfl, by show (3 : Nat) ≤ sizeLine; decide, fun t ht => ⟨_, rfl, p, T.cOutcome.C, dx, [], rfl, ?_, T.cOutcome.cl, T.oTriple, by decide, q t ht⟩⟩
    rw [upd_ne (ne_of_none hp ht)]
    exact hp
def spOutGet (C : Addr) (i : Nat) : Sp := fun vs H Q _ => ∃ (p : Addr) (r st en v : V), vs = [.ref p] ∧ OutAt C H p r st en ∧ [r, st, en][i]? = some v ∧ Q v H
theorem sc_stop : FnScope ["self"] ["self"] (defScope sOutcomeStop) := ⟨rfl, rfl, rfl, by decide +kernel, rfl, by decide +kernel, by decide +kernel⟩
theorem sc_ends : FnScope ["self"] ["self"] (defScope sOutcomeEnds) := ⟨rfl, rfl, rfl, by decide +kernel, rfl, by decide +kernel, by decide +kernel⟩
theorem ok_stop (T : TX K mg) : FnOk P w K mg base CX0 1 T.mOutcome_stop_f T.mOutcome_stop_fd ["self"] (spOutGet T.cOutcome.C 1) := by
  refine T.mOutcome_stop_F.ok sc_stop (fun vs H Q E h => ?_) (fun cdv A outer s H vs Q E hr h => ?_)
  · obtain ⟨p, r, st, en, v, rfl, _⟩ := h
    rfl
  · obtain ⟨p, r, st, en, v, rfl, ⟨dx, t, h1, h2⟩, hv, q⟩ := h
    refine ⟨_, pss_one (ps_ret (pe_ix ix_tup (pe_fld (pv 0) rfl) pe_int (fun _ _ => rfl))), ?_⟩
    exact ⟨_, rfl, p, _, dx, _, _, rfl, h1, T.cOutcome.cl, T.oTriple, rfl, t, _, 1, v, rfl, rfl, .inl (.inl h2), atI_nat (j := 1) hv, q⟩
theorem ok_ends (T : TX K mg) : FnOk P w K mg base CX0 1 T.mOutcome_ends_f T.mOutcome_ends_fd ["self"] (spOutGet T.cOutcome.C 2) := by
  refine T.mOutcome_ends_F.ok sc_ends (fun vs H Q E h => ?_) (fun cdv A outer s H vs Q E hr h => ?_)
  · obtain ⟨p, r, st, en, v, rfl, _⟩ := h
    rfl
  · obtain ⟨p, r, st, en, v, rfl, ⟨dx, t, h1, h2⟩, hv, q⟩ := h
    refine ⟨_, pss_one (ps_ret (pe_ix ix_tup (pe_fld (pv 0) rfl) pe_int (fun _ _ => rfl))), ?_⟩
    exact ⟨_, rfl, p, _, dx, _, _, rfl, h1, T.cOutcome.cl, T.oTriple, rfl, t, _, 2, v, rfl, rfl, .inl (.inl h2), atI_nat (j := 2) hv, q⟩

/-! ### the places -/
def kvPl (O : List Int) (pl : RC.Plc) : List (Key × V) := O.map fun r => (Sum.inl r, oV (pl r))
theorem kvPl_get {O : List Int} {pl : RC.Plc} {r : Int} (h : r ∈ O) : valV (kvPl O pl) (Sum.inl r : Key) = some (oV (pl r)) := by
  induction O with
  | nil => cases h
  | cons x O ih =>
    by_cases e : x = r
    · subst e
      exact valV_pos rfl
    · rw [show valV (kvPl (x :: O) pl) (Sum.inl r : Key) = valV (kvPl O pl) (Sum.inl r : Key) from valV_neg (fun z => e (Sum.inl.inj z))]
      rcases List.mem_cons.mp h with h | h
      · exact absurd h.symm e
      · exact ih h
theorem kvPl_put {O : List Int} {pl : RC.Plc} {r : Int} (h : r ∈ O) (v : Option Int) : putK (kvPl O pl) (Sum.inl r : Key) (oV v) = kvPl O (RC.setP pl r v) := by
  unfold putK
  rw [if_pos (by rw [valV_any, kvPl_get h]; rfl)]
  unfold kvPl
  rw [List.map_map]
  refine List.map_congr_left fun x _ => ?_
  show (if (Sum.inl x : Key) = Sum.inl r then (Sum.inl x, oV v) else (Sum.inl x, oV (pl x))) = (Sum.inl x, oV (RC.setP pl r v x))
  unfold RC.setP
  by_cases e : x = r
  · rw [if_pos (congrArg _ e), if_pos e]
  · rw [if_neg (fun z => e (Sum.inl.inj z)), if_neg e]
theorem upd_self {H : Hp} {d : Addr} {o : HO} (h : H d = some o) : upd H d o = H := by
  funext b
  by_cases e : b = d
  · subst e
    rw [upd_same, h]
  · rw [upd_ne e]
def spHolder : Sp := fun vs H Q _ => ∃ (d : Addr) (k : Int) (O : List Int) (pl : RC.Plc), vs = [.ref d, .int k] ∧ H d = some (.dK (kvPl O pl)) ∧ Q (oV (RC.holder O pl k)) H
theorem sc_holder : FnScope ["places", "key", "row"] ["places", "key"] (defScope sHolderOf) := ⟨rfl, rfl, rfl, by decide +kernel, rfl, by decide +kernel, by decide +kernel⟩
theorem ok_holder (T : TX K mg) : FnOk P w K mg base CX0 1 T.d_holder_of.f T.d_holder_of.fd ["places", "key"] spHolder := by
  refine T.d_holder_of.F.ok sc_holder (fun vs H Q E h => ?_) (fun cdv A outer s H vs Q E hr h => ?_)
  · obtain ⟨d, k, O, pl, rfl, _⟩ := h
    rfl
  · obtain ⟨d, k, O, pl, rfl, hd, q⟩ := h
    have hu := hu_of hr
    refine ⟨_, pss_cons (ps_lock (ps_for PassesOwn.never rfl (pi_keys (pv 0)) (pg_name (i := 2) sc_holder.nd rfl (.inl rfl))
        (pss_one (ps_if (pt_cmpR op_eq (pe_dget hu (pv 0) (pv 2) (fun _ _ => rfl)) (pv 1) (nomark _)) (pss_one (ps_ret (pv 2))) pss_nil))))
      (pss_one (ps_ret pe_non)), ?_⟩
    refine ⟨d, _, hd, trivial, fun od => ⟨_, rfl, d, od, rfl, .inl ⟨kvPl O pl, upd_same, ?_⟩⟩⟩
    have hlen : (kvPl O pl).length = O.length := List.length_map ..
    have back : upd (upd H d (.frz od (.dK (kvPl O pl)))) d (.dK (kvPl O pl)) = H := by rw [upd_upd]; exact upd_self hd
    refine for_it walk_keys (fun i σ H' => ∃ v, σ = [some (.ref d), some (.int k), v] ∧ upd H d (.frz od (.dK (kvPl O pl))) = H' ∧ ∀ x ∈ O.take i, pl x ≠ some k) ⟨none, rfl, rfl, fun x hx => absurd hx (by simp)⟩ (fun i σ H' _ ⟨_, _, e, _⟩ => e ▸ upd_same) ?_ ?_
    · rintro i x σ H1 H2 hi ⟨v, rfl, rfl, hno⟩ ⟨rfl, kk, vv, e1, rfl⟩
      unfold kvPl at e1
      rw [List.getElem?_map] at e1
      cases e2 : O[i]? with
      | none =>
        rw [e2] at e1
        cases e1
      | some r =>
        rw [e2] at e1
        cases e1
        have hr := List.mem_of_getElem? e2
        have g : DGet (upd H d (.frz od (.dK (kvPl O pl)))) d (.int r) (some (oV (pl r))) := by
          have z : DGet (upd H d (.frz od (.dK (kvPl O pl)))) d (kV (Sum.inl r)) (valV (kvPl O pl) (Sum.inl r : Key)) := .inl ⟨_, Sum.inl r, .inr ⟨od, upd_same⟩, rfl, rfl⟩
          rw [kvPl_get hr] at z
          exact z
        refine ⟨_, rfl, _, rfl, d, _, rfl, g, _, rfl, by cases pl r <;> rfl, _, rfl, ?_⟩
        by_cases h1 : pl r = some k
        · have : decide (oV (pl r) = V.int k) = true := by rw [h1]; exact decide_eq_true rfl
          rw [this]
          refine iteT ⟨_, rfl, upd_same, ?_⟩
          rw [back]
          have hf : RC.holder O pl k = some r := by
            unfold RC.holder
            obtain ⟨hi', e3⟩ := List.getElem?_eq_some_iff.mp e2
            have : O = O.take i ++ r :: O.drop (i + 1) := by
              conv => lhs; rw [← List.take_append_drop i O, List.drop_eq_getElem_cons hi', e3]
            rw [this, List.find?_append, List.find?_eq_none.mpr (fun x hx => by simpa using hno x hx), List.find?_cons]
            simp [h1]
          rw [hf] at q
          exact q
        · have : decide (oV (pl r) = V.int k) = false := by
            refine decide_eq_false fun z => h1 ?_
            cases e5 : pl r with
            | none =>
              rw [e5] at z
              cases z
            | some y =>
              rw [e5] at z
              cases z
              rfl
          rw [this]
          refine iteF ⟨_, rfl, rfl, fun x hx => ?_⟩
          rw [take_get e2] at hx
          rcases List.mem_append.mp hx with hx | hx
          · exact hno x hx
          · have : x = r := by simpa using hx
            rw [this]
            exact h1
    · rintro σ H1 ⟨v, rfl, rfl, hno⟩
      refine ⟨upd_same, ?_⟩
      rw [back]
      rw [hlen, List.take_length] at hno
      have : RC.holder O pl k = none := by
        unfold RC.holder
        exact List.find?_eq_none.mpr fun x hx => by simpa using hno x hx
      rw [this] at q
      exact q
end RP

/-! KW15 -/
/-! Walks: settle, halts, Rule.__call__. -/
namespace RP
open PySem PySem.Spec PyProof.Rows L2
variable {P : Program} {w : World} {K : PySem.W.Frag} {mg : Str → Option Value} {base : Heap}
def spSettle (rep : Bool) : Sp := fun vs H Q _ => ∃ (s d : Addr) (row h n : Int) (O : List Int) (pl : RC.Plc), vs = [.ref s, .ref d, .int row, .int h, .int n] ∧ H d = some (.dK (kvPl O pl)) ∧ row ∈ O ∧ h ∈ O ∧ O.length ≤ 40 ∧
  Q .non (upd H d (.dK (kvPl O (if rep = true then RC.setP (RC.setP pl h none) row (some n) else pl))))
theorem sc_leaves : FnScope ["self", "places", "row", "holder", "new"] ["self", "places", "row", "holder", "new"] (defScope sLeavesSettle) := ⟨rfl, rfl, rfl, by decide +kernel, rfl, by decide +kernel, by decide +kernel⟩
theorem sc_removes : FnScope ["self", "places", "row", "holder", "new"] ["self", "places", "row", "holder", "new"] (defScope sRemovesSettle) := ⟨rfl, rfl, rfl, by decide +kernel, rfl, by decide +kernel, by decide +kernel⟩
theorem ok_leaves (T : TX K mg) : FnOk P w K mg base CX0 1 T.iSettle.f T.iSettle.fd ["self", "places", "row", "holder", "new"] (spSettle false) := by
  refine T.iSettle.F.ok sc_leaves (fun vs H Q E h => ?_) (fun cdv A outer s H vs Q E hr h => ?_)
  · obtain ⟨s, d, row, h, n, O, pl, rfl, _⟩ := h
    rfl
  · obtain ⟨s, d, row, h, n, O, pl, rfl, hd, h1, h2, hl, q⟩ := h
    refine ⟨_, pss_one (ps_ret pe_non), ?_⟩
    rw [if_neg Bool.false_ne_true, upd_self hd] at q
    exact q
theorem ok_removes (T : TX K mg) : FnOk P w K mg base CX0 1 T.rSettle.f T.rSettle.fd ["self", "places", "row", "holder", "new"] (spSettle true) := by
  refine T.rSettle.F.ok sc_removes (fun vs H Q E h => ?_) (fun cdv A outer s H vs Q E hr h => ?_)
  · obtain ⟨s, d, row, h, n, O, pl, rfl, _⟩ := h
    rfl
  · obtain ⟨s, d, row, h, n, O, pl, rfl, hd, h1, h2, hl, q⟩ := h
    have hu := hu_of hr
    refine ⟨_, pss_cons (ps_dput hu (pv 1) (pv 3) pe_non rfl) (pss_one (ps_dput hu (pv 1) (pv 2) (pv 4) rfl)), ?_⟩
    have hsz : ∀ pl, (kvPl O pl).length < sizeLine := fun pl => by
      unfold kvPl
      rw [List.length_map]
      exact small1000 (by omega)
    have e1 : putK (kvPl O pl) (Sum.inl h : Key) V.non = kvPl O (RC.setP pl h none) := kvPl_put (pl := pl) h2 none
    have e2 : putK (kvPl O (RC.setP pl h none)) (Sum.inl row : Key) (V.int n) = kvPl O (RC.setP (RC.setP pl h none) row (some n)) := kvPl_put (pl := RC.setP pl h none) h1 (some n)
    refine ⟨_, rfl, _, rfl, d, _, rfl, DPut.k (k := Sum.inl h) hd (hsz _), ?_⟩
    refine ⟨_, rfl, _, rfl, _, rfl, d, _, rfl, DPut.k (k := Sum.inl row) upd_same (by rw [e1]; exact hsz _), ?_⟩
    rw [upd_upd, e1, e2]
    exact q
def spHalts : Sp := fun vs H Q _ => ∃ s : Addr, vs = [.ref s] ∧ Q (.bl false) H
theorem sc_halts : FnScope ["self"] ["self"] (defScope sContinuesHalts) := ⟨rfl, rfl, rfl, by decide +kernel, rfl, by decide +kernel, by decide +kernel⟩
theorem ok_halts {C : Addr} (M : MG K C "halts" "Continues.halts" sContinuesHalts ["self"]) : FnOk P w K mg base CX0 1 M.f M.fd ["self"] spHalts := by
  refine M.F.ok sc_halts (fun vs H Q E h => ?_) (fun cdv A outer s H vs Q E hr h => ?_)
  · obtain ⟨s, rfl, _⟩ := h
    rfl
  · obtain ⟨s, rfl, q⟩ := h
    exact ⟨_, pss_one (ps_ret pe_bl), q⟩

/-! ### Rule.__call__ -/
abbrev dEnds (rep : Bool) (R : RC.Tab) (o : List Int) : List PyData := sds ((RC.endsOf o (RC.rrun rep R o o)).map dP)
def spCall (rep : Bool) (K : PySem.W.Frag) (CT CO C : Addr) : Sp := fun vs H Q _ => ∃ (s a t ds : Addr) (R : RC.Tab) (o : List Int), vs = [.ref s, .ref a, .ref t] ∧ H s = some (.ins C ds []) ∧ TabAt CT H a R ∧ SqT K H t (o.map V.int) ∧ o.Perm (RC.keys R) ∧
  ∀ p st en H' r, Same H H' → OutAt CO H' p r (.ref st) (.ref en) → SqT K H' st [] → Dp K H' (.ref en) (.tuple (dEnds rep R o)) → Q (.ref p) H'
theorem sc_call : FnScope ["self", "table", "order", "key", "row", "places", "stop", "new", "holder", "ends"] ["self", "table", "order"] (defScope sRuleCall) := ⟨rfl, rfl, rfl, by decide +kernel, rfl, by decide +kernel, by decide +kernel⟩
section
variable {C sf hf : Addr} {sfd hfd : FuncData}
theorem ok_call (T : TX K mg) (rep : Bool) (cl : Cls K C) (sm : Meth K C "settle" sf) (sb : Binds K sfd ["self", "places", "row", "holder", "new"] []) (GS : FnOk P w K mg base CX0 1 sf sfd ["self", "places", "row", "holder", "new"] (spSettle rep))
    (hm : Meth K C "halts" hf) (hb : Binds K hfd ["self"] []) (GH : FnOk P w K mg base CX0 1 hf hfd ["self"] spHalts) : FnOk P w K mg base CX0 6 T.callF T.call_fd ["self", "table", "order"] (spCall rep K T.cTable.C T.cOutcome.C C) := by
  have G1 := ok_needOrder (P := P) (w := w) (base := base) T
  have G2 := ok_get (P := P) (w := w) (base := base) T
  have G3 := ok_holder (P := P) (w := w) (base := base) T
  have G4 := ok_rows (P := P) (w := w) (base := base) T
  have G5 := ok_outInit (P := P) (w := w) (base := base) T
  refine T.call_F.ok sc_call (fun vs H Q E h => ?_) (fun cdv A outer s H vs Q E hr h => ?_)
  · obtain ⟨s, a, t, ds, R, o, rfl, _⟩ := h
    rfl
  · obtain ⟨s, a, t, ds, R, o, rfl, hs, ht, hso, hp, q⟩ := h
    have hu := hu_of hr
    refine ⟨_, pss_cons (ps_expr (pc T.d_need_order G1 hr (pa_cons (pv 1) (pa_cons (pv 2) pa_nil))))
      (pss_cons (ps_asg (pe_tup (pa_cons (pe_dc (own := [("key", 3)]) (g := gName 3) (tt := tYes) (tk := tVar 3) (tv := tVar 3) rfl sc_call.nd (pi_tup (pv 2)) (blkOk_by (N := ["self", "table", "order", "key", "row", "places", "stop", "new", "holder", "ends"]) (sc := defScope sRuleCall) (by decide +kernel))
          (fun _ _ _ _ _ => pg_name (i := 3) sc_call.nd rfl (Or.inl rfl)) (fun _ _ _ _ _ => pts_nil) (fun _ _ _ _ _ => pv 3) (fun _ _ _ _ _ => pv 3)) (pa_cons (pe_tup pa_nil) pa_nil)))
        (pg_tup rfl (pgs_cons (pg_name (i := 5) sc_call.nd rfl (.inr rfl)) (pgs_cons (pg_name (i := 6) sc_call.nd rfl (.inl rfl)) pgs_nil))))
      (pss_cons (ps_for PassesOwn.never rfl (pi_tup (pv 2)) (pg_name (i := 4) sc_call.nd rfl (.inl rfl))
        (pss_cons (ps_set (i := 7) sc_call.nd rfl (.inl rfl) (RX.pe_oix T.mTable_getitem.m T.tGet_fi G2 hr T.mTable_getitem.b pass0 (pv 1) (pv 4)))
        (pss_cons (ps_if (pw_or (pt_cmp (pc_isN (pe_dget hu (pv 5) (pv 4) (fun _ _ => rfl)))) (pw_or1 (pt_cmpR op_eq (pv 7) (pv 4) (nomark _)))).pt (pss_one ps_continue) pss_nil)
        (pss_cons (ps_set (i := 8) sc_call.nd rfl (.inl rfl) (pc T.d_holder_of G3 (hr.mono (by decide)) (pa_cons (pv 5) (pa_cons (pv 7) pa_nil))))
        (pss_cons (ps_if (pt_cmp (pc_isN (pv 8))) (pss_cons (ps_dput hu (pv 5) (pv 4) (pv 7) rfl) (pss_one ps_continue)) pss_nil)
        (pss_cons (ps_expr (pe_meth (pv 0) cl sm GS (hr.mono (by decide)) sb .nil pass0 (pa_cons (pv 5) (pa_cons (pv 4) (pa_cons (pv 8) (pa_cons (pv 7) pa_nil))))))
        (pss_one (ps_if (pt_val (pe_meth0 (pv 0) cl hm GH (hr.mono (by decide)) hb .nil pass0)) pss_never pss_nil))))))))
      (pss_cons (ps_set (i := 9) sc_call.nd rfl (.inl rfl) (pbt call_tuple_of T.n_tuple bb_tuple (pa_cons (pb (cr_srtD (by exact hr.units)) T.n_sorted bb_sorted (pa_cons (pe_lock
          (pe_lc (own := [("row", 4)]) (g := gName 4) (te := tTup (tCons (tVar 4) (tCons (tDGet (tVar 5) (tVar 4)) tNil))) (tt := tB (tNotN (tDGet (tVar 5) (tVar 4)))) rfl sc_call.nd (pi_keys (pv 5)) (blkOk_by (N := ["self", "table", "order", "key", "row", "places", "stop", "new", "holder", "ends"]) (sc := defScope sRuleCall) (by decide +kernel))
            (fun _ _ _ _ _ => pg_name (i := 4) sc_call.nd rfl (Or.inl rfl)) (fun _ _ _ _ _ => pts_one (pt_cmp (pc_notN (pe_dget hu (pv 5) (pv 4) (fun _ _ => rfl))))) (fun _ _ _ _ _ => pe_tup (pa_cons (pv 4) (pa_cons (pe_dget hu (pv 5) (pv 4) (fun _ _ => rfl)) pa_nil))))) pa_nil)) pa_nil)))
      (pss_one (ps_ret (pe_make T.oInit G5 (hr.mono (by decide)) rfl T.cOutcome.g T.mOutcome_init.b .nil pass0 (pa_cons (pprop (pv 1) T.cTable.cl T.mTable_rows_p G4 T.mTable_rows_b hr) (pa_cons (pv 6) (pa_cons (pv 9) pa_nil))))))))), ?_⟩
    refine ⟨_, rfl, _, rfl, a, t, R, o, rfl, ht, hso, hp, fun H1 s1 => ?_⟩
    refine ⟨_, rfl, t, rfl, ⟨_, same_t s1 hso⟩, fun d hd => ?_⟩
    have nd : o.Nodup := hp.nodup_iff.mpr ht.nodup
    have ho40 : o.length ≤ 40 := by rw [hp.length_eq, RC.keys_len]; exact ht.len
    have hsz : ∀ (O : List Int) pl, O.length ≤ 40 → (kvPl O pl).length < sizeLine := fun O pl h => by
      unfold kvPl
      rw [List.length_map]
      exact small1000 (by omega)
    have kpl : ∀ (O : List Int) pl, (kvPl O pl).length = O.length := fun O pl => List.length_map ..
    have dH : H d = none := none_of_same s1 hd
    refine dc_tup (K := K) (a := t) (xs := o.map V.int) (fun i H' => Same H H' ∧ H' d = some (.dK (kvPl (o.take i) some))) ⟨s1.trans (same_new hd), upd_same⟩ (fun i H' _ h => same_t h.1 hso) ?_ ?_
    · rintro i x H2 hi ⟨s2, h2⟩
      rw [List.getElem?_map] at hi
      cases e3 : o[i]? with
      | none =>
        rw [e3] at hi
        cases hi
      | some k =>
        rw [e3] at hi
        cases hi
        refine ⟨rfl, yesI ⟨_, rfl, _, rfl, _, Sum.inl k, rfl, h2, hsz _ _ (by rw [List.length_take]; omega), s2.mut dH, ?_⟩⟩
        rw [upd_same]
        have hk : k ∉ o.take i := fun hm => by
          obtain ⟨hi', e4⟩ := List.getElem?_eq_some_iff.mp e3
          have e5 : o = o.take i ++ k :: o.drop (i + 1) := by
            conv => lhs; rw [← List.take_append_drop i o, List.drop_eq_getElem_cons hi', e4]
          rw [e5, List.nodup_append] at nd
          exact nd.2.2 k hm k List.mem_cons_self rfl
        have hnone : valV (kvPl (o.take i) some) (Sum.inl k : Key) = none := by
          generalize o.take i = l at hk
          induction l with
          | nil => rfl
          | cons y l ih =>
            rw [show valV (kvPl (y :: l) some) (Sum.inl k : Key) = valV (kvPl l some) (Sum.inl k : Key) from valV_neg (fun z => hk (by rw [Sum.inl.inj z]; exact List.mem_cons_self))]
            exact ih fun z => hk (List.mem_cons_of_mem _ z)
        rw [putK_new _ hnone, take_get e3]
        unfold kvPl
        rw [List.map_append]
        rfl
    · rintro H2 ⟨s2, h2⟩
      rw [List.length_map, List.take_length] at h2
      refine ⟨Nat.zero_le _, fun e he => ⟨by show (2 : Nat) ≤ sizeLine; decide, fun tp htp => ⟨tp, _, rfl, .inl (.inl upd_same), rfl, _, _, rfl, _, _, rfl, rfl, ?_⟩⟩⟩
      have s3 := (same_new (o := .tup []) he).trans (same_new (o := .tup [.ref d, .ref e]) htp)
      have hd3 := s3 _ _ h2
      have he3 : (upd (upd H2 e (.tup [])) tp (.tup [.ref d, .ref e])) e = some (.tup []) := (same_new htp) _ _ upd_same
      generalize hH3 : upd (upd H2 e (.tup [])) tp (.tup [.ref d, .ref e]) = H3 at s3 hd3 he3 ⊢
      have nde : e ≠ d := ne_of he3 hd3 (by intro z; cases z)
      have sB : Same H (del H3 d) := del_keep (s2.trans s3) dH
      have heB : del H3 d e = some (.tup []) := by rw [del_ne nde]; exact he3
      refine ⟨_, rfl, t, rfl, ⟨_, same_t (s2.trans s3) hso⟩, ?_⟩
      refine for_tup (K := K) (a := t) (xs := o.map V.int) (fun i σ H' => ∃ v4 v7 v8, σ = [some (.ref s), some (.ref a), some (.ref t), none, v4, some (.ref d), some (.ref e), v7, v8, none] ∧ Same (del H3 d) H' ∧ H' d = some (.dK (kvPl o (RC.rrun rep R o (o.take i)))))
        ⟨none, none, none, rfl, del_sub, hd3⟩ (fun i σ H' _ ⟨_, _, _, _, h, _⟩ => same_t (sB.trans h) hso) ?_ ?_
      · rintro i x σ H4 hi ⟨v4, v7, v8, rfl, s4, h4⟩
        rw [List.getElem?_map] at hi
        cases e3 : o[i]? with
        | none =>
          rw [e3] at hi
          cases hi
        | some row =>
          rw [e3] at hi
          cases hi
          have hro := List.mem_of_getElem? e3
          have hrk := hp.mem_iff.mp hro
          obtain ⟨n, hn⟩ := RC.lookup_some hrk
          have ht4 := ht.same (sB.trans s4)
          obtain ⟨dx, fs, e1⟩ := ht4.ins
          have estep : RC.rrun rep R o (o.take (i + 1)) = RC.rstep rep R o (RC.rrun rep R o (o.take i)) row := by
            rw [take_get e3]
            unfold RC.rrun
            rw [List.foldl_append]
            rfl
          rw [estep]
          generalize hpl : RC.rrun rep R o (o.take i) = pl at h4 ⊢
          have g : DGet H4 d (.int row) (some (oV (pl row))) := by
            have z : DGet H4 d (kV (Sum.inl row)) (valV (kvPl o pl) (Sum.inl row : Key)) := DGet.k h4
            rw [kvPl_get hro] at z
            exact z
          refine ⟨_, rfl, _, rfl, a, dx, fs, rfl, e1, a, R, row, n, rfl, ht4, hn, ?_⟩
          have dN : del H3 d d = none := L2.del_same
          have stay : RC.rstep rep R o pl row = pl → ∃ v4' v7' v8', ([some (V.ref s), some (.ref a), some (.ref t), none, some (.int row), some (.ref d), some (.ref e), some (.int n), v8, none] : L2.St) = [some (.ref s), some (.ref a), some (.ref t), none, v4', some (.ref d), some (.ref e), v7', v8', none] ∧ Same (del H3 d) H4 ∧ H4 d = some (.dK (kvPl o (RC.rstep rep R o pl row))) := fun ee => by
            rw [ee]
            exact ⟨_, _, _, rfl, s4, h4⟩
          refine ⟨_, rfl, _, rfl, d, _, rfl, g, _, rfl, ?_⟩
          cases ep : pl row with
          | none =>
            refine iteT (iteT (stay ?_))
            unfold RC.rstep
            rw [if_pos (.inl ep)]
          | some cur =>
            refine iteF ⟨_, rfl, _, rfl, rfl, decide (V.int n = V.int row), rfl, ?_⟩
            by_cases hnr : n = row
            · rw [decide_eq_true (congrArg V.int hnr)]
              refine iteT (stay ?_)
              unfold RC.rstep
              rw [if_pos (.inr (by rw [hn, hnr]))]
            · rw [decide_eq_false (fun z => hnr (V.int.inj z))]
              refine iteF ⟨_, rfl, _, rfl, d, n, o, pl, rfl, h4, _, rfl, _, rfl, ?_⟩
              have er : RC.rstep rep R o pl row = match RC.holder o pl n with
                | none => RC.setP pl row (some n)
                | some h => if rep then RC.setP (RC.setP pl h none) row (some n) else pl := by
                unfold RC.rstep
                rw [if_neg (fun z => z.elim (fun z => by rw [ep] at z; cases z) fun z => by rw [hn] at z; exact hnr (Option.some.inj z)), hn]
                rfl
              cases eh : RC.holder o pl n with
              | none =>
                rw [eh] at er
                have e1 : putK (kvPl o pl) (Sum.inl row : Key) (V.int n) = kvPl o (RC.setP pl row (some n)) := kvPl_put (pl := pl) hro (some n)
                refine iteT ⟨_, rfl, _, rfl, _, rfl, d, _, rfl, DPut.k (k := Sum.inl row) h4 (hsz _ _ ho40), ?_⟩
                refine ⟨_, _, _, rfl, s4.mut dN, ?_⟩
                rw [upd_same, e1, er]
              | some hh =>
                rw [eh] at er
                have hhm := (RC.holder_mem eh).1
                have hs4 : H4 s = some (.ins C ds []) := (sB.trans s4) _ _ hs
                refine iteF ⟨_, rfl, s, ds, _, rfl, hs4, rfl, _, rfl, _, rfl, _, rfl, _, rfl, s, d, row, hh, n, o, pl, rfl, h4, hro, hhm, ho40, ?_⟩
                have nsd : s ≠ d := ne_of hs4 h4 (by intro z; cases z)
                refine ⟨_, rfl, s, ds, _, rfl, by rw [upd_ne nsd]; exact hs4, rfl, s, rfl, false, rfl, iteF ⟨_, _, _, rfl, s4.mut dN, ?_⟩⟩
                rw [upd_same, er]
      · rintro σ H4 ⟨v4, v7, v8, rfl, s4, h4⟩
        rw [List.length_map, List.take_length] at h4
        generalize hpl : RC.rrun rep R o o = pl at h4
        have sH : Same H H4 := sB.trans s4
        refine ⟨d, _, h4, trivial, fun od => ⟨_, rfl, d, od, rfl, .inl ⟨_, upd_same, fun D hD => ?_⟩⟩⟩
        have nD : D ≠ d := fun z => by rw [z, upd_same] at hD; cases hD
        refine lc_dp (K := K) walk_keys (fun i => (o[i]?).bind fun r => (pl r).map fun v => dP (r, v)) hD (by rw [kpl]; omega) (fun H' s => s _ _ upd_same) (fun i x H5 H6 QY QN hi s5 hacc hy qy qn => ?_) (fun H5 acc s5 hacc h => ?_)
        · obtain ⟨rfl, k, v, e1, rfl⟩ := hy
          unfold kvPl at e1
          rw [List.getElem?_map] at e1
          cases e3 : o[i]? with
          | none =>
            rw [e3] at e1
            cases e1
          | some r =>
            rw [e3] at e1 qy qn
            cases e1
            have hro := List.mem_of_getElem? e3
            have hd5 := s5 _ _ (upd_same (H := H4) (a := d) (o := .frz od (.dK (kvPl o pl))))
            have g : DGet H6 d (.int r) (some (oV (pl r))) := by
              have z : DGet H6 d (kV (Sum.inl r)) (valV (kvPl o pl) (Sum.inl r : Key)) := .inl ⟨_, Sum.inl r, .inr ⟨od, hd5⟩, rfl, rfl⟩
              rw [kvPl_get hro] at z
              exact z
            refine ⟨rfl, _, rfl, _, rfl, d, _, rfl, g, _, rfl, ?_⟩
            rw [oV_non]
            cases ep : pl r with
            | none => exact iteF (qn (by show (pl r).map _ = none; rw [ep]; rfl) _ fun _ _ h => h)
            | some v =>
              rw [ep] at g
              refine iteT ⟨_, rfl, _, rfl, _, rfl, d, _, rfl, g, by show (2 : Nat) ≤ sizeLine; decide, fun q1 hq1 => ?_⟩
              obtain ⟨acc, hacc⟩ := hacc
              have ne : q1 ≠ D := (ne_of_none hacc hq1).symm
              exact qy (dP (r, v)) (by show (pl r).map _ = some _; rw [ep]; rfl) _ _ (same_new hq1) (.tup (.inl (.inl (by rw [del_ne ne, upd_same]; rfl))) (.cons (.int _) (.cons (.int _) .nil)))
        · have hd5 := s5 _ _ (upd_same (H := H4) (a := d) (o := .frz od (.dK (kvPl o pl))))
          refine ⟨hd5, ?_⟩
          have hD3 : upd H5 d (.dK (kvPl o pl)) D = some (.lst acc) := by rw [upd_ne nD]; exact hacc
          have hdata : (List.range (kvPl o pl).length).filterMap (fun i => (o[i]?).bind fun r => (pl r).map fun v => dP (r, v)) = (RC.endsOf o pl).map dP := by
            rw [kpl, rng_filterMap]
            unfold RC.endsOf
            rw [List.map_filterMap]
            congr 1
            funext r
            cases pl r <;> rfl
          rw [hdata] at h
          have hdp2 : DpAll K (upd H5 d (.dK (kvPl o pl))) acc ((RC.endsOf o pl).map dP) := unlock_dp (tupDs_map (fun p => rfl) _) nD hd5 h
          have s6 : Same H4 (upd H5 d (.dK (kvPl o pl))) := same_unlock h4 s5
          refine ⟨D, acc, _, rfl, .inl (.inl (.inl hD3)), hdp2, alike_pairs _, sortable_pairs _, depth_pairs, fun p ys hp2 hys => ?_⟩
          refine ⟨p, ys, rfl, .inl ⟨SqL.of upd_same, fun en hen => ?_⟩⟩
          have s7 := s6.trans ((same_new (o := .lst ys) hp2).trans (same_new (o := .tup ys) hen))
          have dEn : Dp K (upd (upd (upd H5 d (.dK (kvPl o pl))) p (.lst ys)) en (.tup ys)) (.ref en) (.tuple (dEnds rep R o)) := by
            refine .tup (.inl (.inl upd_same)) ?_
            unfold dEnds
            rw [hpl]
            exact (hys.same (same_new hp2)).same (same_new hen)
          generalize hH7 : upd (upd (upd H5 d (.dK (kvPl o pl))) p (.lst ys)) en (.tup ys) = H7 at s7 dEn ⊢
          have sH7 := sH.trans s7
          have ht7 := ht.same sH7
          obtain ⟨dx, fs, e1⟩ := ht7.ins
          refine ⟨_, rfl, a, dx, fs, rfl, e1, a, R, rfl, ht7, fun rr H8 s8 hdr hr8 => ⟨_, rfl, _, rfl, fun x dx2 hx hdx hne => ?_⟩⟩
          refine ⟨x, dx2, _, _, _, rfl, upd_same, fun tr htr => ⟨rfl, ?_⟩⟩
          have nx : tr ≠ x := fun z => by rw [z, upd_same] at htr; cases htr
          have s9 : Same H8 (upd (upd (upd (upd H8 dx2 (.own x)) x (.ins T.cOutcome.C dx2 [])) tr (.tup [.ref rr, .ref e, .ref en])) x (.ins T.cOutcome.C dx2 [("triple", .ref tr)])) :=
            (((same_new hdx).trans (same_new (by rw [upd_ne hne.symm]; exact hx))).trans (same_new htr)).mut hx
          refine q x e en _ (.ref rr) ((sH7.trans s8).trans s9) ⟨dx2, tr, upd_same, by rw [upd_ne nx, upd_same]⟩ ?_ (dEn.same (s8.trans s9))
          exact .inl (.inl (s9 _ _ (s8 _ _ (s7 _ _ (s4 _ _ heB)))))
end
end RP

/-! KSup -/
/-! super().__init__(text), then self.f = x, in an own exception over ValueError. -/
namespace SupX
open PySem PySem.Spec PySem.Calls PyProof.Rows L2
section
variable {X : Cx} {pins : List (Addr × Obj)} {σ : L2.St} {H : Hp} {s : Shared} {a C u : Addr} {Q : Value → Shared → Prop} {E : Value → Shared → Prop} {A : Around}
theorem kept_exo (I : Inv X pins σ H s) (e : H a = some (exo a C none)) {h' : Heap} {t1 : Addr} (k : ∀ b o, b ≠ a → s.heap.get? b = some o → h'.get? b = some o)
    (hx : h'.get? a = some ({ cls := .ref C, dict := none, data := .fields #[.ref t1, .none, .none, .none, .bool false, .none] } : Obj)) {t' : Nat} : Inv X pins σ H { s with heap := h', toks := t' } := by
  have J := I.write (t' := t') (x := a) (e := a) (o := exo a C none) (by rw [e]; exact True.intro) (.inl rfl) k ⟨_, hx⟩ (exo_ok hx)
  have eu : upd H a (exo a C none) = H := by
    funext b
    by_cases hb : b = a
    · rw [hb, upd_same, e]
    · rw [upd_ne hb]
  rw [eu] at J
  exact J
/-- the bound ValueError.__init__ called -/
theorem call_mw {rest : List Value} (T : OexC X.K C) (I : Inv X pins σ H s) (e : H a = some (exo a C none)) (hu : s.heap.get? u = some (PySem.W.kxs_mw "ValueError.__init__" a)) (hl : rest.length ≤ sizeLine) (h : ∀ s', Inv X pins σ H s' → Q .none s') :
    wpAny (model X.prog X.w) A (call (.ref u) rest) Q E s := by
  obtain ⟨nm, q, N, bs, bm, sn, sub, ab, col, dd, k0, k1, k2, k3, k5, hC, hbm⟩ := T.cls
  obtain ⟨t1, ho⟩ := exo_at I.hok e
  have hC' := I.kIn _ _ hC
  have fin := fun (h' : Heap) k hx => h _ (kept_exo (h' := h') (t1 := s.heap.objs.size) (t' := s.toks) I e k hx)
  obtain ⟨hp, g, d, t, os⟩ := s
  refine wpAny_call (codeAny_of_tree ?_)
  show wpAny _ A.in1 (callAny (.ref u) ⟨rest, []⟩) _ _ _
  simp only [callAny]
  refine wpAny_bind (wpAny_load hu ?_)
  simp only [PySem.W.kxs_mw, show (Value.type "method-wrapper" == Value.type "method" || Value.type "method-wrapper" == Value.type "builtin_function_or_method" || Value.type "method-wrapper" == Value.type "method-wrapper") = true by decide, if_true]
  refine PySem.W.KFB.if_so (by decide) ?_
  refine wpAny_bind (PySem.W.check_bound_init F.excBase_ValueError.toExcCallFacts hC' ho rfl ?_)
  refine wpAny_bind (wpAny_pure (wpAny_pure ?_))
  refine ⟨plainId_quiet F.excBase_ValueError.init.plain _, codeAny_builtin F.excBase_ValueError.initEntry ?_⟩
  exact PySem.W.exc_init_tree ho hl fun h' k e' _ => fin h' k e'
end

/-- what the text and the written part say of C's __init__ -/
structure SupF (P : Program) (K : PySem.W.Frag) (C f : Addr) (fd : FuncData) (qual : Str) (st : Stmt) : Prop where
  ex : ∃ (oc : Value) (od : Option Addr) (kV doc pm : Value) (an : Option Addr) (ct : Value) (osl : Array (Option Value)) (cda cc : Addr) (ccl : Value) (cdd : Option Addr) (vs : Array Value) (ccs : Array (Option Value)) (file : Str) (tf : Tok) (cl : Value) (cld : Option Addr) (csl : Array (Option Value)),
    fd = PySem.W.ksFn "__init__" qual (defArgs st) (defBody st) (defScope st) .none kV doc pm an (.ref cda) ct cc ∧ K.lookup f = some ⟨oc, od, .func fd, osl⟩ ∧ PySem.W.codeIn K (.ref cda) qual = true ∧
    K.lookup cda = some ⟨ccl, cdd, .fields vs, ccs⟩ ∧ vs[2]? = some (.str file tf) ∧ ((P.main.file : Str) == file) = true ∧ K.lookup cc = some ⟨cl, cld, .cell (some (.ref C)), csl⟩
  sup : PySem.W.ks_superIn K C C "__init__" = some (some (.builtin "ValueError.__init__"))
  sub : PySem.W.subIn K (.ref C) (.type "ValueError") = some true
  tp : PySem.W.nsIn K PySem.cStatics "thirdparty.any" = some none
  mro : PySem.W.mroIn K C (.ref C) = some true
  top : (P.main.scope.names.lookup ("super" : Str)).isSome = false
abbrev clsCl (cc : Addr) : List (Str × Addr) := [("__class__", cc)]
def spOex (fld : Str) (C : Addr) : Sp := fun vs H Q _ => ∃ (a : Addr) (v : V), vs = [.ref a, v] ∧ H a = some (exo a C none) ∧ ∀ d, H d = none → d ≠ a → Q .non (upd (upd H d (exd d [(fld, v)])) a (exo a C (some d)))
end SupX
namespace RP
open PySem PySem.Spec PySem.Calls PyProof.Rows L2 SupX NdefX
variable {P : Program} {w : World} {K : PySem.W.Frag} {mg : Str → Option Value} {base : Heap} {C f : Addr} {fd : FuncData}
theorem sc_compInit : NScope ["self", "pair", "__class__"] ["self", "pair"] ["__class__"] (defScope sCompetingInit) := nscope_by (by decide +kernel)
theorem boot_super : bootBuiltins "super" = some (.type "super") := by decide +kernel
theorem ok_compInit (T : OexC K C) (S : SupF P K C f fd "Competing.__init__" sCompetingInit) (hno : PySem.W.findIn K (.ref C) "pair" = some none) (hm : mg "super" = none) : FnOk P w K mg base CX0 1 f fd ["self", "pair"] (spOex "pair" C) := by
  obtain ⟨oc, od, kV, doc, pm, an, ct, osl, cda, cc, ccl, cdd, cvs, ccs, file, tf, cl, cld, csl, rfl, lk, hcd, hcda, hvs, hfile, hcc⟩ := S.ex
  refine ⟨fun vs H Q E h => ?_, fun A outer s H args us vs Q E hr e0 hb r hsp => ?_⟩
  · obtain ⟨a, v, rfl, _⟩ := h
    rfl
  obtain ⟨a, v, rfl, ha, q⟩ := hsp
  obtain ⟨u2, rfl⟩ : ∃ u2, us = [.ref a, u2] := by
    cases r with
    | @cons _ u1 _ _ r1 r =>
      cases r with
      | cons r2 r =>
        cases r
        obtain rfl : u1 = Value.ref a := r1
        exact ⟨_, rfl⟩
  have KX : K.In s.heap := e0.mod.kin.keeps fun b o e => (e0.bs b o e).1
  have lim : s.heap.NoLimit := e0.mod.nolimit.keeps fun b o e => (e0.bs b o e).1
  have sc := sc_compInit
  have cH : H cc = none := (e0.bs cc _ (e0.mod.kin _ _ hcc)).2
  have cells : CellsAt (clsCl cc) ["__class__"] [none] s.heap H := by
    have one : ∀ (y : Str) c, (clsCl cc).lookup y = some c → y = ("__class__" : Str) ∧ c = cc := fun y c e => by
      rw [List.lookup_cons] at e
      by_cases h : y = ("__class__" : Str)
      · subst h
        rw [beq_self_eq_true] at e
        exact ⟨rfl, (Option.some.inj e).symm⟩
      · rw [beq_eq_false_iff_ne.mpr h] at e
        cases e
    refine ⟨rfl, fun y c e => ?_, fun x y c e1 e2 => ?_, fun i y e => ?_⟩
    · obtain ⟨_, rfl⟩ := one y c e
      exact ⟨cH, _, _, KX _ _ hcc, rfl⟩
    · rw [(one x c e1).1, (one y c e2).1]
    · cases i with
      | zero =>
        cases e
        exact ⟨cc, rfl, fun v z => by cases z⟩
      | succ i => simp at e
  refine ks_codeAny_call_defAt (fd := PySem.W.ksFn "__init__" "Competing.__init__" (defArgs sCompetingInit) (defBody sCompetingInit) (defScope sCompetingInit) .none kV doc pm an (.ref cda) ct cc) (body := defBody sCompetingInit) (binds := (["self", "pair"] : List Str).zip [Value.ref a, u2])
    hr.depth (KX _ _ lk) rfl lim (PySem.W.codeRec_of KX hcd) rfl hb sc.nocell (fun ⟨n, _⟩ hy => sc.par n (List.of_mem_zip hy).1) (fun h₁ hns kp => ?_) sc.co sc.gen sc.kind
  have I : Inv (ncx CX0 P w K mg base ["self", "pair", "__class__"] ⟨"__init__", "Competing.__init__", defArgs sCompetingInit, defBody sCompetingInit, defScope sCompetingInit, (clsCl cc), cda⟩ f A outer s H E) [] (startF ["self", "pair", "__class__"] [.ref a, v] [none]) H
      { s with heap := h₁, toks := s.toks + ((["self", "pair"] : List Str).zip [Value.ref a, u2]).length } := inv_startN (F := ⟨"__init__", "Competing.__init__", defArgs sCompetingInit, defBody sCompetingInit, defScope sCompetingInit, (clsCl cc), cda⟩) sc hr.hd e0 rfl r cells hns kp
  let X := ncx CX0 P w K mg base ["self", "pair", "__class__"] ⟨"__init__", "Competing.__init__", defArgs sCompetingInit, defBody sCompetingInit, defScope sCompetingInit, (clsCl cc), cda⟩ f A outer s H E
  have I : Inv X [] (startF ["self", "pair", "__class__"] [.ref a, v] [none]) H { s with heap := h₁, toks := s.toks + ((["self", "pair"] : List Str).zip [Value.ref a, u2]).length } := I
  have hcd2 := I.kIn _ _ hcda
  have hf2 := I.kIn _ _ lk
  have hcc2 := I.kIn _ _ hcc
  obtain ⟨t1, ho⟩ := exo_at I.hok ha
  obtain ⟨nm, qn, N, bs, bm, sn, sub, ab, col, dd, k0, k1, k2, k3, k5, hC, hbm⟩ := T.cls
  have hcl : ∃ cd, PySem.W.clsIn K C = some cd ∧ ∃ oD : Obj, K.lookup C = some oD ∧ oD.data = .cls cd := by
    unfold PySem.W.clsIn
    rw [hC]
    exact ⟨_, rfl, _, rfl, rfl⟩
  obtain ⟨cdD, hcls, oD, hoD, hoDd⟩ := hcl
  have hD2 := I.kIn _ _ hoD
  have body : PySem.wpAt (model X.prog X.w) X.A (.func (defBody sCompetingInit) X.env) (execs (defBody sCompetingInit) X.env) (SP X [] { nx := fun _ H' => Q .non H', rt := Q }) X.xe
      { s with heap := h₁, toks := s.toks + ((["self", "pair"] : List Str).zip [Value.ref a, u2]).length } := by
    refine ks_wpAt_execs_cons ?_
    refine ks_wpAt_Expr_any ?_
    refine ks_wpAt_MethodCall ?_
    refine ks_wpAt_super_base (env := X.env) (f := f) (cc := cda) rfl rfl (by decide) rfl hf2 rfl rfl rfl hcd2 rfl hvs hfile S.top ?_
    obtain ⟨mb, b1, b2⟩ := I.mod.blt
    refine PySem.W.ks_loadName_global rfl rfl (loadGlobal_builtin (by rw [I.ok.glob]; exact I.mod.glob.keeps I.bk) hm (by rw [I.ok.blt]; exact b1.keeps I.bk) ((b2 "super" (by decide)).trans boot_super) ⟨rfl, ?_⟩)
    refine wpAny_loadName_free rfl rfl rfl ⟨_, hcc2, rfl⟩ ?_
    refine wpAny_loadName_local rfl rfl hns rfl ?_
    refine ks_wpAny_isType_cls hD2 hoDd ⟨rfl, ?_⟩
    refine ks_wpAny_call_super hD2 hoDd ho rfl (fun c z => by cases z) (PySem.W.looks_mroIn I.kIn S.mro) (fun h' e k => ?_)
    have I2 := I.kept (t' := s.toks + ((["self", "pair"] : List Str).zip [Value.ref a, u2]).length) k
    have hin : PySem.W.InstAt h' a { cls := .ref C, dict := none, data := .fields #[.ref t1, .none, .none, .none, .bool false, .none] } C none := ⟨k _ _ ho, rfl, rfl, trivial⟩
    have hsup : PySem.W.alongIn K "__init__" ((cdD.mro.dropWhile (· != .ref C)).drop 1) = some (some (.builtin "ValueError.__init__")) := by
      have z := S.sup
      unfold PySem.W.ks_superIn at z
      rw [hcls] at z
      exact z
    refine PySem.W.kxs_getMethod PySem.W.kxs_ValueError (l₀ := cdD.mro) e (PySem.W.looks_opaque I2.kIn S.tp) (fun A Q E s k q => wpAny_bind ((PySem.W.looks_clsIn I2.kIn hcls) A _ E s k (wpAny_pure q))) rfl I2.kIn hsup (hin.type.andThen (PySem.W.looks_subIn I2.kIn S.sub)) (PySem.W.ks_ne I2.kIn hin hcls) (by decide) ?_
    have k3 : ∀ b o, h'.get? b = some o → (h'.push (PySem.W.kxs_mw "ValueError.__init__" a)).get? b = some o := fun b o z => Heap.get?_push_of_some _ z
    have hu3 : (h'.push (PySem.W.kxs_mw "ValueError.__init__" a)).get? h'.objs.size = some (PySem.W.kxs_mw "ValueError.__init__" a) := Heap.get?_push_size _ rfl
    have I3 := I2.kept (t' := s.toks + ((["self", "pair"] : List Str).zip [Value.ref a, u2]).length + 1) k3
    refine PySem.W.kxs_callWith (i := "ValueError.__init__") (x := a) rfl ?_
    refine evalArgs_plain ?_
    refine spliced_cons ?_
    refine Constant_str (k := 0) (pos := ⟨0, 0, 0, 0⟩) ?_
    refine spliced_nil ⟨hu3, ?_⟩
    have I4 := I3.tok (s.toks + (([("self" : Str), "pair"] : List Str).zip [Value.ref a, u2]).length + 1 + 1)
    refine call_mw T I4 ha hu3 (by show (1 : Nat) ≤ sizeLine; decide) fun s' J => ?_
    refine wpAt_of_wpAny ((pss_one (ps_ost (X := X) (pv 0) (pv 1))).run [] s' _ H _ J ?_)
    exact ⟨_, rfl, _, rfl, a, C, rfl, T, hno, .inl ⟨ha, fun d hd hne => q d hd hne⟩⟩
  refine ks_wpAt_mono body (fun fl s' hs => ?_) fun e s' z => z
  have fin : ∀ {σ' : L2.St} {H' : Hp} {v : V} {u : Value}, Inv X [] σ' H' s' → RelV v u → Q v H' → CE outer P w H s Q u s' :=
    fun {σ' H' v u} J rv q => ⟨v, H', J.os, J.bare, J.base, J.hok, rv, q⟩
  cases fl with
  | ret u =>
    obtain ⟨v, σ', H', J, rv, q⟩ := hs
    exact fin J rv q
  | next =>
    obtain ⟨σ', H', J, q⟩ := hs
    exact fin (v := V.non) (u := Value.none) J rfl q
  | brk =>
    obtain ⟨_, _, _, q⟩ := hs
    exact False.elim q
  | cont =>
    obtain ⟨_, _, _, q⟩ := hs
    exact False.elim q
theorem sc_ringInit : NScope ["self", "ring", "__class__"] ["self", "ring"] ["__class__"] (defScope sRingedInit) := nscope_by (by decide +kernel)
theorem ok_ringInit (T : OexC K C) (S : SupF P K C f fd "Ringed.__init__" sRingedInit) (hno : PySem.W.findIn K (.ref C) "ring" = some none) (hm : mg "super" = none) : FnOk P w K mg base CX0 1 f fd ["self", "ring"] (spOex "ring" C) := by
  obtain ⟨oc, od, kV, doc, pm, an, ct, osl, cda, cc, ccl, cdd, cvs, ccs, file, tf, cl, cld, csl, rfl, lk, hcd, hcda, hvs, hfile, hcc⟩ := S.ex
  refine ⟨fun vs H Q E h => ?_, fun A outer s H args us vs Q E hr e0 hb r hsp => ?_⟩
  · obtain ⟨a, v, rfl, _⟩ := h
    rfl
  obtain ⟨a, v, rfl, ha, q⟩ := hsp
  obtain ⟨u2, rfl⟩ : ∃ u2, us = [.ref a, u2] := by
    cases r with
    | @cons _ u1 _ _ r1 r =>
      cases r with
      | cons r2 r =>
        cases r
        obtain rfl : u1 = Value.ref a := r1
        exact ⟨_, rfl⟩
  have KX : K.In s.heap := e0.mod.kin.keeps fun b o e => (e0.bs b o e).1
  have lim : s.heap.NoLimit := e0.mod.nolimit.keeps fun b o e => (e0.bs b o e).1
  have sc := sc_ringInit
  have cH : H cc = none := (e0.bs cc _ (e0.mod.kin _ _ hcc)).2
  have cells : CellsAt (clsCl cc) ["__class__"] [none] s.heap H := by
    have one : ∀ (y : Str) c, (clsCl cc).lookup y = some c → y = ("__class__" : Str) ∧ c = cc := fun y c e => by
      rw [List.lookup_cons] at e
      by_cases h : y = ("__class__" : Str)
      · subst h
        rw [beq_self_eq_true] at e
        exact ⟨rfl, (Option.some.inj e).symm⟩
      · rw [beq_eq_false_iff_ne.mpr h] at e
        cases e
    refine ⟨rfl, fun y c e => ?_, fun x y c e1 e2 => ?_, fun i y e => ?_⟩
    · obtain ⟨_, rfl⟩ := one y c e
      exact ⟨cH, _, _, KX _ _ hcc, rfl⟩
    · rw [(one x c e1).1, (one y c e2).1]
    · cases i with
      | zero =>
        cases e
        exact ⟨cc, rfl, fun v z => by cases z⟩
      | succ i => simp at e
  refine ks_codeAny_call_defAt (fd := PySem.W.ksFn "__init__" "Ringed.__init__" (defArgs sRingedInit) (defBody sRingedInit) (defScope sRingedInit) .none kV doc pm an (.ref cda) ct cc) (body := defBody sRingedInit) (binds := (["self", "ring"] : List Str).zip [Value.ref a, u2])
    hr.depth (KX _ _ lk) rfl lim (PySem.W.codeRec_of KX hcd) rfl hb sc.nocell (fun ⟨n, _⟩ hy => sc.par n (List.of_mem_zip hy).1) (fun h₁ hns kp => ?_) sc.co sc.gen sc.kind
  have I : Inv (ncx CX0 P w K mg base ["self", "ring", "__class__"] ⟨"__init__", "Ringed.__init__", defArgs sRingedInit, defBody sRingedInit, defScope sRingedInit, (clsCl cc), cda⟩ f A outer s H E) [] (startF ["self", "ring", "__class__"] [.ref a, v] [none]) H
      { s with heap := h₁, toks := s.toks + ((["self", "ring"] : List Str).zip [Value.ref a, u2]).length } := inv_startN (F := ⟨"__init__", "Ringed.__init__", defArgs sRingedInit, defBody sRingedInit, defScope sRingedInit, (clsCl cc), cda⟩) sc hr.hd e0 rfl r cells hns kp
  let X := ncx CX0 P w K mg base ["self", "ring", "__class__"] ⟨"__init__", "Ringed.__init__", defArgs sRingedInit, defBody sRingedInit, defScope sRingedInit, (clsCl cc), cda⟩ f A outer s H E
  have I : Inv X [] (startF ["self", "ring", "__class__"] [.ref a, v] [none]) H { s with heap := h₁, toks := s.toks + ((["self", "ring"] : List Str).zip [Value.ref a, u2]).length } := I
  have hcd2 := I.kIn _ _ hcda
  have hf2 := I.kIn _ _ lk
  have hcc2 := I.kIn _ _ hcc
  obtain ⟨t1, ho⟩ := exo_at I.hok ha
  obtain ⟨nm, qn, N, bs, bm, sn, sub, ab, col, dd, k0, k1, k2, k3, k5, hC, hbm⟩ := T.cls
  have hcl : ∃ cd, PySem.W.clsIn K C = some cd ∧ ∃ oD : Obj, K.lookup C = some oD ∧ oD.data = .cls cd := by
    unfold PySem.W.clsIn
    rw [hC]
    exact ⟨_, rfl, _, rfl, rfl⟩
  obtain ⟨cdD, hcls, oD, hoD, hoDd⟩ := hcl
  have hD2 := I.kIn _ _ hoD
  have body : PySem.wpAt (model X.prog X.w) X.A (.func (defBody sRingedInit) X.env) (execs (defBody sRingedInit) X.env) (SP X [] { nx := fun _ H' => Q .non H', rt := Q }) X.xe
      { s with heap := h₁, toks := s.toks + ((["self", "ring"] : List Str).zip [Value.ref a, u2]).length } := by
    refine ks_wpAt_execs_cons ?_
    refine ks_wpAt_Expr_any ?_
    refine ks_wpAt_MethodCall ?_
    refine ks_wpAt_super_base (env := X.env) (f := f) (cc := cda) rfl rfl (by decide) rfl hf2 rfl rfl rfl hcd2 rfl hvs hfile S.top ?_
    obtain ⟨mb, b1, b2⟩ := I.mod.blt
    refine PySem.W.ks_loadName_global rfl rfl (loadGlobal_builtin (by rw [I.ok.glob]; exact I.mod.glob.keeps I.bk) hm (by rw [I.ok.blt]; exact b1.keeps I.bk) ((b2 "super" (by decide)).trans boot_super) ⟨rfl, ?_⟩)
    refine wpAny_loadName_free rfl rfl rfl ⟨_, hcc2, rfl⟩ ?_
    refine wpAny_loadName_local rfl rfl hns rfl ?_
    refine ks_wpAny_isType_cls hD2 hoDd ⟨rfl, ?_⟩
    refine ks_wpAny_call_super hD2 hoDd ho rfl (fun c z => by cases z) (PySem.W.looks_mroIn I.kIn S.mro) (fun h' e k => ?_)
    have I2 := I.kept (t' := s.toks + ((["self", "ring"] : List Str).zip [Value.ref a, u2]).length) k
    have hin : PySem.W.InstAt h' a { cls := .ref C, dict := none, data := .fields #[.ref t1, .none, .none, .none, .bool false, .none] } C none := ⟨k _ _ ho, rfl, rfl, trivial⟩
    have hsup : PySem.W.alongIn K "__init__" ((cdD.mro.dropWhile (· != .ref C)).drop 1) = some (some (.builtin "ValueError.__init__")) := by
      have z := S.sup
      unfold PySem.W.ks_superIn at z
      rw [hcls] at z
      exact z
    refine PySem.W.kxs_getMethod PySem.W.kxs_ValueError (l₀ := cdD.mro) e (PySem.W.looks_opaque I2.kIn S.tp) (fun A Q E s k q => wpAny_bind ((PySem.W.looks_clsIn I2.kIn hcls) A _ E s k (wpAny_pure q))) rfl I2.kIn hsup (hin.type.andThen (PySem.W.looks_subIn I2.kIn S.sub)) (PySem.W.ks_ne I2.kIn hin hcls) (by decide) ?_
    have k3 : ∀ b o, h'.get? b = some o → (h'.push (PySem.W.kxs_mw "ValueError.__init__" a)).get? b = some o := fun b o z => Heap.get?_push_of_some _ z
    have hu3 : (h'.push (PySem.W.kxs_mw "ValueError.__init__" a)).get? h'.objs.size = some (PySem.W.kxs_mw "ValueError.__init__" a) := Heap.get?_push_size _ rfl
    have I3 := I2.kept (t' := s.toks + ((["self", "ring"] : List Str).zip [Value.ref a, u2]).length + 1) k3
    refine PySem.W.kxs_callWith (i := "ValueError.__init__") (x := a) rfl ?_
    refine evalArgs_plain ?_
    refine spliced_cons ?_
    refine Constant_str (k := 0) (pos := ⟨0, 0, 0, 0⟩) ?_
    refine spliced_nil ⟨hu3, ?_⟩
    have I4 := I3.tok (s.toks + (([("self" : Str), "ring"] : List Str).zip [Value.ref a, u2]).length + 1 + 1)
    refine call_mw T I4 ha hu3 (by show (1 : Nat) ≤ sizeLine; decide) fun s' J => ?_
    refine wpAt_of_wpAny ((pss_one (ps_ost (X := X) (pv 0) (pv 1))).run [] s' _ H _ J ?_)
    exact ⟨_, rfl, _, rfl, a, C, rfl, T, hno, .inl ⟨ha, fun d hd hne => q d hd hne⟩⟩
  refine ks_wpAt_mono body (fun fl s' hs => ?_) fun e s' z => z
  have fin : ∀ {σ' : L2.St} {H' : Hp} {v : V} {u : Value}, Inv X [] σ' H' s' → RelV v u → Q v H' → CE outer P w H s Q u s' :=
    fun {σ' H' v u} J rv q => ⟨v, H', J.os, J.bare, J.base, J.hok, rv, q⟩
  cases fl with
  | ret u =>
    obtain ⟨v, σ', H', J, rv, q⟩ := hs
    exact fin J rv q
  | next =>
    obtain ⟨σ', H', J, q⟩ := hs
    exact fin (v := V.non) (u := Value.none) J rfl q
  | brk =>
    obtain ⟨_, _, _, q⟩ := hs
    exact False.elim q
  | cont =>
    obtain ⟨_, _, _, q⟩ := hs
    exact False.elim q
end RP

/-! KW16 -/
/-! Walks: need_no_pair, need_no_ring, stages. -/
namespace RP
open PySem PySem.Spec PyProof.Rows L2 SupX
variable {P : Program} {w : World} {K : PySem.W.Frag} {mg : Str → Option Value} {base : Heap}
/-- an own exception with an __init__ of its own that takes one value -/
structure OX (P : Program) (K : PySem.W.Frag) (mg : Str → Option Value) (x qual : Str) (st : Stmt) (fld : Str) where
  C : Addr
  f : Addr
  fd : FuncData
  g : mg x = some (.ref C)
  o : OexC K C
  i : PySem.W.findIn K (.ref C) "__init__" = some (some (.ref f))
  t : PySem.W.typeIn K (.ref f) = some (.type "function")
  b : Binds K fd ["self", fld] []
  s : SupF P K C f fd qual st
  no : PySem.W.findIn K (.ref C) fld = some none
structure EX (P : Program) (K : PySem.W.Frag) (mg : Str → Option Value) where
  comp : OX P K mg "Competing" "Competing.__init__" sCompetingInit "pair"
  ring : OX P K mg "Ringed" "Ringed.__init__" sRingedInit "ring"
  n_super : mg "super" = none
theorem passX {CX : CXT} {X : Cx} {E : XK} (h : CX = CX0) : Passes CX X E := fun _ _ _ _ _ _ _ z => by
  subst h
  exact z.elim
/-- what the heap tells behind a raise of it -/
def Rsd (E : XK) (C : Addr) (H : Hp) (fld : Str) : Prop := ∀ d v H', Same H H' → H' d = some (.xd [(fld, v)]) → E (.ref C) (some d) H'
def spNoPair (C CE : Addr) : Sp := fun vs H Q E => ∃ (a : Addr) (R : RC.Tab), vs = [.ref a] ∧ TabAt C H a R ∧ (RC.groupsRaw R = [] → ∀ H', Same H H' → Q .non H') ∧ (RC.groupsRaw R ≠ [] → Rsd E CE H "pair")
theorem sc_noPair : FnScope ["table", "groups"] ["table"] (defScope sNeedNoPair) := ⟨rfl, rfl, rfl, by decide +kernel, rfl, by decide +kernel, by decide +kernel⟩
theorem sc_noRing : FnScope ["table", "rings"] ["table"] (defScope sNeedNoRing) := ⟨rfl, rfl, rfl, by decide +kernel, rfl, by decide +kernel, by decide +kernel⟩
/-- the heap behind the making of an exception -/
theorem same_raised {H1 H3 : Hp} {e d : Addr} {o1 : HO} {o2 o3 o4 : HO} (he : H1 e = none) (hd : H1 d = none) (hde : d ≠ e) (h3 : H3 = upd (upd (upd H1 e o1) d o2) e o3) : Same H1 (upd (del H3 e) d o4) := by
  subst h3
  intro b o hb
  have n1 : b ≠ e := ne_of_none hb he
  have n2 : b ≠ d := ne_of_none hb hd
  rw [upd_ne n2, del_ne n1, upd_ne n1, upd_ne n2, upd_ne n1]
  exact hb
theorem ok_noPair (T : TX K mg) (X : EX P K mg) : FnOk P w K mg base (L2.CX P w) 5 T.d_need_no_pair.f T.d_need_no_pair.fd ["table"] (spNoPair T.cTable.C X.comp.C) := by
  have G1 := ok_groupsOf (P := P) (w := w) (base := base) T
  have G2 := ok_compInit (P := P) (w := w) (mg := mg) (base := base) X.comp.o X.comp.s X.comp.no X.n_super
  refine T.d_need_no_pair.F.okX sc_noPair (fun vs H Q E h => ?_) (fun cdv A outer s H vs Q E hr h => ?_)
  · obtain ⟨a, R, rfl, _⟩ := h
    rfl
  · obtain ⟨a, R, rfl, ht, q, qe⟩ := h
    refine ⟨_, pss_cons (ps_set (i := 1) sc_noPair.nd rfl (.inl rfl) (pc T.d_groups_of G1 hr (pa_cons (pv 0) pa_nil)))
      (pss_one (ps_if (pt_cmpR (op_neD (by exact hr.units)) (pv 1) (pe_lst pa_nil) (nomark _))
        (pss_one (ps_raise rfl (takes_of rfl rfl rfl rfl) (pmk_oex X.comp.o X.comp.i X.comp.t G2 (hr.mono (by decide)) X.comp.b .nil (passX rfl) (by rfl) X.comp.g (pa_cons (pe_slice sl_tupA (pe_ix ix_list (pv 1) pe_int (fun _ _ => rfl)) po_none (po_some pe_int)) pa_nil)))) pss_nil)), ?_⟩
    refine ⟨_, rfl, a, R, rfl, ht, fun p1 ys1 H1 s1 hp1 hd1 => ?_⟩
    refine ⟨_, rfl, Nat.zero_le _, fun z hz => ne_nil hp1 hd1 hz (shp_gs R) ⟨_, rfl, ?_⟩⟩
    rw [dGs_empty]
    have s2 := s1.trans (same_new (o := .lst []) hz)
    by_cases h1 : RC.groupsRaw R = []
    · rw [decide_eq_true h1]
      exact iteF (q h1 _ s2)
    · rw [decide_eq_false h1]
      have hne : dGs R ≠ [] := fun e => h1 (by have := dGs_empty R; rw [e] at this; exact of_decide_eq_true this.symm)
      have hd1'' := hd1.same (same_new (o := .lst []) hz)
      cases ys1 with
      | nil =>
        cases hh : dGs R with
        | nil => exact absurd hh hne
        | cons d ds =>
          rw [hh] at hd1''
          cases hd1''
      | cons y ys1 =>
        cases hh : dGs R with
        | nil => exact absurd hh hne
        | cons d ds =>
          rw [hh] at hd1''
          cases hd1'' with
          | cons hy _ =>
            have hdm : d ∈ (RC.groupsRaw R).map dT := (sds_perm _).mem_iff.mp (by show d ∈ dGs R; rw [hh]; exact List.mem_cons_self)
            obtain ⟨g, hg, rfl⟩ := List.mem_map.mp hdm
            obtain ⟨b, rfl, hb⟩ := hy.ints_inv
            refine iteT ⟨_, rfl, p1, _, _, .ref b, rfl, rfl, SqL.of ((same_new (o := .lst []) hz) _ _ hp1), atI_nat (j := 0) rfl, 2, rfl, sl_head (n := 2) hb fun p H5 s5 hp5 => ⟨by show (1 : Nat) ≤ 1000; decide, fun e he => ?_⟩⟩
            refine ⟨e, .ref p, rfl, upd_same, fun d hd hde => ⟨rfl, d, [("pair", .ref p)], upd_same, ?_, ?_, ?_⟩⟩
            · rw [upd_ne hde, upd_same]
            · rw [upd_ne hde] at hd
              exact hd
            · rw [upd_ne hde] at hd
              exact qe h1 d (.ref p) _ ((s2.trans s5).trans (same_raised he hd hde rfl)) upd_same
def spNoRing (C CE : Addr) : Sp := fun vs H Q E => ∃ (a : Addr) (R : RC.Tab), vs = [.ref a] ∧ TabAt C H a R ∧ (RC.ringsOf R = [] → ∀ H', Same H H' → Q .non H') ∧ (RC.ringsOf R ≠ [] → Rsd E CE H "ring")
theorem ok_noRing (T : TX K mg) (X : EX P K mg) : FnOk P w K mg base (L2.CX P w) 9 T.d_need_no_ring.f T.d_need_no_ring.fd ["table"] (spNoRing T.cTable.C X.ring.C) := by
  have G1 := ok_ringsOf (P := P) (w := w) (base := base) T
  have G2 := ok_ringInit (P := P) (w := w) (mg := mg) (base := base) X.ring.o X.ring.s X.ring.no X.n_super
  refine T.d_need_no_ring.F.okX sc_noRing (fun vs H Q E h => ?_) (fun cdv A outer s H vs Q E hr h => ?_)
  · obtain ⟨a, R, rfl, _⟩ := h
    rfl
  · obtain ⟨a, R, rfl, ht, q, qe⟩ := h
    refine ⟨_, pss_cons (ps_set (i := 1) sc_noRing.nd rfl (.inl rfl) (pc T.d_rings_of G1 hr (pa_cons (pv 0) pa_nil)))
      (pss_one (ps_if (pt_cmpR (op_neD (by exact hr.units)) (pv 1) (pe_lst pa_nil) (nomark _))
        (pss_one (ps_raise rfl (takes_of rfl rfl rfl rfl) (pmk_oex X.ring.o X.ring.i X.ring.t G2 (hr.mono (by decide)) X.ring.b .nil (passX rfl) (by rfl) X.ring.g (pa_cons (pe_ix ix_list (pv 1) pe_int (fun _ _ => rfl)) pa_nil)))) pss_nil)), ?_⟩
    refine ⟨_, rfl, a, R, rfl, ht, fun p1 ys1 H1 s1 hp1 hd1 => ?_⟩
    refine ⟨_, rfl, Nat.zero_le _, fun z hz => ne_nil (n := 1) hp1 hd1 hz (Shp.Ts _) ⟨_, rfl, ?_⟩⟩
    rw [rings_empty]
    have s2 := s1.trans (same_new (o := .lst []) hz)
    by_cases h1 : RC.ringsOf R = []
    · rw [decide_eq_true h1]
      exact iteF (q h1 _ s2)
    · rw [decide_eq_false h1]
      cases er : RC.ringsOf R with
      | nil => exact absurd er h1
      | cons g gs =>
        rw [er] at hd1
        cases ys1 with
        | nil => cases hd1
        | cons y ys1 =>
          refine iteT ⟨_, rfl, p1, _, _, y, rfl, rfl, SqL.of ((same_new (o := .lst []) hz) _ _ hp1), atI_nat (j := 0) rfl, by show (1 : Nat) ≤ 1000; decide, fun e he => ?_⟩
          refine ⟨e, y, rfl, upd_same, fun d hd hde => ⟨rfl, d, [("ring", y)], upd_same, ?_, ?_, ?_⟩⟩
          · rw [upd_ne hde, upd_same]
          · rw [upd_ne hde] at hd
            exact hd
          · rw [upd_ne hde] at hd
            exact qe h1 d y _ (s2.trans (same_raised he hd hde rfl)) upd_same
end RP

/-! KLv -/
/-! A list of lists that grows. -/
namespace L2
open PySem PySem.Spec PyProof.Rows
structure LvE (H0 H : Hp) (l : Addr) (E : List (Addr × List Int)) : Prop where
  same : Same H0 H
  lnew : H0 l = none
  dat : H l = some (.lst (E.map fun e => V.ref e.1))
  nl : ∀ e ∈ E, e.1 ≠ l
  na : (E.map fun e => e.1).Nodup
  at_ : ∀ e ∈ E, H0 e.1 = none ∧ H e.1 = some (.lst (e.2.map V.int))
def LvAt (H0 H : Hp) (l : Addr) (Ls : List (List Int)) : Prop := ∃ E, LvE H0 H l E ∧ E.map (fun e => e.2) = Ls
theorem LvAt.mono {H0 H H' : Hp} {l : Addr} {Ls} (g : LvAt H0 H l Ls) (s : Same H H') : LvAt H0 H' l Ls := by
  obtain ⟨E, g, e⟩ := g
  exact ⟨E, ⟨g.same.trans s, g.lnew, s _ _ g.dat, g.nl, g.na, fun e he => ⟨(g.at_ e he).1, s _ _ (g.at_ e he).2⟩⟩, e⟩
theorem LvE.push {H0 H : Hp} {l z : Addr} {E} (g : LvE H0 H l E) (hz : H z = none) :
    LvAt H0 (upd (upd H z (.lst [])) l (.lst ((E.map fun e => V.ref e.1) ++ [.ref z]))) l (E.map (fun e => e.2) ++ [[]]) := by
  have z0 : H0 z = none := none_of_same g.same hz
  have nzl : z ≠ l := (ne_of_none g.dat hz).symm
  refine ⟨E ++ [(z, [])], ⟨(g.same.mut z0).mut g.lnew, g.lnew, ?_, ?_, ?_, ?_⟩, ?_⟩
  · rw [upd_same, List.map_append]
    rfl
  · intro e he
    rcases List.mem_append.mp he with he | he
    · exact g.nl e he
    · have : e = (z, []) := by simpa using he
      subst this
      exact nzl
  · rw [List.map_append]
    refine List.nodup_append.mpr ⟨g.na, by simp, fun a ha b hb => ?_⟩
    have : b = z := by simpa using hb
    rw [this]
    obtain ⟨e, he, rfl⟩ := List.mem_map.mp ha
    exact ne_of_none (g.at_ e he).2 hz
  · intro e he
    rcases List.mem_append.mp he with he | he
    · refine ⟨(g.at_ e he).1, ?_⟩
      rw [upd_ne (g.nl e he), upd_ne (ne_of_none (g.at_ e he).2 hz)]
      exact (g.at_ e he).2
    · have : e = (z, []) := by simpa using he
      subst this
      refine ⟨z0, ?_⟩
      rw [upd_ne nzl, upd_same]
      rfl
  · rw [List.map_append]
    rfl
theorem nodup_get {α : Type} {l : List α} (h : l.Nodup) {i j : Nat} {a : α} (hi : l[i]? = some a) (hj : l[j]? = some a) : i = j := by
  exact (List.getElem?_inj (List.getElem?_eq_some_iff.mp hi).1 h).mp (hi.trans hj.symm)
theorem LvE.app {H0 H : Hp} {l : Addr} {E} (g : LvE H0 H l E) {j : Nat} {e : Addr × List Int} (he : E[j]? = some e) (k : Int) :
    LvAt H0 (upd H e.1 (.lst ((e.2 ++ [k]).map V.int))) l ((E.map fun e => e.2).modify j (· ++ [k])) := by
  have hm := List.mem_of_getElem? he
  refine ⟨E.modify j fun x => (x.1, x.2 ++ [k]), ⟨g.same.mut (g.at_ e hm).1, g.lnew, ?_, ?_, ?_, ?_⟩, ?_⟩
  · rw [upd_ne (g.nl e hm).symm, g.dat]
    congr 2
    apply List.ext_getElem?
    intro i
    rw [List.getElem?_map, List.getElem?_map, List.getElem?_modify]
    cases E[i]? with
    | none => rfl
    | some x =>
      show some _ = Option.map _ (some _)
      split <;> rfl
  · intro x hx
    obtain ⟨i, hi⟩ := List.mem_iff_getElem?.mp hx
    rw [List.getElem?_modify] at hi
    cases e1 : E[i]? with
    | none =>
      rw [e1] at hi
      cases hi
    | some y =>
      rw [e1] at hi
      have := Option.some.inj hi
      subst this
      have := g.nl y (List.mem_of_getElem? e1)
      split <;> exact this
  · have : (E.modify j fun x => (x.1, x.2 ++ [k])).map (fun e => e.1) = E.map fun e => e.1 := by
      apply List.ext_getElem?
      intro i
      rw [List.getElem?_map, List.getElem?_map, List.getElem?_modify]
      cases E[i]? with
      | none => rfl
      | some x =>
        show Option.map _ (some _) = some _
        split <;> rfl
    rw [this]
    exact g.na
  · intro x hx
    obtain ⟨i, hi⟩ := List.mem_iff_getElem?.mp hx
    rw [List.getElem?_modify] at hi
    cases e1 : E[i]? with
    | none =>
      rw [e1] at hi
      cases hi
    | some y =>
      rw [e1] at hi
      have := Option.some.inj hi
      subst this
      have hy := g.at_ y (List.mem_of_getElem? e1)
      by_cases q : j = i
      · subst q
        rw [he] at e1
        have := Option.some.inj e1
        subst this
        dsimp only
        rw [if_pos rfl]
        exact ⟨hy.1, upd_same⟩
      · dsimp only
        rw [if_neg q]
        refine ⟨hy.1, ?_⟩
        have : y.1 ≠ e.1 := fun z => q (nodup_get g.na (by rw [List.getElem?_map, he]; rfl) (by rw [List.getElem?_map, e1]; exact congrArg some z))
        show upd H e.1 _ y.1 = _
        rw [upd_ne this]
        exact hy.2
  · apply List.ext_getElem?
    intro i
    rw [List.getElem?_map, List.getElem?_modify, List.getElem?_modify, List.getElem?_map]
    cases E[i]? with
    | none => rfl
    | some x =>
      show Option.map _ (some _) = some _
      split <;> rfl
theorem lv_empty {H0 H : Hp} {l : Addr} (s : Same H0 H) (h0 : H0 l = none) (h : H l = some (.lst [])) : LvAt H0 H l [] := ⟨[], ⟨s, h0, h, fun e he => absurd he List.not_mem_nil, List.nodup_nil, fun e he => absurd he List.not_mem_nil⟩, rfl⟩
end L2

/-! KW17 -/
/-! Walks: stages. -/
namespace RP
open PySem PySem.Spec PyProof.Rows L2 SupX
variable {P : Program} {w : World} {K : PySem.W.Frag} {mg : Str → Option Value} {base : Heap}
def spStages (K : PySem.W.Frag) (C CC CR : Addr) : Sp := fun vs H Q E => ∃ (a : Addr) (R : RC.Tab), vs = [.ref a] ∧ TabAt C H a R ∧ (RC.Free R → ∀ p H', Same H H' → Dp K H' (.ref p) (dTs (RC.stagesOf R)) → Q (.ref p) H') ∧
  (¬ RC.Free R → Rsd E CC H "pair" ∧ Rsd E CR H "ring")
theorem sc_stages : FnScope ["table", "found", "key", "depth", "rows"] ["table"] (defScope sStages) := ⟨rfl, rfl, rfl, by decide +kernel, rfl, by decide +kernel, by decide +kernel⟩
theorem Rsd.same {E : XK} {C : Addr} {H H' : Hp} {fld : Str} (h : Rsd E C H fld) (s : Same H H') : Rsd E C H' fld := fun d v H2 s2 e => h d v H2 (s.trans s2) e
theorem ok_stages (T : TX K mg) (X : EX P K mg) : FnOk P w K mg base (L2.CX P w) 10 T.d_stages.f T.d_stages.fd ["table"] (spStages K T.cTable.C X.comp.C X.ring.C) := by
  have G0 := ok_needT (P := P) (w := w) (base := base) T
  have G1 := ok_noPair (w := w) (base := base) T X
  have G2 := ok_noRing (w := w) (base := base) T X
  have G3 := ok_keys (P := P) (w := w) (base := base) T
  have G4 := ok_path (P := P) (w := w) (base := base) T
  refine T.d_stages.F.okX sc_stages (fun vs H Q E h => ?_) (fun cdv A outer s H vs Q E hr h => ?_)
  · obtain ⟨a, R, rfl, _⟩ := h
    rfl
  · obtain ⟨a, R, rfl, ht, q, qe⟩ := h
    refine ⟨_, pss_cons (ps_expr (pc T.d_need_table G0 (hr.mono (by decide)) (pa_cons (pv 0) pa_nil)))
      (pss_cons (ps_expr (pe_call (E := E) G1 (hr.mono (by decide)) rfl T.d_need_no_pair.g T.d_need_no_pair.F.kp T.d_need_no_pair.b .nil (passes_call (takes_of rfl rfl rfl rfl) (fun _ _ _ _ h => h)) (pa_cons (pv 0) pa_nil)))
      (pss_cons (ps_expr (pe_call (E := E) G2 hr rfl T.d_need_no_ring.g T.d_need_no_ring.F.kp T.d_need_no_ring.b .nil (passes_call (takes_of rfl rfl rfl rfl) (fun _ _ _ _ h => h)) (pa_cons (pv 0) pa_nil)))
      (PSs.nox (pss_cons (ps_set (i := 1) sc_stages.nd rfl (.inl rfl) (pe_lst pa_nil))
      (pss_cons (ps_for PassesOwn.never rfl (pi_list (pc T.d_keys_of G3 (hr.mono (by decide)) (pa_cons (pv 0) pa_nil))) (pg_name (i := 2) sc_stages.nd rfl (.inl rfl))
        (pss_cons (ps_set (i := 3) sc_stages.nd rfl (.inl rfl) (pb call_len_seq T.n_len bb_len (pa_cons (pc T.d_path_of G4 (hr.mono (by decide)) (pa_cons (pv 0) (pa_cons (pv 2) pa_nil))) pa_nil)))
        (pss_cons (ps_while PassesOwn.never (pt_cmpR op_lt (pb call_len_seq T.n_len bb_len (pa_cons (pv 1) pa_nil)) (pv 3) (nomark _)) (pss_one (ps_expr (pe_bm PySem.F.plainAttrs_list PySem.F.slot_list_append PySem.F.type_list_append mt_append (pv 1) (pa_cons (pe_lst pa_nil) pa_nil)))))
        (pss_one (ps_expr (pe_bm PySem.F.plainAttrs_list PySem.F.slot_list_append PySem.F.type_list_append mt_append (pe_ix ix_list (pv 1) (pe_op op_sub (pv 3) pe_int) (fun _ _ => rfl)) (pa_cons (pv 2) pa_nil)))))))
      (pss_one (ps_ret (pbt call_tuple_of T.n_tuple bb_tuple (pa_cons (pe_lc (own := [("rows", 4)]) (g := gName 4) (te := tCB (rTupK K) (tCons (tVar 4) tNil)) (tt := tYes) rfl sc_stages.nd (pi_list (pv 1)) (blkOk_by (N := ["table", "found", "key", "depth", "rows"]) (sc := defScope sStages) (by decide +kernel))
        (fun _ _ _ _ _ => pg_name (i := 4) sc_stages.nd rfl (Or.inl rfl)) (fun _ _ _ _ _ => pts_nil) (fun _ _ _ _ _ => pbt call_tuple_of T.n_tuple bb_tuple (pa_cons (pv 4) pa_nil))) pa_nil))))))))), ?_⟩
    refine ⟨_, rfl, a, R, rfl, ht, _, rfl, a, R, rfl, ht, fun hg HA sA => ?_, fun hg => (qe fun z => hg z.1).1⟩
    refine ⟨_, rfl, a, R, rfl, ht.same sA, fun hrg HB sB => ?_, fun hrg => (qe fun z => hrg z.2).2.same sA⟩
    have hfree : RC.Free R := ⟨hg, hrg⟩
    have sAB := sA.trans sB
    have h40 := ht.len
    refine ⟨Nat.zero_le _, fun l hl => ?_⟩
    have s0 := same_new (o := .lst []) hl
    have lH : H l = none := none_of_same sAB hl
    refine ⟨_, rfl, a, R, rfl, ht.same (sAB.trans s0), fun kl H1 hkl s1 hk => ⟨kl, rfl, ⟨_, SqL.of hk⟩, ?_⟩⟩
    have l1 : H1 l = some (.lst []) := s1 _ _ upd_same
    have nkl : kl ≠ l := fun e => by rw [e, upd_same] at hkl; cases hkl
    have sH : Same H (del H1 l) := del_keep ((sAB.trans s0).trans s1) lH
    have hk' : del H1 l kl = some (.lst ((RC.keys R).map V.int)) := by rw [del_ne nkl]; exact hk
    refine for_list (K := K) (a := kl) (xs := (RC.keys R).map V.int) (fun i σ H' => ∃ v2 v3, σ = [some (.ref a), some (.ref l), v2, v3, none] ∧ LvAt (del H1 l) H' l (RC.levels R ((RC.keys R).take i)))
      ⟨none, none, rfl, lv_empty del_sub L2.del_same l1⟩ (fun i σ H' _ ⟨_, _, _, g⟩ => by obtain ⟨E, g, _⟩ := g; exact SqL.of (g.same _ _ hk')) ?_ ?_
    · rintro i x σ H2 hi ⟨v2, v3, rfl, g⟩
      rw [List.getElem?_map] at hi
      cases e3 : (RC.keys R)[i]? with
      | none =>
        rw [e3] at hi
        cases hi
      | some k =>
        rw [e3] at hi
        cases hi
        have hkk := List.mem_of_getElem? e3
        have sg : Same (del H1 l) H2 := by obtain ⟨E, g, _⟩ := g; exact g.same
        have pl := RC.path_len hkk h40
        refine ⟨_, rfl, _, rfl, a, R, k, rfl, ht.same (sH.trans sg), hkk, fun p H3 hp0 s3 hp => ⟨p, _, rfl, .inl (SqL.of hp), ?_⟩⟩
        rw [List.length_map]
        have g3 := g.mono s3
        have hsnoc := RC.levels_snoc (R := R) (l := (RC.keys R).take i) (k := k) pl.1
        rw [← take_get e3] at hsnoc
        have hlen : (RC.levels R ((RC.keys R).take i)).length = RC.maxD R ((RC.keys R).take i) := RC.levels_len ..
        generalize hd : (RC.path R k).length = dep at pl hsnoc ⊢
        generalize hL : RC.levels R ((RC.keys R).take i) = Ls at g3 hsnoc hlen
        generalize hM : RC.maxD R ((RC.keys R).take i) = mx at hsnoc hlen
        have hmx : mx ≤ 40 := by
          rw [← hM]
          have : ∀ q : List Int, (∀ x ∈ q, x ∈ RC.keys R) → RC.maxD R q ≤ 40 := by
            intro q
            induction q with
            | nil => intro _; exact Nat.zero_le _
            | cons y q ih =>
              intro hq
              have h1 := (RC.path_len (hq y List.mem_cons_self) h40).2
              have h2 := ih fun x hx => hq x (List.mem_cons_of_mem _ hx)
              show max _ _ ≤ 40
              omega
          exact this _ fun x hx => List.mem_of_mem_take hx
        refine ⟨fun m σ H' => ∃ n, σ = [some (.ref a), some (.ref l), some (.int k), some (.int dep), none] ∧ LvAt (del H1 l) H' l (Ls ++ List.replicate n []) ∧ n ≤ dep - mx ∧ n + m = dep - mx,
          ⟨dep - mx, 0, rfl, by rw [List.replicate_zero, List.append_nil]; exact g3, Nat.zero_le _, Nat.zero_add _⟩, ?_⟩
        rintro m σ H4 ⟨n, rfl, g4, hn, hnm⟩
        obtain ⟨E4, g4', e4⟩ := g4
        have hl4 := g4'.dat
        have hE4 : E4.length = mx + n := by
          have := congrArg List.length e4
          rw [List.length_map, List.length_append, List.length_replicate] at this
          omega
        refine ⟨_, rfl, l, _, rfl, .inl (SqL.of hl4), _, rfl, _, _, rfl, rfl, _, rfl, ?_⟩
        rw [List.length_map, hE4]
        by_cases hlt : mx + n < dep
        · have e1 : decide (((mx + n : Nat) : Int) < (dep : Int)) = true := decide_eq_true (by omega)
          rw [e1]
          cases m with
          | zero => omega
          | succ m =>
            refine iteT ⟨_, fun σ' H' z => ⟨m, Nat.lt_succ_self m, z⟩, _, rfl, .inl ⟨rfl, _, SqL.of hl4⟩, Nat.zero_le _, fun z hz => ?_⟩
            have hl5 : upd H4 z (.lst []) l = some (.lst (E4.map fun e => V.ref e.1)) := by rw [upd_ne (ne_of_none hl4 hz)]; exact hl4
            refine ⟨l, _, .ref z, rfl, rfl, hl5, by rw [List.length_map, hE4]; exact small1000 (by omega), n + 1, rfl, ?_, by omega, by omega⟩
            have := g4'.push hz
            rw [e4, List.append_assoc] at this
            rw [List.replicate_succ']
            exact this
        · have e1 : decide (((mx + n : Nat) : Int) < (dep : Int)) = false := decide_eq_false (by omega)
          rw [e1]
          have hn2 : n = dep - mx := by omega
          subst hn2
          have hj : dep - 1 < E4.length := by omega
          have hget : E4[dep - 1]? = some E4[dep - 1] := List.getElem?_eq_getElem hj
          have ha := (g4'.at_ _ (List.mem_of_getElem? hget)).2
          have hix : atI (E4.map fun e => V.ref e.1) ((dep : Int) - 1) = some (V.ref (E4[dep - 1]).1) := by
            have : (dep : Int) - 1 = ((dep - 1 : Nat) : Int) := by omega
            rw [this]
            exact atI_nat (by rw [List.getElem?_map, hget]; rfl)
          have hsz : (E4[dep - 1]).2.length ≤ 40 := by
            have h1 : (E4.map fun e => e.2)[dep - 1]? = some (E4[dep - 1]).2 := by rw [List.getElem?_map, hget]; rfl
            rw [e4] at h1
            have hmem := List.mem_of_getElem? h1
            rcases List.mem_append.mp hmem with hmem | hmem
            · rw [← hL] at hmem
              unfold RC.levels at hmem
              obtain ⟨d, _, hd2⟩ := List.mem_map.mp hmem
              rw [← hd2]
              unfold RC.level
              have h2 := List.length_filter_le (fun k => decide ((RC.path R k).length = d + 1)) ((RC.keys R).take i)
              have h3 : ((RC.keys R).take i).length ≤ (RC.keys R).length := by rw [List.length_take]; omega
              rw [RC.keys_len] at h3
              omega
            · rw [List.eq_of_mem_replicate hmem]
              exact Nat.zero_le _
          refine iteF ⟨_, rfl, _, rfl, _, _, rfl, rfl, l, _, _, _, rfl, rfl, SqL.of hl4, hix, .inl ⟨rfl, _, SqL.of ha⟩, _, rfl, _, _, _, rfl, rfl, ha, by rw [List.length_map]; exact small1000 (by omega), ?_⟩
          refine ⟨_, _, rfl, ?_⟩
          have := g4'.app hget k
          rw [e4, List.map_append, ← hsnoc] at this
          exact this
    · rintro σ H2 ⟨v2, v3, rfl, g⟩
      rw [List.length_map, List.take_length] at g
      obtain ⟨E2, g, hE⟩ := g
      refine ⟨_, rfl, l, rfl, ⟨_, SqL.of g.dat⟩, fun D hD => ?_⟩
      have hEl : E2.length ≤ 100000 := by
        have h1 : E2.length = (RC.levels R (RC.keys R)).length := by rw [← hE, List.length_map]
        rw [RC.levels_len] at h1
        have : ∀ q : List Int, (∀ x ∈ q, x ∈ RC.keys R) → RC.maxD R q ≤ 40 := by
          intro q
          induction q with
          | nil => intro _; exact Nat.zero_le _
          | cons y q ih =>
            intro hq
            have h1 := (RC.path_len (hq y List.mem_cons_self) h40).2
            have h2 := ih fun x hx => hq x (List.mem_cons_of_mem _ hx)
            show max _ _ ≤ 40
            omega
        have := this _ fun x hx => hx
        omega
      refine lc_dp (K := K) (walk_list (K := K) (a := l) (xs := E2.map fun e => V.ref e.1)) (fun i => (E2[i]?).map fun e => dT e.2) hD (by rw [List.length_map]; exact hEl) (fun H' s => SqL.of (s _ _ g.dat)) (fun i x H3 H4 QY QN hi s3 hacc hy qy qn => ?_) (fun H3 acc s3 hacc h => ?_)
      · obtain ⟨rfl, hx⟩ := hy
        rw [List.getElem?_map] at hx
        cases e3 : E2[i]? with
        | none =>
          rw [e3] at hx
          cases hx
        | some e =>
          rw [e3] at hx qy
          cases hx
          have ha := s3 _ _ (g.at_ _ (List.mem_of_getElem? e3)).2
          refine ⟨rfl, yesI ⟨_, rfl, _, _, rfl, .inl ⟨SqL.of ha, fun t htt => ?_⟩⟩⟩
          obtain ⟨acc, hacc⟩ := hacc
          exact qy _ rfl _ _ (same_new htt) (dp_del ((same_new htt) _ _ hacc) (tupD_T _) (Dp.ofT (.inl (.inl upd_same))))
      · rw [List.length_map, rng_map] at h
        have e1 : E2.map (fun e => dT e.2) = (RC.stagesOf R).map dT := by
          show _ = (RC.levels R (RC.keys R)).map dT
          rw [← hE, List.map_map]
          rfl
        rw [e1] at h
        refine ⟨D, acc, rfl, .inl ⟨SqL.of hacc, fun t htt => ?_⟩⟩
        exact q hfree t _ (((sH.trans g.same).trans s3).trans (same_new htt)) (.tup (.inl (.inl upd_same)) ((h.same del_sub).same (same_new htt)))
end RP

/-! KW18 -/
/-! Walks: the law's cells, pens, draws, picks, mixings. -/
namespace RP
open PySem PySem.Spec PyProof.Rows L2
variable {P : Program} {w : World} {K : PySem.W.Frag} {mg : Str → Option Value} {base : Heap}
def spCellAt (K : PySem.W.Frag) : Sp := fun vs H Q _ => ∃ (a : Addr) (k : Nat) (xs : List Int), vs = [.ref a, .int k] ∧ SqL K H a (xs.map V.int) ∧ ∀ c : Int, Q (.int c) H
theorem sc_cellAt : FnScope ["_law_script", "_law_k"] ["_law_script", "_law_k"] (defScope sLawCellAt) := ⟨rfl, rfl, rfl, by decide +kernel, rfl, by decide +kernel, by decide +kernel⟩
theorem ok_cellAt (T : TX K mg) : FnOk P w K mg base CX0 1 T.d_law_cell_at.f T.d_law_cell_at.fd ["_law_script", "_law_k"] (spCellAt K) := by
  refine T.d_law_cell_at.F.ok sc_cellAt (fun vs H Q E h => ?_) (fun cdv A outer s H vs Q E hr h => ?_)
  · obtain ⟨a, k, xs, rfl, _⟩ := h
    rfl
  · obtain ⟨a, k, xs, rfl, hs, q⟩ := h
    refine ⟨_, pss_cons (ps_if (pt_cmpR op_lt (pv 1) (pb call_len_seq T.n_len bb_len (pa_cons (pv 0) pa_nil)) (nomark _)) (pss_one (ps_ret (pe_ix ix_list (pv 0) (pv 1) (fun _ _ => rfl)))) pss_nil) (pss_one (ps_ret pe_int)), ?_⟩
    refine ⟨_, rfl, _, rfl, a, _, rfl, .inl hs, _, _, rfl, rfl, _, rfl, ?_⟩
    rw [List.length_map]
    by_cases h : k < xs.length
    · have : decide (((k : Nat) : Int) < ((xs.length : Nat) : Int)) = true := decide_eq_true (by omega)
      rw [this]
      exact iteT ⟨_, rfl, _, rfl, a, _, _, _, rfl, rfl, hs, atI_nat (j := k) (by rw [List.getElem?_map, List.getElem?_eq_getElem h]; rfl), q _⟩
    · have : decide (((k : Nat) : Int) < ((xs.length : Nat) : Int)) = false := decide_eq_false (by omega)
      rw [this]
      exact iteF (q 0)
/-- a pen at p -/
def Pen (H : Hp) (p : Addr) : Prop := ∃ a b c : Int, H p = some (.lst [.int a, .int b, .int c])
def spPen : Sp := fun vs H Q _ => ∃ c : Int, vs = [.int c] ∧ ∀ p x y z, H p = none → Q (.ref p) (upd H p (.lst [.int x, .int y, .int z]))
theorem sc_pen : FnScope ["_law_cell"] ["_law_cell"] (defScope sLawPen) := ⟨rfl, rfl, rfl, by decide +kernel, rfl, by decide +kernel, by decide +kernel⟩
theorem ok_pen (T : TX K mg) : FnOk P w K mg base CX0 1 T.d_law_pen.f T.d_law_pen.fd ["_law_cell"] spPen := by
  refine T.d_law_pen.F.ok sc_pen (fun vs H Q E h => ?_) (fun cdv A outer s H vs Q E hr h => ?_)
  · obtain ⟨c, rfl, _⟩ := h
    rfl
  · obtain ⟨c, rfl, q⟩ := h
    refine ⟨_, pss_one (ps_ret (pe_lst (pa_cons (pb (call_max2 rfl) T.n_max bb_max (pa_cons pe_int (pa_cons (pe_op op_sub (pv 0) (pe_op op_pow pe_int pe_int)) pa_nil))) (pa_cons (pe_op op_mod (pbt call_int1 T.n_int bb_int (pa_cons (pv 0) pa_nil)) pe_int) (pa_cons pe_int pa_nil))))), ?_⟩
    refine ⟨_, rfl, _, _, rfl, rfl, ⟨by decide, by decide, by decide⟩, _, _, rfl, rfl, _, _, rfl, _, rfl, .inl ⟨_, rfl, _, _, rfl, rfl, by show (0 : Int) < 2147483629; decide, by show (3 : Nat) ≤ sizeLine; decide, fun p hp => q p _ _ _ hp⟩⟩
theorem at_heap {F : Hp → Prop} {H H' : Hp} (e : H = H') (h : F H') : F H := e ▸ h
def spDraw : Sp := fun vs H Q _ => ∃ (p : Addr) (m : Int), vs = [.ref p, .int m] ∧ Pen H p ∧ 0 < m ∧ m < 1000 ∧ ∀ d a b c : Int, 0 ≤ d → d < m → Q (.int d) (upd H p (.lst [.int a, .int b, .int c]))
theorem sc_draw : FnScope ["_law_pen_here", "_law_many", "_law_digit", "_law_stirred"] ["_law_pen_here", "_law_many"] (defScope sLawDraw) := ⟨rfl, rfl, rfl, by decide +kernel, rfl, by decide +kernel, by decide +kernel⟩
theorem ok_draw (T : TX K mg) : FnOk P w K mg base CX0 1 T.d_law_draw.f T.d_law_draw.fd ["_law_pen_here", "_law_many"] spDraw := by
  refine T.d_law_draw.F.ok sc_draw (fun vs H Q E h => ?_) (fun cdv A outer s H vs Q E hr h => ?_)
  · obtain ⟨p, m, rfl, _⟩ := h
    rfl
  · obtain ⟨p, m, rfl, ⟨a, b, c, hp⟩, h0, hm, q⟩ := h
    refine ⟨_, pss_cons (ps_if (pt_cmpR op_gt (pe_ix ix_list (pv 0) pe_int (fun _ _ => rfl)) pe_int (nomark _))
        (pss_cons (ps_set (i := 2) sc_draw.nd rfl (.inl rfl) (pe_op op_mod (pbt call_int1 T.n_int bb_int (pa_cons (pe_ix ix_list (pv 0) pe_int (fun _ _ => rfl)) pa_nil)) (pv 1)))
        (pss_cons (ps_asg (pe_op op_fdiv (pe_ix ix_list (pv 0) pe_int (fun _ _ => rfl)) (pv 1)) (pg_sub (pv 0) pe_int set_list))
        (pss_one (ps_ret (pv 2))))) pss_nil)
      (pss_cons (ps_asg (pe_op op_add (pe_ix ix_list (pv 0) pe_int (fun _ _ => rfl)) pe_int) (pg_sub (pv 0) pe_int set_list))
      (pss_cons (ps_asg (pe_op op_mod (pbt call_int1 T.n_int bb_int (pa_cons (pe_op op_add (pe_op op_add (pe_op op_mul (pe_ix ix_list (pv 0) pe_int (fun _ _ => rfl)) pe_int) (pe_op op_mul pe_int (pe_ix ix_list (pv 0) pe_int (fun _ _ => rfl)))) pe_int) pa_nil)) pe_int) (pg_sub (pv 0) pe_int set_list))
      (pss_cons (ps_set (i := 3) sc_draw.nd rfl (.inl rfl) (pe_op op_mod (pbt call_int1 T.n_int bb_int (pa_cons (pe_op op_add (pe_op op_add (pe_op op_mul (pe_ix ix_list (pv 0) pe_int (fun _ _ => rfl)) (pe_ix ix_list (pv 0) pe_int (fun _ _ => rfl))) (pe_op op_mul pe_int (pe_ix ix_list (pv 0) pe_int (fun _ _ => rfl)))) (pe_ix ix_list (pv 0) pe_int (fun _ _ => rfl))) pa_nil)) pe_int))
      (pss_one (ps_ret (pe_op op_mod (pbt call_int1 T.n_int bb_int (pa_cons (pe_op op_fdiv (pe_op op_mod (pbt call_int1 T.n_int bb_int (pa_cons (pe_op op_mul (pv 3) pe_int) pa_nil)) pe_int) pe_int) pa_nil)) (pv 1))))))), ?_⟩
    refine ⟨_, rfl, p, _, _, _, rfl, rfl, SqL.of hp, atI_nat (j := 0) rfl, _, _, rfl, rfl, _, rfl, ?_⟩
    by_cases ha : (0 : Int) < a
    · rw [decide_eq_true ha]
      refine iteT ⟨_, rfl, p, _, _, _, rfl, rfl, SqL.of hp, atI_nat (j := 0) rfl, .inl ⟨_, rfl, _, rfl, _, _, rfl, rfl, h0, ?_⟩⟩
      refine ⟨_, rfl, p, _, _, _, rfl, rfl, SqL.of hp, atI_nat (j := 0) rfl, _, rfl, _, _, rfl, rfl, ⟨h0, by omega⟩, _, rfl, p, _, _, 0, rfl, rfl, hp, rfl, _, rfl, ?_⟩
      exact q _ _ _ _ (Int.emod_nonneg _ (by omega)) (Int.emod_lt_of_pos _ h0)
    · rw [decide_eq_false ha]
      refine iteF ⟨_, rfl, p, _, _, _, rfl, rfl, SqL.of hp, atI_nat (j := 2) rfl, _, _, rfl, rfl, _, rfl, p, _, _, 2, rfl, rfl, hp, rfl, ?_⟩
      have h1 : upd H p (.lst ([V.int a, V.int b, V.int c].set 2 (V.int (c + 1)))) p = some (.lst [V.int a, V.int b, V.int (c + 1)]) := upd_same
      generalize hH1 : upd H p (.lst ([V.int a, V.int b, V.int c].set 2 (V.int (c + 1)))) = H1 at h1 ⊢
      refine ⟨_, rfl, p, _, _, _, rfl, rfl, SqL.of h1, atI_nat (j := 1) rfl, _, _, rfl, rfl, .inr ⟨by decide, by decide⟩, _, rfl, p, _, _, _, rfl, rfl, SqL.of h1, atI_nat (j := 2) rfl, _, _, rfl, rfl, .inl ⟨by decide, by decide⟩, _, _, rfl, rfl, _, _, rfl, rfl, .inl ⟨_, rfl, _, _, rfl, rfl, by show (0 : Int) < 2147483647; decide, _, rfl, p, _, _, 1, rfl, rfl, h1, rfl, ?_⟩⟩
      have e2 : ∀ b1 : Int, upd H1 p (.lst ([V.int a, V.int b, V.int (c + 1)].set 1 (V.int b1))) = upd H p (.lst [V.int a, V.int b1, V.int (c + 1)]) := fun b1 => by
        rw [← hH1, upd_upd]
        rfl
      refine at_heap (e2 _) ?_
      generalize hz : (b * 48271 + 7919 * (c + 1) + 11) % 2147483647 = b1
      have hb1 : 0 ≤ b1 ∧ b1 < 2147483647 := by omega
      have h2 : upd H p (.lst [V.int a, V.int b1, V.int (c + 1)]) p = some (.lst [V.int a, V.int b1, V.int (c + 1)]) := upd_same
      refine ⟨_, rfl, p, _, _, _, rfl, rfl, SqL.of h2, atI_nat (j := 1) rfl, _, rfl, p, _, _, _, rfl, rfl, SqL.of h2, atI_nat (j := 1) rfl, _, _, rfl, rfl, .inl ⟨by omega, by omega⟩, ?_⟩
      refine ⟨_, rfl, p, _, _, _, rfl, rfl, SqL.of h2, atI_nat (j := 1) rfl, _, _, rfl, rfl, .inl ⟨by decide, by decide⟩, _, _, rfl, rfl, _, rfl, p, _, _, _, rfl, rfl, SqL.of h2, atI_nat (j := 2) rfl, _, _, rfl, rfl, .inl ⟨_, rfl, _, _, rfl, rfl, by show (0 : Int) < 2147483563; decide, ?_⟩⟩
      refine ⟨_, rfl, _, _, rfl, rfl, .inr ⟨by decide, by decide⟩, .inl ⟨_, rfl, _, _, rfl, rfl, by show (0 : Int) < 2147483647; decide, _, _, rfl, rfl, ⟨by decide, by decide⟩, .inl ⟨_, rfl, _, rfl, _, _, rfl, rfl, h0, ?_⟩⟩⟩
      exact q _ _ _ _ (Int.emod_nonneg _ (by omega)) (Int.emod_lt_of_pos _ h0)
/-- behind a change at p alone -/
def Bes (p : Addr) (H H' : Hp) : Prop := Same (del H p) H' ∧ Pen H' p
theorem Bes.refl {p : Addr} {H : Hp} (h : Pen H p) : Bes p H H := ⟨del_sub, h⟩
theorem Bes.sub {p : Addr} {H H' : Hp} (b : Bes p H H') : Same (del H p) (del H' p) := fun a o h => by
  have n : a ≠ p := fun e => by
    rw [e, L2.del_same] at h
    cases h
  rw [del_ne n]
  exact b.1 _ _ h
theorem Bes.trans {p : Addr} {H H1 H2 : Hp} (a : Bes p H H1) (b : Bes p H1 H2) : Bes p H H2 := ⟨a.sub.trans b.1, b.2⟩
theorem Bes.same {p : Addr} {H H1 H2 : Hp} (a : Bes p H H1) (s : Same H1 H2) : Bes p H H2 := ⟨a.1.trans s, by obtain ⟨x, y, z, h⟩ := a.2; exact ⟨x, y, z, s _ _ h⟩⟩
theorem Bes.upd {p : Addr} {H : Hp} {a b c : Int} : Bes p H (upd H p (.lst [.int a, .int b, .int c])) := ⟨del_upd, a, b, c, upd_same⟩
theorem Pen.same {p : Addr} {H H' : Hp} (h : Pen H p) (s : Same H H') : Pen H' p := by obtain ⟨x, y, z, h⟩ := h; exact ⟨x, y, z, s _ _ h⟩
/-- something new may change -/
theorem Bes.mut {p q : Addr} {H H' : Hp} {o : HO} (b : Bes p H H') (h : H q = none) (hp : Pen H p) : Bes p H (L2.upd H' q o) := by
  have n : p ≠ q := by
    obtain ⟨x, y, z, e⟩ := hp
    exact ne_of_none e h
  have hq : del H p q = none := by rw [del_ne n.symm]; exact h
  refine ⟨b.1.mut hq, ?_⟩
  obtain ⟨x, y, z, e⟩ := b.2
  exact ⟨x, y, z, by rw [upd_ne n]; exact e⟩

/-! ### picks -/
def spPick (K : PySem.W.Frag) : Sp := fun vs H Q _ => ∃ (p a : Addr) (xs : List V), vs = [.ref p, .ref a] ∧ Pen H p ∧ SqL K H a xs ∧ a ≠ p ∧ 0 < xs.length ∧ xs.length < 1000 ∧ ∀ v H', v ∈ xs → Bes p H H' → Q v H'
theorem sc_pick : FnScope ["_law_pen_here", "_law_things"] ["_law_pen_here", "_law_things"] (defScope sLawPick) := ⟨rfl, rfl, rfl, by decide +kernel, rfl, by decide +kernel, by decide +kernel⟩
theorem sqL_upd {H : Hp} {a p : Addr} {xs : List V} {o : HO} (h : SqL K H a xs) (n : a ≠ p) : SqL K (upd H p o) a xs := by
  rcases h with (h | ⟨ob, h⟩) | h
  · exact .inl (.inl (by rw [upd_ne n]; exact h))
  · exact .inl (.inr ⟨ob, by rw [upd_ne n]; exact h⟩)
  · exact .inr h
theorem ok_pick (T : TX K mg) : FnOk P w K mg base CX0 2 T.d_law_pick.f T.d_law_pick.fd ["_law_pen_here", "_law_things"] (spPick K) := by
  have G1 := ok_draw (P := P) (w := w) (base := base) T
  refine T.d_law_pick.F.ok sc_pick (fun vs H Q E h => ?_) (fun cdv A outer s H vs Q E hr h => ?_)
  · obtain ⟨p, a, xs, rfl, _⟩ := h
    rfl
  · obtain ⟨p, a, xs, rfl, hp, hs, n, h0, h1, q⟩ := h
    refine ⟨_, pss_one (ps_ret (pe_ix ix_list (pv 1) (pc T.d_law_draw G1 hr (pa_cons (pv 0) (pa_cons (pb call_len_seq T.n_len bb_len (pa_cons (pv 1) pa_nil)) pa_nil))) (fun _ _ => rfl))), ?_⟩
    refine ⟨_, rfl, _, rfl, _, rfl, a, xs, rfl, .inl hs, p, _, rfl, hp, by omega, by omega, fun d x y z hd0 hd1 => ?_⟩
    have hlt : d.toNat < xs.length := by omega
    have he : ((d.toNat : Nat) : Int) = d := by omega
    obtain ⟨v, hv⟩ : ∃ v, xs[d.toNat]? = some v := ⟨_, List.getElem?_eq_getElem hlt⟩
    have hix : atI xs d = some v := by
      have z := atI_nat hv
      rw [he] at z
      exact z
    exact ⟨a, _, _, _, rfl, rfl, sqL_upd hs n, hix, q _ _ (List.mem_of_getElem? hv) Bes.upd⟩
end RP

/-! KW19 -/
/-! Walks: mixings. -/
namespace RP
open PySem PySem.Spec PyProof.Rows L2
variable {P : Program} {w : World} {K : PySem.W.Frag} {mg : Str → Option Value} {base : Heap}
theorem erase_perm {α : Type} : ∀ {l : List α} {k : Nat} (h : k < l.length), (l[k] :: l.eraseIdx k).Perm l
  | x :: l, 0, _ => .refl _
  | x :: l, k + 1, h => by
    have h' : k < l.length := by simpa using h
    show (l[k] :: x :: l.eraseIdx k).Perm (x :: l)
    exact (List.Perm.swap ..).trans (List.Perm.cons x (erase_perm h'))
theorem erase_map {α β : Type} (f : α → β) : ∀ (l : List α) (k : Nat), (l.map f).eraseIdx k = (l.eraseIdx k).map f
  | [], _ => rfl
  | x :: l, 0 => rfl
  | x :: l, k + 1 => by
    show f x :: (l.map f).eraseIdx k = f x :: (l.eraseIdx k).map f
    rw [erase_map f l k]
def spMixed (K : PySem.W.Frag) : Sp := fun vs H Q _ => ∃ (p a : Addr) (xs : List Int), vs = [.ref p, .ref a] ∧ Pen H p ∧ SqL K H a (xs.map V.int) ∧ xs.length < 1000 ∧ ∀ (q : Addr) (ys : List Int) (H' : Hp), H q = none → ys.Perm xs → Bes p H H' → H' q = some (.lst (ys.map V.int)) → Q (.ref q) H'
theorem sc_mixed : FnScope ["_law_pen_here", "_law_things", "_law_left", "_law_found"] ["_law_pen_here", "_law_things"] (defScope sLawMixed) := ⟨rfl, rfl, rfl, by decide +kernel, rfl, by decide +kernel, by decide +kernel⟩
theorem ok_mixed (T : TX K mg) : FnOk P w K mg base CX0 2 T.d_law_mixed.f T.d_law_mixed.fd ["_law_pen_here", "_law_things"] (spMixed K) := by
  have G1 := ok_draw (P := P) (w := w) (base := base) T
  refine T.d_law_mixed.F.ok sc_mixed (fun vs H Q E h => ?_) (fun cdv A outer s H vs Q E hr h => ?_)
  · obtain ⟨p, a, xs, rfl, _⟩ := h
    rfl
  · obtain ⟨p, a, xs, rfl, hp, hs, hl, q⟩ := h
    refine ⟨_, pss_cons (ps_par (i := 2) (j := 3) rfl sc_mixed.nd rfl rfl (by decide) rfl rfl (pa_cons (pbt call_list_of T.n_list bb_list (pa_cons (pv 1) pa_nil)) (pa_cons (pe_lst pa_nil) pa_nil)) (by rfl))
      (pss_cons (ps_while PassesOwn.never (pt_cmpR (op_neD (by exact hr.units)) (pv 2) (pe_lst pa_nil) (nomark _))
        (pss_one (ps_expr (pe_bm PySem.F.plainAttrs_list PySem.F.slot_list_append PySem.F.type_list_append mt_append (pv 3) (pa_cons
          (pe_bm PySem.F.plainAttrs_list PySem.F.slot_list_pop PySem.F.type_list_pop mt_popAt (pv 2) (pa_cons (pc T.d_law_draw G1 hr (pa_cons (pv 0) (pa_cons (pb call_len_seq T.n_len bb_len (pa_cons (pv 2) pa_nil)) pa_nil))) pa_nil)) pa_nil)))))
      (pss_one (ps_ret (pv 3)))), ?_⟩
    refine ⟨_, rfl, a, _, rfl, .inl hs, fun ll hll => ⟨Nat.zero_le _, fun lf hlf => ⟨_, _, rfl, ?_⟩⟩⟩
    have s1 : Same H (upd H ll (.lst (xs.map V.int))) := same_new hll
    have s2 := s1.trans (same_new (o := .lst []) hlf)
    have nlf : ll ≠ lf := (fun e => by rw [← e, upd_same] at hlf; cases hlf)
    have hf0 : H lf = none := none_of_same s1 hlf
    have npl : p ≠ ll := by obtain ⟨x, y, z, e⟩ := hp; exact ne_of_none e hll
    have npf : p ≠ lf := by obtain ⟨x, y, z, e⟩ := hp; exact ne_of_none e hf0
    refine ⟨fun m σ H' => ∃ (r f : List Int), σ = [some (.ref p), some (.ref a), some (.ref ll), some (.ref lf)] ∧ r.length = m ∧ (f ++ r).Perm xs ∧ Bes p H H' ∧ H' ll = some (.lst (r.map V.int)) ∧ H' lf = some (.lst (f.map V.int)),
      ⟨xs.length, xs, [], rfl, rfl, .refl _, (Bes.refl hp).same s2, by rw [upd_ne nlf, upd_same], upd_same⟩, ?_⟩
    rintro m σ H1 ⟨r, f, rfl, hm, hperm, b1, h1, h2⟩
    have hlen : f.length + r.length = xs.length := by
      have := hperm.length_eq
      rw [List.length_append] at this
      exact this
    refine ⟨_, rfl, Nat.zero_le _, fun z hz => ne_nil (n := 0) h1 (dpAll_ints _) hz (Shp.ints _) ⟨_, rfl, ?_⟩⟩
    have s3 : Same H1 (upd H1 z (.lst [])) := same_new hz
    have b3 := b1.same s3
    have h13 := s3 _ _ h1
    have h23 := s3 _ _ h2
    generalize upd H1 z (.lst []) = H3 at s3 b3 h13 h23 ⊢
    cases r with
    | nil =>
      refine iteF ⟨_, rfl, q lf f H3 hf0 (by rw [List.append_nil] at hperm; exact hperm) b3 h23⟩
    | cons x r =>
      cases m with
      | zero => cases hm
      | succ m =>
        refine iteT ⟨_, fun σ' H' z => ⟨m, Nat.lt_succ_self m, z⟩, ?_⟩
        refine ⟨_, rfl, .inl ⟨rfl, _, SqL.of h23⟩, _, rfl, .inl ⟨rfl, _, SqL.of h13⟩, _, rfl, _, rfl, ll, _, rfl, .inl (SqL.of h13), p, _, rfl, b3.2, ?_, ?_, fun d u v y hd0 hd1 => ?_⟩
        · rw [List.length_map, List.length_cons]
          omega
        · rw [List.length_map]
          omega
        · rw [List.length_map] at hd1
          have hk : d.toNat < (x :: r).length := by omega
          have hj1 : seqIndex? d ((x :: r).map V.int).length = some d.toNat := seqIndex_of hd0 (by rw [List.length_map]; exact hd1)
          have hj2 : ((x :: r).map V.int)[d.toNat]? = some (V.int (x :: r)[d.toNat]) := by rw [List.getElem?_map, List.getElem?_eq_getElem hk]; rfl
          have b4 : Bes p H3 (upd H3 p (.lst [.int u, .int v, .int y])) := Bes.upd
          have hll4 : upd H3 p (.lst [.int u, .int v, .int y]) ll = some (.lst ((x :: r).map V.int)) := by rw [upd_ne npl.symm]; exact h13
          have hlf4 : upd H3 p (.lst [.int u, .int v, .int y]) lf = some (.lst (f.map V.int)) := by rw [upd_ne npf.symm]; exact h23
          generalize upd H3 p (.lst [.int u, .int v, .int y]) = H4 at b4 hll4 hlf4 ⊢
          refine ⟨ll, _, d, d.toNat, _, rfl, rfl, hll4, by omega, ?_, hj1, hj2, ?_⟩
          · omega
          · refine ⟨lf, _, _, rfl, rfl, by rw [upd_ne nlf.symm]; exact hlf4, by rw [List.length_map]; exact small1000 (by omega), ?_⟩
            refine ⟨(x :: r).eraseIdx d.toNat, f ++ [(x :: r)[d.toNat]], rfl, ?_, ?_, ?_, ?_, ?_⟩
            · rw [List.length_eraseIdx_of_lt hk]
              rw [List.length_cons] at hm ⊢
              omega
            · refine List.Perm.trans ?_ hperm
              rw [List.append_assoc]
              exact List.Perm.append_left f (erase_perm hk)
            · exact ((b3.trans b4).mut hll hp).mut hf0 hp
            · rw [upd_ne nlf, upd_same, erase_map]
            · rw [upd_same, List.map_append]
              rfl
end RP

/-! KW20 -/
/-! Walks: the drawn pairs, step by step. -/
namespace RP
open PySem PySem.Spec PyProof.Rows L2
variable {P : Program} {w : World} {K : PySem.W.Frag} {mg : Str → Option Value} {base : Heap}
structure PGh where
  p : Addr
  sp : Addr
  kl : Addr
  fl : Addr
  tl : Addr
  l : Addr
  most : Int
  scale : Int
  shift : Int
  way : Int
  key : Int
  i : Nat
  m : Nat
  ys : List Int
  tu : List Int
  acc : List V
  H0 : Hp
structure PGh.Ok (g : PGh) : Prop where
  hp : Pen g.H0 g.p
  len : g.ys.length = 2 * g.m + 2
  m20 : g.m ≤ 20
  i : g.i < g.m
  tlen : g.tu.length = g.m
  ts : ∀ x ∈ g.tu, x ∈ g.ys
  key : g.key ∈ g.ys
  n1 : g.sp ≠ g.p
  n2 : g.kl ≠ g.p
  n3 : g.fl ≠ g.p
  n4 : g.tl ≠ g.p
  n5 : g.l ≠ g.p
structure PW (g : PGh) (H : Hp) : Prop where
  bes : Bes g.p g.H0 H
  s : H g.sp = some (.lst (g.ys.map V.int))
  k : H g.kl = some (.lst ((g.ys.take g.m).map V.int))
  f : H g.fl = some (.lst ((g.ys.drop g.m).map V.int))
  t : H g.tl = some (.lst (g.tu.map V.int))
  dat : H g.l = some (.lst g.acc)
theorem Bes.at_ {p a : Addr} {H H' : Hp} {o : HO} (b : Bes p H H') (n : a ≠ p) (h : H a = some o) : H' a = some o := b.1 _ _ (by rw [del_ne n]; exact h)
theorem PW.move {g : PGh} {H H' : Hp} (ok : g.Ok) (h : PW g H) (b : Bes g.p H H') : PW g H' :=
  ⟨h.bes.trans b, b.at_ ok.n1 h.s, b.at_ ok.n2 h.k, b.at_ ok.n3 h.f, b.at_ ok.n4 h.t, b.at_ ok.n5 h.dat⟩
theorem PW.same {g : PGh} {H H' : Hp} (h : PW g H) (s : Same H H') : PW g H' := ⟨h.bes.same s, s _ _ h.s, s _ _ h.k, s _ _ h.f, s _ _ h.t, s _ _ h.dat⟩
theorem PW.pen {g : PGh} {H : Hp} (h : PW g H) : Pen H g.p := h.bes.2
def PJ (g : PGh) (σ : L2.St) (H : Hp) : Prop := ∃ t : Int, σ = [some (.ref g.p), some (.int g.most), some (.int g.m), some (.int g.scale), some (.int g.shift), some (.int g.way), some (.ref g.sp), some (.ref g.kl), some (.ref g.fl), some (.ref g.tl), some (.ref g.l), some (.int g.i), some (.int g.key), some (.int t)] ∧ t ∈ g.ys ∧ PW g H
theorem mem_map_int {v : V} {xs : List Int} (h : v ∈ xs.map V.int) : ∃ i, v = .int i ∧ i ∈ xs := by
  obtain ⟨i, hi, rfl⟩ := List.mem_map.mp h
  exact ⟨i, rfl, hi⟩
section
variable {D : Ends} {σ : L2.St} {H : Hp} {g : PGh}
theorem rd1 (ok : g.Ok) (h : PJ g σ H) (k : ∀ σ' H', PJ g σ' H' → D.nx σ' H') : tIfS (tTest (tOp rEq (tVar 5) (tC (.int 1)))) (tAsg (tOp (rIxL K) (tVar 9) (tVar 11)) (gName 13)) tNext D σ H := by
  obtain ⟨t, rfl, ht, hw⟩ := h
  refine ⟨_, rfl, rfl, _, rfl, ite2 (fun _ => ?_) (fun _ => k _ _ ⟨t, rfl, ht, hw⟩)⟩
  have hi : g.i < g.tu.length := by rw [ok.tlen]; exact ok.i
  obtain ⟨v, hv⟩ : ∃ v, g.tu[g.i]? = some v := ⟨_, List.getElem?_eq_getElem hi⟩
  exact ⟨_, rfl, _, rfl, g.tl, _, _, _, rfl, rfl, SqL.of hw.t, atI_nat (by rw [List.getElem?_map, hv]; rfl), k _ _ ⟨v, rfl, ok.ts _ (List.mem_of_getElem? hv), hw⟩⟩
/-- (keys + free)[j] -/
theorem rd_cat (ok : g.Ok) (hw : PW g H) {σ : L2.St} (h7 : σ[7]? = some (some (.ref g.kl))) (h8 : σ[8]? = some (some (.ref g.fl))) {Q : VK} (k : ∀ z H', H z = none → Same H H' → PW g H' → H' z = some (.lst (g.ys.map V.int)) → Q (.ref z) H') : tOp rCat (tVar 7) (tVar 8) σ H Q := by
  refine ⟨_, h7, _, h8, g.kl, g.fl, _, _, rfl, rfl, hw.k, hw.f, ?_, fun z hz => ?_⟩
  · rw [List.length_map, List.length_map, List.length_take, List.length_drop]
    have := ok.len
    have := ok.m20
    exact Nat.le_of_lt (small1000 (by omega))
  · refine k z _ hz (same_new hz) (hw.same (same_new hz)) ?_
    rw [upd_same, ← List.map_append, List.take_append_drop]
theorem rd_at {H' : Hp} {z : Addr} {ys : List Int} (hz : H' z = some (.lst (ys.map V.int))) {j : Int} (h0 : 0 ≤ j) (h1 : j < ys.length) {Q : VK} (k : ∀ t, t ∈ ys → Q (.int t) H') : rIxL K (.ref z) (.int j) H' Q := by
  have he : ((j.toNat : Nat) : Int) = j := by omega
  have hlt : j.toNat < ys.length := by omega
  obtain ⟨v, hv⟩ : ∃ v, ys[j.toNat]? = some v := ⟨_, List.getElem?_eq_getElem hlt⟩
  have hix : atI (ys.map V.int) j = some (V.int v) := by
    have z := atI_nat (xs := ys.map V.int) (j := j.toNat) (v := V.int v) (by rw [List.getElem?_map, hv]; rfl)
    rw [he] at z
    exact z
  exact ⟨z, _, _, _, rfl, rfl, SqL.of hz, hix, k v (List.mem_of_getElem? hv)⟩
theorem rd2 (ok : g.Ok) (h : PJ g σ H) (k : ∀ σ' H', PJ g σ' H' → D.nx σ' H') :
    tIfS (tAnd (tTest (tOp rEq (tVar 5) (tC (.int 2)))) (tTest (tOp (rI0 fun i j => V.bl (decide (j < i))) (tCall spDraw [] E0 (tCons (tVar 0) (tCons (tC (.int 8)) tNil))) (tC (.int 0)))))
      (tAsg (tOp (rIxL K) (tOp rCat (tVar 7) (tVar 8)) (tOp (rI0 fun i j => V.int (i + j)) (tVar 11) (tC (.int 1)))) (gName 13)) tNext D σ H := by
  obtain ⟨t, rfl, ht, hw⟩ := h
  refine ⟨_, rfl, rfl, _, rfl, ite2 (fun _ => ?_) (fun _ => iteF (k _ _ ⟨t, rfl, ht, hw⟩))⟩
  refine ⟨_, rfl, g.p, 8, rfl, hw.pen, by decide, by decide, fun d a b c h0 h1 => ⟨_, _, rfl, rfl, _, rfl, ?_⟩⟩
  have hw1 := hw.move ok (Bes.upd (a := a) (b := b) (c := c))
  refine ite2 (fun _ => ?_) (fun _ => k _ _ ⟨t, rfl, ht, hw1⟩)
  refine rd_cat ok hw1 rfl rfl fun z H' hz s' hw2 h2 => ⟨_, rfl, _, _, rfl, rfl, rd_at h2 (by omega) (by have := ok.len; have := ok.i; omega) fun t' ht' => k _ _ ⟨t', rfl, ht', hw2⟩⟩
theorem rd3 (ok : g.Ok) (h : PJ g σ H) (k : ∀ σ' H', PJ g σ' H' → D.nx σ' H') :
    tIfS (tTest (tOp rEq (tVar 5) (tC (.int 3))))
      (tAsg (tOp (rIxL K) (tOp rCat (tVar 7) (tVar 8)) (tOp (rI0 fun i j => V.int (i - j)) (tOp (rI0 fun i j => V.int (i + j)) (tVar 11) (tC (.int 1))) (tOp (rI CMul fun i j => V.int (i * j)) (tCall spDraw [] E0 (tCons (tVar 0) (tCons (tC (.int 2)) tNil))) (tVar 11)))) (gName 13)) tNext D σ H := by
  obtain ⟨t, rfl, ht, hw⟩ := h
  refine ⟨_, rfl, rfl, _, rfl, ite2 (fun _ => ?_) (fun _ => k _ _ ⟨t, rfl, ht, hw⟩)⟩
  refine rd_cat ok hw rfl rfl fun z H' hz s' hw2 h2 => ⟨_, rfl, _, _, rfl, rfl, _, rfl, g.p, 2, rfl, hw2.pen, by decide, by decide, fun d a b c h0 h1 => ⟨_, rfl, _, _, rfl, rfl, .inl ⟨by omega, by omega⟩, _, _, rfl, rfl, ?_⟩⟩
  have hw3 := hw2.move ok (Bes.upd (a := a) (b := b) (c := c))
  have nz : z ≠ g.p := by
    obtain ⟨x, y, u, e⟩ := hw.pen
    exact (ne_of_none e hz).symm
  have h3 := (Bes.upd (p := g.p) (H := H') (a := a) (b := b) (c := c)).at_ nz h2
  have hd : d = 0 ∨ d = 1 := by omega
  have hlen := ok.len
  have hi := ok.i
  rcases hd with rfl | rfl
  · exact rd_at h3 (by omega) (by omega) fun t' ht' => k _ _ ⟨t', rfl, ht', hw3⟩
  · exact rd_at h3 (by omega) (by omega) fun t' ht' => k _ _ ⟨t', rfl, ht', hw3⟩
theorem cut_map (ys : List Int) (n : Nat) (h : n ≤ ys.length) : cutV (ys.map V.int) none (some (n : Int)) = (ys.take n).map V.int := by
  unfold cutV
  rw [HT.sIx_nat, HT.sIx_none, List.drop_zero, Nat.sub_zero, List.length_map, Nat.min_eq_left h, List.map_take]
theorem rd4 (ok : g.Ok) (h : PJ g σ H) (k : ∀ σ' H', PJ g σ' H' → D.nx σ' H') :
    tIfS (tTest (tOp rEq (tVar 5) (tC (.int 4))))
      (tAsg (tOp (rIxL K) (tOp rCat (tSl (rSlL K) (tVar 8) tNoPart (tPart (tC (.int 1)))) (tVar 7)) (tCB (fun xs H Q => ∃ i j, xs = [V.int i, V.int j] ∧ Q (.int (if j > i then j else i)) H) (tCons (tC (.int 0)) (tCons (tOp (rI0 fun i j => V.int (i - j)) (tVar 11) (tCall spDraw [] E0 (tCons (tVar 0) (tCons (tC (.int 4)) tNil)))) tNil)))) (gName 13)) tNext D σ H := by
  obtain ⟨t, rfl, ht, hw⟩ := h
  have hlen := ok.len
  have hi := ok.i
  have hm := ok.m20
  refine ⟨_, rfl, rfl, _, rfl, ite2 (fun _ => ?_) (fun _ => k _ _ ⟨t, rfl, ht, hw⟩)⟩
  refine ⟨_, rfl, 1, rfl, g.fl, _, rfl, SqL.of hw.f, fun z hz => ?_⟩
  rw [show ((1 : Int)) = ((1 : Nat) : Int) from rfl, cut_map _ 1 (by rw [List.length_drop]; omega)]
  have s1 := same_new (o := .lst (((g.ys.drop g.m).take 1).map V.int)) hz
  have hw1 := hw.same s1
  refine ⟨_, rfl, z, g.kl, _, _, rfl, rfl, upd_same, hw1.k, ?_, fun z2 hz2 => ?_⟩
  · rw [List.length_map, List.length_map, List.length_take, List.length_drop, List.length_take]
    exact Nat.le_of_lt (small1000 (by omega))
  · rw [← List.map_append]
    have hw2 := hw1.same (same_new (o := .lst ((((g.ys.drop g.m).take 1) ++ (g.ys.take g.m)).map V.int)) hz2)
    have nz : z2 ≠ g.p := by
      obtain ⟨x, y, u, e⟩ := hw1.pen
      exact (ne_of_none e hz2).symm
    have hcat : (upd (upd H z (.lst (((g.ys.drop g.m).take 1).map V.int))) z2 (.lst ((((g.ys.drop g.m).take 1) ++ (g.ys.take g.m)).map V.int))) z2 = some (.lst ((((g.ys.drop g.m).take 1) ++ (g.ys.take g.m)).map V.int)) := upd_same
    generalize upd (upd H z (.lst (((g.ys.drop g.m).take 1).map V.int))) z2 (.lst ((((g.ys.drop g.m).take 1) ++ (g.ys.take g.m)).map V.int)) = H2 at hw2 hcat ⊢
    refine ⟨_, rfl, _, rfl, g.p, 4, rfl, hw2.pen, by decide, by decide, fun d a b c h0 h1 => ⟨_, _, rfl, rfl, _, _, rfl, ?_⟩⟩
    have hw3 := hw2.move ok (Bes.upd (a := a) (b := b) (c := c))
    have h3 := (Bes.upd (p := g.p) (H := H2) (a := a) (b := b) (c := c)).at_ nz hcat
    refine rd_at h3 ?_ ?_ fun t' ht' => k _ _ ⟨t', rfl, ?_, hw3⟩
    · split <;> omega
    · rw [List.length_append, List.length_take, List.length_drop, List.length_take]
      split <;> omega
    · rcases List.mem_append.mp ht' with q | q
      · exact List.mem_of_mem_drop (List.mem_of_mem_take q)
      · exact List.mem_of_mem_take q
theorem rd5 (ok : g.Ok) (h : PJ g σ H) (k : ∀ σ' H', PJ g σ' H' → D.nx σ' H') :
    tIfS (tAnd (tTest (tOp rEq (tVar 5) (tC (.int 5)))) (tTest (tOp (rI0 fun i j => V.bl (decide (j < i))) (tVar 11) (tC (.int 0)))))
      (tAsg (tCall (spPick K) [] E0 (tCons (tVar 0) (tCons (tOp rCat (tSl (rSlL K) (tVar 7) tNoPart (tPart (tVar 11))) (tSl (rSlL K) (tVar 8) tNoPart (tPart (tC (.int 2))))) tNil))) (gName 13)) tNext D σ H := by
  obtain ⟨t, rfl, ht, hw⟩ := h
  have hlen := ok.len
  have hi := ok.i
  have hm := ok.m20
  refine ⟨_, rfl, rfl, _, rfl, ite2 (fun _ => ?_) (fun _ => iteF (k _ _ ⟨t, rfl, ht, hw⟩))⟩
  refine ⟨_, rfl, _, _, rfl, rfl, _, rfl, ite2 (fun _ => ?_) (fun _ => k _ _ ⟨t, rfl, ht, hw⟩)⟩
  refine ⟨_, rfl, _, rfl, _, rfl, _, rfl, g.kl, _, rfl, SqL.of hw.k, fun z hz => ?_⟩
  rw [cut_map _ g.i (by rw [List.length_take]; omega)]
  have s1 := same_new (o := .lst (((g.ys.take g.m).take g.i).map V.int)) hz
  have hw1 := hw.same s1
  refine ⟨_, rfl, 2, rfl, g.fl, _, rfl, SqL.of hw1.f, fun z2 hz2 => ?_⟩
  rw [show ((2 : Int)) = ((2 : Nat) : Int) from rfl, cut_map _ 2 (by rw [List.length_drop]; omega)]
  have s2 := same_new (o := .lst (((g.ys.drop g.m).take 2).map V.int)) hz2
  have hw2 := hw1.same s2
  have hz1 := s2 _ _ (upd_same (H := H) (a := z) (o := .lst (((g.ys.take g.m).take g.i).map V.int)))
  refine ⟨z, z2, _, _, rfl, rfl, hz1, upd_same, ?_, fun z3 hz3 => ?_⟩
  · simp only [List.length_map, List.length_take, List.length_drop]
    exact Nat.le_of_lt (small1000 (by omega))
  · rw [← List.map_append]
    have s3 := same_new (o := .lst ((((g.ys.take g.m).take g.i) ++ ((g.ys.drop g.m).take 2)).map V.int)) hz3
    have hw3 := hw2.same s3
    have nz : z3 ≠ g.p := by
      obtain ⟨x, y, u, e⟩ := hw2.pen
      exact (ne_of_none e hz3).symm
    refine ⟨g.p, z3, _, rfl, hw3.pen, SqL.of upd_same, nz, ?_, ?_, fun v H' hv b => ?_⟩
    · simp only [List.length_map, List.length_append, List.length_take, List.length_drop]
      omega
    · simp only [List.length_map, List.length_append, List.length_take, List.length_drop]
      omega
    · obtain ⟨t', rfl, ht'⟩ := mem_map_int hv
      refine k _ _ ⟨t', rfl, ?_, hw3.move ok b⟩
      rcases List.mem_append.mp ht' with q | q
      · exact List.mem_of_mem_take (List.mem_of_mem_take q)
      · exact List.mem_of_mem_drop (List.mem_of_mem_take q)
end
end RP

/-! KW21 -/
/-! Walks: the drawn pairs. -/
namespace RP
open PySem PySem.Spec PyProof.Rows L2
variable {P : Program} {w : World} {K : PySem.W.Frag} {mg : Str → Option Value} {base : Heap}
/-- the tuples alone -/
def isTup : HO → Bool
  | .tup _ => true
  | .frz _ (.tup _) => true
  | _ => false
def tups (H : Hp) : Hp := fun a => (H a).filter isTup
theorem tups_of {H : Hp} {a : Addr} {o : HO} (h : tups H a = some o) : H a = some o ∧ isTup o = true := Option.filter_eq_some_iff.mp h
theorem tups_at {H : Hp} {a : Addr} {o : HO} (h : H a = some o) (t : isTup o = true) : tups H a = some o := Option.filter_eq_some_iff.mpr ⟨h, t⟩
theorem tups_sub {H : Hp} : Same (tups H) H := fun a o h => (tups_of h).1
theorem tups_mono {H H' : Hp} (k : ∀ a o, isTup o = true → H a = some o → H' a = some o) : Same (tups H) (tups H') := fun a o h => tups_at (k a o (tups_of h).2 (tups_of h).1) (tups_of h).2
theorem tups_same {H H' : Hp} (s : Same H H') : Same (tups H) (tups H') := tups_mono fun a o _ h => s _ _ h
theorem tups_ne {H : Hp} {a b : Addr} {o u : HO} (t : isTup o = true) (h : H a = some o) (h' : H b = some u) (n : isTup u = false) : a ≠ b := fun e => by
  rw [e, h'] at h
  cases h
  rw [t] at n
  cases n
theorem tups_bes {p : Addr} {H H' : Hp} (hp : Pen H p) (b : Bes p H H') : Same (tups H) (tups H') := tups_mono fun a o t h => by
  obtain ⟨x, y, z, e⟩ := hp
  exact b.at_ (tups_ne t h e rfl) h
theorem tups_upd {H : Hp} {l : Addr} {u o : HO} (h : H l = some u) (n : isTup u = false) : Same (tups H) (tups (upd H l o)) := tups_mono fun a v t e => by
  rw [upd_ne (tups_ne t e h n)]
  exact e
theorem tups_lst {H : Hp} {l : Addr} {ys : List V} {o : HO} (h : H l = some (.lst ys)) : Same (tups H) (tups (upd H l o)) := tups_upd h rfl
theorem tups_del {H : Hp} {l : Addr} {u : HO} (h : H l = some u) (n : isTup u = false) : Same (tups H) (del H l) := fun a o e => by
  obtain ⟨e1, t⟩ := tups_of e
  rw [del_ne (tups_ne t e1 h n)]
  exact e1
mutual
theorem Dp.tups {K : PySem.W.Frag} {H : Hp} : ∀ {v : V} {d : PyData}, tupD d = true → Dp K H v d → Dp K (RP.tups H) v d
  | _, _, _, .non => .non
  | _, _, _, .bl b => .bl b
  | _, _, _, .int i => .int i
  | _, _, _, .str x => .str x
  | _, _, h, .lst _ _ => by
    exact absurd h (by simp [tupD])
  | _, .tuple ds, h, .tup (a := a) hs ha => by
    refine .tup ?_ (DpAll.tups (by simpa [tupD] using h) ha)
    rcases hs with (hs | ⟨o, hs⟩) | hs
    · exact .inl (.inl (tups_at hs rfl))
    · exact .inl (.inr ⟨o, tups_at hs rfl⟩)
    · exact .inr hs
theorem DpAll.tups {K : PySem.W.Frag} {H : Hp} : ∀ {vs : List V} {ds : List PyData}, tupD.tupDs ds = true → DpAll K H vs ds → DpAll K (RP.tups H) vs ds
  | _, _, _, .nil => .nil
  | _, _, h, .cons h1 a => by
    have h' : (tupD _ && tupD.tupDs _) = true := h
    rw [Bool.and_eq_true] at h'
    exact .cons (Dp.tups h'.1 h1) (DpAll.tups h'.2 a)
end
abbrev scl (s : Int) (xs : RC.Tab) : RC.Tab := xs.map fun p => (p.1 * s, p.2 * s)
def Scale (s : Int) : Prop := s = 1 ∨ s = 3 ∨ s = 1000000000 ∨ s = 10000000000000000000000000000
def spPairs (K : PySem.W.Frag) : Sp := fun vs H Q _ => ∃ (p : Addr) (most : Int), vs = [.ref p, .int most] ∧ Pen H p ∧ 0 ≤ most ∧ most ≤ 20 ∧ ∀ (q : Addr) (ys : List V) (L : RC.Tab) (s : Int) (H' : Hp), H q = none → Scale s → RC.Drawn s L → Bes p H H' → H' q = some (.lst ys) → DpAll K (tups H') ys (L.map dP) → Q (.ref q) H'
theorem Bes.none {p a : Addr} {H H' : Hp} (b : Bes p H H') (h : H' a = none) : H a = none := by
  cases e : H a with
  | none => rfl
  | some o =>
    have n : a ≠ p := fun z => by
      obtain ⟨x, y, u, e2⟩ := b.2
      rw [z, e2] at h
      cases h
    rw [b.at_ n e] at h
    cases h
theorem pen_ne {p a : Addr} {H : Hp} (hp : Pen H p) (h : H a = none) : a ≠ p := by
  obtain ⟨x, y, u, e⟩ := hp
  exact (ne_of_none e h).symm
theorem cut_drop (ys : List Int) (n : Nat) (h : n ≤ ys.length) : cutV (ys.map V.int) (some (n : Int)) none = (ys.drop n).map V.int := by
  unfold cutV
  rw [HT.sIx_nat, HT.sIx_none, List.length_map, Nat.min_eq_left h, List.take_of_length_le (by rw [List.length_drop, List.length_map]; omega), List.map_drop]
def rng (n : Nat) : List Int := (List.range n).map fun i : Nat => (i : Int)
theorem rng_mem {n : Nat} {x : Int} (h : x ∈ rng n) : 0 ≤ x ∧ x < n := by
  unfold rng at h
  obtain ⟨i, hi, rfl⟩ := List.mem_map.mp h
  have := List.mem_range.mp hi
  omega
theorem rng_len (n : Nat) : (rng n).length = n := by
  unfold rng
  rw [List.length_map, List.length_range]
theorem rng_nodup (n : Nat) : (rng n).Nodup := by
  unfold rng List.Nodup
  rw [List.pairwise_map]
  exact List.nodup_range.imp fun h e => h (by omega)
theorem rgV_rng (n : Nat) : rgV 0 (n : Int) = (rng n).map V.int := by
  unfold rgV rng
  rw [List.map_map, Int.sub_zero, Int.toNat_natCast]
  refine List.map_congr_left fun i _ => ?_
  show V.int (0 + (i : Int)) = V.int (i : Int)
  rw [Int.zero_add]
theorem scale_of {v : V} (h : v ∈ [V.int 1, V.int 1, V.int 3, V.int (10 ^ (9 : Int).toNat), V.int (10 ^ (28 : Int).toNat)]) : ∃ s, v = .int s ∧ Scale s := by
  simp only [List.mem_cons, List.not_mem_nil, or_false] at h
  rcases h with rfl | rfl | rfl | rfl | rfl
  · exact ⟨_, rfl, .inl rfl⟩
  · exact ⟨_, rfl, .inl rfl⟩
  · exact ⟨_, rfl, .inr (.inl rfl)⟩
  · exact ⟨_, rfl, .inr (.inr (.inl (by decide)))⟩
  · exact ⟨_, rfl, .inr (.inr (.inr (by decide)))⟩
theorem sc_pairs : FnScope ["_law_pen_here", "_law_most", "_law_many", "_law_scale", "_law_shift", "_law_way", "_law_spots", "_law_keys", "_law_free", "_law_turned", "_law_pairs_here", "_law_at", "_law_key", "_law_to"] ["_law_pen_here", "_law_most"] (defScope sLawPairs) := ⟨rfl, rfl, rfl, by decide +kernel, rfl, by decide +kernel, by decide +kernel⟩
theorem ok_pairs (T : TX K mg) : FnOk P w K mg base CX0 3 T.d_law_pairs.f T.d_law_pairs.fd ["_law_pen_here", "_law_most"] (spPairs K) := by
  have G1 := ok_draw (P := P) (w := w) (base := base) T
  have G2 := ok_pick (P := P) (w := w) (base := base) T
  have G3 := ok_mixed (P := P) (w := w) (base := base) T
  refine T.d_law_pairs.F.ok sc_pairs (fun vs H Q E h => ?_) (fun cdv A outer s H vs Q E hr h => ?_)
  · obtain ⟨p, most, rfl, _⟩ := h
    rfl
  · obtain ⟨p, most, rfl, hp, hm0, hm1, q⟩ := h
    refine ⟨_, pss_cons (ps_set (i := 2) sc_pairs.nd rfl (.inl rfl) (pc T.d_law_draw G1 (hr.mono (by decide)) (pa_cons (pv 0) (pa_cons (pe_op op_add (pv 1) pe_int) pa_nil))))
      (pss_cons (ps_par3 (i := 3) (j := 4) (l := 5) rfl sc_pairs.nd rfl rfl rfl (by decide) (by decide) (by decide) rfl rfl rfl
        (pa_cons (pc T.d_law_pick G2 hr (pa_cons (pv 0) (pa_cons (pe_lst (pa_cons pe_int (pa_cons pe_int (pa_cons pe_int (pa_cons (pe_op op_pow pe_int pe_int) (pa_cons (pe_op op_pow pe_int pe_int) pa_nil)))))) pa_nil)))
          (pa_cons (pc T.d_law_draw G1 (hr.mono (by decide)) (pa_cons (pv 0) (pa_cons (pe_op op_add (pe_op op_mul pe_int (pv 2)) pe_int) pa_nil)))
          (pa_cons (pc T.d_law_draw G1 (hr.mono (by decide)) (pa_cons (pv 0) (pa_cons pe_int pa_nil))) pa_nil))) (by rfl))
      (pss_cons (ps_set (i := 6) sc_pairs.nd rfl (.inl rfl) (pc T.d_law_mixed G3 hr (pa_cons (pv 0) (pa_cons (pe_listRg rfl rfl T.n_list (prg_1 rfl T.n_range (pe_op op_add (pe_op op_mul pe_int (pv 2)) pe_int))) pa_nil))))
      (pss_cons (ps_par3 (i := 7) (j := 8) (l := 9) rfl sc_pairs.nd rfl rfl rfl (by decide) (by decide) (by decide) rfl rfl rfl
        (pa_cons (pe_slice sl_list (pv 6) po_none (po_some (pv 2))) (pa_cons (pe_slice sl_list (pv 6) (po_some (pv 2)) po_none)
          (pa_cons (pc T.d_law_mixed G3 hr (pa_cons (pv 0) (pa_cons (pe_slice sl_list (pv 6) po_none (po_some (pv 2))) pa_nil))) pa_nil))) (by rfl))
      (pss_cons (ps_set (i := 10) sc_pairs.nd rfl (.inl rfl) (pe_lst pa_nil))
      (pss_cons (ps_for PassesOwn.never rfl (pi_enum rfl T.n_enumerate (pa_cons (pv 7) pa_nil)) (pg_tup rfl (pgs_cons (pg_name (i := 11) sc_pairs.nd rfl (.inl rfl)) (pgs_cons (pg_name (i := 12) sc_pairs.nd rfl (.inl rfl)) pgs_nil)))
        (pss_cons (ps_set (i := 13) sc_pairs.nd rfl (.inl rfl) (pc T.d_law_pick G2 hr (pa_cons (pv 0) (pa_cons (pe_lst (pa_cons (pc T.d_law_pick G2 hr (pa_cons (pv 0) (pa_cons (pv 6) pa_nil))) (pa_cons (pc T.d_law_pick G2 hr (pa_cons (pv 0) (pa_cons (pv 8) pa_nil))) (pa_cons (pv 12) (pa_cons (pc T.d_law_pick G2 hr (pa_cons (pv 0) (pa_cons (pv 7) pa_nil))) pa_nil))))) pa_nil))))
        (pss_cons (ps_if (pt_cmpR op_eq (pv 5) pe_int (nomark _)) (pss_one (ps_set (i := 13) sc_pairs.nd rfl (.inl rfl) (pe_ix ix_list (pv 9) (pv 11) (fun _ _ => rfl)))) pss_nil)
        (pss_cons (ps_if (pw_and (pt_cmpR op_eq (pv 5) pe_int (nomark _)) (pw_and1 (pt_cmpR op_gt (pc T.d_law_draw G1 (hr.mono (by decide)) (pa_cons (pv 0) (pa_cons pe_int pa_nil))) pe_int (nomark _)))).pt
          (pss_one (ps_set (i := 13) sc_pairs.nd rfl (.inl rfl) (pe_ix ix_list (pe_op op_cat (pv 7) (pv 8)) (pe_op op_add (pv 11) pe_int) (fun _ _ => rfl)))) pss_nil)
        (pss_cons (ps_if (pt_cmpR op_eq (pv 5) pe_int (nomark _)) (pss_one (ps_set (i := 13) sc_pairs.nd rfl (.inl rfl) (pe_ix ix_list (pe_op op_cat (pv 7) (pv 8)) (pe_op op_sub (pe_op op_add (pv 11) pe_int) (pe_op op_mul (pc T.d_law_draw G1 (hr.mono (by decide)) (pa_cons (pv 0) (pa_cons pe_int pa_nil))) (pv 11))) (fun _ _ => rfl)))) pss_nil)
        (pss_cons (ps_if (pt_cmpR op_eq (pv 5) pe_int (nomark _)) (pss_one (ps_set (i := 13) sc_pairs.nd rfl (.inl rfl) (pe_ix ix_list (pe_op op_cat (pe_slice sl_list (pv 8) po_none (po_some pe_int)) (pv 7)) (pb (call_max2 rfl) T.n_max bb_max (pa_cons pe_int (pa_cons (pe_op op_sub (pv 11) (pc T.d_law_draw G1 (hr.mono (by decide)) (pa_cons (pv 0) (pa_cons pe_int pa_nil)))) pa_nil))) (fun _ _ => rfl)))) pss_nil)
        (pss_cons (ps_if (pw_and (pt_cmpR op_eq (pv 5) pe_int (nomark _)) (pw_and1 (pt_cmpR op_gt (pv 11) pe_int (nomark _)))).pt
          (pss_one (ps_set (i := 13) sc_pairs.nd rfl (.inl rfl) (pc T.d_law_pick G2 hr (pa_cons (pv 0) (pa_cons (pe_op op_cat (pe_slice sl_list (pv 7) po_none (po_some (pv 11))) (pe_slice sl_list (pv 8) po_none (po_some pe_int))) pa_nil))))) pss_nil)
        (pss_one (ps_expr (pe_bm PySem.F.plainAttrs_list PySem.F.slot_list_append PySem.F.type_list_append mt_append (pv 10) (pa_cons (pe_tup (pa_cons (pe_op op_mul (pe_op op_sub (pv 12) (pv 4)) (pv 3)) (pa_cons (pe_op op_mul (pe_op op_sub (pv 13) (pv 4)) (pv 3)) pa_nil))) pa_nil)))))))))))
      (pss_one (ps_ret (pv 10)))))))), ?_⟩
    refine ⟨_, rfl, _, rfl, _, _, rfl, rfl, p, _, rfl, hp, by omega, by omega, fun d a b c hd0 hd1 => ?_⟩
    obtain ⟨m, rfl⟩ : ∃ m : Nat, d = m := ⟨d.toNat, by omega⟩
    have hm20 : m ≤ 20 := by omega
    have b1 : Bes p H (upd H p (.lst [.int a, .int b, .int c])) := Bes.upd
    generalize upd H p (.lst [.int a, .int b, .int c]) = H1 at b1 ⊢
    -- scale, shift, way
    refine ⟨_, rfl, _, _, rfl, rfl, ⟨by decide, by decide, by decide⟩, _, _, rfl, rfl, ⟨by decide, by decide, by decide⟩, by show (5 : Nat) ≤ sizeLine; decide, fun z hz => ⟨p, z, _, rfl, b1.2.same (same_new hz), SqL.of upd_same, pen_ne b1.2 hz, by show 0 < 5; decide, by show 5 < 1000; decide, fun v H2 hv b2 => ?_⟩⟩
    obtain ⟨sc, rfl, hsc⟩ := scale_of hv
    have b2 := (b1.same (same_new (o := .lst [V.int 1, V.int 1, V.int 3, V.int (10 ^ (9 : Int).toNat), V.int (10 ^ (28 : Int).toNat)]) hz)).trans b2
    refine ⟨_, rfl, _, rfl, _, _, rfl, rfl, .inl ⟨by decide, by decide⟩, _, _, rfl, rfl, p, _, rfl, b2.2, by omega, by omega, fun sh a b c hs0 hs1 => ?_⟩
    have b3 : Bes p H (upd H2 p (.lst [.int a, .int b, .int c])) := b2.trans Bes.upd
    generalize upd H2 p (.lst [.int a, .int b, .int c]) = H3 at b3 ⊢
    refine ⟨_, rfl, p, 7, rfl, b3.2, by decide, by decide, fun wy a b c hw0 hw1 => ⟨_, _, _, rfl, ?_⟩⟩
    have b4 : Bes p H (upd H3 p (.lst [.int a, .int b, .int c])) := b3.trans Bes.upd
    generalize upd H3 p (.lst [.int a, .int b, .int c]) = H4 at b4 ⊢
    -- spots
    have e2m : (2 : Int) * (m : Int) + 2 = ((2 * m + 2 : Nat) : Int) := by omega
    refine ⟨_, rfl, _, rfl, _, _, rfl, rfl, .inl ⟨by decide, by decide⟩, _, _, rfl, rfl, _, rfl, RgOk.of_le (by omega) (by omega) (by omega) (by omega), fun z hz => ?_⟩
    rw [e2m, rgV_rng]
    refine ⟨p, z, rng (2 * m + 2), rfl, b4.2.same (same_new hz), SqL.of upd_same, by rw [rng_len]; omega, fun sp ys H5 hsp hys b5 h5 => ?_⟩
    have b5 := (b4.same (same_new (o := .lst ((rng (2 * m + 2)).map V.int)) hz)).trans b5
    have hlen : ys.length = 2 * m + 2 := by rw [hys.length_eq, rng_len]
    have nd : ys.Nodup := hys.nodup_iff.mpr (rng_nodup _)
    have hin : ∀ x ∈ ys, 0 ≤ x ∧ x < ((2 * m + 2 : Nat) : Int) := fun x hx => rng_mem (hys.mem_iff.mp hx)
    have nsp : sp ≠ p := by
      refine fun e => ?_
      rw [e] at hsp
      rw [upd_ne (pen_ne b4.2 hz).symm] at hsp
      obtain ⟨x, y, u, e2⟩ := b4.2
      rw [e2] at hsp
      cases hsp
    -- keys, free, turned
    refine ⟨_, rfl, _, rfl, _, rfl, sp, _, rfl, SqL.of h5, fun kl hkl => ?_⟩
    rw [cut_map _ m (by omega)]
    have s6 := same_new (o := .lst ((ys.take m).map V.int)) hkl
    have b6 := b5.same s6
    have nkl := pen_ne b5.2 hkl
    have h56 := s6 _ _ h5
    have hk6 : upd H5 kl (.lst ((ys.take m).map V.int)) kl = some (.lst ((ys.take m).map V.int)) := upd_same
    generalize upd H5 kl (.lst ((ys.take m).map V.int)) = H6 at b6 h56 hk6 ⊢
    refine ⟨_, rfl, _, rfl, _, rfl, sp, _, rfl, SqL.of h56, fun fl hfl => ?_⟩
    rw [cut_drop _ m (by omega)]
    have s7 := same_new (o := .lst ((ys.drop m).map V.int)) hfl
    have b7 := b6.same s7
    have nfl := pen_ne b6.2 hfl
    have h57 := s7 _ _ h56
    have hk7 := s7 _ _ hk6
    have hf7 : upd H6 fl (.lst ((ys.drop m).map V.int)) fl = some (.lst ((ys.drop m).map V.int)) := upd_same
    generalize upd H6 fl (.lst ((ys.drop m).map V.int)) = H7 at b7 h57 hk7 hf7 ⊢
    refine ⟨_, rfl, _, rfl, _, rfl, _, rfl, sp, _, rfl, SqL.of h57, fun z hz => ?_⟩
    rw [cut_map _ m (by omega)]
    have s8 := same_new (o := .lst ((ys.take m).map V.int)) hz
    have b8 := b7.same s8
    have h58 := s8 _ _ h57
    have hk8 := s8 _ _ hk7
    have hf8 := s8 _ _ hf7
    have hz8 : upd H7 z (.lst ((ys.take m).map V.int)) z = some (.lst ((ys.take m).map V.int)) := upd_same
    generalize upd H7 z (.lst ((ys.take m).map V.int)) = H8 at b8 h58 hk8 hf8 hz8 ⊢
    refine ⟨p, z, ys.take m, rfl, b8.2, SqL.of hz8, by rw [List.length_take]; omega, fun tl tu H9 htl htu b9 h9 => ⟨_, _, _, rfl, ?_⟩⟩
    have h59 := b9.at_ nsp h58
    have hk9 := b9.at_ nkl hk8
    have hf9 := b9.at_ nfl hf8
    have ntl := pen_ne b8.2 htl
    have b9 := b8.trans b9
    -- the pairs
    refine ⟨Nat.zero_le _, fun l hl => ?_⟩
    have s10 := same_new (o := .lst []) hl
    have b10 := b9.same s10
    have nl := pen_ne b9.2 hl
    have hl0 := b9.none hl
    have h510 := s10 _ _ h59
    have hk10 := s10 _ _ hk9
    have hf10 := s10 _ _ hf9
    have ht10 := s10 _ _ h9
    have hl10 : upd H9 l (.lst []) l = some (.lst []) := upd_same
    have nspl := ne_of_none h59 hl
    have nkll := ne_of_none hk9 hl
    have nfll := ne_of_none hf9 hl
    have ntll := ne_of_none h9 hl
    generalize upd H9 l (.lst []) = H10 at b10 h510 hk10 hf10 ht10 hl10 ⊢
    refine ⟨_, rfl, kl, _, rfl, SqL.of hk10, ?_⟩
    refine for_it (walk_enum (K := K) (a := kl) (xs := (ys.take m).map V.int)) (fun i σ H' => ∃ v11 v12 v13 acc xs, σ = [some (.ref p), some (.int most), some (.int m), some (.int sc), some (.int sh), some (.int wy), some (.ref sp), some (.ref kl), some (.ref fl), some (.ref tl), some (.ref l), v11, v12, v13] ∧ Bes p H H' ∧
        H' sp = some (.lst (ys.map V.int)) ∧ H' kl = some (.lst ((ys.take m).map V.int)) ∧ H' fl = some (.lst ((ys.drop m).map V.int)) ∧ H' tl = some (.lst (tu.map V.int)) ∧ H' l = some (.lst acc) ∧ DpAll K (tups H') acc ((scl sc xs).map dP) ∧
        RC.keys xs = (ys.take i).map (· - sh) ∧ ∀ q ∈ xs, (-100 < q.1 ∧ q.1 < 100) ∧ -100 < q.2 ∧ q.2 < 100)
      ⟨none, none, none, [], [], rfl, b10, h510, hk10, hf10, ht10, hl10, .nil, rfl, fun q hq => absurd hq List.not_mem_nil⟩ (fun i σ H' _ h => by obtain ⟨_, _, _, _, _, _, _, _, h, _⟩ := h; exact SqL.of h) ?_ ?_
    · rintro i x σ H11 H12 hi ⟨v11, v12, v13, acc, xs, rfl, b11, g5, gk, gf, gt, gl, hdp, hkx, hbx⟩ ⟨T1, x1, x2, rfl, hT, rfl, e1, e2⟩
      have e2 : ((ys.take m).map V.int)[i]? = some x2 := e2
      rw [List.getElem?_map] at e2
      cases e1
      cases e3 : (ys.take m)[i]? with
      | none =>
        rw [e3] at e2
        cases e2
      | some key =>
        rw [e3] at e2
        cases e2
        have him : i < m := by
          have := (List.getElem?_eq_some_iff.mp e3).1
          rw [List.length_take] at this
          omega
        have e3' : ys[i]? = some key := by rw [List.getElem?_take_of_lt him] at e3; exact e3
        have hkey := List.mem_of_getElem? e3'
        have s12 : Same H11 (upd H11 T1 (.tup [.int (i : Nat), .int key])) := same_new hT
        have b12 := b11.same s12
        refine ⟨T1, _, rfl, .inl (.inl upd_same), rfl, _, _, rfl, _, _, rfl, rfl, ?_⟩
        have g5 := s12 _ _ g5
        have gk := s12 _ _ gk
        have gf := s12 _ _ gf
        have gt := s12 _ _ gt
        have gl := s12 _ _ gl
        have hdp := hdp.same (tups_same s12)
        generalize upd H11 T1 (.tup [.int (i : Nat), .int key]) = H12 at b12 g5 gk gf gt gl hdp ⊢
        have gok : PGh.Ok ⟨p, sp, kl, fl, tl, l, most, sc, sh, wy, key, i, m, ys, tu, acc, H12⟩ :=
          ⟨b12.2, hlen, hm20, him, by show tu.length = m; rw [htu.length_eq, List.length_take]; omega, fun x hx => List.mem_of_mem_take (htu.mem_iff.mp hx), hkey, nsp, nkl, nfl, ntl, nl⟩
        have w0 : PW ⟨p, sp, kl, fl, tl, l, most, sc, sh, wy, key, i, m, ys, tu, acc, H12⟩ H12 := ⟨Bes.refl b12.2, g5, gk, gf, gt, gl⟩
        have pick1 : ∀ {a : Addr} {zs : List Int} {Hx : Hp} {Q : VK}, Pen Hx p → Hx a = some (.lst (zs.map V.int)) → a ≠ p → 0 < zs.length → zs.length < 100 → (∀ t Hy, t ∈ zs → Bes p Hx Hy → Q (.int t) Hy) → spPick K [.ref p, .ref a] Hx Q E0 :=
          fun {a zs Hx Q} hpen ha hne h0 h1 k => ⟨p, a, _, rfl, hpen, SqL.of ha, hne, by rw [List.length_map]; exact h0, by rw [List.length_map]; omega, fun v Hy hv b => by
            obtain ⟨t, rfl, ht⟩ := mem_map_int hv
            exact k t Hy ht b⟩
        refine ⟨_, rfl, _, rfl, _, rfl, pick1 w0.pen w0.s nsp (by rw [hlen]; omega) (by rw [hlen]; omega) fun t1 H13 ht1 b13 => ?_⟩
        have w1 := w0.move gok b13
        refine ⟨_, rfl, _, rfl, pick1 (zs := ys.drop m) w1.pen w1.f nfl (by rw [List.length_drop]; omega) (by rw [List.length_drop]; omega) fun t2 H14 ht2 b14 => ?_⟩
        have w2 := w1.move gok b14
        refine ⟨_, rfl, _, rfl, _, rfl, pick1 (zs := ys.take m) w2.pen w2.k nkl (by rw [List.length_take]; omega) (by rw [List.length_take]; omega) fun t3 H15 ht3 b15 => ?_⟩
        have w3 := w2.move gok b15
        refine ⟨by show (4 : Nat) ≤ sizeLine; decide, fun z hz => ?_⟩
        have w4 := w3.same (same_new (o := .lst ([t1, t2, key, t3].map V.int)) hz)
        refine pick1 (zs := [t1, t2, key, t3]) w4.pen upd_same (pen_ne w3.pen hz) (by show 0 < 4; decide) (by show 4 < 100; decide) fun t H16 ht b16 => ?_
        have w5 := w4.move gok b16
        have htm : t ∈ ys := by
          simp only [List.mem_cons, List.not_mem_nil, or_false] at ht
          rcases ht with rfl | rfl | rfl | rfl
          · exact ht1
          · exact List.mem_of_mem_drop ht2
          · exact hkey
          · exact List.mem_of_mem_take ht3
        refine rd1 gok ⟨t, rfl, htm, w5⟩ fun σ1 Ha ha => ?_
        refine rd2 gok ha fun σ2 Hb hb => ?_
        refine rd3 gok hb fun σ3 Hc hc => ?_
        refine rd4 gok hc fun σ4 Hd hd => ?_
        refine rd5 gok hd fun σ5 He he => ?_
        obtain ⟨t', rfl, ht', w6⟩ := he
        have i1 := hin key hkey
        have i2 := hin t' ht'
        have bw := w6.bes
        refine ⟨_, rfl, .inl ⟨rfl, _, SqL.of w6.dat⟩, _, rfl, _, rfl, key, sh, rfl, rfl, _, rfl, key - sh, sc, rfl, rfl, .inl ⟨by omega, by omega⟩, ?_⟩
        refine ⟨_, rfl, _, rfl, t', sh, rfl, rfl, _, rfl, t' - sh, sc, rfl, rfl, .inl ⟨by omega, by omega⟩, by show (2 : Nat) ≤ sizeLine; decide, fun tq htq => ?_⟩
        have s17 := same_new (o := .tup [.int ((key - sh) * sc), .int ((t' - sh) * sc)]) htq
        have w7 := w6.same s17
        have hxl : xs.length = i := by
          have := congrArg List.length hkx
          rw [RC.keys_len, List.length_map, List.length_take] at this
          omega
        have hal : acc.length = i := by rw [hdp.len, List.length_map, List.length_map, hxl]
        refine ⟨l, _, _, rfl, rfl, w7.dat, small1000 (show acc.length ≤ 1000 by omega), ?_⟩
        have ntl' : ∀ {a : Addr}, a ≠ l → ∀ {o}, (upd He tq (.tup [.int ((key - sh) * sc), .int ((t' - sh) * sc)])) a = some o → (upd (upd He tq (.tup [.int ((key - sh) * sc), .int ((t' - sh) * sc)])) l (.lst (acc ++ [.ref tq]))) a = some o := fun {a} hne {o} e => by rw [upd_ne hne]; exact e
        have pH := b12.2
        refine ⟨_, _, _, acc ++ [.ref tq], xs ++ [(key - sh, t' - sh)], rfl, (b12.trans w7.bes).mut hl0 hp, ntl' nspl w7.s, ntl' nkll w7.k, ntl' nfll w7.f, ntl' ntll w7.t, upd_same, ?_, ?_, ?_⟩
        · have d1 := (hdp.same (tups_bes pH w7.bes)).same (tups_lst (o := .lst (acc ++ [.ref tq])) w7.dat)
          have ntq : tq ≠ l := (ne_of_none w6.dat htq).symm
          have ht7 : (upd (upd He tq (.tup [.int ((key - sh) * sc), .int ((t' - sh) * sc)])) l (.lst (acc ++ [.ref tq]))) tq = some (.tup [.int ((key - sh) * sc), .int ((t' - sh) * sc)]) := by rw [upd_ne ntq, upd_same]
          have := d1.snoc (v := .ref tq) (d := dP ((key - sh) * sc, (t' - sh) * sc)) (.tup (.inl (.inl (tups_at ht7 rfl))) (.cons (.int _) (.cons (.int _) .nil)))
          unfold scl at this ⊢
          rw [List.map_append, List.map_append]
          exact this
        · rw [RC.keys_append, hkx, take_get e3', List.map_append]
          rfl
        · intro q hq
          rcases List.mem_append.mp hq with hq | hq
          · exact hbx q hq
          · have : q = (key - sh, t' - sh) := by simpa using hq
            subst this
            refine ⟨⟨?_, ?_⟩, ?_, ?_⟩ <;> show _ < _ <;> omega
    · rintro σ H11 ⟨v11, v12, v13, acc, xs, rfl, b11, g5, gk, gf, gt, gl, hdp, hkx, hbx⟩
      refine ⟨_, rfl, q l acc (scl sc xs) sc H11 hl0 hsc ⟨xs, rfl, ?_, ?_, hbx⟩ b11 gl hdp⟩
      · have := congrArg List.length hkx
        rw [RC.keys_len, List.length_map, List.length_map, List.length_take, List.length_take] at this
        omega
      · rw [hkx]
        unfold List.Nodup
        rw [List.pairwise_map]
        have := nd.sublist (List.take_sublist ((ys.take m).map V.int).length ys)
        exact this.imp fun h e => h (by omega)
end RP

/-! KW22 -/
/-! Walks: _law_near, _law_ways. -/
namespace RP
open PySem PySem.Spec PyProof.Rows L2
variable {P : Program} {w : World} {K : PySem.W.Frag} {mg : Str → Option Value} {base : Heap}
def stepOf (L : RC.Tab) : Int := if RC.bigIn L then 100000000000000000000 else 1
theorem near_map (L : RC.Tab) : RC.nearT L = L.map fun p => (p.1 / stepOf L, p.2 / stepOf L) := by
  unfold RC.nearT stepOf
  by_cases h : RC.bigIn L = true
  · rw [if_pos h, if_pos h]
  · rw [if_neg h, if_neg h]
    conv => lhs; rw [← List.map_id L]
    refine List.map_congr_left fun p _ => ?_
    rw [Int.ediv_one, Int.ediv_one]
    rfl
theorem step_snoc (L : RC.Tab) (p : Int × Int) : stepOf (L ++ [p]) = if (100000000000000000000 : Int) ≤ (if p.1 < 0 then -p.1 else p.1) + (if p.2 < 0 then -p.2 else p.2) then 100000000000000000000 else stepOf L := by
  have e : ((p.1.natAbs : Int) + (p.2.natAbs : Int)) = (if p.1 < 0 then -p.1 else p.1) + (if p.2 < 0 then -p.2 else p.2) := by
    split <;> split <;> omega
  unfold stepOf RC.bigIn
  rw [List.any_append, List.any_cons, List.any_nil, Bool.or_false, e]
  by_cases h : (100000000000000000000 : Int) ≤ (if p.1 < 0 then -p.1 else p.1) + (if p.2 < 0 then -p.2 else p.2)
  · rw [decide_eq_true h, Bool.or_true, if_pos rfl, if_pos h]
  · rw [decide_eq_false h, Bool.or_false, if_neg h]
theorem step_pos (L : RC.Tab) : 0 < stepOf L ∧ (stepOf L).natAbs < 2 ^ 100 := by
  unfold stepOf
  split
  · decide
  · decide
def spNear (K : PySem.W.Frag) : Sp := fun vs H Q _ => ∃ (a : Addr) (ys : List V) (L : RC.Tab), vs = [.ref a] ∧ H a = some (.lst ys) ∧ DpAll K (tups H) ys (L.map dP) ∧ L.length ≤ 20 ∧
  ∀ (q : Addr) (zs : List V) (H' : Hp), H q = none → Same H H' → H' q = some (.lst zs) → DpAll K (tups H') zs ((RC.nearT L).map dP) → Q (.ref q) H'
theorem sc_near : FnScope ["_law_pairs_here", "_law_step", "_law_key", "_law_new"] ["_law_pairs_here"] (defScope sLawNear) := ⟨rfl, rfl, rfl, by decide +kernel, rfl, by decide +kernel, by decide +kernel⟩
theorem ok_near (T : TX K mg) : FnOk P w K mg base CX0 1 T.d_law_near.f T.d_law_near.fd ["_law_pairs_here"] (spNear K) := by
  refine T.d_law_near.F.ok sc_near (fun vs H Q E h => ?_) (fun cdv A outer s H vs Q E hr h => ?_)
  · obtain ⟨a, ys, L, rfl, _⟩ := h
    rfl
  · obtain ⟨a, ys, L, rfl, ha, hd, hl, q⟩ := h
    refine ⟨_, pss_cons (ps_set (i := 1) sc_near.nd rfl (.inr rfl) pe_int)
      (pss_cons (ps_for PassesOwn.never rfl (pi_list (pv 0)) (pg_tup rfl (pgs_cons (pg_name (i := 2) sc_near.nd rfl (.inl rfl)) (pgs_cons (pg_name (i := 3) sc_near.nd rfl (.inl rfl)) pgs_nil)))
        (pss_one (ps_if (pt_cmpR op_ge (pe_op op_add (pb call_abs T.n_abs bb_abs (pa_cons (pv 2) pa_nil)) (pb call_abs T.n_abs bb_abs (pa_cons (pv 3) pa_nil))) (pe_op op_pow pe_int pe_int) (nomark _))
          (pss_one (ps_set (i := 1) sc_near.nd rfl (.inr rfl) (pe_op op_pow pe_int pe_int))) pss_nil)))
      (pss_one (ps_ret (pe_lc (own := [("_law_key", 2), ("_law_new", 3)]) (g := g2 K 2 3) (te := tTup (tCons (tOp (rI CDivW fun i j => V.int (i / j)) (tVar 2) (tVar 1)) (tCons (tOp (rI CDivW fun i j => V.int (i / j)) (tVar 3) (tVar 1)) tNil))) (tt := tYes) rfl sc_near.nd (pi_list (pv 0))
        (blkOk_by (N := ["_law_pairs_here", "_law_step", "_law_key", "_law_new"]) (sc := defScope sLawNear) (by decide +kernel))
        (fun _ _ _ _ _ => pg_tup rfl (pgs_cons (pg_name (i := 2) sc_near.nd rfl (.inl rfl)) (pgs_cons (pg_name (i := 3) sc_near.nd rfl (.inl rfl)) pgs_nil))) (fun _ _ _ _ _ => pts_nil)
        (fun _ _ _ _ _ => pe_tup (pa_cons (pe_op op_fdivW (pv 2) (pv 1)) (pa_cons (pe_op op_fdivW (pv 3) (pv 1)) pa_nil))))))), ?_⟩
    have hlen : ys.length = L.length := by rw [hd.len, List.length_map]
    have hdH := hd.same (tups_sub (H := H))
    refine ⟨_, rfl, a, rfl, ⟨_, SqL.of ha⟩, ?_⟩
    refine for_list (K := K) (a := a) (xs := ys) (fun i σ H' => ∃ v2 v3, σ = [some (.ref a), some (.int (stepOf (L.take i))), v2, v3] ∧ H = H') ⟨none, none, rfl, rfl⟩ (fun i σ H' _ ⟨_, _, _, e⟩ => e ▸ SqL.of ha) ?_ ?_
    · rintro i x σ H' hi ⟨v2, v3, rfl, rfl⟩
      obtain ⟨d, e1, e2⟩ := hdH.get hi
      rw [List.getElem?_map] at e1
      cases e3 : L[i]? with
      | none =>
        rw [e3] at e1
        cases e1
      | some p =>
        rw [e3] at e1
        cases e1
        obtain ⟨b, rfl, hb⟩ := e2.pair_inv
        rw [take_get e3, step_snoc]
        refine ⟨b, _, rfl, hb, rfl, _, _, rfl, _, _, rfl, rfl, ?_⟩
        refine ⟨_, rfl, _, rfl, _, rfl, _, rfl, _, _, rfl, rfl, _, _, rfl, rfl, ⟨by decide, by decide, by decide⟩, _, _, rfl, rfl, _, rfl, ?_⟩
        have e10 : (10 : Int) ^ ((20 : Int).toNat) = 100000000000000000000 := by decide
        rw [e10]
        by_cases h : (100000000000000000000 : Int) ≤ (if p.1 < 0 then -p.1 else p.1) + (if p.2 < 0 then -p.2 else p.2)
        · rw [decide_eq_true h, if_pos h]
          refine iteT ⟨_, _, rfl, rfl, ⟨by decide, by decide, by decide⟩, some (.int p.1), some (.int p.2), ?_, rfl⟩
          rfl
        · rw [decide_eq_false h, if_neg h]
          exact iteF ⟨_, _, rfl, rfl⟩
    · rintro σ H' ⟨v2, v3, rfl, rfl⟩
      rw [hlen, List.take_length]
      refine ⟨_, rfl, a, rfl, ⟨_, SqL.of ha⟩, fun D hD => ?_⟩
      have sp := step_pos L
      refine lc_rows (K := K) (walk_list (K := K) (a := a) (xs := ys)) (fun p => some (dP (p.1 / stepOf L, p.2 / stepOf L))) hD (fun H' s => SqL.of (s _ _ ha)) hdH (by omega) (fun _ _ => rfl) (fun p H2 QY QN hp s2 hacc qy qn => yesI ?_) (fun H' acc s2 hacc h => ?_)
      · refine ⟨_, rfl, _, rfl, _, _, rfl, rfl, wide_div (b := 100) sp.1 sp.2 (by decide) (by decide), _, rfl, _, rfl, _, _, rfl, rfl, wide_div (b := 100) sp.1 sp.2 (by decide) (by decide), by show (2 : Nat) ≤ sizeLine; decide, fun t htt => ?_⟩
        obtain ⟨acc, hacc⟩ := hacc
        exact qy _ rfl _ _ (same_new htt) (dp_del ((same_new htt) _ _ hacc) rfl (.tup (.inl (.inl upd_same)) (.cons (.int _) (.cons (.int _) .nil))))
      · refine q D acc H' hD s2 hacc ?_
        have e1 : L.filterMap (fun p => some (dP (p.1 / stepOf L, p.2 / stepOf L))) = (RC.nearT L).map dP := by
          rw [near_map, List.filterMap_eq_map', List.map_map]
          rfl
        rw [e1] at h
        exact RP.DpAll.tups (tupDs_map (fun p => rfl) _) (h.same del_sub)

/-! ### ways -/
def spWays : Sp := fun vs H Q _ => ∃ n k : Nat, vs = [.int (n + k : Nat), .int k] ∧ n + k ≤ 40 ∧ Q (.int (RC.ch n k)) H
theorem sc_ways : FnScope ["_law_many", "_law_few", "_law_found", "_law_number"] ["_law_many", "_law_few"] (defScope sLawWays) := ⟨rfl, rfl, rfl, by decide +kernel, rfl, by decide +kernel, by decide +kernel⟩
theorem ch_le (n k : Nat) (h : n + k ≤ 40) : RC.ch n k < 2 ^ 200 := by
  have h1 : RC.ch n k ∣ RC.fact (n + k) := ⟨_, (RC.ch_fact n k).symm⟩
  exact Nat.lt_of_le_of_lt (Nat.le_of_dvd (RC.fact_pos _) h1) (fact_lt _ h)
theorem ok_ways (T : TX K mg) : FnOk P w K mg base CX0 1 T.d_law_ways.f T.d_law_ways.fd ["_law_many", "_law_few"] spWays := by
  refine T.d_law_ways.F.ok sc_ways (fun vs H Q E h => ?_) (fun cdv A outer s H vs Q E hr h => ?_)
  · obtain ⟨n, k, rfl, _⟩ := h
    rfl
  · obtain ⟨n, k, rfl, hn, q⟩ := h
    refine ⟨_, pss_cons (ps_set (i := 2) sc_ways.nd rfl (.inl rfl) pe_int)
      (pss_cons (ps_for PassesOwn.never rfl (pi_range2 rfl T.n_range (pa_cons pe_int (pa_cons (pe_op op_add (pv 1) pe_int) pa_nil))) (pg_name (i := 3) sc_ways.nd rfl (.inl rfl))
        (pss_one (ps_set (i := 2) sc_ways.nd rfl (.inl rfl) (pe_op op_fdivW (pe_op op_mulW (pv 2) (pe_op op_add (pe_op op_sub (pv 0) (pv 1)) (pv 3))) (pv 3)))))
      (pss_one (ps_ret (pv 2)))), ?_⟩
    refine ⟨_, rfl, _, _, rfl, rfl, 1, (k : Int) + 1, rfl, ⟨by omega, by omega, by omega, by omega⟩, ?_⟩
    have e0 : ((k : Int) + 1 - 1).toNat = k := by omega
    show ∃ W, _
    rw [e0]
    refine for_range (lo := 1) (n := k) (fun i σ H' => ∃ v, σ = [some (.int (n + k : Nat)), some (.int k), some (.int (RC.ch n i)), v] ∧ H = H') ⟨none, by rw [show RC.ch n 0 = 1 by simp [RC.ch]]; rfl, rfl⟩ ?_ ?_
    · rintro i σ H' hi ⟨v, rfl, rfl⟩
      have hch := ch_le n i (by omega)
      refine ⟨_, rfl, _, rfl, _, rfl, ((n + k : Nat) : Int), (k : Int), rfl, rfl, _, rfl, ((n + k : Nat) : Int) - k, 1 + (i : Int), rfl, rfl, _, _, rfl, rfl, wide_mul (a := 200) (b := 200) (by rw [Int.natAbs_natCast]; exact hch) ?_ (by decide) (by decide) (by decide), ?_⟩
      · have : (((n + k : Nat) : Int) - k + (1 + (i : Int))).natAbs ≤ 100 := by omega
        exact Nat.lt_of_le_of_lt this (by decide)
      · refine ⟨_, rfl, _, 1 + (i : Int), rfl, rfl, wide_div (b := 200) (by omega) ?_ (by decide) (by decide), some (.int (1 + (i : Int))), ?_, rfl⟩
        · have : (1 + (i : Int)).natAbs ≤ 100 := by omega
          exact Nat.lt_of_le_of_lt this (by decide)
        · have : (RC.ch n i : Int) * (((n + k : Nat) : Int) - k + (1 + (i : Int))) / (1 + (i : Int)) = (RC.ch n (i + 1) : Nat) := by
            rw [← RC.ch_div n i, Int.natCast_ediv, Int.natCast_mul]
            congr 1
            · congr 1
              omega
            · omega
          show [some (V.int ((n + k : Nat) : Int)), some (V.int (k : Int)), some (V.int ((RC.ch n i : Int) * (((n + k : Nat) : Int) - k + (1 + (i : Int))) / (1 + (i : Int)))), some (V.int (1 + (i : Int)))] = _
          rw [this]
    · rintro σ H' ⟨v, rfl, rfl⟩
      exact ⟨_, rfl, q⟩
end RP

/-! KW23 -/
/-! Walks: _law_shuffled, _law_joined. -/
namespace RP
open PySem PySem.Spec PyProof.Rows L2
variable {P : Program} {w : World} {K : PySem.W.Frag} {mg : Str → Option Value} {base : Heap}
def spShuf (K : PySem.W.Frag) : Sp := fun vs H Q _ => ∃ (p a b : Addr) (o1 o2 : List Int), vs = [.ref p, .ref a, .ref b] ∧ Pen H p ∧ SqT K (tups H) a (o1.map V.int) ∧ SqT K (tups H) b (o2.map V.int) ∧ o1.length ≤ 40 ∧ o2.length ≤ 40 ∧
  ∀ (q : Addr) (s : List Int) (H' : Hp), RC.Shuf o1 o2 s → Bes p H H' → SqT K (tups H') q (s.map V.int) → Q (.ref q) H'
theorem sc_shuf : FnScope ["_law_pen_here", "_law_one", "_law_other", "_law_found", "_law_at", "_law_to"] ["_law_pen_here", "_law_one", "_law_other"] (defScope sLawShuffled) := ⟨rfl, rfl, rfl, by decide +kernel, rfl, by decide +kernel, by decide +kernel⟩
theorem ok_shuf (T : TX K mg) : FnOk P w K mg base CX0 2 T.d_law_shuffled.f T.d_law_shuffled.fd ["_law_pen_here", "_law_one", "_law_other"] (spShuf K) := by
  have G1 := ok_draw (P := P) (w := w) (base := base) T
  refine T.d_law_shuffled.F.ok sc_shuf (fun vs H Q E h => ?_) (fun cdv A outer s H vs Q E hr h => ?_)
  · obtain ⟨p, a, b, o1, o2, rfl, _⟩ := h
    rfl
  · obtain ⟨p, a, b, o1, o2, rfl, hp, ha, hb, hl1, hl2, q⟩ := h
    refine ⟨_, pss_cons (ps_par3 (i := 3) (j := 4) (l := 5) rfl sc_shuf.nd rfl rfl rfl (by decide) (by decide) (by decide) rfl rfl rfl (pa_cons (pe_lst pa_nil) (pa_cons pe_int (pa_cons pe_int pa_nil))) (by rfl))
      (pss_cons (ps_while PassesOwn.never (pw_or (pt_cmpR op_lt (pv 4) (pb call_len_seq T.n_len bb_len (pa_cons (pv 1) pa_nil)) (nomark _)) (pw_or1 (pt_cmpR op_lt (pv 5) (pb call_len_seq T.n_len bb_len (pa_cons (pv 2) pa_nil)) (nomark _)))).pt
        (pss_one (ps_if (pw_and (pt_cmpR op_lt (pv 4) (pb call_len_seq T.n_len bb_len (pa_cons (pv 1) pa_nil)) (nomark _)) (pw_and1 (pw_or (pt_cmpR op_eq (pv 5) (pb call_len_seq T.n_len bb_len (pa_cons (pv 2) pa_nil)) (nomark _)) (pw_or1 (pt_cmpR op_eq (pc T.d_law_draw G1 hr (pa_cons (pv 0) (pa_cons pe_int pa_nil))) pe_int (nomark _)))).pt)).pt
          (pss_cons (ps_expr (pe_bm PySem.F.plainAttrs_list PySem.F.slot_list_append PySem.F.type_list_append mt_append (pv 3) (pa_cons (pe_ix ix_tup (pv 1) (pv 4) (fun _ _ => rfl)) pa_nil))) (pss_one (ps_set (i := 4) sc_shuf.nd rfl (.inl rfl) (pe_op op_add (pv 4) pe_int))))
          (pss_cons (ps_expr (pe_bm PySem.F.plainAttrs_list PySem.F.slot_list_append PySem.F.type_list_append mt_append (pv 3) (pa_cons (pe_ix ix_tup (pv 2) (pv 5) (fun _ _ => rfl)) pa_nil))) (pss_one (ps_set (i := 5) sc_shuf.nd rfl (.inl rfl) (pe_op op_add (pv 5) pe_int)))))))
      (pss_one (ps_ret (pbt call_tuple_of T.n_tuple bb_tuple (pa_cons (pv 3) pa_nil))))), ?_⟩
    refine ⟨Nat.zero_le _, fun l hl => ⟨_, _, _, rfl, ?_⟩⟩
    have npl := pen_ne hp hl
    refine ⟨fun mm σ H' => ∃ (i j : Nat) (f : List Int), σ = [some (.ref p), some (.ref a), some (.ref b), some (.ref l), some (.int i), some (.int j)] ∧ i ≤ o1.length ∧ j ≤ o2.length ∧ i + j + mm = o1.length + o2.length ∧ RC.Shuf (o1.take i) (o2.take j) f ∧ Bes p H H' ∧ H' l = some (.lst (f.map V.int)),
      ⟨o1.length + o2.length, 0, 0, [], rfl, Nat.zero_le _, Nat.zero_le _, by omega, .nil, (Bes.refl hp).same (same_new hl), upd_same⟩, ?_⟩
    rintro mm σ H1 ⟨i, j, f, rfl, hi, hj, hm, hsh, b1, h1⟩
    have t1 := tups_bes hp b1
    have ha1 := same_t tups_sub (same_t t1 ha)
    have hb1 := same_t tups_sub (same_t t1 hb)
    have hfl : f.length ≤ 80 := by
      have := hsh.perm.length_eq
      rw [List.length_append, List.length_take, List.length_take] at this
      omega
    have hsz : (f.map V.int).length < sizeLine := by rw [List.length_map]; exact small1000 (by omega)
    have one : ∀ (D : Ends) (H2 : Hp), i < o1.length → Bes p H1 H2 → H2 l = some (.lst (f.map V.int)) → (∀ H3 x, Bes p H H3 → H3 l = some (.lst ((f ++ [x]).map V.int)) → o1[i]? = some x → D.nx [some (.ref p), some (.ref a), some (.ref b), some (.ref l), some (.int ((i + 1 : Nat) : Int)), some (.int j)] H3) →
        tSeq (tDrop (tBM K "list" rAppend (tVar 3) (tCons (tOp (rIxT K) (tVar 1) (tVar 4)) tNil))) (tAsg (tOp (rI0 fun i j => V.int (i + j)) (tVar 4) (tC (.int 1))) (gName 4)) D [some (.ref p), some (.ref a), some (.ref b), some (.ref l), some (.int i), some (.int j)] H2 := fun D H2 h b2 h2 k => by
      obtain ⟨x, hx⟩ : ∃ x, o1[i]? = some x := ⟨_, List.getElem?_eq_getElem h⟩
      refine ⟨_, rfl, .inl ⟨rfl, _, SqL.of h2⟩, _, rfl, _, rfl, a, _, _, .int x, rfl, rfl, same_t tups_sub (same_t (t1.trans (tups_bes b1.2 b2)) ha), atI_nat (j := i) (by rw [List.getElem?_map, hx]; rfl), l, _, _, rfl, rfl, h2, hsz, _, rfl, _, _, rfl, rfl, ?_⟩
      have := k (upd H2 l (.lst (f.map V.int ++ [.int x]))) x ((b1.trans b2).mut hl hp) (by rw [upd_same, List.map_append]; rfl) hx
      exact this
    have two : ∀ (D : Ends) (H2 : Hp), j < o2.length → Bes p H1 H2 → H2 l = some (.lst (f.map V.int)) → (∀ H3 x, Bes p H H3 → H3 l = some (.lst ((f ++ [x]).map V.int)) → o2[j]? = some x → D.nx [some (.ref p), some (.ref a), some (.ref b), some (.ref l), some (.int i), some (.int ((j + 1 : Nat) : Int))] H3) →
        tSeq (tDrop (tBM K "list" rAppend (tVar 3) (tCons (tOp (rIxT K) (tVar 2) (tVar 5)) tNil))) (tAsg (tOp (rI0 fun i j => V.int (i + j)) (tVar 5) (tC (.int 1))) (gName 5)) D [some (.ref p), some (.ref a), some (.ref b), some (.ref l), some (.int i), some (.int j)] H2 := fun D H2 h b2 h2 k => by
      obtain ⟨x, hx⟩ : ∃ x, o2[j]? = some x := ⟨_, List.getElem?_eq_getElem h⟩
      refine ⟨_, rfl, .inl ⟨rfl, _, SqL.of h2⟩, _, rfl, _, rfl, b, _, _, .int x, rfl, rfl, same_t tups_sub (same_t (t1.trans (tups_bes b1.2 b2)) hb), atI_nat (j := j) (by rw [List.getElem?_map, hx]; rfl), l, _, _, rfl, rfl, h2, hsz, _, rfl, _, _, rfl, rfl, ?_⟩
      have := k (upd H2 l (.lst (f.map V.int ++ [.int x]))) x ((b1.trans b2).mut hl hp) (by rw [upd_same, List.map_append]; rfl) hx
      exact this
    have r1 := Bes.refl b1.2
    have dlt : ∀ x y : Nat, decide ((x : Int) < (y : Int)) = decide (x < y) := fun x y => by
      by_cases h : x < y
      · rw [decide_eq_true h, decide_eq_true (by omega)]
      · rw [decide_eq_false h, decide_eq_false (by omega)]
    have deq : ∀ x y : Nat, decide (V.int (x : Int) = V.int (y : Int)) = decide (x = y) := fun x y => by
      by_cases h : x = y
      · rw [decide_eq_true h, decide_eq_true (by rw [h])]
      · rw [decide_eq_false h, decide_eq_false (fun z => h (by have := V.int.inj z; omega))]
    -- the turn, where there is one
    have turn : ∀ D : Ends, i < o1.length ∨ j < o2.length → (∀ (i' j' : Nat) (f' : List Int) H', i' ≤ o1.length → j' ≤ o2.length → i' + j' = i + j + 1 → RC.Shuf (o1.take i') (o2.take j') f' → Bes p H H' → H' l = some (.lst (f'.map V.int)) → D.nx [some (.ref p), some (.ref a), some (.ref b), some (.ref l), some (.int i'), some (.int j')] H') →
        tIfS (tAnd (tTest (tOp (rI0 fun i j => V.bl (decide (i < j))) (tVar 4) (tCB (fun xs H Q => ∃ p ys, xs = [V.ref p] ∧ (SqL K H p ys ∨ SqT K H p ys) ∧ Q (.int ys.length) H) (tCons (tVar 1) tNil))))
            (tOr (tTest (tOp rEq (tVar 5) (tCB (fun xs H Q => ∃ p ys, xs = [V.ref p] ∧ (SqL K H p ys ∨ SqT K H p ys) ∧ Q (.int ys.length) H) (tCons (tVar 2) tNil)))) (tTest (tOp rEq (tCall spDraw [] E0 (tCons (tVar 0) (tCons (tC (.int 2)) tNil))) (tC (.int 0))))))
          (tSeq (tDrop (tBM K "list" rAppend (tVar 3) (tCons (tOp (rIxT K) (tVar 1) (tVar 4)) tNil))) (tAsg (tOp (rI0 fun i j => V.int (i + j)) (tVar 4) (tC (.int 1))) (gName 4)))
          (tSeq (tDrop (tBM K "list" rAppend (tVar 3) (tCons (tOp (rIxT K) (tVar 2) (tVar 5)) tNil))) (tAsg (tOp (rI0 fun i j => V.int (i + j)) (tVar 5) (tC (.int 1))) (gName 5))) D [some (.ref p), some (.ref a), some (.ref b), some (.ref l), some (.int i), some (.int j)] H1 := fun D hor k => by
      have k1 : ∀ H3 x, Bes p H H3 → H3 l = some (.lst ((f ++ [x]).map V.int)) → o1[i]? = some x → D.nx [some (.ref p), some (.ref a), some (.ref b), some (.ref l), some (.int ((i + 1 : Nat) : Int)), some (.int j)] H3 := fun H3 x b3 h3 hx => by
        have hlt := (List.getElem?_eq_some_iff.mp hx).1
        exact k (i + 1) j (f ++ [x]) H3 (by omega) hj (by omega) (by rw [take_get hx]; exact hsh.inl) b3 h3
      have k2 : ∀ H3 x, Bes p H H3 → H3 l = some (.lst ((f ++ [x]).map V.int)) → o2[j]? = some x → D.nx [some (.ref p), some (.ref a), some (.ref b), some (.ref l), some (.int i), some (.int ((j + 1 : Nat) : Int))] H3 := fun H3 x b3 h3 hx => by
        have hlt := (List.getElem?_eq_some_iff.mp hx).1
        exact k i (j + 1) (f ++ [x]) H3 hi (by omega) (by omega) (by rw [take_get hx]; exact hsh.inr) b3 h3
      refine ⟨_, rfl, _, rfl, a, _, rfl, .inr ha1, _, _, rfl, rfl, _, rfl, ?_⟩
      rw [List.length_map, dlt]
      by_cases h : i < o1.length
      · rw [decide_eq_true h]
        refine iteT ⟨_, rfl, _, rfl, b, _, rfl, .inr hb1, rfl, _, rfl, ?_⟩
        rw [List.length_map, deq]
        by_cases h' : j = o2.length
        · rw [decide_eq_true h']
          exact iteT (iteT (one D H1 h r1 h1 k1))
        · rw [decide_eq_false h']
          refine iteF ⟨_, rfl, p, 2, rfl, b1.2, by decide, by decide, fun d x y z hd0 hd1 => ⟨rfl, _, rfl, ?_⟩⟩
          have b2 : Bes p H1 (upd H1 p (.lst [.int x, .int y, .int z])) := Bes.upd
          have h2 := b2.at_ npl h1
          by_cases hd : d = 0
          · rw [decide_eq_true (congrArg V.int hd)]
            exact iteT (one D _ h b2 h2 k1)
          · rw [decide_eq_false (fun z => hd (V.int.inj z))]
            exact iteF (two D _ (by omega) b2 h2 k2)
      · rw [decide_eq_false h]
        exact iteF (iteF (two D H1 (by omega) r1 h1 k2))
    refine ⟨_, rfl, _, rfl, a, _, rfl, .inr ha1, _, _, rfl, rfl, _, rfl, ?_⟩
    rw [List.length_map, dlt]
    by_cases h : i < o1.length
    · rw [decide_eq_true h]
      cases mm with
      | zero => omega
      | succ mm =>
        refine iteT (iteT ⟨_, fun σ' H' z => ⟨mm, Nat.lt_succ_self mm, z⟩, turn _ (.inl h) fun i' j' f' H' h1 h2 h3 h4 h5 h6 => ⟨i', j', f', rfl, h1, h2, by omega, h4, h5, h6⟩⟩)
    · rw [decide_eq_false h]
      refine iteF ⟨_, rfl, _, rfl, b, _, rfl, .inr hb1, _, _, rfl, rfl, _, rfl, ?_⟩
      rw [List.length_map, dlt]
      by_cases h' : j < o2.length
      · rw [decide_eq_true h']
        cases mm with
        | zero => omega
        | succ mm =>
          refine iteT ⟨_, fun σ' H' z => ⟨mm, Nat.lt_succ_self mm, z⟩, turn _ (.inr h') fun i' j' f' H' h1 h2 h3 h4 h5 h6 => ⟨i', j', f', rfl, h1, h2, by omega, h4, h5, h6⟩⟩
      · rw [decide_eq_false h']
        refine iteF ⟨_, rfl, l, _, rfl, .inl ⟨SqL.of h1, fun t htt => ?_⟩⟩
        rw [List.take_of_length_le (by omega), List.take_of_length_le (by omega)] at hsh
        exact q t f _ hsh (b1.same (same_new htt)) (.inl (.inl (tups_at upd_same rfl)))
end RP

/-! KW24 -/
/-! Walks: _law_joined. -/
namespace RP
open PySem PySem.Spec PyProof.Rows L2
variable {P : Program} {w : World} {K : PySem.W.Frag} {mg : Str → Option Value} {base : Heap}
theorem cat_any {H : Hp} {a b : Addr} {xs ys : List V} {Q : VK} (ha : SqT K H a xs) (hb : SqT K H b ys) (hl : xs.length + ys.length ≤ sizeLine) (k : ∀ p H', Same H H' → SqT K H' p (xs ++ ys) → Q (.ref p) H') : rCatA K (.ref a) (.ref b) H Q := by
  refine ⟨a, b, xs, ys, rfl, rfl, ha, hb, hl, fun e => ?_, fun _ e => ?_, fun _ _ p hp => ?_⟩
  · exact k b H (fun _ _ h => h) (by rw [e, List.nil_append]; exact hb)
  · exact k a H (fun _ _ h => h) (by rw [e, List.append_nil]; exact ha)
  · exact k p _ (same_new hp) (.inl (.inl upd_same))
theorem flat_one {α : Type} (x : α) : ∀ n : Nat, (List.replicate n [x]).flatten = List.replicate n x
  | 0 => rfl
  | n + 1 => by
    rw [List.replicate_succ, List.replicate_succ, List.flatten_cons, flat_one x n]
    rfl
theorem dp_reps {H : Hp} {v : V} {d : PyData} (h : Dp K H v d) : ∀ n : Nat, DpAll K H (List.replicate n v) (List.replicate n d)
  | 0 => .nil
  | n + 1 => .cons h (dp_reps h n)
def rowAt (A B : List (List Int)) (d : Nat) : List Int := A.getD d [] ++ B.getD d []
def joinOf (A B : List (List Int)) : List (List Int) := (List.range (max A.length B.length)).map (rowAt A B)
def spJoin (K : PySem.W.Frag) : Sp := fun vs H Q _ => ∃ (a b : Addr) (A B : List (List Int)), vs = [.ref a, .ref b] ∧ Dp K H (.ref a) (dTs A) ∧ Dp K H (.ref b) (dTs B) ∧ A.length ≤ 40 ∧ B.length ≤ 40 ∧ (∀ d, (rowAt A B d).Pairwise (· ≤ ·)) ∧ (∀ d, (A.getD d []).length ≤ 40) ∧ (∀ d, (B.getD d []).length ≤ 40) ∧
  ∀ p H', Same H H' → Dp K H' (.ref p) (dTs (joinOf A B)) → Q (.ref p) H'
theorem sc_join : FnScope ["_law_one", "_law_other", "_law_size", "_law_mine", "_law_its", "_law_at"] ["_law_one", "_law_other"] (defScope sLawJoined) := ⟨rfl, rfl, rfl, by decide +kernel, rfl, by decide +kernel, by decide +kernel⟩
/-- list(one) + [()] * (size - len(one)) -/
theorem rd_pad {σ : L2.St} {H : Hp} {a : Addr} {A : List (List Int)} {n : Nat} {i : Nat} {Q : VK} (hi : σ[i]? = some (some (.ref a))) (h2 : σ[2]? = some (some (.int n))) (hA : Dp K H (.ref a) (dTs A)) (h40 : A.length ≤ n) (hn : n ≤ 40)
    (k : ∀ q zs H', Same H H' → H' q = some (.lst zs) → DpAll K H' zs ((A ++ List.replicate (n - A.length) []).map dT) → Q (.ref q) H') :
    tOp rCat (tCB (fun xs H Q => ∃ p ys, xs = [V.ref p] ∧ (SqL K H p ys ∨ SqT K H p ys) ∧ ∀ l, H l = none → Q (.ref l) (upd H l (.lst ys))) (tCons (tVar i) tNil))
      (tOp rRep (tLst (tCons (tTup tNil) tNil)) (tOp (rI0 fun i j => V.int (i - j)) (tVar 2) (tCB (fun xs H Q => ∃ p ys, xs = [V.ref p] ∧ (SqL K H p ys ∨ SqT K H p ys) ∧ Q (.int ys.length) H) (tCons (tVar i) tNil)))) σ H Q := by
  obtain ⟨a', xs, e1, hs, ha⟩ := hA.tup_inv
  cases e1
  have hxl : xs.length = A.length := by rw [ha.len, List.length_map]
  refine ⟨_, hi, a, xs, rfl, .inr hs, fun l hl => ?_⟩
  have s1 := same_new (o := .lst xs) hl
  refine ⟨Nat.zero_le _, fun e he => ⟨by show (1 : Nat) ≤ sizeLine; decide, fun z hz => ?_⟩⟩
  have s2 := same_new (o := .tup []) he
  have s3 := same_new (o := .lst [.ref e]) hz
  have sA := (s1.trans s2).trans s3
  refine ⟨_, h2, _, hi, a, xs, rfl, .inr (same_t sA hs), _, _, rfl, rfl, ?_⟩
  have hl3 := s3 _ _ (s2 _ _ (upd_same (H := H) (a := l) (o := .lst xs)))
  have he3 := s3 _ _ (upd_same (H := upd H l (.lst xs)) (a := e) (o := .tup []))
  have hz3 : (upd (upd (upd H l (.lst xs)) e (.tup [])) z (.lst [.ref e])) z = some (.lst [.ref e]) := upd_same
  generalize upd (upd (upd H l (.lst xs)) e (.tup [])) z (.lst [.ref e]) = H3 at sA hl3 he3 hz3 ⊢
  have en : (((n : Nat) : Int) - ((xs.length : Nat) : Int)).toNat = n - A.length := by omega
  refine ⟨z, _, _, rfl, rfl, hz3, by omega, by omega, ?_, fun y hy => ?_⟩
  · rw [en]
    show 1 * (n - A.length) ≤ sizeLine
    exact Nat.le_of_lt (small1000 (by omega))
  · rw [en, flat_one]
    have s4 := same_new (o := .lst (List.replicate (n - A.length) (V.ref e))) hy
    refine ⟨l, y, _, _, rfl, rfl, s4 _ _ hl3, upd_same, ?_, fun x hx => ?_⟩
    · rw [List.length_replicate]
      exact Nat.le_of_lt (small1000 (by omega))
    · have s5 := same_new (o := .lst (xs ++ List.replicate (n - A.length) (V.ref e))) hx
      refine k x _ _ ((sA.trans s4).trans s5) upd_same ?_
      rw [List.map_append, List.map_replicate]
      have he5 := s5 _ _ (s4 _ _ he3)
      exact (ha.same ((sA.trans s4).trans s5)).app (dp_reps (.tup (.inl (.inl he5)) .nil) _)
theorem pad_get {A : List (List Int)} {n d : Nat} (h : d < n) (hA : A.length ≤ n) : (A ++ List.replicate (n - A.length) [])[d]? = some (A.getD d []) := by
  by_cases hd : d < A.length
  · rw [List.getElem?_append_left hd, List.getD_eq_getElem?_getD, List.getElem?_eq_getElem hd]
    rfl
  · rw [List.getElem?_append_right (by omega), List.getElem?_replicate, if_pos (by omega), List.getD_eq_getElem?_getD, List.getElem?_eq_none (by omega)]
    rfl
theorem ok_join (T : TX K mg) : FnOk P w K mg base CX0 1 T.d_law_joined.f T.d_law_joined.fd ["_law_one", "_law_other"] (spJoin K) := by
  refine T.d_law_joined.F.ok sc_join (fun vs H Q E h => ?_) (fun cdv A0 outer s H vs Q E hr h => ?_)
  · obtain ⟨a, b, A, B, rfl, _⟩ := h
    rfl
  · obtain ⟨a, b, A, B, rfl, hA, hB, hA40, hB40, hasc, hra, hrb, q⟩ := h
    refine ⟨_, pss_cons (ps_set (i := 2) sc_join.nd rfl (.inl rfl) (pb (call_max2 rfl) T.n_max bb_max (pa_cons (pb call_len_seq T.n_len bb_len (pa_cons (pv 0) pa_nil)) (pa_cons (pb call_len_seq T.n_len bb_len (pa_cons (pv 1) pa_nil)) pa_nil))))
      (pss_cons (ps_set (i := 3) sc_join.nd rfl (.inr rfl) (pe_op op_cat (pbt call_list_of T.n_list bb_list (pa_cons (pv 0) pa_nil)) (pe_op op_rep (pe_lst (pa_cons (pe_tup pa_nil) pa_nil)) (pe_op op_sub (pv 2) (pb call_len_seq T.n_len bb_len (pa_cons (pv 0) pa_nil))))))
      (pss_cons (ps_set (i := 4) sc_join.nd rfl (.inr rfl) (pe_op op_cat (pbt call_list_of T.n_list bb_list (pa_cons (pv 1) pa_nil)) (pe_op op_rep (pe_lst (pa_cons (pe_tup pa_nil) pa_nil)) (pe_op op_sub (pv 2) (pb call_len_seq T.n_len bb_len (pa_cons (pv 1) pa_nil))))))
      (pss_one (ps_ret (pbt call_tuple_of T.n_tuple bb_tuple (pa_cons (pe_lc (own := [("_law_at", 5)]) (g := gName 5) (te := tCB (rTupK K) (tCons (tCB (rSrtD K) (tCons (tOp (rCatA K) (tOp (rIxL K) (tVar 3) (tVar 5)) (tOp (rIxL K) (tVar 4) (tVar 5))) tNil)) tNil)) (tt := tYes) rfl sc_join.nd (pi_range1 rfl T.n_range (pa_cons (pv 2) pa_nil))
        (blkOk_by (N := ["_law_one", "_law_other", "_law_size", "_law_mine", "_law_its", "_law_at"]) (sc := defScope sLawJoined) (by decide +kernel)) (fun _ _ _ _ _ => pg_name (i := 5) sc_join.nd rfl (Or.inl rfl)) (fun _ _ _ _ _ => pts_nil)
        (fun _ _ _ _ _ => pbt call_tuple_of T.n_tuple bb_tuple (pa_cons (pb (cr_srtD (by exact hr.units)) T.n_sorted bb_sorted (pa_cons (pe_op op_catA (pe_ix ix_list (pv 3) (pv 5) (fun _ _ => rfl)) (pe_ix ix_list (pv 4) (pv 5) (fun _ _ => rfl))) pa_nil)) pa_nil))) pa_nil)))))), ?_⟩
    obtain ⟨a', xs, e1, hs, ha⟩ := hA.tup_inv
    cases e1
    obtain ⟨b', ys, e2, ht, hb⟩ := hB.tup_inv
    cases e2
    have hxl : xs.length = A.length := by rw [ha.len, List.length_map]
    have hyl : ys.length = B.length := by rw [hb.len, List.length_map]
    refine ⟨_, rfl, a, xs, rfl, .inr hs, _, rfl, b, ys, rfl, .inr ht, _, _, rfl, ?_⟩
    have emax : (if ((ys.length : Nat) : Int) > ((xs.length : Nat) : Int) then ((ys.length : Nat) : Int) else ((xs.length : Nat) : Int)) = ((max A.length B.length : Nat) : Int) := by
      rw [hxl, hyl]
      split <;> omega
    rw [emax]
    generalize hn : max A.length B.length = n
    have hn40 : n ≤ 40 := by omega
    refine rd_pad (A := A) (n := n) rfl rfl hA (by omega) hn40 fun m1 zs1 H1 s1 hm1 hd1 => ?_
    refine rd_pad (A := B) (n := n) rfl rfl (hB.same s1) (by omega) hn40 fun m2 zs2 H2 s2 hm2 hd2 => ?_
    have hm1' := s2 _ _ hm1
    have hd1' := hd1.same s2
    refine ⟨_, rfl, _, rfl, by omega, by omega, fun D hD => ?_⟩
    rw [Int.toNat_natCast]
    refine lc_dp (K := K) (walk_range (lo := 0) (n := n)) (fun i => some (dT (rowAt A B i))) hD (by omega) (fun _ _ => True.intro) (fun i x H3 H4 QY QN hi s3 hacc hy qy qn => ?_) (fun H3 acc s3 hacc h => ?_)
    · obtain ⟨rfl, rfl⟩ := hy
      have ei : (0 : Int) + ((i : Nat) : Int) = ((i : Nat) : Int) := Int.zero_add _
      have g1 : ∃ v, zs1[i]? = some v ∧ Dp K H4 v (dT (A.getD i [])) := by
        have hlt : i < zs1.length := by
          rw [hd1'.len, List.length_map, List.length_append, List.length_replicate]
          omega
        obtain ⟨d, e3, e4⟩ := (hd1'.same s3).get (List.getElem?_eq_getElem hlt)
        rw [List.getElem?_map, pad_get hi (by omega)] at e3
        cases e3
        exact ⟨_, List.getElem?_eq_getElem hlt, e4⟩
      have g2 : ∃ v, zs2[i]? = some v ∧ Dp K H4 v (dT (B.getD i [])) := by
        have hlt : i < zs2.length := by
          rw [hd2.len, List.length_map, List.length_append, List.length_replicate]
          omega
        obtain ⟨d, e3, e4⟩ := (hd2.same s3).get (List.getElem?_eq_getElem hlt)
        rw [List.getElem?_map, pad_get hi (by omega)] at e3
        cases e3
        exact ⟨_, List.getElem?_eq_getElem hlt, e4⟩
      obtain ⟨v1, i1, d1⟩ := g1
      obtain ⟨v2, i2, d2⟩ := g2
      obtain ⟨a1, rfl, q1⟩ := d1.ints_inv
      obtain ⟨a2, rfl, q2⟩ := d2.ints_inv
      refine ⟨rfl, yesI ⟨_, rfl, _, rfl, m1, _, _, _, rfl, rfl, SqL.of (s3 _ _ hm1'), by rw [ei]; exact atI_nat i1, _, rfl, _, rfl, m2, _, _, _, rfl, rfl, SqL.of (s3 _ _ hm2), by rw [ei]; exact atI_nat i2, cat_any q1 q2 ?_ fun p H5 s5 hp5 => ?_⟩⟩
      · rw [List.length_map, List.length_map]
        exact Nat.le_of_lt (small1000 (by have := hra i; have := hrb i; omega))
      · rw [← List.map_append] at hp5
        refine ⟨p, _, _, rfl, .inr hp5, dpAll_ints _, alike_ints' _, sortable_ints _, fun d hd => ?_, fun z zs hz hzs => ⟨z, zs, rfl, .inl ⟨SqL.of upd_same, fun t htt => ?_⟩⟩⟩
        · obtain ⟨i, _, rfl⟩ := List.mem_map.mp hd
          show (PyData.int i).depth ≤ 50
          rw [PyData.depth]
          exact Nat.zero_le _
        · have e5 : sds ((A.getD i [] ++ B.getD i []).map dI) = (rowAt A B i).map dI := sds_ints (.refl _) (hasc i)
          rw [e5] at hzs
          have s6 := (s5.trans (same_new (o := .lst zs) hz)).trans (same_new (o := .tup zs) htt)
          obtain ⟨acc, hacc⟩ := hacc
          exact qy _ rfl _ _ s6 (dp_del (s6 _ _ hacc) (tupD_T _) (.tup (.inl (.inl upd_same)) ((hzs.same (same_new hz)).same (same_new htt))))
    · have e1 : (List.range n).filterMap (fun i => some (dT (rowAt A B i))) = (joinOf A B).map dT := by
        unfold joinOf
        rw [List.filterMap_eq_map', List.map_map, hn]
        rfl
      rw [e1] at h
      refine ⟨D, acc, rfl, .inl ⟨SqL.of hacc, fun t htt => ?_⟩⟩
      exact q t _ (((s1.trans s2).trans s3).trans (same_new htt)) (.tup (.inl (.inl upd_same)) ((h.same del_sub).same (same_new htt)))
end RP

/-! KW25 -/
/-! Walks: _law_ends_right. -/
namespace RP
open PySem PySem.Spec PyProof.Rows L2
variable {P : Program} {w : World} {K : PySem.W.Frag} {mg : Str → Option Value} {base : Heap}
theorem pe_or {X : Cx} {e : Expr} {t u : TE} (h : PE X e t) (g : PE X e u) : PE X e (fun σ H Q => t σ H Q ∨ u σ H Q) :=
  ⟨fun pins s σ H Q I q => q.elim (fun q => h.run pins s σ H Q I q) fun q => g.run pins s σ H Q I q⟩
theorem TabAt.bes {C : Addr} {H H' : Hp} {a p : Addr} {R : RC.Tab} (h : TabAt C H a R) (hp : Pen H p) (b : Bes p H H') : TabAt C H' a R := by
  obtain ⟨d, dx, L, h1, h2, h3⟩ := h.ex
  obtain ⟨x, y, z, e⟩ := hp
  exact ⟨⟨d, dx, L, b.at_ (ne_of h1 e (by intro q; cases q)) h1, b.at_ (ne_of h2 e (by intro q; cases q)) h2, h3⟩, h.asc, h.len, h.bd⟩
def srtP (L : RC.Tab) : RC.Tab := L.mergeSort fun a b => leD (dP a) (dP b)
theorem srtP_eq (L : RC.Tab) : sds (L.map dP) = (srtP L).map dP := (PySem.W.sort_maps dP (l := L) (r := fun a b => leD (dP a) (dP b)) (s := leD) fun _ _ _ _ => rfl).symm
theorem srtP_perm (L : RC.Tab) : (srtP L).Perm L := List.mergeSort_perm ..
theorem Shp.Ps (L : RC.Tab) : ∀ d ∈ L.map dP, Shp 1 d := fun d hd => by
  obtain ⟨p, _, rfl⟩ := List.mem_map.mp hd
  exact Shp.P p
def spEndsRight (C : Addr) : Sp := fun vs H Q _ => ∃ (p a b c : Addr) (R1 R2 : RC.Tab), vs = [.ref p, .ref a, .ref b, .ref c] ∧ Pen H p ∧ TabAt C H a R1 ∧ TabAt C H b R2 ∧ TabAt C H c (R1 ++ R2) ∧ RC.Sep R1 R2 ∧ ∀ H', Bes p H H' → Q (.bl true) H'
theorem sc_endsR : FnScope ["_law_pen_here", "_law_one", "_law_other", "_law_both", "_law_orders", "_law_rule", "_law_mine", "_law_its", "_law_all_of", "_law_table", "_law_key", "_law_new"] ["_law_pen_here", "_law_one", "_law_other", "_law_both"] (defScope sLawEndsRight) := ⟨rfl, rfl, rfl, by decide +kernel, rfl, by decide +kernel, by decide +kernel⟩
def scOuter : Scope := { kind := .function, names := [(".0", .local), ("_law_table", .local), ("tuple", .globalImplicit), ("_law_mixed", .globalImplicit), ("_law_pen_here", .cell)], isGenerator := false, isCoroutine := false }
theorem ok_endsR (T : TX K mg) : FnOk P w K mg base CX0 8 T.d_law_ends_right.f T.d_law_ends_right.fd ["_law_pen_here", "_law_one", "_law_other", "_law_both"] (spEndsRight T.cTable.C) := by
  have G1 := ok_mixed (P := P) (w := w) (base := base) T
  have G2 := ok_rows (P := P) (w := w) (base := base) T
  have G3 := ok_shuf (P := P) (w := w) (base := base) T
  have G4 := (ok_call (P := P) (w := w) (base := base) T false T.cIgnore.cl T.iSettle.m T.iSettle.b (ok_leaves T) T.iHalts.m T.iHalts.b (ok_halts T.iHalts)).raw T.call_b .nil
  have G5 := (ok_call (P := P) (w := w) (base := base) T true T.cReplace.cl T.rSettle.m T.rSettle.b (ok_removes T) T.rHalts.m T.rHalts.b (ok_halts T.rHalts)).raw T.call_b .nil
  have G6 := ok_ends (P := P) (w := w) (base := base) T
  have G7 := ok_stop (P := P) (w := w) (base := base) T
  refine T.d_law_ends_right.F.ok sc_endsR (fun vs H Q E h => ?_) (fun cdv A outer s H vs Q E hr h => ?_)
  · obtain ⟨p, a, b, c, R1, R2, rfl, _⟩ := h
    rfl
  · obtain ⟨p, a, b, c, R1, R2, rfl, hp, h1, h2, h3, sep, q⟩ := h
    refine ⟨_, pss_cons (ps_setLc (i := 4) (own := [("_law_table", 9)]) (g := gName 9) (tt := tYes)
        (te := tCB (rTupK K) (tCons (tCall (spMixed K) [] E0 (tCons (tVar 0) (tCons (tLc (iTup K (tProp T.cTable.C (spRows K T.cTable.C) [] E0 (tVar 9))) (g2 K 10 11) tYes (tVar 10) [10, 11]) tNil))) tNil))
        rfl sc_endsR.nd rfl rfl (sw_true rfl rfl rfl (by decide +kernel)) (pi_tup (pe_tup (pa_cons (pv 1) (pa_cons (pv 2) pa_nil)))) (blkOk_by (N := ["_law_pen_here", "_law_one", "_law_other", "_law_both", "_law_orders", "_law_rule", "_law_mine", "_law_its", "_law_all_of", "_law_table", "_law_key", "_law_new"]) (sc := defScope sLawEndsRight) (by decide +kernel))
        (fun _ _ _ _ _ => pg_name (i := 9) sc_endsR.nd rfl (Or.inl rfl)) (fun _ _ _ _ _ => pts_nil)
        (fun _ _ _ _ _ => pbt call_tuple_of T.n_tuple bb_tuple (pa_cons (pc T.d_law_mixed G1 (hr.mono (by decide)) (pa_cons (pv 0) (pa_cons
          (pe_lc (own := [("_law_key", 10), ("_law_new", 11)]) (g := g2 K 10 11) (te := tVar 10) (tt := tYes) rfl sc_endsR.nd (pi_tup (pprop (pv 9) T.cTable.cl T.mTable_rows_p G2 T.mTable_rows_b (by exact hr)))
            (blkOk_by (N := ["_law_pen_here", "_law_one", "_law_other", "_law_both", "_law_orders", "_law_rule", "_law_mine", "_law_its", "_law_all_of", "_law_table", "_law_key", "_law_new"]) (sc := scOuter) (by decide +kernel)) (fun _ _ _ _ _ => pg_tup rfl (pgs_cons (pg_name (i := 10) sc_endsR.nd rfl (.inl rfl)) (pgs_cons (pg_name (i := 11) sc_endsR.nd rfl (.inl rfl)) pgs_nil))) (fun _ _ _ _ _ => pts_nil) (fun _ _ _ _ _ => pv 10)) pa_nil))) pa_nil)))
      (pss_cons (ps_for PassesOwn.never rfl (pi_list (pe_lst (pa_cons (RX.pe_makeN T.cIgnore.mks T.iInit T.cIgnore.kp T.cIgnore.g) (pa_cons (RX.pe_makeN T.cReplace.mks T.rInit T.cReplace.kp T.cReplace.g) pa_nil)))) (pg_name (i := 5) sc_endsR.nd rfl (.inl rfl))
        (pss_cons (ps_par (i := 6) (j := 7) rfl sc_endsR.nd rfl rfl (by decide) rfl rfl
          (pa_cons (pe_or (StX.pe_callO (pv 5) T.iCall G4 (hr.mono (by decide)) pass0 (pa_cons (pv 1) (pa_cons (pe_ix ix_list (pv 4) pe_int (fun _ _ => rfl)) pa_nil))) (StX.pe_callO (pv 5) T.rCall G5 (hr.mono (by decide)) pass0 (pa_cons (pv 1) (pa_cons (pe_ix ix_list (pv 4) pe_int (fun _ _ => rfl)) pa_nil))))
            (pa_cons (pe_or (StX.pe_callO (pv 5) T.iCall G4 (hr.mono (by decide)) pass0 (pa_cons (pv 2) (pa_cons (pe_ix ix_list (pv 4) pe_int (fun _ _ => rfl)) pa_nil))) (StX.pe_callO (pv 5) T.rCall G5 (hr.mono (by decide)) pass0 (pa_cons (pv 2) (pa_cons (pe_ix ix_list (pv 4) pe_int (fun _ _ => rfl)) pa_nil)))) pa_nil)) (by rfl))
        (pss_cons (ps_set (i := 8) sc_endsR.nd rfl (.inl rfl) (pe_or (StX.pe_callO (pv 5) T.iCall G4 (hr.mono (by decide)) pass0 (pa_cons (pv 3) (pa_cons (pc T.d_law_shuffled G3 (hr.mono (by decide)) (pa_cons (pv 0) (pa_cons (pe_ix ix_list (pv 4) pe_int (fun _ _ => rfl)) (pa_cons (pe_ix ix_list (pv 4) pe_int (fun _ _ => rfl)) pa_nil)))) pa_nil)))
          (StX.pe_callO (pv 5) T.rCall G5 (hr.mono (by decide)) pass0 (pa_cons (pv 3) (pa_cons (pc T.d_law_shuffled G3 (hr.mono (by decide)) (pa_cons (pv 0) (pa_cons (pe_ix ix_list (pv 4) pe_int (fun _ _ => rfl)) (pa_cons (pe_ix ix_list (pv 4) pe_int (fun _ _ => rfl)) pa_nil)))) pa_nil)))))
        (pss_one (ps_if (pw_or (pt_cmpR (op_neD (by exact hr.units)) (pprop (pv 8) T.cOutcome.cl T.mOutcome_ends_p G6 T.mOutcome_ends_b hr) (pbt call_tuple_of T.n_tuple bb_tuple (pa_cons (pb (cr_srtD (by exact hr.units)) T.n_sorted bb_sorted (pa_cons (pe_op op_catA (pprop (pv 6) T.cOutcome.cl T.mOutcome_ends_p G6 T.mOutcome_ends_b hr) (pprop (pv 7) T.cOutcome.cl T.mOutcome_ends_p G6 T.mOutcome_ends_b hr)) pa_nil)) pa_nil)) (nomark _))
            (pw_or1 (pt_cmpR (op_neD (by exact hr.units)) (pprop (pv 8) T.cOutcome.cl T.mOutcome_stop_p G7 T.mOutcome_stop_b hr) (pe_tup pa_nil) (nomark _)))).pt (pss_one (ps_ret pe_bl)) pss_nil)))))
      (pss_one (ps_ret pe_bl))), ?_⟩
    refine ⟨_, rfl, _, rfl, by show (2 : Nat) ≤ sizeLine; decide, fun t ht => ⟨t, rfl, ⟨_, .inl (.inl upd_same)⟩, fun D hD => ?_⟩⟩
    have s1 := same_new (o := .tup [.ref a, .ref b]) ht
    have p1 := hp.same s1
    have tt1 : (upd H t (.tup [.ref a, .ref b])) t = some (.tup [.ref a, .ref b]) := upd_same
    have h11 := h1.same s1
    have h21 := h2.same s1
    have h31 := h3.same s1
    have b1 : Bes p H (upd H t (.tup [.ref a, .ref b])) := (Bes.refl hp).same s1
    generalize upd H t (.tup [.ref a, .ref b]) = H1 at s1 p1 tt1 h11 h21 h31 b1 hD ⊢
    have nDp := pen_ne p1 hD
    have tab : ∀ {i : Nat} {x : V}, [V.ref a, .ref b][i]? = some x → ∃ cc R, x = .ref cc ∧ TabAt T.cTable.C H1 cc R ∧ [R1, R2][i]? = some R := fun {i x} e => by
      cases i with
      | zero =>
        cases e
        exact ⟨a, R1, rfl, h11, rfl⟩
      | succ i =>
        cases i with
        | zero =>
          cases e
          exact ⟨b, R2, rfl, h21, rfl⟩
        | succ i => simp at e
    refine lc_it (walk_tup (K := K) (a := t) (xs := [.ref a, .ref b])) (fun i H' => Bes p H1 H' ∧ ∃ (acc : List V) (os : List (List Int)), H' D = some (.lst acc) ∧ DpAll K (tups H') acc (os.map dT) ∧ os.length = i ∧ ∀ (j : Nat) (o : List Int), os[j]? = some o → ∃ R, [R1, R2][j]? = some R ∧ o.Perm (RC.keys R))
      ⟨(Bes.refl p1).same (same_new hD), [], [], upd_same, .nil, rfl, fun j o e => by simp at e⟩ (fun i H' _ h => .inl (.inl (h.1.at_ (by obtain ⟨x, y, z, e⟩ := p1; exact ne_of tt1 e (by intro q; cases q)) tt1))) ?_ ?_
    · rintro i x H2x H2 hi ⟨b2, acc, os, hacc, hdp, hol, hos⟩ ⟨rfl, hx⟩
      obtain ⟨cc, R, rfl, htc, hR⟩ := tab hx
      have htc2 := htc.bes p1 b2
      obtain ⟨dx, fs, e⟩ := htc2.ins
      refine ⟨rfl, yesI ⟨_, rfl, _, rfl, cc, dx, fs, rfl, e, cc, R, rfl, htc2, fun pr H3 s3 hdr hpr => ?_⟩⟩
      obtain ⟨p', xs, e1, hs, ha⟩ := hdr.tup_inv
      cases e1
      refine ⟨pr, rfl, ⟨_, hs⟩, fun D2 hD2 => ?_⟩
      refine lc_rows (K := K) walk_tup (fun q => some (dI q.1)) hD2 (fun H' s => same_t s hs) ha (by have := htc.len; omega) (fun _ _ => rfl) (fun q H4 QY QN hq s4 hacc qy qn => yesI ⟨_, rfl, qy _ rfl _ _ (fun _ _ h => h) (.int _)⟩) (fun H4 acc2 s4 hacc2 hk => ?_)
      have ek : R.filterMap (fun q => some (dI q.1)) = (RC.keys R).map PyData.int := by
        unfold RC.keys
        rw [List.filterMap_eq_map', List.map_map]
        rfl
      rw [ek] at hk
      rw [hk.ints] at hacc2
      have s24 := s3.trans s4
      refine ⟨p, D2, RC.keys R, rfl, b2.2.same s24, SqL.of hacc2, by rw [RC.keys_len]; have := htc.len; omega, fun qm ym H5 hqm hperm b5 hqm5 => ⟨qm, _, rfl, .inl ⟨SqL.of hqm5, fun tm htm => ?_⟩⟩⟩
      have b25 := (b2.same s24).trans b5
      have s6 := same_new (o := .tup (ym.map V.int)) htm
      have b26 := b25.same s6
      have hD6 := s6 _ _ (b5.at_ nDp (s24 _ _ hacc))
      have hal : acc.length = i := by rw [hdp.len, List.length_map, hol]
      have hi2 : i < 2 := hi
      refine ⟨acc, hD6, small1000 (by omega), ?_, acc ++ [.ref tm], os ++ [ym], upd_same, ?_, ?_, ?_⟩
      · exact b26.mut hD p1
      · have u1 : Same (tups H2) (tups (upd H5 tm (.tup (ym.map V.int)))) := (tups_same s24).trans ((tups_bes (b2.2.same s24) b5).trans (tups_same s6))
        have u2 := u1.trans (tups_lst (o := .lst (acc ++ [.ref tm])) hD6)
        have ntD : tm ≠ D := ne_of (upd_same (H := H5) (a := tm) (o := .tup (ym.map V.int))) hD6 (by intro q; cases q)
        have tmT : tups (upd (upd H5 tm (.tup (ym.map V.int))) D (.lst (acc ++ [.ref tm]))) tm = some (.tup (ym.map V.int)) := tups_at (by rw [upd_ne ntD, upd_same]) rfl
        rw [List.map_append]
        exact (hdp.same u2).snoc (Dp.ofT (.inl (.inl tmT)))
      · rw [List.length_append, hol]
        rfl
      · intro j o e2
        by_cases hj : j < os.length
        · rw [List.getElem?_append_left hj] at e2
          exact hos j o e2
        · rw [List.getElem?_append_right (by omega)] at e2
          have hj0 : j - os.length = 0 := by
            cases hh : j - os.length with
            | zero => rfl
            | succ n =>
              rw [hh] at e2
              simp at e2
          rw [hj0] at e2
          cases e2
          have : j = i := by omega
          subst this
          exact ⟨R, hR, hperm⟩
    · rintro H2 ⟨b2, acc, os, hacc, hdp, hol, hos⟩
      obtain ⟨o1, o2, rfl⟩ : ∃ o1 o2, os = [o1, o2] := by
        match os, hol with
        | [o1, o2], _ => exact ⟨o1, o2, rfl⟩
      obtain ⟨R, hR, pm1⟩ := hos 0 o1 rfl
      cases hR
      obtain ⟨R, hR, pm2⟩ := hos 1 o2 rfl
      cases hR
      have ol1 : o1.length ≤ 40 := by rw [pm1.length_eq, RC.keys_len]; exact h1.len
      have ol2 : o2.length ≤ 40 := by rw [pm2.length_eq, RC.keys_len]; exact h2.len
      obtain ⟨v1, v2, rfl⟩ : ∃ v1 v2, acc = [v1, v2] := by
        have := hdp.len
        match acc, this with
        | [v1, v2], _ => exact ⟨v1, v2, rfl⟩
      cases hdp with
      | cons d1 hdp =>
      cases hdp with
      | cons d2 hdp =>
      obtain ⟨t1, rfl, hq1⟩ := d1.ints_inv
      obtain ⟨t2, rfl, hq2⟩ := d2.ints_inv
      clear hdp
      intro x1 dx1 hx1 hdx1 hne1
      have sx1 : Same H2 (upd (upd H2 dx1 (.own x1)) x1 (.ins T.cIgnore.C dx1 [])) := (same_new hdx1).trans (same_new (by rw [upd_ne hne1.symm]; exact hx1))
      have gx1 : (upd (upd H2 dx1 (.own x1)) x1 (.ins T.cIgnore.C dx1 [])) x1 = some (.ins T.cIgnore.C dx1 []) := upd_same
      generalize upd (upd H2 dx1 (.own x1)) x1 (.ins T.cIgnore.C dx1 []) = Ha at sx1 gx1 ⊢
      intro x2 dx2 hx2 hdx2 hne2
      have sx2 : Same Ha (upd (upd Ha dx2 (.own x2)) x2 (.ins T.cReplace.C dx2 [])) := (same_new hdx2).trans (same_new (by rw [upd_ne hne2.symm]; exact hx2))
      have gx2 : (upd (upd Ha dx2 (.own x2)) x2 (.ins T.cReplace.C dx2 [])) x2 = some (.ins T.cReplace.C dx2 []) := upd_same
      have gx1 := sx2 _ _ gx1
      generalize upd (upd Ha dx2 (.own x2)) x2 (.ins T.cReplace.C dx2 []) = Hb at sx2 gx1 gx2 ⊢
      refine ⟨by show (2 : Nat) ≤ sizeLine; decide, fun l hl => ⟨l, rfl, ⟨_, SqL.of upd_same⟩, ?_⟩⟩
      have sl := same_new (o := .lst [.ref x1, .ref x2]) hl
      have s2c := (sx1.trans sx2).trans sl
      have gx1 := sl _ _ gx1
      have gx2 := sl _ _ gx2
      have gl : (upd Hb l (.lst [.ref x1, .ref x2])) l = some (.lst [.ref x1, .ref x2]) := upd_same
      have nlp : l ≠ p := by
        obtain ⟨x, y, z, e⟩ := b2.2
        exact (ne_of_none ((sx1.trans sx2) _ _ e) hl).symm
      generalize upd Hb l (.lst [.ref x1, .ref x2]) = Hc at s2c gx1 gx2 gl ⊢
      have hDc := s2c _ _ hacc
      have pc := b2.2.same s2c
      have h1c := (h11.bes p1 b2).same s2c
      have h2c := (h21.bes p1 b2).same s2c
      have h3c := (h31.bes p1 b2).same s2c
      have hq1 := same_t (tups_same s2c) hq1
      have hq2 := same_t (tups_same s2c) hq2
      have bc : Bes p H Hc := (b1.trans b2).same s2c
      have np1 : x1 ≠ p := by obtain ⟨x, y, z, e⟩ := pc; exact ne_of gx1 e (by intro q; cases q)
      have np2 : x2 ≠ p := by obtain ⟨x, y, z, e⟩ := pc; exact ne_of gx2 e (by intro q; cases q)
      have outBes : ∀ {Hx Hy : Hp} {m : Addr} {r st en : V}, OutAt T.cOutcome.C Hx m r st en → Pen Hx p → Bes p Hx Hy → OutAt T.cOutcome.C Hy m r st en := fun {Hx Hy m r st en} o pe be => by
        obtain ⟨dx, tt, e1, e2⟩ := o
        obtain ⟨x, y, z, e⟩ := pe
        exact ⟨dx, tt, be.at_ (ne_of e1 e (by intro q; cases q)) e1, be.at_ (ne_of e2 e (by intro q; cases q)) e2⟩
      have tupBes : ∀ {Hx Hy Hz : Hp} {v : V} {d : PyData}, tupD d = true → Dp K Hx v d → Pen Hx p → Bes p Hx Hy → Same Hy Hz → Dp K Hz v d := fun {Hx Hy Hz v d} td hd pe be sz => ((RP.Dp.tups td hd).same ((tups_bes pe be).trans tups_sub)).same sz
      have tupD_E : ∀ {rep R o}, ∀ _ : Unit, tupD (.tuple (dEnds rep R o)) = true := fun {rep R o} _ => by
        show tupD.tupDs (dEnds rep R o) = true
        unfold dEnds
        rw [srtP_eq]
        exact tupDs_map (fun q => rfl) _
      refine for_list (K := K) (a := l) (xs := [.ref x1, .ref x2]) (fun i σ H' => ∃ v5 v6 v7 v8, σ = [some (.ref p), some (.ref a), some (.ref b), some (.ref c), some (.ref D), v5, v6, v7, v8, none, none, none] ∧ Bes p Hc H')
        ⟨none, none, none, none, rfl, Bes.refl pc⟩ (fun i σ H' _ ⟨_, _, _, _, _, h⟩ => SqL.of (h.at_ nlp gl)) ?_ ?_
      · rintro i x σ H4 hi ⟨v5, v6, v7, v8, rfl, b4⟩
        match i, hi with
        | 0, hi =>
        cases hi
        have hx4 := b4.at_ np1 gx1
        have p4 := b4.2
        have a4 := h1c.bes pc b4
        have b4' := h2c.bes pc b4
        have c4 := h3c.bes pc b4
        have hD4 := b4.at_ nDp hDc
        have t4 := tups_bes pc b4
        have sq1 := same_t t4 hq1
        have sq2 := same_t t4 hq2
        refine .inl ⟨_, rfl, x1, rfl, _, rfl, _, rfl, D, _, _, _, rfl, rfl, SqL.of hD4, atI_nat (j := 0) rfl, .inr ⟨_, _, hx4⟩, x1, a, t1, _, R1, o1, rfl, hx4, a4, same_t tups_sub sq1, pm1, fun m st1 en1 H5 r1 s5 out1 hst1 hen1 => ?_⟩
        refine .inl ⟨_, rfl, x1, rfl, _, rfl, _, rfl, D, _, _, _, rfl, rfl, SqL.of (s5 _ _ hD4), atI_nat (j := 1) rfl, .inr ⟨_, _, s5 _ _ hx4⟩, x1, b, t2, _, R2, o2, rfl, s5 _ _ hx4, b4'.same s5, same_t s5 (same_t tups_sub sq2), pm2, fun n st2 en2 H6 r2 s6 out2 hst2 hen2 => ⟨_, _, rfl, ?_⟩⟩
        have s46 := s5.trans s6
        refine .inl ⟨_, rfl, x1, rfl, _, rfl, _, rfl, _, rfl, D, _, _, _, rfl, rfl, SqL.of (s46 _ _ hD4), atI_nat (j := 0) rfl, _, rfl, D, _, _, _, rfl, rfl, SqL.of (s46 _ _ hD4), atI_nat (j := 1) rfl, p, t1, t2, o1, o2, rfl, p4.same s46, same_t (tups_same s46) sq1, same_t (tups_same s46) sq2, ol1, ol2, fun qs sh H7 hsh b7 hqs => ?_⟩
        have p6 := p4.same s46
        have hx7 := b7.at_ np1 (s46 _ _ hx4)
        refine ⟨.inr ⟨_, _, hx7⟩, x1, c, qs, _, R1 ++ R2, sh, rfl, hx7, (c4.same s46).bes p6 b7, same_t tups_sub hqs, ?_, fun k st3 en3 H8 r3 s8 out3 hst3 hen3 => ?_⟩
        · refine hsh.perm.trans ?_
          rw [RC.keys_append]
          exact List.Perm.append pm1 pm2
        have o18 : OutAt T.cOutcome.C H8 m r1 (.ref st1) (.ref en1) := (outBes (out1.same s6) p6 b7).same s8
        have o28 : OutAt T.cOutcome.C H8 n r2 (.ref st2) (.ref en2) := (outBes out2 p6 b7).same s8
        have en18 : Dp K H8 (.ref en1) (.tuple (dEnds false R1 o1)) := tupBes (tupD_E ()) (hen1.same s6) p6 b7 s8
        have en28 : Dp K H8 (.ref en2) (.tuple (dEnds false R2 o2)) := tupBes (tupD_E ()) hen2 p6 b7 s8
        have bes8 : Bes p Hc H8 := ((b4.same s46).trans b7).same s8
        obtain ⟨dxk, tk, ek1, ek2⟩ := out3
        have out3 : OutAt T.cOutcome.C H8 k r3 (.ref st3) (.ref en3) := ⟨dxk, tk, ek1, ek2⟩
        obtain ⟨dxm, tm, em1, em2⟩ := o18
        have o18 : OutAt T.cOutcome.C H8 m r1 (.ref st1) (.ref en1) := ⟨dxm, tm, em1, em2⟩
        obtain ⟨dxn, tn, en1', en2'⟩ := o28
        have o28 : OutAt T.cOutcome.C H8 n r2 (.ref st2) (.ref en2) := ⟨dxn, tn, en1', en2'⟩
        obtain ⟨e1', xs1, q1', hs1, ha1⟩ := en18.tup_inv
        cases q1'
        obtain ⟨e2', xs2, q2', hs2, ha2⟩ := en28.tup_inv
        cases q2'
        unfold dEnds at ha1 ha2
        generalize hE1 : RC.endsOf o1 (RC.rrun false R1 o1 o1) = E1 at ha1
        generalize hE2 : RC.endsOf o2 (RC.rrun false R2 o2 o2) = E2 at ha2
        have hle1 : E1.length ≤ 40 := by
          rw [← hE1]
          exact Nat.le_trans (List.length_filterMap_le ..) ol1
        have hle2 : E2.length ≤ 40 := by
          rw [← hE2]
          exact Nat.le_trans (List.length_filterMap_le ..) ol2
        rw [srtP_eq] at ha1 ha2
        have hx1 : xs1.length ≤ 40 := by rw [ha1.len, List.length_map, (srtP_perm E1).length_eq]; exact hle1
        have hx2 : xs2.length ≤ 40 := by rw [ha2.len, List.length_map, (srtP_perm E2).length_eq]; exact hle2
        refine ⟨_, rfl, k, _, _, rfl, ek1, k, _, _, _, .ref en3, rfl, out3, rfl, _, rfl, m, _, _, rfl, em1, m, _, _, _, .ref en1, rfl, o18, rfl, _, rfl, n, _, _, rfl, en1', n, _, _, _, .ref en2, rfl, o28, rfl, cat_any hs1 hs2 (Nat.le_of_lt (small1000 (by omega))) fun pc9 H9 s9 hs9 => ?_⟩
        have all9 : DpAll K H9 (xs1 ++ xs2) ((srtP E1 ++ srtP E2).map dP) := by
          rw [List.map_append]
          exact (ha1.same s9).app (ha2.same s9)
        refine ⟨pc9, _, _, rfl, .inr hs9, all9, alike_pairs _, sortable_pairs _, depth_pairs, fun z zs hz hzs => ⟨z, zs, rfl, .inl ⟨SqL.of upd_same, fun t htt => ?_⟩⟩⟩
        have s11 := s9.trans ((same_new (o := .lst zs) hz).trans (same_new (o := .tup zs) htt))
        have dT9 : Dp K (upd (upd H9 z (.lst zs)) t (.tup zs)) (.ref t) (.tuple (sds ((srtP E1 ++ srtP E2).map dP))) := .tup (.inl (.inl upd_same)) ((hzs.same (same_new hz)).same (same_new htt))
        generalize upd (upd H9 z (.lst zs)) t (.tup zs) = H10 at s11 dT9 ⊢
        have key : dEnds false (R1 ++ R2) sh = sds ((srtP E1 ++ srtP E2).map dP) := by
          refine sds_pairs_congr ?_
          refine (RC.ends_shuf sep hsh (fun x hx => pm1.mem_iff.mp hx) (fun x hx => pm2.mem_iff.mp hx) false).trans ?_
          rw [hE1, hE2]
          exact List.Perm.append (srtP_perm E1).symm (srtP_perm E2).symm
        have shp : Shp 2 (.tuple (sds ((srtP E1 ++ srtP E2).map dP))) := Shp.tup (Shp.sds (Shp.Ps _))
        refine ⟨_, _, hen3.same s11, dT9, ?_, shp.ok, _, rfl, ?_⟩
        · rw [key]
          exact shp.ok
        rw [key, eqv_self shp]
        refine iteF ⟨_, rfl, k, _, _, rfl, s11 _ _ ek1, k, _, _, _, .ref st3, rfl, out3.same s11, rfl, Nat.zero_le _, fun z2 hz2 => ⟨.tuple [], .tuple [], .tup (same_t (s11.trans (same_new hz2)) hst3) .nil, .tup (.inl (.inl upd_same)) .nil, (Shp.tup (n := 0) (fun _ h => absurd h List.not_mem_nil)).ok, (Shp.tup (n := 0) (fun _ h => absurd h List.not_mem_nil)).ok, _, rfl, ?_⟩⟩
        rw [eqv_self (Shp.tup (n := 0) (fun _ h => absurd h List.not_mem_nil))]
        exact iteF ⟨_, _, _, _, rfl, (bes8.same s11).same (same_new hz2)⟩
        | 1, hi =>
        cases hi
        have hx4 := b4.at_ np2 gx2
        have p4 := b4.2
        have a4 := h1c.bes pc b4
        have b4' := h2c.bes pc b4
        have c4 := h3c.bes pc b4
        have hD4 := b4.at_ nDp hDc
        have t4 := tups_bes pc b4
        have sq1 := same_t t4 hq1
        have sq2 := same_t t4 hq2
        refine .inr ⟨_, rfl, x2, rfl, _, rfl, _, rfl, D, _, _, _, rfl, rfl, SqL.of hD4, atI_nat (j := 0) rfl, .inr ⟨_, _, hx4⟩, x2, a, t1, _, R1, o1, rfl, hx4, a4, same_t tups_sub sq1, pm1, fun m st1 en1 H5 r1 s5 out1 hst1 hen1 => ?_⟩
        refine .inr ⟨_, rfl, x2, rfl, _, rfl, _, rfl, D, _, _, _, rfl, rfl, SqL.of (s5 _ _ hD4), atI_nat (j := 1) rfl, .inr ⟨_, _, s5 _ _ hx4⟩, x2, b, t2, _, R2, o2, rfl, s5 _ _ hx4, b4'.same s5, same_t s5 (same_t tups_sub sq2), pm2, fun n st2 en2 H6 r2 s6 out2 hst2 hen2 => ⟨_, _, rfl, ?_⟩⟩
        have s46 := s5.trans s6
        refine .inr ⟨_, rfl, x2, rfl, _, rfl, _, rfl, _, rfl, D, _, _, _, rfl, rfl, SqL.of (s46 _ _ hD4), atI_nat (j := 0) rfl, _, rfl, D, _, _, _, rfl, rfl, SqL.of (s46 _ _ hD4), atI_nat (j := 1) rfl, p, t1, t2, o1, o2, rfl, p4.same s46, same_t (tups_same s46) sq1, same_t (tups_same s46) sq2, ol1, ol2, fun qs sh H7 hsh b7 hqs => ?_⟩
        have p6 := p4.same s46
        have hx7 := b7.at_ np2 (s46 _ _ hx4)
        refine ⟨.inr ⟨_, _, hx7⟩, x2, c, qs, _, R1 ++ R2, sh, rfl, hx7, (c4.same s46).bes p6 b7, same_t tups_sub hqs, ?_, fun k st3 en3 H8 r3 s8 out3 hst3 hen3 => ?_⟩
        · refine hsh.perm.trans ?_
          rw [RC.keys_append]
          exact List.Perm.append pm1 pm2
        have o18 : OutAt T.cOutcome.C H8 m r1 (.ref st1) (.ref en1) := (outBes (out1.same s6) p6 b7).same s8
        have o28 : OutAt T.cOutcome.C H8 n r2 (.ref st2) (.ref en2) := (outBes out2 p6 b7).same s8
        have en18 : Dp K H8 (.ref en1) (.tuple (dEnds true R1 o1)) := tupBes (tupD_E ()) (hen1.same s6) p6 b7 s8
        have en28 : Dp K H8 (.ref en2) (.tuple (dEnds true R2 o2)) := tupBes (tupD_E ()) hen2 p6 b7 s8
        have bes8 : Bes p Hc H8 := ((b4.same s46).trans b7).same s8
        obtain ⟨dxk, tk, ek1, ek2⟩ := out3
        have out3 : OutAt T.cOutcome.C H8 k r3 (.ref st3) (.ref en3) := ⟨dxk, tk, ek1, ek2⟩
        obtain ⟨dxm, tm, em1, em2⟩ := o18
        have o18 : OutAt T.cOutcome.C H8 m r1 (.ref st1) (.ref en1) := ⟨dxm, tm, em1, em2⟩
        obtain ⟨dxn, tn, en1', en2'⟩ := o28
        have o28 : OutAt T.cOutcome.C H8 n r2 (.ref st2) (.ref en2) := ⟨dxn, tn, en1', en2'⟩
        obtain ⟨e1', xs1, q1', hs1, ha1⟩ := en18.tup_inv
        cases q1'
        obtain ⟨e2', xs2, q2', hs2, ha2⟩ := en28.tup_inv
        cases q2'
        unfold dEnds at ha1 ha2
        generalize hE1 : RC.endsOf o1 (RC.rrun true R1 o1 o1) = E1 at ha1
        generalize hE2 : RC.endsOf o2 (RC.rrun true R2 o2 o2) = E2 at ha2
        have hle1 : E1.length ≤ 40 := by
          rw [← hE1]
          exact Nat.le_trans (List.length_filterMap_le ..) ol1
        have hle2 : E2.length ≤ 40 := by
          rw [← hE2]
          exact Nat.le_trans (List.length_filterMap_le ..) ol2
        rw [srtP_eq] at ha1 ha2
        have hx1 : xs1.length ≤ 40 := by rw [ha1.len, List.length_map, (srtP_perm E1).length_eq]; exact hle1
        have hx2 : xs2.length ≤ 40 := by rw [ha2.len, List.length_map, (srtP_perm E2).length_eq]; exact hle2
        refine ⟨_, rfl, k, _, _, rfl, ek1, k, _, _, _, .ref en3, rfl, out3, rfl, _, rfl, m, _, _, rfl, em1, m, _, _, _, .ref en1, rfl, o18, rfl, _, rfl, n, _, _, rfl, en1', n, _, _, _, .ref en2, rfl, o28, rfl, cat_any hs1 hs2 (Nat.le_of_lt (small1000 (by omega))) fun pc9 H9 s9 hs9 => ?_⟩
        have all9 : DpAll K H9 (xs1 ++ xs2) ((srtP E1 ++ srtP E2).map dP) := by
          rw [List.map_append]
          exact (ha1.same s9).app (ha2.same s9)
        refine ⟨pc9, _, _, rfl, .inr hs9, all9, alike_pairs _, sortable_pairs _, depth_pairs, fun z zs hz hzs => ⟨z, zs, rfl, .inl ⟨SqL.of upd_same, fun t htt => ?_⟩⟩⟩
        have s11 := s9.trans ((same_new (o := .lst zs) hz).trans (same_new (o := .tup zs) htt))
        have dT9 : Dp K (upd (upd H9 z (.lst zs)) t (.tup zs)) (.ref t) (.tuple (sds ((srtP E1 ++ srtP E2).map dP))) := .tup (.inl (.inl upd_same)) ((hzs.same (same_new hz)).same (same_new htt))
        generalize upd (upd H9 z (.lst zs)) t (.tup zs) = H10 at s11 dT9 ⊢
        have key : dEnds true (R1 ++ R2) sh = sds ((srtP E1 ++ srtP E2).map dP) := by
          refine sds_pairs_congr ?_
          refine (RC.ends_shuf sep hsh (fun x hx => pm1.mem_iff.mp hx) (fun x hx => pm2.mem_iff.mp hx) true).trans ?_
          rw [hE1, hE2]
          exact List.Perm.append (srtP_perm E1).symm (srtP_perm E2).symm
        have shp : Shp 2 (.tuple (sds ((srtP E1 ++ srtP E2).map dP))) := Shp.tup (Shp.sds (Shp.Ps _))
        refine ⟨_, _, hen3.same s11, dT9, ?_, shp.ok, _, rfl, ?_⟩
        · rw [key]
          exact shp.ok
        rw [key, eqv_self shp]
        refine iteF ⟨_, rfl, k, _, _, rfl, s11 _ _ ek1, k, _, _, _, .ref st3, rfl, out3.same s11, rfl, Nat.zero_le _, fun z2 hz2 => ⟨.tuple [], .tuple [], .tup (same_t (s11.trans (same_new hz2)) hst3) .nil, .tup (.inl (.inl upd_same)) .nil, (Shp.tup (n := 0) (fun _ h => absurd h List.not_mem_nil)).ok, (Shp.tup (n := 0) (fun _ h => absurd h List.not_mem_nil)).ok, _, rfl, ?_⟩⟩
        rw [eqv_self (Shp.tup (n := 0) (fun _ h => absurd h List.not_mem_nil))]
        exact iteF ⟨_, _, _, _, rfl, (bes8.same s11).same (same_new hz2)⟩
        | i + 2, hi => exact absurd hi (by simp)
      · rintro σ H4 ⟨v5, v6, v7, v8, rfl, b4⟩
        exact q H4 (bc.trans b4)
end RP

/-! KW26 -/
/-! _law_word, called within an except suite. -/
namespace SaidX
open PySem PySem.Spec PySem.Calls PyProof.Rows L2 RP
def wnames : List Str := ["NotRow", "NotTable", "NotKey", "NotKeys", "NotRows", "NotOrder", "NotRule", "NotInteger", "NotScan", "NotBound", "NotFormula", "NotDeed", "NotText", "NotBytes", "NotLine", "Missing", "Impossible", "TooLarge", "NothingDone", "Twice", "Held", "TooMany", "Competing", "Ringed", "Collision"]
/-- the classes of errors by their names -/
structure WN (mg : Str → Option Value) where
  c : Nat → Addr
  g : ∀ i x, wnames[i]? = some x → mg x = some (.ref (c i))
/-- what the class D is, among them -/
structure WD (K : PySem.W.Frag) (c : Nat → Addr) (D : Addr) (j : Nat) : Prop where
  ex : ExcC K D
  kit : ∀ i, i < 25 → PySem.W.kitOne K (.ref D) (.ref (c i)) = some (decide (i = j))
  ve : PySem.W.kitOne K (.ref D) (.type "ValueError") = some true
section
variable {X : Cx} {a D dd : Addr} {oe : Obj}
def rIsX (K : PySem.W.Frag) (D a dd : Addr) : List V → Hp → VK → Prop := fun xs H Q => ∃ (c : V) (cv : Value) (b : Bool) (fs : List (Str × V)), xs = [.ref a, c] ∧ (∀ u, RelV c u → u = cv) ∧ H dd = some (.xd fs) ∧ PySem.W.kitOne K (.ref D) cv = some b ∧ Q (.bl b) H
theorem call_isX (C : ExcC X.K D) (hp : (a, oe) ∈ X.pn) (hz : Zc (.ref D) (some dd) oe) (hf : ∃ vs, oe.data = .fields vs) : CallR X (.builtin "isinstance") (rIsX X.K D a dd) := by
  intro pins s σ H xs us Q I r h
  obtain ⟨c, cv, b, fs, rfl, hcv, hdd, e, q⟩ := h
  obtain ⟨u1, u2, rfl, r1, r2⟩ := vals2 r
  obtain rfl : u1 = Value.ref a := r1
  have ec := hcv _ r2
  subst ec
  obtain ⟨ha, _⟩ := I.pin (a, oe) (List.mem_append_left _ hp)
  obtain ⟨vs, hd⟩ := hf
  have hx : ObjOk X.prog X.w H s.heap dd (.xd fs) := I.hok dd _ hdd
  obtain ⟨mA, hns, hr⟩ := hx
  obtain ⟨od, ho, hl⟩ := lookIn_ns hns
  have J : PySem.W.InstAt s.heap a oe D (some od) := ⟨ha, hz.1, by unfold PySem.W.notCls; rw [hd] <;> rfl, by rw [hz.2]; exact ho⟩
  have hcl : (PySem.W.clsIn X.K D).isSome = true := by
    obtain ⟨cd, hc, _⟩ := PySem.W.any_some C.hd
    rw [hc]
    rfl
  exact PySem.W.kia_one (PySem.W.kitx_exc hcl C.hg C.hk C.hs C.ha C.hn C.ht C.hm) I.kIn J e (fun z => nomatch z) fun tk => ⟨.bl b, H, I.tok tk, rfl, q⟩
theorem dpAll_bools {K : PySem.W.Frag} {H : Hp} : ∀ (bs : List Bool), DpAll K H (bs.map V.bl) (bs.map PyData.bool)
  | [] => .nil
  | _ :: xs => .cons (.bl _) (dpAll_bools xs)
/-- list.count of a bool among bools -/
theorem mt_countB : MtR X "list.count" (fun x xs H Q => ∃ (l : Addr) (bs : List Bool) (k : Bool), x = .ref l ∧ xs = [.bl k] ∧ SqL X.K H l (bs.map V.bl) ∧ Q (.int (Spec.countIn (.bool k) (bs.map PyData.bool))) H) := by
  intro pins s σ H x xs v us Q I rx rxs h
  obtain ⟨l, bs, k, rfl, rfl, hs, q⟩ := h
  obtain rfl : v = Value.ref l := rx
  cases rxs with
  | cons ry rt =>
    rename_i uy ut
    cases rt
    obtain rfl : uy = Value.bool k := ry
    obtain ⟨its, rv, ⟨o, n, ho, hc, hdn, hd⟩, hlen⟩ := I.list hs
    obtain ⟨as, ra⟩ := Dp.readsAll I _ _ its (dpAll_bools bs) rv
    refine count_list_bools ⟨o, ho, hc, n, hd⟩ ra ?_ ⟨.int _, H, I.tok _, ⟨_, rfl⟩, q⟩
    rw [List.all_eq_true]
    intro d hd
    obtain ⟨b, _, rfl⟩ := List.mem_map.mp hd
    rfl
def tIs (a dd : Addr) (b : Bool) : TE := fun σ H Q => σ[0]? = some (some (.ref a)) ∧ (∃ fs, H dd = some (.xd fs)) ∧ Q (.bl b) H
def tIss (a dd : Addr) (bs : List Bool) : TA := fun σ H Q => σ[0]? = some (some (.ref a)) ∧ (∃ fs, H dd = some (.xd fs)) ∧ Q (bs.map V.bl) H
theorem PEimp {e : Expr} {t t' : TE} (h : PE X e t) (i : ∀ σ H Q, t' σ H Q → t σ H Q) : PE X e t' := ⟨fun pins s σ H Q I z => h.run pins s σ H Q I (i _ _ _ z)⟩
theorem PAimp {es : List Expr} {t t' : TA} (h : PA X es t) (i : ∀ σ H Q, t' σ H Q → t σ H Q) : PA X es t' := ⟨fun p pins s σ H Q I z => h.run p pins s σ H Q I (i _ _ _ z)⟩
theorem iss_nil : PA X [] (tIss a dd []) := PAimp pa_nil fun _ _ _ h => h.2.2
theorem iss_cons {e : Expr} {es : List Expr} {b : Bool} {bs : List Bool} (h : PE X e (tIs a dd b)) (hs : PA X es (tIss a dd bs)) (hst : starEach (e :: es) X.env = (false, eval e X.env) :: starEach es X.env := by rfl) : PA X (e :: es) (tIss a dd (b :: bs)) :=
  PAimp (pa_cons h hs hst) fun _ _ _ z => ⟨z.1, z.2.1, z.1, z.2.1, z.2.2⟩
theorem pisB {T : Expr} {tT : V} {cv : Value} {b : Bool} {p p1 pos : Pos} (C : ExcC X.K D) (hp : (a, oe) ∈ X.pn) (hz : Zc (.ref D) (some dd) oe) (hf : ∃ vs, oe.data = .fields vs) (hm : X.mg "isinstance" = none) (hT : PE X T (tC tT)) (hc : ∀ u, RelV tT u → u = cv) (hk : PySem.W.kitOne X.K (.ref D) cv = some b)
    (hg : Gl X "isinstance" := by rfl) (hN : X.N[0]? = some ("_law_e" : Str) := by rfl) (hv : Vis X.env.scope ("_law_e" : Str) := by exact .inl rfl)
    (h1 : starEach [.Name "_law_e" p1, T] X.env = (false, eval (.Name "_law_e" p1) X.env) :: starEach [T] X.env := by rfl) (h2 : starEach [T] X.env = (false, eval T X.env) :: starEach [] X.env := by rfl)
    (hpl : (backTo pos (starEach [T] X.env)).any (·.1) = false := by rfl) : PE X (.Call (.Name "isinstance" p) [.Name "_law_e" p1, T] [] pos) (tIs a dd b) :=
  PEimp (pe_callB (call_isX C hp hz hf) hg hm bb_isinstance (pa_cons (pe_var (i := 0) hN hv) (pa_cons hT pa_nil h2) h1) (by decide) (by decide) h1 hpl)
    fun σ H Q ⟨h1, ⟨fs, h2⟩, q⟩ => ⟨_, h1, _, _, b, fs, rfl, hc, h2, hk, q⟩
end
/-- x(..) of a def in a context that bears a caught exception: the callee bears it too -/
theorem pe_pin {X : Cx} {x : Str} {st : Stmt} {N ps : List Str} {p : Addr × Obj} {k : Nat} {e : Expr} {es : List Expr} {t : TA} {q pos : Pos} (D : DG X.K X.mg x st ps) (S : FnScope N ps (defScope st)) (hp : p ∈ X.pn) (hr : L2H.RoomH (k + 1) X.A) (ha : PA X (e :: es) t)
    (sp : List V → Hp → VK → Prop) (len : ∀ vs H Q, sp vs H Q → vs.length = ps.length)
    (hbody : ∀ (cdv : Value) (A : Around) (outer : List Env) (s : Shared) (H : Hp) (vs : List V) (Q : VK), L2H.RoomH k (A.deeper (envOfC x (defScope st) s.heap.objs.size D.f cdv)) → sp vs H Q →
      ∃ t, PSs (L2H.cxH CX0 X.prog X.w X.K X.mg X.base N x (defScope st) D.f cdv A outer s H E0 p) (defBody st) t ∧ t { nx := fun _ H' => Q .non H', rt := Q } (L2.start N vs) H)
    (hg : Gl X x := by rfl) (hdb : (x == ("__debug__" : Str)) = false := by decide) (he : starEach (e :: es) X.env = (false, eval e X.env) :: starEach es X.env := by rfl) (hpl : (backTo pos (starEach es X.env)).any (·.1) = false := by rfl) :
    PE X (.Call (.Name x q) (e :: es) [] pos) (fun σ H Q => t σ H fun vs H1 => sp vs H1 Q) := by
  refine ⟨fun pins s σ H Q I h => ?_⟩
  refine wpAny_Call_Name_kw (ld_glob I hg D.g ?_ hdb)
  refine PySem.W.callWith_K (h₀ := X.base) I.ok.mod.kin D.F.kp (thn (ha.run pos pins s σ H _ I h) fun us s1 ⟨vs, H1, I1, r, hsp⟩ => ⟨I1.kIn, ?_⟩) he hpl
  have hl := len _ _ _ hsp
  have b := D.b s1 us I1.kIn (by rw [List.append_nil, ← r.length]; exact hl)
  rw [List.append_nil] at b
  obtain ⟨oc, od, kV, doc, pm, an, cdv, ct, osl, e1, lk, hcd⟩ := D.F.ex
  have P1 := I1.pin p (List.mem_append_left _ hp)
  have hpin : L2H.PinOk X.stack H1 s1 p := ⟨P1.1, P1.2.1, fun hm => (List.mem_cons.mp (I1.stkSub p.1 hm)).elim P1.2.2.1 P1.2.2.2.1, P1.2.2.2.2⟩
  have e0 := I1.env0
  have KX : X.K.In s1.heap := e0.mod.kin.keeps fun b o e => (e0.bs b o e).1
  have lim : s1.heap.NoLimit := e0.mod.nolimit.keeps fun b o e => (e0.bs b o e).1
  have hkind : ∀ y ∈ ps.zip us, (defScope st).names.lookup y.1 = some .local ∨ ((defScope st).names.lookup y.1 = some .cell ∧ ((cellsFrom (s1.heap.objs.size + 1) (defScope st).names []).lookup y.1).isSome = true) := fun ⟨n, v⟩ hy => by
    rcases S.par n (List.of_mem_zip hy).1 with q | q
    · exact .inl q
    · exact .inr ⟨q, PySem.W.cellsFrom_some _ _ _ (.inl q)⟩
  have rc : codeAny (model X.prog X.w) X.A (.call (.ref D.f) ⟨us, []⟩) (CR CX0 X.stack X.prog X.w H1 s1 Q E0) s1 := by
    rw [e1] at lk b
    refine codeAny_call_function hr.depth (KX _ _ lk) rfl S.co S.gen rfl (PySem.W.codeRec_of KX hcd) (b _ _ _ _ ?_)
    refine wpAny_newFunctionEnv_cells S.kind hkind fun env he s2 xi => ?_
    subst he
    refine ⟨lim.keeps xi.toInCall.keep, codeAny_func ?_⟩
    obtain ⟨t, ht, hq'⟩ := hbody cdv X.A X.stack s1 H1 vs Q (hr.deeper _) hsp
    have J := L2H.inv_startH (CX := CX0) (E := E0) S hpin e0 hl r xi
    refine wpAny_mono (ht.run [] s2 (L2.start N vs) H1 _ J hq') (fun fl s' hs => ?_) fun e s' hs => hs
    have fin : ∀ {σ' : L2.St} {H' : Hp} {v : V} {u : Value}, Inv (L2H.cxH CX0 X.prog X.w X.K X.mg X.base N x (defScope st) D.f cdv X.A X.stack s1 H1 E0 p) [] σ' H' s' → RelV v u → Q v H' → CE X.stack X.prog X.w H1 s1 Q u s' :=
      fun {σ' H' v u} J rv q => ⟨v, H', J.os, J.bare, J.base, J.hok, rv, q⟩
    cases fl with
    | ret u =>
      obtain ⟨v, σ', H', J', rv, q'⟩ := hs
      exact fin J' rv q'
    | next =>
      obtain ⟨σ', H', J', q'⟩ := hs
      exact fin (v := V.non) (u := Value.none) J' rfl q'
    | brk =>
      obtain ⟨_, _, _, q'⟩ := hs
      exact q'.elim
    | cont =>
      obtain ⟨_, _, _, q'⟩ := hs
      exact q'.elim
  refine wpAny_call (codeAny_mono rc fun r s' hq => ?_)
  cases r with
  | error e => exact (show False from hq).elim
  | ok fl =>
    cases fl with
    | ret u => exact I1.after hq
    | next => exact False.elim hq
    | brk => exact False.elim hq
    | cont => exact False.elim hq
def words : List Str := ["row", "table", "key", "keys", "rows", "order", "rule", "integer", "scan", "bound", "formula", "deed", "text", "bytes", "line", "missing", "impossible", "large", "nothing", "twice", "held", "many", "competing", "ringed", "collision"]
def spWord (a dd : Addr) (j : Nat) : List V → Hp → VK → Prop := fun vs H Q => ∃ fs, vs = [.ref a] ∧ H dd = some (.xd fs) ∧ ∀ H', Same H H' → Q (.str (words.getD j "")) H'
theorem sc_word : FnScope ["_law_e", "_law_some", "_law_words"] ["_law_e"] (defScope sLawWord) := ⟨rfl, rfl, rfl, by decide +kernel, rfl, by decide +kernel, by decide +kernel⟩
section
variable {P : Program} {w : World} {K : PySem.W.Frag} {mg : Str → Option Value} {base : Heap} {D a dd : Addr} {j : Nat} {oe : Obj}
abbrev B22 (j : Nat) : List Bool := (List.range 25).map fun i => decide (i = j)
theorem b22_get {j m : Nat} (h : m < 25) : ((B22 j).map V.bl)[m]? = some (.bl (decide (m = j))) := by
  rw [List.getElem?_map, List.getElem?_map, List.getElem?_range h]
  rfl
theorem b22_at {j : Nat} (h : j < 25) : ((B22 j).map V.bl)[j]? = some (.bl true) := by
  rw [b22_get h, decide_eq_true rfl]
theorem b22_no {j : Nat} (m : Nat) (z : V) (h : m < j) (hz : ((B22 j).map V.bl)[m]? = some z) : eqV z (.bl true) = false := by
  have hm : m < 25 := by
    have := (List.getElem?_eq_some_iff.mp hz).1
    simpa using this
  rw [b22_get hm, decide_eq_false (by omega)] at hz
  cases hz
  rfl
theorem word_body (T : TX K mg) (W : WN mg) (hve : mg "ValueError" = none) (C : WD K W.c D j) (hj : j = 22 ∨ j = 23) (hz : Zc (.ref D) (some dd) oe) (hf : ∃ vs, oe.data = .fields vs) {k : Nat} {f : Addr} (cdv : Value) (A : Around) (outer : List Env) (s : Shared) (H : Hp) (vs : List V) (Q : VK)
    (hr : L2H.RoomH k (A.deeper (envOfC "_law_word" (defScope sLawWord) s.heap.objs.size f cdv))) (h : spWord a dd j vs H Q) :
    ∃ t, PSs (L2H.cxH CX0 P w K mg base ["_law_e", "_law_some", "_law_words"] "_law_word" (defScope sLawWord) f cdv A outer s H E0 (a, oe)) (defBody sLawWord) t ∧ t { nx := fun _ H' => Q .non H', rt := Q } (L2.start ["_law_e", "_law_some", "_law_words"] vs) H := by
  obtain ⟨fs, rfl, hdd, q⟩ := h
  have one : ∀ i n (hn : wnames[i]? = some n) (hi : i < 25) {p p1 p2 pos : Pos} (_ : Gl (L2H.cxH CX0 P w K mg base ["_law_e", "_law_some", "_law_words"] "_law_word" (defScope sLawWord) f cdv A outer s H E0 (a, oe)) n := by rfl) (_ : (n == ("__debug__" : Str)) = false := by decide),
      PE (L2H.cxH CX0 P w K mg base ["_law_e", "_law_some", "_law_words"] "_law_word" (defScope sLawWord) f cdv A outer s H E0 (a, oe)) (.Call (.Name "isinstance" p) [.Name "_law_e" p1, .Name n p2] [] pos) (tIs a dd (decide (i = j))) :=
    fun i n hn hi {p p1 p2 pos} hgl hdb => pisB C.ex List.mem_cons_self hz hf T.n_isinstance (pe_glob (v := .ref (W.c i)) hgl (W.g i n hn) rfl hdb) (fun u r => r) (C.kit i hi)
  have vE : ∀ {p p1 p2 pos : Pos}, PE (L2H.cxH CX0 P w K mg base ["_law_e", "_law_some", "_law_words"] "_law_word" (defScope sLawWord) f cdv A outer s H E0 (a, oe)) (.Call (.Name "isinstance" p) [.Name "_law_e" p1, .Name "ValueError" p2] [] pos) (tIs a dd true) :=
    fun {p p1 p2 pos} => pisB C.ex List.mem_cons_self hz hf T.n_isinstance (pty hve bb_VE) (fun u r => r) C.ve
  refine ⟨_, pss_cons (ps_set (i := 1) sc_word.nd rfl (.inl rfl) (pe_lst (iss_cons (one 0 _ rfl (by decide)) (iss_cons (one 1 _ rfl (by decide)) (iss_cons (one 2 _ rfl (by decide)) (iss_cons (one 3 _ rfl (by decide)) (iss_cons (one 4 _ rfl (by decide)) (iss_cons (one 5 _ rfl (by decide)) iss_nil))))))))
    (pss_cons (ps_set (i := 1) sc_word.nd rfl (.inl rfl) (pe_op op_cat (pv 1) (pe_lst (iss_cons (one 6 _ rfl (by decide)) (iss_cons (one 7 _ rfl (by decide)) (iss_cons (one 8 _ rfl (by decide)) (iss_cons (one 9 _ rfl (by decide)) (iss_cons (one 10 _ rfl (by decide)) (iss_cons (one 11 _ rfl (by decide)) iss_nil)))))))))
    (pss_cons (ps_set (i := 1) sc_word.nd rfl (.inl rfl) (pe_op op_cat (pv 1) (pe_lst (iss_cons (one 12 _ rfl (by decide)) (iss_cons (one 13 _ rfl (by decide)) (iss_cons (one 14 _ rfl (by decide)) (iss_cons (one 15 _ rfl (by decide)) (iss_cons (one 16 _ rfl (by decide)) (iss_cons (one 17 _ rfl (by decide)) iss_nil)))))))))
    (pss_cons (ps_set (i := 1) sc_word.nd rfl (.inl rfl) (pe_op op_cat (pv 1) (pe_lst (iss_cons (one 18 _ rfl (by decide)) (iss_cons (one 19 _ rfl (by decide)) (iss_cons (one 20 _ rfl (by decide)) (iss_cons (one 21 _ rfl (by decide)) (iss_cons (one 22 _ rfl (by decide)) (iss_cons (one 23 _ rfl (by decide)) (iss_cons (one 24 _ rfl (by decide)) iss_nil))))))))))
    (pss_cons (ps_set (i := 2) sc_word.nd rfl (.inl rfl) (pe_lst (pa_cons pe_str (pa_cons pe_str (pa_cons pe_str (pa_cons pe_str (pa_cons pe_str (pa_cons pe_str (pa_cons pe_str (pa_cons pe_str (pa_cons pe_str (pa_cons pe_str (pa_cons pe_str (pa_cons pe_str (pa_cons pe_str pa_nil)))))))))))))))
    (pss_cons (ps_set (i := 2) sc_word.nd rfl (.inl rfl) (pe_op op_cat (pv 2) (pe_lst (pa_cons pe_str (pa_cons pe_str (pa_cons pe_str (pa_cons pe_str (pa_cons pe_str (pa_cons pe_str (pa_cons pe_str (pa_cons pe_str (pa_cons pe_str (pa_cons pe_str (pa_cons pe_str (pa_cons pe_str pa_nil)))))))))))))))
    (pss_cons (ps_if (pw_or (pt_cmpR op_ne (pe_bm PySem.F.plainAttrs_list PySem.F.slot_list_count PySem.F.type_list_count mt_countB (pv 1) (pa_cons pe_bl pa_nil)) pe_int (nomark _)) (pw_or1 (pt_not (pt_val vE)))).pt (pss_one (ps_ret pe_str)) pss_nil)
    (pss_one (ps_ret (pe_ix ix_list (pv 2) (pe_bm PySem.F.plainAttrs_list PySem.F.slot_list_index PySem.F.type_list_index mt_index (pv 1) (pa_cons pe_bl pa_nil)) (fun _ _ => rfl)))))))))), ?_⟩
  rcases hj with rfl | rfl
  all_goals
    refine ⟨rfl, ⟨fs, hdd⟩, by decide, fun p1 h1 => ?_⟩
    have s1 := fun o => same_new (o := o) h1
    refine ⟨_, rfl, rfl, ⟨fs, s1 _ _ _ hdd⟩, by decide, fun p2 h2 => ⟨p1, p2, _, _, rfl, rfl, same_new h2 _ _ upd_same, upd_same, by decide, fun p3 h3 => ?_⟩⟩
    have s3 := fun o => ((s1 _).trans (same_new h2)).trans (same_new (o := o) h3)
    refine ⟨_, rfl, rfl, ⟨fs, s3 _ _ _ hdd⟩, by decide, fun p4 h4 => ⟨p3, p4, _, _, rfl, rfl, same_new h4 _ _ upd_same, upd_same, by decide, fun p5 h5 => ?_⟩⟩
    have s5 := fun o => ((s3 _).trans (same_new h4)).trans (same_new (o := o) h5)
    refine ⟨_, rfl, rfl, ⟨fs, s5 _ _ _ hdd⟩, by decide, fun p6 h6 => ⟨p5, p6, _, _, rfl, rfl, same_new h6 _ _ upd_same, upd_same, by decide, fun p7 h7 => ?_⟩⟩
    have s7 := fun o => ((s5 _).trans (same_new h6)).trans (same_new (o := o) h7)
    refine ⟨by decide, fun p8 h8 => ⟨_, rfl, by decide, fun p9 h9 => ⟨p8, p9, _, _, rfl, rfl, same_new h9 _ _ upd_same, upd_same, by decide, fun pa ha => ?_⟩⟩⟩
    have sa := fun o => (((s7 _).trans (same_new h8)).trans (same_new h9)).trans (same_new (o := o) ha)
    have l7 := fun o => (((same_new h8).trans (same_new h9)).trans (same_new (o := o) ha)) _ _ upd_same
    refine ⟨_, rfl, .inl ⟨rfl, _, .inl (.inl (l7 _))⟩, p7, B22 _, true, rfl, rfl, .inl (.inl (l7 _)), ?_⟩
    refine ⟨rfl, _, rfl, ?_⟩
    refine iteF ?_
    refine ⟨rfl, ⟨fs, sa _ _ _ hdd⟩, true, rfl, iteF ?_⟩
    refine ⟨_, rfl, _, rfl, .inl ⟨rfl, _, .inl (.inl (l7 _))⟩, ?_⟩
    refine ⟨p7, (B22 _).map V.bl, _, _, _, rfl, rfl, .inl (.inl (l7 _)), rfl, by decide, b22_at (by decide), by rfl, b22_no, ?_⟩
    refine ⟨pa, _, _, _, rfl, rfl, .inl (.inl upd_same), rfl, q _ (sa _)⟩
end
end SaidX

/-! KW27 -/
/-! _law_said, given a lambda. -/
namespace SaidX
open PySem PySem.Spec PySem.Calls PyProof.Rows L2 RP
def fldOf (j : Nat) : Str := if j = 22 then "pair" else "ring"
structure SaidOk (K : PySem.W.Frag) (c : Nat → Addr) (CR C : Addr) (j : Nat) : Prop where
  j2 : j = 22 ∨ j = 23
  wd : WD K c C j
  xm : PySem.W.exmOne K (.ref C) (.ref CR) = some true
  no : PySem.W.findIn K (.ref C) (fldOf j) = some none
theorem SaidOk.xf {K : PySem.W.Frag} {c : Nat → Addr} {CR C : Addr} {j : Nat} (h : SaidOk K c CR C j) : XfC K C := ⟨h.wd.ex.hg, h.wd.ex.hk, h.wd.ex.hs, h.wd.ex.hd⟩
abbrev nSaid : List Str := ["_law_call", "_law_e", "_law_word_here"]
def Esaid (K : PySem.W.Frag) (c : Nat → Addr) (CR : Addr) (Q : VK) : XK := fun cls d H => ∃ (C dd : Addr) (j : Nat) (v : V), cls = .ref C ∧ d = some dd ∧ SaidOk K c CR C j ∧ H dd = some (.xd [(fldOf j, v)]) ∧
  ∀ H' p, Same H H' → H' p = none → Q (.ref p) (upd H' p (.tup [.str (words.getD j ""), v]))
def TTsaid (K : PySem.W.Frag) (c : Nat → Addr) (CR : Addr) : (XK → Hp → VK → Prop) → Hp → VK → Prop := fun tl H Q =>
  tl (Esaid K c CR Q) H fun v H' => [V.str "returned", v].length ≤ sizeLine ∧ ∀ p, H' p = none → Q (.ref p) (upd H' p (.tup [.str "returned", v]))
def tsSaid (K : PySem.W.Frag) (c : Nat → Addr) (CR : Addr) (a : Addr) (cls : Value) (d : Option Addr) : TS := fun D σ H => (∃ σ' : L2.St, σ = σ'.set 1 (some (.ref a))) ∧ Esaid K c CR D.rt cls d H
theorem sc_said : FnScope nSaid ["_law_call"] (defScope sLawSaid) := ⟨rfl, rfl, rfl, by decide +kernel, rfl, by decide +kernel, by decide +kernel⟩
section
variable {P : Program} {w : World} {K : PySem.W.Frag} {mg : Str → Option Value} {base : Heap} {CR : Addr} {k : Nat}
theorem PSsimp {X : Cx} {st : List Stmt} {t t' : TS} (h : PSs X st t) (i : ∀ D σ H, t' D σ H → t D σ H) : PSs X st t' := ⟨fun pins s σ H D I z => h.run pins s σ H D I (i _ _ _ z)⟩
theorem PEex {α : Type} {X : Cx} {e : Expr} {t : α → TE} {c : α → Prop} (h : ∀ x, c x → PE X e (t x)) : PE X e (fun σ H Q => ∃ x, c x ∧ t x σ H Q) := ⟨fun pins s σ H Q I ⟨x, hc, z⟩ => (h x hc).run pins s σ H Q I z⟩
theorem said_gives {X : Cx} {g : Addr} {cdg : Value} {q : Str} (T : TX X.K X.mg) (W : WN X.mg) (hve : X.mg "ValueError" = none) (hrow : X.mg "RowError" = some (.ref CR)) (hr : Room (k + 3) X.A) : LamX.GivesTo X nSaid "_law_said" (defScope sLawSaid) g cdg (defBody sLawSaid) "_law_call" q (TTsaid X.K W.c CR) := by
  intro f c' s H Q tl act hc h
  refine ⟨_, pss_one (ps_try_as (X := (cxOf C8.CX0 X.prog X.w X.K X.mg X.base nSaid "_law_said" (defScope sLawSaid) g cdg X.A X.stack s H C8.E0).nox) (c := .ref CR) (i := 1) (Wout := fun _ _ _ _ => False)
    (tb := fun W D σ H => ∃ Ech : XK, (∀ cls d σ' H', Ech cls d H' → W cls d σ' H') ∧ σ[0]? = some (some (.ref f)) ∧ H c' = some (LamX.CodeO c' q) ∧ tl Ech H fun v H' => [V.str "returned", v].length ≤ sizeLine ∧ ∀ p, H' p = none → D.rt (.ref p) (upd H' p (.tup [.str "returned", v])))
    (ts := tsSaid X.K W.c CR) rfl rfl sc_said.nd rfl rfl ⟨rfl, by decide, .inl hrow⟩ LamX.takes0 (fun W pn xe tk _ => ?_) (fun a oe cls d pn hz hf => ?_)), ?_⟩
  · refine PSsimp (pss_one (ps_ret (pe_tup (pa_cons pe_str (pa_cons (PEex (c := fun E : XK => ∀ cls d σ' H', E cls d H' → W cls d σ' H') fun E hW => act W pn xe E _ _ tk hW) pa_nil))))) fun D σ H' h' => ?_
    obtain ⟨Ech, hW, h1, h2, h3⟩ := h'
    exact ⟨Ech, hW, h1, h2, h3⟩
  · refine ⟨fun pins s9 σ H9 D I ⟨⟨σ', hσ⟩, C, dd, j, v, hcls, hd, S, hx, q9⟩ => ?_⟩
    subst hcls
    subst hd
    have hlen : σ.length = 3 := I.len
    have hl' : 1 < σ'.length := by rw [hσ, List.length_set] at hlen; omega
    have h1 : σ[1]? = some (some (.ref a)) := by rw [hσ, List.getElem?_set_self hl']
    have hr2 : Room (k + 2) (X.A.deeper (envOfC "_law_said" (defScope sLawSaid) s.heap.objs.size g cdg)) := hr.deeper _
    have word : ∀ (j : Nat) (hj : j = 22 ∨ j = 23) (C1 : WD X.K W.c C j) {p1 p2 pos : Pos}, PE ((cxOf C8.CX0 X.prog X.w X.K X.mg X.base nSaid "_law_said" (defScope sLawSaid) g cdg X.A X.stack s H C8.E0).nox.suite a ((a, oe) :: pn)) (.Call (.Name "_law_word" p1) [.Name "_law_e" p2] [] pos) (fun σ H Q => tCons (tVar 1) tNil σ H fun vs H1 => spWord a dd j vs H1 Q) :=
      fun j hj C1 {p1 p2 pos} => pe_pin (X := (cxOf C8.CX0 X.prog X.w X.K X.mg X.base nSaid "_law_said" (defScope sLawSaid) g cdg X.A X.stack s H C8.E0).nox.suite a ((a, oe) :: pn)) (p := (a, oe)) (k := k) T.d_law_word sc_word List.mem_cons_self ⟨(hr2.mono (j := k + 1) (by omega)).dp, (hr2.mono (j := k + 1) (by omega)).un⟩ (pa_cons (pv 1) pa_nil) (spWord a dd j)
        (fun vs H Q h => by
          obtain ⟨fs, rfl, _⟩ := h
          rfl)
        (fun cdv A outer s H vs Q hr' hsp => word_body T W hve C1 hj hz hf cdv A outer s H vs Q hr' hsp)
    rcases S.j2 with rfl | rfl
    · refine PSs.run (pss_cons (ps_set (i := 2) sc_said.nd rfl (.inl rfl) (word 22 (.inl rfl) S.wd))
        (pss_cons (ps_if (pw_or (pt_cmpR op_eq (pv 2) pe_str (nomark _)) (pw_or1 (pt_cmpR op_eq (pv 2) pe_str (nomark _)))).pt pss_never pss_nil)
        (pss_cons (ps_if (pt_cmpR op_eq (pv 2) pe_str (nomark _)) pss_never pss_nil)
        (pss_cons (ps_if (pt_cmpR op_eq (pv 2) pe_str (nomark _)) (pss_one (ps_ret (pe_tup (pa_cons (pv 2) (pa_cons (pe_xf S.xf S.no hz hf (pv 1)) pa_nil))))) pss_nil)
        pss_never)))) pins s9 σ H9 D I ?_
      have h2' : (σ.set 2 (some (.str "competing")))[2]? = some (some (.str "competing")) := List.getElem?_set_self (by rw [hlen]; decide)
      have h1' : (σ.set 2 (some (.str "competing")))[1]? = some (some (.ref a)) := by rw [List.getElem?_set_ne (by decide)]; exact h1
      refine ⟨_, h1, _, rfl, hx, fun H1 s1 => ?_⟩
      refine ⟨_, h2', rfl, false, by with_unfolding_all rfl, iteF ⟨_, h2', rfl, false, by with_unfolding_all rfl, iteF ?_⟩⟩
      refine ⟨_, h2', rfl, false, by with_unfolding_all rfl, iteF ?_⟩
      refine ⟨_, h2', rfl, true, by with_unfolding_all rfl, iteT ?_⟩
      exact ⟨_, h2', _, h1', rfl, rfl, dd, _, v, rfl, s1 _ _ hx, rfl, by show (2 : Nat) ≤ sizeLine; decide, fun p hp => q9 _ _ s1 hp⟩
    · refine PSs.run (pss_cons (ps_set (i := 2) sc_said.nd rfl (.inl rfl) (word 23 (.inr rfl) S.wd))
        (pss_cons (ps_if (pw_or (pt_cmpR op_eq (pv 2) pe_str (nomark _)) (pw_or1 (pt_cmpR op_eq (pv 2) pe_str (nomark _)))).pt pss_never pss_nil)
        (pss_cons (ps_if (pt_cmpR op_eq (pv 2) pe_str (nomark _)) pss_never pss_nil)
        (pss_cons (ps_if (pt_cmpR op_eq (pv 2) pe_str (nomark _)) pss_never pss_nil)
        (pss_cons (ps_if (pt_cmpR op_eq (pv 2) pe_str (nomark _)) (pss_one (ps_ret (pe_tup (pa_cons (pv 2) (pa_cons (pe_xf S.xf S.no hz hf (pv 1)) pa_nil))))) pss_nil)
        pss_never))))) pins s9 σ H9 D I ?_
      have h2' : (σ.set 2 (some (.str "ringed")))[2]? = some (some (.str "ringed")) := List.getElem?_set_self (by rw [hlen]; decide)
      have h1' : (σ.set 2 (some (.str "ringed")))[1]? = some (some (.ref a)) := by rw [List.getElem?_set_ne (by decide)]; exact h1
      refine ⟨_, h1, _, rfl, hx, fun H1 s1 => ?_⟩
      refine ⟨_, h2', rfl, false, by with_unfolding_all rfl, iteF ⟨_, h2', rfl, false, by with_unfolding_all rfl, iteF ?_⟩⟩
      refine ⟨_, h2', rfl, false, by with_unfolding_all rfl, iteF ?_⟩
      refine ⟨_, h2', rfl, false, by with_unfolding_all rfl, iteF ?_⟩
      refine ⟨_, h2', rfl, true, by with_unfolding_all rfl, iteT ?_⟩
      exact ⟨_, h2', _, h1', rfl, rfl, dd, _, v, rfl, s1 _ _ hx, rfl, by show (2 : Nat) ≤ sizeLine; decide, fun p hp => q9 _ _ s1 hp⟩
  · refine ⟨_, fun cls d σ' H' z => ?_, rfl, hc, h⟩
    obtain ⟨C, dd, j, v, rfl, rfl, S, hx, q⟩ := z
    exact ⟨true, S.xm, fun _ a na => ⟨⟨_, rfl⟩, C, dd, j, v, rfl, rfl, S, hx, q⟩, fun z => nomatch z⟩
end
end SaidX

/-! KW28 -/
/-! The law's loop body, statement by statement: the drawn rows, the numbers, how far. -/
namespace RP
open PySem PySem.Spec PyProof.Rows L2 SaidX
abbrev nLaw : List Str := ["_law_script", "_law_cell", "_law_pen_here", "_law_pairs_here", "_law_more", "_law_numbers", "_law_key", "_law_new", "_law_far", "_law_one", "_law_other", "_law_both", "_law_ways_here", "_law_said_here", "_law_orders", "_law_order", "_law_some"]
theorem sc_law : FnScope nLaw ["_law_script"] (defScope sLaw) := ⟨rfl, rfl, rfl, by decide +kernel, rfl, by decide +kernel, by decide +kernel⟩
def loopB : List Stmt := match defBody sLaw with
  | .For _ _ b _ _ :: _ => b
  | _ => []
def lb (i : Nat) : Stmt := loopB.getD i (.Pass ⟨0, 0, 0, 0⟩)
abbrev XL (P : Program) (w : World) (K : PySem.W.Frag) (mg : Str → Option Value) (base : Heap) (f cc : Addr) (A : Around) (outer : List Env) (s : Shared) (H : Hp) (E : XK) : Cx := (cxOf CX0 P w K mg base nLaw "law" (defScope sLaw) f (.ref cc) A outer s H E).nox
theorem PSimp {X : Cx} {st : Stmt} {t t' : TS} (h : PS X st t) (i : ∀ D σ H, t' D σ H → t D σ H) : PS X st t' := ⟨fun pins s σ H D I z => h.run pins s σ H D I (i _ _ _ z)⟩
theorem len17 {σ : L2.St} (h : σ.length = 17) : ∃ x0 x1 x2 x3 x4 x5 x6 x7 x8 x9 x10 x11 x12 x13 x14 x15 x16 : Option V, σ = [x0, x1, x2, x3, x4, x5, x6, x7, x8, x9, x10, x11, x12, x13, x14, x15, x16] := by
  match σ, h with
  | [x0, x1, x2, x3, x4, x5, x6, x7, x8, x9, x10, x11, x12, x13, x14, x15, x16], _ => exact ⟨_, _, _, _, _, _, _, _, _, _, _, _, _, _, _, _, _, rfl⟩
section
variable {P : Program} {w : World} {K : PySem.W.Frag} {mg : Str → Option Value} {base : Heap} {f cc : Addr} {A : Around} {outer : List Env} {s : Shared} {H0 : Hp} {E : XK} {k : Nat}
theorem st0 (T : TX K mg) (hr : Room 13 (XL P w K mg base f cc A outer s H0 E).A) : PS (XL P w K mg base f cc A outer s H0 E) (lb 0) (fun D σ H => ∃ c : Int, σ[1]? = some (some (.int c)) ∧ ∀ p x y z, H p = none → D.nx (σ.set 2 (some (.ref p))) (upd H p (.lst [.int x, .int y, .int z]))) := by
  have G := ok_pen (P := P) (w := w) (base := base) T
  refine PSimp (ps_set (i := 2) sc_law.nd rfl (.inl rfl) (pc T.d_law_pen G (hr.mono (by decide)) (pa_cons (pv 1) pa_nil))) fun D σ H ⟨c, h, q⟩ => ?_
  exact ⟨_, h, c, rfl, q⟩
/-- rows that were drawn, brought near -/
def RowsL (K : PySem.W.Frag) (H : Hp) (a : Addr) (L : RC.Tab) : Prop := ∃ ys, H a = some (.lst ys) ∧ DpAll K (tups H) ys (L.map dP)
theorem st1 (T : TX K mg) (hr : Room 13 (XL P w K mg base f cc A outer s H0 E).A) : PS (XL P w K mg base f cc A outer s H0 E) (lb 1) (fun D σ H => ∃ p : Addr, σ[2]? = some (some (.ref p)) ∧ Pen H p ∧ ∀ a b L M H', Bes p H H' → RowsL K H' a L → RowsL K H' b M → RC.Near L → RC.Near M → D.nx ((σ.set 3 (some (.ref a))).set 4 (some (.ref b))) H') := by
  have G1 := ok_pairs (P := P) (w := w) (base := base) T
  have G2 := ok_near (P := P) (w := w) (base := base) T
  have G3 := ok_pick (P := P) (w := w) (base := base) T
  refine PSimp (ps_par (i := 3) (j := 4) rfl sc_law.nd rfl rfl (by decide) rfl rfl
    (pa_cons (pc T.d_law_near G2 (hr.mono (by decide)) (pa_cons (pc T.d_law_pairs G1 (hr.mono (by decide)) (pa_cons (pv 2) (pa_cons pe_int pa_nil))) pa_nil))
      (pa_cons (pc T.d_law_near G2 (hr.mono (by decide)) (pa_cons (pc T.d_law_pairs G1 (hr.mono (by decide)) (pa_cons (pv 2) (pa_cons (pc T.d_law_pick G3 (hr.mono (by decide)) (pa_cons (pv 2) (pa_cons (pe_lst (pa_cons pe_int (pa_cons pe_int pa_nil))) pa_nil))) pa_nil))) pa_nil)) pa_nil)) (by rfl)) fun D σ H ⟨p, h, hp, q⟩ => ?_
  refine ⟨_, h, p, 20, rfl, hp, by decide, by decide, fun q1 ys1 L1 s1 H1 hq1 sc1 d1 b1 e1 dp1 => ?_⟩
  have len20 : ∀ {sc : Int} {L : RC.Tab}, RC.Drawn sc L → L.length ≤ 20 := fun {sc L} d => by
    obtain ⟨xs, rfl, hl, _⟩ := d.ex
    rw [List.length_map]
    exact hl
  refine ⟨q1, ys1, L1, rfl, e1, dp1, len20 d1, fun n1 zs1 H2 hn1 s2 en1 dn1 => ?_⟩
  have b2 := b1.same s2
  refine ⟨_, h, _, h, by show (2 : Nat) ≤ sizeLine; decide, fun l hl => ⟨p, l, _, rfl, b2.2.same (same_new hl), SqL.of upd_same, pen_ne b2.2 hl, by decide, by decide, fun v H4 hv b4 => ?_⟩⟩
  have b24 : Bes p H2 H4 := ((Bes.refl b2.2).same (same_new hl)).trans b4
  obtain ⟨m, rfl, hm0, hm1⟩ : ∃ m : Int, v = .int m ∧ 0 ≤ m ∧ m ≤ 20 := by
    rcases List.mem_cons.mp hv with rfl | hv
    · exact ⟨20, rfl, by decide, by decide⟩
    · obtain rfl := List.mem_singleton.mp hv
      exact ⟨4, rfl, by decide, by decide⟩
  refine ⟨p, m, rfl, b24.2, hm0, hm1, fun q2 ys2 L2 s2' H5 hq2 sc2 d2 b5 e5 dp5 => ?_⟩
  refine ⟨q2, ys2, L2, rfl, e5, dp5, len20 d2, fun n2 zs2 H6 hn2 s6 en2 dn2 => ?_⟩
  have b25 := (b24.trans b5).same s6
  refine ⟨_, _, rfl, q n1 n2 _ _ H6 (b2.trans b25) ⟨zs1, b25.at_ (pen_ne b1.2 hn1) en1, dn1.same (tups_bes b2.2 b25)⟩ ⟨zs2, en2, dn2⟩ (RC.near_good sc1 d1) (RC.near_good sc2 d2)⟩
theorem st2 : PS (XL P w K mg base f cc A outer s H0 E) (lb 2) (fun D σ H => ∀ n, H n = none → D.nx (σ.set 5 (some (.ref n))) (upd H n (.lst [.int 0]))) := by
  refine PSimp (ps_set (i := 5) sc_law.nd rfl (.inl rfl) (pe_lst (pa_cons pe_int pa_nil))) fun D σ H q => ?_
  exact ⟨by show (1 : Nat) ≤ sizeLine; decide, q⟩
def absI (i : Int) : Int := if i < 0 then -i else i
def numsOf (R : RC.Tab) : List Int := R.flatMap fun p => [absI p.1, absI p.2]
theorem nums_take {R : RC.Tab} {i : Nat} {p : Int × Int} (h : R[i]? = some p) : numsOf (R.take (i + 1)) = numsOf (R.take i) ++ [absI p.1, absI p.2] := by
  unfold numsOf
  rw [take_get h, List.flatMap_append, List.flatMap_cons, List.flatMap_nil, List.append_nil]
theorem nums_len (R : RC.Tab) : (numsOf R).length = 2 * R.length := by
  unfold numsOf
  induction R with
  | nil => rfl
  | cons p R ih =>
    rw [List.flatMap_cons, List.length_append, ih]
    show 2 + 2 * R.length = 2 * (R.length + 1)
    omega
theorem st3 (T : TX K mg) : PS (XL P w K mg base f cc A outer s H0 E) (lb 3) (fun D σ H => ∃ a b n L M, σ.length = 17 ∧ σ[3]? = some (some (.ref a)) ∧ σ[4]? = some (some (.ref b)) ∧ σ[5]? = some (some (.ref n)) ∧ H n = some (.lst [.int 0]) ∧ RowsL K H a L ∧ RowsL K H b M ∧ L.length ≤ 20 ∧ M.length ≤ 20 ∧
    ∀ n' v6 v7 H', Same H H' → H' n' = some (.lst ((0 :: numsOf (L ++ M)).map V.int)) → D.nx (((σ.set 5 (some (.ref n'))).set 6 v6).set 7 v7) H') := by
  refine PSimp (ps_for PassesOwn.never rfl (pi_list (pe_op op_cat (pv 3) (pv 4))) (pg_tup rfl (pgs_cons (pg_name (i := 6) sc_law.nd rfl (.inl rfl)) (pgs_cons (pg_name (i := 7) sc_law.nd rfl (.inl rfl)) pgs_nil)))
    (pss_one (ps_set (i := 5) sc_law.nd rfl (.inl rfl) (pe_op op_cat (pv 5) (pe_lst (pa_cons (pb call_abs T.n_abs bb_abs (pa_cons (pv 6) pa_nil)) (pa_cons (pb call_abs T.n_abs bb_abs (pa_cons (pv 7) pa_nil)) pa_nil))))))) fun D σ H h => ?_
  obtain ⟨a, b, n, L, M, hl, h3, h4, h5, hn, ⟨ys, ha, da⟩, ⟨zs, hb, db⟩, l20, m20, q⟩ := h
  obtain ⟨x0, x1, x2, x3, x4, x5, x6, x7, x8, x9, x10, x11, x12, x13, x14, x15, x16, rfl⟩ := len17 hl
  cases h3
  cases h4
  cases h5
  have ly : ys.length = L.length := by rw [da.len, List.length_map]
  have lz : zs.length = M.length := by rw [db.len, List.length_map]
  refine ⟨_, rfl, _, rfl, a, b, ys, zs, rfl, rfl, ha, hb, Nat.le_of_lt (small1000 (by omega)), fun l hl2 => ⟨l, rfl, ⟨_, SqL.of upd_same⟩, ?_⟩⟩
  have s1 := same_new (o := .lst (ys ++ zs)) hl2
  have el : (upd H l (.lst (ys ++ zs))) l = some (.lst (ys ++ zs)) := upd_same
  have hd1 : DpAll K (upd H l (.lst (ys ++ zs))) (ys ++ zs) ((L ++ M).map dP) := by
    rw [List.map_append]
    exact ((da.same tups_sub).same s1).app ((db.same tups_sub).same s1)
  have hn1 := s1 _ _ hn
  generalize upd H l (.lst (ys ++ zs)) = H1 at s1 el hd1 hn1 ⊢
  refine for_list (K := K) (a := l) (xs := ys ++ zs) (fun i σ' H' => ∃ n' v6 v7, σ' = [x0, x1, x2, some (.ref a), some (.ref b), some (.ref n'), v6, v7, x8, x9, x10, x11, x12, x13, x14, x15, x16] ∧ Same H1 H' ∧ H' n' = some (.lst ((0 :: numsOf ((L ++ M).take i)).map V.int)))
    ⟨n, x6, x7, rfl, Same.refl _, hn1⟩ (fun i σ' H' _ ⟨_, _, _, _, s2, _⟩ => SqL.of (s2 _ _ el)) ?_ ?_
  · rintro i x σ' H' hi ⟨n', v6, v7, rfl, s2, hn'⟩
    obtain ⟨d, e1, e2⟩ := (hd1.same s2).get hi
    rw [List.getElem?_map] at e1
    cases e3 : (L ++ M)[i]? with
    | none =>
      rw [e3] at e1
      cases e1
    | some p =>
      rw [e3] at e1
      cases e1
      obtain ⟨c, rfl, hc⟩ := e2.pair_inv
      rw [nums_take e3]
      have hlen : (numsOf ((L ++ M).take i)).length ≤ 80 := by
        rw [nums_len]
        have : (List.take i (L ++ M)).length ≤ (L ++ M).length := by rw [List.length_take]; exact Nat.min_le_right _ _
        rw [List.length_append] at this
        omega
      refine ⟨c, _, rfl, hc, rfl, _, _, rfl, _, _, rfl, rfl, ?_⟩
      refine ⟨_, rfl, _, rfl, _, rfl, _, rfl, _, rfl, by show (2 : Nat) ≤ sizeLine; decide, fun t ht => ⟨n', t, _, _, rfl, rfl, same_new ht _ _ hn', upd_same, Nat.le_of_lt (small1000 ?_), fun m hm => ?_⟩⟩
      · rw [List.length_map, List.length_cons]
        show _ + 2 ≤ _
        omega
      · refine ⟨m, some (.int p.1), some (.int p.2), rfl, (s2.trans (same_new ht)).trans (same_new hm), ?_⟩
        rw [upd_same, List.map_cons, List.map_cons, List.map_append]
        rfl
  · rintro σ' H' ⟨n', v6, v7, rfl, s2, hn'⟩
    have e : (L ++ M).take (ys ++ zs).length = L ++ M := by
      rw [List.length_append, ly, lz, ← List.length_append, List.take_length]
    rw [e] at hn'
    exact q n' v6 v7 H' (s1.trans s2) hn'
theorem nums_mem {R : RC.Tab} {m : Int} : (∀ y ∈ 0 :: numsOf R, y ≤ m) → ∀ q ∈ R, (q.1.natAbs : Int) ≤ m ∧ (q.2.natAbs : Int) ≤ m := fun h q hq => by
  have ab : ∀ i : Int, (i.natAbs : Int) = absI i := fun i => by
    unfold absI
    split <;> omega
  have h1 := h (absI q.1) (List.mem_cons_of_mem _ (List.mem_flatMap.mpr ⟨q, hq, by simp⟩))
  have h2 := h (absI q.2) (List.mem_cons_of_mem _ (List.mem_flatMap.mpr ⟨q, hq, by simp⟩))
  rw [ab, ab]
  exact ⟨h1, h2⟩
theorem nums_bd {R : RC.Tab} {m : Int} (hb : ∀ p ∈ R, (p.1.natAbs : Int) < 100000000000000000000 ∧ (p.2.natAbs : Int) < 100000000000000000000) (h : m ∈ 0 :: numsOf R) : 0 ≤ m ∧ m < 100000000000000000000 := by
  rcases List.mem_cons.mp h with rfl | h
  · decide
  · obtain ⟨q, hq, h⟩ := List.mem_flatMap.mp h
    have := hb q hq
    have e1 : absI q.1 = (q.1.natAbs : Int) := by unfold absI; split <;> omega
    have e2 : absI q.2 = (q.2.natAbs : Int) := by unfold absI; split <;> omega
    rcases List.mem_cons.mp h with rfl | h
    · omega
    · obtain rfl := List.mem_singleton.mp h
      omega
theorem st4 (T : TX K mg) (hr : Room 13 (XL P w K mg base f cc A outer s H0 E).A) : PS (XL P w K mg base f cc A outer s H0 E) (lb 4) (fun D σ H => ∃ p n R, σ[2]? = some (some (.ref p)) ∧ σ[5]? = some (some (.ref n)) ∧ Pen H p ∧ H n = some (.lst ((0 :: numsOf R).map V.int)) ∧
    (∀ p ∈ R, (p.1.natAbs : Int) < 100000000000000000000 ∧ (p.2.natAbs : Int) < 100000000000000000000) ∧ ∀ m d H', (∀ q ∈ R, (q.1.natAbs : Int) ≤ m ∧ (q.2.natAbs : Int) ≤ m) → 0 ≤ m → m < 100000000000000000000 → 0 ≤ d → d < 9 → Bes p H H' → D.nx (σ.set 8 (some (.int (2 * m + 1 + d)))) H') := by
  have G := ok_draw (P := P) (w := w) (base := base) T
  refine PSimp (ps_set (i := 8) sc_law.nd rfl (.inr rfl) (pe_op op_add (pe_op op_add (pe_op op_mulW pe_int (pb (cr_max rfl) T.n_max bb_max (pa_cons (pv 5) pa_nil))) pe_int) (pc T.d_law_draw G (hr.mono (by decide)) (pa_cons (pv 2) (pa_cons pe_int pa_nil))))) fun D σ H h => ?_
  obtain ⟨p, n, R, h2, h5, hp, hn, hb, q⟩ := h
  refine ⟨_, h5, n, 0 :: numsOf R, rfl, SqL.of hn, by simp, fun m hm hx => ?_⟩
  have bm := nums_bd hb hm
  refine ⟨_, _, rfl, rfl, wide_mul (a := 200) (b := 200) (by decide) ?_ (by decide) (by decide) (by decide), _, _, rfl, rfl, ?_⟩
  · have : m.natAbs < 100000000000000000000 := by omega
    exact Nat.lt_of_lt_of_le this (by decide)
  refine ⟨_, h2, p, 9, rfl, hp, by decide, by decide, fun d a b c hd0 hd9 => ⟨_, _, rfl, rfl, q m d _ (nums_mem hx) bm.1 bm.2 hd0 hd9 Bes.upd⟩⟩
end
end RP

/-! KW29 -/
/-! The law's loop body: the three tables. -/
namespace RP
open PySem PySem.Spec PyProof.Rows L2 SaidX
section
variable {P : Program} {w : World} {K : PySem.W.Frag} {mg : Str → Option Value} {base : Heap} {f cc : Addr} {A : Around} {outer : List Env} {s : Shared} {H0 : Hp} {E : XK} {k : Nat}
theorem near_rows {L : RC.Tab} (h : RC.Near L) : RowsOk ([] ++ L) := by
  rw [List.nil_append]
  exact ⟨h.nd, by have := h.len; omega, fun p hp => by
    have := h.bd p hp
    unfold Key30
    omega⟩
theorem st5 (T : TX K mg) (hr : Room 13 (XL P w K mg base f cc A outer s H0 E).A) : PS (XL P w K mg base f cc A outer s H0 E) (lb 5) (fun D σ H => ∃ a L, σ[3]? = some (some (.ref a)) ∧ RowsL K H a L ∧ RC.Near L ∧ ∀ o R H', Same H H' → TabAt T.cTable.C H' o R → R.Perm L → D.nx (σ.set 9 (some (.ref o))) H') := by
  have G1 := ok_tinit (P := P) (w := w) (base := base) T
  have G2 := ok_add (P := P) (w := w) (base := base) T
  refine PSimp (ps_set (i := 9) sc_law.nd rfl (.inl rfl) (pe_op (RX.op_add_tup T.mTable_add.m T.tAdd G2 (hr.mono (by decide)) T.mTable_add.b pass0) (RX.pe_makeR0 T.tInit_m G1 (hr.mono (by decide)) T.cTable.g pass0) (pbt call_tuple_of T.n_tuple bb_tuple (pa_cons (pv 3) pa_nil)))) fun D σ H h => ?_
  obtain ⟨a, L, h3, ⟨ys, ha, da⟩, hn, q⟩ := h
  unfold tAsg tOp
  refine new_tab T fun x H1 s1 ht => ⟨_, h3, a, ys, rfl, .inl ⟨SqL.of (s1 _ _ ha), fun l hl => ?_⟩⟩
  have s2 := same_new (o := .tup ys) hl
  have ht2 := ht.same s2
  obtain ⟨dx, fs, e⟩ := ht2.ins
  refine ⟨x, l, dx, fs, ys, rfl, rfl, e, upd_same, x, l, [], L, rfl, ht2, .inr ⟨ys, upd_same, (da.same tups_sub).same (s1.trans s2)⟩, near_rows hn, fun p S H' s3 hS hp => ⟨⟨p, rfl⟩, q p S H' ((s1.trans s2).trans s3) hS hp⟩⟩
theorem moved_rows {L : RC.Tab} {far : Int} (h : RC.Near L) (h0 : 0 ≤ far) (h1 : far < 300000000000000000000) : RowsOk ([] ++ RC.moved far L) := by
  rw [List.nil_append]
  refine ⟨RC.moved_nodup h.nd, by unfold RC.moved; rw [List.length_map]; have := h.len; omega, fun p hp => ?_⟩
  obtain ⟨q, hq, rfl⟩ := List.mem_map.mp hp
  have := h.bd q hq
  unfold Key30
  simp only
  omega
theorem st6 (T : TX K mg) (hr : Room 13 (XL P w K mg base f cc A outer s H0 E).A) : PS (XL P w K mg base f cc A outer s H0 E) (lb 6) (fun D σ H => ∃ b M far, σ[4]? = some (some (.ref b)) ∧ σ[8]? = some (some (.int far)) ∧ σ.length = 17 ∧ RowsL K H b M ∧ RC.Near M ∧ 0 ≤ far ∧ far < 300000000000000000000 ∧
    ∀ o S H', Same H H' → TabAt T.cTable.C H' o S → S.Perm (RC.moved far M) → D.nx (σ.set 10 (some (.ref o))) H') := by
  have G1 := ok_tinit (P := P) (w := w) (base := base) T
  have G2 := ok_add (P := P) (w := w) (base := base) T
  refine PSimp (ps_set (i := 10) sc_law.nd rfl (.inl rfl) (pe_op (RX.op_add_tup T.mTable_add.m T.tAdd G2 (hr.mono (by decide)) T.mTable_add.b pass0) (RX.pe_makeR0 T.tInit_m G1 (hr.mono (by decide)) T.cTable.g pass0) (pbt call_tuple_of T.n_tuple bb_tuple (pa_cons
    (pe_lc (own := [("_law_key", 6), ("_law_new", 7)]) (g := g2 K 6 7) (te := tTup (tCons (tOp (rI0 fun i j => V.int (i + j)) (tVar 6) (tVar 8)) (tCons (tOp (rI0 fun i j => V.int (i + j)) (tVar 7) (tVar 8)) tNil))) (tt := tYes) rfl sc_law.nd (pi_list (pv 4))
        (blkOk_by (N := nLaw) (sc := defScope sLaw) (by decide +kernel))
        (fun _ _ _ _ _ => pg_tup rfl (pgs_cons (pg_name (i := 6) sc_law.nd rfl (.inl rfl)) (pgs_cons (pg_name (i := 7) sc_law.nd rfl (.inl rfl)) pgs_nil))) (fun _ _ _ _ _ => pts_nil)
        (fun _ _ _ _ _ => pe_tup (pa_cons (pe_op op_add (pv 6) (pv 8)) (pa_cons (pe_op op_add (pv 7) (pv 8)) pa_nil)))) pa_nil)))) fun D σ H h => ?_
  obtain ⟨b, M, far, h4, h8, hl, ⟨ys, hb, db⟩, hn, f0, f1, q⟩ := h
  obtain ⟨x0, x1, x2, x3, x4, x5, x6, x7, x8, x9, x10, x11, x12, x13, x14, x15, x16, rfl⟩ := len17 hl
  cases h4
  cases h8
  unfold tAsg tOp
  refine new_tab T fun x H1 s1 ht => ⟨_, rfl, b, rfl, ⟨_, SqL.of (s1 _ _ hb)⟩, fun D hD => ?_⟩
  have hb1 := s1 _ _ hb
  have db1 := (db.same tups_sub).same s1
  refine lc_rows (K := K) (walk_list (K := K) (a := b) (xs := ys)) (fun p => some (dP (p.1 + far, p.2 + far))) hD (fun H' s => SqL.of (s _ _ hb1)) db1 (by have := hn.len; omega) (fun _ _ => rfl) (fun p H2 QY QN hp s2 hacc qy qn => yesI ?_) (fun H2 acc s2 hacc h => ?_)
  · refine ⟨_, rfl, _, rfl, _, _, rfl, rfl, _, rfl, _, rfl, _, _, rfl, rfl, by show (2 : Nat) ≤ sizeLine; decide, fun t htt => ?_⟩
    obtain ⟨acc, hacc⟩ := hacc
    exact qy _ rfl _ _ (same_new htt) (dp_del ((same_new htt) _ _ hacc) rfl (.tup (.inl (.inl upd_same)) (.cons (.int _) (.cons (.int _) .nil))))
  · have e1 : M.filterMap (fun p => some (dP (p.1 + far, p.2 + far))) = (RC.moved far M).map dP := by
      unfold RC.moved
      rw [List.filterMap_eq_map', List.map_map]
      rfl
    rw [e1] at h
    refine ⟨D, acc, rfl, .inl ⟨SqL.of hacc, fun l hl => ?_⟩⟩
    have s3 := same_new (o := .tup acc) hl
    have ht2 := (ht.same s2).same s3
    obtain ⟨dx, fs, e⟩ := ht2.ins
    exact ⟨x, l, dx, fs, acc, rfl, rfl, e, upd_same, x, l, [], RC.moved far M, rfl, ht2, .inr ⟨acc, upd_same, (h.same del_sub).same s3⟩, moved_rows hn f0 f1, fun p S H' s4 hS hp => ⟨⟨p, rfl⟩, q p S H' (((s1.trans s2).trans s3).trans s4) hS hp⟩⟩
theorem dP_inj {p q : Int × Int} (h : dP p = dP q) : p = q := by
  obtain ⟨a, b⟩ := p
  obtain ⟨c, d⟩ := q
  cases h
  rfl
theorem asc_eq {R S : RC.Tab} (p : R.Perm S) (hR : RC.Asc R) (hS : RC.Asc S) : R = S := by
  have e : R.map dP = S.map dP := (sds_pairs p hR).symm.trans (sds_pairs (List.Perm.refl S) hS)
  exact (List.map_inj_right (fun x y => dP_inj)).mp e
theorem st7 (T : TX K mg) (hr : Room 13 (XL P w K mg base f cc A outer s H0 E).A) : PS (XL P w K mg base f cc A outer s H0 E) (lb 7) (fun D σ H => ∃ a b R S, σ[9]? = some (some (.ref a)) ∧ σ[10]? = some (some (.ref b)) ∧ TabAt T.cTable.C H a R ∧ TabAt T.cTable.C H b S ∧ R.length ≤ 20 ∧ S.length ≤ 20 ∧ RC.Sep R S ∧
    ∀ c H', Same H H' → TabAt T.cTable.C H' c (R ++ S) → D.nx (σ.set 11 (some (.ref c))) H') := by
  have G2 := ok_add (P := P) (w := w) (base := base) T
  refine PSimp (ps_set (i := 11) sc_law.nd rfl (.inl rfl) (pe_op (RX.op_add_own T.mTable_add.m T.tAdd.fst G2 (hr.mono (by decide)) T.mTable_add.b pass0) (pv 9) (pv 10))) fun D σ H h => ?_
  obtain ⟨a, b, R, S, h9, h10, ta, tb, hR, hS, sep, q⟩ := h
  obtain ⟨dx, fs, e1⟩ := ta.ins
  obtain ⟨dy, gs, e2⟩ := tb.ins
  have asc := RC.Asc.append ta.asc tb.asc sep
  refine ⟨_, h9, _, h10, a, b, dx, fs, dy, gs, rfl, rfl, e1, e2, a, b, R, S, rfl, ta, .inl tb, ⟨asc.nodup, by rw [List.length_append]; omega, fun p hp => ?_⟩, fun p S' H' s1 hS' hp => ⟨⟨p, rfl⟩, q p H' s1 (asc_eq hp hS'.asc asc ▸ hS')⟩⟩
  rcases List.mem_append.mp hp with hp | hp
  · exact ta.bd p hp
  · exact tb.bd p hp
end
end RP

/-! KW30 -/
/-! The law's loop body: rings, groups, trees of both; the ends; the passing orders. -/
namespace RP
open PySem PySem.Spec PyProof.Rows L2 SaidX
section
variable {P : Program} {w : World} {K : PySem.W.Frag} {mg : Str → Option Value} {base : Heap} {f cc : Addr} {A : Around} {outer : List Env} {s : Shared} {H0 : Hp} {E : XK} {k : Nat}
theorem rd_catN {C a b c : Addr} {R S : RC.Tab} {g : RC.Tab → List PyData} {n : Nat} {σ : L2.St} {H : Hp} {Q : Bool → Hp → Prop} (h9 : σ[9]? = some (some (.ref a))) (h10 : σ[10]? = some (some (.ref b))) (h11 : σ[11]? = some (some (.ref c)))
    (ta : TabAt C H a R) (tb : TabAt C H b S) (tc : TabAt C H c (R ++ S)) (hg : g (R ++ S) = g R ++ g S) (shA : ∀ d ∈ g R, Shp n d) (shB : ∀ d ∈ g S, Shp n d) (hn : n + 1 ≤ 64) (hl : (g R).length + (g S).length ≤ 1000) (q : ∀ H', Same H H' → Q false H') :
    tTest (tOp (rNeD K) (tCall (spTup K C g) [] E0 (tCons (tVar 11) tNil)) (tOp (rCatA K) (tCall (spTup K C g) [] E0 (tCons (tVar 9) tNil)) (tCall (spTup K C g) [] E0 (tCons (tVar 10) tNil)))) σ H Q := by
  refine ⟨_, h11, c, R ++ S, rfl, tc, fun p1 H1 s1 d1 => ⟨_, h9, a, R, rfl, ta.same s1, fun p2 H2 s2 d2 => ⟨_, h10, b, S, rfl, (tb.same s1).same s2, fun p3 H3 s3 d3 => ?_⟩⟩⟩
  have d2 := d2.same s3
  obtain ⟨a2, xs2, e2, hs2, ha2⟩ := d2.tup_inv
  cases e2
  obtain ⟨a3, xs3, e3, hs3, ha3⟩ := d3.tup_inv
  cases e3
  refine cat_any hs2 hs3 (by rw [ha2.len, ha3.len]; exact Nat.le_of_lt (small1000 (by omega))) fun p H4 s4 hp => ?_
  have d1 := (d1.same (s2.trans s3)).same s4
  have d4 : Dp K H4 (.ref p) (.tuple (g R ++ g S)) := .tup hp ((ha2.same s4).app (ha3.same s4))
  have shp : Shp (n + 1) (.tuple (g R ++ g S)) := Shp.tup fun d hd => (List.mem_append.mp hd).elim (shA d) (shB d)
  rw [hg] at d1
  refine ⟨_, _, d1, d4, shp.ok hn, shp.ok hn, false, ?_, q H4 (((s1.trans s2).trans s3).trans s4)⟩
  rw [eqv_self shp]
  rfl
theorem dGs_append {R S : RC.Tab} (h : RC.Sep R S) : dGs (R ++ S) = dGs R ++ dGs S := by
  unfold dGs
  rw [RC.groups_append h, List.map_append]
  refine sds_append fun x hx y hy => ?_
  obtain ⟨g1, h1, rfl⟩ := List.mem_map.mp hx
  obtain ⟨g2, h2, rfl⟩ := List.mem_map.mp hy
  obtain ⟨n1, _, k1⟩ := RC.groups_sub h1
  obtain ⟨n2, _, k2⟩ := RC.groups_sub h2
  cases g1 with
  | nil => exact absurd rfl n1
  | cons x g1 =>
    cases g2 with
    | nil => exact absurd rfl n2
    | cons y g2 => exact leD_first (h.kk (k1 x List.mem_cons_self) (k2 y List.mem_cons_self)) _ _
theorem dTr_append {R S : RC.Tab} (h : RC.Sep R S) (h1 : R.length ≤ 40) (h2 : S.length ≤ 40) : dTr (R ++ S) = dTr R ++ dTr S := by
  unfold dTr
  rw [RC.trees_append h h1 h2, List.map_append]
  refine sds_append fun x hx y hy => ?_
  obtain ⟨g1, e1, rfl⟩ := List.mem_map.mp hx
  obtain ⟨g2, e2, rfl⟩ := List.mem_map.mp hy
  obtain ⟨x1, m1⟩ := RC.trees_new h1 e1
  obtain ⟨x2, m2⟩ := RC.trees_new h2 e2
  obtain ⟨c, c1, c2⟩ := h
  have := (c1 _ m1).2
  have := (c2 _ m2).2
  exact leD_first (by omega) _ _
theorem dGs_len (R : RC.Tab) : (dGs R).length ≤ R.length := by
  show (sds ((RC.groupsRaw R).map dT)).length ≤ _
  rw [sds_len, List.length_map]
  unfold RC.groupsRaw
  rw [List.length_map]
  refine Nat.le_trans (List.length_filter_le _ _) ?_
  unfold RC.byNew
  have := bumps_len (R.map fun p => (p.2, p.1)) []
  rw [List.length_map] at this
  simpa using this
theorem dTr_len (R : RC.Tab) : (dTr R).length ≤ R.length := by
  show (sds ((RC.treesRaw R).map dG)).length ≤ _
  rw [sds_len, List.length_map]
  have h4 : (RC.treeRows R).length ≤ R.length := by
    unfold RC.treeRows
    have h1 := List.length_filter_le (RC.freeEnd R) (RC.keys R)
    rw [RC.keys_len] at h1
    rw [List.length_map]
    exact h1
  have := bumps_len (RC.treeRows R) []
  simp only [List.length_nil] at this
  unfold RC.treesRaw
  omega
theorem dR_len (R : RC.Tab) : ((RC.ringsOf R).map dT).length ≤ R.length := by
  rw [List.length_map]
  unfold RC.ringsOf
  rw [List.length_map]
  have h1 := List.length_filter_le (RC.ringAt R) (RC.keys R)
  rw [RC.keys_len] at h1
  exact h1
def T3 (C : Addr) (σ : L2.St) (H : Hp) (R S : RC.Tab) : Prop := ∃ a b c : Addr, σ[9]? = some (some (.ref a)) ∧ σ[10]? = some (some (.ref b)) ∧ σ[11]? = some (some (.ref c)) ∧ TabAt C H a R ∧ TabAt C H b S ∧ TabAt C H c (R ++ S) ∧ R.length ≤ 20 ∧ S.length ≤ 20 ∧ RC.Sep R S
theorem T3.same {C : Addr} {σ : L2.St} {H H' : Hp} {R S : RC.Tab} (h : T3 C σ H R S) (s : Same H H') : T3 C σ H' R S := by
  obtain ⟨a, b, c, h1, h2, h3, ta, tb, tc, r⟩ := h
  exact ⟨a, b, c, h1, h2, h3, ta.same s, tb.same s, tc.same s, r⟩
theorem shp_tr (R : RC.Tab) : ∀ d ∈ dTr R, Shp 2 d := Shp.sds fun d hd => by
  obtain ⟨e, _, rfl⟩ := List.mem_map.mp hd
  refine Shp.tup fun d hd => ?_
  rcases List.mem_cons.mp hd with rfl | hd
  · exact Shp.int _
  · obtain rfl := List.mem_singleton.mp hd
    exact Shp.T _
theorem st8 (T : TX K mg) (hr : Room 13 (XL P w K mg base f cc A outer s H0 E).A) : PS (XL P w K mg base f cc A outer s H0 E) (lb 8) (fun D σ H => ∃ R S, T3 T.cTable.C σ H R S ∧ ∀ H', Same H H' → D.nx σ H') := by
  have G1 := ok_rings (P := P) (w := w) (base := base) T
  have G2 := ok_groups (P := P) (w := w) (base := base) T
  refine PSimp (ps_if (pw_or (pt_cmpR (op_neD (by exact hr.units)) (pc T.d_rings G1 (hr.mono (by decide)) (pa_cons (pv 11) pa_nil)) (pe_op op_catA (pc T.d_rings G1 (hr.mono (by decide)) (pa_cons (pv 9) pa_nil)) (pc T.d_rings G1 (hr.mono (by decide)) (pa_cons (pv 10) pa_nil))) (nomark _))
    (pw_or1 (pt_cmpR (op_neD (by exact hr.units)) (pc T.d_groups G2 (hr.mono (by decide)) (pa_cons (pv 11) pa_nil)) (pe_op op_catA (pc T.d_groups G2 (hr.mono (by decide)) (pa_cons (pv 9) pa_nil)) (pc T.d_groups G2 (hr.mono (by decide)) (pa_cons (pv 10) pa_nil))) (nomark _)))).pt
    (pss_one (ps_ret pe_bl)) pss_nil) fun D σ H h => ?_
  obtain ⟨R, S, ⟨a, b, c, h9, h10, h11, ta, tb, tc, hR, hS, sep⟩, q⟩ := h
  have l1 := dR_len R
  have l2 := dR_len S
  have l3 := dGs_len R
  have l4 := dGs_len S
  refine rd_catN (n := 1) h9 h10 h11 ta tb tc (by rw [RC.rings_append sep ta.len tb.len, List.map_append]) (Shp.Ts _) (Shp.Ts _) (by decide) (by omega) fun H1 s1 => ?_
  refine iteF (rd_catN (n := 1) h9 h10 h11 (ta.same s1) (tb.same s1) (tc.same s1) (dGs_append sep) (shp_gs _) (shp_gs _) (by decide) (by omega) fun H2 s2 => ?_)
  exact iteF (q H2 (s1.trans s2))
theorem st9 (T : TX K mg) (hr : Room 13 (XL P w K mg base f cc A outer s H0 E).A) : PS (XL P w K mg base f cc A outer s H0 E) (lb 9) (fun D σ H => ∃ p R S, σ[2]? = some (some (.ref p)) ∧ Pen H p ∧ T3 T.cTable.C σ H R S ∧ ∀ H', Bes p H H' → D.nx σ H') := by
  have G1 := ok_trees (P := P) (w := w) (base := base) T
  have G2 := ok_endsR (P := P) (w := w) (base := base) T
  refine PSimp (ps_if (pw_or (pt_cmpR (op_neD (by exact hr.units)) (pc T.d_trees G1 (hr.mono (by decide)) (pa_cons (pv 11) pa_nil)) (pe_op op_catA (pc T.d_trees G1 (hr.mono (by decide)) (pa_cons (pv 9) pa_nil)) (pc T.d_trees G1 (hr.mono (by decide)) (pa_cons (pv 10) pa_nil))) (nomark _))
    (pw_or1 (pt_not (pt_val (pc T.d_law_ends_right G2 (hr.mono (by decide)) (pa_cons (pv 2) (pa_cons (pv 9) (pa_cons (pv 10) (pa_cons (pv 11) pa_nil))))))))).pt
    (pss_one (ps_ret pe_bl)) pss_nil) fun D σ H h => ?_
  obtain ⟨p, R, S, h2, hp, ⟨a, b, c, h9, h10, h11, ta, tb, tc, hR, hS, sep⟩, q⟩ := h
  have l1 := dTr_len R
  have l2 := dTr_len S
  refine rd_catN (n := 2) h9 h10 h11 ta tb tc (dTr_append sep ta.len tb.len) (shp_tr _) (shp_tr _) (by decide) (by omega) fun H1 s1 => ?_
  refine iteF ⟨_, h2, _, h9, _, h10, _, h11, p, a, b, c, R, S, rfl, hp.same s1, ta.same s1, tb.same s1, tc.same s1, sep, fun H2 b2 => ⟨true, rfl, iteF (q H2 (((Bes.refl hp).same s1).trans b2))⟩⟩
theorem st10 (T : TX K mg) (hr : Room 13 (XL P w K mg base f cc A outer s H0 E).A) : PS (XL P w K mg base f cc A outer s H0 E) (lb 10) (fun D σ H => ∃ R S, T3 T.cTable.C σ H R S ∧ D.nx (σ.set 12 (some (.int (RC.ch S.length R.length)))) H) := by
  have G1 := ok_ways (P := P) (w := w) (base := base) T
  have G2 := ok_len (P := P) (w := w) (base := base) T
  refine PSimp (ps_set (i := 12) sc_law.nd rfl (.inl rfl) (pc T.d_law_ways G1 (hr.mono (by decide)) (pa_cons (pb (RX.call_olen T.mTable_len.m G2 (hr.mono (by decide)) T.mTable_len.b pass0) T.n_len bb_len (pa_cons (pv 11) pa_nil)) (pa_cons (pb (RX.call_olen T.mTable_len.m G2 (hr.mono (by decide)) T.mTable_len.b pass0) T.n_len bb_len (pa_cons (pv 9) pa_nil)) pa_nil)))) fun D σ H h => ?_
  obtain ⟨R, S, ⟨a, b, c, h9, h10, h11, ta, tb, tc, hR, hS, sep⟩, q⟩ := h
  obtain ⟨dx, fs, e1⟩ := tc.ins
  obtain ⟨dy, gs, e2⟩ := ta.ins
  have hl : (R ++ S).length = S.length + R.length := by rw [List.length_append, Nat.add_comm]
  refine ⟨_, h11, c, dx, fs, rfl, e1, c, R ++ S, rfl, tc, _, rfl, ⟨by omega, by omega⟩, _, h9, a, dy, gs, rfl, e2, a, R, rfl, ta, _, rfl, ⟨by omega, by omega⟩, S.length, R.length, by rw [hl]; rfl, by omega, q⟩
theorem divs_le : ∀ (l : List (List Int)) (n : Nat), RC.divs n l ≤ n
  | [], n => Nat.le_refl _
  | c :: l, n => Nat.le_trans (divs_le l _) (Nat.div_le_self _ _)
theorem orders_lt (R : RC.Tab) (h : R.length ≤ 40) : RC.ordersOf R < 2 ^ 200 := by
  unfold RC.ordersOf
  split
  · exact Nat.lt_of_le_of_lt (divs_le _ _) (fact_lt _ h)
  · decide
theorem st11 (T : TX K mg) (hr : Room 13 (XL P w K mg base f cc A outer s H0 E).A) : PS (XL P w K mg base f cc A outer s H0 E) (lb 11) (fun D σ H => ∃ R S, T3 T.cTable.C σ H R S ∧ σ[12]? = some (some (.int (RC.ch S.length R.length))) ∧ ∀ H', Same H H' → D.nx σ H') := by
  have G1 := ok_passing (P := P) (w := w) (base := base) T
  refine PSimp (ps_if (pt_cmpR op_ne (pc T.d_passing_orders G1 (hr.mono (by decide)) (pa_cons (pv 11) pa_nil)) (pe_op op_mulW (pe_op op_mulW (pc T.d_passing_orders G1 (hr.mono (by decide)) (pa_cons (pv 9) pa_nil)) (pc T.d_passing_orders G1 (hr.mono (by decide)) (pa_cons (pv 10) pa_nil))) (pv 12)) (nomark _))
    (pss_one (ps_ret pe_bl)) pss_nil) fun D σ H h => ?_
  obtain ⟨R, S, ⟨a, b, c, h9, h10, h11, ta, tb, tc, hR, hS, sep⟩, h12, q⟩ := h
  refine ⟨_, h11, c, R ++ S, rfl, tc, fun H1 s1 => ⟨_, h9, a, R, rfl, ta.same s1, fun H2 s2 => ⟨_, h10, b, S, rfl, (tb.same s1).same s2, fun H3 s3 => ?_⟩⟩⟩
  have o1 := orders_lt R ta.len
  have o2 := orders_lt S tb.len
  have o3 := ch_le S.length R.length (by omega)
  refine ⟨_, _, rfl, rfl, wide_mul (a := 200) (b := 200) (by rw [Int.natAbs_natCast]; exact o1) (by rw [Int.natAbs_natCast]; exact o2) (by decide) (by decide) (by decide), _, h12, _, _, rfl, rfl, wide_mul (a := 400) (b := 200) ?_ (by rw [Int.natAbs_natCast]; exact o3) (by decide) (by decide) (by decide), rfl, ?_⟩
  · rw [Int.natAbs_mul, Int.natAbs_natCast, Int.natAbs_natCast]
    exact Nat.lt_of_lt_of_le (Nat.mul_lt_mul'' o1 o2) (Nat.le_of_eq (Nat.pow_add 2 200 200).symm)
  · have e : ((RC.ordersOf (R ++ S) : Nat) : Int) = (RC.ordersOf R : Int) * (RC.ordersOf S : Int) * (RC.ch S.length R.length : Int) := by
      rw [RC.orders_append sep ta.nodup tb.nodup ta.len tb.len, Int.natCast_mul, Int.natCast_mul]
    rw [e, decide_eq_true rfl]
    exact ⟨false, rfl, iteF (q H3 ((s1.trans s2).trans s3))⟩
end
end RP

/-! KW31 -/
/-! The law's loop body: what is said of the stages of each table. -/
namespace RP
open PySem PySem.Spec PyProof.Rows L2 SaidX
def Fr (l : Addr) (H H' : Hp) : Prop := ∀ b o, b ≠ l → H b = some o → (∀ ps, o ≠ .tbl ps) → H' b = some o
theorem Fr.of_same {l : Addr} {H H' : Hp} (s : Same H H') : Fr l H H' := fun b o _ h _ => s b o h
theorem Fr.same {l : Addr} {H H1 H2 : Hp} (a : Fr l H H1) (s : Same H1 H2) : Fr l H H2 := fun b o n h t => s b o (a b o n h t)
theorem Fr.ext {l : Addr} {H H1 H2 : Hp} (a : Fr l H H1) (s : LamX.ExtN H1 H2) : Fr l H H2 := fun b o n h t => s b o (a b o n h t) t
theorem Fr.upd {l : Addr} {H H1 : Hp} {o : HO} (a : Fr l H H1) : Fr l H (L2.upd H1 l o) := fun b u n h t => by
  rw [upd_ne n]
  exact a b u n h t
theorem Fr.tab {C l a : Addr} {H H' : Hp} {R : RC.Tab} {xs : List V} (f : Fr l H H') (hl : H l = some (.lst xs)) (h : TabAt C H a R) : TabAt C H' a R := by
  obtain ⟨d, dx, L, h1, h2, h3⟩ := h.ex
  exact ⟨⟨d, dx, L, f _ _ (ne_of h1 hl (by intro q; cases q)) h1 (by intro ps q; cases q), f _ _ (ne_of h2 hl (by intro q; cases q)) h2 (by intro ps q; cases q), h3⟩, h.asc, h.len, h.bd⟩
theorem tups_ext {H H' : Hp} (e : LamX.ExtN H H') : Same (tups H) (tups H') := tups_mono fun a o t h => e a o h (by intro ps q; rw [q] at t; cases t)
def SaidAt (K : PySem.W.Frag) (H : Hp) (R : RC.Tab) (v : V) : Prop := ∃ (t : Addr) (w : Str) (x : V), v = .ref t ∧ H t = some (.tup [.str w, x]) ∧ (RC.Free R → w = "returned" ∧ Dp K H x (dTs (RC.stagesOf R))) ∧ (¬ RC.Free R → w ≠ "returned")
theorem SaidAt.same {K : PySem.W.Frag} {H H' : Hp} {R : RC.Tab} {v : V} (h : SaidAt K H R v) (s : Same H H') : SaidAt K H' R v := by
  obtain ⟨t, w, x, rfl, e, h1, h2⟩ := h
  exact ⟨t, w, x, rfl, s _ _ e, fun z => ⟨(h1 z).1, (h1 z).2.same s⟩, h2⟩
abbrev qLam : Str := (envOfC "law" (defScope sLaw) 0 0 .none).qual ++ "<lambda>"
abbrev sLam : Scope := { kind := .function, names := [("stages", .globalImplicit), ("_law_some", .free)], isGenerator := false, isCoroutine := false }
section
variable {P : Program} {w : World} {K : PySem.W.Frag} {mg : Str → Option Value} {base : Heap} {f cc PT CR : Addr} {A : Around} {outer : List Env} {s : Shared} {H0 : Hp} {E : XK} {k : Nat}
theorem st12 : PS (XL P w K mg base f cc A outer s H0 E) (lb 12) (fun D σ H => ∀ n, H n = none → D.nx (σ.set 13 (some (.ref n))) (upd H n (.lst []))) := by
  refine PSimp (ps_set (i := 13) sc_law.nd rfl (.inl rfl) (pe_lst pa_nil)) fun D σ H q => ?_
  exact ⟨Nat.zero_le _, q⟩
def tStg (K : PySem.W.Frag) (CT CC CR : Addr) : XK → TE := fun E => tCall (spStages K CT CC CR) [] E (tCons (tVar 16) tNil)
theorem pe_said (T : TX K mg) (X : EX P K mg) (W : WN mg) (hve : mg "ValueError" = none) (hrow : mg "RowError" = some (.ref CR)) (hr : Room 13 (XL P w K mg base f cc A outer s H0 E).A) (TB : LamX.TabB base mg cc PT) {p p1 p2 p3 p4 p5 : Pos} {scope : Scope} {params : Arguments}
    (L : LamX.LamS (defScope sLaw) scope) (hdef : defaultsOf params (XL P w K mg base f cc A outer s H0 E).env = ([], [])) (hbind : ∀ (q : Str) (cl : List (Str × Addr)) (pm cv ctv : Value) (body : Expr), bindArgs (PySem.W.kla_fn "<lambda>" q params body scope cl pm cv ctv) ⟨[], []⟩ = pure [])
    (hg : scope.names.lookup ("stages" : Str) = some .globalImplicit) (hv : scope.names.lookup ("_law_some" : Str) = some .free) :
    PE (XL P w K mg base f cc A outer s H0 E) (.Call (.Name "_law_said" p) [.Lambda params (.Call (.Name "stages" p1) [.Name "_law_some" p2] [] p3) scope p4] [] p5) (LamX.tLam [(PT, qLam)] (TTsaid K W.c CR) (tStg K T.cTable.C X.comp.C X.ring.C)) := by
  obtain ⟨oc, od, kV, doc, pm, an, cdv, ct, osl, e, lk, hcd⟩ := T.d_law_said.F.ex
  have b := T.d_law_said.b
  rw [e] at lk b
  refine LamX.pe_lamcall (k := 10) (X := XL P w K mg base f cc A outer s H0 E) rfl T.d_law_said.g T.d_law_said.F.kp lk hcd b sc_said rfl (.inl rfl) (said_gives T W hve hrow hr) TB rfl (List.mem_singleton.mpr rfl) (fun q hq _ => by rw [List.mem_singleton.mp hq]; rfl) (hr.mono (by decide)) L hdef (fun q cl pm cv ctv => hbind q cl pm cv ctv _) fun A' outer' s' H' E' f' c' hr' => ?_
  exact pe_call (E := E') (ok_stages T X) hr' hg T.d_stages.g T.d_stages.F.kp T.d_stages.b .nil (passes_call (takes_of rfl rfl rfl rfl) (fun _ _ _ _ h => h)) (pa_cons (pe_var (i := 16) rfl (.inr (.inr hv))) pa_nil)
theorem tabs_same {H H' : Hp} {T : List (Addr × Str)} (h : LamX.Tabs T H) (s : Same H H') : LamX.Tabs T H' := h.ext s
/-- a list changes: the tables stay -/
theorem tabs_upd {H : Hp} {T : List (Addr × Str)} {l : Addr} {xs ys : List V} (h : LamX.Tabs T H) (hl : H l = some (.lst xs)) : LamX.Tabs T (upd H l (.lst ys)) := fun p hp => by
  obtain ⟨ps, h1, h2, h3⟩ := h p hp
  refine ⟨ps, by rw [upd_ne (ne_of h1 hl (by intro q; cases q))]; exact h1, h2, fun pos cv hc => ?_⟩
  obtain ⟨c, e1, e2⟩ := h3 pos cv hc
  refine ⟨c, e1, ?_⟩
  rw [upd_ne (ne_of e2 hl (by intro q; unfold LamX.CodeO at q; cases q))]
  exact e2
theorem said_ok {R : RC.Tab} {cN : Nat → Addr} {CC CRg CT a : Addr} {σ : L2.St} {H : Hp} {Q : VK} (sc : SaidOk K cN CR CC 22) (sr : SaidOk K cN CR CRg 23) (h16 : σ[16]? = some (some (.ref a))) (ht : TabAt CT H a R)
    (q : ∀ v H', Same (tups H) (tups H') → Same H H' → SaidAt K (tups H') R v → Q v H') : TTsaid K cN CR (fun E H' Q' => tStg K CT CC CRg E σ H' Q') H Q := by
  refine ⟨_, h16, a, R, rfl, ht, fun hf p H1 s1 hd => ⟨by show (2 : Nat) ≤ sizeLine; decide, fun t htt => ?_⟩, fun hf => ⟨fun d v H1 s1 hx => ⟨CC, d, 22, v, rfl, rfl, sc, hx, fun H2 t s2 htt => ?_⟩, fun d v H1 s1 hx => ⟨CRg, d, 23, v, rfl, rfl, sr, hx, fun H2 t s2 htt => ?_⟩⟩⟩
  · have s2 := s1.trans (same_new (o := .tup [.str "returned", .ref p]) htt)
    refine q _ _ (tups_same s2) s2 ⟨t, "returned", .ref p, rfl, tups_at upd_same rfl, fun _ => ⟨rfl, ?_⟩, fun n => absurd hf n⟩
    have td : tupD (dTs (RC.stagesOf R)) = true := tupDs_map (fun p => tupD_T p) _
    exact (RP.Dp.tups td hd).same (tups_same (same_new htt))
  · have s3 := (s1.trans s2).trans (same_new (o := .tup [.str (words.getD 22 ""), v]) htt)
    exact q _ _ (tups_same s3) s3 ⟨t, _, v, rfl, tups_at upd_same rfl, fun n => absurd n hf, fun _ => by decide⟩
  · have s3 := (s1.trans s2).trans (same_new (o := .tup [.str (words.getD 23 ""), v]) htt)
    exact q _ _ (tups_same s3) s3 ⟨t, _, v, rfl, tups_at upd_same rfl, fun n => absurd n hf, fun _ => by decide⟩
theorem st13 (T : TX K mg) (X : EX P K mg) (W : WN mg) (hve : mg "ValueError" = none) (hrow : mg "RowError" = some (.ref CR)) (sc : SaidOk K W.c CR X.comp.C 22) (sr : SaidOk K W.c CR X.ring.C 23) (hr : Room 13 (XL P w K mg base f cc A outer s H0 E).A) (TB : LamX.TabB base mg cc PT) :
    PS (XL P w K mg base f cc A outer s H0 E) (lb 13) (fun D σ H => ∃ l R S, σ.length = 17 ∧ T3 T.cTable.C σ H R S ∧ σ[13]? = some (some (.ref l)) ∧ H l = some (.lst []) ∧ LamX.Tabs [(PT, qLam)] H ∧
      ∀ v16 H' y0 y1 y2, Fr l H H' → LamX.Tabs [(PT, qLam)] H' → H' l = some (.lst [y0, y1, y2]) → SaidAt K (tups H') R y0 → SaidAt K (tups H') S y1 → SaidAt K (tups H') (R ++ S) y2 → D.nx (σ.set 16 v16) H') := by
  refine PSimp (ps_for PassesOwn.never rfl (pi_tup (pe_tup (pa_cons (pv 9) (pa_cons (pv 10) (pa_cons (pv 11) pa_nil))))) (pg_name (i := 16) sc_law.nd rfl (.inr rfl))
    (pss_one (ps_expr (pe_bm PySem.F.plainAttrs_list PySem.F.slot_list_append PySem.F.type_list_append mt_append (pv 13) (pa_cons (pe_said T X W hve hrow hr TB (LamX.lamS_by (by decide +kernel)) rfl (fun _ _ _ _ _ _ => rfl) rfl rfl) pa_nil))))) fun D σ H h => ?_
  obtain ⟨l, R, S, hlen, ⟨a, b, c, h9, h10, h11, ta, tb, tc, hR, hS, sep⟩, h13, hl, tab, q⟩ := h
  obtain ⟨x0, x1, x2, x3, x4, x5, x6, x7, x8, x9, x10, x11, x12, x13, x14, x15, x16, rfl⟩ := len17 hlen
  cases h9
  cases h10
  cases h11
  cases h13
  refine ⟨_, rfl, _, rfl, _, rfl, by show (3 : Nat) ≤ sizeLine; decide, fun t ht => ⟨t, rfl, ⟨_, .inl (.inl upd_same)⟩, ?_⟩⟩
  have s1 := same_new (o := .tup [.ref a, .ref b, .ref c]) ht
  have et : (upd H t (.tup [.ref a, .ref b, .ref c])) t = some (.tup [.ref a, .ref b, .ref c]) := upd_same
  have ta := ta.same s1
  have tb := tb.same s1
  have tc := tc.same s1
  have hl1 := s1 _ _ hl
  have tab1 := tabs_same tab s1
  have f1 : Fr l H (upd H t (.tup [.ref a, .ref b, .ref c])) := Fr.of_same s1
  generalize upd H t (.tup [.ref a, .ref b, .ref c]) = H1 at s1 et ta tb tc hl1 tab1 f1 ⊢
  have tabOf : ∀ {i : Nat} {x : V}, [V.ref a, .ref b, .ref c][i]? = some x → ∃ o Q, x = .ref o ∧ TabAt T.cTable.C H1 o Q ∧ [R, S, R ++ S][i]? = some Q := fun {i x} e => by
    match i, e with
    | 0, e => cases e; exact ⟨a, R, rfl, ta, rfl⟩
    | 1, e => cases e; exact ⟨b, S, rfl, tb, rfl⟩
    | 2, e => cases e; exact ⟨c, R ++ S, rfl, tc, rfl⟩
  refine for_tup (K := K) (a := t) (xs := [.ref a, .ref b, .ref c]) (fun i σ' H' => ∃ v16 ys, σ' = [x0, x1, x2, x3, x4, x5, x6, x7, x8, some (.ref a), some (.ref b), some (.ref c), x12, some (.ref l), x14, x15, v16] ∧ Fr l H1 H' ∧ LamX.Tabs [(PT, qLam)] H' ∧ H' l = some (.lst ys) ∧ ys.length = i ∧ ∀ (j : Nat) (y : V), ys[j]? = some y → ∃ Q : RC.Tab, [R, S, R ++ S][j]? = some Q ∧ SaidAt K (tups H') Q y)
    ⟨x16, [], rfl, Fr.of_same (Same.refl _), tab1, hl1, rfl, fun j y e => by rw [List.getElem?_nil] at e; cases e⟩ (fun i σ' H' _ ⟨_, _, _, f, _⟩ => .inl (.inl (f _ _ (ne_of et hl1 (by intro q; cases q)) et (by intro ps q; cases q)))) ?_ ?_
  · rintro i x σ' H2 hi ⟨v16, ys, rfl, f2, tab2, hl2, hy, hs⟩
    obtain ⟨o, Q, rfl, to, hQ⟩ := tabOf hi
    have hi3 : i < 3 := (List.getElem?_eq_some_iff.mp hi).1
    refine ⟨_, rfl, .inl ⟨rfl, _, SqL.of hl2⟩, tab2, fun H3 e3 tab3 => ?_⟩
    have f3 := f2.ext e3
    have hl3 : H3 l = some (.lst ys) := e3 _ _ hl2 (by intro ps q; cases q)
    refine said_ok sc sr rfl (f3.tab hl1 to) fun v H4 u4 s4 hv => ?_
    have hl4 := s4 _ _ hl3
    refine ⟨l, ys, v, rfl, rfl, hl4, by rw [hy]; exact Nat.lt_of_lt_of_le hi3 (by decide), some (.ref o), ys ++ [v], rfl, (f3.same s4).upd, tabs_upd (tabs_same tab3 s4) hl4, upd_same, by rw [List.length_append, hy]; rfl, fun j y e => ?_⟩
    have u5 : Same (tups H4) (tups (upd H4 l (.lst (ys ++ [v])))) := tups_lst hl4
    by_cases hj : j < ys.length
    · rw [List.getElem?_append_left hj] at e
      obtain ⟨Q', e1, e2⟩ := hs j y e
      exact ⟨Q', e1, ((e2.same (tups_ext e3)).same u4).same u5⟩
    · rw [List.getElem?_append_right (by omega)] at e
      have hj0 : j - ys.length = 0 := by
        cases hh : j - ys.length with
        | zero => rfl
        | succ n =>
          rw [hh] at e
          simp at e
      rw [hj0] at e
      cases e
      have : j = i := by omega
      subst this
      exact ⟨Q, hQ, hv.same u5⟩
  · rintro σ' H2 ⟨v16, ys, rfl, f2, tab2, hl2, hy, hs⟩
    obtain ⟨y0, y1, y2, rfl⟩ : ∃ y0 y1 y2, ys = [y0, y1, y2] := by
      match ys, hy with
      | [y0, y1, y2], _ => exact ⟨_, _, _, rfl⟩
    obtain ⟨Q0, e0, g0⟩ := hs 0 y0 rfl
    obtain ⟨Q1, e1, g1⟩ := hs 1 y1 rfl
    obtain ⟨Q2, e2, g2⟩ := hs 2 y2 rfl
    cases e0
    cases e1
    cases e2
    exact q v16 H2 y0 y1 y2 (fun b o n h t => f2 b o n (s1 _ _ h) t) tab2 hl2 g0 g1 g2
end
end RP

/-! KW32 -/
/-! The law's loop body: the last statement. -/
namespace RP
open PySem PySem.Spec PyProof.Rows L2 SaidX
theorem maxD_40 {R : RC.Tab} (h : R.length ≤ 40) : ∀ {l : List Int}, (∀ k ∈ l, k ∈ RC.keys R) → RC.maxD R l ≤ 40
  | [], _ => Nat.zero_le _
  | k :: l, hs => by
    have h1 := (RC.path_ok (hs k List.mem_cons_self) h).1
    have h2 := RC.nodup_len h1.nd h1.sub
    rw [RC.keys_len] at h2
    have h3 := maxD_40 h (l := l) fun x hx => hs x (List.mem_cons_of_mem _ hx)
    show max _ _ ≤ 40
    omega
theorem stages_40 {R : RC.Tab} (h : R.length ≤ 40) : (RC.stagesOf R).length ≤ 40 := by
  unfold RC.stagesOf
  rw [RC.levels_len]
  exact maxD_40 h fun _ hk => hk
theorem stages_getD (R : RC.Tab) (d : Nat) : (RC.stagesOf R).getD d [] = RC.level R (RC.keys R) d := by
  unfold RC.stagesOf RC.levels
  by_cases h : d < RC.maxD R (RC.keys R)
  · rw [List.getD_eq_getElem?_getD, List.getElem?_map, List.getElem?_range h]
    rfl
  · rw [List.getD_eq_getElem?_getD, List.getElem?_eq_none (by simp; omega), RC.level_high (by omega)]
    rfl
theorem level_40 {R : RC.Tab} (h : R.length ≤ 40) (d : Nat) : ((RC.stagesOf R).getD d []).length ≤ 40 := by
  rw [stages_getD]
  unfold RC.level
  have := List.length_filter_le (fun k => decide ((RC.path R k).length = d + 1)) (RC.keys R)
  rw [RC.keys_len] at this
  omega
theorem row_asc {R S : RC.Tab} (hR : RC.Asc R) (hS : RC.Asc S) (h : RC.Sep R S) (d : Nat) : (rowAt (RC.stagesOf R) (RC.stagesOf S) d).Pairwise (· ≤ ·) := by
  have kk : ∀ {R : RC.Tab}, RC.Asc R → (RC.keys R).Pairwise (· ≤ ·) := fun {R} z => by
    unfold RC.keys
    rw [List.pairwise_map]
    exact z.imp fun h => Int.le_of_lt h
  unfold rowAt
  rw [stages_getD, stages_getD, List.pairwise_append]
  refine ⟨(kk hR).filter _, (kk hS).filter _, fun a ha b hb => Int.le_of_lt (h.kk (List.mem_filter.mp ha).1 (List.mem_filter.mp hb).1)⟩
section
variable {P : Program} {w : World} {K : PySem.W.Frag} {mg : Str → Option Value} {base : Heap} {f cc PT CR : Addr} {A : Around} {outer : List Env} {s : Shared} {H0 : Hp} {E : XK} {k : Nat}
theorem rd_else {CT l c t2 : Addr} {σ : L2.St} {H : Hp} {Q : Bool → Hp → Prop} {y0 y1 v2 : V} {w2 : Str} {RS : RC.Tab} (h13 : σ[13]? = some (some (.ref l))) (h11 : σ[11]? = some (some (.ref c))) (hl : H l = some (.lst [y0, y1, .ref t2])) (e2 : H t2 = some (.tup [.str w2, v2])) (n2 : w2 ≠ "returned")
    (tc : TabAt CT H c RS) (hf : ¬ RC.Free RS) (q : ∀ H', Same H H' → Q false H') :
    tOr (tTest (tOp rEq (tOp (rIxT K) (tOp (rIxL K) (tVar 13) (tC (.int 2))) (tC (.int 0))) (tC (.str "returned")))) (tTest (tOp rEq (tOp (rIxT K) (tCall (spVerdict K CT) [] E0 (tCons (tVar 11) tNil)) (tC (.int 0))) (tC (.str "order")))) σ H Q := by
  refine ⟨_, h13, l, _, _, _, rfl, rfl, SqL.of hl, atI_nat (j := 2) rfl, t2, _, _, _, rfl, rfl, .inl (.inl e2), atI_nat (j := 0) rfl, rfl, _, rfl, ?_⟩
  rw [decide_eq_false (by intro z; cases z; exact n2 rfl)]
  refine iteF ⟨_, h11, c, RS, rfl, tc, fun p wd x H1 s1 hp h1 h2 => ⟨p, _, _, _, rfl, rfl, .inl (.inl hp), atI_nat (j := 0) rfl, rfl, _, rfl, ?_⟩⟩
  rw [decide_eq_false (by intro z; cases z; exact h2 hf rfl)]
  exact q H1 s1
theorem st14 (T : TX K mg) (hr : Room 13 (XL P w K mg base f cc A outer s H0 E).A) : PS (XL P w K mg base f cc A outer s H0 E) (lb 14) (fun D σ H => ∃ p l R S y0 y1 y2, σ.length = 17 ∧ T3 T.cTable.C σ H R S ∧ σ[2]? = some (some (.ref p)) ∧ Pen H p ∧ σ[13]? = some (some (.ref l)) ∧ H l = some (.lst [y0, y1, y2]) ∧
    l ≠ p ∧ SaidAt K (tups H) R y0 ∧ SaidAt K (tups H) S y1 ∧ SaidAt K (tups H) (R ++ S) y2 ∧ ∀ σ' H', σ'.length = 17 → Bes p H H' → D.nx σ' H') := by
  have G1 := ok_join (P := P) (w := w) (base := base) T
  have G2 := ok_verdict (P := P) (w := w) (base := base) T
  have G3 := ok_shuf (P := P) (w := w) (base := base) T
  have G4 := ok_shows (P := P) (w := w) (base := base) T
  refine PSimp (ps_if (pw_and (pt_cmpR op_eq (pe_ix ix_tup (pe_ix ix_list (pv 13) pe_int (fun _ _ => rfl)) pe_int (fun _ _ => rfl)) pe_str (nomark _)) (pw_and1 (pt_cmpR op_eq (pe_ix ix_tup (pe_ix ix_list (pv 13) pe_int (fun _ _ => rfl)) pe_int (fun _ _ => rfl)) pe_str (nomark _)))).pt
    (pss_cons (ps_if (pt_cmpR (op_neD (by exact hr.units)) (pe_ix ix_list (pv 13) pe_int (fun _ _ => rfl)) (pe_tup (pa_cons pe_str (pa_cons (pc T.d_law_joined G1 (hr.mono (by decide)) (pa_cons (pe_ix ix_tup (pe_ix ix_list (pv 13) pe_int (fun _ _ => rfl)) pe_int (fun _ _ => rfl)) (pa_cons (pe_ix ix_tup (pe_ix ix_list (pv 13) pe_int (fun _ _ => rfl)) pe_int (fun _ _ => rfl)) pa_nil))) pa_nil))) (nomark _)) (pss_one (ps_ret pe_bl)) pss_nil)
    (pss_cons (ps_set (i := 14) sc_law.nd rfl (.inl rfl) (pe_lst (pa_cons (pe_ix ix_tup (pc T.d_verdict G2 (hr.mono (by decide)) (pa_cons (pv 9) pa_nil)) pe_int (fun _ _ => rfl)) (pa_cons (pe_ix ix_tup (pc T.d_verdict G2 (hr.mono (by decide)) (pa_cons (pv 10) pa_nil)) pe_int (fun _ _ => rfl)) pa_nil))))
    (pss_cons (ps_set (i := 15) sc_law.nd rfl (.inl rfl) (pc T.d_law_shuffled G3 (hr.mono (by decide)) (pa_cons (pv 2) (pa_cons (pe_ix ix_list (pv 14) pe_int (fun _ _ => rfl)) (pa_cons (pe_ix ix_list (pv 14) pe_int (fun _ _ => rfl)) pa_nil)))))
    (pss_one (ps_if (pt_cmpR op_isnot_bl (pc T.d_shows_verdict G4 (hr.mono (by decide)) (pa_cons (pv 11) (pa_cons (pe_tup (pa_cons pe_str (pa_cons (pv 15) pa_nil))) pa_nil))) pe_bl (nomark _)) (pss_one (ps_ret pe_bl)) pss_nil)))))
    (pss_one (ps_if (pw_or (pt_cmpR op_eq (pe_ix ix_tup (pe_ix ix_list (pv 13) pe_int (fun _ _ => rfl)) pe_int (fun _ _ => rfl)) pe_str (nomark _)) (pw_or1 (pt_cmpR op_eq (pe_ix ix_tup (pc T.d_verdict G2 (hr.mono (by decide)) (pa_cons (pv 11) pa_nil)) pe_int (fun _ _ => rfl)) pe_str (nomark _)))).pt (pss_one (ps_ret pe_bl)) pss_nil))) fun D σ H h => ?_
  obtain ⟨p, l, R, S, y0, y1, y2, hlen, ⟨a, b, c, h9, h10, h11, ta, tb, tc, hR, hS, sep⟩, h2, hp, h13, hl, nlp, g0, g1, g2, q⟩ := h
  obtain ⟨x0, x1, x2, x3, x4, x5, x6, x7, x8, x9, x10, x11, x12, x13, x14, x15, x16, rfl⟩ := len17 hlen
  cases h9
  cases h10
  cases h11
  cases h2
  cases h13
  have fre := RC.free_append sep ta.len tb.len
  obtain ⟨t0, w0, v0, rfl, e0, r0, n0⟩ := g0
  obtain ⟨t1, w1, v1, rfl, e1, r1, n1⟩ := g1
  obtain ⟨t2, w2, v2, rfl, e2, r2, n2⟩ := g2
  have e0' := tups_sub _ _ e0
  have e1' := tups_sub _ _ e1
  have e2' := tups_sub _ _ e2
  refine ⟨_, rfl, l, _, _, _, rfl, rfl, SqL.of hl, atI_nat (j := 0) rfl, t0, _, _, _, rfl, rfl, .inl (.inl e0'), atI_nat (j := 0) rfl, rfl, _, rfl, ?_⟩
  by_cases f0 : RC.Free R
  · obtain ⟨rfl, d0⟩ := r0 f0
    rw [decide_eq_true rfl]
    refine iteT ⟨_, rfl, l, _, _, _, rfl, rfl, SqL.of hl, atI_nat (j := 1) rfl, t1, _, _, _, rfl, rfl, .inl (.inl e1'), atI_nat (j := 0) rfl, rfl, _, rfl, ?_⟩
    by_cases f1 : RC.Free S
    · obtain ⟨rfl, d1⟩ := r1 f1
      obtain ⟨rfl, d2⟩ := r2 (fre.mpr ⟨f0, f1⟩)
      rw [decide_eq_true rfl]
      obtain ⟨z0, _, rfl, _⟩ := id d0.tup_inv
      obtain ⟨z1, _, rfl, _⟩ := id d1.tup_inv
      have d0' := d0.same tups_sub
      have d1' := d1.same tups_sub
      have d2' := d2.same tups_sub
      refine iteT ⟨_, rfl, l, _, _, _, rfl, rfl, SqL.of hl, atI_nat (j := 2) rfl, _, rfl, l, _, _, _, rfl, rfl, SqL.of hl, atI_nat (j := 0) rfl, t0, _, _, _, rfl, rfl, .inl (.inl e0'), atI_nat (j := 1) rfl, _, rfl, l, _, _, _, rfl, rfl, SqL.of hl, atI_nat (j := 1) rfl, t1, _, _, _, rfl, rfl, .inl (.inl e1'), atI_nat (j := 1) rfl,
        z0, z1, RC.stagesOf R, RC.stagesOf S, rfl, d0', d1', stages_40 ta.len, stages_40 tb.len, row_asc ta.asc tb.asc sep, level_40 ta.len, level_40 tb.len, fun pj H1 s1 dj => ⟨by show (2 : Nat) ≤ sizeLine; decide, fun tt htt => ?_⟩⟩
      have s2 := s1.trans (same_new (o := .tup [.str "returned", .ref pj]) htt)
      have shS : ∀ n : Nat, Shp n (.str "returned") := fun n => ⟨by rw [PyData.canLay0]; decide +kernel, by rw [PyData.depth]; exact Nat.zero_le _⟩
      have shp : ∀ L : List (List Int), Shp 3 (.tuple [.str "returned", dTs L]) := fun L => Shp.tup fun d hd => by
        rcases List.mem_cons.mp hd with rfl | hd
        · exact shS _
        · obtain rfl := List.mem_singleton.mp hd
          exact Shp.tup (Shp.Ts L)
      have eJ : RC.stagesOf (R ++ S) = joinOf (RC.stagesOf R) (RC.stagesOf S) := RC.stages_append sep
      have dj' : Dp K (upd H1 tt (.tup [.str "returned", .ref pj])) (.ref tt) (.tuple [.str "returned", dTs (joinOf (RC.stagesOf R) (RC.stagesOf S))]) := .tup (.inl (.inl upd_same)) (.cons (.str _) (.cons (dj.same (same_new htt)) .nil))
      rw [← eJ] at dj'
      generalize upd H1 tt (.tup [.str "returned", .ref pj]) = H2 at s2 dj' ⊢
      refine ⟨_, _, .tup (.inl (.inl (s2 _ _ e2'))) (.cons (.str _) (.cons (d2'.same s2) .nil)), dj', (shp _).ok, (shp _).ok, _, rfl, ?_⟩
      rw [eqv_self (shp _)]
      refine iteF ⟨_, rfl, a, R, rfl, ta.same s2, fun p1 wd1 u1 H3 s3 hp1 k1 _ => ⟨p1, _, _, _, rfl, rfl, .inl (.inl hp1), atI_nat (j := 1) rfl, _, rfl, b, S, rfl, (tb.same s2).same s3, fun p2 wd2 u2 H4 s4 hp2 k2 _ => ⟨p2, _, _, _, rfl, rfl, .inl (.inl hp2), atI_nat (j := 1) rfl, by show (2 : Nat) ≤ sizeLine; decide, fun lo hlo => ?_⟩⟩⟩
      obtain ⟨_, o1, do1, pm1, ps1⟩ := k1 f0
      obtain ⟨_, o2, do2, pm2, ps2⟩ := k2 f1
      obtain ⟨c1, rfl, _⟩ := id do1.ints_inv
      obtain ⟨c2, rfl, _⟩ := id do2.ints_inv
      have s5 := same_new (o := .lst [.ref c1, .ref c2]) hlo
      have u1 := (RP.Dp.tups (tupD_T _) do1).same (tups_same (s4.trans s5))
      have u2 := (RP.Dp.tups (tupD_T _) do2).same (tups_same s5)
      obtain ⟨_, e, hq1⟩ := u1.ints_inv
      cases e
      obtain ⟨_, e, hq2⟩ := u2.ints_inv
      cases e
      have s25 := ((s2.trans s3).trans s4).trans s5
      have elo : (upd H4 lo (.lst [.ref c1, .ref c2])) lo = some (.lst [.ref c1, .ref c2]) := upd_same
      generalize upd H4 lo (.lst [.ref c1, .ref c2]) = H5 at s5 s25 hq1 hq2 elo ⊢
      have l1 : o1.length ≤ 40 := by rw [pm1.length_eq, RC.keys_len]; exact ta.len
      have l2 : o2.length ≤ 40 := by rw [pm2.length_eq, RC.keys_len]; exact tb.len
      refine ⟨_, rfl, _, rfl, lo, _, _, _, rfl, rfl, SqL.of elo, atI_nat (j := 0) rfl, _, rfl, lo, _, _, _, rfl, rfl, SqL.of elo, atI_nat (j := 1) rfl, p, c1, c2, o1, o2, rfl, hp.same s25, hq1, hq2, l1, l2, fun qo so H6 hsh b6 hq6 => ?_⟩
      refine ⟨_, rfl, _, rfl, by show (2 : Nat) ≤ sizeLine; decide, fun th hth => ?_⟩
      have b06 : Bes p H H6 := ((Bes.refl hp).same s25).trans b6
      have s7 := same_new (o := .tup [.str "order", .ref qo]) hth
      refine ⟨c, th, qo, R ++ S, so, rfl, (tc.bes hp b06).same s7, upd_same, same_t s7 (same_t tups_sub hq6), ?_, RC.passes_shuf sep hsh (fun x hx => pm1.mem_iff.mp hx) (fun x hx => pm2.mem_iff.mp hx) ps1 ps2, fre.mpr ⟨f0, f1⟩, fun H8 s8 => ⟨true, true, rfl, rfl, false, rfl, iteF (q _ _ rfl ((b06.same s7).same s8))⟩⟩
      refine hsh.perm.trans ?_
      rw [RC.keys_append]
      exact List.Perm.append pm1 pm2
    · have hf : ¬ RC.Free (R ++ S) := fun z => f1 (fre.mp z).2
      rw [decide_eq_false (by intro z; cases z; exact n1 f1 rfl)]
      exact iteF (rd_else rfl rfl hl e2' (n2 hf) tc hf fun H1 s1 => iteF (q _ _ rfl ((Bes.refl hp).same s1)))
  · have hf : ¬ RC.Free (R ++ S) := fun z => f0 (fre.mp z).1
    rw [decide_eq_false (by intro z; cases z; exact n0 f0 rfl)]
    exact iteF (iteF (rd_else rfl rfl hl e2' (n2 hf) tc hf fun H1 s1 => iteF (q _ _ rfl ((Bes.refl hp).same s1))))
end
end RP

/-! KW33 -/
/-! The law. -/
namespace RP
open PySem PySem.Spec PyProof.Rows L2 SaidX
theorem bes_new {p : Addr} {H H1 H2 : Hp} (hp : H p = none) (s : Same H H1) (b : Bes p H1 H2) : Same H H2 := fun a o h => b.at_ (ne_of_none h hp) (s _ _ h)
theorem RowsL.same {K : PySem.W.Frag} {H H' : Hp} {a : Addr} {L : RC.Tab} (h : RowsL K H a L) (s : Same H H') : RowsL K H' a L := by
  obtain ⟨ys, e, d⟩ := h
  exact ⟨ys, s _ _ e, d.same (tups_same s)⟩
theorem RowsL.ne {K : PySem.W.Frag} {H : Hp} {a p : Addr} {L : RC.Tab} (h : RowsL K H a L) (hp : Pen H p) : a ≠ p := by
  rintro rfl
  obtain ⟨ys, e, d⟩ := h
  obtain ⟨x, y, z, e2⟩ := hp
  rw [e] at e2
  cases e2
  cases L with
  | nil => cases d
  | cons q L =>
    cases d with
    | cons d1 _ => cases d1
theorem RowsL.bes {K : PySem.W.Frag} {H H' : Hp} {a p : Addr} {L : RC.Tab} (h : RowsL K H a L) (hp : Pen H p) (b : Bes p H H') : RowsL K H' a L := by
  have n := h.ne hp
  obtain ⟨ys, e, d⟩ := h
  exact ⟨ys, b.at_ n e, d.same (tups_bes hp b)⟩
theorem tabs_bes {T : List (Addr × Str)} {p : Addr} {H H' : Hp} (h : LamX.Tabs T H) (hp : Pen H p) (b : Bes p H H') : LamX.Tabs T H' := fun q hq => by
  obtain ⟨x, y, z, e⟩ := hp
  obtain ⟨ps, h1, h2, h3⟩ := h q hq
  refine ⟨ps, b.at_ (ne_of h1 e (by intro q; cases q)) h1, h2, fun pos cv hc => ?_⟩
  obtain ⟨c, e1, e2⟩ := h3 pos cv hc
  exact ⟨c, e1, b.at_ (ne_of e2 e (by intro q; unfold LamX.CodeO at q; cases q)) e2⟩
theorem cut_int {ns : List Int} {lo hi : Option Int} {x : V} (h : x ∈ cutV (ns.map V.int) lo hi) : ∃ i, x = .int i := by
  unfold cutV at h
  obtain ⟨i, rfl, _⟩ := mem_map_int (List.mem_of_mem_drop (List.mem_of_mem_take h))
  exact ⟨i, rfl⟩
def spLaw (K : PySem.W.Frag) (PT : Addr) : Sp := fun vs H Q _ => ∃ (a : Addr) (ns : List Int), vs = [.ref a] ∧ SqL K H a (ns.map V.int) ∧ ns.length ≤ 900 ∧ LamX.Tabs [(PT, qLam)] H ∧ ∀ H', Q (.bl true) H'
section
variable {P : Program} {w : World} {K : PySem.W.Frag} {mg : Str → Option Value} {base : Heap} {cc PT CR : Addr}
theorem ok_law (T : TX K mg) (X : EX P K mg) (W : WN mg) (hve : mg "ValueError" = none) (hrow : mg "RowError" = some (.ref CR)) (sc : SaidOk K W.c CR X.comp.C 22) (sr : SaidOk K W.c CR X.ring.C 23) (TB : LamX.TabB base mg cc PT) (hcode : T.d_law.fd.code = .ref cc) :
    FnOk P w K mg base CX0 14 T.d_law.f T.d_law.fd ["_law_script"] (spLaw K PT) := by
  obtain ⟨oc, od, kV, doc, pm, an, cdv, ct, osl, e, lk, hcd⟩ := T.d_law.F.ex
  have G0 := ok_cellAt (P := P) (w := w) (base := base) T
  generalize T.d_law.fd = fd at e lk hcode ⊢
  subst e
  obtain rfl : cdv = Value.ref cc := hcode
  refine fn_of lk hcd sc_law (fun vs H Q E h => ?_) fun A outer s H vs Q E hr hsp => ?_
  · obtain ⟨a, ns, rfl, _⟩ := h
    rfl
  obtain ⟨a, ns, rfl, hS, hl, tab, q⟩ := hsp
  refine ⟨_, PSs.nox (pss_cons (ps_for PassesOwn.never rfl (pi_list (pe_op op_cat (pe_lst (pa_cons (pc T.d_law_cell_at G0 (hr.mono (by decide)) (pa_cons (pv 0) (pa_cons pe_int pa_nil))) pa_nil)) (pe_slice sl_list (pv 0) (po_some pe_int) (po_some pe_int)))) (pg_name (i := 1) sc_law.nd rfl (.inl rfl))
      (pss_cons (st0 T hr) (pss_cons (st1 T hr) (pss_cons st2 (pss_cons (st3 T) (pss_cons (st4 T hr) (pss_cons (st5 T hr) (pss_cons (st6 T hr) (pss_cons (st7 T hr) (pss_cons (st8 T hr) (pss_cons (st9 T hr) (pss_cons (st10 T hr) (pss_cons (st11 T hr) (pss_cons st12 (pss_cons (st13 T X W hve hrow sc sr hr TB) (pss_one (st14 T hr)))))))))))))))))
    (pss_one (ps_ret pe_bl))), ?_⟩
  refine ⟨_, rfl, a, 0, ns, rfl, hS, fun c0 => ⟨by show (1 : Nat) ≤ sizeLine; decide, fun l1 h1 => ⟨_, rfl, 1, rfl, 2, rfl, a, _, rfl, same_l (same_new h1) hS, fun l2 h2 => ?_⟩⟩⟩
  have cl : (cutV (ns.map V.int) (some 1) (some 2)).length ≤ 900 := by
    have := cutV_length (ns.map V.int) (some 1) (some 2)
    rw [List.length_map] at this
    omega
  refine ⟨l1, l2, _, _, rfl, rfl, same_new h2 _ _ upd_same, upd_same, Nat.le_of_lt (small1000 (by show 1 + _ ≤ _; omega)), fun l hl3 => ⟨l, rfl, ⟨_, SqL.of upd_same⟩, ?_⟩⟩
  have sl := ((same_new (o := .lst [.int c0]) h1).trans (same_new (o := .lst (cutV (ns.map V.int) (some 1) (some 2))) h2)).trans (same_new (o := .lst ([.int c0] ++ cutV (ns.map V.int) (some 1) (some 2))) hl3)
  have tabL := tabs_same tab sl
  have eL : (upd (upd (upd H l1 (.lst [.int c0])) l2 (.lst (cutV (ns.map V.int) (some 1) (some 2)))) l (.lst ([.int c0] ++ cutV (ns.map V.int) (some 1) (some 2)))) l = some (.lst ([.int c0] ++ cutV (ns.map V.int) (some 1) (some 2))) := upd_same
  have allI : ∀ x ∈ [V.int c0] ++ cutV (ns.map V.int) (some 1) (some 2), ∃ i, x = .int i := fun x hx => by
    rcases List.mem_append.mp hx with hx | hx
    · exact ⟨c0, List.mem_singleton.mp hx⟩
    · exact cut_int hx
  generalize [V.int c0] ++ cutV (ns.map V.int) (some 1) (some 2) = xs at eL tabL allI ⊢
  generalize upd (upd (upd H l1 (.lst [.int c0])) l2 (.lst (cutV (ns.map V.int) (some 1) (some 2)))) l (.lst xs) = HL at eL tabL ⊢
  refine for_list (K := K) (a := l) (xs := xs) (fun i σ' H' => σ'.length = 17 ∧ H' l = some (.lst xs) ∧ LamX.Tabs [(PT, qLam)] H') ⟨rfl, eL, tabL⟩ (fun i σ' H' _ h => SqL.of h.2.1) ?_ ?_
  · rintro i x σ' H' hi ⟨hlen, hL, hT⟩
    obtain ⟨c, rfl⟩ := allI x (List.mem_of_getElem? hi)
    obtain ⟨x0, x1, x2, x3, x4, x5, x6, x7, x8, x9, x10, x11, x12, x13, x14, x15, x16, rfl⟩ := len17 hlen
    refine ⟨c, rfl, fun p u1 u2 u3 hp => ?_⟩
    have s1 := same_new (o := .lst [.int u1, .int u2, .int u3]) hp
    have pen1 : Pen (upd H' p (.lst [.int u1, .int u2, .int u3])) p := ⟨_, _, _, upd_same⟩
    generalize upd H' p (.lst [.int u1, .int u2, .int u3]) = H1 at s1 pen1 ⊢
    refine ⟨p, rfl, pen1, fun a b L M H2 b2 rl rm nl nm => ?_⟩
    have s2 : Same H' H2 := bes_new hp s1 b2
    have pen2 := b2.2
    refine fun n hn => ?_
    have s23 := same_new (o := .lst [.int 0]) hn
    have en : (upd H2 n (.lst [.int 0])) n = some (.lst [.int 0]) := upd_same
    generalize upd H2 n (.lst [.int 0]) = H3 at s23 en ⊢
    refine ⟨a, b, n, L, M, rfl, rfl, rfl, rfl, en, rl.same s23, rm.same s23, nl.len, nm.len, fun n' v6 v7 H4 s34 hn4 => ?_⟩
    have s24 := s23.trans s34
    have s4 := s2.trans s24
    have pen4 := pen2.same s24
    refine ⟨p, n', L ++ M, rfl, rfl, pen4, hn4, fun q hq => (List.mem_append.mp hq).elim (nl.bd q) (nm.bd q), fun m d H5 hm m0 m1 d0 d9 b5 => ?_⟩
    have s5 := bes_new hp s4 b5
    have rl5 := (rl.same s24).bes pen4 b5
    have rm5 := (rm.same s24).bes pen4 b5
    have pen5 := b5.2
    refine ⟨a, L, rfl, rl5, nl, fun o R H6 s56 hR pR => ?_⟩
    refine ⟨b, M, 2 * m + 1 + d, rfl, rfl, rfl, rm5.same s56, nm, by omega, by omega, fun o2 S H7 s67 hS pS => ?_⟩
    have lR : R.length ≤ 20 := by rw [pR.length_eq]; exact nl.len
    have lS : S.length ≤ 20 := by
      rw [pS.length_eq]
      unfold RC.moved
      rw [List.length_map]
      exact nm.len
    have sep : RC.Sep R S := RC.far_sep (fun q hq => hm q (List.mem_append_left _ hq)) (fun q hq => hm q (List.mem_append_right _ hq)) d0 pR pS
    refine ⟨o, o2, R, S, rfl, rfl, hR.same s67, hS, lR, lS, sep, fun c3 H8 s78 tc => ?_⟩
    have s58 := (s56.trans s67).trans s78
    have ta := (hR.same s67).same s78
    have tb := hS.same s78
    refine ⟨R, S, ⟨o, o2, c3, rfl, rfl, rfl, ta, tb, tc, lR, lS, sep⟩, fun H9 s89 => ?_⟩
    have s9 := (s5.trans s58).trans s89
    have pen9 := (pen5.same s58).same s89
    refine ⟨p, R, S, rfl, pen9, ⟨o, o2, c3, rfl, rfl, rfl, ta.same s89, tb.same s89, tc.same s89, lR, lS, sep⟩, fun H10 b10 => ?_⟩
    have s10 := bes_new hp s9 b10
    have pen10 := b10.2
    have ta := (ta.same s89).bes pen9 b10
    have tb := (tb.same s89).bes pen9 b10
    have tc := (tc.same s89).bes pen9 b10
    refine ⟨R, S, ⟨o, o2, c3, rfl, rfl, rfl, ta, tb, tc, lR, lS, sep⟩, ?_⟩
    refine ⟨R, S, ⟨o, o2, c3, rfl, rfl, rfl, ta, tb, tc, lR, lS, sep⟩, rfl, fun H11 s11 => ?_⟩
    refine fun l' hl' => ?_
    have s12 := s11.trans (same_new (o := .lst []) hl')
    have el' : (upd H11 l' (.lst [])) l' = some (.lst []) := upd_same
    have nlp : l' ≠ p := pen_ne (pen10.same s11) hl'
    have nll : l ≠ l' := ne_of_none ((s10.trans s11) _ _ hL) hl'
    generalize upd H11 l' (.lst []) = H12 at s12 el' ⊢
    have ta := ta.same s12
    have tb := tb.same s12
    have tc := tc.same s12
    have pen12 := pen10.same s12
    have hL12 := (s10.trans s12) _ _ hL
    refine ⟨l', R, S, rfl, ⟨o, o2, c3, rfl, rfl, rfl, ta, tb, tc, lR, lS, sep⟩, rfl, el', tabs_same hT (s10.trans s12), fun v16 H13 y0 y1 y2 fr tab13 hl13 g0 g1 g2 => ?_⟩
    have pen13 : Pen H13 p := by
      obtain ⟨x, y, z, e⟩ := pen12
      exact ⟨x, y, z, fr _ _ nlp.symm e (by intro ps q; cases q)⟩
    have hL13 : H13 l = some (.lst xs) := fr _ _ nll hL12 (by intro ps q; cases q)
    have nlp2 : l ≠ p := ne_of_none hL hp
    refine ⟨p, l', R, S, y0, y1, y2, rfl, ⟨o, o2, c3, rfl, rfl, rfl, fr.tab el' ta, fr.tab el' tb, fr.tab el' tc, lR, lS, sep⟩, rfl, pen13, rfl, hl13, nlp, g0, g1, g2, fun σ'' H14 hlen14 b14 => ?_⟩
    exact ⟨hlen14, b14.at_ nlp2 hL13, tabs_bes tab13 pen13 b14⟩
  · rintro σ' H' _
    exact q H'
end
end RP

/-! KH1 -/
/-! The head's Hook: defs at any address, own errors with an __init__ of their own, Bools, the tables. -/
namespace ZH
open PySem PySem.Spec PyProof.Rows L2 He
abbrev FnI : Type := Option (Str × Str × Arguments × FuncBody × Scope × Addr × Addr)
def fnI (K : PySem.W.Frag) (a : Addr) : FnI := match K.lookup a with
  | some ⟨_, _, .func fd, _⟩ => some (fd.name, fd.qualname, fd.params, fd.body, fd.scope, fd.globals, fd.builtins)
  | _ => none
abbrev IniD : Type := (PySem.W.Frag → Addr) × FnI
abbrev AlZ : Type := Bool × (List FnW × List FnI)
/-- what an object names, of what the facts ask -/
def refsN (o : Obj) : List Addr := match o.data with
  | .dict es _ => es.toList.flatMap fun e => refV e.val
  | .cls cd => [cd.ns]
  | .func fd => refV fd.code ++ fd.closure.map (·.2)
  | .fields vs => (match o.cls with
    | .type t => (match decide (t = "property") with
      | true => (match vs.toList with
        | v :: _ => refV v
        | [] => [])
      | false => [])
    | _ => [])
  | _ => []
def nextN (g : Addr → Option Obj) (as : List Addr) : List Addr := as.flatMap fun a => match g a with
  | some o => refsN o
  | none => []
/-- level by level, from the module's names -/
def asN (g : Addr → Option Obj) : Nat → List Addr → List Addr
  | 0, as => as
  | n + 1, as => as ++ asN g n (nextN g as)
def asZ (g : Addr → Option Obj) (n : Nat) : List Addr := cStatics :: asN g n [mainGlobals]
def KZ (n : Nat) (g : Addr → Option Obj) : PySem.W.Frag := frG g (asZ g n)
def tabsN (g : Addr → Option Obj) (tf : List Defn) (K : PySem.W.Frag) : Bool := tf.all fun p => PySem.W.codeHdIn K (cT K p).1 (cT K p).2 && ((K.lookup (cT K p).2).isNone && (match g (cT K p).2 with
  | some o => emptyTab o
  | none => false))
section
variable (n : Nat) (fa : List Fa) (fn : List He5.DefA) (ini : List IniD) (exL : List (PySem.W.Frag → Bool)) (tf : List Defn)
def obsK (g : Addr → Option Obj) (K : PySem.W.Frag) : AlZ := ((fa.all fun f => f.ok K) && ((fn.all fun d => d.ok K) && ((exL.all fun e => e K) && tabsN g tf K)), (fn.map fun d => He5.fnA K (d.at_ K), ini.map fun q => fnI K (q.1 K)))
def obsZ (g : Addr → Option Obj) : AlZ := obsK fa fn ini exL tf g (KZ n g)
def valZ : AlZ := (true, (fn.map He5.DefA.val, ini.map (·.2)))
structure SaysZ (h : Heap) (K : PySem.W.Frag) : Prop where
  f : ∀ f ∈ fa, f.ok K = true
  d : ∀ d ∈ fn, d.ok K = true
  e : ∀ e ∈ exL, e K = true
  v : fn.map (fun d => He5.fnA K (d.at_ K)) = fn.map He5.DefA.val
  i : ini.map (fun q => fnI K (q.1 K)) = ini.map (·.2)
  hd : ∀ p ∈ tf, PySem.W.codeHdIn K (cT K p).1 (cT K p).2 = true
  out : ∀ p ∈ tf, K.lookup (cT K p).2 = none
  empty : ∀ p ∈ tf, h.get? (cT K p).2 = some { cls := .none, data := .fields #[] }
theorem saysZ_of {h : Heap} (e : obsZ n fa fn ini exL tf h.get? = valZ fn ini) : SaysZ fa fn ini exL tf h (KZ n h.get?) := by
  have e1 := congrArg (fun z : AlZ => z.1) e
  have e2 := congrArg (fun z : AlZ => z.2.1) e
  have e3 := congrArg (fun z : AlZ => z.2.2) e
  obtain ⟨h1, h'⟩ := ba e1
  obtain ⟨h2, h'⟩ := ba h'
  obtain ⟨h3, h4⟩ := ba h'
  have key : ∀ p ∈ tf, PySem.W.codeHdIn (KZ n h.get?) (cT (KZ n h.get?) p).1 (cT (KZ n h.get?) p).2 = true ∧ (KZ n h.get?).lookup (cT (KZ n h.get?) p).2 = none ∧ ∃ o, h.get? (cT (KZ n h.get?) p).2 = some o ∧ emptyTab o = true := fun p hp => by
    obtain ⟨h3, h4⟩ := ba (List.all_eq_true.mp h4 p hp)
    obtain ⟨h5, h4⟩ := ba h4
    refine ⟨h3, Option.isNone_iff_eq_none.mp h5, ?_⟩
    cases q : h.get? (cT (KZ n h.get?) p).2 with
    | none =>
      rw [q] at h4
      cases h4
    | some o =>
      rw [q] at h4
      exact ⟨o, rfl, h4⟩
  exact ⟨List.all_eq_true.mp h1, List.all_eq_true.mp h2, List.all_eq_true.mp h3, e2, e3, fun p hp => (key p hp).1, fun p hp => (key p hp).2.1, fun p hp => by
    obtain ⟨_, _, o, q, z⟩ := key p hp
    rw [q, emptyTab_eq z]⟩
def hookZ : PySem.W.Hook where
  α := AlZ
  obs := fun s => obsZ n fa fn ini exL tf s.heap.get?
  val := fun _ => valZ fn ini
  says := fun _ h => ∃ K : PySem.W.Frag, K.In h ∧ SaysZ fa fn ini exL tf h K
  of := fun _ _ e => ⟨_, frG_in, saysZ_of n fa fn ini exL tf e⟩
  keeps := fun _ _ _ ⟨K, hK, c⟩ k => ⟨K, PySem.W.Frag.In.keeps hK k, ⟨c.f, c.d, c.e, c.v, c.i, c.hd, c.out, fun p hp => k _ _ (c.empty p hp)⟩⟩
theorem obsZ_eq {g : Addr → Option Obj} {s : Shared} (h : ∀ a, g a = s.heap.get? a) : obsZ n fa fn ini exL tf g = (hookZ n fa fn ini exL tf).obs s := by
  have e : g = s.heap.get? := funext h
  rw [e] <;> rfl
end
section
variable {fa : List Fa} {fn : List He5.DefA} {ini : List IniD} {exL : List (PySem.W.Frag → Bool)} {tf : List Defn} {K : PySem.W.Frag} {h : Heap}
theorem SaysZ.fact (c : SaysZ fa fn ini exL tf h K) (i : Nat) {f : Fa} (e : fa[i]? = some f := by rfl) : f.ok K = true := c.f f (List.mem_of_getElem? e)
theorem SaysZ.more (c : SaysZ fa fn ini exL tf h K) (i : Nat) {f : PySem.W.Frag → Bool} (e : exL[i]? = some f := by rfl) : f K = true := c.e f (List.mem_of_getElem? e)
theorem SaysZ.def_ (c : SaysZ fa fn ini exL tf h K) (i : Nat) {d : He5.DefA} (e : fn[i]? = some d := by rfl) : ∃ fd, FunD K d.name d.qual d.params d.body d.scope (d.dvs K) (d.kws K) (d.at_ K) fd := by
  have e2 : (fn.map fun d => He5.fnA K (d.at_ K))[i]? = (fn.map He5.DefA.val)[i]? := by rw [c.v]
  rw [List.getElem?_map, List.getElem?_map, e] at e2
  exact He5.DefA.funD (Option.some.inj e2) (c.d d (List.mem_of_getElem? e))
theorem SaysZ.ini_ (c : SaysZ fa fn ini exL tf h K) (i : Nat) {q : IniD} (e : ini[i]? = some q := by rfl) : fnI K (q.1 K) = q.2 := by
  have e2 : (ini.map fun q => fnI K (q.1 K))[i]? = (ini.map (·.2))[i]? := by rw [c.i]
  rw [List.getElem?_map, List.getElem?_map, e] at e2
  exact Option.some.inj e2
end
/-! ### own errors -/
def oexB (K : PySem.W.Frag) (C : Addr) : Bool := (match K.lookup C with
  | some ⟨.type t, _, .cls cd, sl⟩ => decide (t = "type") && (match cd.mro, sl.toList with
    | .ref C' :: bm, [_, _, _, _, some (.builtin n), _] => decide (C' = C) && (decide (n = "ValueError.__new__") && (!cd.hasDel && (cd.hasDict && PySem.HandSPX.refsVE bm)))
    | _, _ => false)
  | _ => false) && (eqO (PySem.W.findIn K (.ref C) "__setattr__") (some (some (.builtin "object.__setattr__"))) && (decide (PySem.W.subIn K (.ref C) (.type "BaseException") = some true) && (decide (PySem.W.typeIn K (.ref C) = some (.type "type")) && PySem.W.keepIn K (.ref C))))
theorem oexB_ok {K : PySem.W.Frag} {C : Addr} (h : oexB K C = true) : OexC K C := by
  obtain ⟨h1, h⟩ := ba h
  obtain ⟨h2, h⟩ := ba h
  obtain ⟨h3, h⟩ := ba h
  obtain ⟨h4, h5⟩ := ba h
  refine ⟨?_, eqO_ok h2, of_decide_eq_true h3, of_decide_eq_true h4, h5⟩
  split at h1
  · rename_i t dd cd sl ho
    obtain ⟨ht, h1⟩ := ba h1
    split at h1
    · rename_i C' bm k0 k1 k2 k3 n k5 hm hs
      obtain ⟨e1, h1⟩ := ba h1
      obtain ⟨e2, h1⟩ := ba h1
      obtain ⟨e3, h1⟩ := ba h1
      obtain ⟨e4, e5⟩ := ba h1
      obtain rfl := of_decide_eq_true ht
      obtain rfl := of_decide_eq_true e1
      obtain rfl := of_decide_eq_true e2
      obtain ⟨nm, bs, mro, ns, qn, hd, sn, sub, ab, col, del⟩ := cd
      simp only [Bool.not_eq_true'] at hm e3 e4
      subst hm
      subst e3
      subst e4
      have hsl : sl = #[k0, k1, k2, k3, some (.builtin "ValueError.__new__"), k5] := by
        obtain ⟨l⟩ := sl
        simp only at hs
        rw [hs]
      subst hsl
      exact ⟨nm, qn, ns, bs, bm, sn, sub, ab, col, dd, k0, k1, k2, k3, k5, ho, e5⟩
    · cases h1
  · cases h1
def iniA (K : PySem.W.Frag) (C : Addr) : Addr := ma K C "__init__"
def iniB (K : PySem.W.Frag) (C : Addr) (qual file : Str) : Bool := match K.lookup (iniA K C) with
  | some ⟨_, _, .func fd, _⟩ => (match fd.closure, fd.defaults, fd.code with
    | [(n, cc)], .none, .ref cda => decide (n = "__class__") && (PySem.W.codeIn K (.ref cda) qual && ((match K.lookup cda with
      | some ⟨_, _, .fields vs, _⟩ => (match (vs[2]? : Option Value) with
        | some (.str fl _) => file == fl
        | _ => false)
      | _ => false) && (match K.lookup cc with
      | some ⟨_, _, .cell (some (.ref C')), _⟩ => decide (C' = C)
      | _ => false)))
    | _, _, _ => false)
  | _ => false
theorem ini_ok {P : Program} {K : PySem.W.Frag} {C : Addr} {qual : Str} {st : Stmt} (hv : fnI K (iniA K C) = some (("__init__" : Str), qual, defArgs st, FuncBody.stmts (defBody st), defScope st, mainGlobals, builtinsNs)) (hb : iniB K C qual P.main.file = true) :
    ∃ fd, ∃ (oc : Value) (od : Option Addr) (kV doc pm : Value) (an : Option Addr) (ct : Value) (osl : Array (Option Value)) (cda cc : Addr) (ccl : Value) (cdd : Option Addr) (vs : Array Value) (ccs : Array (Option Value)) (file : Str) (tf : Tok) (cl : Value) (cld : Option Addr) (csl : Array (Option Value)),
    fd = PySem.W.ksFn "__init__" qual (defArgs st) (defBody st) (defScope st) .none kV doc pm an (.ref cda) ct cc ∧ K.lookup (iniA K C) = some ⟨oc, od, .func fd, osl⟩ ∧ PySem.W.codeIn K (.ref cda) qual = true ∧
    K.lookup cda = some ⟨ccl, cdd, .fields vs, ccs⟩ ∧ vs[2]? = some (.str file tf) ∧ ((P.main.file : Str) == file) = true ∧ K.lookup cc = some ⟨cl, cld, .cell (some (.ref C)), csl⟩ := by
  unfold fnI at hv
  unfold iniB at hb
  cases q : K.lookup (iniA K C) with
  | none =>
    rw [q] at hv
    cases hv
  | some o =>
    obtain ⟨oc, od, dt, osl⟩ := o
    rw [q] at hv hb
    cases dt with
    | func fd =>
      obtain ⟨n1, n2, n3, n4, n5, n6, n7, n8, n9, n10, n11, n12, n13, n14, n15⟩ := fd
      have e2 : (some (n1, n2, n3, n4, n5, n6, n15) : FnI) = some (("__init__" : Str), qual, defArgs st, FuncBody.stmts (defBody st), defScope st, mainGlobals, builtinsNs) := hv
      simp only [Option.some.injEq, Prod.mk.injEq] at e2
      obtain ⟨h1, h2, h3, h4, h5, h6, h7⟩ := e2
      subst h1 h2 h3 h4 h5 h6 h7
      dsimp only at hb
      split at hb
      · rename_i n cc cda
        obtain ⟨b1, hb⟩ := ba hb
        obtain ⟨b2, hb⟩ := ba hb
        obtain ⟨b3, b4⟩ := ba hb
        obtain rfl := of_decide_eq_true b1
        split at b3
        · rename_i ccl cdd vs ccs q1
          split at b3
          · rename_i fl tk q2
            split at b4
            · rename_i cl cld C' csl q3
              obtain rfl := of_decide_eq_true b4
              exact ⟨_, oc, od, n9, n10, n11, n12, n14, osl, cda, cc, ccl, cdd, vs, ccs, fl, tk, cl, cld, csl, rfl, rfl, b2, q1, q2, b3, q3⟩
            · cases b4
          · cases b3
        · cases b3
      · cases hb
    | _ => cases hv
end ZH

/-! KH2 -/
/-! The head's facts by names. Printed by genhead.py. -/
namespace ZH
open PySem PySem.Spec PyProof.Rows L2 He RP SaidX SupX
abbrev lw : PySem.W.OpenLaw := PySem.Challenge.rw_rowclash_k16_whole_two_tables_beside
def pg (K : PySem.W.Frag) (p : Addr) : Addr := match PySem.W.recIn K p "property" with
  | some (.ref g :: _) => g
  | _ => 0
def mkB (x : Str) (K : PySem.W.Frag) : Bool := PySem.W.makesIn K (ga K x) && (eqO (PySem.W.findIn K (.ref (ga K x)) "__class__") (some (some (.builtin "object.__class__"))) && decide (PySem.W.mroIn K (ga K x) (.type "object") = some true))
def obB (x : Str) (K : PySem.W.Frag) : Bool := eqO (PySem.W.findIn K (.ref (ga K x)) "__class__") (some (some (.builtin "object.__class__"))) && decide (PySem.W.mroIn K (ga K x) (.type "object") = some true)
def getB (K : PySem.W.Frag) : Bool := eqO (PySem.W.specialIn K (.builtin "object.__class__") "__get__") (some (some (.builtin "getset_descriptor.__get__"))) && decide (PySem.W.takesIn K (.builtin "object.__class__") = some true)
def propB (C m : Str) (K : PySem.W.Frag) : Bool := eqO (PySem.W.findIn K (.ref (ga K C)) m) (some (some (.ref (ma K (ga K C) m)))) && (eqO (PySem.W.specialIn K (.ref (ma K (ga K C) m)) "__get__") (some (some (.builtin "property.__get__"))) && (decide (PySem.W.takesIn K (.ref (ma K (ga K C) m)) = some true) &&
  (match PySem.W.recIn K (ma K (ga K C) m) "property" with
    | some (.ref g :: _) => decide (g = pg K (ma K (ga K C) m))
    | _ => false)))
def fiB (K : PySem.W.Frag) : Bool := PySem.W.fnIn K (ma K (ga K "Table") "__getitem__")
def seqB (K : PySem.W.Frag) : Bool := PySem.W.noSeq K (ga K "Table")
def addB (K : PySem.W.Frag) : Bool := PySem.W.selfFirst K (ga K "Table") && (eqO (PySem.W.findIn K (.ref (ga K "Table")) "__radd__") (some none) && ((PySem.W.findIn K (.type "tuple") "__add__").isSome && ((PySem.W.findIn K (.type "tuple") "__radd__").isSome && decide (PySem.W.subIn K (.type "tuple") (.ref (ga K "Table")) = some false))))
def tupKB (K : PySem.W.Frag) : Bool := decide (PySem.W.kitOne K (.type "tuple") (.ref (ga K "Table")) = some false)
def oiB (x : Str) (K : PySem.W.Frag) : Bool := eqO (PySem.W.findIn K (.ref (ga K x)) "__init__") (some (some (.builtin "object.__init__")))
def callB (x : Str) (K : PySem.W.Frag) : Bool := eqO (PySem.W.findIn K (.ref (ga K x)) "__call__") (some (some (.ref (ma K (ga K "Ignore") "__call__")))) && (PySem.W.isFn K (.ref (ma K (ga K "Ignore") "__call__")) && PySem.W.fnIn K (ma K (ga K "Ignore") "__call__"))
def oxB (x qual f : Str) (K : PySem.W.Frag) : Bool := oexB K (ga K x) && (iniB K (ga K x) qual lw.prog.main.file && (eqO (PySem.W.findIn K (.ref (ga K x)) "__init__") (some (some (.ref (iniA K (ga K x))))) && (decide (PySem.W.typeIn K (.ref (iniA K (ga K x))) = some (.type "function")) &&
  (eqO (PySem.W.ks_superIn K (ga K x) (ga K x) "__init__") (some (some (.builtin "ValueError.__init__"))) && (decide (PySem.W.subIn K (.ref (ga K x)) (.type "ValueError") = some true) && (eqO (PySem.W.nsIn K PySem.cStatics "thirdparty.any") (some none) && decide (PySem.W.mroIn K (ga K x) (.ref (ga K x)) = some true)))))))
def cN (K : PySem.W.Frag) (i : Nat) : Addr := ga K (wnames.getD i "")
def wdB (x : Str) (j : Nat) (K : PySem.W.Frag) : Bool := eqO (PySem.W.findIn K (.ref (ga K x)) "__getattribute__") (some (some (.builtin "BaseException.__getattribute__"))) && (eqO (PySem.W.findIn K (.ref (ga K x)) "__getattr__") (some none) && (decide (PySem.W.subIn K (.ref (ga K x)) (.type "BaseException") = some true) && (PySem.W.hasDictIn K (ga K x) &&
  (obB x K && (getB K && (((List.range 25).all fun i => decide (PySem.W.kitOne K (.ref (ga K x)) (.ref (cN K i)) = some (decide (i = j)))) && decide (PySem.W.kitOne K (.ref (ga K x)) (.type "ValueError") = some true)))))))
section
variable {K : PySem.W.Frag} {h : Heap} {mg : Str → Option Value}
theorem propB_ok {C m : Str} (h : propB C m K = true) : PropOf K (ga K C) m (ma K (ga K C) m) (pg K (ma K (ga K C) m)) := by
  obtain ⟨h1, h⟩ := ba h
  obtain ⟨h2, h⟩ := ba h
  obtain ⟨h3, h4⟩ := ba h
  refine ⟨eqO_ok h1, eqO_ok h2, of_decide_eq_true h3, ?_⟩
  split at h4
  · rename_i g r e
    exact ⟨r, by rw [e, ← of_decide_eq_true h4]⟩
  · cases h4
theorem addB_ok (h : addB K = true) : RX.AddT K (ga K "Table") "tuple" := by
  obtain ⟨h1, h⟩ := ba h
  obtain ⟨h2, h⟩ := ba h
  obtain ⟨h3, h⟩ := ba h
  obtain ⟨h4, h5⟩ := ba h
  exact ⟨h1, eqO_ok h2, Option.isSome_iff_exists.mp h3, Option.isSome_iff_exists.mp h4, of_decide_eq_true h5⟩
theorem callB_ok {x : Str} (h : callB x K = true) : StX.CallO K (ga K x) (ma K (ga K "Ignore") "__call__") := by
  obtain ⟨h1, h⟩ := ba h
  obtain ⟨h2, h3⟩ := ba h
  exact ⟨eqO_ok h1, h2, h3⟩
noncomputable def dg {x : Str} {st : Stmt} {ps : List Str} (F : ∃ fd, FunD K x x (defArgs st) (defBody st) (defScope st) [] [] (ga K x) fd) (g : mg x = some (.ref (ga K x)))
    (hb : ∀ (kV doc pm : Value) (an : Option Addr) (cdv ct : Value) (us : List Value), us.length = ps.length → bindArgs (PySem.W.fnOf x x (defArgs st) (defBody st) (defScope st) .none kV doc pm an cdv ct) ⟨us, []⟩ = pure (ps.zip us)) : DG K mg x st ps :=
  ⟨ga K x, F.choose, fun_of_D F.choose_spec, g, F.choose_spec.bindsN hb⟩
noncomputable def mgd {C : Addr} {m qual : Str} {st : Stmt} {ps : List Str} (F : ∃ fd, FunD K m qual (defArgs st) (defBody st) (defScope st) [] [] (ma K C m) fd) (g : Meth K C m (ma K C m))
    (hb : ∀ (kV doc pm : Value) (an : Option Addr) (cdv ct : Value) (us : List Value), us.length = ps.length → bindArgs (PySem.W.fnOf m qual (defArgs st) (defBody st) (defScope st) .none kV doc pm an cdv ct) ⟨us, []⟩ = pure (ps.zip us)) : MG K C m qual st ps :=
  ⟨ma K C m, F.choose, fun_of_D F.choose_spec, g, F.choose_spec.bindsN hb⟩
def cg (x : Str) (g : mg x = some (.ref (ga K x))) (cl : Cls K (ga K x)) (kp : PySem.W.keepIn K (.ref (ga K x)) = true) (h : mkB x K = true) : CG K mg x :=
  ⟨ga K x, g, cl, kp, (ba h).1, eqO_ok (ba (ba h).2).1, of_decide_eq_true (ba (ba h).2).2⟩
noncomputable def oxd {qual f : Str} {st : Stmt} (x : Str) (hv : fnI K (iniA K (ga K x)) = some (("__init__" : Str), qual, defArgs st, FuncBody.stmts (defBody st), defScope st, mainGlobals, builtinsNs)) (h : oxB x qual f K = true) (g : mg x = some (.ref (ga K x))) (no : NoAttr K (ga K x) f)
    (top : (lw.prog.main.scope.names.lookup ("super" : Str)).isSome = false)
    (hb : ∀ (kV doc pm : Value) (an : Option Addr) (cdv ct : Value) (cc : Addr) (us : List Value), us.length = (["self", f] : List Str).length → bindArgs (PySem.W.ksFn "__init__" qual (defArgs st) (defBody st) (defScope st) .none kV doc pm an cdv ct cc) ⟨us, []⟩ = pure ((["self", f] : List Str).zip us)) : OX lw.prog K mg x qual st f :=
  have h1 := (ba h).1
  have h2 := (ba (ba h).2).1
  have h3 := (ba (ba (ba h).2).2).1
  have h4 := (ba (ba (ba (ba h).2).2).2).1
  have h5 := (ba (ba (ba (ba (ba h).2).2).2).2).1
  have h6 := (ba (ba (ba (ba (ba (ba h).2).2).2).2).2).1
  have h7 := (ba (ba (ba (ba (ba (ba (ba h).2).2).2).2).2).2).1
  have h8 := (ba (ba (ba (ba (ba (ba (ba h).2).2).2).2).2).2).2
  have ex := ini_ok (P := lw.prog) hv h2
  { C := ga K x, f := iniA K (ga K x), fd := ex.choose, g := g, o := oexB_ok h1, i := eqO_ok h3, t := of_decide_eq_true h4,
    b := by
      obtain ⟨oc, od, kV, doc, pm, an, ct, osl, cda, cc, ccl, cdd, vs, ccs, file, tf, cl, cld, csl, e, _⟩ := ex.choose_spec
      rw [e]
      exact .all (hb kV doc pm an (.ref cda) ct cc)
    s := ⟨ex.choose_spec, eqO_ok h5, of_decide_eq_true h6, eqO_ok h7, of_decide_eq_true h8, top⟩
    no := no }
theorem wdB_ok {x : Str} {j : Nat} (h : wdB x j K = true) : WD K (cN K) (ga K x) j := by
  obtain ⟨h1, h⟩ := ba h
  obtain ⟨h2, h⟩ := ba h
  obtain ⟨h3, h⟩ := ba h
  obtain ⟨h4, h⟩ := ba h
  obtain ⟨h5, h⟩ := ba h
  obtain ⟨h6, h⟩ := ba h
  obtain ⟨h7, h8⟩ := ba h
  refine ⟨⟨eqO_ok h1, eqO_ok h2, of_decide_eq_true h3, h4, eqO_ok (ba h5).1, eqO_ok (ba h6).1, of_decide_eq_true (ba h6).2, of_decide_eq_true (ba h5).2⟩, fun i hi => ?_, of_decide_eq_true h8⟩
  exact of_decide_eq_true (List.all_eq_true.mp h7 i (List.mem_range.mpr hi))
end
theorem topS : (lw.prog.main.scope.names.lookup ("super" : Str)).isSome = false := by decide +kernel
def fa : List Fa := [.free "ValueError", .free "abs", .free "all", .free "bool", .free "enumerate", .free "int", .free "isinstance", .free "len", .free "list", .free "max", .free "min", .free "range", .free "sorted", .free "str", .free "tuple", .glo "is_integer", .glo "is_key", .glo "is_row", .glo "checked_rows", .glo "more_rows", .glo "keys_of", .glo "need_table", .glo "is_order", .glo "need_order", .glo "waited", .glo "path_of", .glo "end_of", .glo "rings_of", .glo "rings", .glo "by_new", .glo "groups_of", .glo "groups", .glo "trees_of", .glo "trees", .glo "waiting_for", .glo "need_no_pair", .glo "need_no_ring", .glo "ready", .glo "first_order", .glo "verdict", .glo "passes", .glo "is_free_of", .glo "shows_verdict", .glo "factorial", .glo "chains_of", .glo "orders_of", .glo "passing_orders", .glo "stages", .glo "holder_of", .glo "_law_cell_at", .glo "_law_pen", .glo "_law_draw", .glo "_law_pick", .glo "_law_mixed", .glo "_law_pairs", .glo "_law_word", .glo "_law_said", .glo "_law_near", .glo "_law_ways", .glo "_law_shuffled", .glo "_law_joined", .glo "_law_ends_right", .glo "law", .glo "Table", .cls "Table", .keep "Table", .glo "Outcome", .cls "Outcome", .keep "Outcome", .glo "Ignore", .cls "Ignore", .keep "Ignore", .glo "Replace", .cls "Replace", .keep "Replace", .meth "Table" "__getitem__", .meth "Table" "__contains__", .meth "Table" "__len__", .meth "Table" "__add__", .meth "Outcome" "__init__", .noat "Table" "wants", .mkr "Table", .noat "Outcome" "triple", .mkr "Outcome", .int "MOST_ROWS" 40, .int "KEY_BOUND" 1000000000000000000000000000000, .meth "Ignore" "settle", .meth "Replace" "settle", .meth "Ignore" "halts", .meth "Replace" "halts", .glo "Competing", .noat "Competing" "pair", .glo "Ringed", .noat "Ringed" "ring", .free "super", .glo "NotRow", .glo "NotTable", .glo "NotKey", .glo "NotKeys", .glo "NotRows", .glo "NotOrder", .glo "NotRule", .glo "NotInteger", .glo "NotScan", .glo "NotBound", .glo "NotFormula", .glo "NotDeed", .glo "NotText", .glo "NotBytes", .glo "NotLine", .glo "Missing", .glo "Impossible", .glo "TooLarge", .glo "NothingDone", .glo "Twice", .glo "Held", .glo "TooMany", .glo "Collision", .exm "Competing" "RowError" true, .exm "Ringed" "RowError" true, .glo "RowError"]
def fn : List He5.DefA := [
  ⟨fun K => ga K "is_integer", "is_integer", "is_integer", defArgs sIsInteger, defBody sIsInteger, defScope sIsInteger, [], []⟩,
  ⟨fun K => ga K "is_key", "is_key", "is_key", defArgs sIsKey, defBody sIsKey, defScope sIsKey, [], []⟩,
  ⟨fun K => ga K "is_row", "is_row", "is_row", defArgs sIsRow, defBody sIsRow, defScope sIsRow, [], []⟩,
  ⟨fun K => ga K "checked_rows", "checked_rows", "checked_rows", defArgs sCheckedRows, defBody sCheckedRows, defScope sCheckedRows, [], []⟩,
  ⟨fun K => ga K "more_rows", "more_rows", "more_rows", defArgs sMoreRows, defBody sMoreRows, defScope sMoreRows, [], []⟩,
  ⟨fun K => ga K "keys_of", "keys_of", "keys_of", defArgs sKeysOf, defBody sKeysOf, defScope sKeysOf, [], []⟩,
  ⟨fun K => ga K "need_table", "need_table", "need_table", defArgs sNeedTable, defBody sNeedTable, defScope sNeedTable, [], []⟩,
  ⟨fun K => ga K "is_order", "is_order", "is_order", defArgs sIsOrder, defBody sIsOrder, defScope sIsOrder, [], []⟩,
  ⟨fun K => ga K "need_order", "need_order", "need_order", defArgs sNeedOrder, defBody sNeedOrder, defScope sNeedOrder, [], []⟩,
  ⟨fun K => ga K "waited", "waited", "waited", defArgs sWaited, defBody sWaited, defScope sWaited, [], []⟩,
  ⟨fun K => ga K "path_of", "path_of", "path_of", defArgs sPathOf, defBody sPathOf, defScope sPathOf, [], []⟩,
  ⟨fun K => ga K "end_of", "end_of", "end_of", defArgs sEndOf, defBody sEndOf, defScope sEndOf, [], []⟩,
  ⟨fun K => ga K "rings_of", "rings_of", "rings_of", defArgs sRingsOf, defBody sRingsOf, defScope sRingsOf, [], []⟩,
  ⟨fun K => ga K "rings", "rings", "rings", defArgs sRings, defBody sRings, defScope sRings, [], []⟩,
  ⟨fun K => ga K "by_new", "by_new", "by_new", defArgs sByNew, defBody sByNew, defScope sByNew, [], []⟩,
  ⟨fun K => ga K "groups_of", "groups_of", "groups_of", defArgs sGroupsOf, defBody sGroupsOf, defScope sGroupsOf, [], []⟩,
  ⟨fun K => ga K "groups", "groups", "groups", defArgs sGroups, defBody sGroups, defScope sGroups, [], []⟩,
  ⟨fun K => ga K "trees_of", "trees_of", "trees_of", defArgs sTreesOf, defBody sTreesOf, defScope sTreesOf, [], []⟩,
  ⟨fun K => ga K "trees", "trees", "trees", defArgs sTrees, defBody sTrees, defScope sTrees, [], []⟩,
  ⟨fun K => ga K "waiting_for", "waiting_for", "waiting_for", defArgs sWaitingFor, defBody sWaitingFor, defScope sWaitingFor, [], []⟩,
  ⟨fun K => ga K "need_no_pair", "need_no_pair", "need_no_pair", defArgs sNeedNoPair, defBody sNeedNoPair, defScope sNeedNoPair, [], []⟩,
  ⟨fun K => ga K "need_no_ring", "need_no_ring", "need_no_ring", defArgs sNeedNoRing, defBody sNeedNoRing, defScope sNeedNoRing, [], []⟩,
  ⟨fun K => ga K "ready", "ready", "ready", defArgs sReady, defBody sReady, defScope sReady, [], []⟩,
  ⟨fun K => ga K "first_order", "first_order", "first_order", defArgs sFirstOrder, defBody sFirstOrder, defScope sFirstOrder, [], []⟩,
  ⟨fun K => ga K "verdict", "verdict", "verdict", defArgs sVerdict, defBody sVerdict, defScope sVerdict, [], []⟩,
  ⟨fun K => ga K "passes", "passes", "passes", defArgs sPasses, defBody sPasses, defScope sPasses, [], []⟩,
  ⟨fun K => ga K "is_free_of", "is_free_of", "is_free_of", defArgs sIsFreeOf, defBody sIsFreeOf, defScope sIsFreeOf, [], []⟩,
  ⟨fun K => ga K "shows_verdict", "shows_verdict", "shows_verdict", defArgs sShowsVerdict, defBody sShowsVerdict, defScope sShowsVerdict, [], []⟩,
  ⟨fun K => ga K "factorial", "factorial", "factorial", defArgs sFactorial, defBody sFactorial, defScope sFactorial, [], []⟩,
  ⟨fun K => ga K "chains_of", "chains_of", "chains_of", defArgs sChainsOf, defBody sChainsOf, defScope sChainsOf, [], []⟩,
  ⟨fun K => ga K "orders_of", "orders_of", "orders_of", defArgs sOrdersOf, defBody sOrdersOf, defScope sOrdersOf, [], []⟩,
  ⟨fun K => ga K "passing_orders", "passing_orders", "passing_orders", defArgs sPassingOrders, defBody sPassingOrders, defScope sPassingOrders, [], []⟩,
  ⟨fun K => ga K "stages", "stages", "stages", defArgs sStages, defBody sStages, defScope sStages, [], []⟩,
  ⟨fun K => ga K "holder_of", "holder_of", "holder_of", defArgs sHolderOf, defBody sHolderOf, defScope sHolderOf, [], []⟩,
  ⟨fun K => ga K "_law_cell_at", "_law_cell_at", "_law_cell_at", defArgs sLawCellAt, defBody sLawCellAt, defScope sLawCellAt, [], []⟩,
  ⟨fun K => ga K "_law_pen", "_law_pen", "_law_pen", defArgs sLawPen, defBody sLawPen, defScope sLawPen, [], []⟩,
  ⟨fun K => ga K "_law_draw", "_law_draw", "_law_draw", defArgs sLawDraw, defBody sLawDraw, defScope sLawDraw, [], []⟩,
  ⟨fun K => ga K "_law_pick", "_law_pick", "_law_pick", defArgs sLawPick, defBody sLawPick, defScope sLawPick, [], []⟩,
  ⟨fun K => ga K "_law_mixed", "_law_mixed", "_law_mixed", defArgs sLawMixed, defBody sLawMixed, defScope sLawMixed, [], []⟩,
  ⟨fun K => ga K "_law_pairs", "_law_pairs", "_law_pairs", defArgs sLawPairs, defBody sLawPairs, defScope sLawPairs, [], []⟩,
  ⟨fun K => ga K "_law_word", "_law_word", "_law_word", defArgs sLawWord, defBody sLawWord, defScope sLawWord, [], []⟩,
  ⟨fun K => ga K "_law_said", "_law_said", "_law_said", defArgs sLawSaid, defBody sLawSaid, defScope sLawSaid, [], []⟩,
  ⟨fun K => ga K "_law_near", "_law_near", "_law_near", defArgs sLawNear, defBody sLawNear, defScope sLawNear, [], []⟩,
  ⟨fun K => ga K "_law_ways", "_law_ways", "_law_ways", defArgs sLawWays, defBody sLawWays, defScope sLawWays, [], []⟩,
  ⟨fun K => ga K "_law_shuffled", "_law_shuffled", "_law_shuffled", defArgs sLawShuffled, defBody sLawShuffled, defScope sLawShuffled, [], []⟩,
  ⟨fun K => ga K "_law_joined", "_law_joined", "_law_joined", defArgs sLawJoined, defBody sLawJoined, defScope sLawJoined, [], []⟩,
  ⟨fun K => ga K "_law_ends_right", "_law_ends_right", "_law_ends_right", defArgs sLawEndsRight, defBody sLawEndsRight, defScope sLawEndsRight, [], []⟩,
  ⟨fun K => ga K "law", "law", "law", defArgs sLaw, defBody sLaw, defScope sLaw, [], []⟩,
  ⟨fun K => pg K (ma K (ga K "Table") "rows"), "rows", "Table.rows", defArgs sTableRows, defBody sTableRows, defScope sTableRows, [], []⟩,
  ⟨fun K => pg K (ma K (ga K "Outcome") "stop"), "stop", "Outcome.stop", defArgs sOutcomeStop, defBody sOutcomeStop, defScope sOutcomeStop, [], []⟩,
  ⟨fun K => pg K (ma K (ga K "Outcome") "ends"), "ends", "Outcome.ends", defArgs sOutcomeEnds, defBody sOutcomeEnds, defScope sOutcomeEnds, [], []⟩,
  ⟨fun K => ma K (ga K "Table") "__getitem__", "__getitem__", "Table.__getitem__", defArgs sTableGetitem, defBody sTableGetitem, defScope sTableGetitem, [], []⟩,
  ⟨fun K => ma K (ga K "Table") "__contains__", "__contains__", "Table.__contains__", defArgs sTableContains, defBody sTableContains, defScope sTableContains, [], []⟩,
  ⟨fun K => ma K (ga K "Table") "__len__", "__len__", "Table.__len__", defArgs sTableLen, defBody sTableLen, defScope sTableLen, [], []⟩,
  ⟨fun K => ma K (ga K "Table") "__add__", "__add__", "Table.__add__", defArgs sTableAdd, defBody sTableAdd, defScope sTableAdd, [], []⟩,
  ⟨fun K => ma K (ga K "Outcome") "__init__", "__init__", "Outcome.__init__", defArgs sOutcomeInit, defBody sOutcomeInit, defScope sOutcomeInit, [], []⟩,
  ⟨fun K => ma K (ga K "Table") "__init__", "__init__", "Table.__init__", defArgs sTableInit, defBody sTableInit, defScope sTableInit, [], []⟩,
  ⟨fun K => ma K (ga K "Ignore") "__call__", "__call__", "Rule.__call__", defArgs sRuleCall, defBody sRuleCall, defScope sRuleCall, [], []⟩,
  ⟨fun K => ma K (ga K "Ignore") "settle", "settle", "Leaves.settle", defArgs sLeavesSettle, defBody sLeavesSettle, defScope sLeavesSettle, [], []⟩,
  ⟨fun K => ma K (ga K "Replace") "settle", "settle", "Removes.settle", defArgs sRemovesSettle, defBody sRemovesSettle, defScope sRemovesSettle, [], []⟩,
  ⟨fun K => ma K (ga K "Ignore") "halts", "halts", "Continues.halts", defArgs sContinuesHalts, defBody sContinuesHalts, defScope sContinuesHalts, [], []⟩,
  ⟨fun K => ma K (ga K "Replace") "halts", "halts", "Continues.halts", defArgs sContinuesHalts, defBody sContinuesHalts, defScope sContinuesHalts, [], []⟩]
def ini : List IniD := [(fun K => iniA K (ga K "Competing"), some (("__init__" : Str), ("Competing.__init__" : Str), defArgs sCompetingInit, FuncBody.stmts (defBody sCompetingInit), defScope sCompetingInit, mainGlobals, builtinsNs)),
  (fun K => iniA K (ga K "Ringed"), some (("__init__" : Str), ("Ringed.__init__" : Str), defArgs sRingedInit, FuncBody.stmts (defBody sRingedInit), defScope sRingedInit, mainGlobals, builtinsNs))]
def exL : List (PySem.W.Frag → Bool) := [mkB "Table", mkB "Outcome", mkB "Ignore", mkB "Replace", getB, propB "Table" "rows", propB "Outcome" "stop", propB "Outcome" "ends", fiB, seqB, addB, tupKB, oiB "Ignore", oiB "Replace", callB "Ignore", callB "Replace", oxB "Competing" "Competing.__init__" "pair", oxB "Ringed" "Ringed.__init__" "ring", wdB "Competing" 22, wdB "Ringed" 23]
def tf : List Defn := [("law", none)]
section
variable {K : PySem.W.Frag} {h : Heap} {mg : Str → Option Value}
noncomputable def tx (X : K.In h) (G : h.Ns mainGlobals mg) (c : SaysZ fa fn ini exL tf h K) : TX K mg where
  n_ValueError := free_ok X G (c.fact 0)
  n_abs := free_ok X G (c.fact 1)
  n_all := free_ok X G (c.fact 2)
  n_bool := free_ok X G (c.fact 3)
  n_enumerate := free_ok X G (c.fact 4)
  n_int := free_ok X G (c.fact 5)
  n_isinstance := free_ok X G (c.fact 6)
  n_len := free_ok X G (c.fact 7)
  n_list := free_ok X G (c.fact 8)
  n_max := free_ok X G (c.fact 9)
  n_min := free_ok X G (c.fact 10)
  n_range := free_ok X G (c.fact 11)
  n_sorted := free_ok X G (c.fact 12)
  n_str := free_ok X G (c.fact 13)
  n_tuple := free_ok X G (c.fact 14)
  d_is_integer := dg (c.def_ 0) (glo_ok X G (c.fact 15)) (fun _ _ _ _ _ _ us hl => match us, hl with | [_], _ => rfl)
  d_is_key := dg (c.def_ 1) (glo_ok X G (c.fact 16)) (fun _ _ _ _ _ _ us hl => match us, hl with | [_], _ => rfl)
  d_is_row := dg (c.def_ 2) (glo_ok X G (c.fact 17)) (fun _ _ _ _ _ _ us hl => match us, hl with | [_], _ => rfl)
  d_checked_rows := dg (c.def_ 3) (glo_ok X G (c.fact 18)) (fun _ _ _ _ _ _ us hl => match us, hl with | [_], _ => rfl)
  d_more_rows := dg (c.def_ 4) (glo_ok X G (c.fact 19)) (fun _ _ _ _ _ _ us hl => match us, hl with | [_], _ => rfl)
  d_keys_of := dg (c.def_ 5) (glo_ok X G (c.fact 20)) (fun _ _ _ _ _ _ us hl => match us, hl with | [_], _ => rfl)
  d_need_table := dg (c.def_ 6) (glo_ok X G (c.fact 21)) (fun _ _ _ _ _ _ us hl => match us, hl with | [_], _ => rfl)
  d_is_order := dg (c.def_ 7) (glo_ok X G (c.fact 22)) (fun _ _ _ _ _ _ us hl => match us, hl with | [_, _], _ => rfl)
  d_need_order := dg (c.def_ 8) (glo_ok X G (c.fact 23)) (fun _ _ _ _ _ _ us hl => match us, hl with | [_, _], _ => rfl)
  d_waited := dg (c.def_ 9) (glo_ok X G (c.fact 24)) (fun _ _ _ _ _ _ us hl => match us, hl with | [_, _], _ => rfl)
  d_path_of := dg (c.def_ 10) (glo_ok X G (c.fact 25)) (fun _ _ _ _ _ _ us hl => match us, hl with | [_, _], _ => rfl)
  d_end_of := dg (c.def_ 11) (glo_ok X G (c.fact 26)) (fun _ _ _ _ _ _ us hl => match us, hl with | [_, _], _ => rfl)
  d_rings_of := dg (c.def_ 12) (glo_ok X G (c.fact 27)) (fun _ _ _ _ _ _ us hl => match us, hl with | [_], _ => rfl)
  d_rings := dg (c.def_ 13) (glo_ok X G (c.fact 28)) (fun _ _ _ _ _ _ us hl => match us, hl with | [_], _ => rfl)
  d_by_new := dg (c.def_ 14) (glo_ok X G (c.fact 29)) (fun _ _ _ _ _ _ us hl => match us, hl with | [_], _ => rfl)
  d_groups_of := dg (c.def_ 15) (glo_ok X G (c.fact 30)) (fun _ _ _ _ _ _ us hl => match us, hl with | [_], _ => rfl)
  d_groups := dg (c.def_ 16) (glo_ok X G (c.fact 31)) (fun _ _ _ _ _ _ us hl => match us, hl with | [_], _ => rfl)
  d_trees_of := dg (c.def_ 17) (glo_ok X G (c.fact 32)) (fun _ _ _ _ _ _ us hl => match us, hl with | [_], _ => rfl)
  d_trees := dg (c.def_ 18) (glo_ok X G (c.fact 33)) (fun _ _ _ _ _ _ us hl => match us, hl with | [_], _ => rfl)
  d_waiting_for := dg (c.def_ 19) (glo_ok X G (c.fact 34)) (fun _ _ _ _ _ _ us hl => match us, hl with | [_, _], _ => rfl)
  d_need_no_pair := dg (c.def_ 20) (glo_ok X G (c.fact 35)) (fun _ _ _ _ _ _ us hl => match us, hl with | [_], _ => rfl)
  d_need_no_ring := dg (c.def_ 21) (glo_ok X G (c.fact 36)) (fun _ _ _ _ _ _ us hl => match us, hl with | [_], _ => rfl)
  d_ready := dg (c.def_ 22) (glo_ok X G (c.fact 37)) (fun _ _ _ _ _ _ us hl => match us, hl with | [_, _], _ => rfl)
  d_first_order := dg (c.def_ 23) (glo_ok X G (c.fact 38)) (fun _ _ _ _ _ _ us hl => match us, hl with | [_], _ => rfl)
  d_verdict := dg (c.def_ 24) (glo_ok X G (c.fact 39)) (fun _ _ _ _ _ _ us hl => match us, hl with | [_], _ => rfl)
  d_passes := dg (c.def_ 25) (glo_ok X G (c.fact 40)) (fun _ _ _ _ _ _ us hl => match us, hl with | [_, _], _ => rfl)
  d_is_free_of := dg (c.def_ 26) (glo_ok X G (c.fact 41)) (fun _ _ _ _ _ _ us hl => match us, hl with | [_], _ => rfl)
  d_shows_verdict := dg (c.def_ 27) (glo_ok X G (c.fact 42)) (fun _ _ _ _ _ _ us hl => match us, hl with | [_, _], _ => rfl)
  d_factorial := dg (c.def_ 28) (glo_ok X G (c.fact 43)) (fun _ _ _ _ _ _ us hl => match us, hl with | [_], _ => rfl)
  d_chains_of := dg (c.def_ 29) (glo_ok X G (c.fact 44)) (fun _ _ _ _ _ _ us hl => match us, hl with | [_], _ => rfl)
  d_orders_of := dg (c.def_ 30) (glo_ok X G (c.fact 45)) (fun _ _ _ _ _ _ us hl => match us, hl with | [_], _ => rfl)
  d_passing_orders := dg (c.def_ 31) (glo_ok X G (c.fact 46)) (fun _ _ _ _ _ _ us hl => match us, hl with | [_], _ => rfl)
  d_stages := dg (c.def_ 32) (glo_ok X G (c.fact 47)) (fun _ _ _ _ _ _ us hl => match us, hl with | [_], _ => rfl)
  d_holder_of := dg (c.def_ 33) (glo_ok X G (c.fact 48)) (fun _ _ _ _ _ _ us hl => match us, hl with | [_, _], _ => rfl)
  d_law_cell_at := dg (c.def_ 34) (glo_ok X G (c.fact 49)) (fun _ _ _ _ _ _ us hl => match us, hl with | [_, _], _ => rfl)
  d_law_pen := dg (c.def_ 35) (glo_ok X G (c.fact 50)) (fun _ _ _ _ _ _ us hl => match us, hl with | [_], _ => rfl)
  d_law_draw := dg (c.def_ 36) (glo_ok X G (c.fact 51)) (fun _ _ _ _ _ _ us hl => match us, hl with | [_, _], _ => rfl)
  d_law_pick := dg (c.def_ 37) (glo_ok X G (c.fact 52)) (fun _ _ _ _ _ _ us hl => match us, hl with | [_, _], _ => rfl)
  d_law_mixed := dg (c.def_ 38) (glo_ok X G (c.fact 53)) (fun _ _ _ _ _ _ us hl => match us, hl with | [_, _], _ => rfl)
  d_law_pairs := dg (c.def_ 39) (glo_ok X G (c.fact 54)) (fun _ _ _ _ _ _ us hl => match us, hl with | [_, _], _ => rfl)
  d_law_word := dg (c.def_ 40) (glo_ok X G (c.fact 55)) (fun _ _ _ _ _ _ us hl => match us, hl with | [_], _ => rfl)
  d_law_said := dg (c.def_ 41) (glo_ok X G (c.fact 56)) (fun _ _ _ _ _ _ us hl => match us, hl with | [_], _ => rfl)
  d_law_near := dg (c.def_ 42) (glo_ok X G (c.fact 57)) (fun _ _ _ _ _ _ us hl => match us, hl with | [_], _ => rfl)
  d_law_ways := dg (c.def_ 43) (glo_ok X G (c.fact 58)) (fun _ _ _ _ _ _ us hl => match us, hl with | [_, _], _ => rfl)
  d_law_shuffled := dg (c.def_ 44) (glo_ok X G (c.fact 59)) (fun _ _ _ _ _ _ us hl => match us, hl with | [_, _, _], _ => rfl)
  d_law_joined := dg (c.def_ 45) (glo_ok X G (c.fact 60)) (fun _ _ _ _ _ _ us hl => match us, hl with | [_, _], _ => rfl)
  d_law_ends_right := dg (c.def_ 46) (glo_ok X G (c.fact 61)) (fun _ _ _ _ _ _ us hl => match us, hl with | [_, _, _, _], _ => rfl)
  d_law := dg (c.def_ 47) (glo_ok X G (c.fact 62)) (fun _ _ _ _ _ _ us hl => match us, hl with | [_], _ => rfl)
  cTable := cg "Table" (glo_ok X G (c.fact 63)) (cls_ok (c.fact 64)) (keep_ok (c.fact 65)) (c.more 0)
  cOutcome := cg "Outcome" (glo_ok X G (c.fact 66)) (cls_ok (c.fact 67)) (keep_ok (c.fact 68)) (c.more 1)
  cIgnore := cg "Ignore" (glo_ok X G (c.fact 69)) (cls_ok (c.fact 70)) (keep_ok (c.fact 71)) (c.more 2)
  cReplace := cg "Replace" (glo_ok X G (c.fact 72)) (cls_ok (c.fact 73)) (keep_ok (c.fact 74)) (c.more 3)
  g_get := eqO_ok (ba (c.more 4)).1
  g_tak := of_decide_eq_true (ba (c.more 4)).2
  pTable_rows := ma K (ga K "Table") "rows"
  mTable_rows_f := pg K (ma K (ga K "Table") "rows")
  mTable_rows_fd := (c.def_ 48).choose
  mTable_rows_F := fun_of_D (c.def_ 48).choose_spec
  mTable_rows_p := propB_ok (c.more 5)
  mTable_rows_b := (c.def_ 48).choose_spec.bindsN (fun _ _ _ _ _ _ us hl => match us, hl with | [_], _ => rfl)
  pOutcome_stop := ma K (ga K "Outcome") "stop"
  mOutcome_stop_f := pg K (ma K (ga K "Outcome") "stop")
  mOutcome_stop_fd := (c.def_ 49).choose
  mOutcome_stop_F := fun_of_D (c.def_ 49).choose_spec
  mOutcome_stop_p := propB_ok (c.more 6)
  mOutcome_stop_b := (c.def_ 49).choose_spec.bindsN (fun _ _ _ _ _ _ us hl => match us, hl with | [_], _ => rfl)
  pOutcome_ends := ma K (ga K "Outcome") "ends"
  mOutcome_ends_f := pg K (ma K (ga K "Outcome") "ends")
  mOutcome_ends_fd := (c.def_ 50).choose
  mOutcome_ends_F := fun_of_D (c.def_ 50).choose_spec
  mOutcome_ends_p := propB_ok (c.more 7)
  mOutcome_ends_b := (c.def_ 50).choose_spec.bindsN (fun _ _ _ _ _ _ us hl => match us, hl with | [_], _ => rfl)
  mTable_getitem := mgd (c.def_ 51) (meth_ok (c.fact 75)) (fun _ _ _ _ _ _ us hl => match us, hl with | [_, _], _ => rfl)
  mTable_contains := mgd (c.def_ 52) (meth_ok (c.fact 76)) (fun _ _ _ _ _ _ us hl => match us, hl with | [_, _], _ => rfl)
  mTable_len := mgd (c.def_ 53) (meth_ok (c.fact 77)) (fun _ _ _ _ _ _ us hl => match us, hl with | [_], _ => rfl)
  mTable_add := mgd (c.def_ 54) (meth_ok (c.fact 78)) (fun _ _ _ _ _ _ us hl => match us, hl with | [_, _], _ => rfl)
  mOutcome_init := mgd (c.def_ 55) (meth_ok (c.fact 79)) (fun _ _ _ _ _ _ us hl => match us, hl with | [_, _, _, _], _ => rfl)
  tWants := noat_ok (c.fact 80)
  tInit_f := ma K (ga K "Table") "__init__"
  tInit_fd := (c.def_ 56).choose
  tInit_F := fun_of_D (c.def_ 56).choose_spec
  tInit_m := mkr_ok (c.fact 81)
  tGet_fi := (c.more 8)
  tSeq := (c.more 9)
  tAdd := addB_ok (c.more 10)
  tIsTup := of_decide_eq_true (c.more 11)
  oTriple := noat_ok (c.fact 82)
  oInit := mkr_ok (c.fact 83)
  mostRows := int_ok X G (c.fact 84)
  keyBound := int_ok X G (c.fact 85)
  iInit := eqO_ok (c.more 12)
  rInit := eqO_ok (c.more 13)
  callF := ma K (ga K "Ignore") "__call__"
  iCall := callB_ok (c.more 14)
  rCall := callB_ok (c.more 15)
  call_fd := (c.def_ 57).choose
  call_F := fun_of_D (c.def_ 57).choose_spec
  call_b := (c.def_ 57).choose_spec.bindsN (fun _ _ _ _ _ _ us hl => match us, hl with | [_, _, _], _ => rfl)
  iSettle := mgd (c.def_ 58) (meth_ok (c.fact 86)) (fun _ _ _ _ _ _ us hl => match us, hl with | [_, _, _, _, _], _ => rfl)
  rSettle := mgd (c.def_ 59) (meth_ok (c.fact 87)) (fun _ _ _ _ _ _ us hl => match us, hl with | [_, _, _, _, _], _ => rfl)
  iHalts := mgd (c.def_ 60) (meth_ok (c.fact 88)) (fun _ _ _ _ _ _ us hl => match us, hl with | [_], _ => rfl)
  rHalts := mgd (c.def_ 61) (meth_ok (c.fact 89)) (fun _ _ _ _ _ _ us hl => match us, hl with | [_], _ => rfl)
noncomputable def exx (X : K.In h) (G : h.Ns mainGlobals mg) (c : SaysZ fa fn ini exL tf h K) : EX lw.prog K mg where
  comp := oxd "Competing" (c.ini_ 0) (c.more 16) (glo_ok X G (c.fact 90)) (noat_ok (c.fact 91)) topS (fun _ _ _ _ _ _ _ us hl => match us, hl with | [_, _], _ => rfl)
  ring := oxd "Ringed" (c.ini_ 1) (c.more 17) (glo_ok X G (c.fact 92)) (noat_ok (c.fact 93)) topS (fun _ _ _ _ _ _ _ us hl => match us, hl with | [_, _], _ => rfl)
  n_super := free_ok X G (c.fact 94)
def wn (X : K.In h) (G : h.Ns mainGlobals mg) (c : SaysZ fa fn ini exL tf h K) : WN mg where
  c := cN K
  g := fun i x e => by
    match i, e with
    | 0, e => cases e; exact glo_ok X G (c.fact 95)
    | 1, e => cases e; exact glo_ok X G (c.fact 96)
    | 2, e => cases e; exact glo_ok X G (c.fact 97)
    | 3, e => cases e; exact glo_ok X G (c.fact 98)
    | 4, e => cases e; exact glo_ok X G (c.fact 99)
    | 5, e => cases e; exact glo_ok X G (c.fact 100)
    | 6, e => cases e; exact glo_ok X G (c.fact 101)
    | 7, e => cases e; exact glo_ok X G (c.fact 102)
    | 8, e => cases e; exact glo_ok X G (c.fact 103)
    | 9, e => cases e; exact glo_ok X G (c.fact 104)
    | 10, e => cases e; exact glo_ok X G (c.fact 105)
    | 11, e => cases e; exact glo_ok X G (c.fact 106)
    | 12, e => cases e; exact glo_ok X G (c.fact 107)
    | 13, e => cases e; exact glo_ok X G (c.fact 108)
    | 14, e => cases e; exact glo_ok X G (c.fact 109)
    | 15, e => cases e; exact glo_ok X G (c.fact 110)
    | 16, e => cases e; exact glo_ok X G (c.fact 111)
    | 17, e => cases e; exact glo_ok X G (c.fact 112)
    | 18, e => cases e; exact glo_ok X G (c.fact 113)
    | 19, e => cases e; exact glo_ok X G (c.fact 114)
    | 20, e => cases e; exact glo_ok X G (c.fact 115)
    | 21, e => cases e; exact glo_ok X G (c.fact 116)
    | 22, e => cases e; exact glo_ok X G (c.fact 90)
    | 23, e => cases e; exact glo_ok X G (c.fact 92)
    | 24, e => cases e; exact glo_ok X G (c.fact 117)
    | i + 25, e => cases e
theorem rowE (X : K.In h) (G : h.Ns mainGlobals mg) (c : SaysZ fa fn ini exL tf h K) : mg "RowError" = some (.ref (ga K "RowError")) := glo_ok X G (c.fact 120)
theorem okC (c : SaysZ fa fn ini exL tf h K) : SaidOk K (cN K) (ga K "RowError") (ga K "Competing") 22 := ⟨.inl rfl, wdB_ok (c.more 18), exm_ok (c.fact 118), noat_ok (c.fact 91)⟩
theorem okR (c : SaysZ fa fn ini exL tf h K) : SaidOk K (cN K) (ga K "RowError") (ga K "Ringed") 23 := ⟨.inr rfl, wdB_ok (c.more 19), exm_ok (c.fact 119), noat_ok (c.fact 93)⟩
theorem lawF (c : SaysZ fa fn ini exL tf h K) : ∃ fd, FunD K "law" "law" (defArgs sLaw) (defBody sLaw) (defScope sLaw) [] [] (ga K "law") fd := c.def_ 47
theorem lawGlo (X : K.In h) (G : h.Ns mainGlobals mg) (c : SaysZ fa fn ini exL tf h K) : mg "law" = some (.ref (ga K "law")) := glo_ok X G (c.fact 62)
end
end ZH

/-! KH3 -/
/-! The run of the top, and the law. -/
namespace ZH
open PySem PySem.Spec PyProof.Rows L2 He RP SaidX SupX
abbrev R : PySem.W.OpenRow := PySem.W.OpenLaw.row lw
abbrev qv : Program := PySem.W.view R.prog [96]
def names1 : List PySem.Str := ["_wall", "RowError", "NotRow", "NotTable", "NotKey", "NotKeys", "NotRows", "NotOrder", "NotRule", "NotInteger", "NotScan", "NotBound", "NotFormula", "NotDeed", "NotText", "NotBytes", "NotLine", "Missing", "Impossible", "TooLarge", "NothingDone", "Twice", "Held", "TooMany", "Competing", "Ringed", "Collision", "MOST_ROWS", "KEY_BOUND"]
def names2 : List PySem.Str := ["is_integer", "is_key", "is_row", "is_ascending", "checked_rows", "more_rows", "Table", "keys_of", "need_table", "is_set", "need_rows", "is_order", "need_order", "waited", "path_of", "end_of", "rings_of", "rings", "by_new", "groups_of", "groups", "trees_of", "trees", "waiting_for"]
def names3 : List PySem.Str := ["need_no_pair", "need_no_ring", "ready", "first_order", "verdict", "passes", "is_free_of", "is_pair", "is_ring", "shows_verdict", "factorial", "chains_of", "orders_of", "passing_orders", "stages", "Outcome", "holder_of", "Rule", "Continues", "Leaves", "Removes", "Ignore", "Replace"]
def names4 : List PySem.Str := ["_law_cell_at", "_law_pen", "_law_draw", "_law_pick", "_law_mixed", "_law_pairs", "_law_word", "_law_said", "_law_near", "_law_ways", "_law_shuffled", "_law_joined", "_law_ends_right"]
def names : List PySem.Str := names1 ++ names2 ++ names3 ++ names4
abbrev hk : PySem.W.Hook := hookZ 5 fa fn ini exL tf
def ob (s : PySem.W.SharedT) : AlZ := obsZ 5 fa fn ini exL tf (HandSHeadRun.getT s)
theorem ob_eq (s : PySem.W.SharedT) : ob s = hk.obs s.abs := obsZ_eq 5 fa fn ini exL tf (HandSHeadRun.getT_eq s)
theorem run (w : World) : HandSHeadRun.RunEq R qv hk ob 20000 names w := by
  intro os
  kernel_rfl
theorem at_law {w : World} {K : PySem.W.Frag} {mg : Str → Option Value} {fA : Addr} {h : Heap} (X : K.In h) (G : h.Ns mainGlobals mg) (c : SaysZ fa fn ini exL tf h K) (hfa : mg ("law" : Str) = some (.ref fA)) : LamX.LawAtS lw w K CX0 14 63 "_law_script" mg fA h := by
  obtain rfl : ga K "law" = fA := by
    have e := (lawGlo X G c).symm.trans hfa
    cases e
    rfl
  have mem : ((("law" : Str), none) : Defn) ∈ tf := List.mem_singleton.mpr rfl
  obtain ⟨oc, od, kV, doc, pm, an, cdv, ct, osl, e, lk, hcd⟩ := (tx X G c).d_law.F.ex
  obtain ⟨cc, rfl⟩ := codeIn_ref hcd
  have hcode : (tx X G c).d_law.fd.code = .ref cc := by rw [e] <;> rfl
  have ecc : codeOf K (("law" : Str), none) = cc := codeOf_eq (p := (("law" : Str), none)) lk hcode
  refine ⟨(tx X G c).d_law.fd, [cT K (("law" : Str), none)], spLaw K (cT K (("law" : Str), none)).2, fun p hp => ?_, fun p hp => ?_, fun p hp => ?_, fun s u => ?_, fun H a ns hl _ hT hS => ?_, fun base hb hn hTB => ?_⟩
  · rw [List.mem_singleton.mp hp]
    exact c.empty _ mem
  · rw [List.mem_singleton.mp hp]
    exact c.out _ mem
  · rw [List.mem_singleton.mp hp]
    exact PySem.W.codeHd_of_K X (c.hd _ mem)
  · exact FunD.bindsA (ps := ["_law_script"]) (lawF c).choose_spec (fun _ _ _ _ _ _ us hl => match us, hl with | [_], _ => rfl) s [u] rfl
  · refine ⟨a, ns, rfl, hS, Nat.le_trans hl (by decide), fun q hq => ?_, fun _ => rfl⟩
    rw [List.mem_singleton.mp hq]
    exact LamX.TabS.nil (hT _ (List.mem_singleton.mpr rfl))
  · have TB := hTB _ (List.mem_singleton.mpr rfl)
    have eT : (cT K (("law" : Str), none)).1 = cc := ecc
    rw [eT] at TB
    exact ok_law (P := lw.prog) (tx X G c) (exx X G c) (wn X G c) (tx X G c).n_ValueError (rowE X G c) (okC c) (okR c) TB hcode
end ZH

/-! KH4 -/
open PySem PySem.W PySem.Calls PyProof.Rows
theorem PySem.Challenge.cw_rowclash_k16_whole_two_tables_beside_holds : PySem.Challenge.rw_rowclash_k16_whole_two_tables_beside.Holds := by
  w_on; o_law
  refine HandSHeadRun.head_any (r := OpenLaw.row PySem.Challenge.rw_rowclash_k16_whole_two_tables_beside) (q := ZH.qv) (H := ZH.hk) (ob := ZH.ob) (M := 20000) (loose := ZH.names) (d := HandSHeadRun.topDef (OpenLaw.row PySem.Challenge.rw_rowclash_k16_whole_two_tables_beside).prog 96) (kwd := []) ZH.ob_eq
    (by kernel_rfl) (fun s => by kernel_rfl) ZH.run (by kernel_rfl) (by kernel_rfl) (by kernel_rfl) (by rfl) (by first | assumption | decide +kernel) (by decide +kernel) ⟨rfl, rfl, rfl, rfl, rfl, by decide +kernel⟩ ?hw ?hc
  case hw => w_witness2
  case hc =>
    refine LamX.walk_ofTsE (l := PySem.Challenge.rw_rowclash_k16_whole_two_tables_beside) (n := 63) (k := 14) (x := "_law_script") (CX := fun _ => L2.CX0) rfl (by decide) (by kernel_rfl) ⟨rfl, by decide, by decide⟩ ?F (fun _ _ _ _ _ z => z)
    intro w mg fa h Y G hmg0
    obtain ⟨K, KX, c⟩ := Y
    have hmg : mg ("law" : PySem.Str) = some (.ref fa) := by
      have e : (HandSHeadRun.topDef (OpenLaw.row PySem.Challenge.rw_rowclash_k16_whole_two_tables_beside).prog 96).name = ("law" : PySem.Str) := by kernel_rfl
      rw [← e]
      exact hmg0
    exact ⟨K, KX, ZH.at_law KX G c hmg⟩

