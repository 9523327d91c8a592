import PyProof.Rows.All
import Wide.All
import OpenK.AllK
import Wide.FinOn
import KE.KStateDown
import KE.KExcIs
import KE.KExcInit
import KE.KTryMore
import KE.GoesEnum
import HandS.ForMost
import HandS.Exc
import HandS.ExcIs
import HandS.ExcField
import HandS.ExcOwn
import HandS.TryOnly
import HandS.TryMany
import HandS.WordsExc
import HandS.CallSlots
import HandS.HotCalls
import HandS.IsInst
import HandS.Conv
import HandS.TupAny
import HandS.SortRule
import HandS.WideBits
import HandS.Walk
import HandS.RaiseMore
import HandS.Lambda
import HandS.EndBits
import HandS.EndTab
import HandS.HeadWalk
import HandS.Defaults
import HandS.Head0
import HandS.Head1
import HandS.Head2
import HandS.HeadHook1
import HandS.HeadHook2
import HandS.HeadHook3
import HandS.HeadHook4
import PySem.Challenge.RW_keptrests_k15_whole_facts_compared_by_al
import HandS.ExcInit
import HandS.Deep
set_option Elab.async false
set_option linter.all false
set_option maxRecDepth 100000
set_option maxHeartbeats 0
/-! Maps of rests by 4, 6, 12, and facts: which fit, which are sure. -/
namespace K15
/-- place, rest, base -/
abbrev Fact := Int × Int × Nat
abbrev Want := Int × Nat
def divs : List Nat := [1, 2, 3, 4, 6, 12]
theorem mem_divs {d : Nat} (h : d ∣ 12) : d ∈ divs := by
  have h1 : d ≤ 12 := Nat.le_of_dvd (by decide) h
  have key : ∀ d, d ≤ 12 → d ∣ 12 → d ∈ divs := by decide
  exact key d h1 h
theorem dvd_of_mem {d : Nat} (h : d ∈ divs) : d ∣ 12 := by
  have key : ∀ d ∈ divs, d ∣ 12 := by decide
  exact key d h
theorem top_div : ∀ n ∈ divs, ∀ e ∈ divs, ∃ D ∈ divs, D.gcd n ∣ e ∧ ∀ d ∈ divs, d.gcd n ∣ e → d ∣ D := by decide
theorem two_rests : ∀ m ∈ divs, ∀ n ∈ divs, ∀ a, a < 12 → ∀ b, b < 12 → (a + 12 - b) % (m.gcd n) = 0 → ∃ R, R < 12 ∧ (R + 12 - a) % m = 0 ∧ (R + 12 - b) % n = 0 := by decide +kernel
/-- what is known by wanted rests -/
structure Known (l : List Want) (R : Int) (M : Nat) : Prop where
  each : ∀ w ∈ l, w.2 ∣ M ∧ (w.2 : Int) ∣ R - w.1
  least : ∀ D : Nat, (∀ w ∈ l, w.2 ∣ D) → M ∣ D
theorem Known.nil : Known [] 0 1 := ⟨fun w h => by simp at h, fun D _ => Nat.one_dvd D⟩
theorem Known.dv {l : List Want} {R : Int} {M : Nat} (k : Known l R M) (h : ∀ w ∈ l, w.2 ∣ 12) : M ∣ 12 := k.least 12 h
/-- gcd(M, n) divides what all gcd(w, n) divide -/
theorem meets {l : List Want} {R : Int} {M : Nat} (k : Known l R M) (h : ∀ w ∈ l, w.2 ∣ 12) {n : Nat} (hn : n ∣ 12) {b : Int} (hc : ∀ w ∈ l, ((Nat.gcd w.2 n : Nat) : Int) ∣ w.1 - b) : ((Nat.gcd M n : Nat) : Int) ∣ R - b := by
  have hM := k.dv h
  -- e, a divisor of 12, stands for R - b
  have he : Int.gcd (R - b) 12 ∣ 12 := by
    have := Int.gcd_dvd_right (R - b) 12
    exact Int.ofNat_dvd.mp (by simpa using this)
  have toE : ∀ d : Nat, d ∣ 12 → ((d : Int) ∣ R - b ↔ d ∣ Int.gcd (R - b) 12) := fun d hd => by
    constructor
    · intro q
      exact Int.dvd_gcd q (Int.ofNat_dvd.mpr hd)
    · intro q
      exact Int.dvd_trans (Int.ofNat_dvd.mpr q) (Int.gcd_dvd_left _ _)
  obtain ⟨D, hD, hD1, hD2⟩ := top_div n (mem_divs hn) _ (mem_divs he)
  have g12 : ∀ d : Nat, d.gcd n ∣ 12 := fun d => Nat.dvd_trans (Nat.gcd_dvd_right d n) hn
  have hw : ∀ w ∈ l, w.2 ∣ D := fun w hw => by
    refine hD2 w.2 (mem_divs (h w hw)) ((toE _ (g12 _)).mp ?_)
    have h1 : ((Nat.gcd w.2 n : Nat) : Int) ∣ R - w.1 := Int.dvd_trans (Int.ofNat_dvd.mpr (Nat.gcd_dvd_left _ _)) (k.each w hw).2
    have h2 := Int.dvd_add h1 (hc w hw)
    have e : R - w.1 + (w.1 - b) = R - b := by omega
    rwa [e] at h2
  have hMD : M ∣ D := k.least D hw
  refine (toE _ (g12 M)).mpr (Nat.dvd_trans (Nat.gcd_dvd_gcd_of_dvd_left n hMD) hD1)
/-- one wanted rest more -/
theorem Known.more {l : List Want} {R R' : Int} {M n : Nat} {b : Int} (k : Known l R M) (h1 : (M : Int) ∣ R' - R) (h2 : (n : Int) ∣ R' - b) : Known (l ++ [(b, n)]) R' (Nat.lcm M n) := by
  refine ⟨fun w hw => ?_, fun D hD => ?_⟩
  · rcases List.mem_append.mp hw with hw | hw
    · obtain ⟨a1, a2⟩ := k.each w hw
      refine ⟨Nat.dvd_trans a1 (Nat.dvd_lcm_left _ _), ?_⟩
      have h3 := Int.dvd_add (Int.dvd_trans (Int.ofNat_dvd.mpr a1) h1) a2
      have e : R' - R + (R - w.1) = R' - w.1 := by omega
      rwa [e] at h3
    · have e : w = (b, n) := by simpa using hw
      subst e
      exact ⟨Nat.dvd_lcm_right _ _, h2⟩
  · refine Nat.lcm_dvd (k.least D fun w hw => hD w (List.mem_append_left _ hw)) (hD (b, n) (by simp))
theorem two {m n : Nat} (hm : m ∣ 12) (hn : n ∣ 12) {a b : Int} (h : ((Nat.gcd m n : Nat) : Int) ∣ a - b) : ∃ R : Int, (m : Int) ∣ R - a ∧ (n : Int) ∣ R - b := by
  have e1 := Int.emod_nonneg a (show (12 : Int) ≠ 0 by decide)
  have e2 := Int.emod_lt_of_pos a (show (0 : Int) < 12 by decide)
  have e3 := Int.emod_nonneg b (show (12 : Int) ≠ 0 by decide)
  have e4 := Int.emod_lt_of_pos b (show (0 : Int) < 12 by decide)
  obtain ⟨ka, hka⟩ : ∃ k : Nat, a % 12 = k := ⟨(a % 12).toNat, by omega⟩
  obtain ⟨kb, hkb⟩ : ∃ k : Nat, b % 12 = k := ⟨(b % 12).toNat, by omega⟩
  have hg : (Nat.gcd m n) ∣ 12 := Nat.dvd_trans (Nat.gcd_dvd_left _ _) hm
  have hgI : ((Nat.gcd m n : Nat) : Int) ∣ 12 := by exact_mod_cast Int.ofNat_dvd.mpr hg
  have lift : ∀ (d : Nat) (x y : Nat), x ≤ 12 → (d : Int) ∣ 12 → ((y + 12 - x) % d = 0 ↔ (d : Int) ∣ (y : Int) - x) := fun d x y hx hd => by
    rw [← Nat.dvd_iff_mod_eq_zero, ← Int.ofNat_dvd]
    have e : ((y + 12 - x : Nat) : Int) = ((y : Int) - x) + 12 := by omega
    rw [e]
    constructor
    · intro q
      have := Int.dvd_sub q hd
      have e2 : (y : Int) - x + 12 - 12 = (y : Int) - x := by omega
      rwa [e2] at this
    · intro q
      exact Int.dvd_add q hd
  have hd0 : ((Nat.gcd m n : Nat) : Int) ∣ (ka : Int) - kb := by
    have h12 : ((Nat.gcd m n : Nat) : Int) ∣ 12 * (b / 12 - a / 12) := Int.dvd_trans hgI (Int.dvd_mul_right _ _)
    have := Int.dvd_add h h12
    have e : a - b + 12 * (b / 12 - a / 12) = (ka : Int) - kb := by omega
    rwa [e] at this
  obtain ⟨R, hR, r1, r2⟩ := two_rests m (mem_divs hm) n (mem_divs hn) ka (by omega) kb (by omega) ((lift _ kb ka (by omega) hgI).mpr hd0)
  have hmI : (m : Int) ∣ 12 := by exact_mod_cast Int.ofNat_dvd.mpr hm
  have hnI : (n : Int) ∣ 12 := by exact_mod_cast Int.ofNat_dvd.mpr hn
  refine ⟨R, ?_, ?_⟩
  · have q := (lift m ka R (by omega) hmI).mp r1
    have h12 : (m : Int) ∣ 12 * (a / 12) := Int.dvd_trans hmI (Int.dvd_mul_right _ _)
    have := Int.dvd_sub q h12
    have e : (R : Int) - ka - 12 * (a / 12) = R - a := by omega
    rwa [e] at this
  · have q := (lift n kb R (by omega) hnI).mp r2
    have h12 : (n : Int) ∣ 12 * (b / 12) := Int.dvd_trans hnI (Int.dvd_mul_right _ _)
    have := Int.dvd_sub q h12
    have e : (R : Int) - kb - 12 * (b / 12) = R - b := by omega
    rwa [e] at this
/-- wanted rests that agree two by two are met by some integer -/
theorem crt : ∀ l : List Want, (∀ w ∈ l, w.2 ∣ 12) → (∀ w ∈ l, ∀ v ∈ l, ((Nat.gcd w.2 v.2 : Nat) : Int) ∣ w.1 - v.1) → ∃ R M, Known l R M := by
  suffices H : ∀ (l r : List Want) (R : Int) (M : Nat), Known l R M → (∀ w ∈ l ++ r, w.2 ∣ 12) → (∀ w ∈ l ++ r, ∀ v ∈ l ++ r, ((Nat.gcd w.2 v.2 : Nat) : Int) ∣ w.1 - v.1) → ∃ R M, Known (l ++ r) R M from
    fun l h1 h2 => H [] l 0 1 Known.nil h1 h2
  intro l r
  induction r generalizing l with
  | nil => intro R M k _ _; exact ⟨R, M, by simpa using k⟩
  | cons x r ih =>
    intro R M k h1 h2
    obtain ⟨b, n⟩ := x
    have hn : n ∣ 12 := h1 (b, n) (by simp)
    have hl : ∀ w ∈ l, w.2 ∣ 12 := fun w hw => h1 w (List.mem_append_left _ hw)
    have hg : ((Nat.gcd M n : Nat) : Int) ∣ R - b := meets k hl hn fun w hw => h2 w (List.mem_append_left _ hw) (b, n) (by simp)
    obtain ⟨R', r1, r2⟩ := two (k.dv hl) hn hg
    have := ih (l ++ [(b, n)]) R' _ (k.more r1 r2) (by simpa using h1) (by simpa using h2)
    simpa using this
/-! ### facts -/
/-- the common divisor by which two facts' rests are compared -/
def g3 (f g : Fact) : Nat := Int.gcd ((Nat.gcd f.2.2 g.2.2 : Nat) : Int) (f.1 - g.1)
def Ok2 (f g : Fact) : Prop := ((g3 f g : Nat) : Int) ∣ f.2.1 - g.2.1
instance (f g : Fact) : Decidable (Ok2 f g) := by unfold Ok2; infer_instance
def NoQ (F : List Fact) : Prop := F.Pairwise Ok2
instance (F : List Fact) : Decidable (NoQ F) := by unfold NoQ; infer_instance
theorem Ok2.symm {f g : Fact} (h : Ok2 f g) : Ok2 g f := by
  unfold Ok2 at h ⊢
  have e : g3 g f = g3 f g := by
    unfold g3
    rw [Nat.gcd_comm g.2.2 f.2.2]
    have e2 : g.1 - f.1 = -(f.1 - g.1) := by omega
    rw [e2, Int.gcd_neg]
  rw [e]
  have e3 : g.2.1 - f.2.1 = -(f.2.1 - g.2.1) := by omega
  rw [e3]
  exact Int.dvd_neg.mpr h
theorem Ok2.refl (f : Fact) : Ok2 f f := by
  unfold Ok2
  rw [Int.sub_self]
  exact Int.dvd_zero _
theorem NoQ.all {F : List Fact} (h : NoQ F) : ∀ f ∈ F, ∀ g ∈ F, Ok2 f g := by
  unfold NoQ at h
  induction h with
  | nil => intro f hf; simp at hf
  | cons h1 _ ih =>
    intro f hf g hg
    rcases List.mem_cons.mp hf with ef | hf <;> rcases List.mem_cons.mp hg with eg | hg
    · rw [ef, eg]
      exact Ok2.refl _
    · rw [ef]
      exact h1 g hg
    · rw [eg]
      exact (h1 f hf).symm
    · exact ih f hf g hg
/-- what a fact wants of the answer at x -/
def want (x : Int) (f : Fact) : Want := (f.2.1, Int.gcd (f.2.2 : Int) (x - f.1))
theorem want_base {x : Int} {f : Fact} : (want x f).2 ∣ f.2.2 := by
  have := Int.gcd_dvd_left (f.2.2 : Int) (x - f.1)
  exact Int.ofNat_dvd.mp this
theorem want_place {x : Int} {f : Fact} : (((want x f).2 : Nat) : Int) ∣ x - f.1 := Int.gcd_dvd_right _ _
theorem want_two {x : Int} {f g : Fact} (h : Ok2 f g) : ((Nat.gcd (want x f).2 (want x g).2 : Nat) : Int) ∣ (want x f).1 - (want x g).1 := by
  refine Int.dvd_trans (Int.ofNat_dvd.mpr ?_) h
  unfold g3
  have a1 : Nat.gcd (want x f).2 (want x g).2 ∣ (want x f).2 := Nat.gcd_dvd_left _ _
  have a2 : Nat.gcd (want x f).2 (want x g).2 ∣ (want x g).2 := Nat.gcd_dvd_right _ _
  refine Int.dvd_gcd (Int.ofNat_dvd.mpr (Nat.dvd_gcd (Nat.dvd_trans a1 want_base) (Nat.dvd_trans a2 want_base))) ?_
  have b1 := Int.dvd_trans (Int.ofNat_dvd.mpr a1) (want_place (x := x) (f := f))
  have b2 := Int.dvd_trans (Int.ofNat_dvd.mpr a2) (want_place (x := x) (f := g))
  have := Int.dvd_sub b2 b1
  have e : x - g.1 - (x - f.1) = f.1 - g.1 := by omega
  rwa [e] at this
/-! ### rows -/
/-- a row of rests by N that keeps rests by all divisors of N -/
structure Row (N : Nat) (t : List Int) : Prop where
  len : t.length = N
  low : ∀ v ∈ t, 0 ≤ v ∧ v < N
  keeps : ∀ (x y : Nat) (u v : Int), t[x]? = some u → t[y]? = some v → ((Int.gcd (N : Int) ((x : Int) - y) : Nat) : Int) ∣ u - v
/-- the row's rest at a place -/
def rowAt (t : List Int) (N : Nat) (a : Int) : Int := t.getD (a % (N : Int)).toNat 0
def SoP (N : Nat) (t : List Int) (f : Fact) : Prop := ((f.2.2 : Nat) : Int) ∣ rowAt t N f.1 - f.2.1
instance (N : Nat) (t : List Int) (f : Fact) : Decidable (SoP N t f) := by unfold SoP; infer_instance
theorem Row.at_some {N : Nat} {t : List Int} (r : Row N t) (hN : 0 < N) (a : Int) : t[(a % (N : Int)).toNat]? = some (rowAt t N a) := by
  have h1 := Int.emod_nonneg a (show (N : Int) ≠ 0 by omega)
  have h2 := Int.emod_lt_of_pos a (show (0 : Int) < N by omega)
  have h3 : (a % (N : Int)).toNat < t.length := by rw [r.len]; omega
  unfold rowAt
  rw [List.getD_eq_getElem?_getD, List.getElem?_eq_getElem h3]
  rfl
/-- a row keeps rests at any two places -/
theorem Row.any {N : Nat} {t : List Int} (r : Row N t) (hN : 0 < N) (a b : Int) : ((Int.gcd (N : Int) (a - b) : Nat) : Int) ∣ rowAt t N a - rowAt t N b := by
  refine Int.dvd_trans (Int.ofNat_dvd.mpr ?_) (r.keeps _ _ _ _ (r.at_some hN a) (r.at_some hN b))
  have h1 := Int.emod_nonneg a (show (N : Int) ≠ 0 by omega)
  have h3 := Int.emod_nonneg b (show (N : Int) ≠ 0 by omega)
  have e1 : (((a % (N : Int)).toNat : Nat) : Int) = a % N := by omega
  have e2 : (((b % (N : Int)).toNat : Nat) : Int) = b % N := by omega
  rw [e1, e2]
  refine Int.dvd_gcd (Int.gcd_dvd_left _ _) ?_
  have k1 : ((Int.gcd (N : Int) (a - b) : Nat) : Int) ∣ (N : Int) * (b / N - a / N) := Int.dvd_trans (Int.gcd_dvd_left _ _) (Int.dvd_mul_right _ _)
  have := Int.dvd_add (Int.gcd_dvd_right (N : Int) (a - b)) k1
  have f1 := Int.mul_ediv_add_emod a N
  have f2 := Int.mul_ediv_add_emod b N
  have e : a - b + (N : Int) * (b / N - a / N) = a % N - b % N := by
    rw [Int.mul_sub]
    omega
  rwa [e] at this
/-- valid facts: their bases divide N -/
def Val (N : Nat) (F : List Fact) : Prop := ∀ f ∈ F, f.2.2 ∣ N
theorem Val.want12 {N : Nat} {F : List Fact} (h12 : N ∣ 12) (h : Val N F) (x : Int) : ∀ w ∈ F.map (want x), w.2 ∣ 12 := fun w hw => by
  obtain ⟨f, hf, rfl⟩ := List.mem_map.mp hw
  exact Nat.dvd_trans want_base (Nat.dvd_trans (h f hf) h12)
theorem NoQ.wants {F : List Fact} (h : NoQ F) (x : Int) : ∀ w ∈ F.map (want x), ∀ v ∈ F.map (want x), ((Nat.gcd w.2 v.2 : Nat) : Int) ∣ w.1 - v.1 := fun w hw v hv => by
  obtain ⟨f, hf, rfl⟩ := List.mem_map.mp hw
  obtain ⟨g, hg, rfl⟩ := List.mem_map.mp hv
  exact want_two (h.all f hf g hg)
/-- a row that fits: what is known of an answer is so of it -/
theorem fits_known {N : Nat} (hN : 0 < N) {F : List Fact} (hv : Val N F) {t : List Int} (r : Row N t) (hs : ∀ f ∈ F, SoP N t f) {x R : Int} {M : Nat} (k : Known (F.map (want x)) R M) : (M : Int) ∣ rowAt t N x - R := by
  have each : ∀ f ∈ F, (((want x f).2 : Nat) : Int) ∣ rowAt t N x - R := fun f hf => by
    have h1 : (((want x f).2 : Nat) : Int) ∣ rowAt t N x - rowAt t N f.1 := by
      refine Int.dvd_trans (Int.ofNat_dvd.mpr ?_) (r.any hN x f.1)
      exact Int.dvd_gcd (Int.ofNat_dvd.mpr (Nat.dvd_trans want_base (hv f hf))) want_place
    have h2 : (((want x f).2 : Nat) : Int) ∣ rowAt t N f.1 - f.2.1 := Int.dvd_trans (Int.ofNat_dvd.mpr want_base) (hs f hf)
    have h3 := (k.each (want x f) (List.mem_map.mpr ⟨f, hf, rfl⟩)).2
    have := Int.dvd_sub (Int.dvd_add h1 h2) h3
    have e : rowAt t N x - rowAt t N f.1 + (rowAt t N f.1 - f.2.1) - (R - (want x f).1) = rowAt t N x - R := by
      show _ - (R - f.2.1) = _
      omega
    rwa [e] at this
  have := k.least (rowAt t N x - R).natAbs fun w hw => by
    obtain ⟨f, hf, rfl⟩ := List.mem_map.mp hw
    exact Int.ofNat_dvd_left.mp (each f hf)
  exact Int.ofNat_dvd_left.mpr this
/-- facts that fit a row don't quarrel -/
theorem noQ_of_row {N : Nat} (hN : 0 < N) {F : List Fact} (hv : Val N F) {t : List Int} (r : Row N t) (hs : ∀ f ∈ F, SoP N t f) : NoQ F := by
  unfold NoQ
  rw [List.pairwise_iff_forall_sublist]
  intro f g hsub
  have hf : f ∈ F := hsub.subset (by simp)
  have hg : g ∈ F := hsub.subset (by simp)
  unfold Ok2
  have d1 : g3 f g ∣ Nat.gcd f.2.2 g.2.2 := Int.ofNat_dvd.mp (Int.gcd_dvd_left _ _)
  have d2 : ((g3 f g : Nat) : Int) ∣ f.1 - g.1 := Int.gcd_dvd_right _ _
  have df : g3 f g ∣ f.2.2 := Nat.dvd_trans d1 (Nat.gcd_dvd_left _ _)
  have dg : g3 f g ∣ g.2.2 := Nat.dvd_trans d1 (Nat.gcd_dvd_right _ _)
  have h1 : ((g3 f g : Nat) : Int) ∣ rowAt t N f.1 - rowAt t N g.1 := by
    refine Int.dvd_trans (Int.ofNat_dvd.mpr ?_) (r.any hN f.1 g.1)
    exact Int.dvd_gcd (Int.ofNat_dvd.mpr (Nat.dvd_trans df (hv f hf))) d2
  have h2 := Int.dvd_trans (Int.ofNat_dvd.mpr df) (hs f hf)
  have h3 := Int.dvd_trans (Int.ofNat_dvd.mpr dg) (hs g hg)
  have := Int.dvd_sub (Int.dvd_add h1 h3) h2
  have e : rowAt t N f.1 - rowAt t N g.1 + (rowAt t N g.1 - g.2.1) - (rowAt t N f.1 - f.2.1) = f.2.1 - g.2.1 := by omega
  rwa [e] at this
/-- answers one after the other -/
theorem grow {N : Nat} (h12 : N ∣ 12) {F : List Fact} (hv : Val N F) (hq : NoQ F) : ∀ n, n ≤ N → ∃ t : List Int, t.length = n ∧ (∀ (x y : Nat) (u v : Int), t[x]? = some u → t[y]? = some v → ((Int.gcd (N : Int) ((x : Int) - y) : Nat) : Int) ∣ u - v) ∧
    ∀ (x : Nat) (u : Int), t[x]? = some u → ∀ f ∈ F, (((want x f).2 : Nat) : Int) ∣ u - f.2.1 := by
  intro n
  induction n with
  | zero => intro _; exact ⟨[], rfl, fun x y u v h => by simp at h, fun x u h => by simp at h⟩
  | succ n ih =>
    intro hn
    obtain ⟨t, hl, hk, hs⟩ := ih (by omega)
    -- what is wanted of the next answer
    let old : List Want := (List.range n).map fun y => (t.getD y 0, Int.gcd (N : Int) ((n : Int) - y))
    have hold : ∀ w ∈ old, ∃ y, y < n ∧ t[y]? = some w.1 ∧ w.2 = Int.gcd (N : Int) ((n : Int) - y) := fun w hw => by
      obtain ⟨y, hy, rfl⟩ := List.mem_map.mp hw
      have hy : y < n := List.mem_range.mp hy
      refine ⟨y, hy, ?_, rfl⟩
      have hy' : y < t.length := by omega
      rw [List.getD_eq_getElem?_getD, List.getElem?_eq_getElem hy']
      rfl
    have oldN : ∀ w ∈ old, w.2 ∣ N := fun w hw => by
      obtain ⟨y, _, _, e⟩ := hold w hw
      rw [e]
      exact Int.ofNat_dvd.mp (Int.gcd_dvd_left _ _)
    have h1 : ∀ w ∈ old ++ F.map (want n), w.2 ∣ 12 := fun w hw => by
      rcases List.mem_append.mp hw with hw | hw
      · exact Nat.dvd_trans (oldN w hw) h12
      · exact hv.want12 h12 n w hw
    -- an old answer and a fact
    have mixed : ∀ w ∈ old, ∀ f ∈ F, ((Nat.gcd w.2 (want n f).2 : Nat) : Int) ∣ w.1 - (want n f).1 := fun w hw f hf => by
      obtain ⟨y, _, e1, e2⟩ := hold w hw
      refine Int.dvd_trans (Int.ofNat_dvd.mpr ?_) (hs y w.1 e1 f hf)
      have b1 : ((Nat.gcd w.2 (want n f).2 : Nat) : Int) ∣ (n : Int) - y := by
        refine Int.dvd_trans (Int.ofNat_dvd.mpr (Nat.gcd_dvd_left _ _)) ?_
        rw [e2]
        exact Int.gcd_dvd_right _ _
      have b2 : ((Nat.gcd w.2 (want n f).2 : Nat) : Int) ∣ (n : Int) - f.1 := Int.dvd_trans (Int.ofNat_dvd.mpr (Nat.gcd_dvd_right _ _)) want_place
      refine Int.dvd_gcd (Int.ofNat_dvd.mpr (Nat.dvd_trans (Nat.gcd_dvd_right _ _) want_base)) ?_
      have := Int.dvd_sub b2 b1
      have e : (n : Int) - f.1 - ((n : Int) - y) = (y : Int) - f.1 := by omega
      rwa [e] at this
    have flip : ∀ {a b : Nat} {u v : Int}, ((Nat.gcd a b : Nat) : Int) ∣ u - v → ((Nat.gcd b a : Nat) : Int) ∣ v - u := fun {a b u v} h => by
      rw [Nat.gcd_comm]
      have e : v - u = -(u - v) := by omega
      rw [e]
      exact Int.dvd_neg.mpr h
    have h2 : ∀ w ∈ old ++ F.map (want n), ∀ v ∈ old ++ F.map (want n), ((Nat.gcd w.2 v.2 : Nat) : Int) ∣ w.1 - v.1 := fun w hw v hv' => by
      rcases List.mem_append.mp hw with hw | hw <;> rcases List.mem_append.mp hv' with hv' | hv'
      · obtain ⟨y, _, e1, e2⟩ := hold w hw
        obtain ⟨z, _, e3, e4⟩ := hold v hv'
        refine Int.dvd_trans (Int.ofNat_dvd.mpr ?_) (hk y z w.1 v.1 e1 e3)
        have b1 : ((Nat.gcd w.2 v.2 : Nat) : Int) ∣ (n : Int) - y := by
          refine Int.dvd_trans (Int.ofNat_dvd.mpr (Nat.gcd_dvd_left _ _)) ?_
          rw [e2]
          exact Int.gcd_dvd_right _ _
        have b2 : ((Nat.gcd w.2 v.2 : Nat) : Int) ∣ (n : Int) - z := by
          refine Int.dvd_trans (Int.ofNat_dvd.mpr (Nat.gcd_dvd_right _ _)) ?_
          rw [e4]
          exact Int.gcd_dvd_right _ _
        refine Int.dvd_gcd (Int.ofNat_dvd.mpr (Nat.dvd_trans (Nat.gcd_dvd_left _ _) (oldN w hw))) ?_
        have := Int.dvd_sub b2 b1
        have e : (n : Int) - z - ((n : Int) - y) = (y : Int) - z := by omega
        rwa [e] at this
      · obtain ⟨f, hf, rfl⟩ := List.mem_map.mp hv'
        exact mixed w hw f hf
      · obtain ⟨f, hf, rfl⟩ := List.mem_map.mp hw
        exact flip (mixed v hv' f hf)
      · exact hq.wants n w hw v hv'
    obtain ⟨R, M, k⟩ := crt _ h1 h2
    have last : ∀ {x : Nat} {u : Int}, (t ++ [R])[x]? = some u → (x < n ∧ t[x]? = some u) ∨ (x = n ∧ u = R) := fun {x u} h => by
      rcases Nat.lt_or_ge x n with hx | hx
      · left
        rw [List.getElem?_append_left (by omega)] at h
        exact ⟨hx, h⟩
      · right
        rw [List.getElem?_append_right (by omega), hl] at h
        have hx0 : x - n = 0 := by
          cases e : x - n with
          | zero => rfl
          | succ m => rw [e] at h; simp at h
        rw [hx0] at h
        simp at h
        exact ⟨by omega, h.symm⟩
    have newK : ∀ (y : Nat) (v : Int), y < n → t[y]? = some v → ((Int.gcd (N : Int) ((n : Int) - y) : Nat) : Int) ∣ R - v := fun y v hy e => by
      have hw : (v, Int.gcd (N : Int) ((n : Int) - y)) ∈ old := by
        refine List.mem_map.mpr ⟨y, List.mem_range.mpr hy, ?_⟩
        rw [List.getD_eq_getElem?_getD,
          e]
        rfl
      exact (k.each _ (List.mem_append_left _ hw)).2
    refine ⟨t ++ [R], by simp [hl], fun x y u v hx hy => ?_, fun x u hx f hf => ?_⟩
    · rcases last hx with ⟨x1, x2⟩ | ⟨rfl, rfl⟩ <;> rcases last hy with ⟨y1, y2⟩ | ⟨rfl, rfl⟩
      · exact hk x y u v x2 y2
      · have := newK x u x1 x2
        have e1 : (x : Int) - y = -((y : Int) - x) := by omega
        have e2 : u - v = -(v - u) := by omega
        rw [e1, Int.gcd_neg, e2]
        exact Int.dvd_neg.mpr this
      · exact newK y v y1 y2
      · rw [show v - v = 0 by omega]
        exact Int.dvd_zero _
    · rcases last hx with ⟨x1, x2⟩ | ⟨rfl, rfl⟩
      · exact hs x u x2 f hf
      · exact (k.each _ (List.mem_append_right _ (List.mem_map.mpr ⟨f, hf, rfl⟩))).2
/-- facts that don't quarrel fit some row -/
theorem row_of_noQ {N : Nat} (hN : 0 < N) (h12 : N ∣ 12) {F : List Fact} (hv : Val N F) (hq : NoQ F) : ∃ t, Row N t ∧ ∀ f ∈ F, SoP N t f := by
  obtain ⟨t, hl, hk, hs⟩ := grow h12 hv hq N (Nat.le_refl _)
  have get : ∀ {x : Nat} {u : Int}, (t.map (· % (N : Int)))[x]? = some u → ∃ v, t[x]? = some v ∧ u = v % N := fun {x u} h => by
    rw [List.getElem?_map] at h
    obtain ⟨v, e, q⟩ := Option.map_eq_some_iff.mp h
    exact ⟨v, e, q.symm⟩
  have red : ∀ {d : Int} {u : Int}, d ∣ (N : Int) → d ∣ u % N - u := fun {d u} h => by
    have f1 := Int.mul_ediv_add_emod u N
    have : d ∣ (N : Int) * (-(u / N)) := Int.dvd_trans h (Int.dvd_mul_right _ _)
    have e : (N : Int) * (-(u / N)) = u % N - u := by rw [Int.mul_neg]; omega
    rwa [e] at this
  have r : Row N (t.map (· % (N : Int))) := by
    refine ⟨by simp [hl], fun v hv => ?_, fun x y u v hx hy => ?_⟩
    · obtain ⟨z, _, rfl⟩ := List.mem_map.mp hv
      exact ⟨Int.emod_nonneg z (by omega), Int.emod_lt_of_pos z (by omega)⟩
    · obtain ⟨u', eu, rfl⟩ := get hx
      obtain ⟨v', ev, rfl⟩ := get hy
      have h1 := hk x y u' v' eu ev
      have dN : ((Int.gcd (N : Int) ((x : Int) - y) : Nat) : Int) ∣ N := Int.gcd_dvd_left _ _
      have := Int.dvd_sub (Int.dvd_add h1 (red (u := u') dN)) (red (u := v') dN)
      have e : u' - v' + (u' % N - u') - (v' % N - v') = u' % (N : Int) - v' % N := by omega
      rwa [e] at this
  refine ⟨_, r, fun f hf => ?_⟩
  obtain ⟨v, ev, e⟩ := get (r.at_some hN f.1)
  unfold SoP
  rw [e]
  have h1 := hs _ v ev f hf
  have z1 := Int.emod_nonneg f.1 (show (N : Int) ≠ 0 by omega)
  have e1 : (((f.1 % (N : Int)).toNat : Nat) : Int) = f.1 % N := by omega
  rw [e1] at h1
  -- the base divides N, so it divides the difference of the places
  have hb : ((f.2.2 : Nat) : Int) ∣ (((want (f.1 % (N : Int)) f).2 : Nat) : Int) := by
    refine Int.ofNat_dvd.mpr (Int.dvd_gcd (Int.dvd_refl _) (red (Int.ofNat_dvd.mpr (hv f hf))))
  have := Int.dvd_add (Int.dvd_trans hb h1) (red (u := v) (Int.ofNat_dvd.mpr (hv f hf)))
  have e2 : v - f.2.1 + (v % N - v) = v % (N : Int) - f.2.1 := by omega
  rwa [e2] at this
/-- which facts are sure -/
theorem sure_iff {N : Nat} (hN : 0 < N) (h12 : N ∣ 12) {F : List Fact} (hv : Val N F) (hq : NoQ F) {g : Fact} (hg : g.2.2 ∣ N) {R : Int} {M : Nat} (k : Known (F.map (want g.1)) R M) :
    (((g.2.2 : Nat) : Int) ∣ (M : Int) ∧ ((g.2.2 : Nat) : Int) ∣ R - g.2.1) ↔ ∀ t, Row N t → (∀ f ∈ F, SoP N t f) → SoP N t g := by
  constructor
  · rintro ⟨h1, h2⟩ t r hs
    have := Int.dvd_add (Int.dvd_trans h1 (fits_known hN hv r hs k)) h2
    have e : rowAt t N g.1 - R + (R - g.2.1) = rowAt t N g.1 - g.2.1 := by omega
    unfold SoP
    rwa [e] at this
  · intro h
    have hM : M ∣ N := k.least N fun w hw => by
      obtain ⟨f, hf, rfl⟩ := List.mem_map.mp hw
      exact Nat.dvd_trans want_base (hv f hf)
    -- a row with an answer that is known
    have some_ : ∀ S : Int, (M : Int) ∣ S - R → ∃ t, Row N t ∧ (∀ f ∈ F, SoP N t f) ∧ (N : Int) ∣ rowAt t N g.1 - S := fun S hS => by
      have hv2 : Val N ((g.1, S, N) :: F) := fun f hf => by
        rcases (List.mem_cons.mp hf) with rfl | hf
        · exact Nat.dvd_refl N
        · exact hv f hf
      have hq2 : NoQ ((g.1, S, N) :: F) := by
        refine List.pairwise_cons.mpr ⟨fun f hf => ?_, hq⟩
        obtain ⟨k1, k2⟩ := k.each (want g.1 f) (List.mem_map.mpr ⟨f, hf, rfl⟩)
        have d1 : g3 (g.1, S, N) f ∣ (want g.1 f).2 := by
          refine Int.dvd_gcd (Int.ofNat_dvd.mpr (Nat.dvd_trans (Int.ofNat_dvd.mp (Int.gcd_dvd_left _ _)) (Nat.gcd_dvd_right _ _))) (Int.gcd_dvd_right _ _)
        have h3 := Int.dvd_add (Int.dvd_trans (Int.ofNat_dvd.mpr k1) hS) k2
        have e : S - R + (R - (want g.1 f).1) = S - f.2.1 := by
          show S - R + (R - f.2.1) = S - f.2.1
          omega
        rw [e] at h3
        exact Int.dvd_trans (Int.ofNat_dvd.mpr d1) h3
      obtain ⟨t, r, hs⟩ := row_of_noQ hN h12 hv2 hq2
      exact ⟨t, r, fun f hf => hs f (List.mem_cons_of_mem _ hf), hs (g.1, S, N) List.mem_cons_self⟩
    obtain ⟨t1, r1, s1, a1⟩ := some_ R (by rw [Int.sub_self]; exact Int.dvd_zero _)
    obtain ⟨t2, r2, s2, a2⟩ := some_ (R + M) (by rw [show R + (M : Int) - R = M by omega]; exact Int.dvd_refl _)
    have b1 := h t1 r1 s1
    have b2 := h t2 r2 s2
    unfold SoP at b1 b2
    have gN : ((g.2.2 : Nat) : Int) ∣ (N : Int) := Int.ofNat_dvd.mpr hg
    have c1 : ((g.2.2 : Nat) : Int) ∣ R - g.2.1 := by
      have := Int.dvd_sub b1 (Int.dvd_trans gN a1)
      have e : rowAt t1 N g.1 - g.2.1 - (rowAt t1 N g.1 - R) = R - g.2.1 := by omega
      rwa [e] at this
    refine ⟨?_, c1⟩
    have := Int.dvd_sub (Int.dvd_sub b2 (Int.dvd_trans gN a2)) c1
    have e : rowAt t2 N g.1 - g.2.1 - (rowAt t2 N g.1 - (R + M)) - (R - g.2.1) = M := by omega
    rwa [e] at this
end K15
namespace K15
open L2 PySem PySem.Spec PyProof.Rows
def top (i : Nat) : Stmt := PySem.Challenge.pw_keptrests_k15_whole_facts_compared_by_al.main.body.getD i (.Pass ⟨0, 0, 0, 0⟩)
abbrev s_gcd : Stmt := top 24
abbrev s_lcm : Stmt := top 25
abbrev s_rest_by : Stmt := top 26
abbrev s_agree : Stmt := top 27
abbrev s_inverse : Stmt := top 28
abbrev s_met : Stmt := top 29
abbrev s_is_integer : Stmt := top 31
abbrev s_are_integers : Stmt := top 32
abbrev s_is_fact : Stmt := top 34
abbrev s_check_facts : Stmt := top 35
abbrev s_do_quarrel : Stmt := top 36
abbrev s_all_quarrels : Stmt := top 37
abbrev s_check_machine : Stmt := top 38
abbrev s_known_by : Stmt := top 39
abbrev s_is_sure : Stmt := top 40
abbrev s_check_both : Stmt := top 42
abbrev s_unsure_ones : Stmt := top 43
abbrev s_as_much : Stmt := top 44
abbrev s_first_more : Stmt := top 45
abbrev s_alike : Stmt := top 46
abbrev s_joined : Stmt := top 47
abbrev s_law_keg : Stmt := top 49
abbrev s_law_pour : Stmt := top 50
abbrev s_law_from : Stmt := top 51
abbrev s_law_span : Stmt := top 52
abbrev s_law_gcd : Stmt := top 53
abbrev s_law_agree : Stmt := top 54
abbrev s_law_class : Stmt := top 55
abbrev s_law_kept : Stmt := top 56
abbrev s_law_heard : Stmt := top 57
abbrev s_law_maps : Stmt := top 58
abbrev s_law_so : Stmt := top 59
abbrev s_law_parts : Stmt := top 60
abbrev s_law_told : Stmt := top 61
abbrev s_law_first_quarrel : Stmt := top 62
abbrev s_law_moved : Stmt := top 63
abbrev s_law_right : Stmt := top 64
abbrev s_law : Stmt := top 65
abbrev s_NoMachine_init : Stmt := inClass (top 18) 0
/-- one def of the module -/
def mkD (x : Str) (s : Stmt) : He.DefD := ⟨(x, none), x, x, defArgs s, defBody s, defScope s, [], []⟩
def dfs : List He.DefD := [
  mkD "gcd" s_gcd,
  mkD "lcm" s_lcm,
  mkD "rest_by" s_rest_by,
  mkD "agree" s_agree,
  mkD "inverse" s_inverse,
  mkD "met" s_met,
  mkD "is_integer" s_is_integer,
  mkD "are_integers" s_are_integers,
  mkD "is_fact" s_is_fact,
  mkD "check_facts" s_check_facts,
  mkD "do_quarrel" s_do_quarrel,
  mkD "all_quarrels" s_all_quarrels,
  mkD "check_machine" s_check_machine,
  mkD "known_by" s_known_by,
  mkD "is_sure" s_is_sure,
  mkD "check_both" s_check_both,
  mkD "unsure_ones" s_unsure_ones,
  mkD "as_much" s_as_much,
  mkD "first_more" s_first_more,
  mkD "alike" s_alike,
  mkD "joined" s_joined,
  mkD "_law_keg" s_law_keg,
  mkD "_law_pour" s_law_pour,
  mkD "_law_from" s_law_from,
  mkD "_law_span" s_law_span,
  mkD "_law_gcd" s_law_gcd,
  mkD "_law_agree" s_law_agree,
  mkD "_law_class" s_law_class,
  mkD "_law_kept" s_law_kept,
  mkD "_law_heard" s_law_heard,
  mkD "_law_maps" s_law_maps,
  mkD "_law_so" s_law_so,
  mkD "_law_parts" s_law_parts,
  mkD "_law_told" s_law_told,
  mkD "_law_first_quarrel" s_law_first_quarrel,
  mkD "_law_moved" s_law_moved,
  mkD "_law_right" s_law_right,
  mkD "law" s_law,
  ⟨("NoMachine", some "__init__"), "__init__", "NoMachine.__init__", defArgs s_NoMachine_init, defBody s_NoMachine_init, defScope s_NoMachine_init, [], []⟩]
def gls : List Str := (["gcd", "lcm", "rest_by", "agree", "inverse", "met", "is_integer", "are_integers", "is_fact", "check_facts", "do_quarrel", "all_quarrels"] : List Str) ++ ((["check_machine", "known_by", "is_sure", "check_both", "unsure_ones", "as_much", "first_more", "alike", "joined", "_law_keg", "_law_pour", "_law_from"] : List Str) ++ ((["_law_span", "_law_gcd", "_law_agree", "_law_class", "_law_kept", "_law_heard", "_law_maps", "_law_so", "_law_parts", "_law_told", "_law_first_quarrel", "_law_moved"] : List Str) ++ ((["_law_right", "law"] : List Str))))
def cls : List Str := (["WrongValue", "InvalidNumber", "InvalidName", "InvalidIndex", "InvalidFact", "InvalidPromise", "InvalidCommand", "InvalidFacts", "InvalidPlaces", "InvalidValues", "InvalidFactors", "InvalidPoints"] : List Str) ++ ((["InvalidOffers", "WrongName", "UnknownName", "InUse", "NoAnswer", "NoMachine", "TooMany", "NothingToUndo", "Broken"] : List Str))
def frees : List Str := (["abs", "isinstance", "int", "bool", "tuple", "len", "all", "enumerate", "range", "sorted", "divmod", "max"] : List Str) ++ ((["min", "repr", "ValueError", "LookupError", "ArithmeticError"] : List Str))
def fcs : List He.Fa := gls.map He.Fa.glo ++ (cls.map He.Fa.glo ++ (frees.map He.Fa.free ++ [.int "MOST_FACTS" 40]))
def loose : List Str := (["WrongValue", "InvalidNumber", "InvalidName", "InvalidIndex", "InvalidFact", "InvalidPromise", "InvalidCommand", "InvalidFacts", "InvalidPlaces", "InvalidValues", "InvalidFactors", "InvalidPoints"] : List Str) ++ ((["InvalidOffers", "WrongName", "UnknownName", "InUse", "NoAnswer", "NoMachine", "TooMany", "NothingToUndo", "Broken", "MOST_FACTS", "gcd", "lcm"] : List Str) ++ ((["rest_by", "agree", "inverse", "met", "is_integer", "are_integers", "is_fact", "check_facts", "do_quarrel", "all_quarrels", "check_machine", "known_by"] : List Str) ++ ((["is_sure", "check_both", "unsure_ones", "as_much", "first_more", "alike", "joined", "_law_keg", "_law_pour", "_law_from", "_law_span", "_law_gcd"] : List Str) ++ ((["_law_agree", "_law_class", "_law_kept", "_law_heard", "_law_maps", "_law_so", "_law_parts", "_law_told", "_law_first_quarrel", "_law_moved", "_law_right"] : List Str)))))
/-- the mro of the builtin below NoMachine -/
def aeTail : List Value := [.type "ArithmeticError", .type "Exception", .type "BaseException", .type "object"]
def oneB (K : PySem.W.Frag) (C : Addr) (c : Value) (b : Bool) : Bool := decide (PySem.W.kitOne K (.ref C) c = some b)
/-- what is asked of the class NoMachine at C -/
def nmB (K : PySem.W.Frag) (C : Addr) : List Bool := [
  PySem.W.excInitIn K C aeTail "ArithmeticError.__new__", PySem.W.excOver K C aeTail,
  decide (PySem.W.takerIn K C "first" = some none), decide (PySem.W.takerIn K C "second" = some none),
  He.eqO (PySem.W.findIn K (.ref C) "first") (some none), He.eqO (PySem.W.findIn K (.ref C) "second") (some none),
  PySem.W.hasDictIn K C, PySem.W.keepIn K (.ref C), decide (PySem.W.subIn K (.ref C) (.type "BaseException") = some true), decide (PySem.W.typeIn K (.ref C) = some (.type "type")),
  He.eqO (PySem.W.findIn K (.ref C) "__setattr__") (some (some (.builtin "object.__setattr__"))),
  He.eqO (PySem.W.findIn K (.ref C) "__getattribute__") (some (some (.builtin "BaseException.__getattribute__"))),
  He.eqO (PySem.W.findIn K (.ref C) "__getattr__") (some none),
  He.eqO (PySem.W.findIn K (.ref C) "__class__") (some (some (.builtin "object.__class__"))),
  He.eqO (PySem.W.specialIn K (.builtin "object.__class__") "__get__") (some (some (.builtin "getset_descriptor.__get__"))),
  decide (PySem.W.takesIn K (.builtin "object.__class__") = some true), decide (PySem.W.mroIn K C (.type "object") = some true),
  He.eqO (PySem.W.findIn K (.ref C) "__init__") (some (some (.ref (He.ma K C "__init__")))), PySem.W.isFn K (.ref (He.ma K C "__init__")),
  cls.all (fun x => oneB K C (.ref (He.ga K x)) (x == "NoAnswer" || x == "NoMachine")),
  oneB K C (.type "ValueError") false, oneB K C (.type "LookupError") false, oneB K C (.type "ArithmeticError") true,
  decide (PySem.W.exmAny K (.ref C) [.ref (He.ga K "WrongValue"), .ref (He.ga K "WrongName"), .ref (He.ga K "NoAnswer")] = some true)]
def exB (K : PySem.W.Frag) : Bool := (nmB K (He.ga K "NoMachine")).all id
/-- what stands behind the top -/
structure Txt (K : PySem.W.Frag) (mg : Str → Option Value) : Prop where
  gl : ∀ x ∈ gls ++ cls, mg x = some (.ref (He.ga K x))
  fr : ∀ x ∈ frees, mg x = none
  mf : ∃ t, mg "MOST_FACTS" = some (.int 40 t)
  df : ∀ d ∈ dfs, ∃ fd, FunD K d.name d.qual d.params d.body d.scope [] [] (He.fAd K d.at_) fd
  nm : exB K = true
/-- a def of the module that is called by its name -/
def Has (P : Program) (w : World) (K : PySem.W.Frag) (mg : Str → Option Value) (base : Heap) (CX : CXT) (k : Nat) (x : Str) (ps : List Str) (sp : Sp) : Prop :=
  ∃ (f : Addr) (fd : FuncData), mg x = some (.ref f) ∧ PySem.W.keepIn K (.ref f) = true ∧ FnOk P w K mg base CX k f fd ps sp ∧ Binds K fd ps []
theorem Has.mono {P : Program} {w : World} {K : PySem.W.Frag} {mg : Str → Option Value} {base : Heap} {CX : CXT} {j k : Nat} {x : Str} {ps : List Str} {sp : Sp} (h : Has P w K mg base CX j x ps sp) (hk : j ≤ k) : Has P w K mg base CX k x ps sp := by
  obtain ⟨f, fd, h1, h2, h3, h4⟩ := h
  exact ⟨f, fd, h1, h2, h3.mono hk, h4⟩
section
variable {X : Cx} {k : Nat} {x : Str} {ps : List Str} {sp : Sp} {p pos : Pos} {e : Expr} {es : List Expr} {t : TA}
/-- f(e, ..) -/
theorem pe_fn (G : Has X.prog X.w X.K X.mg X.base CX0 k x ps sp) (hr : Room k X.A) (ha : PA X (e :: es) t) (hg : Gl X x := by rfl) (hdb : (x == ("__debug__" : Str)) = false := by decide)
    (he : starEach (e :: es) X.env = (false, eval e X.env) :: starEach es X.env := by rfl)
    (hpl : (backTo pos (starEach es X.env)).any (·.1) = false := by rfl) :
    PE X (.Call (.Name x p) (e :: es) [] pos) (tCall sp [] E0 t) := by
  obtain ⟨f, fd, h1, h2, h3, h4⟩ := G
  exact pe_call h3 hr hg h1 h2 h4 .nil pass0 ha hdb he hpl
end
section
variable {w : World} {P : Program} {K : PySem.W.Frag} {base : Heap} {mg : Str → Option Value}
/-- a def of the module keeps its promise: by its body -/
theorem Txt.has {CX : CXT} {x : Str} {st : Stmt} {N ps : List Str} {k : Nat} {sp : Sp} (T : Txt K mg) (i : Nat) (hm : dfs[i]? = some (mkD x st)) (hx : x ∈ gls ++ cls) (S : FnScope N ps (defScope st)) (len : ∀ vs H Q E, sp vs H Q E → vs.length = ps.length)
    (hb : ∀ (kV doc pm : Value) (an : Option Addr) (cdv ct : Value) (us : List Value), us.length = ps.length → bindArgs (PySem.W.fnOf x x (defArgs st) (defBody st) (defScope st) .none kV doc pm an cdv ct) ⟨us, []⟩ = pure (ps.zip us))
    (hbody : ∀ (f : Addr) (cdv : Value) (A : Around) (outer : List Env) (s : Shared) (H : Hp) (vs : List V) (Q : VK) (E : XK), Room k (A.deeper (envOfC x (defScope st) s.heap.objs.size f cdv)) → sp vs H Q E →
      ∃ t, PSs (cxOf CX P w K mg base N x (defScope st) f cdv A outer s H E) (defBody st) t ∧ t { nx := fun _ H' => Q .non H', rt := Q } (start N vs) H) : Has P w K mg base CX (k + 1) x ps sp := by
  obtain ⟨fd, F⟩ := T.df _ (List.mem_of_getElem? hm)
  exact ⟨_, fd, T.gl x hx, F.kp, FunD.ok F S len fun cdv A outer s H vs Q E hr h => hbody _ cdv A outer s H vs Q E hr h, FunD.bindsN F hb⟩
end
end K15
namespace K15
open L2 PySem PySem.Spec PyProof.Rows
abbrev R : PySem.W.OpenRow := PySem.W.OpenLaw.row PySem.Challenge.rw_keptrests_k15_whole_facts_compared_by_al
def tfs : List He.Defn := [("_law_right", none)]
abbrev hk : PySem.W.Hook := He.hookX 5 fcs dfs [] tfs exB
def ob (s : PySem.W.SharedT) : He.AlX := He.obsX 5 fcs dfs [] tfs exB (HandSHeadRun.getT s)
theorem ob_eq (s : PySem.W.SharedT) : ob s = hk.obs s.abs := He.obsX_eq (HandSHeadRun.getT_eq s)
theorem run (w : World) : HandSHeadRun.RunEq R (PySem.W.view R.prog [65]) hk ob 40000 loose w := by
  intro os
  kernel_rfl
end K15
namespace K15
open L2 PySem PySem.Spec PyProof.Rows
/-! ### gcd -/
theorem abs_eq (a : Int) : (if a < 0 then -a else a) = (a.natAbs : Int) := by split <;> omega
theorem gcd_step {a b : Int} : Int.gcd b (a.fmod b) = Int.gcd a b := by
  have e : a.fmod b = a - b * (a.fdiv b) := by have := Int.mul_fdiv_add_fmod a b; omega
  rw [e, Int.gcd_sub_mul_left_right, Int.gcd_comm]
section
variable {w : World} {P : Program} {K : PySem.W.Frag} {base : Heap} {mg : Str → Option Value}
theorem sc_gcd : FnScope ["one", "other"] ["one", "other"] (defScope s_gcd) := ⟨rfl, rfl, rfl, by decide +kernel, rfl, by decide +kernel, by decide +kernel⟩
def spGcd : Sp := fun vs H Q _ => ∃ a b : Int, vs = [.int a, .int b] ∧ Q (.int (Int.gcd a b : Nat)) H
theorem has_gcd (T : Txt K mg) : Has P w K mg base CX0 1 "gcd" ["one", "other"] spGcd := by
  refine T.has (st := s_gcd) 0 rfl (by decide +kernel) sc_gcd (fun vs H Q E h => ?_) (fun _ _ _ _ _ _ us hl => match us, hl with | [_, _], _ => rfl) (fun f cdv A outer s H vs Q E hr h => ?_)
  · obtain ⟨a, b, rfl, _⟩ := h
    rfl
  · obtain ⟨a, b, rfl, q⟩ := h
    have mA : mg "abs" = none := T.fr _ (by decide +kernel)
    refine ⟨_, PSs.nox (pss_cons (ps_par (i := 0) (j := 1) rfl sc_gcd.nd rfl rfl (by decide) rfl rfl (pa_cons (pe_callB call_abs (by rfl) mA (by decide +kernel) (pa_cons (pv 0) pa_nil)) (pa_cons (pe_callB call_abs (by rfl) mA (by decide +kernel) (pa_cons (pv 1) pa_nil)) pa_nil)) (by rfl))
      (pss_cons (ps_while PassesOwn.never (pt_cmp (pc_gt (pv 1) pe_int)) (pss_one (ps_par (i := 0) (j := 1) rfl sc_gcd.nd rfl rfl (by decide) rfl rfl (pa_cons (pv 1) (pa_cons (pe_op op_modN (pv 0) (pv 1)) pa_nil)) (by rfl))))
      (pss_one (ps_ret (pv 0))))), ?_⟩
    refine ⟨_, rfl, a, rfl, _, rfl, b, rfl, _, _, rfl, ?_⟩
    rw [abs_eq, abs_eq]
    refine while_by (fun σ H' => ∃ x y : Int, σ = [some (.int x), some (.int y)] ∧ 0 ≤ x ∧ 0 ≤ y ∧ Int.gcd x y = Int.gcd a b ∧ H' = H) (fun σ _ => match σ with | [_, some (.int y)] => y.toNat | _ => 0) ⟨_, _, rfl, by omega, by omega, rfl, rfl⟩ ?_ ?_
    · rintro σ H' ⟨x, y, rfl, hx, hy, hg, rfl⟩
      refine ⟨_, rfl, y, 0, rfl, rfl, _, rfl, ite2 (fun c => ?_) (fun c => ?_)⟩
      · have hy0 : 0 < y := of_decide_eq_true c
        refine ⟨_, rfl, _, rfl, _, rfl, x, y, rfl, rfl, by omega, _, _, rfl, ⟨_, _, rfl, hy, Int.fmod_nonneg_of_pos x hy0, by rw [gcd_step]; exact hg, rfl⟩, ?_⟩
        show (x.fmod y).toNat < y.toNat
        have := Int.fmod_lt_of_pos x hy0
        have := Int.fmod_nonneg_of_pos x hy0
        omega
      · have hy0 : ¬ 0 < y := fun z => c (decide_eq_true z)
        have : y = 0 := by omega
        subst this
        refine ⟨_, rfl, ?_⟩
        have e : x = ((Int.gcd a b : Nat) : Int) := by
          rw [← hg, Int.gcd_zero_right]
          omega
        rw [e]
        exact q
    · rintro σ H' Q1 Q2 hq ⟨v, h1, i, j, e1, e2, c, e3, h4⟩
      exact ⟨v, h1, i, j, e1, e2, c, e3, hq _ _ h4⟩
end
end K15
namespace K15
open L2 PySem PySem.Spec PyProof.Rows
/-! ### enumerate of a tuple -/
theorem newEnumT (v : Value) (o : Obj) (Hq : Heap → Prop) (B : PySem.Begins v o Hq) :
    Meets (Builtin.«enumerate.__new__» ⟨[.type "enumerate", v], []⟩) (fun _ Rr st => Hq st.heap ∧
      Rr (.ok (.ret (.ref (st.heap.push o).objs.size))) { st with heap := (st.heap.push o).push { cls := .type "enumerate", data := .fields #[.none, .bool false, .ref st.heap.objs.size, rawInt 0, .none, .none] } }) :=
  .of_wp fun prog w A Rr st hst => by
    obtain ⟨hp, g, d, tk, os⟩ := st
    obtain ⟨h1, h2⟩ := hst
    have hsub := sub_enumerate
    have it1 : ∀ {A' : Around} {E : Value → Shared → Prop} {Q : Value → Shared → Prop}, Q (.ref hp.objs.size) ⟨hp.push o, g, d, tk, os⟩ → wpAny (model prog w) A' (pyIter v) Q E ⟨hp, g, d, tk, os⟩ :=
      fun z => B.iter prog w _ _ ⟨hp, g, d, tk, os⟩ _ h1 z
    wp_walk using it1
    refine wpAny_stack_any fun _ => wpAny_pure ?_
    split
    · rename_i c _ _ _ _ _
      cases (c == Value.type "enumerate") <;> (wp_walk using it1; exact ⟨_, rfl, h2⟩)
    · wp_walk using it1
      exact ⟨_, rfl, h2⟩
section
variable {w : World} {prog : Program} {s : Shared} {A : Around} {E : Value → Shared → Prop}
theorem callEnumT {l : Addr} {items : Array Value} {Q : Value → Shared → Prop} (hL : s.heap.IsTuple l items)
    (h : ∀ h', IsEnum h' (s.heap.objs.size + 1) s.heap.objs.size 0 .none → h'.IsTupleIter s.heap.objs.size l 0 → (∀ b o, s.heap.get? b = some o → h'.get? b = some o) → Q (.ref (s.heap.objs.size + 1)) { s with heap := h' }) :
    wpAny (model prog w) A (call (.type "enumerate") [Value.ref l]) Q E s := by
  have B := PySem.begins_tuple l items
  refine callType_new F.called_enumerate (by decide) (F.typeCall_enumerate_1 _) (F.newCall_enumerate_1 _) (fun obj => F.args_object_init_2 obj _) F.entry_enumerate_new (newEnumT _ _ _ B) ⟨hL, ?_⟩
  have sz : (s.heap.push { cls := .type "tuple_iterator", data := .fields #[.ref l, .int 0 0] }).objs.size = s.heap.objs.size + 1 := Heap.size_push ..
  show _ ∧ _
  rw [sz]
  have hN := Heap.get?_push_size (s.heap.push { cls := .type "tuple_iterator", data := .fields #[.ref l, .int 0 0] }) (o := { cls := .type "enumerate", data := .fields #[.none, .bool false, .ref s.heap.objs.size, rawInt 0, .none, .none] }) rfl
  rw [sz] at hN
  exact ⟨⟨_, hN, rfl⟩, h _ hN ⟨_, Heap.get?_push_of_some _ (Heap.get?_push_size _ rfl), rfl, rfl⟩ fun b o z => Heap.get?_push_of_some _ (Heap.get?_push_of_some _ z)⟩
end
/-- the tuple at a, its items in newOk pairs -/
def IteT (K : PySem.W.Frag) (a : Addr) : It :=
  ⟨fun i H => ∃ (xs : List V) (x : V), SqT K H a xs ∧ xs[i]? = some x, fun i H v H' => ∃ T x, v = .ref T ∧ H T = none ∧ H' = upd H T (.tup [.int (i : Nat), x]) ∧ ∀ xs, SqT K H a xs → xs[i]? = some x, fun i H => ∃ xs : List V, SqT K H a xs ∧ xs.length = i⟩
theorem turnEnumT {P : Program} {w : World} {K : PySem.W.Frag} {elts : List Expr} {kk : Nat} {tpos : Pos} (a e it : Addr) :
    Turn P w K (.Tuple elts kk tpos) (IteT K a) [e, it] e (fun i h => (∃ old, IsEnum h e it ((i : Nat) : Int) old) ∧ h.IsTupleIter it a i ∧ e ≠ it) where
  mem := List.mem_cons_self
  obj := fun i h st b hb => by
    obtain ⟨⟨old, he⟩, ⟨o, ho, hc, hd⟩, _⟩ := (st)
    rcases (by simpa using hb : b = e ∨ b = it) with rfl | rfl
    · exact ⟨_, he, fun v q => nomatch q⟩
    · exact ⟨o, ho, fun v q => by rw [hd] at q; cases q⟩
  keep := fun i h h' st k => by
    obtain ⟨⟨old, he⟩, hi, hne⟩ := st
    exact ⟨⟨old, k e (by simp) _ he⟩, hi.at fun o q => k it (by simp) o q, hne⟩
  item := by
    intro X hP hw hK hc i pins
    intro s σ H E I hf st hg
    subst hP hw hK
    obtain ⟨⟨old, he⟩, itAt, hne⟩ := st
    obtain ⟨xs, x, isT, hx⟩ := hg
    obtain ⟨its, vals, p, sz⟩ := I.tuple isT
    have hp : s.heap.IsTuple a its.toArray := p
    obtain ⟨u, hu, ru⟩ := vals.get hx
    have eLt : e < s.heap.objs.size := Heap.lt_size he
    have itLt : it < s.heap.objs.size := by obtain ⟨_, q, _⟩ := itAt; exact Heap.lt_size q
    have hai : a ≠ it := by
      rintro rfl
      obtain ⟨o1, e1, _, d1⟩ := itAt
      obtain ⟨o2, e2, _, n2, d2⟩ := hp
      rw [e1] at e2; cases e2
      rw [d1] at d2; cases d2
    have hea : e ≠ a := by
      rintro rfl
      obtain ⟨o2, e2, _, n2, d2⟩ := hp
      have z := he.symm.trans e2
      cases z
      cases d2
    have D := PySem.Draws.tuple (prog := X.prog) (w := X.w) (A := X.A.in1) (I.ok.hd hc) it a hai its.toArray
    have hlt : i < its.toArray.size := by
      have := List.getElem?_eq_some_iff.mp hu
      obtain ⟨z, _⟩ := this
      simpa using z
    refine wpAny_pyNext_enum_itemD D he ⟨itAt, hp⟩ hlt hne (by simp [hne, hea]) fun y h' tk hy ho hst hT hsz hk => ?_
    have ey : y = u := by
      have e1 : its.toArray[i]? = some y := hy
      have e2 : its.toArray[i]? = some u := by simpa using hu
      rw [e1] at e2
      exact Option.some.inj e2
    subst ey
    refine ⟨_, rfl, wpAny_letOwnedTupleGo_enum (s := { s with heap := h', toks := tk + 1 }) ho fun h'' he' sb => ?_⟩
    have hT2 : h''.get? s.heap.objs.size = some { cls := .type "tuple", data := .seq #[.int i tk, y] } := (sb.2 _ (Nat.ne_of_gt eLt)).trans hT
    have newOk : ObjOk X.prog X.w (upd H s.heap.objs.size (.tup [.int (i : Nat), x])) h'' s.heap.objs.size (.tup [.int (i : Nat), x]) :=
      ⟨(by show 2 ≤ sizeLine; decide), [.int i tk, y], .cons ⟨_, rfl⟩ (.cons ru .nil), ⟨_, hT2, rfl, _, rfl⟩⟩
    have I1 : Inv X pins σ (upd H s.heap.objs.size (.tup [.int (i : Nat), x])) { s with heap := h'', toks := tk + 1 } := by
      refine I.turnedNew (ch := [e, it]) (fun b ob hb q => ?_) hf (Nat.le_refl _) newOk
      have b1 : b ≠ e := fun z => hb (by simp [z])
      have b2 : b ≠ it := fun z => hb (by simp [z])
      exact (sb.2 b b1).trans (hk b ob b1 b2 q)
    refine ⟨.ref s.heap.objs.size, _, I1, rfl, ⟨_, x, rfl, I.hok.fresh (Nat.le_refl _), rfl, fun ys hy2 => by rw [I.tuple_inj hy2 isT]; exact hx⟩, ⟨⟨y, ?_⟩, hst.1.at fun o q => (sb.2 it (Ne.symm hne)).trans q, hne⟩, fun b hb => ?_⟩
    · have e1 : (((i + 1 : Nat) : Int) = (i : Int) + 1) := by omega
      rw [e1]
      exact he'
    · have ltB : b < s.heap.objs.size := by
        rcases (by simpa using hb : b = e ∨ b = it) with z | z <;> (rw [z]; assumption)
      rw [upd_ne (Nat.ne_of_lt ltB)]
      exact (hf b hb).1
  done := by
    intro X hP hw hK hc i pins
    intro s σ H E I hf st hg
    subst hP hw hK
    obtain ⟨⟨old, he⟩, itAt, hne⟩ := st
    obtain ⟨xs, isT, hx⟩ := hg
    obtain ⟨its, vals, p, sz⟩ := I.tuple isT
    have hp : s.heap.IsTuple a its.toArray := p
    obtain ⟨q0, q1, q2, q3, q4, q5⟩ := hf it (by simp)
    have hl := vals.length
    have hn : i = its.toArray.size := by rw [List.size_toArray]; omega
    have hai : a ≠ it := by
      rintro rfl
      obtain ⟨o1, e1, _, d1⟩ := itAt
      obtain ⟨o2, e2, _, n2, d2⟩ := hp
      rw [e1] at e2; cases e2
      rw [d1] at d2; cases d2
    have D := PySem.Draws.tuple (prog := X.prog) (w := X.w) (A := X.A.in1) (I.ok.hd hc) it a hai its.toArray
    rw [hn] at itAt
    exact wpAny_pyNext_enum_endD D he ⟨itAt, hp⟩ fun h' eb => ⟨rfl, I.turned (t' := s.toks) (fun b o hb q => eb b o hb q) q0 q1 q3 q4 q5⟩
  self := fun Ar i t Qn En st h => by
    obtain ⟨⟨_, he⟩, _⟩ := st
    exact wpAny_pyIter_enum he h
def iEnumT (K : PySem.W.Frag) (ta : TA) : TI := fun σ H R => ta σ H fun vs H1 => ∃ a xs, vs = [.ref a] ∧ SqT K H1 a xs ∧ R (IteT K a) H1
theorem pi_enumT {X : Cx} {e : Expr} {ta : TA} {p pos tpos : Pos} {elts : List Expr} {kk : Nat} (hm : X.mg "enumerate" = none) (ha : PA X [e] ta) (hg : Gl X "enumerate" := by rfl) (hs : starEach [e] X.env = [(false, eval e X.env)] := by rfl) :
    PI X (.Tuple elts kk tpos) (.Call (.Name "enumerate" p) [e] [] pos) (iEnumT X.K ta) := by
  refine (⟨fun pins s σ H R I h => ?_⟩)
  refine Call_ (ld_blt I hg hm boot_enumerate (PyProof.Rows.callWith_type1 (thn (ha.run pos pins s σ H _ I h) fun us s1 hh => ?_) hs rfl))
  obtain ⟨vs, H1, I1, r1, a, xs, rfl, isT, q⟩ := hh
  obtain ⟨u, rfl, ru⟩ := (vals1 r1)
  obtain rfl : u = Value.ref a := (ru)
  obtain ⟨its, vals, p', sz⟩ := I1.tuple isT
  refine callEnumT (show s1.heap.IsTuple a its.toArray from p') fun h' he itAt hk => wpAny_pyIter_enum he ?_
  have Iv2 : Inv X pins σ H1 { s1 with heap := h' } := I1.kept (t' := s1.toks) hk
  refine ⟨s1.heap.objs.size + 1, [s1.heap.objs.size + 1, s1.heap.objs.size], _, _, H1, rfl, Iv2, turnEnumT a (s1.heap.objs.size + 1) s1.heap.objs.size, ⟨⟨.none, he⟩, itAt, Nat.succ_ne_self _⟩, fun b hb => ?_, q⟩
  have leB : s1.heap.objs.size ≤ b := by
    rcases (by simpa using hb : b = s1.heap.objs.size + 1 ∨ b = s1.heap.objs.size) with z | z
    · rw [z]
      exact Nat.le_add_right _ _
    · rw [z]; exact Nat.le_refl _
  exact I1.fpOk leB (I1.hok.fresh leB)
theorem walk_enumT {K : PySem.W.Frag} {a : Addr} {xs : List V} : Walk (IteT K a) xs.length (fun H => SqT K H a xs) (YPair (fun i => some (.int (i : Nat))) (fun i => xs[i]?)) := by
  refine ⟨fun i _ hi q => ⟨xs, xs[i], q, by simp [hi]⟩, fun _ q => ⟨xs, q, rfl⟩, fun i H v H' _ q y => ?_⟩
  obtain ⟨T, x, h1, h2, h3, h4⟩ := (y)
  exact (⟨T, .int (i : Nat), x, h1, h2, h3, rfl, h4 xs q⟩)
end K15
namespace K15
open L2 PySem PySem.Spec PyProof.Rows
section
variable {X : Cx} {x : Str} {p pos : Pos} {e e2 : Expr} {te te2 : TE} {id T : String} {r : List V → Hp → VK → Prop}
/-- a builtin of one argument -/
theorem pe_b1 (hc : CallR X (.builtin id) r) (hm : X.mg x = none) (he : PE X e te) (hv : bootBuiltins x = some (.builtin id) := by decide +kernel) (hg : Gl X x := by rfl) (hn : x ≠ "__name__" := by decide) (hdb : (x == ("__debug__" : Str)) = false := by decide)
    (h1 : starEach [e] X.env = (false, eval e X.env) :: starEach [] X.env := by rfl) (h2 : (backTo pos (starEach [] X.env)).any (·.1) = false := by rfl) : PE X (.Call (.Name x p) [e] [] pos) (tCB r (tCons te tNil)) :=
  pe_callB hc hg hm hv (pa_cons he pa_nil h1) hn hdb h1 h2
theorem pe_b2 (hc : CallR X (.builtin id) r) (hm : X.mg x = none) (he : PE X e te) (he2 : PE X e2 te2) (hv : bootBuiltins x = some (.builtin id) := by decide +kernel) (hg : Gl X x := by rfl) (hn : x ≠ "__name__" := by decide) (hdb : (x == ("__debug__" : Str)) = false := by decide)
    (h1 : starEach [e, e2] X.env = (false, eval e X.env) :: starEach [e2] X.env := by rfl) (h3 : starEach [e2] X.env = (false, eval e2 X.env) :: starEach [] X.env := by rfl) (h2 : (backTo pos (starEach [e2] X.env)).any (·.1) = false := by rfl) : PE X (.Call (.Name x p) [e, e2] [] pos) (tCB r (tCons te (tCons te2 tNil))) :=
  pe_callB hc hg hm hv (pa_cons he (pa_cons he2 pa_nil h3) h1) hn hdb h1 h2
/-- a builtin class of one argument -/
theorem pe_t1 (hc : CallR X (.type T) r) (hm : X.mg x = none) (he : PE X e te) (hv : bootBuiltins x = some (.type T) := by decide +kernel) (hg : Gl X x := by rfl) (hn : x ≠ "__name__" := by decide) (hdb : (x == ("__debug__" : Str)) = false := by decide)
    (h1 : starEach [e] X.env = (false, eval e X.env) :: starEach [] X.env := by rfl) (h2 : (backTo pos (starEach [] X.env)).any (·.1) = false := by rfl) : PE X (.Call (.Name x p) [e] [] pos) (tCB r (tCons te tNil)) :=
  pe_callTy hc hg hm hv (pa_cons he pa_nil h1) hn hdb h1 h2
end
/-! ### facts on the heap -/
def factV (f : Fact) : HO := .tup [.int f.1, .int f.2.1, .int ((f.2.2 : Nat) : Int)]
/-- a tuple of facts -/
def FactsAt (H : Hp) (a : Addr) (F : List Fact) : Prop := ∃ rs : List Addr, H a = some (.tup (rs.map V.ref)) ∧ rs.length = F.length ∧ ∀ (i : Nat) (r : Addr) (f : Fact), rs[i]? = some r → F[i]? = some f → H r = some (factV f)
theorem FactsAt.same {H H' : Hp} {a : Addr} {F : List Fact} (h : FactsAt H a F) (s : Same H H') : FactsAt H' a F := by
  obtain ⟨rs, h1, h2, h3⟩ := h
  exact ⟨rs, s _ _ h1, h2, fun i r f e1 e2 => s _ _ (h3 i r f e1 e2)⟩
theorem same_upd {H : Hp} {p : Addr} {o : HO} (h : H p = none) : Same H (upd H p o) := fun b x e => by
  rw [upd_ne (ne_of_none e h)]
  exact e
section
variable {w : World} {P : Program} {K : PySem.W.Frag} {base : Heap} {mg : Str → Option Value}
/-! ### rest_by, agree -/
theorem sc_rest_by : FnScope ["number", "base"] ["number", "base"] (defScope s_rest_by) := ⟨rfl, rfl, rfl, by decide +kernel, rfl, by decide +kernel, by decide +kernel⟩
def spRest : Sp := fun vs H Q _ => ∃ (n : Int) (b : Nat), vs = [.int n, .int (b : Int)] ∧ Q (.int (n % (b : Int))) H
theorem has_rest_by (T : Txt K mg) : Has P w K mg base CX0 1 "rest_by" ["number", "base"] spRest := by
  refine T.has (st := s_rest_by) 2 rfl (by decide +kernel) sc_rest_by (fun vs H Q E h => ?_) (fun _ _ _ _ _ _ us hl => match us, hl with | [_, _], _ => rfl) (fun f cdv A outer s H vs Q E hr h => ?_)
  · obtain ⟨n, b, rfl, _⟩ := h
    rfl
  · obtain ⟨n, b, rfl, q⟩ := h
    refine ⟨_, PSs.nox (pss_one (ps_ret (pe_ifExp (pt_cmp (pc_eqI (pv 1) pe_int)) (pv 0) (pe_op op_mod (pv 0) (pv 1))))), ?_⟩
    refine ⟨_, rfl, (b : Int), 0, rfl, rfl, _, rfl, ite2 (fun c => ?_) (fun c => ?_)⟩
    · have e : (b : Int) = 0 := of_decide_eq_true c
      rw [e, Int.emod_zero] at q
      exact ⟨_, rfl, q⟩
    · have e : ¬ (b : Int) = 0 := fun z => c (decide_eq_true z)
      exact ⟨_, rfl, _, rfl, n, b, rfl, rfl, by omega, q⟩
theorem sc_agree : FnScope ["one", "other", "base"] ["one", "other", "base"] (defScope s_agree) := ⟨rfl, rfl, rfl, by decide +kernel, rfl, by decide +kernel, by decide +kernel⟩
def spAgree : Sp := fun vs H Q _ => ∃ (a b : Int) (q : Nat), vs = [.int a, .int b, .int (q : Int)] ∧ Q (.bl (decide ((q : Int) ∣ a - b))) H
theorem has_agree (T : Txt K mg) : Has P w K mg base CX0 2 "agree" ["one", "other", "base"] spAgree := by
  have G := has_rest_by (P := P) (w := w) (base := base) T
  refine T.has (st := s_agree) 3 rfl (by decide +kernel) sc_agree (fun vs H Q E h => ?_) (fun _ _ _ _ _ _ us hl => match us, hl with | [_, _, _], _ => rfl) (fun f cdv A outer s H vs Q E hr h => ?_)
  · obtain ⟨a, b, q, rfl, _⟩ := h
    rfl
  · obtain ⟨a, b, q, rfl, k⟩ := h
    refine ⟨_, PSs.nox (pss_one (ps_ret (pe_cmp (pc_eqI (pe_fn G hr (pa_cons (pe_op op_sub (pv 0) (pv 1)) (pa_cons (pv 2) pa_nil))) pe_int)))), ?_⟩
    refine ⟨_, rfl, _, rfl, a, b, rfl, rfl, _, rfl, _, _, rfl, _, _, rfl, rfl, ?_⟩
    have e : decide ((a - b) % (q : Int) = 0) = decide ((q : Int) ∣ a - b) := decide_eq_decide.mpr Int.dvd_iff_emod_eq_zero.symm
    rw [← e] at k
    exact k
/-! ### lcm -/
theorem sc_lcm : FnScope ["one", "other"] ["one", "other"] (defScope s_lcm) := ⟨rfl, rfl, rfl, by decide +kernel, rfl, by decide +kernel, by decide +kernel⟩
def spLcm : Sp := fun vs H Q _ => ∃ a b : Nat, vs = [.int (a : Int), .int (b : Int)] ∧ 0 < a ∧ 0 < b ∧ a ≤ 1000 ∧ b ≤ 1000 ∧ Q (.int (Nat.lcm a b : Nat)) H
theorem has_lcm (T : Txt K mg) : Has P w K mg base CX0 2 "lcm" ["one", "other"] spLcm := by
  have G := has_gcd (P := P) (w := w) (base := base) T
  refine T.has (st := s_lcm) 1 rfl (by decide +kernel) sc_lcm (fun vs H Q E h => ?_) (fun _ _ _ _ _ _ us hl => match us, hl with | [_, _], _ => rfl) (fun f cdv A outer s H vs Q E hr h => ?_)
  · obtain ⟨a, b, rfl, _⟩ := h
    rfl
  · obtain ⟨a, b, rfl, ha, hb, ha2, hb2, k⟩ := h
    have mA : mg "abs" = none := T.fr _ (by decide +kernel)
    refine ⟨_, PSs.nox (pss_one (ps_ret (pe_ifExp (PW.pt (pw_or (pt_cmp (pc_eqI (pv 0) pe_int)) (pw_or1 (pt_cmp (pc_eqI (pv 1) pe_int))))) pe_int
      (pe_op op_mul (pe_op op_fdiv (pe_b1 call_abs mA (pv 0)) (pe_fn G hr (pa_cons (pv 0) (pa_cons (pv 1) pa_nil)))) (pe_b1 call_abs mA (pv 1)))))), ?_⟩
    refine ⟨_, rfl, (a : Int), 0, rfl, rfl, _, rfl, ite2 (fun c => ?_) (fun _ => ?_)⟩
    · have e : (a : Int) = 0 := of_decide_eq_true c
      omega
    refine ⟨_, rfl, (b : Int), 0, rfl, rfl, _, rfl, ite2 (fun c => ?_) (fun _ => ?_)⟩
    · have e : (b : Int) = 0 := of_decide_eq_true c
      omega
    have hg0 : 0 < Nat.gcd a b := Nat.gcd_pos_of_pos_left b ha
    have hg1 : Nat.gcd a b ≤ a := Nat.gcd_le_left b ha
    have e1 : Int.gcd (a : Int) (b : Int) = Nat.gcd a b := rfl
    refine ⟨_, rfl, (a : Int), rfl, _, rfl, _, rfl, (a : Int), (b : Int), rfl, _, _, rfl, rfl, ⟨by rw [e1]; omega, by rw [e1]; omega⟩, _, rfl, (b : Int), rfl, _, _, rfl, rfl, .inl ?_, ?_⟩
    · rw [e1, abs_eq, Int.natAbs_natCast]
      have : (a : Int) / ((Nat.gcd a b : Nat) : Int) ≤ a := by
        rw [← Int.natCast_ediv]
        exact Int.ofNat_le.mpr (Nat.div_le_self _ _)
      have : 0 ≤ (a : Int) / ((Nat.gcd a b : Nat) : Int) := by
        rw [← Int.natCast_ediv]
        exact Int.natCast_nonneg _
      omega
    · have e2 : (if (a : Int) < 0 then -(a : Int) else a) / ((Int.gcd (a : Int) (b : Int) : Nat) : Int) * (if (b : Int) < 0 then -(b : Int) else b) = ((Nat.lcm a b : Nat) : Int) := by
        rw [e1, abs_eq, abs_eq, Int.natAbs_natCast, Int.natAbs_natCast, ← Int.natCast_ediv, ← Int.natCast_mul]
        have := Nat.gcd_dvd_left a b
        unfold Nat.lcm
        rw [Nat.div_mul_right_comm this]
      rw [← e2] at k
      exact k
/-! ### inverse -/
theorem sc_inverse : FnScope ["number", "base", "one", "other", "first", "second", "times"] ["number", "base"] (defScope s_inverse) := ⟨rfl, rfl, rfl, by decide +kernel, rfl, by decide +kernel, by decide +kernel⟩
/-- what times n leaves 1 by m -/
def spInv : Sp := fun vs H Q _ => ∃ (n : Int) (m : Nat), vs = [.int n, .int (m : Int)] ∧ 0 < m ∧ m ≤ 1000 ∧ Int.gcd n (m : Int) = 1 ∧ ∀ (x : Int) (H' : Hp), 0 ≤ x → x < m → (m : Int) ∣ n * x - 1 → Same H H' → Q (.int x) H'
theorem inv_step {m n x y f s u v t : Int} (h1 : x = u * m + f * n) (h2 : y = v * m + s * n) : x - t * y = (u - t * v) * m + (f - t * s) * n := by grind
theorem has_inverse (T : Txt K mg) : Has P w K mg base CX0 1 "inverse" ["number", "base"] spInv := by
  refine T.has (st := s_inverse) 4 rfl (by decide +kernel) sc_inverse (fun vs H Q E h => ?_) (fun _ _ _ _ _ _ us hl => match us, hl with | [_, _], _ => rfl) (fun f cdv A outer s H vs Q E hr h => ?_)
  · obtain ⟨n, m, rfl, _⟩ := h
    rfl
  · obtain ⟨n, m, rfl, hm, hm2, hg, k⟩ := h
    refine ⟨_, PSs.nox (pss_cons (ps_asg (pe_tup (pa_cons (pv 1) (pa_cons (pe_op op_mod (pv 0) (pv 1)) (pa_cons pe_int (pa_cons pe_int pa_nil)))))
        (pg_tup rfl (pgs_cons (pg_name (i := 2) sc_inverse.nd rfl (.inl rfl)) (pgs_cons (pg_name (i := 3) sc_inverse.nd rfl (.inl rfl)) (pgs_cons (pg_name (i := 4) sc_inverse.nd rfl (.inl rfl)) (pgs_cons (pg_name (i := 5) sc_inverse.nd rfl (.inl rfl)) pgs_nil))))))
      (pss_cons (ps_while PassesOwn.never (pt_cmp (pc_gt (pv 3) pe_int))
        (pss_cons (ps_set (i := 6) sc_inverse.nd rfl (.inl rfl) (pe_op op_fdiv (pv 2) (pv 3)))
        (pss_cons (ps_par (i := 2) (j := 3) rfl sc_inverse.nd rfl rfl (by decide) rfl rfl (pa_cons (pv 3) (pa_cons (pe_op op_sub (pv 2) (pe_op op_mul (pv 6) (pv 3))) pa_nil)) (by rfl))
        (pss_one (ps_par (i := 4) (j := 5) rfl sc_inverse.nd rfl rfl (by decide) rfl rfl (pa_cons (pv 5) (pa_cons (pe_op op_sub (pv 4) (pe_op op_mul (pv 6) (pv 5))) pa_nil)) (by rfl))))))
      (pss_one (ps_ret (pe_op op_mod (pv 4) (pv 1)))))), ?_⟩
    have hmI : (0 : Int) < (m : Int) := by omega
    refine ⟨_, rfl, _, rfl, _, rfl, n, m, rfl, rfl, hmI, by show 4 ≤ sizeLine; decide, fun p hp => ?_⟩
    refine ⟨p, _, rfl, .inl (.inl upd_same), rfl, _, _, rfl, _, _, rfl, _, _, rfl, _, _, rfl, rfl, ?_⟩
    have r0 : 0 ≤ n % (m : Int) := Int.emod_nonneg n (by omega)
    have r1 : n % (m : Int) < m := Int.emod_lt_of_pos n hmI
    refine while_by (fun σ H' => ∃ (x y f s u v : Int) (tm : Option V), σ = [some (.int n), some (.int (m : Int)), some (.int x), some (.int y), some (.int f), some (.int s), tm] ∧ 0 ≤ x ∧ x ≤ m ∧ 0 ≤ y ∧ y ≤ m ∧ Int.gcd x y = 1 ∧ x = u * m + f * n ∧ y = v * m + s * n ∧ Same H H')
      (fun σ _ => match σ with | [_, _, _, some (.int y), _, _, _] => y.toNat | _ => 0) ⟨_, _, _, _, 1, -(n / m), _, rfl, by omega, by omega, r0, by omega, ?_, by omega, ?_, same_upd hp⟩ ?_ ?_
    · rw [Int.gcd_comm] at hg
      rw [← hg]
      have e : n % (m : Int) = n - m * (n / m) := by have := Int.mul_ediv_add_emod n m; omega
      rw [e, Int.gcd_sub_mul_left_right]
    · have e : n % (m : Int) = n - m * (n / m) := by have := Int.mul_ediv_add_emod n m; omega
      rw [e, Int.one_mul, Int.neg_mul, Int.mul_comm (n / m)]
      omega
    · rintro σ H' ⟨x, y, f, s, u, v, tm, rfl, hx0, hx1, hy0, hy1, hgc, hxe, hye, sm⟩
      refine ⟨_, rfl, y, 0, rfl, rfl, _, rfl, ite2 (fun c => ?_) (fun c => ?_)⟩
      · have hy : 0 < y := of_decide_eq_true c
        have q0 : 0 ≤ x / y := Int.ediv_nonneg hx0 hy0
        have q1 : x / y ≤ x := Int.ediv_le_self _ hx0
        have e : x - x / y * y = x % y := by have := Int.mul_ediv_add_emod x y; rw [Int.mul_comm] at this; omega
        have z0 : 0 ≤ x % y := Int.emod_nonneg x (by omega)
        have z1 : x % y < y := Int.emod_lt_of_pos x hy
        refine ⟨_, rfl, _, rfl, x, y, rfl, rfl, ⟨hy, by omega⟩, ?_⟩
        refine ⟨_, rfl, _, rfl, _, rfl, _, rfl, _, _, rfl, rfl, .inl ⟨by omega, by omega⟩, _, _, rfl, rfl, _, _, rfl, ?_⟩
        refine ⟨_, rfl, _, rfl, _, rfl, _, rfl, _, _, rfl, rfl, .inl ⟨by omega, by omega⟩, _, _, rfl, rfl, _, _, rfl, ?_⟩
        refine ⟨⟨y, x - x / y * y, s, f - x / y * s, v, u - x / y * v, _, rfl, hy0, hy1, by omega, by omega, ?_, hye, inv_step hxe hye, sm⟩, ?_⟩
        · rw [Int.mul_comm (x / y) y, Int.gcd_sub_mul_left_right, Int.gcd_comm]
          exact hgc
        · show (x - x / y * y).toNat < y.toNat
          omega
      · have hy : ¬ 0 < y := fun z => c (decide_eq_true z)
        have : y = 0 := by omega
        subst this
        refine ⟨_, rfl, _, rfl, f, m, rfl, rfl, hmI, ?_⟩
        have hx : x = 1 := by
          rw [Int.gcd_zero_right] at hgc
          omega
        refine k _ _ (Int.emod_nonneg f (by omega)) (Int.emod_lt_of_pos f hmI) ?_ sm
        have e : n * (f % (m : Int)) - 1 = m * (-(u + n * (f / m))) := by
          have e1 : f % (m : Int) = f - m * (f / m) := by have := Int.mul_ediv_add_emod f m; omega
          rw [e1]
          have e2 : u * m + f * n = 1 := by rw [← hxe]; exact hx
          grind
        rw [e]
        exact Int.dvd_mul_right _ _
    · rintro σ H' Q1 Q2 hq ⟨v, h1, i, j, e1, e2, c, e3, h4⟩
      exact ⟨v, h1, i, j, e1, e2, c, e3, hq _ _ h4⟩
end
end K15
namespace K15
open L2 PySem PySem.Spec PyProof.Rows
/-! ### met -/
theorem met_eq {a b m n : Int} {g : Int} (m' n' t inv c : Int) (hm : m = g * m') (hn : n = g * n') (hb : b - a = g * t) (hc : m' * inv - 1 = n' * c) (j k L : Int) (hL : n ∣ L) (s : Int) (hs : s = t * inv - n' * j) (r : Int) (hr : r = a + m * s - L * k) : n ∣ r - b := by
  obtain ⟨l, hl⟩ := hL
  refine ⟨t * c - m' * j - l * k, ?_⟩
  have e : m' * inv = 1 + n' * c := by omega
  subst hs hr hl
  grind
section
variable {w : World} {P : Program} {K : PySem.W.Frag} {base : Heap} {mg : Str → Option Value}
theorem sc_met : FnScope ["one", "other", "first", "base", "second", "mate", "shared", "steps"] ["one", "other"] (defScope s_met) := ⟨rfl, rfl, rfl, by decide +kernel, rfl, by decide +kernel, by decide +kernel⟩
def spMet : Sp := fun vs H Q _ => ∃ (p q : Addr) (a b : Int) (m n : Nat), vs = [.ref p, .ref q] ∧ H p = some (.tup [.int a, .int (m : Int)]) ∧ H q = some (.tup [.int b, .int (n : Int)]) ∧ 0 < m ∧ m ≤ 1000 ∧ 0 < n ∧ n ≤ 1000 ∧
  0 ≤ a ∧ a ≤ 1000 ∧ 0 ≤ b ∧ b ≤ 1000 ∧ ((Nat.gcd m n : Nat) : Int) ∣ a - b ∧
  ∀ (r : Int) (H' : Hp) (t : Addr), (m : Int) ∣ r - a → (n : Int) ∣ r - b → 0 ≤ r → r < (Nat.lcm m n : Nat) → Same H H' → H' t = some (.tup [.int r, .int (Nat.lcm m n : Nat)]) → Q (.ref t) H'
theorem has_met (T : Txt K mg) : Has P w K mg base CX0 3 "met" ["one", "other"] spMet := by
  have Gg := has_gcd (P := P) (w := w) (base := base) T
  have Gl := has_lcm (P := P) (w := w) (base := base) T
  have Gi := has_inverse (P := P) (w := w) (base := base) T
  refine T.has (st := s_met) 5 rfl (by decide +kernel) sc_met (fun vs H Q E h => ?_) (fun _ _ _ _ _ _ us hl => match us, hl with | [_, _], _ => rfl) (fun f cdv A outer s H vs Q E hr h => ?_)
  · obtain ⟨p, q, a, b, m, n, rfl, _⟩ := h
    rfl
  · obtain ⟨p, q, a, b, m, n, rfl, hp, hq, hm, hm2, hn, hn2, ha, ha2, hb, hb2, hd, k⟩ := h
    have hr1 : Room 1 (A.deeper (envOfC "met" (defScope s_met) s.heap.objs.size f cdv)) := hr.mono (by decide)
    refine ⟨_, PSs.nox (pss_cons (ps_asg (pe_tup (pa_cons (pv 0) (pa_cons (pv 1) pa_nil)))
        (pg_tup rfl (pgs_cons (pg_tup rfl (pgs_cons (pg_name (i := 2) sc_met.nd rfl (.inl rfl)) (pgs_cons (pg_name (i := 3) sc_met.nd rfl (.inl rfl)) pgs_nil)))
          (pgs_cons (pg_tup rfl (pgs_cons (pg_name (i := 4) sc_met.nd rfl (.inl rfl)) (pgs_cons (pg_name (i := 5) sc_met.nd rfl (.inl rfl)) pgs_nil))) pgs_nil))))
      (pss_cons (ps_if (PW.pt (pw_or (pt_cmp (pc_eqI (pv 3) pe_int)) (pw_or1 (pt_cmp (pc_eqI (pv 5) pe_int))))) pss_never pss_nil)
      (pss_cons (ps_set (i := 6) sc_met.nd rfl (.inl rfl) (pe_fn Gg hr1 (pa_cons (pv 3) (pa_cons (pv 5) pa_nil))))
      (pss_cons (ps_set (i := 7) sc_met.nd rfl (.inl rfl) (pe_op op_mod (pe_op op_mul (pe_op op_fdiv (pe_op op_sub (pv 4) (pv 2)) (pv 6))
          (pe_fn Gi hr1 (pa_cons (pe_op op_fdiv (pv 3) (pv 6)) (pa_cons (pe_op op_fdiv (pv 5) (pv 6)) pa_nil)))) (pe_op op_fdiv (pv 5) (pv 6))))
      (pss_one (ps_ret (pe_tup (pa_cons (pe_op op_mod (pe_op op_add (pv 2) (pe_op op_mul (pv 3) (pv 7))) (pe_fn Gl hr (pa_cons (pv 3) (pa_cons (pv 5) pa_nil))))
          (pa_cons (pe_fn Gl hr (pa_cons (pv 3) (pa_cons (pv 5) pa_nil))) pa_nil))))))))), ?_⟩
    refine ⟨_, rfl, _, rfl, by show 2 ≤ sizeLine; decide, fun t0 ht0 => ?_⟩
    have s0 : Same H (upd H t0 (.tup [.ref p, .ref q])) := same_upd ht0
    refine ⟨t0, _, rfl, .inl (.inl upd_same), rfl, _, _, rfl, ⟨p, _, rfl, .inl (.inl (s0 _ _ hp)), rfl, _, _, rfl, _, _, rfl, rfl, ?_⟩⟩
    refine ⟨_, _, rfl, ⟨q, _, rfl, .inl (.inl (s0 _ _ hq)), rfl, _, _, rfl, _, _, rfl, rfl, ?_⟩⟩
    refine ⟨rfl, ?_⟩
    -- neither base is 0
    refine ⟨_, rfl, (m : Int), 0, rfl, rfl, _, rfl, ite2 (fun c => ?_) (fun _ => ?_)⟩
    · have e : (m : Int) = 0 := of_decide_eq_true c
      omega
    refine ⟨_, rfl, (n : Int), 0, rfl, rfl, _, rfl, ite2 (fun c => ?_) (fun _ => ?_)⟩
    · have e : (n : Int) = 0 := of_decide_eq_true c
      omega
    have g0 : 0 < Nat.gcd m n := Nat.gcd_pos_of_pos_left n hm
    have g1 : Nat.gcd m n ≤ m := Nat.gcd_le_left n hm
    have eg : Int.gcd (m : Int) (n : Int) = Nat.gcd m n := rfl
    -- shared
    refine ⟨_, rfl, _, rfl, (m : Int), (n : Int), rfl, ?_⟩
    dsimp only
    rw [eg]
    obtain ⟨m', em⟩ := Nat.gcd_dvd_left m n
    obtain ⟨n', en⟩ := Nat.gcd_dvd_right m n
    have dm : (m : Int) / ((Nat.gcd m n : Nat) : Int) = ((m / Nat.gcd m n : Nat) : Int) := (Int.natCast_ediv _ _).symm
    have dn : (n : Int) / ((Nat.gcd m n : Nat) : Int) = ((n / Nat.gcd m n : Nat) : Int) := (Int.natCast_ediv _ _).symm
    have vm : m / Nat.gcd m n = m' := Nat.div_eq_of_eq_mul_right g0 em
    have vn : n / Nat.gcd m n = n' := Nat.div_eq_of_eq_mul_right g0 en
    have cop : Nat.gcd m' n' = 1 := by
      have := Nat.gcd_div_gcd_div_gcd_of_pos_left (n := m) (m := n) hm
      rw [vm, vn] at this
      exact this
    have n'0 : 0 < n' := Nat.pos_of_ne_zero fun z => by rw [z, Nat.mul_zero] at en; omega
    have n'1 : n' ≤ n := by rw [← vn]; exact Nat.div_le_self _ _
    obtain ⟨t, ht⟩ : ((Nat.gcd m n : Nat) : Int) ∣ b - a := by
      have e : b - a = -(a - b) := by omega
      rw [e]
      exact Int.dvd_neg.mpr hd
    have vt : (b - a) / ((Nat.gcd m n : Nat) : Int) = t := Int.ediv_eq_of_eq_mul_right (by omega) ht
    have tb : -1000 ≤ t ∧ t ≤ 1000 := by
      have h1 : (b - a).natAbs ≤ 1000 := by omega
      have h2 : t.natAbs ≤ (b - a).natAbs := by
        rw [ht, Int.natAbs_mul, Int.natAbs_natCast]
        exact Nat.le_mul_of_pos_left _ g0
      omega
    have gI : (0 : Int) < ((Nat.gcd m n : Nat) : Int) := by omega
    have gS : ((Nat.gcd m n : Nat) : Int) < 1073741824 := by omega
    refine ⟨_, rfl, _, rfl, b, a, rfl, rfl, _, rfl, _, _, rfl, rfl, ⟨gI, gS⟩, ?_⟩
    refine ⟨_, rfl, _, rfl, _, _, rfl, rfl, ⟨gI, gS⟩, _, rfl, _, rfl, _, _, rfl, rfl, ⟨gI, gS⟩, (m : Int) / ((Nat.gcd m n : Nat) : Int), n', (by show [V.int ((m : Int) / ((Nat.gcd m n : Nat) : Int)), V.int ((n : Int) / ((Nat.gcd m n : Nat) : Int))] = _; rw [dn, vn]), n'0, by omega, by rw [dm, vm]; exact cop, fun x H1 hx0 hx1 hx s1 => ?_⟩
    dsimp only
    rw [vt]
    refine ⟨t, x, rfl, rfl, .inl ⟨by omega, by omega⟩, _, rfl, _, rfl, _, _, rfl, rfl, ⟨gI, gS⟩, _, _, rfl, rfl, by rw [dn, vn]; omega, ?_⟩
    dsimp only
    rw [dn, vn]
    -- the answer
    refine ⟨_, rfl, _, rfl, _, rfl, (m : Int), t * x % (n' : Int), rfl, rfl, .inl ⟨by omega, by omega⟩, a, _, rfl, rfl, ?_⟩
    have l0 : 0 < Nat.lcm m n := Nat.lcm_pos hm hn
    refine ⟨_, rfl, _, rfl, m, n, rfl, hm, hn, hm2, hn2, _, _, rfl, rfl, by omega, ?_⟩
    refine ⟨_, rfl, _, rfl, m, n, rfl, hm, hn, hm2, hn2, by show 2 ≤ sizeLine; decide, fun t2 ht2 => ?_⟩
    have sAll : Same H (upd H1 t2 (.tup [.int ((a + (m : Int) * (t * x % (n' : Int))) % ((Nat.lcm m n : Nat) : Int)), .int (Nat.lcm m n : Nat)])) := (s0.trans s1).trans (same_upd ht2)
    have lI : (0 : Int) < ((Nat.lcm m n : Nat) : Int) := by omega
    refine k _ _ t2 ?_ ?_ (Int.emod_nonneg _ (by omega)) (Int.emod_lt_of_pos _ lI) sAll upd_same
    · have e1 := Int.mul_ediv_add_emod (a + (m : Int) * (t * x % (n' : Int))) ((Nat.lcm m n : Nat) : Int)
      have d1 : (m : Int) ∣ ((Nat.lcm m n : Nat) : Int) * ((a + (m : Int) * (t * x % (n' : Int))) / ((Nat.lcm m n : Nat) : Int)) := Int.dvd_trans (Int.ofNat_dvd.mpr (Nat.dvd_lcm_left m n)) (Int.dvd_mul_right _ _)
      have d2 : (m : Int) ∣ (m : Int) * (t * x % (n' : Int)) := Int.dvd_mul_right _ _
      have := Int.dvd_sub d2 d1
      have e : (m : Int) * (t * x % (n' : Int)) - ((Nat.lcm m n : Nat) : Int) * ((a + (m : Int) * (t * x % (n' : Int))) / ((Nat.lcm m n : Nat) : Int)) = (a + (m : Int) * (t * x % (n' : Int))) % ((Nat.lcm m n : Nat) : Int) - a := by omega
      rwa [e] at this
    · obtain ⟨c, hc⟩ := hx
      rw [dm, vm] at hc
      refine met_eq (m := (m : Int)) (n := (n : Int)) (g := ((Nat.gcd m n : Nat) : Int)) (m' : Int) (n' : Int) t x c ?_ ?_ ht hc (t * x / (n' : Int)) ((a + (m : Int) * (t * x % (n' : Int))) / ((Nat.lcm m n : Nat) : Int)) ((Nat.lcm m n : Nat) : Int) (Int.ofNat_dvd.mpr (Nat.dvd_lcm_right m n)) (t * x % (n' : Int)) ?_ _ ?_
      · rw [← Int.natCast_mul, ← em]
      · rw [← Int.natCast_mul, ← en]
      · have := Int.mul_ediv_add_emod (t * x) (n' : Int)
        omega
      · have e1 := Int.mul_ediv_add_emod (a + (m : Int) * (t * x % (n' : Int))) ((Nat.lcm m n : Nat) : Int)
        omega
end
end K15
namespace K15
open L2 PySem PySem.Spec PyProof.Rows
theorem at_map {rs : List Addr} {i : Nat} {x : V} (h : (rs.map V.ref)[i]? = some x) : ∃ r, rs[i]? = some r ∧ x = .ref r := by
  rw [List.getElem?_map] at h
  obtain ⟨r, e1, e2⟩ := Option.map_eq_some_iff.mp h
  exact ⟨r, e1, e2.symm⟩
theorem at_len {α β : Type} {rs : List α} {F : List β} {i : Nat} {r : α} (hl : rs.length = F.length) (h : rs[i]? = some r) : ∃ f, F[i]? = some f := by
  have := (List.getElem?_eq_some_iff.mp h).1
  exact ⟨F[i]'(by omega), List.getElem?_eq_getElem _⟩
section
variable {w : World} {P : Program} {K : PySem.W.Frag} {base : Heap} {mg : Str → Option Value}
/-! ### is_integer, are_integers, is_fact -/
theorem sc_is_integer : FnScope ["value"] ["value"] (defScope s_is_integer) := ⟨rfl, rfl, rfl, by decide +kernel, rfl, by decide +kernel, by decide +kernel⟩
def spIsInt : Sp := fun vs H Q _ => ∃ i : Int, vs = [.int i] ∧ Q (.bl true) H
theorem has_is_integer (T : Txt K mg) : Has P w K mg base CX0 1 "is_integer" ["value"] spIsInt := by
  refine T.has (st := s_is_integer) 6 rfl (by decide +kernel) sc_is_integer (fun vs H Q E h => ?_) (fun _ _ _ _ _ _ us hl => match us, hl with | [_], _ => rfl) (fun f cdv A outer s H vs Q E hr h => ?_)
  · obtain ⟨i, rfl, _⟩ := h
    rfl
  · obtain ⟨i, rfl, q⟩ := h
    have m1 : mg "isinstance" = none := T.fr _ (by decide +kernel)
    have m2 : mg "int" = none := T.fr _ (by decide +kernel)
    have m3 : mg "bool" = none := T.fr _ (by decide +kernel)
    refine ⟨_, PSs.nox (pss_one (ps_ret (pe_and (pe_b2 call_isi m1 (pv 0) (pe_bltn (v := .ty "int") (by rfl) m2 (by decide +kernel) rfl))
      (pe_one (pe_not (pe_b2 call_isi m1 (pv 0) (pe_bltn (v := .ty "bool") (by rfl) m3 (by decide +kernel) rfl))))))), ?_⟩
    refine ⟨_, rfl, .int i, .ty "int", _, _, true, rfl, .ty _, .base (.int i), kit_ty (by decide +kernel), true, rfl, iteT ?_⟩
    refine ⟨_, rfl, .int i, .ty "bool", _, _, false, rfl, .ty _, .base (.int i), kit_ty (by decide +kernel), false, rfl, q⟩
theorem sc_are_integers : FnScope ["value", "many", "number"] ["value", "many"] (defScope s_are_integers) := ⟨rfl, rfl, rfl, by decide +kernel, rfl, by decide +kernel, by decide +kernel⟩
def spAreInts : Sp := fun vs H Q _ => ∃ (a : Addr) (f : Fact), vs = [.ref a, .int 3] ∧ H a = some (factV f) ∧ ∀ H', Same H H' → Q (.bl true) H'
theorem has_are_integers (T : Txt K mg) : Has P w K mg base CX0 2 "are_integers" ["value", "many"] spAreInts := by
  have G := has_is_integer (P := P) (w := w) (base := base) T
  refine T.has (st := s_are_integers) 7 rfl (by decide +kernel) sc_are_integers (fun vs H Q E h => ?_) (fun _ _ _ _ _ _ us hl => match us, hl with | [_, _], _ => rfl) (fun f cdv A outer s H vs Q E hr h => ?_)
  · obtain ⟨a, f, rfl, _⟩ := h
    rfl
  · obtain ⟨a, f, rfl, ha, q⟩ := h
    have m1 : mg "isinstance" = none := T.fr _ (by decide +kernel)
    have m2 : mg "tuple" = none := T.fr _ (by decide +kernel)
    have m3 : mg "len" = none := T.fr _ (by decide +kernel)
    have m4 : mg "all" = none := T.fr _ (by decide +kernel)
    refine ⟨_, PSs.nox (pss_one (ps_ret (pe_and (pe_b2 call_isi m1 (pv 0) (pe_bltn (v := .ty "tuple") (by rfl) m2 (by decide +kernel) rfl))
      (pe_and (pe_cmp (pc_eqI (pe_b1 call_len_seq m3 (pv 0)) (pv 1)))
      (pe_one (pe_b1 (cr_all rfl) m4 (pe_lc (own := [("number", 2)]) (g := gName 2) (tt := tYes) rfl sc_are_integers.nd (pi_tup (pv 0))
        (blkOk_by (N := ["value", "many", "number"]) (sc := defScope s_are_integers) (by decide +kernel)) (fun _ _ _ _ _ => pg_name (i := 2) sc_are_integers.nd rfl (Or.inl rfl)) (fun _ _ _ _ _ => pts_nil)
        (fun _ _ _ _ _ => pe_fn G hr (pa_cons (pv 2) pa_nil))))))))), ?_⟩
    refine ⟨_, rfl, .ref a, .ty "tuple", _, _, true, rfl, .ty _, .base (.tup ha), kit_ty (by decide +kernel), true, rfl, iteT ?_⟩
    refine ⟨_, rfl, a, _, rfl, .inr (.inl (.inl ha)), _, rfl, 3, 3, rfl, rfl, true, rfl, iteT ?_⟩
    refine ⟨_, rfl, a, rfl, ⟨_, .inl (.inl ha)⟩, fun D hD => ?_⟩
    refine lc_it (walk_tup (K := K) (a := a) (xs := [.int f.1, .int f.2.1, .int ((f.2.2 : Nat) : Int)])) (fun i H' => Same H H' ∧ H' D = some (.lst ((List.replicate i true).map V.bl))) ⟨same_upd hD, upd_same⟩ (fun i H' _ h => .inl (.inl (h.1 _ _ ha))) ?_ ?_
    · rintro i x H1 H2 hi ⟨s1, hD1⟩ ⟨rfl, hx⟩
      refine ⟨rfl, ?_⟩
      obtain ⟨z, rfl⟩ : ∃ z, x = .int z := by
        match i, hx with
        | 0, hx => exact ⟨_, (Option.some.inj hx).symm⟩
        | 1, hx => exact ⟨_, (Option.some.inj hx).symm⟩
        | 2, hx => exact ⟨_, (Option.some.inj hx).symm⟩
      refine ⟨_, rfl, z, rfl, _, hD1, ?_, fun b o e => ?_, ?_⟩
      · rw [List.length_map, List.length_replicate]
        exact small1000 (by have : i < 3 := hi; omega)
      · have : b ≠ D := ne_of_none e hD
        rw [upd_ne this]
        exact s1 _ _ e
      · rw [upd_same, List.replicate_succ', List.map_append]
        rfl
    · rintro H1 ⟨s1, hD1⟩
      exact ⟨D, _, rfl, .inl (.inl hD1), q H1 s1⟩
theorem sc_is_fact : FnScope ["value"] ["value"] (defScope s_is_fact) := ⟨rfl, rfl, rfl, by decide +kernel, rfl, by decide +kernel, by decide +kernel⟩
def spIsFact : Sp := fun vs H Q _ => ∃ (a : Addr) (f : Fact), vs = [.ref a] ∧ H a = some (factV f) ∧ ∀ H', Same H H' → Q (.bl true) H'
theorem has_is_fact (T : Txt K mg) : Has P w K mg base CX0 3 "is_fact" ["value"] spIsFact := by
  have G := has_are_integers (P := P) (w := w) (base := base) T
  refine T.has (st := s_is_fact) 8 rfl (by decide +kernel) sc_is_fact (fun vs H Q E h => ?_) (fun _ _ _ _ _ _ us hl => match us, hl with | [_], _ => rfl) (fun f cdv A outer s H vs Q E hr h => ?_)
  · obtain ⟨a, f, rfl, _⟩ := h
    rfl
  · obtain ⟨a, f, rfl, ha, q⟩ := h
    refine ⟨_, PSs.nox (pss_one (ps_ret (pe_and (pe_fn G hr (pa_cons (pv 0) (pa_cons pe_int pa_nil))) (pe_one (pe_cmp (pc_ge (pe_ix ix_tup (pv 0) pe_int (fun _ _ => rfl)) pe_int)))))), ?_⟩
    refine ⟨_, rfl, a, f, rfl, ha, fun H1 s1 => ⟨true, rfl, iteT ?_⟩⟩
    refine ⟨_, rfl, a, _, 2, _, rfl, rfl, .inl (.inl (s1 _ _ ha)), atI_nat (j := 2) rfl, ?_⟩
    refine ⟨((f.2.2 : Nat) : Int), 0, rfl, rfl, ?_⟩
    have e : decide ((0 : Int) ≤ ((f.2.2 : Nat) : Int)) = true := decide_eq_true (Int.natCast_nonneg _)
    show Q (.bl (decide ((0 : Int) ≤ ((f.2.2 : Nat) : Int)))) H1
    rw [e]
    exact q H1 s1
/-! ### check_facts, check_both -/
theorem sc_check_facts : FnScope ["facts", "most", "at", "fact"] ["facts", "most"] (defScope s_check_facts) := ⟨rfl, rfl, rfl, by decide +kernel, rfl, by decide +kernel, by decide +kernel⟩
def spCheck : Sp := fun vs H Q _ => ∃ (a : Addr) (F : List Fact), vs = [.ref a, .int 40] ∧ FactsAt H a F ∧ F.length ≤ 40 ∧ ∀ H', Same H H' → Q .non H'
theorem has_check_facts (T : Txt K mg) : Has P w K mg base CX0 4 "check_facts" ["facts", "most"] spCheck := by
  have G := has_is_fact (P := P) (w := w) (base := base) T
  refine T.has (st := s_check_facts) 9 rfl (by decide +kernel) sc_check_facts (fun vs H Q E h => ?_) (fun _ _ _ _ _ _ us hl => match us, hl with | [_, _], _ => rfl) (fun f cdv A outer s H vs Q E hr h => ?_)
  · obtain ⟨a, F, rfl, _⟩ := h
    rfl
  · obtain ⟨a, F, rfl, ⟨rs, ha, hl, hf⟩, hF, q⟩ := h
    have m1 : mg "isinstance" = none := T.fr _ (by decide +kernel)
    have m2 : mg "tuple" = none := T.fr _ (by decide +kernel)
    have m3 : mg "enumerate" = none := T.fr _ (by decide +kernel)
    refine ⟨_, PSs.nox (pss_cons (ps_if (pt_not (pt_val (pe_b2 call_isi m1 (pv 0) (pe_bltn (v := .ty "tuple") (by rfl) m2 (by decide +kernel) rfl)))) pss_never pss_nil)
      (pss_one (ps_for PassesOwn.never rfl (pi_enumT m3 (pa_cons (pv 0) pa_nil)) (pg_tup rfl (pgs_cons (pg_name (i := 2) sc_check_facts.nd rfl (.inl rfl)) (pgs_cons (pg_name (i := 3) sc_check_facts.nd rfl (.inl rfl)) pgs_nil)))
        (pss_one (ps_if (PW.pt (pw_or (pt_cmp (pc_eqI (pv 2) (pv 1))) (pw_or1 (pt_not (pt_val (pe_fn G hr (pa_cons (pv 3) pa_nil))))))) pss_never pss_nil))))), ?_⟩
    refine ⟨_, rfl, .ref a, .ty "tuple", _, _, true, rfl, .ty _, .base (.tup ha), kit_ty (by decide +kernel), true, rfl, iteF ?_⟩
    refine ⟨_, rfl, a, _, rfl, .inl (.inl ha), ?_⟩
    refine for_it (walk_enumT (K := K) (a := a) (xs := rs.map V.ref)) (fun i σ H' => ∃ y2 y3, σ = [some (.ref a), some (.int 40), y2, y3] ∧ Same H H') ⟨none, none, rfl, Same.refl H⟩ (fun i σ H' _ h => ?_) ?_ ?_
    · obtain ⟨_, _, _, s1⟩ := h
      exact .inl (.inl (s1 _ _ ha))
    · rintro i x σ H1 H2 hi ⟨y2, y3, rfl, s1⟩ ⟨t, x1, x2, rfl, nt, rfl, e1, e2⟩
      cases Option.some.inj e1
      obtain ⟨r, er, rfl⟩ := at_map e2
      obtain ⟨fa, ef⟩ := at_len hl er
      have s2 : Same H (upd H1 t (.tup [.int (i : Nat), .ref r])) := s1.trans (same_upd nt)
      refine ⟨t, _, rfl, .inl (.inl upd_same), rfl, _, _, rfl, _, _, rfl, rfl, ?_⟩
      have hi40 : i < 40 := by
        have h2 : i < (rs.map V.ref).length := hi
        rw [List.length_map] at h2
        omega
      refine ⟨_, rfl, _, rfl, (i : Nat), 40, rfl, rfl, _, rfl, ite2 (fun c => ?_) (fun _ => ?_)⟩
      · have e : ((i : Nat) : Int) = 40 := of_decide_eq_true c
        omega
      · refine ⟨_, rfl, r, fa, rfl, s2 _ _ (hf i r fa er ef), fun H3 s3 => ⟨true, rfl, iteF ?_⟩⟩
        exact ⟨_, _, rfl, s2.trans s3⟩
    · rintro σ H1 ⟨y2, y3, rfl, s1⟩
      exact q H1 s1
theorem sc_check_both : FnScope ["one", "other"] ["one", "other"] (defScope s_check_both) := ⟨rfl, rfl, rfl, by decide +kernel, rfl, by decide +kernel, by decide +kernel⟩
def spBoth : Sp := fun vs H Q _ => ∃ (a b : Addr) (F G : List Fact), vs = [.ref a, .ref b] ∧ FactsAt H a F ∧ FactsAt H b G ∧ F.length ≤ 40 ∧ G.length ≤ 40 ∧ ∀ H', Same H H' → Q .non H'
theorem has_check_both (T : Txt K mg) : Has P w K mg base CX0 5 "check_both" ["one", "other"] spBoth := by
  have G := has_check_facts (P := P) (w := w) (base := base) T
  refine T.has (st := s_check_both) 15 rfl (by decide +kernel) sc_check_both (fun vs H Q E h => ?_) (fun _ _ _ _ _ _ us hl => match us, hl with | [_, _], _ => rfl) (fun f cdv A outer s H vs Q E hr h => ?_)
  · obtain ⟨a, b, F, G, rfl, _⟩ := h
    rfl
  · obtain ⟨a, b, F1, F2, rfl, h1, h2, l1, l2, q⟩ := h
    obtain ⟨t, mt⟩ := T.mf
    refine ⟨_, PSs.nox (pss_cons (ps_expr (pe_fn G hr (pa_cons (pv 0) (pa_cons (pe_glob (v := .int 40) rfl mt ⟨_, rfl⟩) pa_nil)))) (pss_one (ps_expr (pe_fn G hr (pa_cons (pv 1) (pa_cons (pe_glob (v := .int 40) rfl mt ⟨_, rfl⟩) pa_nil)))))), ?_⟩
    refine ⟨_, rfl, a, F1, rfl, h1, l1, fun H1 s1 => ?_⟩
    exact ⟨_, rfl, b, F2, rfl, h2.same s1, l2, fun H2 s2 => q H2 (s1.trans s2)⟩
end
end K15
namespace K15
open L2 PySem PySem.Spec PyProof.Rows
theorem ixT (K : PySem.W.Frag) {X : Cx} (h : X.K = K := by rfl) : IxR X (rIxT K) := by
  subst h
  exact ix_tup
theorem ixL (K : PySem.W.Frag) {X : Cx} (h : X.K = K := by rfl) : IxR X (rIxL K) := by
  subst h
  exact ix_list
/-! ### which facts quarrel -/
def bad (F : List Fact) (i j : Nat) : Prop := ∃ f g, F[i]? = some f ∧ F[j]? = some g ∧ ¬ Ok2 f g
def lexN (p q : Nat × Nat) : Prop := p.1 < q.1 ∨ (p.1 = q.1 ∧ p.2 < q.2)
/-- all pairs that quarrel, ascending -/
structure AllQ (F : List Fact) (qs : List (Nat × Nat)) : Prop where
  mem : ∀ q, q ∈ qs ↔ q.1 < q.2 ∧ bad F q.1 q.2
  asc : qs.Pairwise fun p q => ¬ lexN q p
/-- the first of them -/
structure FirstQ (F : List Fact) (q : Nat × Nat) : Prop where
  lt : q.1 < q.2
  bad : bad F q.1 q.2
  min : ∀ r : Nat × Nat, r.1 < r.2 → K15.bad F r.1 r.2 → ¬ lexN r q
theorem FirstQ.one {F : List Fact} {p q : Nat × Nat} (h : FirstQ F p) (k : FirstQ F q) : p = q := by
  have h1 := h.min q k.lt k.bad
  have h2 := k.min p h.lt h.bad
  obtain ⟨a, b⟩ := p
  obtain ⟨c, d⟩ := q
  unfold lexN at h1 h2
  simp only at h1 h2
  have e1 : a = c := by omega
  have e2 : b = d := by omega
  rw [e1, e2]
theorem AllQ.first {F : List Fact} {q : Nat × Nat} {qs : List (Nat × Nat)} (h : AllQ F (q :: qs)) : FirstQ F q := by
  have m := (h.mem q).mp List.mem_cons_self
  refine ⟨m.1, m.2, fun r r1 r2 => ?_⟩
  rcases List.mem_cons.mp ((h.mem r).mpr ⟨r1, r2⟩) with e | hr
  · rw [e]
    unfold lexN
    omega
  · exact (List.pairwise_cons.mp h.asc).1 r hr
theorem noQ_iff {F : List Fact} : NoQ F ↔ ∀ i j, i < j → ¬ bad F i j := by
  unfold NoQ
  rw [(List.pairwise_iff_getElem)]
  constructor
  · intro h i j hij ⟨f, g, e1, e2, hn⟩
    obtain ⟨l1, e1⟩ := List.getElem?_eq_some_iff.mp e1
    obtain ⟨l2, e2⟩ := List.getElem?_eq_some_iff.mp e2
    have := h i j l1 l2 hij
    rw [e1, e2] at this
    exact hn this
  · intro h i j l1 l2 hij
    exact Decidable.byContradiction fun hn => h i j hij ⟨_, _, List.getElem?_eq_getElem l1, List.getElem?_eq_getElem l2, hn⟩
theorem AllQ.nil_iff {F : List Fact} {qs : List (Nat × Nat)} (h : AllQ F qs) : qs = [] ↔ NoQ F := by
  rw [noQ_iff]
  constructor
  · rintro rfl i j hij hb
    have := (h.mem (i, j)).mpr ⟨hij, hb⟩
    simp at this
  · intro k
    cases qs with
    | nil => rfl
    | cons q r =>
      have := (h.mem q).mp List.mem_cons_self
      exact absurd this.2 (k _ _ this.1)
/-- refs of pairs of numbers -/
def PairsAt (H : Hp) (ts : List Addr) (qs : List (Nat × Nat)) : Prop := ts.length = qs.length ∧ ∀ (i : Nat) (t : Addr) (q : Nat × Nat), ts[i]? = some t → qs[i]? = some q → H t = some (.tup [.int (q.1 : Nat), .int (q.2 : Nat)])
theorem PairsAt.same {H H' : Hp} {ts : List Addr} {qs : List (Nat × Nat)} (h : PairsAt H ts qs) (s : Same H H') : PairsAt H' ts qs := ⟨h.1, fun i t q e1 e2 => s _ _ (h.2 i t q e1 e2)⟩
theorem PairsAt.nil (H : Hp) : PairsAt H [] [] := ⟨rfl, fun i t q h => by simp at h⟩
theorem PairsAt.app {H : Hp} {ts us : List Addr} {qs rs : List (Nat × Nat)} (h : PairsAt H ts qs) (k : PairsAt H us rs) : PairsAt H (ts ++ us) (qs ++ rs) := by
  refine ⟨by rw [List.length_append, List.length_append, h.1, k.1], fun i t q e1 e2 => ?_⟩
  by_cases hi : i < ts.length
  · rw [List.getElem?_append_left hi] at e1
    rw [List.getElem?_append_left (by rw [← h.1]; exact hi)] at e2
    exact h.2 i t q e1 e2
  · rw [List.getElem?_append_right (by omega)] at e1
    rw [List.getElem?_append_right (by rw [← h.1]; omega), ← h.1] at e2
    exact k.2 _ t q e1 e2
theorem PairsAt.one {H : Hp} {t : Addr} {i j : Nat} (h : H t = some (.tup [.int (i : Nat), .int (j : Nat)])) : PairsAt H [t] [(i, j)] := by
  refine ⟨rfl, fun n t' q e1 e2 => ?_⟩
  match n, e1, e2 with
  | 0, e1, e2 =>
    cases Option.some.inj e1
    cases Option.some.inj e2
    exact h
section
variable {w : World} {P : Program} {K : PySem.W.Frag} {base : Heap} {mg : Str → Option Value}
theorem sc_do_quarrel : FnScope ["one", "other"] ["one", "other"] (defScope s_do_quarrel) := ⟨rfl, rfl, rfl, by decide +kernel, rfl, by decide +kernel, by decide +kernel⟩
def spDoQ : Sp := fun vs H Q _ => ∃ (p q : Addr) (f g : Fact), vs = [.ref p, .ref q] ∧ H p = some (factV f) ∧ H q = some (factV g) ∧ Q (.bl (!decide (Ok2 f g))) H
theorem has_do_quarrel (T : Txt K mg) : Has P w K mg base CX0 3 "do_quarrel" ["one", "other"] spDoQ := by
  have Ga := has_agree (P := P) (w := w) (base := base) T
  have Gg := has_gcd (P := P) (w := w) (base := base) T
  refine T.has (st := s_do_quarrel) 10 rfl (by decide +kernel) sc_do_quarrel (fun vs H Q E h => ?_) (fun _ _ _ _ _ _ us hl => match us, hl with | [_, _], _ => rfl) (fun f cdv A outer s H vs Q E hr h => ?_)
  · obtain ⟨p, q, f, g, rfl, _⟩ := h
    rfl
  · obtain ⟨p, q, ff, gg, rfl, hp, hq, k⟩ := h
    have hr1 : Room 1 (A.deeper (envOfC "do_quarrel" (defScope s_do_quarrel) s.heap.objs.size f cdv)) := hr.mono (by decide)
    refine ⟨_, PSs.nox (pss_one (ps_ret (pe_not (pe_fn Ga hr (pa_cons (pe_ix ix_tup (pv 0) pe_int (fun _ _ => rfl)) (pa_cons (pe_ix ix_tup (pv 1) pe_int (fun _ _ => rfl))
      (pa_cons (pe_fn Gg hr1 (pa_cons (pe_fn Gg hr1 (pa_cons (pe_ix ix_tup (pv 0) pe_int (fun _ _ => rfl)) (pa_cons (pe_ix ix_tup (pv 1) pe_int (fun _ _ => rfl)) pa_nil)))
        (pa_cons (pe_op op_sub (pe_ix ix_tup (pv 0) pe_int (fun _ _ => rfl)) (pe_ix ix_tup (pv 1) pe_int (fun _ _ => rfl))) pa_nil))) pa_nil))))))), ?_⟩
    refine ⟨_, rfl, p, _, 1, _, rfl, rfl, .inl (.inl hp), atI_nat (j := 1) rfl, _, rfl, q, _, 1, _, rfl, rfl, .inl (.inl hq), atI_nat (j := 1) rfl, ?_⟩
    refine ⟨_, rfl, p, _, 2, _, rfl, rfl, .inl (.inl hp), atI_nat (j := 2) rfl, _, rfl, q, _, 2, _, rfl, rfl, .inl (.inl hq), atI_nat (j := 2) rfl, ?_⟩
    refine ⟨_, _, rfl, _, rfl, p, _, 0, _, rfl, rfl, .inl (.inl hp), atI_nat (j := 0) rfl, _, rfl, q, _, 0, _, rfl, rfl, .inl (.inl hq), atI_nat (j := 0) rfl, _, _, rfl, rfl, ?_⟩
    exact ⟨_, _, rfl, _, _, _, rfl, _, rfl, k⟩
theorem sc_all_quarrels : FnScope ["facts", "found", "second", "fact", "first"] ["facts"] (defScope s_all_quarrels) := ⟨rfl, rfl, rfl, by decide +kernel, rfl, by decide +kernel, by decide +kernel⟩
def spAllQ : Sp := fun vs H Q _ => ∃ (a : Addr) (F : List Fact), vs = [.ref a] ∧ FactsAt H a F ∧ F.length ≤ 100 ∧
  ∀ (H' : Hp) (p : Addr) (ts : List Addr) (qs : List (Nat × Nat)), Same H H' → H' p = some (.lst (ts.map V.ref)) → PairsAt H' ts qs → AllQ F qs → Q (.ref p) H'
/-- what a tracked pair of numbers holds -/
def kOf (H : Hp) (v : V) : Int × Int := match v with
  | .ref t => (match H t with
    | some (.tup [.int i, .int j]) => (i, j)
    | _ => (0, 0))
  | _ => (0, 0)
theorem kOf_eq {H : Hp} {t : Addr} {i j : Int} (h : H t = some (.tup [.int i, .int j])) : kOf H (.ref t) = (i, j) := by
  unfold kOf
  dsimp only
  rw [h]
def refOf (v : V) : Addr := match v with
  | .ref t => t
  | _ => 0
def kk (H : Hp) (v : V) : Nat × Nat := ((kOf H v).1.toNat, (kOf H v).2.toNat)
theorem kk_eq {H : Hp} {t : Addr} {q : Nat × Nat} (h : H t = some (.tup [.int (q.1 : Nat), .int (q.2 : Nat)])) : kk H (.ref t) = q := by
  unfold kk
  rw [kOf_eq h, Int.toNat_natCast, Int.toNat_natCast]
/-- the pairs, sorted -/
theorem sorted_pairs {H : Hp} {ts : List Addr} {qs : List (Nat × Nat)} {ys : List V} (hp : PairsAt H ts qs) (perm : ys.Perm (ts.map V.ref)) (hs : SrtO.Srtd (ltP (kOf H)) ys) :
    ys = (ys.map refOf).map V.ref ∧ PairsAt H (ys.map refOf) (ys.map (kk H)) ∧ (ys.map (kk H)).Perm qs ∧ (ys.map (kk H)).Pairwise (fun p q => ¬ lexN q p) := by
  have each : ∀ y ∈ ys, ∃ (t : Addr) (q : Nat × Nat), y = .ref t ∧ H t = some (.tup [.int (q.1 : Nat), .int (q.2 : Nat)]) := fun y hy => by
    obtain ⟨t, ht, rfl⟩ := List.mem_map.mp (perm.mem_iff.mp hy)
    obtain ⟨n, hn, e⟩ := List.mem_iff_getElem.mp ht
    have e1 : ts[n]? = some t := by rw [List.getElem?_eq_getElem hn, e]
    obtain ⟨q, e2⟩ := at_len hp.1 e1
    exact ⟨t, q, rfl, hp.2 n t q e1 e2⟩
  have eq : (ts.map V.ref).map (kk H) = qs := by
    refine List.ext_getElem? fun n => ?_
    rw [List.getElem?_map,
      List.getElem?_map]
    cases e : ts[n]? with
    | none =>
      have : ts.length ≤ n := List.getElem?_eq_none_iff.mp e
      exact (List.getElem?_eq_none_iff.mpr (by rw [← hp.1]; exact this)).symm
    | some t =>
      obtain ⟨q, e2⟩ := at_len hp.1 e
      rw [e2]
      show some (kk H (.ref t)) = some q
      rw [kk_eq (hp.2 n t q e e2)]
  refine ⟨?_, ⟨by simp, fun n t q e1 e2 => ?_⟩, ?_, ?_⟩
  · rw [List.map_map]
    have e : ys.map (V.ref ∘ refOf) = ys.map id := List.map_congr_left fun y hy => by
      obtain ⟨t, q, rfl, _⟩ := each y hy
      rfl
    rw [e, List.map_id]
  · rw [List.getElem?_map] at e1 e2
    obtain ⟨y, hy, e3⟩ := Option.map_eq_some_iff.mp e1
    rw [hy] at e2
    obtain ⟨t', q', rfl, z⟩ := each y (List.mem_of_getElem? hy)
    have e4 : t' = t := e3
    have e5 : kk H (.ref t') = q := Option.some.inj e2
    rw [kk_eq z] at e5
    rw [← e4, ← e5]
    exact z
  · rw [← eq]
    exact perm.map (kk H)
  · rw [List.pairwise_map]
    refine (List.Pairwise.imp_of_mem (fun {x y} hx hy h => ?_) hs)
    obtain ⟨t1, q1, rfl, z1⟩ := each x hx
    obtain ⟨t2, q2, rfl, z2⟩ := each y hy
    have h : SrtO.lexB (kOf H (.ref t2)) (kOf H (.ref t1)) = false := h
    rw [kOf_eq z1, kOf_eq z2] at h
    rw [kk_eq z1, kk_eq z2]
    intro k
    have := SrtO.lexB_iff.mpr (show (((q2.1 : Nat) : Int), ((q2.2 : Nat) : Int)).1 < (((q1.1 : Nat) : Int), ((q1.2 : Nat) : Int)).1 ∨ _ from by
      rcases k with k | ⟨k1, k2⟩
      · exact .inl (by show ((q2.1 : Nat) : Int) < (q1.1 : Nat); omega)
      · exact .inr ⟨by show ((q2.1 : Nat) : Int) = (q1.1 : Nat); omega, by show ((q2.2 : Nat) : Int) < (q1.2 : Nat); omega⟩)
    rw [this] at h
    cases h
theorem has_all_quarrels (T : Txt K mg) : Has P w K mg base CX0 4 "all_quarrels" ["facts"] spAllQ := by
  have G := has_do_quarrel (P := P) (w := w) (base := base) T
  refine T.has (st := s_all_quarrels) 11 rfl (by decide +kernel) sc_all_quarrels (fun vs H Q E h => ?_) (fun _ _ _ _ _ _ us hl => match us, hl with | [_], _ => rfl) (fun f cdv A outer s H vs Q E hr h => ?_)
  · obtain ⟨a, F, rfl, _⟩ := h
    rfl
  · obtain ⟨a, F, rfl, ⟨rs, ha, hl, hf⟩, hF, q⟩ := h
    have m1 : mg "enumerate" = none := T.fr _ (by decide +kernel)
    have m2 : mg "range" = none := T.fr _ (by decide +kernel)
    have m3 : mg "sorted" = none := T.fr _ (by decide +kernel)
    refine ⟨_, PSs.nox (pss_cons (ps_set (i := 1) sc_all_quarrels.nd rfl (.inl rfl) (pe_lst pa_nil))
      (pss_cons (ps_for PassesOwn.never rfl (pi_enumT m1 (pa_cons (pv 0) pa_nil)) (pg_tup rfl (pgs_cons (pg_name (i := 2) sc_all_quarrels.nd rfl (.inr rfl)) (pgs_cons (pg_name (i := 3) sc_all_quarrels.nd rfl (.inr rfl)) pgs_nil)))
        (pss_one (ps_expr (pe_bm PySem.F.plainAttrs_list PySem.F.slot_list_extend PySem.F.type_list_extend mt_extend (pv 1) (pa_cons
          (pe_lc (own := [("first", 4)]) (g := gName 4) rfl sc_all_quarrels.nd (pi_range1 rfl m2 (pa_cons (pv 2) pa_nil))
            (blkOk_by (N := ["facts", "found", "second", "fact", "first"]) (sc := defScope s_all_quarrels) (by decide +kernel)) (fun _ _ _ _ _ => pg_name (i := 4) sc_all_quarrels.nd rfl (Or.inl rfl))
            (fun _ _ _ _ _ => pts_one (pt_val (pe_fn G hr (pa_cons (pe_ix (ixT K) (pv 0) (pv 4) (fun _ _ => rfl)) (pa_cons (pv 3) pa_nil)))))
            (fun _ _ _ _ _ => pe_tup (pa_cons (pv 4) (pa_cons (pv 2) pa_nil)))) pa_nil)))))
      (pss_one (ps_ret (pe_b1 cr_sortedPO m3 (pv 1)))))), ?_⟩
    refine ⟨Nat.zero_le _, fun o no => ?_⟩
    refine ⟨_, rfl, a, _, rfl, .inl (.inl (same_upd no _ _ ha)), ?_⟩
    refine for_it (walk_enumT (K := K) (a := a) (xs := rs.map V.ref)) (fun k σ H' => ∃ y2 y3 ts qs, σ = [some (.ref a), some (.ref o), y2, y3, none] ∧ Same H H' ∧ H' o = some (.lst (ts.map V.ref)) ∧ PairsAt H' ts qs ∧
        (∀ q, q ∈ qs ↔ q.1 < q.2 ∧ q.2 < k ∧ bad F q.1 q.2) ∧ qs.length ≤ 100 * k) ⟨none, none, [], [], rfl, same_upd no, upd_same, PairsAt.nil _, fun q => by simp, Nat.zero_le _⟩ (fun i σ H' _ h => ?_) ?_ ?_
    · obtain ⟨_, _, _, _, _, s1, _⟩ := h
      exact .inl (.inl (s1 _ _ ha))
    · rintro k x σ H1 H2 hk ⟨y2, y3, ts, qs, rfl, s1, ho, hp, hm, hlen⟩ ⟨t, x1, x2, rfl, nt, rfl, e1, e2⟩
      cases Option.some.inj e1
      obtain ⟨r, er, rfl⟩ := at_map e2
      obtain ⟨fk, ek⟩ := at_len hl er
      have hkF : k < F.length := (List.getElem?_eq_some_iff.mp ek).1
      have s2 : Same H1 (upd H1 t (.tup [.int (k : Nat), .ref r])) := same_upd nt
      refine ⟨t, _, rfl, .inl (.inl upd_same), rfl, _, _, rfl, _, _, rfl, rfl, ?_⟩
      refine ⟨_, rfl, .inl ⟨rfl, _, .inl (.inl (s2 _ _ ho))⟩, ?_⟩
      refine ⟨_, rfl, (k : Nat), rfl, by omega, by omega, fun D hD => ?_⟩
      have s3 := s2.trans (same_upd (o := .lst []) hD)
      refine lc_range (lo := 0) (n := ((k : Nat) : Int).toNat) (fun i H' => Same (upd H1 t (.tup [.int (k : Nat), .ref r])) H' ∧ ∃ us zs, H' D = some (.lst (us.map V.ref)) ∧ PairsAt H' us zs ∧
          (∀ q : Nat × Nat, q ∈ zs ↔ q.2 = k ∧ q.1 < i ∧ bad F q.1 k) ∧ zs.length ≤ i) ⟨same_upd hD, [], [], upd_same, PairsAt.nil _, fun q => by simp, Nat.zero_le _⟩ ?_ ?_
      · rintro i H3 hi ⟨s4, us, zs, hd, hpz, hmz, hlz⟩
        have hik : i < k := by omega
        have hiF : i < F.length := by omega
        have si : Same H H3 := (s1.trans s2).trans s4
        have eri : rs[i]? = some rs[i] := List.getElem?_eq_getElem (by omega)
        have efi : F[i]? = some F[i] := List.getElem?_eq_getElem hiF
        have hfi := si _ _ (hf i _ _ eri efi)
        have hfk := si _ _ (hf k _ _ er ek)
        refine ⟨rfl, ?_⟩
        refine ⟨_, rfl, _, rfl, a, _, (i : Nat), _, rfl, by rw [Int.zero_add], .inl (.inl (si _ _ ha)), atI_nat (j := i) (by rw [List.getElem?_map, eri]; rfl), _, rfl, _, _, _, _, rfl, hfi, hfk, _, rfl, ?_⟩
        by_cases hok : Ok2 F[i] fk
        · rw [decide_eq_true hok]
          refine iteF ?_
          refine ⟨s4, us, zs, hd, hpz, fun q => ?_, by omega⟩
          rw [hmz q]
          constructor
          · rintro ⟨a1, a2, a3⟩
            exact ⟨a1, by omega, a3⟩
          · rintro ⟨a1, a2, a3⟩
            refine ⟨a1, ?_, a3⟩
            rcases Nat.lt_or_ge q.1 i with z | z
            · exact z
            · have e : q.1 = i := by omega
              obtain ⟨f1, g1, b1, b2, b3⟩ := a3
              rw [e, efi] at b1
              rw [ek] at b2
              cases b1
              cases b2
              exact absurd hok b3
        · rw [decide_eq_false hok]
          refine ⟨_, rfl, _, rfl, by show 2 ≤ sizeLine; decide, fun u hu => ?_⟩
          have s5 : Same H3 (upd H3 u (.tup [.int (0 + (i : Nat)), .int (k : Nat)])) := same_upd hu
          refine ⟨_, s5 _ _ hd, ?_, ?_⟩
          · rw [List.length_map, hpz.1]
            exact small1000 (by omega)
          have nD : ∀ b o, (upd H1 t (.tup [.int (k : Nat), .ref r])) b = some o → b ≠ D := fun b o e => ne_of_none e hD
          have uD : u ≠ D := fun z => by rw [z, hd] at hu; cases hu
          refine ⟨fun b o e => ?_, us ++ [u], zs ++ [(i, k)], ?_, ?_, fun q => ?_, ?_⟩
          · rw [upd_ne (nD b o e)]
            exact s5 _ _ (s4 _ _ e)
          · rw [upd_same, List.map_append]
            rfl
          · refine PairsAt.app ⟨hpz.1, fun n t' q' e1 e2 => ?_⟩ (PairsAt.one ?_)
            · have z := s5 _ _ (hpz.2 n t' q' e1 e2)
              have : t' ≠ D := fun y => by
                rw [y, s5 _ _ hd] at z
                cases z
              rw [upd_ne this]
              exact z
            · rw [upd_ne uD, upd_same, Int.zero_add]
          · rw [List.mem_append, hmz q]
            constructor
            · rintro (⟨a1, a2, a3⟩ | hq)
              · exact ⟨a1, by omega, a3⟩
              · have : q = (i, k) := by simpa using hq
                subst this
                exact ⟨rfl, Nat.lt_succ_self _, _, _, efi, ek, hok⟩
            · rintro ⟨a1, a2, a3⟩
              rcases Nat.lt_or_ge q.1 i with z | z
              · exact .inl ⟨a1, z, a3⟩
              · right
                have e : q.1 = i := by omega
                obtain ⟨q1, q2⟩ := q
                simp only at e a1
                subst e a1
                simp
          · rw [List.length_append]
            show zs.length + 1 ≤ i + 1
            omega
      · rintro H3 ⟨s4, us, zs, hd, hpz, hmz, hlz⟩
        have hoD : o ≠ D := ne_of_none (s2 _ _ ho) hD
        have ho3 := s4 _ _ (s2 _ _ ho)
        refine ⟨o, D, _, _, rfl, rfl, ho3, hd, ?_, ?_⟩
        · rw [List.length_map, List.length_map, hpz.1, hp.1]
          have : qs.length + zs.length ≤ 100000 := by omega
          exact Nat.le_trans this (by decide)
        have tupo : ∀ (H' : Hp) (t' : Addr) (xs : List V), H' o = some (.lst (ts.map V.ref)) → H' t' = some (.tup xs) → t' ≠ o := fun H' t' xs z1 z2 y => by
          rw [y, z1] at z2
          cases z2
        refine ⟨_, _, ts ++ us, qs ++ zs, rfl, fun b ob e => ?_, ?_, ?_, fun q => ?_, ?_⟩
        · have : b ≠ o := ne_of_none e no
          rw [upd_ne this]
          exact s4 _ _ (s2 _ _ (s1 _ _ e))
        · rw [upd_same, List.map_append]
        · have h1 := (hp.same s2).same s4
          refine PairsAt.app ⟨hp.1, fun n t' q' e1 e2 => ?_⟩ ⟨hpz.1, fun n t' q' e1 e2 => ?_⟩
          · have z := h1.2 n t' q' e1 e2
            rw [upd_ne (tupo _ _ _ ho3 z)]
            exact z
          · have z := hpz.2 n t' q' e1 e2
            rw [upd_ne (tupo _ _ _ ho3 z)]
            exact z
        · rw [List.mem_append, hm q, hmz q, Int.toNat_natCast]
          constructor
          · rintro (⟨a1, a2, a3⟩ | ⟨a1, a2, a3⟩)
            · exact ⟨a1, by omega, a3⟩
            · rw [a1]
              exact ⟨a2, Nat.lt_succ_self _, a3⟩
          · rintro ⟨a1, a2, a3⟩
            rcases Nat.lt_or_ge q.2 k with z | z
            · exact .inl ⟨a1, z, a3⟩
            · have e : q.2 = k := by omega
              rw [e] at a1 a3
              exact .inr ⟨e, a1, a3⟩
        · rw [List.length_append]
          omega
    · rintro σ H1 ⟨y2, y3, ts, qs, rfl, s1, ho, hp, hm, hlen⟩
      refine ⟨_, rfl, o, _, kOf H1, rfl, .inl (.inl ho), fun x hx => ?_, fun ys p hs hb hp0 => ?_⟩
      · obtain ⟨t, ht, rfl⟩ := List.mem_map.mp hx
        obtain ⟨n, hn, e⟩ := List.mem_iff_getElem.mp ht
        have e1 : ts[n]? = some t := by rw [List.getElem?_eq_getElem hn, e]
        obtain ⟨q', e2⟩ := at_len hp.1 e1
        have z := hp.2 n t q' e1 e2
        refine ⟨t, rfl, ?_⟩
        rw [kOf_eq z]
        exact z
      · obtain ⟨h1, h2, h3, h4⟩ := sorted_pairs hp hb.perm hs
        have s2 : Same H1 (upd H1 p (.lst ys)) := same_upd hp0
        refine q _ p (ys.map refOf) (ys.map (kk H1)) (s1.trans s2) (by rw [upd_same, ← h1]) (h2.same s2) ⟨fun q' => ?_, h4⟩
        rw [h3.mem_iff, hm q', List.length_map, hl]
        constructor
        · rintro ⟨a1, a2, a3⟩
          exact ⟨a1, a3⟩
        · rintro ⟨a1, a3⟩
          refine ⟨a1, ?_, a3⟩
          obtain ⟨f1, g1, b1, b2, b3⟩ := a3
          exact (List.getElem?_eq_some_iff.mp b2).1
end
end K15
namespace K15
open L2 PySem PySem.Spec PyProof.Rows
/-! ### data of lists -/
def dPair (q : Nat × Nat) : PyData := .tuple [.int (q.1 : Nat), .int (q.2 : Nat)]
theorem dp_ints (K : PySem.W.Frag) (H : Hp) : ∀ ns : List Int, DpAll K H (ns.map V.int) (ns.map PyData.int)
  | [] => .nil
  | n :: r => .cons (.int n) (dp_ints K H r)
theorem PairsAt.tail {H : Hp} {t : Addr} {ts : List Addr} {q : Nat × Nat} {qs : List (Nat × Nat)} (h : PairsAt H (t :: ts) (q :: qs)) : PairsAt H ts qs := by
  refine ⟨?_, fun i t' q' e1 e2 => h.2 (i + 1) t' q' (by simpa using e1) (by simpa using e2)⟩
  have := h.1
  simpa using this
theorem dp_pairs {K : PySem.W.Frag} {H : Hp} : ∀ {ts : List Addr} {qs : List (Nat × Nat)}, PairsAt H ts qs → DpAll K H (ts.map V.ref) (qs.map dPair)
  | [], [], _ => .nil
  | [], _ :: _, h => absurd h.1 (by simp)
  | _ :: _, [], h => absurd h.1 (by simp)
  | t :: ts, q :: qs, h => .cons (.tup (.inl (.inl (h.2 0 t q rfl rfl))) (.cons (.int _) (.cons (.int _) .nil))) (dp_pairs h.tail)
theorem lay_ints : ∀ ns : List Int, PyData.canLayAll0 (ns.map PyData.int) = true ∧ PyData.depthAll (ns.map PyData.int) = 0
  | [] => ⟨rfl, rfl⟩
  | n :: r => by
    obtain ⟨h1, h2⟩ := lay_ints r
    refine ⟨?_, ?_⟩
    · show (PyData.canLay0 (.int n) && PyData.canLayAll0 (r.map PyData.int)) = true
      rw [h1]; rfl
    · show max (PyData.depth (.int n)) (PyData.depthAll (r.map PyData.int)) = 0
      rw [h2]; rfl
theorem lay_pairs : ∀ qs : List (Nat × Nat), PyData.canLayAll0 (qs.map dPair) = true ∧ PyData.depthAll (qs.map dPair) ≤ 1
  | [] => ⟨rfl, Nat.zero_le _⟩
  | q :: r => by
    obtain ⟨h1, h2⟩ := lay_pairs r
    refine ⟨?_, ?_⟩
    · show (PyData.canLay0 (dPair q) && PyData.canLayAll0 (r.map dPair)) = true
      rw [h1]; rfl
    · show max (PyData.depth (dPair q)) (PyData.depthAll (r.map dPair)) ≤ 1
      have : PyData.depth (dPair q) = 1 := rfl
      omega
theorem shaped_list {ds : List PyData} (h1 : PyData.canLayAll0 ds = true) (h2 : PyData.depthAll ds ≤ 60) : SeqAt.shaped (.list ds) = true := by
  unfold SeqAt.shaped
  have e1 : PyData.canLay0 (.list ds) = true := h1
  have e2 : PyData.depth (.list ds) ≤ 64 := by
    show PyData.depthAll ds + 1 ≤ 64
    omega
  rw [e1, decide_eq_true e2]
  rfl
theorem shaped_nil : SeqAt.shaped (.list []) = true := shaped_list rfl (Nat.zero_le _)
theorem shaped_ints (ns : List Int) : SeqAt.shaped (.list (ns.map PyData.int)) = true := shaped_list (lay_ints ns).1 (by rw [(lay_ints ns).2]; decide)
theorem shaped_pairs (qs : List (Nat × Nat)) : SeqAt.shaped (.list (qs.map dPair)) = true := shaped_list (lay_pairs qs).1 (Nat.le_trans (lay_pairs qs).2 (by decide))
theorem eqv_nil {α : Type} [DecidableEq α] (f : α → PyData) (l : List α) : PyData.eqv (.list (l.map f)) (.list []) = decide (l = []) := by
  cases l with
  | nil => simp [PyData.eqv, PyData.eqvAll]
  | cons x r => simp [PyData.eqv, PyData.eqvAll]
/-! ### sure -/
def SureP (N : Nat) (F : List Fact) (g : Fact) : Prop := ∀ t, Row N t → (∀ f ∈ F, SoP N t f) → SoP N t g
noncomputable def sureB (N : Nat) (F : List Fact) (g : Fact) : Bool := @decide (SureP N F g) (Classical.propDecidable _)
theorem sureB_eq {N : Nat} {F : List Fact} {g : Fact} {b : Bool} (h : b = true ↔ SureP N F g) : sureB N F g = b := by
  unfold sureB
  cases b with
  | true => exact @decide_eq_true _ (Classical.propDecidable _) (h.mp rfl)
  | false => exact @decide_eq_false _ (Classical.propDecidable _) (fun z => Bool.noConfusion (h.mpr z))
noncomputable def unsureL (N : Nat) (F G : List Fact) : List Nat := (List.range G.length).filter fun k => !sureB N F (G.getD k (0, 0, 0))
section
variable {w : World} {P : Program} {K : PySem.W.Frag} {base : Heap} {mg : Str → Option Value}
theorem sc_known_by : FnScope ["facts", "place", "found", "spot", "rest", "base", "shared"] ["facts", "place"] (defScope s_known_by) := ⟨rfl, rfl, rfl, by decide +kernel, rfl, by decide +kernel, by decide +kernel⟩
def spKnown : Sp := fun vs H Q _ => ∃ (a : Addr) (F : List Fact) (x : Int), vs = [.ref a, .int x] ∧ FactsAt H a F ∧ Val 12 F ∧ (∀ f ∈ F, 0 < f.2.2) ∧ NoQ F ∧
  ∀ (R : Int) (M : Nat) (H' : Hp) (t : Addr), Known (F.map (want x)) R M → 0 < M → Same H H' → H' t = some (.tup [.int R, .int (M : Int)]) → Q (.ref t) H'
theorem has_known_by (T : Txt K mg) : Has P w K mg base CX0 4 "known_by" ["facts", "place"] spKnown := by
  have Gg := has_gcd (P := P) (w := w) (base := base) T
  have Gr := has_rest_by (P := P) (w := w) (base := base) T
  have Gm := has_met (P := P) (w := w) (base := base) T
  refine T.has (st := s_known_by) 13 rfl (by decide +kernel) sc_known_by (fun vs H Q E h => ?_) (fun _ _ _ _ _ _ us hl => match us, hl with | [_, _], _ => rfl) (fun f cdv A outer s H vs Q E hr h => ?_)
  · obtain ⟨a, F, x, rfl, _⟩ := h
    rfl
  · obtain ⟨a, F, x, rfl, ⟨rs, ha, hl, hf⟩, hv, hpos, hnq, q⟩ := h
    have hr1 : Room 1 (A.deeper (envOfC "known_by" (defScope s_known_by) s.heap.objs.size f cdv)) := hr.mono (by decide)
    refine ⟨_, PSs.nox (pss_cons (ps_set (i := 2) sc_known_by.nd rfl (.inl rfl) (pe_tup (pa_cons pe_int (pa_cons pe_int pa_nil))))
      (pss_cons (ps_for PassesOwn.never rfl (pi_tup (pv 0)) (pg_tup rfl (pgs_cons (pg_name (i := 3) sc_known_by.nd rfl (.inl rfl)) (pgs_cons (pg_name (i := 4) sc_known_by.nd rfl (.inl rfl)) (pgs_cons (pg_name (i := 5) sc_known_by.nd rfl (.inl rfl)) pgs_nil))))
        (pss_cons (ps_set (i := 6) sc_known_by.nd rfl (.inl rfl) (pe_fn Gg hr1 (pa_cons (pv 5) (pa_cons (pe_op op_sub (pv 1) (pv 3)) pa_nil))))
        (pss_one (ps_set (i := 2) sc_known_by.nd rfl (.inl rfl) (pe_fn Gm hr (pa_cons (pv 2) (pa_cons (pe_tup (pa_cons (pe_fn Gr hr1 (pa_cons (pv 4) (pa_cons (pv 6) pa_nil))) (pa_cons (pv 6) pa_nil))) pa_nil)))))))
      (pss_one (ps_ret (pv 2))))), ?_⟩
    refine ⟨by show 2 ≤ sizeLine; decide, fun t0 ht0 => ?_⟩
    refine ⟨_, rfl, a, rfl, ⟨_, .inl (.inl (same_upd ht0 _ _ ha))⟩, ?_⟩
    refine for_it (walk_tup (K := K) (a := a) (xs := rs.map V.ref)) (fun i σ H' => ∃ y3 y4 y5 y6 t R M, σ = [some (.ref a), some (.int x), some (.ref t), y3, y4, y5, y6] ∧ Same H H' ∧ H' t = some (.tup [.int R, .int ((M : Nat) : Int)]) ∧
        Known ((F.take i).map (want x)) R M ∧ 0 ≤ R ∧ R < M) ⟨none, none, none, none, t0, 0, 1, rfl, same_upd ht0, upd_same, by simpa using Known.nil, by decide, by decide⟩ (fun i σ H' _ h => ?_) ?_ ?_
    · obtain ⟨_, _, _, _, _, _, _, _, s1, _⟩ := h
      exact .inl (.inl (s1 _ _ ha))
    · rintro i v σ H0 H1 hi ⟨y3, y4, y5, y6, t, R, M, rfl, s1, ht, kn, hR0, hRM⟩ ⟨rfl, hx⟩
      obtain ⟨r, er, rfl⟩ := at_map hx
      obtain ⟨fi, ef⟩ := at_len hl er
      have hfi := s1 _ _ (hf i r fi er ef)
      have mem_fi : fi ∈ F := List.mem_of_getElem? ef
      have hq0 := hpos fi mem_fi
      have hq12 := hv fi mem_fi
      refine ⟨r, _, rfl, .inl (.inl hfi), rfl, _, _, rfl, _, _, rfl, _, _, rfl, rfl, ?_⟩
      refine ⟨_, rfl, _, rfl, _, rfl, x, fi.1, rfl, rfl, ((fi.2.2 : Nat) : Int), x - fi.1, rfl, ?_⟩
      -- met(found, (rest_by(rest, shared), shared))
      have wv : Int.gcd ((fi.2.2 : Nat) : Int) (x - fi.1) = (want x fi).2 := rfl
      have w12 : (want x fi).2 ∣ 12 := Nat.dvd_trans want_base hq12
      have w0 : 0 < (want x fi).2 := Nat.pos_of_dvd_of_pos w12 (by decide)
      have w1 : (want x fi).2 ≤ 12 := Nat.le_of_dvd (by decide) w12
      have hl12 : ∀ wn ∈ (F.take i).map (want x), wn.2 ∣ 12 := fun wn hw => by
        obtain ⟨g, hg, rfl⟩ := List.mem_map.mp hw
        exact Nat.dvd_trans want_base (hv g (List.mem_of_mem_take hg))
      have hM12 : M ∣ 12 := kn.dv hl12
      have hM0 : 0 < M := Nat.pos_of_dvd_of_pos hM12 (by decide)
      have hM1 : M ≤ 12 := Nat.le_of_dvd (by decide) hM12
      have hc : ∀ wn ∈ (F.take i).map (want x), ((Nat.gcd wn.2 (want x fi).2 : Nat) : Int) ∣ wn.1 - fi.2.1 := fun wn hw => by
        obtain ⟨g, hg, rfl⟩ := List.mem_map.mp hw
        exact want_two (hnq.all g (List.mem_of_mem_take hg) fi mem_fi)
      have hm := meets kn hl12 w12 hc
      have wI : (0 : Int) < ((want x fi).2 : Nat) := by omega
      have b0 : 0 ≤ fi.2.1 % (((want x fi).2 : Nat) : Int) := Int.emod_nonneg _ (by omega)
      have b1 : fi.2.1 % (((want x fi).2 : Nat) : Int) < ((want x fi).2 : Nat) := Int.emod_lt_of_pos _ wI
      have bd : (((want x fi).2 : Nat) : Int) ∣ fi.2.1 - fi.2.1 % (((want x fi).2 : Nat) : Int) := by
        have := Int.mul_ediv_add_emod fi.2.1 (((want x fi).2 : Nat) : Int)
        exact ⟨fi.2.1 / (((want x fi).2 : Nat) : Int), by omega⟩
      have gd : ((Nat.gcd M (want x fi).2 : Nat) : Int) ∣ R - fi.2.1 % (((want x fi).2 : Nat) : Int) := by
        have := Int.dvd_add hm (Int.dvd_trans (Int.ofNat_dvd.mpr (Nat.gcd_dvd_right M (want x fi).2)) bd)
        have e : R - fi.2.1 + (fi.2.1 - fi.2.1 % (((want x fi).2 : Nat) : Int)) = R - fi.2.1 % (((want x fi).2 : Nat) : Int) := by omega
        rwa [e] at this
      refine ⟨_, rfl, _, rfl, _, rfl, fi.2.1, (want x fi).2, rfl, _, rfl, by show 2 ≤ sizeLine; decide, fun t2 ht2 => ?_⟩
      have s2 : Same H1 (upd H1 t2 (.tup [.int (fi.2.1 % (((want x fi).2 : Nat) : Int)), .int ((want x fi).2 : Nat)])) := same_upd ht2
      refine ⟨t, t2, R, _, M, (want x fi).2, rfl, s2 _ _ ht, upd_same, hM0, by omega, w0, by omega, hR0, by omega, b0, by omega, gd, fun r' H3 t3 r1 r2 r3 r4 s3 ht3 => ?_⟩
      refine ⟨_, _, _, _, t3, r', Nat.lcm M (want x fi).2, rfl, s1.trans (s2.trans s3), ht3, ?_, r3, r4⟩
      have e3 : F.take (i + 1) = F.take i ++ [fi] := by rw [List.take_add_one, ef]; rfl
      rw [e3, List.map_append]
      refine kn.more r1 ?_
      have := Int.dvd_sub r2 bd
      have e : r' - fi.2.1 % (((want x fi).2 : Nat) : Int) - (fi.2.1 - fi.2.1 % (((want x fi).2 : Nat) : Int)) = r' - fi.2.1 := by omega
      rwa [e] at this
    · rintro σ H1 ⟨y3, y4, y5, y6, t, R, M, rfl, s1, ht, kn, hR0, hRM⟩
      rw [List.length_map, hl, List.take_length] at kn
      exact ⟨_, rfl, q R M H1 t kn (by omega) s1 ht⟩
theorem sc_is_sure : FnScope ["facts", "fact", "rest", "base"] ["facts", "fact"] (defScope s_is_sure) := ⟨rfl, rfl, rfl, by decide +kernel, rfl, by decide +kernel, by decide +kernel⟩
/-- what facts may be compared here -/
structure Fine (N : Nat) (F : List Fact) : Prop where
  val : Val N F
  pos : ∀ f ∈ F, 0 < f.2.2
theorem Fine.v12 {N : Nat} {F : List Fact} (h : Fine N F) (hN : N ∣ 12) : Val 12 F := fun f hf => Nat.dvd_trans (h.val f hf) hN
def spSure : Sp := fun vs H Q _ => ∃ (a b : Addr) (N : Nat) (F : List Fact) (g : Fact), vs = [.ref a, .ref b] ∧ FactsAt H a F ∧ H b = some (factV g) ∧ 0 < N ∧ N ∣ 12 ∧ Fine N F ∧ NoQ F ∧ g.2.2 ∣ N ∧ ∀ H', Same H H' → Q (.bl (sureB N F g)) H'
theorem has_is_sure (T : Txt K mg) : Has P w K mg base CX0 5 "is_sure" ["facts", "fact"] spSure := by
  have Gr := has_rest_by (P := P) (w := w) (base := base) T
  have Ga := has_agree (P := P) (w := w) (base := base) T
  have Gk := has_known_by (P := P) (w := w) (base := base) T
  refine T.has (st := s_is_sure) 14 rfl (by decide +kernel) sc_is_sure (fun vs H Q E h => ?_) (fun _ _ _ _ _ _ us hl => match us, hl with | [_, _], _ => rfl) (fun f cdv A outer s H vs Q E hr h => ?_)
  · obtain ⟨a, b, N, F, g, rfl, _⟩ := h
    rfl
  · obtain ⟨a, b, N, F, g, rfl, ha, hb, hN, h12, hF, hnq, hg, q⟩ := h
    have hr1 : Room 1 (A.deeper (envOfC "is_sure" (defScope s_is_sure) s.heap.objs.size f cdv)) := hr.mono (by decide)
    have hr2 : Room 2 (A.deeper (envOfC "is_sure" (defScope s_is_sure) s.heap.objs.size f cdv)) := hr.mono (by decide)
    refine ⟨_, PSs.nox (pss_cons (ps_asg (pe_fn Gk hr (pa_cons (pv 0) (pa_cons (pe_ix ix_tup (pv 1) pe_int (fun _ _ => rfl)) pa_nil)))
        (pg_tup rfl (pgs_cons (pg_name (i := 2) sc_is_sure.nd rfl (.inl rfl)) (pgs_cons (pg_name (i := 3) sc_is_sure.nd rfl (.inl rfl)) pgs_nil))))
      (pss_one (ps_ret (pe_and (pe_cmp (pc_eqI (pe_fn Gr hr1 (pa_cons (pv 3) (pa_cons (pe_ix ix_tup (pv 1) pe_int (fun _ _ => rfl)) pa_nil))) pe_int))
        (pe_one (pe_fn Ga hr2 (pa_cons (pv 2) (pa_cons (pe_ix ix_tup (pv 1) pe_int (fun _ _ => rfl)) (pa_cons (pe_ix ix_tup (pv 1) pe_int (fun _ _ => rfl)) pa_nil))))))))), ?_⟩
    refine ⟨_, rfl, _, rfl, b, _, 0, _, rfl, rfl, .inl (.inl hb), atI_nat (j := 0) rfl, a, F, g.1, rfl, ha, hF.v12 h12, hF.pos, hnq, fun R M H1 t kn hM s1 ht => ?_⟩
    refine ⟨t, _, rfl, .inl (.inl ht), rfl, _, _, rfl, _, _, rfl, rfl, ?_⟩
    have hb1 := s1 _ _ hb
    have iff := sure_iff hN h12 hF.val hnq hg kn
    refine ⟨_, rfl, _, rfl, b, _, 2, _, rfl, rfl, .inl (.inl hb1), atI_nat (j := 2) rfl, (M : Int), g.2.2, rfl, _, _, rfl, rfl, _, rfl, ite2 (fun c => ?_) (fun c => ?_)⟩
    · have d1 : ((g.2.2 : Nat) : Int) ∣ (M : Int) := Int.dvd_of_emod_eq_zero (of_decide_eq_true c)
      refine ⟨_, rfl, _, rfl, b, _, 1, _, rfl, rfl, .inl (.inl hb1), atI_nat (j := 1) rfl, _, rfl, b, _, 2, _, rfl, rfl, .inl (.inl hb1), atI_nat (j := 2) rfl, R, g.2.1, g.2.2, rfl, ?_⟩
      have e := sureB_eq (N := N) (F := F) (g := g) (b := decide (((g.2.2 : Nat) : Int) ∣ R - g.2.1)) (by
        rw [decide_eq_true_iff]
        exact ⟨fun z => iff.mp ⟨d1, z⟩, fun z => (iff.mpr z).2⟩)
      have := q H1 s1
      rw [e] at this
      exact this
    · have e := sureB_eq (N := N) (F := F) (g := g) (b := false) (by
        constructor
        · intro z
          cases z
        · intro z
          exact absurd (decide_eq_true (Int.emod_eq_zero_of_dvd (iff.mpr z).1)) c)
      have := q H1 s1
      rw [e] at this
      exact this
end
end K15
namespace K15
open L2 PySem PySem.Spec PyProof.Rows
theorem iltD {G : List Fact} {k : Nat} {g : Fact} (h : G[k]? = some g) : G.getD k (0, 0, 0) = g := by
  rw [List.getD_eq_getElem?_getD, h]
  rfl
theorem filt_more {p : Nat → Bool} {k : Nat} : (List.range (k + 1)).filter p = (List.range k).filter p ++ (if p k = true then [k] else []) := by
  rw [List.range_succ, List.filter_append]
  congr 1
  by_cases h : p k = true
  · rw [if_pos h]; simp [h]
  · rw [if_neg h]; simp [h]
/-! ### defs of two parameters that are called by name, too -/
def g2 : List Value → List Value → List Value
  | [], [a, b] => [b, a]
  | _, _ => []
def g2V : List V → List V → List V
  | [], [a, b] => [b, a]
  | _, _ => []
theorem g2_rel {vs : List V} {us : List Value} {zs : List V} {ws : List Value} (h1 : Vals vs us) (h2 : Vals zs ws) : Vals (g2V vs zs) (g2 us ws) := by
  cases h1 with
  | nil =>
    cases h2 with
    | nil => exact .nil
    | cons a r =>
      cases r with
      | nil => exact .nil
      | cons b r =>
        cases r with
        | nil => exact .cons b (.cons a .nil)
        | cons c r => exact .nil
  | cons a r =>
    exact .nil
def Has2 (P : Program) (w : World) (K : PySem.W.Frag) (mg : Str → Option Value) (base : Heap) (CX : CXT) (k : Nat) (x : Str) (sp : Sp) : Prop :=
  ∃ (f : Addr) (fd : FuncData), mg x = some (.ref f) ∧ PySem.W.keepIn K (.ref f) = true ∧ FnOk P w K mg base CX k f fd ["one", "other"] sp ∧ Binds K fd ["one", "other"] [] ∧ KBinds K fd ["one", "other"] ["other", "one"] g2 g2V
theorem Has2.to {P : Program} {w : World} {K : PySem.W.Frag} {mg : Str → Option Value} {base : Heap} {CX : CXT} {k : Nat} {x : Str} {sp : Sp} (h : Has2 P w K mg base CX k x sp) : Has P w K mg base CX k x ["one", "other"] sp := by
  obtain ⟨f, fd, h1, h2, h3, h4, _⟩ := h
  exact ⟨f, fd, h1, h2, h3, h4⟩
theorem Txt.has2 {P : Program} {w : World} {K : PySem.W.Frag} {mg : Str → Option Value} {base : Heap} {CX : CXT} {x : Str} {st : Stmt} {N : List Str} {k : Nat} {sp : Sp} (T : Txt K mg) (i : Nat) (hm : dfs[i]? = some (mkD x st)) (hx : x ∈ gls ++ cls) (S : FnScope N ["one", "other"] (defScope st))
    (len : ∀ vs H Q E, sp vs H Q E → vs.length = (["one", "other"] : List Str).length)
    (hb : ∀ (kV doc pm : Value) (an : Option Addr) (cdv ct : Value) (us : List Value), us.length = (["one", "other"] : List Str).length → bindArgs (PySem.W.fnOf x x (defArgs st) (defBody st) (defScope st) .none kV doc pm an cdv ct) ⟨us, []⟩ = pure ((["one", "other"] : List Str).zip us))
    (hk : ∀ (kV doc pm : Value) (an : Option Addr) (cdv ct : Value) (a b : Value), bindArgs (PySem.W.fnOf x x (defArgs st) (defBody st) (defScope st) .none kV doc pm an cdv ct) ⟨[], [("other", a), ("one", b)]⟩ = pure [(("one" : Str), b), (("other" : Str), a)])
    (hbody : ∀ (f : Addr) (cdv : Value) (A : Around) (outer : List Env) (s : Shared) (H : Hp) (vs : List V) (Q : VK) (E : XK), Room k (A.deeper (envOfC x (defScope st) s.heap.objs.size f cdv)) → sp vs H Q E →
      ∃ t, PSs (cxOf CX P w K mg base N x (defScope st) f cdv A outer s H E) (defBody st) t ∧ t { nx := fun _ H' => Q .non H', rt := Q } (start N vs) H) : Has2 P w K mg base CX (k + 1) x sp := by
  obtain ⟨fd, F⟩ := T.df _ (List.mem_of_getElem? hm)
  refine ⟨_, fd, T.gl x hx, F.kp, FunD.ok F S len fun cdv A outer s H vs Q E hr h => hbody _ cdv A outer s H vs Q E hr h, FunD.bindsN F hb, ⟨fun s us ws _ hl => ?_, g2_rel⟩⟩
  obtain ⟨oc, od, dV, kV, doc, pm, an, cdv, ct, osl, rfl, lk, hcd, hD, _⟩ := F.ex
  rcases (hD) with ⟨_, rfl⟩ | ⟨e, _⟩
  · match us, ws, hl with
    | [], [a, b], _ => exact .of_eq (hk kV doc pm an cdv ct a b)
    | [], [], hl => exact absurd hl (by decide)
    | [], [_], hl => exact absurd hl (by simp [g2])
    | [], _ :: _ :: _ :: _, hl => exact absurd hl (by simp [g2])
    | _ :: _, _, hl => exact absurd hl (by simp [g2])
  · exact absurd rfl e
section
variable {w : World} {P : Program} {K : PySem.W.Frag} {base : Heap} {mg : Str → Option Value}
theorem sc_unsure_ones : FnScope ["one", "other", "at", "fact"] ["one", "other"] (defScope s_unsure_ones) := ⟨rfl, rfl, rfl, by decide +kernel, rfl, by decide +kernel, by decide +kernel⟩
def numsV (l : List Nat) : List V := l.map fun (k : Nat) => V.int (k : Int)
def spUnsure : Sp := fun vs H Q _ => ∃ (a b : Addr) (N : Nat) (F G : List Fact), vs = [.ref a, .ref b] ∧ FactsAt H a F ∧ FactsAt H b G ∧ G.length ≤ 100 ∧ 0 < N ∧ N ∣ 12 ∧ Fine N F ∧ NoQ F ∧ Val N G ∧
  ∀ (H' : Hp) (p : Addr), Same H H' → H' p = some (.lst (numsV (unsureL N F G))) → Q (.ref p) H'
theorem has_unsure_ones (T : Txt K mg) : Has P w K mg base CX0 6 "unsure_ones" ["one", "other"] spUnsure := by
  have Gs := has_is_sure (P := P) (w := w) (base := base) T
  refine T.has (st := s_unsure_ones) 16 rfl (by decide +kernel) sc_unsure_ones (fun vs H Q E h => ?_) (fun _ _ _ _ _ _ us hl => match us, hl with | [_, _], _ => rfl) (fun f cdv A outer s H vs Q E hr h => ?_)
  · obtain ⟨a, b, N, F, G, rfl, _⟩ := h
    rfl
  · obtain ⟨a, b, N, F, G, rfl, ha, ⟨rs, hb, hl, hf⟩, hG, hN, h12, hF, hnq, hvG, q⟩ := h
    have m1 : mg "enumerate" = none := T.fr _ (by decide +kernel)
    refine ⟨_, PSs.nox (pss_one (ps_ret (pe_lc (own := [("at", 2), ("fact", 3)]) (g := gTup K 2 (gCons (gName 2) (gCons (gName 3) gNil))) rfl sc_unsure_ones.nd (pi_enumT m1 (pa_cons (pv 1) pa_nil))
        (blkOk_by (N := ["one", "other", "at", "fact"]) (sc := defScope s_unsure_ones) (by decide +kernel))
        (fun _ _ _ _ _ => pg_tup rfl (pgs_cons (pg_name (i := 2) sc_unsure_ones.nd rfl (Or.inl rfl)) (pgs_cons (pg_name (i := 3) sc_unsure_ones.nd rfl (Or.inl rfl)) pgs_nil)))
        (fun _ _ _ _ _ => pts_one (pt_not (pt_val (pe_fn Gs hr (pa_cons (pv 0) (pa_cons (pv 3) pa_nil))))))
        (fun _ _ _ _ _ => pv 2)))), ?_⟩
    refine ⟨_, rfl, b, _, rfl, .inl (.inl hb), fun D hD => ?_⟩
    refine lc_it (walk_enumT (K := K) (a := b) (xs := rs.map V.ref)) (fun k H' => Same H H' ∧ H' D = some (.lst (numsV ((List.range k).filter fun j => !sureB N F (G.getD j (0, 0, 0)))))) ⟨same_upd hD, upd_same⟩ (fun k H' _ h => .inl (.inl (h.1 _ _ hb))) ?_ ?_
    · rintro k x H1 H2 hk ⟨s1, hd⟩ ⟨t, x1, x2, rfl, nt, rfl, e1, e2⟩
      cases Option.some.inj e1
      obtain ⟨r, er, rfl⟩ := at_map e2
      obtain ⟨g, eg⟩ := at_len hl er
      have s2 : Same H1 (upd H1 t (.tup [.int (k : Nat), .ref r])) := same_upd nt
      have s12 := s1.trans s2
      refine ⟨t, _, rfl, .inl (.inl upd_same), rfl, _, _, rfl, _, _, rfl, rfl, rfl, ?_⟩
      refine ⟨_, rfl, _, rfl, a, r, N, F, g, rfl, ha.same s12, s12 _ _ (hf k r g er eg), hN, h12, hF, hnq, hvG g (List.mem_of_getElem? eg), fun H3 s3 => ⟨_, rfl, ?_⟩⟩
      have hk100 : k < 100 := by
        have := (List.getElem?_eq_some_iff.mp eg).1
        omega
      have e := filt_more (p := fun j => !sureB N F (G.getD j (0, 0, 0))) (k := k)
      rw [iltD eg] at e
      cases hs : sureB N F g with
      | true =>
        refine ⟨s12.trans s3, ?_⟩
        rw [e, hs, s3 _ _ (s2 _ _ hd)]
        simp
      | false =>
        refine ⟨_, rfl, _, s3 _ _ (s2 _ _ hd), ?_, fun bb o z => ?_, ?_⟩
        · unfold numsV
          rw [List.length_map]
          have := List.length_filter_le (fun j => !sureB N F (G.getD j (0, 0, 0))) (List.range k)
          rw [List.length_range] at this
          exact small1000 (by omega)
        · rw [upd_ne (ne_of_none z hD)]
          exact s3 _ _ (s12 _ _ z)
        · rw [upd_same, e, hs]
          unfold numsV
          rw [List.map_append]
          rfl
    · rintro H1 ⟨s1, hd⟩
      rw [List.length_map, hl] at hd
      exact q H1 D s1 hd
theorem dp_ints2 (K : PySem.W.Frag) (H : Hp) (l : List Nat) : DpAll K H (numsV l) (l.map fun (k : Nat) => PyData.int (k : Int)) := by
  have := dp_ints K H (l.map fun (k : Nat) => (k : Int))
  rw [List.map_map, List.map_map] at this
  exact this
theorem shaped_ints2 (l : List Nat) : SeqAt.shaped (.list (l.map fun (k : Nat) => PyData.int (k : Int))) = true := by
  have := shaped_ints (l.map fun (k : Nat) => (k : Int))
  rw [List.map_map] at this
  exact this
/-! ### as_much, alike, joined -/
/-- two lots of facts that may be compared -/
structure Two (N : Nat) (F G : List Fact) : Prop where
  pos : 0 < N
  dv : N ∣ 12
  f : Fine N F
  g : Fine N G
  lf : F.length ≤ 40
  lg : G.length ≤ 40
def spTwo (res : Nat → List Fact → List Fact → Bool) : Sp := fun vs H Q _ => ∃ (a b : Addr) (N : Nat) (F G : List Fact), vs = [.ref a, .ref b] ∧ FactsAt H a F ∧ FactsAt H b G ∧ Two N F G ∧ ∀ H', Same H H' → Q (.bl (res N F G)) H'
noncomputable def asMuch (N : Nat) (F G : List Fact) : Bool := decide (NoQ F) && decide (unsureL N F G = [])
noncomputable def alikeL (N : Nat) (F G : List Fact) : Bool := if NoQ F ∧ NoQ G then decide (unsureL N F G = []) && decide (unsureL N G F = []) else !decide (NoQ F) && !decide (NoQ G)
def joinedL (_ : Nat) (F G : List Fact) : Bool := decide (NoQ (F ++ G))
theorem sc_as_much : FnScope ["one", "other"] ["one", "other"] (defScope s_as_much) := ⟨rfl, rfl, rfl, by decide +kernel, rfl, by decide +kernel, by decide +kernel⟩
theorem has_as_much (T : Txt K mg) : Has2 P w K mg base CX0 7 "as_much" (spTwo asMuch) := by
  have Gb := has_check_both (P := P) (w := w) (base := base) T
  have Gq := has_all_quarrels (P := P) (w := w) (base := base) T
  have Gu := has_unsure_ones (P := P) (w := w) (base := base) T
  refine T.has2 (st := s_as_much) 17 rfl (by decide +kernel) sc_as_much (fun vs H Q E h => ?_) (fun _ _ _ _ _ _ us hl => match us, hl with | [_, _], _ => rfl) (fun _ _ _ _ _ _ _ _ => rfl) (fun f cdv A outer s H vs Q E hr h => ?_)
  · obtain ⟨a, b, N, F, G, rfl, _⟩ := h
    rfl
  · obtain ⟨a, b, N, F, G, rfl, ha, hb, t2, q⟩ := h
    have hr5 : Room 5 (A.deeper (envOfC "as_much" (defScope s_as_much) s.heap.objs.size f cdv)) := hr.mono (by decide)
    have hr4 : Room 4 (A.deeper (envOfC "as_much" (defScope s_as_much) s.heap.objs.size f cdv)) := hr.mono (by decide)
    refine ⟨_, PSs.nox (pss_cons (ps_expr (pe_fn Gb hr5 (pa_cons (pv 0) (pa_cons (pv 1) pa_nil))))
      (pss_one (ps_ret (pe_and (pe_cmpR (op_eqD hr.units) (pe_fn Gq hr4 (pa_cons (pv 0) pa_nil)) (pe_lst pa_nil) (nomark _))
        (pe_one (pe_cmpR (op_eqD hr.units) (pe_fn Gu hr (pa_cons (pv 0) (pa_cons (pv 1) pa_nil))) (pe_lst pa_nil) (nomark _))))))), ?_⟩
    have lf := t2.lf
    have lg := t2.lg
    refine ⟨_, rfl, _, rfl, a, b, F, G, rfl, ha, hb, lf, lg, fun H1 s1 => ?_⟩
    refine ⟨_, rfl, a, F, rfl, ha.same s1, by omega, fun H2 p ts qs s2 hp hpr hall => ?_⟩
    refine ⟨Nat.zero_le _, fun l nl => ?_⟩
    have s3 := same_upd (o := .lst []) nl
    refine ⟨_, _, .lst (.inl (.inl (s3 _ _ hp))) (dp_pairs (hpr.same s3)), .lst (.inl (.inl upd_same)) .nil, shaped_pairs qs, shaped_nil, _, rfl, ?_⟩
    have e1 : PyData.eqv (.list (qs.map dPair)) (.list []) = decide (NoQ F) := (eqv_nil dPair qs).trans (decide_eq_decide.mpr hall.nil_iff)
    rw [e1]
    have s123 := s1.trans (s2.trans s3)
    by_cases hnq : NoQ F
    · rw [decide_eq_true hnq]
      refine iteT ?_
      refine ⟨_, rfl, _, rfl, a, b, N, F, G, rfl, ha.same s123, hb.same s123, by omega, t2.pos, t2.dv, t2.f, hnq, t2.g.val, fun H4 p4 s4 hp4 => ?_⟩
      refine ⟨Nat.zero_le _, fun l5 nl5 => ?_⟩
      have s5 := same_upd (o := .lst []) nl5
      refine ⟨_, _, .lst (.inl (.inl (s5 _ _ hp4))) (dp_ints2 _ _ _), .lst (.inl (.inl upd_same)) .nil, shaped_ints2 _, shaped_nil, ?_⟩
      rw [eqv_nil (fun (k : Nat) => PyData.int (k : Int))]
      have := q _ (s123.trans (s4.trans s5))
      unfold asMuch at this
      rw [decide_eq_true hnq, Bool.true_and] at this
      exact this
    · rw [decide_eq_false hnq]
      refine iteF ?_
      have := q _ s123
      unfold asMuch at this
      rw [decide_eq_false hnq, Bool.false_and] at this
      exact this
end
end K15
namespace K15
open L2 PySem PySem.Spec PyProof.Rows
/-! ### readings that come again -/
section
variable {K : PySem.W.Frag} {σ : L2.St} {H : Hp} {Q : VK}
theorem rd_qeq {i : Nat} {a : Addr} {F : List Fact} (hi : σ[i]? = some (some (V.ref a))) (ha : FactsAt H a F) (hl : F.length ≤ 100) (q : ∀ H', Same H H' → Q (.bl (decide (NoQ F))) H') :
    tOp (rEqD K) (tCall spAllQ [] E0 (tCons (tVar i) tNil)) (tLst tNil) σ H Q := by
  refine ⟨_, hi, a, F, rfl, ha, hl, fun H2 p ts qs s2 hp hpr hall => ⟨Nat.zero_le _, fun l nl => ?_⟩⟩
  have s3 := same_upd (o := .lst []) nl
  refine ⟨_, _, .lst (.inl (.inl (s3 _ _ hp))) (dp_pairs (hpr.same s3)), .lst (.inl (.inl upd_same)) .nil, shaped_pairs qs, shaped_nil, ?_⟩
  have e1 : PyData.eqv (.list (qs.map dPair)) (.list []) = decide (NoQ F) := (eqv_nil dPair qs).trans (decide_eq_decide.mpr hall.nil_iff)
  rw [e1]
  exact q _ (s2.trans s3)
theorem rd_qne {i : Nat} {a : Addr} {F : List Fact} (hi : σ[i]? = some (some (V.ref a))) (ha : FactsAt H a F) (hl : F.length ≤ 100) (q : ∀ H', Same H H' → Q (.bl (!decide (NoQ F))) H') :
    tOp (rNeD K) (tCall spAllQ [] E0 (tCons (tVar i) tNil)) (tLst tNil) σ H Q := by
  refine ⟨_, hi, a, F, rfl, ha, hl, fun H2 p ts qs s2 hp hpr hall => ⟨Nat.zero_le _, fun l nl => ?_⟩⟩
  have s3 := same_upd (o := .lst []) nl
  refine ⟨_, _, .lst (.inl (.inl (s3 _ _ hp))) (dp_pairs (hpr.same s3)), .lst (.inl (.inl upd_same)) .nil, shaped_pairs qs, shaped_nil, ?_⟩
  have e1 : PyData.eqv (.list (qs.map dPair)) (.list []) = decide (NoQ F) := (eqv_nil dPair qs).trans (decide_eq_decide.mpr hall.nil_iff)
  rw [e1]
  exact q _ (s2.trans s3)
theorem rd_ueq {i j : Nat} {a b : Addr} {N : Nat} {F G : List Fact} (hi : σ[i]? = some (some (V.ref a))) (hj : σ[j]? = some (some (V.ref b))) (ha : FactsAt H a F) (hb : FactsAt H b G) (hl : G.length ≤ 100) (hN : 0 < N) (h12 : N ∣ 12) (hF : Fine N F) (hn : NoQ F) (hG : Val N G)
    (q : ∀ H', Same H H' → Q (.bl (decide (unsureL N F G = []))) H') : tOp (rEqD K) (tCall spUnsure [] E0 (tCons (tVar i) (tCons (tVar j) tNil))) (tLst tNil) σ H Q := by
  refine ⟨_, hi, _, hj, a, b, N, F, G, rfl, ha, hb, hl, hN, h12, hF, hn, hG, fun H4 p4 s4 hp4 => ⟨Nat.zero_le _, fun l5 nl5 => ?_⟩⟩
  have s5 := same_upd (o := .lst []) nl5
  refine ⟨_, _, .lst (.inl (.inl (s5 _ _ hp4))) (dp_ints2 _ _ _), .lst (.inl (.inl upd_same)) .nil, shaped_ints2 _, shaped_nil, ?_⟩
  rw [eqv_nil (fun (k : Nat) => PyData.int (k : Int))]
  exact q _ (s4.trans s5)
end
theorem FactsAt.app {H : Hp} {a b p : Addr} {F G : List Fact} {rs us : List Addr} (h1 : rs.length = F.length) (h2 : us.length = G.length) (f1 : ∀ (i : Nat) (r : Addr) (f : Fact), rs[i]? = some r → F[i]? = some f → H r = some (factV f))
    (f2 : ∀ (i : Nat) (r : Addr) (f : Fact), us[i]? = some r → G[i]? = some f → H r = some (factV f)) (i : Nat) (r : Addr) (f : Fact) (e1 : (rs ++ us)[i]? = some r) (e2 : (F ++ G)[i]? = some f) : H r = some (factV f) := by
  by_cases hi : i < rs.length
  · rw [List.getElem?_append_left hi] at e1
    rw [List.getElem?_append_left (by omega)] at e2
    exact f1 i r f e1 e2
  · rw [List.getElem?_append_right (by omega)] at e1
    rw [List.getElem?_append_right (by omega), ← h1] at e2
    exact f2 _ r f e1 e2
section
variable {w : World} {P : Program} {K : PySem.W.Frag} {base : Heap} {mg : Str → Option Value}
theorem sc_alike : FnScope ["one", "other"] ["one", "other"] (defScope s_alike) := ⟨rfl, rfl, rfl, by decide +kernel, rfl, by decide +kernel, by decide +kernel⟩
theorem has_alike (T : Txt K mg) : Has2 P w K mg base CX0 7 "alike" (spTwo alikeL) := by
  have Gb := has_check_both (P := P) (w := w) (base := base) T
  have Gq := has_all_quarrels (P := P) (w := w) (base := base) T
  have Gu := has_unsure_ones (P := P) (w := w) (base := base) T
  refine T.has2 (st := s_alike) 19 rfl (by decide +kernel) sc_alike (fun vs H Q E h => ?_) (fun _ _ _ _ _ _ us hl => match us, hl with | [_, _], _ => rfl) (fun _ _ _ _ _ _ _ _ => rfl) (fun f cdv A outer s H vs Q E hr h => ?_)
  · obtain ⟨a, b, N, F, G, rfl, _⟩ := h
    rfl
  · obtain ⟨a, b, N, F, G, rfl, ha, hb, t2, q⟩ := h
    have hr5 : Room 5 (A.deeper (envOfC "alike" (defScope s_alike) s.heap.objs.size f cdv)) := hr.mono (by decide)
    have hr4 : Room 4 (A.deeper (envOfC "alike" (defScope s_alike) s.heap.objs.size f cdv)) := hr.mono (by decide)
    refine ⟨_, PSs.nox (pss_cons (ps_expr (pe_fn Gb hr5 (pa_cons (pv 0) (pa_cons (pv 1) pa_nil))))
      (pss_cons (ps_if (PW.pt (pw_or (pt_cmpR (op_neD hr.units) (pe_fn Gq hr4 (pa_cons (pv 0) pa_nil)) (pe_lst pa_nil) (nomark _)) (pw_or1 (pt_cmpR (op_neD hr.units) (pe_fn Gq hr4 (pa_cons (pv 1) pa_nil)) (pe_lst pa_nil) (nomark _)))))
        (pss_one (ps_ret (pe_and (pe_cmpR (op_neD hr.units) (pe_fn Gq hr4 (pa_cons (pv 0) pa_nil)) (pe_lst pa_nil) (nomark _)) (pe_one (pe_cmpR (op_neD hr.units) (pe_fn Gq hr4 (pa_cons (pv 1) pa_nil)) (pe_lst pa_nil) (nomark _)))))) pss_nil)
      (pss_one (ps_ret (pe_and (pe_cmpR (op_eqD hr.units) (pe_fn Gu hr (pa_cons (pv 0) (pa_cons (pv 1) pa_nil))) (pe_lst pa_nil) (nomark _))
        (pe_one (pe_cmpR (op_eqD hr.units) (pe_fn Gu hr (pa_cons (pv 1) (pa_cons (pv 0) pa_nil))) (pe_lst pa_nil) (nomark _)))))))), ?_⟩
    have lf := t2.lf
    have lg := t2.lg
    refine ⟨_, rfl, _, rfl, a, b, F, G, rfl, ha, hb, lf, lg, fun H1 s1 => ?_⟩
    -- what is handed back where some facts quarrel
    have out : ∀ H1, Same H H1 → ¬ (NoQ F ∧ NoQ G) → tAndV (tOp (rNeD K) (tCall spAllQ [] E0 (tCons (tVar 0) tNil)) (tLst tNil)) (tOp (rNeD K) (tCall spAllQ [] E0 (tCons (tVar 1) tNil)) (tLst tNil)) (start ["one", "other"] [V.ref a, V.ref b]) H1 Q := fun H1 s1 hn => by
      refine rd_qne (F := F) rfl (ha.same s1) (by omega) fun H2 s2 => ⟨_, rfl, ?_⟩
      have v : ∀ H', Same H H' → Q (.bl (!decide (NoQ F) && !decide (NoQ G))) H' := fun H' s' => by
        have := q H' s'
        unfold alikeL at this
        rw [if_neg hn] at this
        exact this
      by_cases hF : NoQ F
      · rw [decide_eq_true hF] at v ⊢
        exact iteF (v _ (s1.trans s2))
      · rw [decide_eq_false hF] at v ⊢
        exact iteT (rd_qne (F := G) rfl (hb.same (s1.trans s2)) (by omega) fun H3 s3 => v _ ((s1.trans s2).trans s3))
    refine rd_qne (F := F) rfl (ha.same s1) (by omega) fun H2 s2 => ⟨_, rfl, ?_⟩
    by_cases hF : NoQ F
    · rw [decide_eq_true hF]
      refine iteF ?_
      refine rd_qne (F := G) rfl (hb.same (s1.trans s2)) (by omega) fun H3 s3 => ⟨_, rfl, ?_⟩
      have s123 := (s1.trans s2).trans s3
      by_cases hG : NoQ G
      · rw [decide_eq_true hG]
        refine iteF ?_
        have v : ∀ H', Same H H' → Q (.bl (decide (unsureL N F G = []) && decide (unsureL N G F = []))) H' := fun H' s' => by
          have := q H' s'
          unfold alikeL at this
          rw [if_pos ⟨hF, hG⟩] at this
          exact this
        refine rd_ueq (F := F) (G := G) (N := N) rfl rfl (ha.same s123) (hb.same s123) (by omega) t2.pos t2.dv t2.f hF t2.g.val fun H4 s4 => ⟨_, rfl, ?_⟩
        by_cases hu : unsureL N F G = []
        · rw [decide_eq_true hu] at v ⊢
          refine iteT ?_
          refine rd_ueq (F := G) (G := F) (N := N) rfl rfl (hb.same (s123.trans s4)) (ha.same (s123.trans s4)) (by omega) t2.pos t2.dv t2.g hG t2.f.val fun H5 s5 => ?_
          exact v _ ((s123.trans s4).trans s5)
        · rw [decide_eq_false hu] at v ⊢
          exact iteF (v _ (s123.trans s4))
      · rw [decide_eq_false hG]
        exact iteT (out _ s123 fun z => hG z.2)
    · rw [decide_eq_false hF]
      exact iteT (out _ (s1.trans s2) fun z => hF z.1)
theorem sc_joined : FnScope ["one", "other"] ["one", "other"] (defScope s_joined) := ⟨rfl, rfl, rfl, by decide +kernel, rfl, by decide +kernel, by decide +kernel⟩
theorem has_joined (T : Txt K mg) : Has2 P w K mg base CX0 7 "joined" (spTwo joinedL) := by
  have Gb := has_check_both (P := P) (w := w) (base := base) T
  have Gq := has_all_quarrels (P := P) (w := w) (base := base) T
  refine T.has2 (st := s_joined) 20 rfl (by decide +kernel) sc_joined (fun vs H Q E h => ?_) (fun _ _ _ _ _ _ us hl => match us, hl with | [_, _], _ => rfl) (fun _ _ _ _ _ _ _ _ => rfl) (fun f cdv A outer s H vs Q E hr h => ?_)
  · obtain ⟨a, b, N, F, G, rfl, _⟩ := h
    rfl
  · obtain ⟨a, b, N, F, G, rfl, ha, hb, t2, q⟩ := h
    have hr5 : Room 5 (A.deeper (envOfC "joined" (defScope s_joined) s.heap.objs.size f cdv)) := hr.mono (by decide)
    have hr4 : Room 4 (A.deeper (envOfC "joined" (defScope s_joined) s.heap.objs.size f cdv)) := hr.mono (by decide)
    refine ⟨_, PSs.nox (pss_cons (ps_expr (pe_fn Gb hr5 (pa_cons (pv 0) (pa_cons (pv 1) pa_nil))))
      (pss_one (ps_ret (pe_cmpR (op_eqD hr.units) (pe_fn Gq hr4 (pa_cons (pe_op op_catA (pv 0) (pv 1)) pa_nil)) (pe_lst pa_nil) (nomark _))))), ?_⟩
    have lf := t2.lf
    have lg := t2.lg
    refine ⟨_, rfl, _, rfl, a, b, F, G, rfl, ha, hb, lf, lg, fun H1 s1 => ?_⟩
    obtain ⟨rs, hA, l1, f1⟩ := ha.same s1
    obtain ⟨us, hB, l2, f2⟩ := hb.same s1
    -- behind the joining
    have fin : ∀ (p : Addr) (H2 : Hp), Same H1 H2 → FactsAt H2 p (F ++ G) → spAllQ ([.ref p] ++ []) H2 (fun x H3 => tLst tNil (start ["one", "other"] [V.ref a, V.ref b]) H3 fun y H4 => rEqD K x y H4 Q) E0 := fun p H2 s2 hp => by
      refine ⟨p, F ++ G, rfl, hp, by rw [List.length_append]; omega, fun H3 p3 ts qs s3 hp3 hpr hall => ⟨Nat.zero_le _, fun l nl => ?_⟩⟩
      have s4 := same_upd (o := .lst []) nl
      refine ⟨_, _, .lst (.inl (.inl (s4 _ _ hp3))) (dp_pairs (hpr.same s4)), .lst (.inl (.inl upd_same)) .nil, shaped_pairs qs, shaped_nil, ?_⟩
      have e1 : PyData.eqv (.list (qs.map dPair)) (.list []) = joinedL N F G := (eqv_nil dPair qs).trans (decide_eq_decide.mpr hall.nil_iff)
      rw [e1]
      exact q _ (s1.trans (s2.trans (s3.trans s4)))
    refine ⟨_, rfl, _, rfl, a, b, _, _, rfl, rfl, .inl (.inl hA), .inl (.inl hB), ?_, fun z => ?_, fun z1 z2 => ?_, fun z1 z2 p hp => ?_⟩
    · rw [List.length_map, List.length_map]
      have : rs.length + us.length ≤ 100 := by omega
      exact Nat.le_trans this (by decide)
    · have e : rs = [] := by simpa using z
      subst e
      have e2 : F = [] := List.eq_nil_of_length_eq_zero (by rw [← l1]; rfl)
      refine fin b H1 (Same.refl _) ?_
      rw [e2]
      exact ⟨us, hB, l2, f2⟩
    · have e : us = [] := by simpa using z2
      subst e
      have e2 : G = [] := List.eq_nil_of_length_eq_zero (by rw [← l2]; rfl)
      refine fin a H1 (Same.refl _) ?_
      rw [e2, List.append_nil]
      exact ⟨rs, hA, l1, f1⟩
    · have s2 := same_upd (o := .tup (rs.map V.ref ++ us.map V.ref)) hp
      refine fin p _ s2 ⟨rs ++ us, by rw [upd_same, List.map_append], by rw [List.length_append, List.length_append, l1, l2], ?_⟩
      exact FactsAt.app (a := a) (b := b) (p := p) l1 l2 (fun i r f e1 e2 => s2 _ _ (f1 i r f e1 e2)) (fun i r f e1 e2 => s2 _ _ (f2 i r f e1 e2))
end
end K15
/-! ### NoMachine: made, with two fields -/
namespace K15
open PySem PySem.W PySem.Calls PyProof.Rows PySem.HandSPX
/-- what is asked of NoMachine at C, its __init__ at fI -/
structure NmT (K : Frag) (C : Addr) : Prop where
  ini : excInitIn K C aeTail "ArithmeticError.__new__" = true
  ovr : excOver K C aeTail = true
  t1 : takerIn K C "first" = some none
  t2 : takerIn K C "second" = some none
  n1 : findIn K (.ref C) "first" = some none
  n2 : findIn K (.ref C) "second" = some none
  hd : hasDictIn K C = true
  kC : keepIn K (.ref C) = true
  exC : subIn K (.ref C) (.type "BaseException") = some true
  tyC : typeIn K (.ref C) = some (.type "type")
  sa : findIn K (.ref C) "__setattr__" = some (some (.builtin "object.__setattr__"))
  ga : findIn K (.ref C) "__getattribute__" = some (some (.builtin "BaseException.__getattribute__"))
  gg : findIn K (.ref C) "__getattr__" = some none
  cl : findIn K (.ref C) "__class__" = some (some (.builtin "object.__class__"))
  sp : specialIn K (.builtin "object.__class__") "__get__" = some (some (.builtin "getset_descriptor.__get__"))
  tk : takesIn K (.builtin "object.__class__") = some true
  mo : mroIn K C (.type "object") = some true
  iC : findIn K (.ref C) "__init__" = some (some (.ref (He.ma K C "__init__")))
  fI : isFn K (.ref (He.ma K C "__init__")) = true
  one : ∀ x ∈ cls, kitOne K (.ref C) (.ref (He.ga K x)) = some (x == "NoAnswer" || x == "NoMachine")
  oV : kitOne K (.ref C) (.type "ValueError") = some false
  oL : kitOne K (.ref C) (.type "LookupError") = some false
  oA : kitOne K (.ref C) (.type "ArithmeticError") = some true
  any : exmAny K (.ref C) [.ref (He.ga K "WrongValue"), .ref (He.ga K "WrongName"), .ref (He.ga K "NoAnswer")] = some true
theorem eqO_of {α : Type} [DecidableEq α] {a b : α} (h : decide (a = b) = true) : a = b := of_decide_eq_true h
theorem nmT_of {K : Frag} (h : exB K = true) : NmT K (He.ga K "NoMachine") := by
  unfold exB nmB at h
  simp only [List.all_cons, List.all_nil, id, Bool.and_eq_true, Bool.and_true] at h
  obtain ⟨h1, h2, h3, h4, h5, h6, h7, h8, h9, h10, h11, h12, h13, h14, h15, h16, h17, h18, h19, h20, h21, h22, h23, h24⟩ := h
  exact ⟨h1, h2, of_decide_eq_true h3, of_decide_eq_true h4, He.eqO_ok h5, He.eqO_ok h6, h7, h8, of_decide_eq_true h9, of_decide_eq_true h10, He.eqO_ok h11, He.eqO_ok h12, He.eqO_ok h13, He.eqO_ok h14, He.eqO_ok h15,
    of_decide_eq_true h16, of_decide_eq_true h17, He.eqO_ok h18, h19, fun x hx => of_decide_eq_true (List.all_eq_true.mp h20 x hx), of_decide_eq_true h21, of_decide_eq_true h22, of_decide_eq_true h23, of_decide_eq_true h24⟩
section
open Builtin
open Builtin.ObjectAttr
variable {prog : Program} {w : World} {A : Around} {R : Result → Shared → Prop} {mem0 : Heap} {g : Array GenState} {d : Drawn} {t : Nat} {os : OsState} {K : Frag} {name : Str} {tk : Tok} {v : Value} {x C da : Addr} {flds : Array Value}
/-- the first field of an exception that has no dict -/
theorem nm_osa (X : K.In mem0) (at0 : mem0.get? x = some { cls := .ref C, data := .fields flds }) (ho : excOver K C aeTail = true) (ht : takerIn K C name = some none) (hh : hasDictIn K C = true)
    (fin : ∀ h' tkx da, (∀ b o, b ≠ x → mem0.get? b = some o → h'.get? b = some o) → mem0.objs.size ≤ da → da ≠ x → h'.get? x = some { cls := .ref C, dict := some da, data := .fields flds } →
      h'.Ns1 da (fun y => if y = name then some v else none) → R (.ok (.ret .none)) ⟨h', g, d, tkx, os⟩) :
    codeAny (model prog w) A (.call (.builtin "object.__setattr__") ⟨[.ref x, .str name tk, v], []⟩) R ⟨mem0, g, d, t, os⟩ := by
  have I : InstAt mem0 x { cls := .ref C, data := .fields flds } C none := ⟨at0, rfl, rfl, trivial⟩
  have lt0 : x ≠ mem0.objs.size := Nat.ne_of_lt (Heap.lt_size at0)
  obtain ⟨cd, hcd, dd1⟩ := any_some hh
  have hcls : Looks (model prog w) mem0 (classData C) cd := looks_clsIn X hcd
  refine osa_openX (s := ⟨mem0, g, d, t, os⟩) (od := none) F.store_ArithmeticError X I ho ht fun b => ?_
  show wpAny _ _ (storeInOwnDict (.ref x) (.ref C) (.str name tk) name v b) _ _ _
  obtain ⟨cn, cb, cm, ns, cq, hd, sn, sb, ab, col, del⟩ := cd
  dsimp only at dd1
  subst dd1
  unfold storeInOwnDict
  unfold ownDictForStores
  repeat (first | with_reducible refine store_in_new ?_ ?_ | with_reducible refine wpAny_loadPart_at at0 ?_ | with_reducible refine hcls.at ?_ | wp_step)
  · exact ⟨_, #[], _, (Heap.get?_update_ne _ _ _ _ lt0.symm).trans (Heap.get?_push_at rfl rfl), rfl, fun e he => absurd he (by simp), fun _ => rfl⟩
  · intro h' tkx nsx same0
    have at1 : (mem0.push { cls := .type "dict", data := .dict #[] }).get? x = some { cls := .ref C, data := .fields flds } := Heap.get?_push_of_some _ at0
    refine fin h' tkx mem0.objs.size (fun b o hb ho => ?_) (Nat.le_refl _) lt0.symm ?_ nsx
    · exact (same0.2 b (Nat.ne_of_lt (Heap.lt_size ho))).trans ((Heap.get?_update_ne _ _ _ _ hb).trans (Heap.get?_push_of_some _ ho))
    · exact (same0.2 x lt0).trans (Heap.get?_update_self _ at1 rfl)
/-- a further one -/
theorem nm_osa2 {ma : Str → Option Value} {nl : List Str} (X : K.In mem0) (at0 : mem0.get? x = some { cls := .ref C, dict := some da, data := .fields flds }) (hns : mem0.Ns1 da ma) (hw : Within ma nl) (hz : nl.length ≤ 1000)
    (ho : excOver K C aeTail = true) (ht : takerIn K C name = some none) (hh : hasDictIn K C = true)
    (fin : ∀ h' tkx, (∀ b o, b ≠ da → mem0.get? b = some o → h'.get? b = some o) → h'.Ns1 da (fun y => if y = name then some v else ma y) → R (.ok (.ret .none)) ⟨h', g, d, tkx, os⟩) :
    codeAny (model prog w) A (.call (.builtin "object.__setattr__") ⟨[.ref x, .str name tk, v], []⟩) R ⟨mem0, g, d, t, os⟩ := by
  obtain ⟨obD, esd, epd, getD, datD, _⟩ := hns.count hw
  have I : InstAt mem0 x { cls := .ref C, dict := some da, data := .fields flds } C (some obD) := ⟨at0, rfl, rfl, getD⟩
  obtain ⟨cd, hcd, dd1⟩ := any_some hh
  have hcls : Looks (model prog w) mem0 (classData C) cd := looks_clsIn X hcd
  refine osa_openX (s := ⟨mem0, g, d, t, os⟩) (od := some obD) F.store_ArithmeticError X I ho ht fun b => ?_
  refine wpAny_bind (wpAny_pure (wpAny_bind (wpAny_bind (wpAny_loadPart at0 (wpAny_bind ((looks_clsIn X hcd).here ?_))))))
  rw [dd1]
  refine wpAny_pure (a := some da) ?_
  exact PySem.OEX.store_in_old hns hw hz fun h' tkx nsx same0 => fin h' tkx (fun b o hb ho => (same0.2 b hb).trans ho) nsx
end
theorem ldV {M : Model} {s : Shared} {name : Str} {scope : Scope} {L a : Addr} {cd : Value} {m : Str → Option Value} {x : Str} {pos : Pos} {v : Value} {Q : Value → Shared → Prop} {A : Around} {E : Value → Shared → Prop} (hn : s.heap.Ns L m) (hv : m x = some v) (h : Q v s)
    (hk : scope.kind = .function := by rfl) (hl : (envOfC name scope L a cd).kindOf x = some .local := by rfl) (hd : (x == ("__debug__" : Str)) = false := by decide) : wpAny M A (eval (.Name x pos) (envOfC name scope L a cd)) Q E s :=
  wpAny_Name (wpAny_loadName_local hk hl hn hv h) hd
def nmF (v u : Value) : Str → Option Value := fun y => if y = "second" then some u else if y = "first" then some v else none
/-- a made NoMachine -/
structure NmMade (h h' : Heap) (e C d : Addr) (v u : Value) : Prop where
  keep : ∀ b o, h.get? b = some o → h'.get? b = some o
  new : h.objs.size ≤ e
  obj : ∃ oe vs, h'.get? e = some oe ∧ oe.cls = .ref C ∧ oe.dict = some d ∧ oe.data = .fields vs ∧ vs[1]? = some .none
  big : h.objs.size ≤ d
  ne : d ≠ e
  ns : h'.Ns1 d (nmF v u)
section
variable {prog : Program} {w : World} {A : Around} {R : Result → Shared → Prop} {s : Shared} {K : Frag} {C : Addr} {fd : FuncData}
theorem nm_init (T : NmT K C) (FI : L2.FunD K "__init__" "NoMachine.__init__" (L2.defArgs s_NoMachine_init) (L2.defBody s_NoMachine_init) (L2.defScope s_NoMachine_init) [] [] (He.ma K C "__init__") fd) {x t0 : Addr} {v u : Value} (X : K.In s.heap) (hlim : s.heap.NoLimit)
    (hx : s.heap.get? x = some (excO C t0)) (hnx : K.lookup x = none) (hroom : A.depth < recursionLimit)
    (hq : ∀ h' tk dx, (∀ b o, b ≠ x → b ≠ dx → s.heap.get? b = some o → h'.get? b = some o) → s.heap.objs.size ≤ dx → dx ≠ x → h'.get? x = some { cls := .ref C, dict := some dx, data := .fields #[.ref t0, .none, .none, .none, .bool false, .none] } →
      h'.Ns1 dx (nmF v u) → R (.ok (.ret .none)) { s with heap := h', toks := tk }) :
    codeAny (model prog w) A (.call (.ref (He.ma K C "__init__")) ⟨[.ref x, v, u], []⟩) R s := by
  obtain ⟨oc, od, dV, kV, doc, pm, an, cdv, ct, osl, rfl, ho, hcd, hD, _⟩ := FI.ex
  rcases (hD) with ⟨_, rfl⟩ | ⟨e, _⟩
  case inr => exact absurd rfl e
  refine Att.call_fn (binds := [("self", .ref x), ("first", v), ("second", u)]) X hlim ho hcd hroom (BindsTo.of_eq (by first | rfl | with_unfolding_all rfl)) (by first | rfl | decide | with_unfolding_all rfl) (fun s₁ IC => ?_) rfl rfl rfl
  obtain ⟨h₁, tk₁, rfl⟩ := IC.toInCall.same
  have k : ∀ b o, s.heap.get? b = some o → h₁.get? b = some o := IC.toInCall.keep
  have hn := IC.toInCall.ns
  have hxL : s.heap.objs.size ≠ x := Nat.ne_of_gt (Heap.lt_size hx)
  have X₁ : K.In h₁ := X.keeps k
  have hx₁ := k _ _ hx
  have z : s.heap.objs.size < h₁.objs.size := hn.lt
  show wpAny _ _ (execs _ _) _ _ _
  refine wpAny_execs_cons (plainObj_wpAny_Assign_Attribute ?_)
  refine ldV (v := v) hn (by first | rfl | with_unfolding_all rfl | kernel_rfl) (ldV (v := .ref x) hn (by first | rfl | with_unfolding_all rfl | kernel_rfl) ?_)
  refine set_plain X₁ (ox := excO C t0) (od := none) ⟨hx₁, rfl, rfl, trivial⟩ T.sa ?_
  refine nm_osa X₁ hx₁ T.ovr T.t1 T.hd (fun h₃ tk₃ dx k₃ dn dne hx₃ hn₃ => ?_)
  obtain ⟨oL, _, _, hoL, _⟩ := (id hn)
  have hn3 := hn.at fun o q => k₃ _ o hxL q
  have dL : s.heap.objs.size ≠ dx := Nat.ne_of_lt (Nat.lt_of_lt_of_le z dn)
  -- self.second = second
  have X₃ : K.In h₃ := fun a o e => k₃ a o (fun q => by rw [q, hnx] at e; cases e) (X₁ _ _ e)
  have dn' : dx ≠ s.heap.objs.size := Ne.symm dL
  show wpAny _ _ (execs _ _) _ _ _
  refine wpAny_execs_cons (plainObj_wpAny_Assign_Attribute ?_)
  refine ldV (v := u) hn3 (by first | rfl | with_unfolding_all rfl | kernel_rfl) (ldV (v := .ref x) hn3 (by first | rfl | with_unfolding_all rfl | kernel_rfl) ?_)
  obtain ⟨oD, _, _, hoD, _⟩ := id hn₃
  refine set_plain X₃ (ox := { cls := .ref C, dict := some dx, data := .fields #[.ref t0, .none, .none, .none, .bool false, .none] }) (od := some oD) ⟨hx₃, rfl, rfl, hoD⟩ T.sa ?_
  refine nm_osa2 (nl := ["first"]) X₃ hx₃ hn₃ (fun y hy => ?_) (by decide) T.ovr T.t2 T.hd (fun h₄ tk₄ k₄ hn₄ => ?_)
  · by_cases hb : y = "first"
    · rw [hb]
      exact List.mem_cons_self
    · exact absurd (if_neg hb) hy
  · show wpAny _ _ (execs _ _) _ _ _
    exact wpAny_execs_nil (hq h₄ tk₄ dx (fun b o h1 h2 e => k₄ b o h2 (k₃ b o h1 (k b o e))) (Nat.le_of_lt (Nat.lt_of_lt_of_le z dn)) dne (k₄ _ _ (Ne.symm dne) hx₃) hn₄)
theorem nm_made (T : NmT K C) (FI : L2.FunD K "__init__" "NoMachine.__init__" (L2.defArgs s_NoMachine_init) (L2.defBody s_NoMachine_init) (L2.defScope s_NoMachine_init) [] [] (He.ma K C "__init__") fd) {v u : Value} (X : K.In s.heap) (hlim : s.heap.NoLimit) (hroom : A.depth + 1 < recursionLimit)
    (hq : ∀ h' tk e d, NmMade s.heap h' e C d v u → R (.ok (.ret (.ref e))) { s with heap := h', toks := tk }) :
    codeAny (model prog w) A (.call (.ref C) ⟨[v, u], []⟩) R s := by
  obtain ⟨nm, N, q, bs, bm, hdct, sn, sub, ab, col, dd, k0, k1, k2, k3, k5, hC, hT⟩ := excInit_of X T.ini
  obtain ⟨hp, g, dr, tk, os⟩ := (s)
  have k : ∀ b o, hp.get? b = some o → ((hp.push (kdv_tup [v, u])).push (excO C hp.objs.size)).get? b = some o := fun b o e => Heap.get?_push_of_some _ (Heap.get?_push_of_some _ e)
  have hget : ((hp.push (kdv_tup [v, u])).push (excO C hp.objs.size)).get? (hp.objs.size + 1) = some (excO C hp.objs.size) := by heap_get
  have hnx : K.lookup (hp.objs.size + 1) = none := by
    cases e : K.lookup (hp.objs.size + 1) with
    | none => rfl
    | some o =>
      have z : hp.get? (hp.objs.size + 1) = some o := X _ _ e
      exact absurd (Nat.lt_of_succ_lt (Heap.lt_size z)) (Nat.lt_irrefl _)
  refine call_own F.excBase_ArithmeticError hT hC (looks_findIn X T.iC) (fun self => bind_fn X self (beq_iff_eq.mp T.fI)) (by show 2 ≤ sizeLine; rw [sizeLine_eq]; omega) ?_
  refine nm_init (s := ⟨(hp.push (kdv_tup [v, u])).push (excO C hp.objs.size), g, dr, tk, os⟩) T FI (X.keeps k) (hlim.keeps k) hget hnx ?_ fun h' tk' dx k' dn dne hx hns => ?_
  · show A.depth + 1 < recursionLimit
    exact hroom
  · have z : hp.objs.size + 1 + 1 ≤ dx := by
      first
        | (simpa only [Heap.size_push] using dn)
        | exact dn
        | (have q := dn; rw [Heap.size_push, Heap.size_push] at q; exact q)
    have old : ∀ b o, hp.get? b = some o → h'.get? b = some o := fun b o e => k' b o (Nat.ne_of_lt (Nat.lt_succ_of_lt (Heap.lt_size e))) (Nat.ne_of_lt (Nat.lt_of_lt_of_le (Nat.lt_succ_of_lt (Nat.lt_succ_of_lt (Heap.lt_size e))) z)) (k b o e)
    exact ⟨rfl, hq h' tk' (hp.objs.size + 1) dx ⟨old, Nat.le_succ _, ⟨_, _, hx, rfl, rfl, rfl, rfl⟩, Nat.le_trans (Nat.le_trans (Nat.le_succ _) (Nat.le_succ _)) z, dne, hns⟩⟩
end
end K15
namespace K15
open L2 PySem PySem.Spec PyProof.Rows
/-- the fields, the later first -/
def nmFs (v u : V) : List (Str × V) := [("second", u), ("first", v)]
theorem relO_nm {v u : V} {v' u' : Value} (r : RelV v v') (r2 : RelV u u') (f : Str) : RelO (List.lookup f (nmFs v u)) (nmF v' u' f) := by
  unfold nmFs nmF
  by_cases h1 : f = "second"
  · subst h1
    rw [if_pos rfl]
    simp [List.lookup]
    exact r2
  · rw [if_neg h1]
    have q1 : (f == ("second" : Str)) = false := by simpa using h1
    by_cases h2 : f = "first"
    · subst h2
      rw [if_pos rfl]
      simp [List.lookup, q1]
      exact r
    · rw [if_neg h2]
      have q2 : (f == ("first" : Str)) = false := by simpa using h2
      simp [List.lookup, q1, q2]
      trivial
section
variable {X : Cx} {C : Addr} {fd : FuncData}
/-- NoMachine(e, e2) -/
def tMkNm (C : Addr) (ta : TA) : L2.St → Hp → XK → Prop := fun σ H Q => ta σ H fun vs H1 => ∃ v u, vs = [v, u] ∧ ∀ d, H1 d = none → Q (.ref C) (some d) (upd H1 d (.xd (nmFs v u)))
theorem pmk_nm {a b : Expr} {ta : TA} {p pos : Pos} {k : Nat} (T : NmT X.K C) (gC : X.mg "NoMachine" = some (.ref C)) (FI : FunD X.K "__init__" "NoMachine.__init__" (defArgs s_NoMachine_init) (defBody s_NoMachine_init) (defScope s_NoMachine_init) [] [] (He.ma X.K C "__init__") fd)
    (hr : Room k X.A) (ha : PA X [a, b] ta) (hg : Gl X "NoMachine" := by rfl)
    (he : starEach (a :: [b]) X.env = (false, eval a X.env) :: starEach [b] X.env := by rfl) (hpl : (backTo pos (starEach [b] X.env)).any (·.1) = false := by rfl) :
    PMk X (.Call (.Name "NoMachine" p) [a, b] [] pos) (tMkNm C ta) := by
  intro pins s σ H Q I h
  refine wpAny_Call_Name_kw (ld_glob I hg gC ?_)
  refine PySem.W.callWith_K (h₀ := X.base) I.ok.mod.kin T.kC (thn (ha.run pos pins s σ H _ I h) fun us s1 hh => ?_) he hpl
  obtain ⟨vs, H1, I1, r1, v, u, ev, q1⟩ := hh
  subst ev
  refine ⟨I1.kIn, ?_⟩
  cases r1 with
  | cons rv rn =>
    rename_i v' us'
    cases rn with
    | cons ru rn =>
      rename_i u' us'
      cases rn
      show wpAny _ _ (call (.ref C) [v', u']) _ _ _
      have hlim := I1.nolimit
      obtain ⟨hp, g, dr, tk, os⟩ := (s1)
      refine wpAny_call (nm_made T FI I1.kIn hlim (by have := hr.dp; omega) fun h' tk' e d M => ?_)
      show MkP X pins σ Q (.ref e) ⟨h', g, dr, tk', os⟩
      obtain ⟨oe, fv, hoe, hc, hd, hdat, h1⟩ := M.obj
      have hns := M.ns
      obtain ⟨G', g1, g2⟩ := restrict h' fun b => decide (b ≠ e)
      have gk : ∀ b, b ≠ e → G'.get? b = h'.get? b := fun b hb => g1 b (decide_eq_true hb)
      have ge : G'.get? e = none := g2 e (by simp)
      have old : ∀ b o, hp.get? b = some o → G'.get? b = some o := fun b o q => (gk b (Nat.ne_of_lt (Nat.lt_of_lt_of_le (Heap.lt_size q) M.new))).trans (M.keep b o q)
      have ob : ObjOk X.prog X.w (upd H1 d (.xd (nmFs v u))) G' d (.xd (nmFs v u)) :=
        ⟨_, hns.at (fun o q => (gk d M.ne).trans q), fun f => relO_nm rv ru f⟩
      have J : Inv X pins σ (upd H1 d (.xd (nmFs v u))) ⟨G', g, dr, tk', os⟩ := I1.laid (t' := tk') old M.big ob
      refine ⟨e, oe, fv, ⟨G', g, dr, tk', os⟩, _, .ref C, some d, rfl, J, fun b o q => ?_, ge, hoe, ⟨hc, hd⟩, hdat, h1, ?_, rfl, I1.bare, raises_own T.exC T.tyC, q1 d (I1.hok.fresh M.big)⟩
      · by_cases hb : b = e
        · have q' : G'.get? b = some o := q
          rw [hb, ge] at q'; cases q'
        · exact (gk b hb).symm.trans q
      · rw [upd_ne (Ne.symm M.ne)]
        exact I1.hok.fresh M.new
end
/-! ### check_machine, first_more -/
section
variable {w : World} {P : Program} {K : PySem.W.Frag} {base : Heap} {mg : Str → Option Value}
def CNm (K : PySem.W.Frag) : Addr := He.ga K "NoMachine"
theorem Txt.nmT (T : Txt K mg) : NmT K (CNm K) := nmT_of T.nm
theorem Txt.gNm (T : Txt K mg) : mg "NoMachine" = some (.ref (CNm K)) := T.gl _ (by decide +kernel)
theorem Txt.fNm (T : Txt K mg) : ∃ fd, FunD K "__init__" "NoMachine.__init__" (defArgs s_NoMachine_init) (defBody s_NoMachine_init) (defScope s_NoMachine_init) [] [] (He.ma K (CNm K) "__init__") fd :=
  T.df ⟨("NoMachine", some "__init__"), "__init__", "NoMachine.__init__", defArgs s_NoMachine_init, defBody s_NoMachine_init, defScope s_NoMachine_init, [], []⟩ (by
    unfold dfs
    simp only [List.mem_cons, true_or, or_true])
/-- behind NoMachine: its dict d -/
def NmE (K : PySem.W.Frag) (F : List Fact) (H : Hp) (E : XK) : Prop := ∀ (q : Nat × Nat) (d : Addr) (H' : Hp), FirstQ F q → Same H H' → H' d = some (.xd (nmFs (.int (q.1 : Nat)) (.int (q.2 : Nat)))) → E (.ref (CNm K)) (some d) H'
theorem sc_check_machine : FnScope ["facts", "found"] ["facts"] (defScope s_check_machine) := ⟨rfl, rfl, rfl, by decide +kernel, rfl, by decide +kernel, by decide +kernel⟩
def spMach (K : PySem.W.Frag) : Sp := fun vs H Q E => ∃ (a : Addr) (F : List Fact), vs = [.ref a] ∧ FactsAt H a F ∧ F.length ≤ 100 ∧ (NoQ F → ∀ H', Same H H' → Q .non H') ∧ NmE K F H E
theorem has_check_machine (T : Txt K mg) : Has P w K mg base (L2.CX P w) 5 "check_machine" ["facts"] (spMach K) := by
  have Gq := has_all_quarrels (P := P) (w := w) (base := base) T
  obtain ⟨fdI, FI⟩ := T.fNm
  refine T.has (st := s_check_machine) 12 rfl (by decide +kernel) sc_check_machine (fun vs H Q E h => ?_) (fun _ _ _ _ _ _ us hl => match us, hl with | [_], _ => rfl) (fun f cdv A outer s H vs Q E hr h => ?_)
  · obtain ⟨a, F, rfl, _⟩ := h
    rfl
  · obtain ⟨a, F, rfl, ha, hl, q, e⟩ := h
    refine ⟨_, pss_cons (ps_set (i := 1) sc_check_machine.nd rfl (.inl rfl) (pe_fn Gq hr (pa_cons (pv 0) pa_nil)))
      (pss_one (ps_if (pt_cmpR (op_neD hr.units) (pv 1) (pe_lst pa_nil) (nomark _))
        (pss_one (ps_raise rfl (takes_of rfl rfl rfl rfl) (pmk_nm T.nmT T.gNm FI hr
          (pa_cons (pe_ix ix_tup (pe_ix ix_list (pv 1) pe_int (fun _ _ => rfl)) pe_int (fun _ _ => rfl)) (pa_cons (pe_ix ix_tup (pe_ix ix_list (pv 1) pe_int (fun _ _ => rfl)) pe_int (fun _ _ => rfl)) pa_nil))))) pss_nil)), ?_⟩
    refine ⟨_, rfl, a, F, rfl, ha, hl, fun H1 p ts qs s1 hp hpr hall => ?_⟩
    refine ⟨_, rfl, Nat.zero_le _, fun l nl => ?_⟩
    have s2 := same_upd (o := .lst []) nl
    refine ⟨_, _, .lst (.inl (.inl (s2 _ _ hp))) (dp_pairs (hpr.same s2)), .lst (.inl (.inl upd_same)) .nil, shaped_pairs qs, shaped_nil, _, rfl, ?_⟩
    have e1 : PyData.eqv (.list (qs.map dPair)) (.list []) = decide (qs = []) := eqv_nil dPair qs
    rw [e1]
    cases qs with
    | nil =>
      exact iteF (q (hall.nil_iff.mp rfl) _ (s1.trans s2))
    | cons q0 qr =>
      refine iteT ?_
      cases ts with
      | nil => exact absurd hpr.1 (by simp)
      | cons t0 tr =>
        have h0 := (hpr.same s2).2 0 t0 q0 rfl rfl
        have hp2 := s2 _ _ hp
        refine ⟨_, rfl, p, _, 0, _, rfl, rfl, .inl (.inl hp2), atI_nat (j := 0) rfl, t0, _, 0, _, rfl, rfl, .inl (.inl h0), atI_nat (j := 0) rfl, ?_⟩
        refine ⟨_, rfl, p, _, 0, _, rfl, rfl, .inl (.inl hp2), atI_nat (j := 0) rfl, t0, _, 1, _, rfl, rfl, .inl (.inl h0), atI_nat (j := 1) rfl, ?_⟩
        refine ⟨_, _, rfl, fun d hd => ?_⟩
        exact e q0 d _ hall.first ((s1.trans s2).trans (same_upd hd)) upd_same
theorem sc_first_more : FnScope ["one", "other", "found"] ["one", "other"] (defScope s_first_more) := ⟨rfl, rfl, rfl, by decide +kernel, rfl, by decide +kernel, by decide +kernel⟩
/-- the first that is not sure -/
noncomputable def moreV (N : Nat) (F G : List Fact) : V := match unsureL N F G with
  | [] => .non
  | k :: _ => .int (k : Int)
def spMore (K : PySem.W.Frag) : Sp := fun vs H Q E => ∃ (a b : Addr) (N : Nat) (F G : List Fact), vs = [.ref a, .ref b] ∧ FactsAt H a F ∧ FactsAt H b G ∧ Two N F G ∧ (NoQ F → ∀ H', Same H H' → Q (moreV N F G) H') ∧ (¬ NoQ F → NmE K F H E)
theorem has_first_more (T : Txt K mg) : Has2 P w K mg base (L2.CX P w) 7 "first_more" (spMore K) := by
  have Gb := has_check_both (P := P) (w := w) (base := base) T
  have Gm := has_check_machine (P := P) (w := w) (base := base) T
  have Gu := has_unsure_ones (P := P) (w := w) (base := base) T
  refine T.has2 (st := s_first_more) 18 rfl (by decide +kernel) sc_first_more (fun vs H Q E h => ?_) (fun _ _ _ _ _ _ us hl => match us, hl with | [_, _], _ => rfl) (fun _ _ _ _ _ _ _ _ => rfl) (fun f cdv A outer s H vs Q E hr h => ?_)
  · obtain ⟨a, b, N, F, G, rfl, _⟩ := h
    rfl
  · obtain ⟨a, b, N, F, G, rfl, ha, hb, t2, q, e⟩ := h
    have hr5 : Room 5 (A.deeper (envOfC "first_more" (defScope s_first_more) s.heap.objs.size f cdv)) := hr.mono (by decide)
    obtain ⟨fm, fdm, m1, m2, m3, m4⟩ := Gm
    refine ⟨_, pss_cons (ps_expr (pe_fn Gb hr5 (pa_cons (pv 0) (pa_cons (pv 1) pa_nil))))
      (pss_cons (ps_expr (pe_callS m3 hr5 rfl m1 m2 m4 (fun σ => passAt (takes_of rfl rfl rfl rfl) σ) (by exact (pa_cons (pv 0) pa_nil))))
      (pss_cons (ps_set (i := 2) sc_first_more.nd rfl (.inl rfl) (pe_fn Gu hr (pa_cons (pv 0) (pa_cons (pv 1) pa_nil))))
      (pss_one (ps_ret (pe_ifExp (pt_cmpR (op_neD hr.units) (pv 2) (pe_lst pa_nil) (nomark _)) (pe_ix ix_list (pv 2) pe_int (fun _ _ => rfl)) pe_non))))), ?_⟩
    have lf := t2.lf
    have lg := t2.lg
    refine ⟨_, rfl, _, rfl, a, b, F, G, rfl, ha, hb, lf, lg, fun H1 s1 => ?_⟩
    refine ⟨_, rfl, a, F, rfl, ha.same s1, by omega, fun hn H2 s2 => ?_, ?_⟩
    · have s12 := s1.trans s2
      refine ⟨_, rfl, _, rfl, a, b, N, F, G, rfl, ha.same s12, hb.same s12, by omega, t2.pos, t2.dv, t2.f, hn, t2.g.val, fun H3 p3 s3 hp3 => ?_⟩
      refine ⟨_, rfl, Nat.zero_le _, fun l nl => ?_⟩
      have s4 := same_upd (o := .lst []) nl
      refine ⟨_, _, .lst (.inl (.inl (s4 _ _ hp3))) (dp_ints2 _ _ _), .lst (.inl (.inl upd_same)) .nil, shaped_ints2 _, shaped_nil, _, rfl, ?_⟩
      rw [eqv_nil (fun (k : Nat) => PyData.int (k : Int))]
      have v := q hn _ ((s12.trans s3).trans s4)
      have h4 := s4 _ _ hp3
      unfold moreV at v
      cases hu : unsureL N F G with
      | nil =>
        rw [hu] at v
        exact iteF v
      | cons k r =>
        rw [hu] at v h4
        refine iteT ?_
        exact ⟨_, rfl, p3, _, 0, _, rfl, rfl, .inl (.inl h4), atI_nat (j := 0) rfl, v⟩
    · intro q0 d H2 fq s2 hd
      by_cases hn : NoQ F
      · exact absurd fq.bad (noQ_iff.mp hn _ _ fq.lt)
      · exact e hn q0 d H2 fq (s1.trans s2) hd
end
end K15
namespace K15
open L2 PySem PySem.Spec PyProof.Rows
/-! ### calls with keywords alone -/
section
variable {X : Cx} {CX : CXT} {k : Nat} {f : Addr} {fd : FuncData} {ps ks : List Str} {sp : Sp} {E : XK} {x : Str} {p pos : Pos} {kws : List Keyword} {tk : TA} {g : List Value → List Value → List Value} {gV : List V → List V → List V}
def tCallQ (sp : Sp) (gV : List V → List V → List V) (E : XK) (tk : TA) : TE := fun σ H Q => tk σ H fun zs H2 => sp (gV [] zs) H2 Q E
theorem pe_callQ (F : FnOk X.prog X.w X.K X.mg X.base CX k f fd ps sp) (hr : Room k X.A) (hg : Gl X x) (hm : X.mg x = some (.ref f)) (hk : PySem.W.keepIn X.K (.ref f) = true) (hb : KBinds X.K fd ps ks g gV) (hx : Passes CX X E)
    (hkw : PK X kws tk) (hall : (backToKw pos (keywordEach kws X.env)).all (·.1.isSome) = true := by rfl) (hks : (backToKw pos (keywordEach kws X.env)).filterMap (·.1) = ks := by rfl)
    (hdb : (x == ("__debug__" : Str)) = false := by decide) (hpl : ((backTo pos (starEach [] X.env)).any (·.1) || (backToKw pos (keywordEach kws X.env)).any (·.1.isNone)) = false := by rfl) :
    PE X (.Call (.Name x p) [] kws pos) (tCallQ sp gV E tk) := by
  refine ⟨fun pins s σ H Q I h => wpAny_Call_Name_kw (ld_glob I hg hm ?_ hdb)⟩
  refine PySem.W.callWith_KW0 (h₀ := X.base) I.ok.mod.kin hk hall ?_ hpl
  refine thn (hkw.run pos pins s σ H _ I h) fun ws s2 hh => ?_
  obtain ⟨zs, H2, I2, rz, q2⟩ := hh
  refine ⟨I2.kIn, ?_⟩
  rw [hks]
  exact run_fnk (us := []) (vs := []) F hr hb hx I2 .nil rz q2
end
/-! ### repr -/
section
variable {X : Cx}
theorem shown_none : PyData.shown .none = "None" := by first | rfl | simp [PyData.shown]
def rRepr (K : PySem.W.Frag) (xs : List V) (H : Hp) (Q : VK) : Prop := ∃ (x : V) (d : PyData), xs = [x] ∧ Dp K H x d ∧ d.showable = true ∧ d.hasDict = false ∧ d.depth ≤ 60 ∧ d.shown.length ≤ sizeLine ∧ Q (.str d.shown) H
theorem call_reprD (hg : X.A.guards = some []) (hu : X.A.units + 100 < cLine) : CallR X (.builtin "repr") (fun xs H Q => rRepr X.K xs H Q ∧ ∃ a, xs = [.ref a]) := by
  intro pins s σ H xs
  intro us Q I r h
  obtain ⟨⟨x, d, e, hd, hs, hn, hdp, hz, q⟩, a, e2⟩ := h
  rw [e2] at e
  have ex : x = .ref a := by
    have := (List.cons.inj e).1
    exact this.symm
  subst ex
  subst e2
  obtain ⟨u, rfl, ru⟩ := (vals1 r)
  obtain rfl : u = Value.ref a := (ru)
  obtain ⟨as, hrd⟩ := Dp.reads I d (.ref a) (.ref a) hd rfl
  exact PySem.repr_of_reads' hrd hs (PyData.noDict_hsm hn) hg (by omega) (fun _ _ z => z) (fun h' t tk hk => ⟨.str d.shown, H, I.kept (t' := tk) hk, ⟨t, rfl⟩, q⟩) hz
theorem call_reprN : CallR X (.builtin "repr") (fun xs H Q => xs = [.non] ∧ Q (.str "None") H) := by
  intro pins s σ H xs
  intro us Q I r h
  obtain ⟨rfl, q⟩ := h
  obtain ⟨u, rfl, ru⟩ := (vals1 r)
  obtain rfl : u = Value.none := ru
  exact PySem.P.repr_of_none ⟨.str "None", H, I.tok _, ⟨_, rfl⟩, q⟩
/-- repr of a number, of None, of what holds others -/
def rRep (K : PySem.W.Frag) (xs : List V) (H : Hp) (Q : VK) : Prop := (∃ i : Int, xs = [.int i] ∧ i.natAbs.log2 < 1920 ∧ Q (.str (toString i)) H) ∨ (xs = [.non] ∧ Q (.str "None") H) ∨ (rRepr K xs H Q ∧ ∃ a, xs = [.ref a])
theorem call_rep (hg : X.A.guards = some []) (hu : X.A.units + 100 < cLine) : CallR X (.builtin "repr") (rRep X.K) := by
  intro pins s σ H xs
  intro us Q I r h
  rcases h with h | h | h
  · exact SkE.call_repr_int pins s σ H xs us Q I r h
  · exact call_reprN pins s σ H xs us Q I r h
  · exact call_reprD hg hu pins s σ H xs us Q I r h
end
/-! ### defs that ask for an outermost repr -/
structure FnGd (P : Program) (w : World) (K : PySem.W.Frag) (mg : Str → Option Value) (base : Heap) (k : Nat) (f : Addr) (fd : FuncData) (ps : List Str) (sp : Sp) : Prop where
  len : (∀ vs H Q E, sp vs H Q E → vs.length = ps.length)
  run : ∀ (A : Around) (outer : List Env) (s : Shared) (H : Hp) (args : Args) (us : List Value) (vs : List V) (Q : VK), A.guards = some [] → Room k A → Env0 P w K mg base A outer s H → BindsTo s fd args (ps.zip us) → Vals vs us → sp vs H Q E0 →
    codeAny (model P w) A (.call (.ref f) args) (CR CX0 outer P w H s Q E0) s
def HasG (P : Program) (w : World) (K : PySem.W.Frag) (mg : Str → Option Value) (base : Heap) (k : Nat) (x : Str) (ps : List Str) (sp : Sp) : Prop :=
  ∃ (f : Addr) (fd : FuncData), mg x = some (.ref f) ∧ PySem.W.keepIn K (.ref f) = true ∧ FnGd P w K mg base k f fd ps sp ∧ Binds K fd ps []
section
variable {X : Cx} {k : Nat} {x : Str} {ps : List Str} {sp : Sp} {p pos : Pos} {e : Expr} {es : List Expr} {t : TA}
theorem pe_fnG (G : HasG X.prog X.w X.K X.mg X.base k x ps sp) (hgd : X.A.guards = some []) (hr : Room k X.A) (ha : PA X (e :: es) t) (hg : Gl X x := by rfl) (hdb : (x == ("__debug__" : Str)) = false := by decide)
    (he : starEach (e :: es) X.env = (false, eval e X.env) :: starEach es X.env := by rfl)
    (hpl : (backTo pos (starEach es X.env)).any (·.1) = false := by rfl) :
    PE X (.Call (.Name x p) (e :: es) [] pos) (tCall sp [] E0 t) := by
  obtain ⟨f, fd, hm, hk, F, hb⟩ := G
  refine ⟨fun pins s σ H Q I h => wpAny_Call_Name_kw (ld_glob I hg hm ?_ hdb)⟩
  refine PySem.W.callWith_K (h₀ := X.base) I.ok.mod.kin hk (thn (ha.run pos pins s σ H _ I h) fun us s1 hh => ?_) he hpl
  obtain ⟨vs, H1, I1, r, q⟩ := hh
  refine ⟨I1.kIn, ?_⟩
  rw [List.append_nil] at q
  have hl : us.length = ps.length := by rw [← r.length]; exact F.len _ _ _ _ q
  have b := hb s1 us I1.kIn (by rw [List.append_nil]; exact hl)
  rw [List.append_nil] at b
  refine wpAny_call (codeAny_mono (F.run X.A X.stack s1 H1 ⟨us, []⟩ us vs Q hgd hr I1.env0 b r q) fun r s' hq => ?_)
  cases r with
  | error e => exact False.elim (show False from hq)
  | ok fl =>
    cases fl with
    | ret u => exact I1.after hq
    | _ => exact False.elim hq
end
section
variable {w : World} {P : Program} {K : PySem.W.Frag} {base : Heap} {mg : Str → Option Value}
theorem Txt.hasG {x : Str} {st : Stmt} {N ps : List Str} {k : Nat} {sp : Sp} (T : Txt K mg) (i : Nat) (hm : dfs[i]? = some (mkD x st)) (hx : x ∈ gls ++ cls) (S : FnScope N ps (defScope st)) (len : ∀ vs H Q E, sp vs H Q E → vs.length = ps.length)
    (hb : ∀ (kV doc pm : Value) (an : Option Addr) (cdv ct : Value) (us : List Value), us.length = ps.length → bindArgs (PySem.W.fnOf x x (defArgs st) (defBody st) (defScope st) .none kV doc pm an cdv ct) ⟨us, []⟩ = pure (ps.zip us))
    (hbody : ∀ (f : Addr) (cdv : Value) (A : Around) (outer : List Env) (s : Shared) (H : Hp) (vs : List V) (Q : VK), A.guards = some [] → Room k (A.deeper (envOfC x (defScope st) s.heap.objs.size f cdv)) → sp vs H Q E0 →
      ∃ t, PSs (cxOf CX0 P w K mg base N x (defScope st) f cdv A outer s H E0) (defBody st) t ∧ t { nx := fun _ H' => Q .non H', rt := Q } (start N vs) H) : HasG P w K mg base (k + 1) x ps sp := by
  obtain ⟨fd, F⟩ := T.df _ (List.mem_of_getElem? hm)
  have B := FunD.bindsN F hb
  refine ⟨_, fd, T.gl x hx, F.kp, ⟨len, fun A outer s H args us vs Q hg hr e0 b r h => ?_⟩, B⟩
  obtain ⟨oc, od, dV, kV, doc, pm, an, cdv, ct, osl, rfl, lk, hcd, _, _⟩ := (F.ex)
  exact LamX.run_ofS lk hcd S hr e0 b r (len _ _ _ _ h) fun hr' => hbody _ cdv A outer s H vs Q hg hr' h
end
end K15
namespace K15
open L2 PySem PySem.Spec PyProof.Rows
/-! ### an error that a suite holds, and the defs that are handed it -/
/-- p's object is a NoMachine with the dict d -/
def QPin (K : PySem.W.Frag) (p : Addr × Obj) (d : Addr) : Prop := Zc (.ref (CNm K)) (some d) p.2 ∧ ∃ vs, p.2.data = .fields vs
structure FnQ (P : Program) (w : World) (K : PySem.W.Frag) (mg : Str → Option Value) (base : Heap) (k : Nat) (f : Addr) (fd : FuncData) (ps : List Str) (sp : Addr → Addr → Sp) : Prop where
  len : ∀ a d vs H Q E, sp a d vs H Q E → vs.length = ps.length
  run : ∀ (A : Around) (outer : List Env) (s : Shared) (H : Hp) (args : Args) (us : List Value) (vs : List V) (Q : VK) (p : Addr × Obj) (d : Addr), A.guards = some [] → L2H.RoomH k A → L2H.PinOk outer H s p → QPin K p d → Env0 P w K mg base A outer s H →
    BindsTo s fd args (ps.zip us) → Vals vs us → sp p.1 d vs H Q E0 → codeAny (model P w) A (.call (.ref f) args) (CR CX0 outer P w H s Q E0) s
def HasQ (P : Program) (w : World) (K : PySem.W.Frag) (mg : Str → Option Value) (base : Heap) (k : Nat) (x : Str) (ps : List Str) (sp : Addr → Addr → Sp) : Prop :=
  ∃ (f : Addr) (fd : FuncData), mg x = some (.ref f) ∧ PySem.W.keepIn K (.ref f) = true ∧ FnQ P w K mg base k f fd ps sp ∧ Binds K fd ps []
section
variable {w : World} {P : Program} {K : PySem.W.Frag} {base : Heap} {mg : Str → Option Value}
theorem Txt.hasQ {x : Str} {st : Stmt} {N ps : List Str} {k : Nat} {sp : Addr → Addr → Sp} (T : Txt K mg) (i : Nat) (hm : dfs[i]? = some (mkD x st)) (hx : x ∈ gls ++ cls) (S : FnScope N ps (defScope st)) (len : ∀ a d vs H Q E, sp a d vs H Q E → vs.length = ps.length)
    (hb : ∀ (kV doc pm : Value) (an : Option Addr) (cdv ct : Value) (us : List Value), us.length = ps.length → bindArgs (PySem.W.fnOf x x (defArgs st) (defBody st) (defScope st) .none kV doc pm an cdv ct) ⟨us, []⟩ = pure (ps.zip us))
    (hbody : ∀ (f : Addr) (cdv : Value) (A : Around) (outer : List Env) (s : Shared) (H : Hp) (vs : List V) (Q : VK) (p : Addr × Obj) (d : Addr), A.guards = some [] → L2H.RoomH k (A.deeper (envOfC x (defScope st) s.heap.objs.size f cdv)) → QPin K p d → sp p.1 d vs H Q E0 →
      ∃ t, PSs (L2H.cxH CX0 P w K mg base N x (defScope st) f cdv A outer s H E0 p) (defBody st) t ∧ t { nx := fun _ H' => Q .non H', rt := Q } (start N vs) H) : HasQ P w K mg base (k + 1) x ps sp := by
  obtain ⟨fd, F⟩ := T.df _ (List.mem_of_getElem? hm)
  have B := FunD.bindsN F hb
  refine ⟨_, fd, T.gl x hx, F.kp, ⟨len, fun A outer s H args us vs Q p d hg hroom hpin hq e0 hbt r hsp => ?_⟩, B⟩
  obtain ⟨oc, od, dV, kV, doc, pm, an, cdv, ct, osl, rfl, lk, hcd, _, _⟩ := (F.ex)
  have hl := len _ _ _ _ _ _ hsp
  have keep0 : ∀ b o, base.get? b = some o → s.heap.get? b = some o := fun b o e => (e0.bs b o e).1
  have kin := e0.mod.kin.keeps keep0
  have kind : ∀ y ∈ ps.zip us, (defScope st).names.lookup y.1 = some .local ∨ ((defScope st).names.lookup y.1 = some .cell ∧ ((cellsFrom (s.heap.objs.size + 1) (defScope st).names []).lookup y.1).isSome = true) := by
    rintro ⟨n, v⟩ hy
    refine (S.par n (List.of_mem_zip hy).1).imp id fun c => ⟨c, PySem.W.cellsFrom_some _ _ _ (.inl c)⟩
  refine codeAny_call_function hroom.depth (kin _ _ lk) rfl S.co S.gen rfl (PySem.W.codeRec_of kin hcd) (hbt _ _ _ _ (wpAny_newFunctionEnv_cells S.kind kind fun env he s1 x1 => ?_))
  subst he
  obtain ⟨t, ht, hq2⟩ := hbody _ cdv A outer s H vs Q p d hg (hroom.deeper _) hq hsp
  refine ⟨(e0.mod.nolimit.keeps keep0).keeps x1.toInCall.keep, codeAny_func ?_⟩
  refine wpAny_mono (ht.run [] s1 (L2.start N vs) H _ (L2H.inv_startH S hpin e0 hl r x1) hq2) (fun fl s' hs => ?_) fun e s' hs => hs
  cases fl with
  | ret u =>
    obtain ⟨v, _, H', J, rv, q⟩ := hs
    exact ⟨v, H', J.os, J.bare, J.base, J.hok, rv, q⟩
  | next =>
    obtain ⟨_, H', J, q⟩ := hs
    exact ⟨.non, H', J.os, J.bare, J.base, J.hok, rfl, q⟩
  | _ =>
    obtain ⟨_, _, _, q⟩ := hs
    exact q.elim
end
section
variable {X : Cx} {k : Nat} {x n : Str} {ps : List Str} {sp : Addr → Addr → Sp} {p pos : Pos} {e : Expr} {es : List Expr} {t : TA} {te : TE} {pp : Addr × Obj} {d : Addr}
theorem pe_fnQ (G : HasQ X.prog X.w X.K X.mg X.base k x ps sp) (hgd : X.A.guards = some []) (hr : L2H.RoomH k X.A) (hp : pp ∈ X.pn) (hq : QPin X.K pp d) (ha : PA X (e :: es) t) (hg : Gl X x := by rfl) (hdb : (x == ("__debug__" : Str)) = false := by decide)
    (he : starEach (e :: es) X.env = (false, eval e X.env) :: starEach es X.env := by rfl)
    (hpl : (backTo pos (starEach es X.env)).any (·.1) = false := by rfl) :
    PE X (.Call (.Name x p) (e :: es) [] pos) (tCall (sp pp.1 d) [] E0 t) := by
  obtain ⟨f, fd, hm, hk, F, hb⟩ := G
  refine ⟨fun pins s σ H Q I h => wpAny_Call_Name_kw (ld_glob I hg hm ?_ hdb)⟩
  refine PySem.W.callWith_K (h₀ := X.base) I.ok.mod.kin hk (thn (ha.run pos pins s σ H _ I h) fun us s1 hh => ?_) he hpl
  obtain ⟨vs, H1, I1, r, q⟩ := hh
  refine ⟨I1.kIn, ?_⟩
  rw [List.append_nil] at q
  have hl : us.length = ps.length := by rw [← r.length]; exact F.len _ _ _ _ _ _ q
  have b := hb s1 us I1.kIn (by rw [List.append_nil]; exact hl)
  rw [List.append_nil] at b
  obtain ⟨z1, z2, z3, z4, z5⟩ := I1.pin pp (List.mem_append_left _ hp)
  have pin : L2H.PinOk X.stack H1 s1 pp := { get := z1, free := z2, nofs := fun hm => (List.mem_cons.mp (I1.stkSub pp.1 hm)).elim z3 z4, nocell := z5 }
  refine wpAny_call (codeAny_mono (F.run X.A X.stack s1 H1 ⟨us, []⟩ us vs Q pp d hgd hr pin hq I1.env0 b r q) fun r s' hq => ?_)
  cases r with
  | error e => exact False.elim (show False from hq)
  | ok fl =>
    cases fl with
    | ret u => exact I1.after hq
    | _ => exact False.elim hq
/-- isinstance(e, C) -/
def rIsQ (K : PySem.W.Frag) (a d : Addr) : List V → Hp → VK → Prop := fun xs H Q => ∃ (c : V) (cv : Value) (b : Bool) (fs : List (Str × V)), xs = [.ref a, c] ∧ (∀ u, RelV c u → u = cv) ∧ H d = some (.xd fs) ∧ PySem.W.kitOne K (.ref (CNm K)) cv = some b ∧ Q (.bl b) H
theorem inst_at {pins : List (Addr × Obj)} {σ : L2.St} {H : Hp} {s : Shared} {fs : List (Str × V)} (I : Inv X pins σ H s) (hp : pp ∈ X.pn) (hq : QPin X.K pp d) (hd : H d = some (.xd fs)) :
    ∃ (od : Obj) (mA : Str → Option Value), PySem.W.InstAt s.heap pp.1 pp.2 (CNm X.K) (some od) ∧ (∀ name, PySem.W.lookIn name od = some (mA name)) ∧ ∀ f, RelO (fs.lookup f) (mA f) := by
  obtain ⟨ha, _⟩ := I.pin pp (List.mem_append_left _ hp)
  obtain ⟨hz, vs, hv⟩ := hq
  obtain ⟨mA, hns, hr⟩ := (show ObjOk X.prog X.w H s.heap d (.xd fs) from I.hok d _ hd)
  obtain ⟨od, ho, hl⟩ := (lookIn_ns hns)
  refine ⟨od, mA, ⟨ha, hz.1, ?_, by rw [hz.2]; exact ho⟩, hl, hr⟩
  unfold PySem.W.notCls
  rw [hv]
theorem call_isQ (T : NmT X.K (CNm X.K)) (hp : pp ∈ X.pn) (hq : QPin X.K pp d) : CallR X (.builtin "isinstance") (rIsQ X.K pp.1 d) := by
  intro pins s σ H xs
  intro us Q I r h
  obtain ⟨c, cv, b, fs, rfl, hcv, hd, e, q⟩ := h
  obtain ⟨od, mA, J, _, _⟩ := inst_at I hp hq hd
  cases r with
  | cons rx rr =>
    cases rr with
    | cons rt rr =>
      cases rr
      cases rx
      have ec := hcv _ rt
      subst ec
      obtain ⟨cd, hcd, _⟩ := PySem.W.any_some T.hd
      have hcl : (PySem.W.clsIn X.K (CNm X.K)).isSome = true := by rw [hcd]; rfl
      exact PySem.W.kia_one (PySem.W.kitx_exc hcl T.ga T.gg T.exC T.cl T.sp T.tk T.mo) I.kIn J e (fun z => nomatch z) fun tk => ⟨.bl b, H, I.kept (t' := tk) fun _ _ z => z, rfl, q⟩
/-- e.f -/
def tFldQ (a d : Addr) (f : Str) (te : TE) : TE := fun σ H Q => te σ H fun x H1 => x = .ref a ∧ ∃ (fs : List (Str × V)) (v : V), H1 d = some (.xd fs) ∧ fs.lookup f = some v ∧ Q v H1
theorem pe_fldQ (T : NmT X.K (CNm X.K)) (hno : PySem.W.findIn X.K (.ref (CNm X.K)) n = some none) (hp : pp ∈ X.pn) (hq : QPin X.K pp d) (he : PE X e te) (hb : attributeBase e n X.env (eval e X.env) = eval e X.env := by rfl) : PE X (.Attribute e n pos) (tFldQ pp.1 d n te) := by
  refine ⟨fun pins s σ H Q I h => attr_of hb (thn (he.run pins s σ H _ I h) fun u s1 hh => ?_)⟩
  obtain ⟨x, H1, I1, rx, ex, fs, v, hd, hl, q⟩ := hh
  subst ex
  obtain rfl : u = Value.ref pp.1 := rx
  obtain ⟨od, mA, J, h1, h2⟩ := inst_at I1 hp hq hd
  obtain ⟨u, hu, ru⟩ := RelO.some_of (v := v) (o := mA n) (by rw [← hl]; exact h2 n)
  exact HandSPX.exc_get I1.kIn J T.ga T.gg T.exC (PySem.W.findObj_own T.hd hno rfl (by rw [h1, hu])) (handed_of ru) ⟨v, H1, I1.tok _, ru, q⟩
end
/-! ### list.count of truths -/
section
variable {X : Cx}
def rCntB (K : PySem.W.Frag) : V → List V → Hp → VK → Prop := fun x xs H Q => ∃ (p : Addr) (bs : List Bool) (k : Bool), x = .ref p ∧ xs = [.bl k] ∧ H p = some (.lst (bs.map V.bl)) ∧ Q (.int (PySem.Spec.countIn (.bool k) (bs.map PyData.bool))) H
theorem dp_bools (K : PySem.W.Frag) (H : Hp) : ∀ bs : List Bool, DpAll K H (bs.map V.bl) (bs.map PyData.bool)
  | [] => .nil
  | b :: r => .cons (.bl b) (dp_bools K H r)
theorem all_bools : ∀ bs : List Bool, (bs.map PyData.bool).all Shape.bool.has = true
  | [] => rfl
  | b :: r => by
    rw [List.map_cons, List.all_cons, all_bools r, Bool.and_true]
    rfl
theorem mt_countB : MtR X "list.count" (rCntB X.K) := by
  intro pins s σ H x xs
  intro v us Q I rx rxs h
  obtain ⟨p, bs, k, rfl, rfl, hs, q⟩ := h
  cases rx
  obtain ⟨u, rfl, ru⟩ := (rxs.one)
  obtain rfl : u = Value.bool k := ru
  obtain ⟨its, rv, hl, _⟩ := I.list (.inl (.inl hs))
  obtain ⟨as, h4⟩ := Dp.readsAll I (bs.map PyData.bool) _ its (dp_bools X.K H bs) rv
  exact PyProof.Rows.count_list_bools hl.isList h4 (all_bools bs) ⟨.int _, H, I.tok _, ⟨_, rfl⟩, q⟩
end
end K15
namespace K15
open L2 PySem PySem.Spec PyProof.Rows
/-! ### try: .. except (C1, C2, C3) as e: .., of an error that is one of them -/
theorem flyingZ_keeps {B : Heap} {l : List Env} {a : Addr} {Z : Obj → Prop} {h h' : Heap} (f : HandSPX.FlyingZ B l a Z h) (k : ∀ b o, h.get? b = some o → h'.get? b = some o) : HandSPX.FlyingZ B l a Z h' := by
  obtain ⟨f1, f2, f3, oe, vs, T, oT, ts, g1, g2, g3, g4, g5, g6, g7, g8, g9⟩ := f
  exact ⟨fun b o e => k b o (f1 b o e), f2, f3.of_keeps fun b o e _ => ⟨o, k b o e, rfl⟩, oe, vs, T, oT, ts, k _ _ g1, g2, g3, g4, g5, g6, k _ _ g7, g8, g9⟩
/-- what the clause wishes -/
def w3 (K : PySem.W.Frag) (c1 c2 c3 : Value) (i len : Nat) (ts : Addr → Value → Option Addr → TS) (D : Ends) : WX := fun cls d σ H =>
  PySem.W.exmAny K cls [c1, c2, c3] = some true ∧ (σ.length = len → ∀ a, H a = none → ts a cls d { nx := fun σ' H' => D.nx (σ'.set i none) H', rt := D.rt, bk := fun σ' H' => D.bk (σ'.set i none) H', ct := fun σ' H' => D.ct (σ'.set i none) H' } (σ.set i (some (.ref a))) H)
section
variable {X : Cx} {x1 x2 x3 n : Str} {c1 c2 c3 : Value} {i kk : Nat} {body suite : List Stmt} {b0 : Stmt} {p1 p2 p3 tp pos pos' : Pos} {tbd : WX → TS} {ts : Addr → Value → Option Addr → TS}
theorem ps_try3 (hs : X.stack = X.env :: X.outer) (hf : X.env.frame = some X.env.locals) (hN : X.N.Nodup) (hi : X.N[i]? = some n) (hln : X.env.kindOf n = some .local) (n1 : Names X x1 c1) (n2 : Names X x2 c2) (n3 : Names X x3 c3)
    (hb : ∀ (W : WX) (pn : List (Addr × Obj)) (xe : Value → Shared → Prop), Takes (X.tr pn xe) W → PassesOwn (model X.prog X.w) X.A X.env xe → PSs (X.tr pn xe) body (tbd W))
    (hsu : ∀ (a : Addr) (oe : Obj) (cls : Value) (d : Option Addr) (pn : List (Addr × Obj)), Zc cls d oe → (∃ vs, oe.data = .fields vs) → PSs (X.suite a ((a, oe) :: pn)) (b0 :: suite) (ts a cls d)) :
    PS X (.Try body [.ExceptHandler (some (.Tuple [.Name x1 p1, .Name x2 p2, .Name x3 p3] kk tp)) (some n) (b0 :: suite) pos'] [] [] pos) (fun D σ H => tbd (w3 X.K c1 c2 c3 i X.N.length ts D) D σ H) := by
  refine (⟨fun pins s σ H D I h => ?_⟩)
  have ok := I.ok
  have fr0 : X.A.frames = some (X.env :: X.outer) := ok.frames.trans (congrArg some hs)
  have loc0 : Loc X.env.scope n := .inl hln
  let hds : List ExceptHandler := [.ExceptHandler (some (.Tuple [.Name x1 p1, .Name x2 p2, .Name x3 p3] kk tp)) (some n) (b0 :: suite) pos']
  let xe1 : Value → Shared → Prop := fun e t => wpAny (model X.prog X.w) X.A (noteFrame e X.env) (fun _ t2 => wpAny (model X.prog X.w) X.A (setFlight e none) (fun _ t3 => wpAny (model X.prog X.w) X.A (handleBy e X.env hds) (SP X pins D) X.xe t3) X.xe t2) X.xe t
  have tk : Takes (X.tr (X.pn ++ pins) xe1) (w3 X.K c1 c2 c3 i X.N.length ts D) := by
    rintro u s' ⟨a, B, sI, pins', σ', H', cls, d, rfl, Jq, nb, up, sky, na, os, ag, hx, hw⟩
    have Jn : Inv X pins σ' H' sI := Jq.ofTry ok
    have sky2 : Sky B (X.env :: X.outer) a (Zc cls d) X.env.locals s'.heap := by rw [← hs]; exact sky
    show (wpAny (model X.prog X.w) X.A (noteFrame (.ref a) X.env) _ _ _)
    refine Sky.land Zc.steady fr0 hf sky2 fun g3h fly3 up3 => ?_
    have Jx3 : Inv X pins σ' H' { s' with heap := g3h } := Jn.landed nb fly3.1 (up.trans up3) os ag
    obtain ⟨ob3, dv3, at3, is3, da3⟩ := fly3.there
    have noFr : ∀ {h : Heap} {o : Obj} {vs : Array Value}, h.FunFrames B (X.env :: X.outer) → h.get? a = some o → o.data = .fields vs → a ∉ frs (X.env :: X.outer) := by
      intro h o vs ff e dd hm
      obtain ⟨_, o2, e2, hnf⟩ := ff.mem hm
      rw [e] at e2
      cases e2
      exact hnf _ dd
    have offFr := noFr fly3.2.2.1 at3 da3
    have offL : a ≠ X.env.locals := fun z => offFr (List.mem_filterMap.mpr ⟨X.env, List.mem_cons_self, by rw [hf, z]⟩)
    have offF : a ∉ X.fs := by
      intro hm
      obtain ⟨e, he, q⟩ := (List.mem_filterMap.mp hm)
      exact offFr (List.mem_filterMap.mpr ⟨e, List.mem_cons_of_mem _ he, q⟩)
    refine (wpAny_handleBy_cons (codeAny_handlers_test ?_) (by intro q; cases q))
    have Tx3 := Jx3.suite at3 da3 na offL offF
    have look : ∀ {y : Str} {c : Value} {q : Pos} {Q E : Value → Shared → Prop}, Names X y c → Q c { s' with heap := g3h } → wpAny (model X.prog X.w) (X.A.mark (some (.ref a))) (eval (.Name y q) X.env) Q E { s' with heap := g3h } := by
      rintro y c q Q E ⟨hg, hdbg, hm | ⟨hm, hv, hnn⟩⟩ k
      · exact ld_glob (X := X.suite a ((a, ob3) :: (X.pn ++ pins))) Tx3 hg hm k hdbg
      · exact ld_blt (X := X.suite a ((a, ob3) :: (X.pn ++ pins))) Tx3 hg hm hv k hnn hdbg
    refine wpAny_Tuple (wpAny_items_cons (look n1 (wpAny_items_cons (look n2 (wpAny_items_cons (look n3 (wpAny_items_nil ⟨by show 3 ≤ sizeLine; decide, ?_⟩)))))))
    -- the tuple is laid
    have kp : ∀ q o, g3h.get? q = some o → (g3h.push { cls := .type "tuple", data := .seq [c1, c2, c3].toArray }).get? q = some o := fun _ _ z => Heap.get?_push_of_some _ z
    have up3' : g3h.UpToSlots (g3h.push { cls := .type "tuple", data := .seq [c1, c2, c3].toArray }) := Heap.UpToSlots.of_keeps kp
    have fly3b := flyingZ_keeps fly3 kp
    have LT : PySem.W.Looks (model X.prog X.w) (g3h.push { cls := .type "tuple", data := .seq [c1, c2, c3].toArray }) (typeOf (.ref a)) cls := fun A Q E s k q => wpAny_typeOf_ref (k _ _ (kp _ _ at3)) (by rw [is3.1]; exact q)
    have LM := PySem.W.exm_tup3 (M := model X.prog X.w) (Jx3.kIn.keeps kp) LT (Heap.get?_push_size g3h rfl) hx
    refine LM.here ?_
    refine (codeAny_handlers_suite_as ?_)
    refine HandSPX.lands_againZ fly3b fun g4h fly4 up4 => ?_
    have Jx4 : Inv X pins σ' H' { s' with heap := g4h } := Jn.landed nb fly4.1 (((up.trans up3).trans up3').trans up4) os ag
    obtain ⟨ob4, dv4, at4, is4, da4⟩ := fly4.there
    have Tx4 := Jx4.suite at4 da4 na offL offF
    refine store_ok (X := X.suite a ((a, ob4) :: (X.pn ++ pins))) (v := .ref a) Tx4 hN hi loc0 rfl (fun s5 Tx5 => ?_) (.inr hln)
    refine wpAny_mono ((hsu a ob4 cls d (X.pn ++ pins) is4 ⟨_, da4⟩).run [] s5 _ H' _ Tx5 (hw Jq.len a na)) (fun f s6 ended => ?_) (fun _ _ z => False.elim z)
    have fin : ∀ {τ6 : L2.St} {Hx6 : Hp} {Q : Shared → Prop}, Inv (X.suite a ((a, ob4) :: (X.pn ++ pins))) [] τ6 Hx6 s6 → (∀ s7, Inv X pins (τ6.set i none) Hx6 s7 → Q s7) →
        wpAny (model X.prog X.w) X.A (do bindName X.env n .none; unbindBehindTheSuite X.env n pos') (fun _ s7 => Q s7) X.xe s6 := fun {τ6 Hx6 Q} Sx6 k => gone_ok (Sx6.unsuite ok) hN hi hln k
    cases f with
    | ret u =>
      obtain ⟨v6, τ6, Hx6, Sx6, r6, q6⟩ := ended
      exact fin Sx6 fun s7 Jx7 => ⟨_, _, _, Jx7, r6, q6⟩
    | _ =>
      obtain ⟨τ6, Hx6, Sx6, q6⟩ := ended
      exact fin Sx6 fun s7 Jx7 => ⟨_, _, Jx7, q6⟩
  refine wpAny_Try_except (wpAny_mono ((hb (w3 X.K c1 c2 c3 i X.N.length ts D) (X.pn ++ pins) xe1 tk PassesOwn.looking).run [] s σ H D (I.toTry _) h) (fun f s1 ended => ?_) (fun e s1 he => he))
  cases f with
  | next =>
    obtain ⟨σ', H', Jq, q⟩ := ended
    exact wpAny_execs_nil ⟨σ', H', Jq.ofTry ok, q⟩
  | ret u =>
    obtain ⟨v, σ', H', Jq, r, q⟩ := ended
    exact ⟨v, σ', H', Jq.ofTry ok, r, q⟩
  | _ =>
    obtain ⟨σ', H', Jq, q⟩ := ended
    exact ⟨σ', H', Jq.ofTry ok, q⟩
end
end K15
namespace K15
open L2 PySem PySem.Spec PyProof.Rows
section
variable {w : World} {P : Program} {K : PySem.W.Frag} {base : Heap} {mg : Str → Option Value}
def spClass : Addr → Addr → Sp := fun a d vs H Q _ => ∃ fs, vs = [.ref a] ∧ H d = some (.xd fs) ∧ ∀ H', Same H H' → Q (.str "machine") H'
theorem sc_law_class : FnScope ["_law_e", "_law_marks", "_law_at", "_law_own", "_law_plain", "_law_terms"] ["_law_e"] (defScope s_law_class) := ⟨rfl, rfl, rfl, by decide +kernel, rfl, by decide +kernel, by decide +kernel⟩
theorem NmT.no (T : NmT K (CNm K)) (x : Str) (hx : x ∈ cls := by decide +kernel) (hn : (x == "NoAnswer" || x == "NoMachine") = false := by decide +kernel) : PySem.W.kitOne K (.ref (CNm K)) (.ref (He.ga K x)) = some false := by
  have := T.one x hx
  rw [hn] at this
  exact this
theorem NmT.yes (T : NmT K (CNm K)) (x : Str) (hx : x ∈ cls := by decide +kernel) (hn : (x == "NoAnswer" || x == "NoMachine") = true := by decide +kernel) : PySem.W.kitOne K (.ref (CNm K)) (.ref (He.ga K x)) = some true := by
  have := T.one x hx
  rw [hn] at this
  exact this
theorem has_law_class (T : Txt K mg) : HasQ P w K mg base 1 "_law_class" ["_law_e"] spClass := by
  have N := T.nmT
  have mI : mg "isinstance" = none := T.fr _ (by decide +kernel)
  have mV : mg "ValueError" = none := T.fr _ (by decide +kernel)
  have mL : mg "LookupError" = none := T.fr _ (by decide +kernel)
  have mA : mg "ArithmeticError" = none := T.fr _ (by decide +kernel)
  refine T.hasQ (st := s_law_class) 27 rfl (by decide +kernel) sc_law_class (fun a d vs H Q E h => ?_) (fun _ _ _ _ _ _ us hl => match us, hl with | [_], _ => rfl) (fun f cdv A outer s H vs Q p d hg hr hq h => ?_)
  · obtain ⟨fs, rfl, _⟩ := h
    rfl
  · obtain ⟨fs, rfl, hd, q⟩ := h
    have hp : p ∈ [p] := List.mem_cons_self
    have hu : (A.deeper (envOfC "_law_class" (defScope s_law_class) s.heap.objs.size f cdv)).units + 64 < cLine := by have := hr.un; omega
    refine ⟨_, PSs.nox (pss_cons (ps_set (i := 1) sc_law_class.nd rfl (.inl rfl) (pe_lst (pa_cons (pe_b2 (call_isQ N hp hq) mI (pv 0) (pe_glob (v := .ref (He.ga K "InvalidNumber")) rfl (T.gl "InvalidNumber" (by decide +kernel)) rfl)) (pa_cons (pe_b2 (call_isQ N hp hq) mI (pv 0) (pe_glob (v := .ref (He.ga K "InvalidName")) rfl (T.gl "InvalidName" (by decide +kernel)) rfl)) (pa_cons (pe_b2 (call_isQ N hp hq) mI (pv 0) (pe_glob (v := .ref (He.ga K "InvalidIndex")) rfl (T.gl "InvalidIndex" (by decide +kernel)) rfl)) pa_nil)))))
      (pss_cons (ps_set (i := 1) sc_law_class.nd rfl (.inl rfl) (pe_op op_cat (pv 1) (pe_lst (pa_cons (pe_b2 (call_isQ N hp hq) mI (pv 0) (pe_glob (v := .ref (He.ga K "InvalidFact")) rfl (T.gl "InvalidFact" (by decide +kernel)) rfl)) (pa_cons (pe_b2 (call_isQ N hp hq) mI (pv 0) (pe_glob (v := .ref (He.ga K "InvalidPromise")) rfl (T.gl "InvalidPromise" (by decide +kernel)) rfl)) (pa_cons (pe_b2 (call_isQ N hp hq) mI (pv 0) (pe_glob (v := .ref (He.ga K "InvalidCommand")) rfl (T.gl "InvalidCommand" (by decide +kernel)) rfl)) pa_nil))))))
      (pss_cons (ps_set (i := 1) sc_law_class.nd rfl (.inl rfl) (pe_op op_cat (pv 1) (pe_lst (pa_cons (pe_b2 (call_isQ N hp hq) mI (pv 0) (pe_glob (v := .ref (He.ga K "InvalidFacts")) rfl (T.gl "InvalidFacts" (by decide +kernel)) rfl)) (pa_cons (pe_b2 (call_isQ N hp hq) mI (pv 0) (pe_glob (v := .ref (He.ga K "InvalidPlaces")) rfl (T.gl "InvalidPlaces" (by decide +kernel)) rfl)) (pa_cons (pe_b2 (call_isQ N hp hq) mI (pv 0) (pe_glob (v := .ref (He.ga K "InvalidValues")) rfl (T.gl "InvalidValues" (by decide +kernel)) rfl)) pa_nil))))))
      (pss_cons (ps_set (i := 1) sc_law_class.nd rfl (.inl rfl) (pe_op op_cat (pv 1) (pe_lst (pa_cons (pe_b2 (call_isQ N hp hq) mI (pv 0) (pe_glob (v := .ref (He.ga K "InvalidFactors")) rfl (T.gl "InvalidFactors" (by decide +kernel)) rfl)) (pa_cons (pe_b2 (call_isQ N hp hq) mI (pv 0) (pe_glob (v := .ref (He.ga K "InvalidPoints")) rfl (T.gl "InvalidPoints" (by decide +kernel)) rfl)) (pa_cons (pe_b2 (call_isQ N hp hq) mI (pv 0) (pe_glob (v := .ref (He.ga K "InvalidOffers")) rfl (T.gl "InvalidOffers" (by decide +kernel)) rfl)) pa_nil))))))
      (pss_cons (ps_set (i := 1) sc_law_class.nd rfl (.inl rfl) (pe_op op_cat (pv 1) (pe_lst (pa_cons (pe_b2 (call_isQ N hp hq) mI (pv 0) (pe_glob (v := .ref (He.ga K "UnknownName")) rfl (T.gl "UnknownName" (by decide +kernel)) rfl)) (pa_cons (pe_b2 (call_isQ N hp hq) mI (pv 0) (pe_glob (v := .ref (He.ga K "InUse")) rfl (T.gl "InUse" (by decide +kernel)) rfl)) (pa_cons (pe_b2 (call_isQ N hp hq) mI (pv 0) (pe_glob (v := .ref (He.ga K "NoMachine")) rfl (T.gl "NoMachine" (by decide +kernel)) rfl)) pa_nil))))))
      (pss_cons (ps_set (i := 1) sc_law_class.nd rfl (.inl rfl) (pe_op op_cat (pv 1) (pe_lst (pa_cons (pe_b2 (call_isQ N hp hq) mI (pv 0) (pe_glob (v := .ref (He.ga K "TooMany")) rfl (T.gl "TooMany" (by decide +kernel)) rfl)) (pa_cons (pe_b2 (call_isQ N hp hq) mI (pv 0) (pe_glob (v := .ref (He.ga K "NothingToUndo")) rfl (T.gl "NothingToUndo" (by decide +kernel)) rfl)) (pa_cons (pe_b2 (call_isQ N hp hq) mI (pv 0) (pe_glob (v := .ref (He.ga K "Broken")) rfl (T.gl "Broken" (by decide +kernel)) rfl)) pa_nil))))))
      (pss_cons (ps_if (pt_cmp (pc_neI (pe_bm PySem.F.plainAttrs_list PySem.F.slot_list_count PySem.F.type_list_count mt_countB (pv 1) (pa_cons pe_bl pa_nil)) pe_int)) pss_never pss_nil)
      (pss_cons (ps_set (i := 2) sc_law_class.nd rfl (.inl rfl) (pe_bm PySem.F.plainAttrs_list PySem.F.slot_list_index PySem.F.type_list_index mt_index (pv 1) (pa_cons pe_bl pa_nil)))
      (pss_cons (ps_set (i := 3) sc_law_class.nd rfl (.inl rfl) (pe_lst (pa_cons (pe_b2 (call_isQ N hp hq) mI (pv 0) (pe_glob (v := .ref (He.ga K "WrongValue")) rfl (T.gl "WrongValue" (by decide +kernel)) rfl)) (pa_cons (pe_b2 (call_isQ N hp hq) mI (pv 0) (pe_glob (v := .ref (He.ga K "WrongName")) rfl (T.gl "WrongName" (by decide +kernel)) rfl)) (pa_cons (pe_b2 (call_isQ N hp hq) mI (pv 0) (pe_glob (v := .ref (He.ga K "NoAnswer")) rfl (T.gl "NoAnswer" (by decide +kernel)) rfl)) pa_nil)))))
      (pss_cons (ps_set (i := 4) sc_law_class.nd rfl (.inl rfl) (pe_lst (pa_cons (pe_b2 (call_isQ N hp hq) mI (pv 0) (pe_bltn (v := .ty "ValueError") (by rfl) mV (by decide +kernel) rfl)) (pa_cons (pe_b2 (call_isQ N hp hq) mI (pv 0) (pe_bltn (v := .ty "LookupError") (by rfl) mL (by decide +kernel) rfl)) (pa_cons (pe_b2 (call_isQ N hp hq) mI (pv 0) (pe_bltn (v := .ty "ArithmeticError") (by rfl) mA (by decide +kernel) rfl)) pa_nil)))))
      (pss_cons (ps_if (PW.pt (pw_or (pt_cmpR (op_neD hu) (pv 3) (pe_lst (pa_cons (pe_cmp (pc_lt (pv 2) pe_int)) (pa_cons (pe_chain op_lt op_lt pe_int (pv 2) pe_int) (pa_cons (pe_cmp (pc_gt (pv 2) pe_int)) pa_nil)))) (nomark _)) (pw_or1 (pt_cmpR (op_neD hu) (pv 4) (pv 3) (nomark _))))) pss_never pss_nil)
      (pss_cons (ps_set (i := 5) sc_law_class.nd rfl (.inl rfl) (pe_lst (pa_cons pe_str (pa_cons pe_str (pa_cons pe_str (pa_cons pe_str (pa_cons pe_str (pa_cons pe_str (pa_cons pe_str (pa_cons pe_str (pa_cons pe_str (pa_cons pe_str pa_nil))))))))))))
      (pss_one (ps_ret (pe_ix ix_list (pe_op op_cat (pv 5) (pe_lst (pa_cons pe_str (pa_cons pe_str (pa_cons pe_str (pa_cons pe_str (pa_cons pe_str (pa_cons pe_str (pa_cons pe_str (pa_cons pe_str pa_nil)))))))))) (pv 2) (fun _ _ => rfl)))))))))))))))), ?_⟩
    refine ⟨_, rfl, _, _, false, _, rfl, fun u r => r, hd, N.no "InvalidNumber", ?_⟩
    refine ⟨_, rfl, _, _, false, _, rfl, fun u r => r, hd, N.no "InvalidName", ?_⟩
    refine ⟨_, rfl, _, _, false, _, rfl, fun u r => r, hd, N.no "InvalidIndex", ?_⟩
    refine ⟨by show 3 ≤ sizeLine; decide, fun l1 n1 => ?_⟩
    have s1 := same_upd (o := .lst [V.bl false, V.bl false, V.bl false]) n1
    have hd1 := s1 _ _ hd
    have S1 := s1
    have hm1 := upd_same (H := H) (a := l1) (o := .lst [V.bl false, V.bl false, V.bl false])
    generalize upd H l1 (.lst [V.bl false, V.bl false, V.bl false]) = H1 at s1 hd1 S1 hm1 ⊢
    refine ⟨_, rfl, ?_⟩
    refine ⟨_, rfl, _, _, false, _, rfl, fun u r => r, hd1, N.no "InvalidFact", ?_⟩
    refine ⟨_, rfl, _, _, false, _, rfl, fun u r => r, hd1, N.no "InvalidPromise", ?_⟩
    refine ⟨_, rfl, _, _, false, _, rfl, fun u r => r, hd1, N.no "InvalidCommand", ?_⟩
    refine ⟨by show 3 ≤ sizeLine; decide, fun l2 n2 => ?_⟩
    have s2 := same_upd (o := .lst [V.bl false, V.bl false, V.bl false]) n2
    have hd2 := s2 _ _ hd1
    have S2 := S1.trans s2
    have hm2 := upd_same (H := H1) (a := l2) (o := .lst [V.bl false, V.bl false, V.bl false])
    generalize upd H1 l2 (.lst [V.bl false, V.bl false, V.bl false]) = H2 at s2 hd2 S2 hm2 ⊢
    refine ⟨_, _, _, _, rfl, rfl, s2 _ _ hm1, hm2, by show 6 ≤ sizeLine; decide, fun l3 n3 => ?_⟩
    have s3 := same_upd (o := .lst ([V.bl false, V.bl false, V.bl false] ++ [V.bl false, V.bl false, V.bl false])) n3
    have hd3 := s3 _ _ hd2
    have S3 := S2.trans s3
    have hm3 := upd_same (H := H2) (a := l3) (o := .lst ([V.bl false, V.bl false, V.bl false] ++ [V.bl false, V.bl false, V.bl false]))
    generalize upd H2 l3 (.lst ([V.bl false, V.bl false, V.bl false] ++ [V.bl false, V.bl false, V.bl false])) = H3 at s3 hd3 S3 hm3 ⊢
    refine ⟨_, rfl, ?_⟩
    refine ⟨_, rfl, _, _, false, _, rfl, fun u r => r, hd3, N.no "InvalidFacts", ?_⟩
    refine ⟨_, rfl, _, _, false, _, rfl, fun u r => r, hd3, N.no "InvalidPlaces", ?_⟩
    refine ⟨_, rfl, _, _, false, _, rfl, fun u r => r, hd3, N.no "InvalidValues", ?_⟩
    refine ⟨by show 3 ≤ sizeLine; decide, fun l4 n4 => ?_⟩
    have s4 := same_upd (o := .lst [V.bl false, V.bl false, V.bl false]) n4
    have hd4 := s4 _ _ hd3
    have S4 := S3.trans s4
    have hm4 := upd_same (H := H3) (a := l4) (o := .lst [V.bl false, V.bl false, V.bl false])
    generalize upd H3 l4 (.lst [V.bl false, V.bl false, V.bl false]) = H4 at s4 hd4 S4 hm4 ⊢
    refine ⟨_, _, _, _, rfl, rfl, s4 _ _ hm3, hm4, by show 9 ≤ sizeLine; decide, fun l5 n5 => ?_⟩
    have s5 := same_upd (o := .lst (([V.bl false, V.bl false, V.bl false] ++ [V.bl false, V.bl false, V.bl false]) ++ [V.bl false, V.bl false, V.bl false])) n5
    have hd5 := s5 _ _ hd4
    have S5 := S4.trans s5
    have hm5 := upd_same (H := H4) (a := l5) (o := .lst (([V.bl false, V.bl false, V.bl false] ++ [V.bl false, V.bl false, V.bl false]) ++ [V.bl false, V.bl false, V.bl false]))
    generalize upd H4 l5 (.lst (([V.bl false, V.bl false, V.bl false] ++ [V.bl false, V.bl false, V.bl false]) ++ [V.bl false, V.bl false, V.bl false])) = H5 at s5 hd5 S5 hm5 ⊢
    refine ⟨_, rfl, ?_⟩
    refine ⟨_, rfl, _, _, false, _, rfl, fun u r => r, hd5, N.no "InvalidFactors", ?_⟩
    refine ⟨_, rfl, _, _, false, _, rfl, fun u r => r, hd5, N.no "InvalidPoints", ?_⟩
    refine ⟨_, rfl, _, _, false, _, rfl, fun u r => r, hd5, N.no "InvalidOffers", ?_⟩
    refine ⟨by show 3 ≤ sizeLine; decide, fun l6 n6 => ?_⟩
    have s6 := same_upd (o := .lst [V.bl false, V.bl false, V.bl false]) n6
    have hd6 := s6 _ _ hd5
    have S6 := S5.trans s6
    have hm6 := upd_same (H := H5) (a := l6) (o := .lst [V.bl false, V.bl false, V.bl false])
    generalize upd H5 l6 (.lst [V.bl false, V.bl false, V.bl false]) = H6 at s6 hd6 S6 hm6 ⊢
    refine ⟨_, _, _, _, rfl, rfl, s6 _ _ hm5, hm6, by show 12 ≤ sizeLine; decide, fun l7 n7 => ?_⟩
    have s7 := same_upd (o := .lst ((([V.bl false, V.bl false, V.bl false] ++ [V.bl false, V.bl false, V.bl false]) ++ [V.bl false, V.bl false, V.bl false]) ++ [V.bl false, V.bl false, V.bl false])) n7
    have hd7 := s7 _ _ hd6
    have S7 := S6.trans s7
    have hm7 := upd_same (H := H6) (a := l7) (o := .lst ((([V.bl false, V.bl false, V.bl false] ++ [V.bl false, V.bl false, V.bl false]) ++ [V.bl false, V.bl false, V.bl false]) ++ [V.bl false, V.bl false, V.bl false]))
    generalize upd H6 l7 (.lst ((([V.bl false, V.bl false, V.bl false] ++ [V.bl false, V.bl false, V.bl false]) ++ [V.bl false, V.bl false, V.bl false]) ++ [V.bl false, V.bl false, V.bl false])) = H7 at s7 hd7 S7 hm7 ⊢
    refine ⟨_, rfl, ?_⟩
    refine ⟨_, rfl, _, _, false, _, rfl, fun u r => r, hd7, N.no "UnknownName", ?_⟩
    refine ⟨_, rfl, _, _, false, _, rfl, fun u r => r, hd7, N.no "InUse", ?_⟩
    refine ⟨_, rfl, _, _, true, _, rfl, fun u r => r, hd7, N.yes "NoMachine", ?_⟩
    refine ⟨by show 3 ≤ sizeLine; decide, fun l8 n8 => ?_⟩
    have s8 := same_upd (o := .lst [V.bl false, V.bl false, V.bl true]) n8
    have hd8 := s8 _ _ hd7
    have S8 := S7.trans s8
    have hm8 := upd_same (H := H7) (a := l8) (o := .lst [V.bl false, V.bl false, V.bl true])
    generalize upd H7 l8 (.lst [V.bl false, V.bl false, V.bl true]) = H8 at s8 hd8 S8 hm8 ⊢
    refine ⟨_, _, _, _, rfl, rfl, s8 _ _ hm7, hm8, by show 15 ≤ sizeLine; decide, fun l9 n9 => ?_⟩
    have s9 := same_upd (o := .lst (((([V.bl false, V.bl false, V.bl false] ++ [V.bl false, V.bl false, V.bl false]) ++ [V.bl false, V.bl false, V.bl false]) ++ [V.bl false, V.bl false, V.bl false]) ++ [V.bl false, V.bl false, V.bl true])) n9
    have hd9 := s9 _ _ hd8
    have S9 := S8.trans s9
    have hm9 := upd_same (H := H8) (a := l9) (o := .lst (((([V.bl false, V.bl false, V.bl false] ++ [V.bl false, V.bl false, V.bl false]) ++ [V.bl false, V.bl false, V.bl false]) ++ [V.bl false, V.bl false, V.bl false]) ++ [V.bl false, V.bl false, V.bl true]))
    generalize upd H8 l9 (.lst (((([V.bl false, V.bl false, V.bl false] ++ [V.bl false, V.bl false, V.bl false]) ++ [V.bl false, V.bl false, V.bl false]) ++ [V.bl false, V.bl false, V.bl false]) ++ [V.bl false, V.bl false, V.bl true])) = H9 at s9 hd9 S9 hm9 ⊢
    refine ⟨_, rfl, ?_⟩
    refine ⟨_, rfl, _, _, false, _, rfl, fun u r => r, hd9, N.no "TooMany", ?_⟩
    refine ⟨_, rfl, _, _, false, _, rfl, fun u r => r, hd9, N.no "NothingToUndo", ?_⟩
    refine ⟨_, rfl, _, _, false, _, rfl, fun u r => r, hd9, N.no "Broken", ?_⟩
    refine ⟨by show 3 ≤ sizeLine; decide, fun l10 n10 => ?_⟩
    have s10 := same_upd (o := .lst [V.bl false, V.bl false, V.bl false]) n10
    have hd10 := s10 _ _ hd9
    have S10 := S9.trans s10
    have hm10 := upd_same (H := H9) (a := l10) (o := .lst [V.bl false, V.bl false, V.bl false])
    generalize upd H9 l10 (.lst [V.bl false, V.bl false, V.bl false]) = H10 at s10 hd10 S10 hm10 ⊢
    refine ⟨_, _, _, _, rfl, rfl, s10 _ _ hm9, hm10, by show 18 ≤ sizeLine; decide, fun l11 n11 => ?_⟩
    have s11 := same_upd (o := .lst ((((([V.bl false, V.bl false, V.bl false] ++ [V.bl false, V.bl false, V.bl false]) ++ [V.bl false, V.bl false, V.bl false]) ++ [V.bl false, V.bl false, V.bl false]) ++ [V.bl false, V.bl false, V.bl true]) ++ [V.bl false, V.bl false, V.bl false])) n11
    have hd11 := s11 _ _ hd10
    have S11 := S10.trans s11
    have hm11 := upd_same (H := H10) (a := l11) (o := .lst ((((([V.bl false, V.bl false, V.bl false] ++ [V.bl false, V.bl false, V.bl false]) ++ [V.bl false, V.bl false, V.bl false]) ++ [V.bl false, V.bl false, V.bl false]) ++ [V.bl false, V.bl false, V.bl true]) ++ [V.bl false, V.bl false, V.bl false]))
    generalize upd H10 l11 (.lst ((((([V.bl false, V.bl false, V.bl false] ++ [V.bl false, V.bl false, V.bl false]) ++ [V.bl false, V.bl false, V.bl false]) ++ [V.bl false, V.bl false, V.bl false]) ++ [V.bl false, V.bl false, V.bl true]) ++ [V.bl false, V.bl false, V.bl false])) = H11 at s11 hd11 S11 hm11 ⊢
    have hmk : H11 l11 = some (.lst (([false, false, false, false, false, false, false, false, false, false, false, false, false, false, true, false, false, false] : List Bool).map V.bl)) := hm11
    refine ⟨_, rfl, .inl ⟨rfl, _, .inl (.inl hmk)⟩, l11, ([false, false, false, false, false, false, false, false, false, false, false, false, false, false, true, false, false, false] : List Bool), true, rfl, rfl, hmk, _, _, rfl, rfl, _, rfl, ite2 (fun c => absurd c (by decide +kernel)) (fun _ => ?_)⟩
    refine ⟨_, rfl, .inl ⟨rfl, _, .inl (.inl hmk)⟩, l11, ([false, false, false, false, false, false, false, false, false, false, false, false, false, false, true, false, false, false] : List Bool).map V.bl, .bl true, 14, .bl true, rfl, rfl, .inl (.inl hmk), rfl, rfl, rfl, rfl, fun m z hm hz => ?_, ?_⟩
    · have e : ∀ m, m < 14 → ∀ z, (([false, false, false, false, false, false, false, false, false, false, false, false, false, false, true, false, false, false] : List Bool).map V.bl)[m]? = some z → eqV z (.bl true) = false := by
        intro m hm z hz
        match m, hm, hz with
        | 0, _, hz => cases Option.some.inj hz; rfl
        | 1, _, hz => cases Option.some.inj hz; rfl
        | 2, _, hz => cases Option.some.inj hz; rfl
        | 3, _, hz => cases Option.some.inj hz; rfl
        | 4, _, hz => cases Option.some.inj hz; rfl
        | 5, _, hz => cases Option.some.inj hz; rfl
        | 6, _, hz => cases Option.some.inj hz; rfl
        | 7, _, hz => cases Option.some.inj hz; rfl
        | 8, _, hz => cases Option.some.inj hz; rfl
        | 9, _, hz => cases Option.some.inj hz; rfl
        | 10, _, hz => cases Option.some.inj hz; rfl
        | 11, _, hz => cases Option.some.inj hz; rfl
        | 12, _, hz => cases Option.some.inj hz; rfl
        | 13, _, hz => cases Option.some.inj hz; rfl
        | (m + 14), hm, _ => omega
      exact e m hm z hz
    refine ⟨_, rfl, _, _, false, _, rfl, fun u r => r, hd11, N.no "WrongValue", ?_⟩
    refine ⟨_, rfl, _, _, false, _, rfl, fun u r => r, hd11, N.no "WrongName", ?_⟩
    refine ⟨_, rfl, _, _, true, _, rfl, fun u r => r, hd11, N.yes "NoAnswer", ?_⟩
    refine ⟨by show 3 ≤ sizeLine; decide, fun l12 n12 => ?_⟩
    have s12 := same_upd (o := .lst [V.bl false, V.bl false, V.bl true]) n12
    have hd12 := s12 _ _ hd11
    have S12 := S11.trans s12
    have hm12 := upd_same (H := H11) (a := l12) (o := .lst [V.bl false, V.bl false, V.bl true])
    generalize upd H11 l12 (.lst [V.bl false, V.bl false, V.bl true]) = H12 at s12 hd12 S12 hm12 ⊢
    refine ⟨_, rfl, _, _, false, _, rfl, fun u r => r, hd12, N.oV, ?_⟩
    refine ⟨_, rfl, _, _, false, _, rfl, fun u r => r, hd12, N.oL, ?_⟩
    refine ⟨_, rfl, _, _, true, _, rfl, fun u r => r, hd12, N.oA, ?_⟩
    refine ⟨by show 3 ≤ sizeLine; decide, fun l13 n13 => ?_⟩
    have s13 := same_upd (o := .lst [V.bl false, V.bl false, V.bl true]) n13
    have hd13 := s13 _ _ hd12
    have S13 := S12.trans s13
    have hm13 := upd_same (H := H12) (a := l13) (o := .lst [V.bl false, V.bl false, V.bl true])
    generalize upd H12 l13 (.lst [V.bl false, V.bl false, V.bl true]) = H13 at s13 hd13 S13 hm13 ⊢
    have own13 := s13 _ _ hm12
    refine ⟨_, rfl, _, rfl, 14, 12, rfl, rfl, _, rfl, 11, 14, rfl, rfl, _, rfl, ite2 (fun _ => ?_) (fun c => absurd (by decide +kernel) c)⟩
    refine ⟨14, 14, rfl, rfl, _, rfl, 14, 13, rfl, rfl, by show 3 ≤ sizeLine; decide, fun l14 n14 => ?_⟩
    have s14 := same_upd (o := .lst [V.bl (decide ((14 : Int) < 12)), V.bl (decide ((14 : Int) < 14)), V.bl (decide ((13 : Int) < 14))]) n14
    have hm14 := upd_same (H := H13) (a := l14) (o := .lst [V.bl (decide ((14 : Int) < 12)), V.bl (decide ((14 : Int) < 14)), V.bl (decide ((13 : Int) < 14))])
    have S14 := S13.trans s14
    generalize upd H13 l14 (.lst [V.bl (decide ((14 : Int) < 12)), V.bl (decide ((14 : Int) < 14)), V.bl (decide ((13 : Int) < 14))]) = H14 at s14 hm14 S14 ⊢
    refine ⟨_, _, .lst (.inl (.inl (s14 _ _ own13))) (dp_bools K _ [false, false, true]), .lst (.inl (.inl hm14)) (dp_bools K _ [decide ((14 : Int) < 12), decide ((14 : Int) < 14), decide ((13 : Int) < 14)]), by decide +kernel, by decide +kernel,
      _, rfl, ite2 (fun c => absurd c (by decide +kernel)) (fun _ => ?_)⟩
    refine ⟨_, rfl, _, rfl, _, _, .lst (.inl (.inl (s14 _ _ hm13))) (dp_bools K _ [false, false, true]), .lst (.inl (.inl (s14 _ _ own13))) (dp_bools K _ [false, false, true]), by decide +kernel, by decide +kernel,
      _, rfl, ite2 (fun c => absurd c (by decide +kernel)) (fun _ => ?_)⟩
    refine ⟨by show 10 ≤ sizeLine; decide, fun l15 n15 => ?_⟩
    refine ⟨_, rfl, by show 8 ≤ sizeLine; decide, fun l16 n16 => ?_⟩
    refine ⟨_, _, _, _, rfl, rfl, same_upd n16 _ _ upd_same, upd_same, by show 18 ≤ sizeLine; decide, fun l17 n17 => ?_⟩
    refine ⟨_, rfl, l17, _, 14, _, rfl, rfl, .inl (.inl upd_same), atI_nat (j := 14) rfl, ?_⟩
    exact q _ (S14.trans ((same_upd n15).trans ((same_upd n16).trans (same_upd n17))))
end
end K15
namespace K15
open L2 PySem PySem.Spec PyProof.Rows
/-- the text of a pair -/
def pairText (q : Nat × Nat) : Str := (dPair q).shown
theorem pair_size {q : Nat × Nat} (h1 : q.1 < 5) (h2 : q.2 < 5) : (dPair q).shown.length ≤ sizeLine ∧ (dPair q).showable = true := by
  obtain ⟨i, j⟩ := q
  have all : ∀ i, i < 5 → ∀ j, j < 5 → (decide ((dPair (i, j)).shown.length ≤ sizeLine) && (dPair (i, j)).showable) = true := by decide +kernel
  have := all i h1 j h2
  rw [Bool.and_eq_true] at this
  exact ⟨of_decide_eq_true this.1, this.2⟩
section
variable {w : World} {P : Program} {K : PySem.W.Frag} {base : Heap} {mg : Str → Option Value}
def spKept : Addr → Addr → Sp := fun a d vs H Q _ => ∃ (q : Nat × Nat), vs = [.ref a] ∧ q.1 < 5 ∧ q.2 < 5 ∧ H d = some (.xd (nmFs (.int (q.1 : Nat)) (.int (q.2 : Nat)))) ∧
  ∀ (H' : Hp) (p : Addr), Same H H' → H' p = some (.lst [.str "machine", .str (pairText q)]) → Q (.ref p) H'
theorem sc_law_kept : FnScope ["_law_e", "_law_term"] ["_law_e"] (defScope s_law_kept) := ⟨rfl, rfl, rfl, by decide +kernel, rfl, by decide +kernel, by decide +kernel⟩
theorem has_law_kept (T : Txt K mg) : HasQ P w K mg base 2 "_law_kept" ["_law_e"] spKept := by
  have Gc := has_law_class (P := P) (w := w) (base := base) T
  have N := T.nmT
  have mR : mg "repr" = none := T.fr _ (by decide +kernel)
  refine T.hasQ (st := s_law_kept) 28 rfl (by decide +kernel) sc_law_kept (fun a d vs H Q E h => ?_) (fun _ _ _ _ _ _ us hl => match us, hl with | [_], _ => rfl) (fun f cdv A outer s H vs Q p d hg hr hq h => ?_)
  · obtain ⟨q, rfl, _⟩ := h
    rfl
  · obtain ⟨qq, rfl, l1, l2, hd, q⟩ := h
    have hp : p ∈ [p] := List.mem_cons_self
    have hu : (A.deeper (envOfC "_law_kept" (defScope s_law_kept) s.heap.objs.size f cdv)).units + 100 < cLine := by have := hr.un; omega
    have hu65 : (A.deeper (envOfC "_law_kept" (defScope s_law_kept) s.heap.objs.size f cdv)).units + 65 < cLine := by omega
    have hu64 : (A.deeper (envOfC "_law_kept" (defScope s_law_kept) s.heap.objs.size f cdv)).units + 64 < cLine := by omega
    have hgd : (A.deeper (envOfC "_law_kept" (defScope s_law_kept) s.heap.objs.size f cdv)).guards = some [] := hg
    refine ⟨_, PSs.nox (pss_cons (ps_set (i := 1) sc_law_kept.nd rfl (.inl rfl) (pe_fnQ Gc hgd hr hp hq (pa_cons (pv 0) pa_nil)))
      (pss_cons (ps_if (pt_cmpR (op_inD hu65) (pv 1) (pe_lst (pa_cons pe_str (pa_cons pe_str pa_nil))) (by rfl)) pss_never pss_nil)
      (pss_cons (ps_if (pt_cmpR (op_inD hu65) (pv 1) (pe_lst (pa_cons pe_str (pa_cons pe_str (pa_cons pe_str (pa_cons pe_str (pa_cons pe_str (pa_cons pe_str (pa_cons pe_str pa_nil)))))))) (by rfl)) pss_never pss_nil)
      (pss_cons (ps_if (pt_cmpR (op_eqD hu64) (pv 1) pe_str (nomark _)) (pss_one (ps_ret (pe_lst (pa_cons (pv 1) (pa_cons (pe_b1 (call_rep hgd hu) mR (pe_tup (pa_cons (pe_fldQ N N.n1 hp hq (pv 0)) (pa_cons (pe_fldQ N N.n2 hp hq (pv 0)) pa_nil)))) pa_nil))))) pss_nil)
      pss_never)))), ?_⟩
    refine ⟨_, rfl, _, rfl, hd, fun H1 s1 => ?_⟩
    refine ⟨_, rfl, by show 2 ≤ sizeLine; decide, fun l n => ?_⟩
    have s2 := s1.trans (same_upd (o := .lst [.str "odd", .str "undo"]) n)
    refine ⟨.str "machine", [.str "odd", .str "undo"], .str _, .lst (.inl (.inl upd_same)) (.cons (.str _) (.cons (.str _) .nil)), by decide +kernel, by decide +kernel, _, rfl, ite2 (fun c => absurd c (by decide +kernel)) (fun _ => ?_)⟩
    refine ⟨_, rfl, by show 7 ≤ sizeLine; decide, fun l' n' => ?_⟩
    have s3 := s2.trans (same_upd (o := .lst [.str "facts", .str "places", .str "values", .str "factors", .str "points", .str "offers", .str "use"]) n')
    refine ⟨.str "machine", [.str "facts", .str "places", .str "values", .str "factors", .str "points", .str "offers", .str "use"], .str _,
      .lst (.inl (.inl upd_same)) (.cons (.str _) (.cons (.str _) (.cons (.str _) (.cons (.str _) (.cons (.str _) (.cons (.str _) (.cons (.str _) .nil))))))), by decide +kernel, by decide +kernel, _, rfl, ite2 (fun c => absurd c (by decide +kernel)) (fun _ => ?_)⟩
    refine ⟨_, rfl, .str "machine", .str "machine", .str _, .str _, by decide +kernel, by decide +kernel, _, rfl, ite2 (fun _ => ?_) (fun c => absurd (by decide +kernel) c)⟩
    have hd3 := s3 _ _ hd
    refine ⟨_, rfl, _, rfl, rfl, _, _, hd3, rfl, ?_⟩
    refine ⟨_, rfl, rfl, _, _, hd3, rfl, ?_⟩
    refine ⟨by show 2 ≤ sizeLine; decide, fun t nt => ?_⟩
    have s4 := s3.trans (same_upd (o := .tup [.int (qq.1 : Nat), .int (qq.2 : Nat)]) nt)
    refine .inr (.inr ⟨⟨_, dPair qq, rfl, .tup (.inl (.inl upd_same)) (.cons (.int _) (.cons (.int _) .nil)), (pair_size l1 l2).2, rfl, by show 1 ≤ 60; decide, (pair_size l1 l2).1, ?_⟩, _, rfl⟩)
    refine ⟨by show 2 ≤ sizeLine; decide, fun r nr => ?_⟩
    exact q _ r (s4.trans (same_upd nr)) upd_same
end
end K15
namespace K15
open L2 PySem PySem.Spec PyProof.Rows
/-- the text of what first_more hands back -/
inductive MText : V → Str → Prop
  | non : MText .non "None"
  | int (i : Int) (h : i.natAbs.log2 < 1920) : MText (.int i) (toString i)
/-- behind an error: what _law_heard hands back -/
def HeardE (K : PySem.W.Frag) (Q : VK) : XK := fun cl d H => cl = .ref (CNm K) ∧ ∃ (dd : Addr) (q : Nat × Nat), d = some dd ∧ H dd = some (.xd (nmFs (.int (q.1 : Nat)) (.int (q.2 : Nat)))) ∧ q.1 < 5 ∧ q.2 < 5 ∧
  ∀ (H2 : Hp) (p : Addr), Same H H2 → H2 p = some (.lst [.str "machine", .str (pairText q)]) → Q (.ref p) H2
def HeardQ (Q : VK) : VK := fun v H => ∃ txt, MText v txt ∧ ∀ (H2 : Hp) (p : Addr), Same H H2 → H2 p = some (.lst [.str "back", .str txt]) → Q (.ref p) H2
def HeardT (K : PySem.W.Frag) : (XK → Hp → VK → Prop) → Hp → VK → Prop := fun tl H Q => ∀ Qn : VK, (∀ v H', HeardQ Q v H' → Qn v H') → tl (HeardE K Q) H Qn
theorem sc_law_heard : FnScope ["_law_act", "_law_back", "_law_e"] ["_law_act"] (defScope s_law_heard) := ⟨rfl, rfl, rfl, by decide +kernel, rfl, by decide +kernel, by decide +kernel⟩
theorem heard_gives {X : Cx} {k : Nat} {g : Addr} {cdg : Value} {q : Str} (T : Txt X.K X.mg) (hgd : X.A.guards = some []) (hr : Room (k + 3) X.A) :
    LamX.GivesTo X ["_law_act", "_law_back", "_law_e"] "_law_heard" (defScope s_law_heard) g cdg (defBody s_law_heard) "_law_act" q (HeardT X.K) := by
  intro f c' s H Q tl act hc h
  have Gk := has_law_kept (P := X.prog) (w := X.w) (base := X.base) T
  have N := T.nmT
  have mR : X.mg "repr" = none := T.fr _ (by decide +kernel)
  have hr2 : Room (k + 2) (X.A.deeper (envOfC "_law_heard" (defScope s_law_heard) s.heap.objs.size g cdg)) := hr.deeper _
  have hrh : L2H.RoomH 2 (X.A.deeper (envOfC "_law_heard" (defScope s_law_heard) s.heap.objs.size g cdg)) := L2H.roomH_of (hr2.mono (Nat.le_add_left 2 k))
  have hgd2 : (X.A.deeper (envOfC "_law_heard" (defScope s_law_heard) s.heap.objs.size g cdg)).guards = some [] := hgd
  have hu : (X.A.deeper (envOfC "_law_heard" (defScope s_law_heard) s.heap.objs.size g cdg)).units + 100 < cLine := by have := hr2.un; omega
  refine ⟨_, pss_cons (ps_try3 (X := (cxOf C8.CX0 X.prog X.w X.K X.mg X.base ["_law_act", "_law_back", "_law_e"] "_law_heard" (defScope s_law_heard) g cdg X.A X.stack s H C8.E0).nox) (i := 2)
      (c1 := .ref (He.ga X.K "WrongValue")) (c2 := .ref (He.ga X.K "WrongName")) (c3 := .ref (He.ga X.K "NoAnswer"))
      (tbd := fun W D σ H => ∃ Ech : XK, (∀ cls d σ' H', Ech cls d H' → W cls d σ' H') ∧ σ[0]? = some (some (.ref f)) ∧ H c' = some (LamX.CodeO c' q) ∧ tl Ech H (fun v H' => D.nx (σ.set 1 (some v)) H'))
      (ts := fun a cls d D σ H => cls = .ref (CNm X.K) ∧ ∃ dd, d = some dd ∧ tRet (tCall (spKept a dd) [] E0 (tCons (tVar 2) tNil)) D σ H)
      rfl rfl sc_law_heard.nd rfl rfl ⟨rfl, by decide, .inl (T.gl "WrongValue" (by decide +kernel))⟩ ⟨rfl, by decide, .inl (T.gl "WrongName" (by decide +kernel))⟩ ⟨rfl, by decide, .inl (T.gl "NoAnswer" (by decide +kernel))⟩
      (fun W pn xe tk _ => ?_) (fun a oe cls d pn hz hf => ?_))
    (pss_one (ps_ret (pe_lst (pa_cons pe_str (pa_cons (pe_b1 (call_rep hgd2 hu) mR (pv 1)) pa_nil))))), ?_⟩
  · refine (⟨fun pins s' σ H' D I h' => ?_⟩)
    obtain ⟨Ech, hW, h1, h2, h3⟩ := (h')
    refine PSs.run (t := tAsg (fun σZ HZ Q => σZ[0]? = some (some (.ref f)) ∧ HZ c' = some (LamX.CodeO c' q) ∧ tl Ech HZ Q) (gName 1)) ?_ pins s' σ H' D I ⟨h1, h2, h3⟩
    exact pss_one (ps_set (i := 1) sc_law_heard.nd rfl (.inl rfl) (act W pn xe Ech _ _ tk hW))
  · refine (⟨fun pins s' σ H' D I h' => ?_⟩)
    obtain ⟨rfl, dd, rfl, h'⟩ := h'
    refine PSs.run (t := tRet (tCall (spKept a dd) [] E0 (tCons (tVar 2) tNil))) ?_ pins s' σ H' D I h'
    exact pss_one (ps_ret (pe_fnQ (pp := (a, oe)) (d := dd) Gk hgd2 ⟨hrh.dp, hrh.un⟩ List.mem_cons_self ⟨hz, hf⟩ (pa_cons (pv 2) pa_nil)))
  · refine ⟨HeardE X.K Q, fun cl d σ' H' he => ?_, rfl, hc, ?_⟩
    · obtain ⟨rfl, dd, qq, rfl, hd, l1, l2, k2⟩ := he
      refine ⟨N.any, fun hlen a ha => ⟨rfl, dd, rfl, ?_⟩⟩
      refine ⟨_, List.getElem?_set_self (by rw [hlen]; exact (by decide : 2 < 3)), qq, rfl, l1, l2, hd, fun H2 p s2 hp2 => k2 H2 p s2 hp2⟩
    · refine h _ fun v H' hq => ?_
      obtain ⟨txt, hm, k2⟩ := hq
      refine ⟨_, rfl, ?_⟩
      cases hm with
      | non => exact .inr (.inl ⟨rfl, by show 2 ≤ sizeLine; decide, fun p hp => k2 _ p (same_upd hp) upd_same⟩)
      | int i hi => exact .inl ⟨i, rfl, hi, by show 2 ≤ sizeLine; decide, fun p hp => k2 _ p (same_upd hp) upd_same⟩
end K15
namespace K15
open L2 PySem PySem.Spec PyProof.Rows
/-! ### the keg, and what is drawn of it -/
/-- all but g stays -/
def SameB (g : Addr) (H H' : Hp) : Prop := ∀ b o, b ≠ g → H b = some o → H' b = some o
theorem SameB.refl (g : Addr) (H : Hp) : SameB g H H := fun _ _ _ h => h
theorem SameB.trans {g : Addr} {H H1 H2 : Hp} (a : SameB g H H1) (b : SameB g H1 H2) : SameB g H H2 := fun c o n h => b c o n (a c o n h)
theorem sameB_of {g : Addr} {H H' : Hp} (s : Same H H') : SameB g H H' := fun b o _ h => s b o h
theorem sameB_upd {g : Addr} {H : Hp} {o : HO} : SameB g H (upd H g o) := fun b o n h => by rw [upd_ne n]; exact h
def KegAt (H : Hp) (g : Addr) : Prop := ∃ a b c : Int, H g = some (.lst [.int a, .int b, .int c]) ∧ 0 ≤ a ∧ 0 ≤ b ∧ b < 18446744073709551616
theorem KegAt.same {H H' : Hp} {g : Addr} (k : KegAt H g) (s : Same H H') : KegAt H' g := by
  obtain ⟨a, b, c, h, r⟩ := k
  exact ⟨a, b, c, s _ _ h, r⟩
theorem KegAt.ne {H : Hp} {g a : Addr} {o : HO} (k : KegAt H g) (h : H a = some o) (hn : ∀ xs, o ≠ .lst xs) : a ≠ g := fun e => by
  obtain ⟨x, y, z, hk, _⟩ := k
  rw [e, hk] at h
  exact hn _ (Option.some.inj h).symm
theorem SameB.tup {H H' : Hp} {g a : Addr} {xs : List V} (s : SameB g H H') (k : KegAt H g) (h : H a = some (.tup xs)) : H' a = some (.tup xs) := s _ _ (k.ne h fun xs z => by cases z) h
theorem FactsAt.sameB {H H' : Hp} {g a : Addr} {F : List Fact} (h : FactsAt H a F) (s : SameB g H H') (k : KegAt H g) : FactsAt H' a F := by
  obtain ⟨rs, h1, h2, h3⟩ := h
  exact ⟨rs, s.tup k h1, h2, fun i r f e1 e2 => s.tup k (h3 i r f e1 e2)⟩
section
variable {w : World} {P : Program} {K : PySem.W.Frag} {base : Heap} {mg : Str → Option Value}
theorem sc_law_pour : FnScope ["_law_keg_here", "_law_many", "_law_digit", "_law_stirred"] ["_law_keg_here", "_law_many"] (defScope s_law_pour) := ⟨rfl, rfl, rfl, by decide +kernel, rfl, by decide +kernel, by decide +kernel⟩
def spPour : Sp := fun vs H Q _ => ∃ (g : Addr) (many : Int), vs = [.ref g, .int many] ∧ KegAt H g ∧ 0 < many ∧ many.natAbs.log2 < 9000 ∧ ∀ (d : Int) (H' : Hp), 0 ≤ d → d < many → SameB g H H' → KegAt H' g → Q (.int d) H'
theorem has_law_pour (T : Txt K mg) : Has P w K mg base CX0 1 "_law_pour" ["_law_keg_here", "_law_many"] spPour := by
  refine T.has (st := s_law_pour) 22 rfl (by decide +kernel) sc_law_pour (fun vs H Q E h => ?_) (fun _ _ _ _ _ _ us hl => match us, hl with | [_, _], _ => rfl) (fun f cdv A outer s H vs Q E hr h => ?_)
  · obtain ⟨g, m, rfl, _⟩ := h
    rfl
  · obtain ⟨g, many, rfl, ⟨a, b, c, hk, ha, hb, hb2⟩, hm, hml, q⟩ := h
    have mD : mg "divmod" = none := T.fr _ (by decide +kernel)
    have mI : mg "int" = none := T.fr _ (by decide +kernel)
    refine ⟨_, PSs.nox (pss_cons (ps_if (pt_cmp (pc_gt (pe_ix ix_list (pv 0) pe_int (fun _ _ => rfl)) pe_int))
        (pss_cons (ps_asg (pe_b2 call_divmodW mD (pe_ix ix_list (pv 0) pe_int (fun _ _ => rfl)) (pv 1)) (pg_tup rfl (pgs_cons (pg_sub (pv 0) pe_int set_list) (pgs_cons (pg_name (i := 2) sc_law_pour.nd rfl (.inl rfl)) pgs_nil)))) (pss_one (ps_ret (pv 2)))) pss_nil)
      (pss_cons (ps_asg (pe_op op_add (pe_ix ix_list (pv 0) pe_int (fun _ _ => rfl)) pe_int) (pg_sub (pv 0) pe_int set_list))
      (pss_cons (ps_set (i := 3) sc_law_pour.nd rfl (.inl rfl) (pe_op op_add (pe_op op_mulX (pe_ix ix_list (pv 0) pe_int (fun _ _ => rfl)) pe_int) (pe_op op_mul pe_int (pe_ix ix_list (pv 0) pe_int (fun _ _ => rfl)))))
      (pss_cons (ps_asg (pe_op op_mod (pe_t1 call_int1 mI (pv 3)) pe_int) (pg_sub (pv 0) pe_int set_list))
      (pss_one (ps_ret (pe_op op_mod (pe_t1 call_int1 mI (pe_op op_fdiv (pe_ix ix_list (pv 0) pe_int (fun _ _ => rfl)) pe_int)) (pv 1)))))))), ?_⟩
    refine ⟨_, rfl, g, _, 0, _, rfl, rfl, .inl (.inl hk), atI_nat (j := 0) rfl, a, 0, rfl, rfl, _, rfl, ite2 (fun _ => ?_) (fun _ => ?_)⟩
    · refine ⟨_, rfl, g, _, 0, _, rfl, rfl, .inl (.inl hk), atI_nat (j := 0) rfl, _, rfl, a, many, rfl, ⟨hm, PyProof.noPylong_of_log2 hml⟩, fun p hp => ?_⟩
      have s1 := same_upd (o := .tup [.int (a / many), .int (a % many)]) hp
      refine ⟨p, _, rfl, .inl (.inl upd_same), rfl, _, _, rfl, _, rfl, g, _, 0, 0, rfl, rfl, s1 _ _ hk, rfl, _, _, rfl, rfl, ?_⟩
      refine ⟨_, rfl, q _ _ (Int.emod_nonneg _ (by omega)) (Int.emod_lt_of_pos _ hm) ((sameB_of s1).trans sameB_upd) ⟨a / many, b, c, upd_same, Int.ediv_nonneg ha (by omega), hb, hb2⟩⟩
    · refine ⟨_, rfl, g, _, 2, _, rfl, rfl, .inl (.inl hk), atI_nat (j := 2) rfl, _, _, rfl, rfl, _, rfl, g, _, 2, 2, rfl, rfl, hk, rfl, ?_⟩
      refine ⟨_, rfl, g, _, 1, _, rfl, rfl, .inl (.inl upd_same), atI_nat (j := 1) rfl, _, _, rfl, rfl, mulx_ok (a := 64) (b := 64) (by omega) (by decide) (by decide), ?_⟩
      refine ⟨_, rfl, g, _, 2, _, rfl, rfl, .inl (.inl upd_same), atI_nat (j := 2) rfl, _, _, rfl, rfl, .inl (by decide), _, _, rfl, rfl, ?_⟩
      refine ⟨_, rfl, .inl ⟨_, rfl, _, _, rfl, rfl, (by show (0 : Int) < _; decide), _, rfl, g, _, 1, 1, rfl, rfl, upd_same, rfl, ?_⟩⟩
      have e1 : ∀ z : Int, 0 ≤ z % 18446744073709551437 := fun z => Int.emod_nonneg z (by decide)
      have e2 : ∀ z : Int, z % 18446744073709551437 < 18446744073709551437 := fun z => Int.emod_lt_of_pos z (by decide)
      refine ⟨_, rfl, g, _, 1, _, rfl, rfl, .inl (.inl upd_same), atI_nat (j := 1) rfl, _, _, rfl, rfl, ⟨by decide, by decide⟩, .inl ⟨_, rfl, _, rfl, _, _, rfl, rfl, hm, ?_⟩⟩
      exact q _ _ (Int.emod_nonneg _ (by omega)) (Int.emod_lt_of_pos _ hm) (sameB_upd.trans sameB_upd) ⟨_, _, _, upd_same, ha, e1 _, Int.lt_trans (e2 _) (by decide)⟩
theorem sc_law_from : FnScope ["_law_keg_here", "_law_some"] ["_law_keg_here", "_law_some"] (defScope s_law_from) := ⟨rfl, rfl, rfl, by decide +kernel, rfl, by decide +kernel, by decide +kernel⟩
def spFrom : Sp := fun vs H Q _ => ∃ (g l : Addr) (xs : List V), vs = [.ref g, .ref l] ∧ KegAt H g ∧ H l = some (.lst xs) ∧ l ≠ g ∧ 0 < xs.length ∧ xs.length ≤ 100000000 ∧
  ∀ (i : Nat) (x : V) (H' : Hp), xs[i]? = some x → SameB g H H' → KegAt H' g → Q x H'
theorem log2_small {n : Int} (h0 : 0 ≤ n) (h : n ≤ 10 ^ 40) : n.natAbs.log2 < 9000 := by
  have : n.natAbs ≤ 10 ^ 40 := by omega
  by_cases z : n.natAbs = 0
  · rw [z]; decide
  · rw [Nat.log2_lt z]
    have : 10 ^ 40 < 2 ^ 140 := by decide
    have : 2 ^ 140 ≤ 2 ^ 9000 := Nat.pow_le_pow_right (by decide) (by decide)
    omega
theorem has_law_from (T : Txt K mg) : Has P w K mg base CX0 2 "_law_from" ["_law_keg_here", "_law_some"] spFrom := by
  have Gp := has_law_pour (P := P) (w := w) (base := base) T
  refine T.has (st := s_law_from) 23 rfl (by decide +kernel) sc_law_from (fun vs H Q E h => ?_) (fun _ _ _ _ _ _ us hl => match us, hl with | [_, _], _ => rfl) (fun f cdv A outer s H vs Q E hr h => ?_)
  · obtain ⟨g, l, xs, rfl, _⟩ := h
    rfl
  · obtain ⟨g, l, xs, rfl, hk, hl, hne, h0, h1, q⟩ := h
    have mL : mg "len" = none := T.fr _ (by decide +kernel)
    refine ⟨_, PSs.nox (pss_one (ps_ret (pe_ix ix_list (pv 1) (pe_fn Gp hr (pa_cons (pv 0) (pa_cons (pe_b1 call_len_seq mL (pv 1)) pa_nil))) (fun _ _ => rfl)))), ?_⟩
    refine ⟨_, rfl, _, rfl, _, rfl, l, _, rfl, .inl (.inl (.inl hl)), g, _, rfl, hk, (by omega), log2_small (by omega) (by omega), fun d H' d0 d1 sb hk' => ?_⟩
    obtain ⟨j, rfl⟩ := Int.eq_ofNat_of_zero_le d0
    have hj : j < xs.length := by omega
    exact ⟨l, xs, _, _, rfl, rfl, .inl (.inl (sb _ _ hne hl)), atI_nat (j := j) (List.getElem?_eq_getElem hj), q j _ H' (List.getElem?_eq_getElem hj) sb hk'⟩
theorem sc_law_span : FnScope ["_law_keg_here", "_law_far"] ["_law_keg_here", "_law_far"] (defScope s_law_span) := ⟨rfl, rfl, rfl, by decide +kernel, rfl, by decide +kernel, by decide +kernel⟩
def spSpan : Sp := fun vs H Q _ => ∃ (g : Addr) (far : Int), vs = [.ref g, .int far] ∧ KegAt H g ∧ 0 ≤ far ∧ far ≤ 10 ^ 35 ∧ ∀ (d : Int) (H' : Hp), SameB g H H' → KegAt H' g → Q (.int d) H'
theorem has_law_span (T : Txt K mg) : Has P w K mg base CX0 2 "_law_span" ["_law_keg_here", "_law_far"] spSpan := by
  have Gp := has_law_pour (P := P) (w := w) (base := base) T
  refine T.has (st := s_law_span) 24 rfl (by decide +kernel) sc_law_span (fun vs H Q E h => ?_) (fun _ _ _ _ _ _ us hl => match us, hl with | [_, _], _ => rfl) (fun f cdv A outer s H vs Q E hr h => ?_)
  · obtain ⟨g, l, rfl, _⟩ := h
    rfl
  · obtain ⟨g, far, rfl, hk, h0, h1, q⟩ := h
    refine ⟨_, PSs.nox (pss_one (ps_ret (pe_op op_sub (pe_fn Gp hr (pa_cons (pv 0) (pa_cons (pe_op op_add (pe_op op_mul pe_int (pv 1)) pe_int) pa_nil))) (pv 1)))), ?_⟩
    refine ⟨_, rfl, _, rfl, 2, far, rfl, rfl, .inl (by decide), _, _, rfl, rfl, g, _, rfl, hk, (by omega), log2_small (by omega) (by omega), fun d H' d0 d1 sb hk' => ?_⟩
    exact ⟨_, rfl, _, _, rfl, rfl, q _ H' sb hk'⟩
theorem sc_law_gcd : FnScope ["_law_first", "_law_second"] ["_law_first", "_law_second"] (defScope s_law_gcd) := ⟨rfl, rfl, rfl, by decide +kernel, rfl, by decide +kernel, by decide +kernel⟩
theorem has_law_gcd (T : Txt K mg) : Has P w K mg base CX0 1 "_law_gcd" ["_law_first", "_law_second"] spGcd := by
  refine T.has (st := s_law_gcd) 25 rfl (by decide +kernel) sc_law_gcd (fun vs H Q E h => ?_) (fun _ _ _ _ _ _ us hl => match us, hl with | [_, _], _ => rfl) (fun f cdv A outer s H vs Q E hr h => ?_)
  · obtain ⟨a, b, rfl, _⟩ := h
    rfl
  · obtain ⟨a, b, rfl, q⟩ := h
    have mA : mg "abs" = none := T.fr _ (by decide +kernel)
    have mI : mg "int" = none := T.fr _ (by decide +kernel)
    refine ⟨_, PSs.nox (pss_cons (ps_par (i := 0) (j := 1) rfl sc_law_gcd.nd rfl rfl (by decide) rfl rfl (pa_cons (pe_b1 call_abs mA (pv 0)) (pa_cons (pe_b1 call_abs mA (pv 1)) pa_nil)) (by rfl))
      (pss_cons (ps_while PassesOwn.never (pt_cmp (pc_gt (pv 1) pe_int)) (pss_one (ps_par (i := 0) (j := 1) rfl sc_law_gcd.nd rfl rfl (by decide) rfl rfl (pa_cons (pv 1) (pa_cons (pe_op op_modN (pe_t1 call_int1 mI (pv 0)) (pv 1)) pa_nil)) (by rfl))))
      (pss_one (ps_ret (pv 0))))), ?_⟩
    refine ⟨_, rfl, a, rfl, _, rfl, b, rfl, _, _, rfl, ?_⟩
    rw [abs_eq, abs_eq]
    refine while_by (fun σ H' => ∃ x y : Int, σ = [some (.int x), some (.int y)] ∧ 0 ≤ x ∧ 0 ≤ y ∧ Int.gcd x y = Int.gcd a b ∧ H' = H) (fun σ _ => match σ with | [_, some (.int y)] => y.toNat | _ => 0) ⟨_, _, rfl, by omega, by omega, rfl, rfl⟩ ?_ ?_
    · rintro σ H' ⟨x, y, rfl, hx, hy, hg, rfl⟩
      refine ⟨_, rfl, y, 0, rfl, rfl, _, rfl, ite2 (fun c => ?_) (fun c => ?_)⟩
      · have hy0 : 0 < y := of_decide_eq_true c
        refine ⟨_, rfl, _, rfl, .inl ⟨_, rfl, _, rfl, x, y, rfl, rfl, by omega, _, _, rfl, ⟨_, _, rfl, hy, Int.fmod_nonneg_of_pos x hy0, by rw [gcd_step]; exact hg, rfl⟩, ?_⟩⟩
        show (x.fmod y).toNat < y.toNat
        have := Int.fmod_lt_of_pos x hy0
        have := Int.fmod_nonneg_of_pos x hy0
        omega
      · have hy0 : ¬ 0 < y := fun z => c (decide_eq_true z)
        have : y = 0 := by omega
        subst this
        refine ⟨_, rfl, ?_⟩
        have e : x = ((Int.gcd a b : Nat) : Int) := by
          rw [← hg, Int.gcd_zero_right]
          omega
        rw [e]
        exact q
    · rintro σ H' Q1 Q2 hq ⟨v, h1, i, j, e1, e2, c, e3, h4⟩
      exact ⟨v, h1, i, j, e1, e2, c, e3, hq _ _ h4⟩
theorem sc_law_agree : FnScope ["_law_first", "_law_second", "_law_part"] ["_law_first", "_law_second", "_law_part"] (defScope s_law_agree) := ⟨rfl, rfl, rfl, by decide +kernel, rfl, by decide +kernel, by decide +kernel⟩
theorem has_law_agree (T : Txt K mg) : Has P w K mg base CX0 1 "_law_agree" ["_law_first", "_law_second", "_law_part"] spAgree := by
  refine T.has (st := s_law_agree) 26 rfl (by decide +kernel) sc_law_agree (fun vs H Q E h => ?_) (fun _ _ _ _ _ _ us hl => match us, hl with | [_, _, _], _ => rfl) (fun f cdv A outer s H vs Q E hr h => ?_)
  · obtain ⟨a, b, q, rfl, _⟩ := h
    rfl
  · obtain ⟨a, b, p, rfl, q⟩ := h
    have mI : mg "int" = none := T.fr _ (by decide +kernel)
    refine ⟨_, PSs.nox (pss_one (ps_ret (pe_ifExp (pt_cmp (pc_eqI (pv 2) pe_int)) (pe_cmp (pc_eqI (pv 0) (pv 1))) (pe_cmp (pc_eqI (pe_op op_mod (pe_t1 call_int1 mI (pe_op op_sub (pv 0) (pv 1))) (pv 2)) pe_int))))), ?_⟩
    refine ⟨_, rfl, (p : Int), 0, rfl, rfl, _, rfl, ite2 (fun c => ?_) (fun c => ?_)⟩
    · have e : (p : Int) = 0 := of_decide_eq_true c
      refine ⟨_, rfl, _, rfl, a, b, rfl, rfl, ?_⟩
      have e2 : decide ((p : Int) ∣ a - b) = decide (a = b) := decide_eq_decide.mpr (by rw [e, Int.zero_dvd]; omega)
      rw [e2] at q
      exact q
    · have e : ¬ (p : Int) = 0 := fun z => c (decide_eq_true z)
      refine ⟨_, rfl, _, rfl, a, b, rfl, rfl, .inl ⟨_, rfl, _, rfl, _, _, rfl, rfl, (by show (0 : Int) < p; omega), _, _, rfl, rfl, ?_⟩⟩
      have e2 : decide ((p : Int) ∣ a - b) = decide ((a - b) % (p : Int) = 0) := decide_eq_decide.mpr Int.dvd_iff_emod_eq_zero
      rw [e2] at q
      exact q
end
end K15
namespace K15
open L2 PySem PySem.Spec PyProof.Rows
section
variable {w : World} {P : Program} {K : PySem.W.Frag} {base : Heap} {mg : Str → Option Value}
theorem sc_law_so : FnScope ["_law_row", "_law_told_here", "_law_spot", "_law_rest_here", "_law_part"] ["_law_row", "_law_told_here"] (defScope s_law_so) := ⟨rfl, rfl, rfl, by decide +kernel, rfl, by decide +kernel, by decide +kernel⟩
def allSo (N : Nat) (t : List Int) (F : List Fact) : Bool := F.all fun f => decide (SoP N t f)
def spSo : Sp := fun vs H Q _ => ∃ (r a : Addr) (N : Nat) (t : List Int) (F : List Fact), vs = [.ref r, .ref a] ∧ H r = some (.tup (t.map V.int)) ∧ t.length = N ∧ 0 < N ∧ FactsAt H a F ∧ Q (.bl (allSo N t F)) H
theorem row_ix {N : Nat} {t : List Int} (h : t.length = N) (hN : 0 < N) (a : Int) : ∃ j : Nat, a % (N : Int) = (j : Int) ∧ (t.map V.int)[j]? = some (.int (rowAt t N a)) := by
  have h1 := Int.emod_nonneg a (show (N : Int) ≠ 0 by omega)
  have h2 := Int.emod_lt_of_pos a (show (0 : Int) < N by omega)
  refine ⟨(a % (N : Int)).toNat, by omega, ?_⟩
  have hj : (a % (N : Int)).toNat < t.length := by omega
  rw [List.getElem?_map, List.getElem?_eq_getElem hj]
  unfold rowAt
  rw [List.getD_eq_getElem?_getD, List.getElem?_eq_getElem hj]
  rfl
theorem has_law_so (T : Txt K mg) : Has P w K mg base CX0 2 "_law_so" ["_law_row", "_law_told_here"] spSo := by
  have Ga := has_law_agree (P := P) (w := w) (base := base) T
  refine T.has (st := s_law_so) 31 rfl (by decide +kernel) sc_law_so (fun vs H Q E h => ?_) (fun _ _ _ _ _ _ us hl => match us, hl with | [_, _], _ => rfl) (fun f cdv A outer s H vs Q E hr h => ?_)
  · obtain ⟨r, a, N, t, F, rfl, _⟩ := h
    rfl
  · obtain ⟨r, a, N, t, F, rfl, hrow, hlt, hN, ⟨rs, ha, hl, hf⟩, q⟩ := h
    have mI : mg "int" = none := T.fr _ (by decide +kernel)
    have mL : mg "len" = none := T.fr _ (by decide +kernel)
    refine ⟨_, PSs.nox (pss_cons (ps_for PassesOwn.never rfl (pi_tup (pv 1)) (pg_tup rfl (pgs_cons (pg_name (i := 2) sc_law_so.nd rfl (.inl rfl)) (pgs_cons (pg_name (i := 3) sc_law_so.nd rfl (.inl rfl)) (pgs_cons (pg_name (i := 4) sc_law_so.nd rfl (.inl rfl)) pgs_nil))))
        (pss_one (ps_if (pt_not (pt_val (pe_fn Ga hr (pa_cons (pe_ix ix_tup (pv 0) (pe_op op_mod (pe_t1 call_int1 mI (pv 2)) (pe_b1 call_len_seq mL (pv 0))) (fun _ _ => rfl)) (pa_cons (pv 3) (pa_cons (pv 4) pa_nil)))))) (pss_one (ps_ret pe_bl)) pss_nil)))
      (pss_one (ps_ret pe_bl))), ?_⟩
    refine ⟨_, rfl, a, rfl, ⟨_, .inl (.inl ha)⟩, ?_⟩
    refine for_it (walk_tup (K := K) (a := a) (xs := rs.map V.ref)) (fun i σ H' => ∃ y2 y3 y4, σ = [some (.ref r), some (.ref a), y2, y3, y4] ∧ H' = H ∧ allSo N t F = allSo N t (F.drop i)) ⟨none, none, none, rfl, rfl, rfl⟩ (fun i σ H' _ h => ?_) ?_ ?_
    · obtain ⟨_, _, _, _, rfl, _⟩ := h
      exact .inl (.inl ha)
    · rintro i v σ H0 H1 hi ⟨y2, y3, y4, rfl, rfl, he⟩ ⟨rfl, hx⟩
      obtain ⟨u, eu, rfl⟩ := at_map hx
      obtain ⟨fi, ef⟩ := at_len hl eu
      have hfi := hf i u fi eu ef
      obtain ⟨j, ej, hj⟩ := row_ix hlt hN fi.1
      have hiF : i < F.length := (List.getElem?_eq_some_iff.mp ef).1
      have ed : F.drop i = fi :: F.drop (i + 1) := by
        rw [List.drop_eq_getElem_cons hiF]
        congr 1
        exact (List.getElem?_eq_some_iff.mp ef).2
      have e2 : allSo N t (F.drop i) = (decide (SoP N t fi) && allSo N t (F.drop (i + 1))) := by
        rw [ed]
        rfl
      refine ⟨u, _, rfl, .inl (.inl hfi), rfl, _, _, rfl, _, _, rfl, _, _, rfl, rfl, ?_⟩
      refine ⟨_, rfl, _, rfl, .inl ⟨_, rfl, _, rfl, r, _, rfl, .inr (.inl (.inl hrow)), _, _, rfl, rfl, (by show (0 : Int) < _; rw [List.length_map, hlt]; omega), ?_⟩⟩
      refine ⟨r, _, _, .int (rowAt t N fi.1), rfl, rfl, .inl (.inl hrow), ?_, _, rfl, _, rfl, _, _, _, rfl, _, rfl, ?_⟩
      · rw [List.length_map, hlt, ej]
        exact atI_nat (j := j) hj
      · show if (!decide (((fi.2.2 : Nat) : Int) ∣ rowAt t N fi.1 - fi.2.1)) = true then _ else _
        by_cases hs : SoP N t fi
        · have hs' : ((fi.2.2 : Nat) : Int) ∣ rowAt t N fi.1 - fi.2.1 := hs
          rw [decide_eq_true hs']
          refine iteF ⟨_, _, _, rfl, rfl, ?_⟩
          rw [he, e2, decide_eq_true hs, Bool.true_and]
        · have hs' : ¬ ((fi.2.2 : Nat) : Int) ∣ rowAt t N fi.1 - fi.2.1 := hs
          rw [decide_eq_false hs']
          rw [e2, decide_eq_false hs, Bool.false_and] at he
          rw [he] at q
          exact iteT q
    · rintro σ H1 ⟨y2, y3, y4, rfl, rfl, he⟩
      rw [List.length_map, hl, List.drop_length] at he
      rw [he] at q
      exact q
theorem sc_law_parts : FnScope ["_law_size", "_law_k"] ["_law_size"] (defScope s_law_parts) := ⟨rfl, rfl, rfl, by decide +kernel, rfl, by decide +kernel, by decide +kernel⟩
def natsV (l : List Nat) : List V := l.map fun (k : Nat) => V.int (k : Int)
def partsL (N n : Nat) : List Nat := ((List.range n).map (· + 1)).filter fun d => decide (d ∣ N)
theorem partsL_succ (N n : Nat) : partsL N (n + 1) = partsL N n ++ (if (n + 1) ∣ N then [n + 1] else []) := by
  unfold partsL
  rw [List.range_succ, List.map_append, List.filter_append]
  congr 1
  by_cases h : (n + 1) ∣ N
  · rw [if_pos h]; simp [h]
  · rw [if_neg h]; simp [h]
theorem partsL_len (N n : Nat) : (partsL N n).length ≤ n := by
  unfold partsL
  refine Nat.le_trans (List.length_filter_le _ _) ?_
  rw [List.length_map,
    List.length_range]
  exact Nat.le_refl _
theorem partsL_mem {N n d : Nat} (h : d ∈ partsL N n) : 0 < d ∧ d ∣ N := by
  unfold partsL at h
  obtain ⟨h1, h2⟩ := List.mem_filter.mp h
  obtain ⟨k, _, rfl⟩ := List.mem_map.mp h1
  exact ⟨by omega, of_decide_eq_true h2⟩
theorem partsL_pos {N : Nat} (h : 0 < N) : 0 < (partsL N N).length := by
  refine List.length_pos_of_mem (a := 1) ?_
  unfold partsL
  refine List.mem_filter.mpr ⟨List.mem_map.mpr ⟨0, List.mem_range.mpr h, rfl⟩, decide_eq_true (Nat.one_dvd N)⟩
def spParts : Sp := fun vs H Q _ => ∃ N : Nat, vs = [.int (N : Int)] ∧ 0 < N ∧ N ≤ 1000 ∧ ∀ (H' : Hp) (p : Addr), Same H H' → H p = none → H' p = some (.lst (natsV (partsL N N))) → Q (.ref p) H'
theorem has_law_parts (T : Txt K mg) : Has P w K mg base CX0 1 "_law_parts" ["_law_size"] spParts := by
  refine T.has (st := s_law_parts) 32 rfl (by decide +kernel) sc_law_parts (fun vs H Q E h => ?_) (fun _ _ _ _ _ _ us hl => match us, hl with | [_], _ => rfl) (fun f cdv A outer s H vs Q E hr h => ?_)
  · obtain ⟨N, rfl, _⟩ := h
    rfl
  · obtain ⟨N, rfl, hN, hN2, q⟩ := h
    have mI : mg "int" = none := T.fr _ (by decide +kernel)
    have mR : mg "range" = none := T.fr _ (by decide +kernel)
    refine ⟨_, PSs.nox (pss_one (ps_ret (pe_lc (own := [("_law_k", 1)]) (g := gName 1) rfl sc_law_parts.nd (pi_range2 rfl mR (pa_cons pe_int (pa_cons (pe_op op_add (pv 0) pe_int) pa_nil)))
        (blkOk_by (N := ["_law_size", "_law_k"]) (sc := defScope s_law_parts) (by decide +kernel))
        (fun _ _ _ _ _ => pg_name (i := 1) sc_law_parts.nd rfl (Or.inl rfl))
        (fun _ _ _ _ _ => pts_one (pt_cmp (pc_eqI (pe_op op_mod (pe_t1 call_int1 mI (pv 0)) (pv 1)) pe_int)))
        (fun _ _ _ _ _ => pv 1)))), ?_⟩
    refine ⟨_, rfl, _, _, rfl, rfl, 1, (N : Int) + 1, rfl, ⟨by decide, by decide, by omega, by omega⟩, fun D hD => ?_⟩
    refine lc_range (lo := 1) (n := (((N : Int) + 1) - 1).toNat) (fun i H' => Same H H' ∧ H' D = some (.lst (natsV (partsL N i)))) ⟨same_upd hD, upd_same⟩ ?_ ?_
    · rintro i H1 hi ⟨s1, hd⟩
      have hiN : i < N := by omega
      refine ⟨rfl, ?_⟩
      refine ⟨_, rfl, .inl ⟨_, rfl, _, rfl, (N : Int), 1 + (i : Int), rfl, rfl, (by show (0 : Int) < _; omega), _, 0, rfl, rfl, ?_⟩⟩
      have e := partsL_succ N i
      have ec : ((N : Int) % (1 + (i : Int)) = 0) ↔ (i + 1) ∣ N := by
        rw [← Int.dvd_iff_emod_eq_zero, show (1 + (i : Int)) = ((i + 1 : Nat) : Int) by omega, Int.ofNat_dvd]
      by_cases hd2 : (i + 1) ∣ N
      · rw [if_pos hd2] at e
        refine ⟨_, rfl, ?_⟩
        show if decide ((N : Int) % (1 + (i : Int)) = 0) = true then _ else _
        rw [decide_eq_true (ec.mpr hd2)]
        refine iteT ⟨_, rfl, _, hd, ?_, fun bb o z => ?_, ?_⟩
        · unfold natsV
          rw [List.length_map]
          exact small1000 (Nat.le_trans (partsL_len N i) (by omega))
        · rw [upd_ne (ne_of_none z hD)]
          exact s1 _ _ z
        · rw [upd_same, e]
          unfold natsV
          rw [List.map_append]
          show some (HO.lst (_ ++ [V.int (1 + (i : Int))])) = some (HO.lst (_ ++ [V.int (((i + 1 : Nat)) : Int)]))
          rw [show (1 + (i : Int)) = ((i + 1 : Nat) : Int) by omega]
      · rw [if_neg hd2, List.append_nil] at e
        refine ⟨_, rfl, ?_⟩
        show if decide ((N : Int) % (1 + (i : Int)) = 0) = true then _ else _
        rw [decide_eq_false (fun z => hd2 (ec.mp z))]
        refine iteF ⟨s1, ?_⟩
        rw [e]
        exact hd
    · rintro H1 ⟨s1, hd⟩
      rw [show (((N : Int) + 1) - 1).toNat = N by omega] at hd
      exact q H1 D s1 hD hd
end
end K15
namespace K15
open L2 PySem PySem.Spec PyProof.Rows
/-- a list of facts that is being made -/
def ListF (H : Hp) (o : Addr) (F : List Fact) : Prop := ∃ us : List Addr, H o = some (.lst (us.map V.ref)) ∧ us.length = F.length ∧ ∀ (i : Nat) (r : Addr) (f : Fact), us[i]? = some r → F[i]? = some f → H r = some (factV f)
theorem ListF.sameB {H H' : Hp} {g o : Addr} {F : List Fact} (h : ListF H o F) (s : SameB g H H') (k : KegAt H g) (ne : o ≠ g) : ListF H' o F := by
  obtain ⟨us, h1, h2, h3⟩ := h
  exact ⟨us, s _ _ ne h1, h2, fun i r f e1 e2 => s.tup k (h3 i r f e1 e2)⟩
theorem ListF.same {H H' : Hp} {o : Addr} {F : List Fact} (h : ListF H o F) (s : Same H H') : ListF H' o F := by
  obtain ⟨us, h1, h2, h3⟩ := h
  exact ⟨us, s _ _ h1, h2, fun i r f e1 e2 => s _ _ (h3 i r f e1 e2)⟩
theorem ListF.nil {H : Hp} {o : Addr} (h : H o = some (.lst [])) : ListF H o [] := ⟨[], h, rfl, fun i r f e => by simp at e⟩
/-- one more, at t -/
theorem ListF.more {H : Hp} {o t : Addr} {F : List Fact} {f : Fact} {us : List Addr} (h1 : H o = some (.lst (us.map V.ref))) (h2 : us.length = F.length) (h3 : ∀ (i : Nat) (r : Addr) (f : Fact), us[i]? = some r → F[i]? = some f → H r = some (factV f)) (ht : H t = some (factV f)) :
    ListF (upd H o (.lst ((us ++ [t]).map V.ref))) o (F ++ [f]) := by
  refine ⟨us ++ [t], upd_same, by simp [h2], fun i r g e1 e2 => ?_⟩
  have no : ∀ r x, H r = some (factV x) → r ≠ o := fun r x hx z => by
    rw [z, h1] at hx
    cases hx
  by_cases hi : i < us.length
  · rw [List.getElem?_append_left hi] at e1
    rw [List.getElem?_append_left (by omega)] at e2
    have := h3 i r g e1 e2
    rw [upd_ne (no _ _ this)]
    exact this
  · rw [List.getElem?_append_right (by omega)] at e1
    rw [List.getElem?_append_right (by omega), ← h2] at e2
    obtain ⟨k, hk⟩ : ∃ k, i - us.length = k := ⟨_, rfl⟩
    rw [hk] at e1 e2
    match k, e1, e2 with
    | 0, e1, e2 =>
      cases Option.some.inj e1
      cases Option.some.inj e2
      rw [upd_ne (no _ _ ht)]
      exact ht
theorem ListF.tup {H : Hp} {o l : Addr} {F : List Fact} {us : List Addr} (h2 : us.length = F.length) (h3 : ∀ (i : Nat) (r : Addr) (f : Fact), us[i]? = some r → F[i]? = some f → H r = some (factV f)) (hl : H l = none) : FactsAt (upd H l (.tup (us.map V.ref))) l F :=
  ⟨us, upd_same, h2, fun i r f e1 e2 => (same_upd hl) _ _ (h3 i r f e1 e2)⟩
section
variable {w : World} {P : Program} {K : PySem.W.Frag} {base : Heap} {mg : Str → Option Value}
theorem sc_law_first_quarrel : FnScope ["_law_told_here", "_law_i", "_law_j", "_law_part"] ["_law_told_here"] (defScope s_law_first_quarrel) := ⟨rfl, rfl, rfl, by decide +kernel, rfl, by decide +kernel, by decide +kernel⟩
def spFq : Sp := fun vs H Q _ => ∃ (a : Addr) (F : List Fact), vs = [.ref a] ∧ FactsAt H a F ∧ F.length ≤ 100 ∧
  ∀ (H' : Hp) (p : Addr), Same H H' → (NoQ F → H' p = some (.lst []) → Q (.ref p) H') ∧ (∀ (q : Nat × Nat) (t : Addr), FirstQ F q → H' t = some (.tup [.int (q.1 : Nat), .int (q.2 : Nat)]) → H' p = some (.lst [.ref t]) → Q (.ref p) H')
theorem has_law_first_quarrel (T : Txt K mg) : Has P w K mg base CX0 2 "_law_first_quarrel" ["_law_told_here"] spFq := by
  have Ga := has_law_agree (P := P) (w := w) (base := base) T
  have Gg := has_law_gcd (P := P) (w := w) (base := base) T
  refine T.has (st := s_law_first_quarrel) 34 rfl (by decide +kernel) sc_law_first_quarrel (fun vs H Q E h => ?_) (fun _ _ _ _ _ _ us hl => match us, hl with | [_], _ => rfl) (fun f cdv A outer s H vs Q E hr h => ?_)
  · obtain ⟨a, F, rfl, _⟩ := h
    rfl
  · obtain ⟨a, F, rfl, ⟨rs, ha, hl, hf⟩, hF, q⟩ := h
    have mL : mg "len" = none := T.fr _ (by decide +kernel)
    have mR : mg "range" = none := T.fr _ (by decide +kernel)
    refine ⟨_, PSs.nox (pss_cons (ps_for PassesOwn.never rfl (pi_range1 rfl mR (pa_cons (pe_b1 call_len_seq mL (pv 0)) pa_nil)) (pg_name (i := 1) sc_law_first_quarrel.nd rfl (.inl rfl))
        (pss_one (ps_for PassesOwn.never rfl (pi_range2 rfl mR (pa_cons (pe_op op_add (pv 1) pe_int) (pa_cons (pe_b1 call_len_seq mL (pv 0)) pa_nil))) (pg_name (i := 2) sc_law_first_quarrel.nd rfl (.inl rfl))
          (pss_cons (ps_set (i := 3) sc_law_first_quarrel.nd rfl (.inl rfl) (pe_fn Gg hr (pa_cons (pe_fn Gg hr (pa_cons (pe_ix ix_tup (pe_ix ix_tup (pv 0) (pv 1) (fun _ _ => rfl)) pe_int (fun _ _ => rfl)) (pa_cons (pe_ix ix_tup (pe_ix ix_tup (pv 0) (pv 2) (fun _ _ => rfl)) pe_int (fun _ _ => rfl)) pa_nil)))
              (pa_cons (pe_op op_sub (pe_ix ix_tup (pe_ix ix_tup (pv 0) (pv 1) (fun _ _ => rfl)) pe_int (fun _ _ => rfl)) (pe_ix ix_tup (pe_ix ix_tup (pv 0) (pv 2) (fun _ _ => rfl)) pe_int (fun _ _ => rfl))) pa_nil))))
          (pss_one (ps_if (pt_not (pt_val (pe_fn Ga hr (pa_cons (pe_ix ix_tup (pe_ix ix_tup (pv 0) (pv 1) (fun _ _ => rfl)) pe_int (fun _ _ => rfl)) (pa_cons (pe_ix ix_tup (pe_ix ix_tup (pv 0) (pv 2) (fun _ _ => rfl)) pe_int (fun _ _ => rfl)) (pa_cons (pv 3) pa_nil))))))
            (pss_one (ps_ret (pe_lst (pa_cons (pe_tup (pa_cons (pv 1) (pa_cons (pv 2) pa_nil))) pa_nil)))) pss_nil))))))
      (pss_one (ps_ret (pe_lst pa_nil)))), ?_⟩
    refine ⟨_, rfl, a, _, rfl, .inr (.inl (.inl ha)), _, rfl, (by omega), (by rw [List.length_map]; omega), ?_⟩
    have len0 : ((((rs.map V.ref).length : Nat) : Int)).toNat = F.length := by rw [List.length_map, hl]; exact Int.toNat_natCast _
    refine for_it (walk_range (lo := 0) (n := ((((rs.map V.ref).length : Nat) : Int)).toNat)) (fun i σ H' => ∃ y1 y2 y3, σ = [some (.ref a), y1, y2, y3] ∧ H' = H ∧ ∀ x y, x < i → x < y → ¬ bad F x y) ⟨none, none, none, rfl, rfl, fun x y h => absurd h (Nat.not_lt_zero x)⟩ (fun _ _ _ _ _ => trivial) ?_ ?_
    · rintro i v σ H0 H1 hi ⟨y1, y2, y3, rfl, rfl, hno⟩ ⟨rfl, rfl⟩
      rw [len0] at hi
      have e0 : ((0 : Int) + (i : Int) = (i : Int)) := Int.zero_add _
      dsimp only
      rw [e0]
      refine ⟨_, rfl, _, _, rfl, rfl, _, rfl, a, _, rfl, .inr (.inl (.inl ha)), _, _, rfl, ⟨by omega, by omega, by omega, by rw [List.length_map]; omega⟩, ?_⟩
      have len1 : ((((rs.map V.ref).length : Nat) : Int) - ((i : Int) + 1)).toNat = F.length - (i + 1) := by rw [List.length_map, hl]; omega
      have ri : rs[i]? = some (rs[i]'(by omega)) := List.getElem?_eq_getElem (by omega)
      have fi : F[i]? = some F[i] := List.getElem?_eq_getElem hi
      have hfi := hf i _ _ ri fi
      refine for_it (walk_range (lo := (i : Int) + 1) (n := ((((rs.map V.ref).length : Nat) : Int) - ((i : Int) + 1)).toNat)) (fun m σ H' => ∃ y2 y3, σ = [some (.ref a), some (.int (i : Int)), y2, y3] ∧ H' = H1 ∧ ∀ y, i < y → y < i + 1 + m → ¬ bad F i y)
        ⟨y2, y3, rfl, rfl, fun y h1 h2 => by omega⟩ (fun _ _ _ _ _ => trivial) ?_ ?_
      · rintro m v σ H0 H2 hm ⟨z2, z3, rfl, rfl, hno2⟩ ⟨rfl, rfl⟩
        rw [len1] at hm
        obtain ⟨j, hj⟩ : ∃ j, j = i + 1 + m := ⟨_, rfl⟩
        have ej : (i : Int) + 1 + (m : Int) = (j : Int) := by omega
        dsimp only
        rw [ej]
        have hjF : j < F.length := by omega
        have rj : rs[j]? = some (rs[j]'(by omega)) := List.getElem?_eq_getElem (by omega)
        have fj : F[j]? = some F[j] := List.getElem?_eq_getElem hjF
        have hfj := hf j _ _ rj fj
        have ai : atI ((rs.map V.ref)) (i : Int) = some (.ref (rs[i]'(by omega))) := atI_nat (j := i) (by rw [List.getElem?_map, ri]; rfl)
        have aj : atI ((rs.map V.ref)) (j : Int) = some (.ref (rs[j]'(by omega))) := atI_nat (j := j) (by rw [List.getElem?_map, rj]; rfl)
        refine ⟨_, rfl, _, rfl, a, _, _, _, rfl, rfl, .inl (.inl ha), ai, _, _, 2, _, rfl, rfl, .inl (.inl hfi), atI_nat (j := 2) rfl, _, rfl, _, rfl, a, _, _, _, rfl, rfl, .inl (.inl ha), aj, _, _, 2, _, rfl, rfl, .inl (.inl hfj), atI_nat (j := 2) rfl, _, _, rfl, ?_⟩
        refine ⟨_, rfl, _, rfl, a, _, _, _, rfl, rfl, .inl (.inl ha), ai, _, _, 0, _, rfl, rfl, .inl (.inl hfi), atI_nat (j := 0) rfl, _, rfl, _, rfl, a, _, _, _, rfl, rfl, .inl (.inl ha), aj, _, _, 0, _, rfl, rfl, .inl (.inl hfj), atI_nat (j := 0) rfl, _, _, rfl, rfl, _, _, rfl, ?_⟩
        refine ⟨_, rfl, _, rfl, a, _, _, _, rfl, rfl, .inl (.inl ha), ai, _, _, 1, _, rfl, rfl, .inl (.inl hfi), atI_nat (j := 1) rfl, _, rfl, _, rfl, a, _, _, _, rfl, rfl, .inl (.inl ha), aj, _, _, 1, _, rfl, rfl, .inl (.inl hfj), atI_nat (j := 1) rfl, _, rfl, _, _, _, rfl, _, rfl, ?_⟩
        show if (!decide (Ok2 F[i] F[j])) = true then _ else _
        by_cases hok : Ok2 F[i] F[j]
        · rw [decide_eq_true hok]
          refine iteF ⟨_, _, rfl, rfl, fun y h1 h2 => ?_⟩
          rcases Nat.lt_or_ge y (i + 1 + m) with z | z
          · exact hno2 y h1 z
          · have ey : y = j := by omega
            rw [ey]
            rintro ⟨f1, g1, b1, b2, b3⟩
            rw [fi] at b1
            rw [fj] at b2
            cases b1
            cases b2
            exact b3 hok
        · rw [decide_eq_false hok]
          refine iteT ⟨_, rfl, _, rfl, by show 2 ≤ sizeLine; decide, fun t ht => ⟨by show 1 ≤ sizeLine; decide, fun p hp => ?_⟩⟩
          have s1 := same_upd (o := .tup [.int (i : Int), .int (j : Int)]) ht
          have s2 := same_upd (o := .lst [.ref t]) hp
          refine (q _ p (s1.trans s2)).2 (i, j) t ⟨by show i < j; omega, ⟨_, _, fi, fj, hok⟩, fun r r1 r2 lt => ?_⟩ (s2 _ _ upd_same) upd_same
          rcases lt with z | ⟨z1, z2⟩
          · exact hno _ _ z r1 r2
          · have e1 : r.1 = i := z1
            rw [e1] at r1 r2
            exact hno2 _ r1 (by have e2 : r.2 < j := z2; omega) r2
      · rintro σ H2 ⟨z2, z3, rfl, rfl, hno2⟩
        rw [len1] at hno2
        refine ⟨_, _, _, rfl, rfl, fun x y h1 h2 hb => ?_⟩
        rcases Nat.lt_or_ge x i with z | z
        · exact hno x y z h2 hb
        · have ex : x = i := by omega
          rw [ex] at hb h2
          obtain ⟨f1, g1, _, b2, _⟩ := id hb
          exact hno2 y h2 (by have := (List.getElem?_eq_some_iff.mp b2).1; omega) hb
    · rintro σ H1 ⟨y1, y2, y3, rfl, rfl, hno⟩
      rw [len0] at hno
      refine ⟨Nat.zero_le _, fun p hp => ?_⟩
      refine (q _ p (same_upd hp)).1 (noQ_iff.mpr fun x y hxy hb => ?_) upd_same
      obtain ⟨f1, g1, b1, _, _⟩ := id hb
      exact hno x y (List.getElem?_eq_some_iff.mp b1).1 hxy hb
end
end K15
namespace K15
open L2 PySem PySem.Spec PyProof.Rows
section
variable {w : World} {P : Program} {K : PySem.W.Frag} {base : Heap} {mg : Str → Option Value}
theorem Fine.nil {N : Nat} : Fine N [] := ⟨fun f h => (nomatch h), fun f h => (nomatch h)⟩
theorem Fine.snoc {N : Nat} {F : List Fact} {f : Fact} (h : Fine N F) (h1 : 0 < f.2.2) (h2 : f.2.2 ∣ N) : Fine N (F ++ [f]) := by
  refine ⟨fun g hg => ?_, fun g hg => ?_⟩
  · rcases List.mem_append.mp hg with z | z
    · exact h.val g z
    · rw [List.mem_singleton.mp z]; exact h2
  · rcases List.mem_append.mp hg with z | z
    · exact h.pos g z
    · rw [List.mem_singleton.mp z]; exact h1
theorem sc_law_moved : FnScope ["_law_keg_here", "_law_told_here", "_law_size", "_law_found", "_law_spot", "_law_rest_here", "_law_part"] ["_law_keg_here", "_law_told_here", "_law_size"] (defScope s_law_moved) := ⟨rfl, rfl, rfl, by decide +kernel, rfl, by decide +kernel, by decide +kernel⟩
def spMoved : Sp := fun vs H Q _ => ∃ (g a : Addr) (N : Nat) (F : List Fact), vs = [.ref g, .ref a, .int (N : Int)] ∧ KegAt H g ∧ FactsAt H a F ∧ 0 < N ∧ N ≤ 12 ∧ Fine N F ∧ F.length ≤ 4 ∧
  ∀ (H' : Hp) (p : Addr) (G : List Fact), SameB g H H' → KegAt H' g → FactsAt H' p G → Fine N G → G.length ≤ 4 → Q (.ref p) H'
theorem has_law_moved (T : Txt K mg) : Has P w K mg base CX0 3 "_law_moved" ["_law_keg_here", "_law_told_here", "_law_size"] spMoved := by
  have Gs := has_law_span (P := P) (w := w) (base := base) T
  refine T.has (st := s_law_moved) 35 rfl (by decide +kernel) sc_law_moved (fun vs H Q E h => ?_) (fun _ _ _ _ _ _ us hl => match us, hl with | [_, _, _], _ => rfl) (fun f cdv A outer s H vs Q E hr h => ?_)
  · obtain ⟨g, a, N, F, rfl, _⟩ := h
    rfl
  · obtain ⟨g, a, N, F, rfl, hk, hA, hN, hN2, hF, hFl, q⟩ := h
    obtain ⟨rs, ha, hl, hf⟩ := hA
    have mT : mg "tuple" = none := T.fr _ (by decide +kernel)
    refine ⟨_, PSs.nox (pss_cons (ps_set (i := 3) sc_law_moved.nd rfl (.inl rfl) (pe_lst pa_nil))
      (pss_cons (ps_for PassesOwn.never rfl (pi_tup (pv 1)) (pg_tup rfl (pgs_cons (pg_name (i := 4) sc_law_moved.nd rfl (.inl rfl)) (pgs_cons (pg_name (i := 5) sc_law_moved.nd rfl (.inl rfl)) (pgs_cons (pg_name (i := 6) sc_law_moved.nd rfl (.inl rfl)) pgs_nil))))
        (pss_one (ps_expr (pe_bm PySem.F.plainAttrs_list PySem.F.slot_list_append PySem.F.type_list_append mt_append (pv 3) (pa_cons (pe_tup
          (pa_cons (pe_op op_add (pv 4) (pe_op op_mul (pv 2) (pe_fn Gs hr (pa_cons (pv 0) (pa_cons pe_int pa_nil))))) (pa_cons (pe_op op_add (pv 5) (pe_op op_mul (pv 6) (pe_fn Gs hr (pa_cons (pv 0) (pa_cons pe_int pa_nil))))) (pa_cons (pv 6) pa_nil)))) pa_nil)))))
      (pss_one (ps_ret (pe_t1 call_tuple_of mT (pv 3)))))), ?_⟩
    refine ⟨Nat.zero_le _, fun o no => ?_⟩
    have og : o ≠ g := fun z => by
      obtain ⟨_, _, _, h, _⟩ := id hk
      rw [z, h] at no
      cases no
    have s0 := same_upd (o := .lst []) no
    refine ⟨_, rfl, a, rfl, ⟨_, .inl (.inl (s0 _ _ ha))⟩, ?_⟩
    refine for_it (walk_tup (K := K) (a := a) (xs := rs.map V.ref)) (fun i σ H' => ∃ y4 y5 y6 G, σ = [some (.ref g), some (.ref a), some (.int (N : Int)), some (.ref o), y4, y5, y6] ∧ SameB g H H' ∧ KegAt H' g ∧ ListF H' o G ∧ Fine N G ∧ G.length = i)
      ⟨none, none, none, [], rfl, sameB_of s0, hk.same s0, ListF.nil upd_same, Fine.nil, rfl⟩ (fun i σ H' _ h => ?_) ?_ ?_
    · obtain ⟨_, _, _, _, _, sb, _⟩ := h
      exact .inl (.inl (sb.tup hk ha))
    · rintro i v σ H0 H1 hi ⟨y4, y5, y6, G, rfl, sb, hk1, hG, fG, lG⟩ ⟨rfl, hx⟩
      obtain ⟨r, er, rfl⟩ := at_map hx
      obtain ⟨fi, ef⟩ := at_len hl er
      have hfi := sb.tup hk (hf i r fi er ef)
      have mem : fi ∈ F := List.mem_of_getElem? ef
      have p1 := hF.pos fi mem
      have p2 := hF.val fi mem
      have p3 : fi.2.2 ≤ 12 := Nat.le_trans (Nat.le_of_dvd hN p2) hN2
      have hiF : i < F.length := (List.getElem?_eq_some_iff.mp ef).1
      have hLo : ∃ us : List Addr, H1 o = some (.lst (us.map V.ref)) := by
        obtain ⟨us, h, _⟩ := hG
        exact ⟨us, h⟩
      obtain ⟨us0, ho0⟩ := hLo
      refine ⟨r, _, rfl, .inl (.inl hfi), rfl, _, _, rfl, _, _, rfl, _, _, rfl, rfl, ?_⟩
      refine ⟨_, rfl, .inl ⟨rfl, _, .inl (.inl ho0)⟩, ?_⟩
      refine ⟨_, rfl, _, rfl, _, rfl, g, 9, rfl, hk1, by decide, by decide, fun d1 H2 sb1 hk2 => ?_⟩
      refine ⟨_, _, rfl, rfl, .inl ⟨by omega, by omega⟩, _, _, rfl, rfl, ?_⟩
      refine ⟨_, rfl, _, rfl, _, rfl, g, 9, rfl, hk2, by decide, by decide, fun d2 H3 sb2 hk3 => ?_⟩
      refine ⟨_, _, rfl, rfl, .inl ⟨by omega, by omega⟩, _, _, rfl, rfl, ?_⟩
      refine ⟨_, rfl, by show 3 ≤ sizeLine; decide, fun t ht => ?_⟩
      have hG3 := (hG.sameB sb1 hk1 og).sameB sb2 hk2 og
      have st := same_upd (o := .tup [.int (fi.1 + (N : Int) * d1), .int (fi.2.1 + ((fi.2.2 : Nat) : Int) * d2), .int ((fi.2.2 : Nat) : Int)]) ht
      obtain ⟨us, h1, h2, h3⟩ := hG3.same st
      refine ⟨o, _, _, rfl, rfl, h1, ?_, ?_⟩
      · rw [List.length_map, h2]
        exact small1000 (by omega)
      · have hm := ListF.more (f := (fi.1 + (N : Int) * d1, fi.2.1 + ((fi.2.2 : Nat) : Int) * d2, fi.2.2)) h1 h2 h3 upd_same
        have hk4 : KegAt (upd (upd H3 t (.tup [.int (fi.1 + (N : Int) * d1), .int (fi.2.1 + ((fi.2.2 : Nat) : Int) * d2), .int ((fi.2.2 : Nat) : Int)])) o (.lst (us.map V.ref ++ [.ref t]))) g := by
          obtain ⟨x, y, z, k1, k2⟩ := hk3.same st
          exact ⟨x, y, z, by rw [upd_ne (Ne.symm og)]; exact k1, k2⟩
        refine ⟨_, _, _, G ++ [(fi.1 + (N : Int) * d1, fi.2.1 + ((fi.2.2 : Nat) : Int) * d2, fi.2.2)], rfl, ?_, hk4, ?_, fG.snoc p1 p2, by rw [List.length_append, lG]; rfl⟩
        · refine fun b x nb hb => ?_
          rw [upd_ne (ne_of_none hb no)]
          exact st _ _ (sb2 _ _ nb (sb1 _ _ nb (sb _ _ nb hb)))
        · rw [List.map_append] at hm
          exact hm
    · rintro σ H1 ⟨y4, y5, y6, G, rfl, sb, hk1, hG, fG, lG⟩
      obtain ⟨us, h1, h2, h3⟩ := hG
      refine ⟨_, rfl, o, _, rfl, .inl ⟨.inl (.inl h1), fun l hl' => ?_⟩⟩
      have s1 := same_upd (o := .tup (us.map V.ref)) hl'
      refine q _ l G (sb.trans (sameB_of s1)) (hk1.same s1) (ListF.tup (o := o) h2 h3 hl') fG ?_
      rw [lG, List.length_map, hl]
      exact hFl
theorem sc_law_told : FnScope ["_law_keg_here", "_law_maps_here", "_law_size", "_law_many", "_law_row", "_law_found", "_law_k", "_law_spot", "_law_part", "_law_rest_here"] ["_law_keg_here", "_law_maps_here", "_law_size", "_law_many"] (defScope s_law_told) := ⟨rfl, rfl, rfl, by decide +kernel, rfl, by decide +kernel, by decide +kernel⟩
/-- the list of the rows ts at M -/
def MapsAt (H : Hp) (M : Addr) (ts : List (List Int)) : Prop := ∃ rs : List Addr, H M = some (.lst (rs.map V.ref)) ∧ rs.length = ts.length ∧ ∀ (i : Nat) (r : Addr) (t : List Int), rs[i]? = some r → ts[i]? = some t → H r = some (.tup (t.map V.int))
def spTold : Sp := fun vs H Q _ => ∃ (g M : Addr) (N : Nat) (ts : List (List Int)), vs = [.ref g, .ref M, .int (N : Int), .int 4] ∧ KegAt H g ∧ MapsAt H M ts ∧ M ≠ g ∧ 0 < N ∧ N ≤ 12 ∧ 0 < ts.length ∧ ts.length ≤ 1000000 ∧ (∀ t ∈ ts, t.length = N) ∧
  ∀ (H' : Hp) (p : Addr) (G : List Fact), SameB g H H' → KegAt H' g → FactsAt H' p G → Fine N G → G.length ≤ 4 → Q (.ref p) H'
theorem has_law_told (T : Txt K mg) : Has P w K mg base CX0 3 "_law_told" ["_law_keg_here", "_law_maps_here", "_law_size", "_law_many"] spTold := by
  have Gs := has_law_span (P := P) (w := w) (base := base) T
  have Gf := has_law_from (P := P) (w := w) (base := base) T
  have Gp := has_law_pour (P := P) (w := w) (base := base) T
  have Gt := has_law_parts (P := P) (w := w) (base := base) T
  refine T.has (st := s_law_told) 33 rfl (by decide +kernel) sc_law_told (fun vs H Q E h => ?_) (fun _ _ _ _ _ _ us hl => match us, hl with | [_, _, _, _], _ => rfl) (fun f cdv A outer s H vs Q E hr h => ?_)
  · obtain ⟨g, M, N, ts, rfl, _⟩ := h
    rfl
  · obtain ⟨g, M, N, ts, rfl, hk, ⟨rs, hM, hMl, hrow⟩, hMg, hN, hN2, ht0, ht1, hlen, q⟩ := h
    have hr1 : Room 1 (A.deeper (envOfC "_law_told" (defScope s_law_told) s.heap.objs.size f cdv)) := hr.mono (by decide)
    have mT : mg "tuple" = none := T.fr _ (by decide +kernel)
    have mR : mg "range" = none := T.fr _ (by decide +kernel)
    have mI : mg "int" = none := T.fr _ (by decide +kernel)
    refine ⟨_, PSs.nox (pss_cons (ps_par (i := 4) (j := 5) rfl sc_law_told.nd rfl rfl (by decide) rfl rfl (pa_cons (pe_fn Gf hr (pa_cons (pv 0) (pa_cons (pv 1) pa_nil))) (pa_cons (pe_lst pa_nil) pa_nil)) (by rfl))
      (pss_cons (ps_for PassesOwn.never rfl (pi_range1 rfl mR (pa_cons (pe_fn Gp hr1 (pa_cons (pv 0) (pa_cons (pe_op op_add (pv 3) pe_int) pa_nil))) pa_nil)) (pg_name (i := 6) sc_law_told.nd rfl (.inl rfl))
        (pss_cons (ps_par (i := 7) (j := 8) rfl sc_law_told.nd rfl rfl (by decide) rfl rfl
            (pa_cons (pe_fn Gs hr (pa_cons (pv 0) (pa_cons (pe_fn Gf hr (pa_cons (pv 0) (pa_cons (pe_lst (pa_cons pe_int (pa_cons pe_int (pa_cons (pe_op op_pow pe_int pe_int) pa_nil)))) pa_nil))) pa_nil)))
            (pa_cons (pe_fn Gf hr (pa_cons (pv 0) (pa_cons (pe_fn Gt hr1 (pa_cons (pv 2) pa_nil)) pa_nil))) pa_nil)) (by rfl))
        (pss_cons (ps_set (i := 9) sc_law_told.nd rfl (.inl rfl) (pe_op op_add (pe_ix ix_tup (pv 4) (pe_op op_mod (pe_t1 call_int1 mI (pv 7)) (pv 2)) (fun _ _ => rfl))
            (pe_op op_mul (pv 8) (pe_fn Gs hr (pa_cons (pv 0) (pa_cons (pe_fn Gf hr (pa_cons (pv 0) (pa_cons (pe_lst (pa_cons pe_int (pa_cons (pe_op op_pow pe_int pe_int) pa_nil))) pa_nil))) pa_nil))))))
        (pss_one (ps_expr (pe_bm PySem.F.plainAttrs_list PySem.F.slot_list_append PySem.F.type_list_append mt_append (pv 5) (pa_cons (pe_tup
          (pa_cons (pv 7) (pa_cons (pe_op op_add (pv 9) (pe_t1 call_int1 mI (pe_cmp (pc_eqI (pe_fn Gp hr1 (pa_cons (pv 0) (pa_cons pe_int pa_nil))) pe_int)))) (pa_cons (pv 8) pa_nil)))) pa_nil)))))))
      (pss_one (ps_ret (pe_t1 call_tuple_of mT (pv 5)))))), ?_⟩
    refine ⟨_, rfl, _, rfl, g, M, _, rfl, hk, hM, hMg, (by rw [List.length_map]; omega), (by rw [List.length_map]; omega), fun i0 x0 H1 hx0 sb1 hk1 => ?_⟩
    obtain ⟨r, er, rfl⟩ := at_map hx0
    obtain ⟨t, et⟩ := at_len hMl er
    have hrt := hrow i0 r t er et
    have hlt := hlen t (List.mem_of_getElem? et)
    refine ⟨Nat.zero_le _, fun o no => ?_⟩
    have og : o ≠ g := fun z => by
      obtain ⟨_, _, _, h, _⟩ := id hk1
      rw [z, h] at no
      cases no
    have s0 := same_upd (o := .lst []) no
    have ho0 : upd H1 o (.lst []) o = some (.lst []) := upd_same
    have hr0 : upd H1 o (.lst []) r = some (.tup (t.map V.int)) := s0 _ _ (sb1.tup hk hrt)
    have hk0 := hk1.same s0
    refine ⟨_, _, rfl, ?_⟩
    refine ⟨_, rfl, _, rfl, 4, 1, rfl, rfl, g, _, rfl, hk1.same s0, by decide, log2_small (by decide) (by decide), fun d0 H2 d00 d01 sb2 hk2 => ?_⟩
    refine ⟨_, rfl, by omega, by omega, ?_⟩
    have fresh : ∀ {H' : Hp} {l : Addr}, KegAt H' g → H' l = none → l ≠ g := fun {H' l} k hn z => by
      obtain ⟨_, _, _, h, _⟩ := k
      rw [z, h] at hn
      cases hn
    have p30 : (10 : Int) ^ (30 : Int).toNat = 1000000000000000000000000000000 := by decide
    have p20 : (10 : Int) ^ (20 : Int).toNat = 100000000000000000000 := by decide
    have p35 : (10 : Int) ^ 35 = 100000000000000000000000000000000000 := by decide
    generalize upd H1 o (.lst []) = HH at s0 ho0 hr0 hk0 sb2 ⊢
    have oH : ∀ b x, H b = some x → b ≠ g → b ≠ o := fun b x hb nb z => by
      have := sb1 _ _ nb hb
      rw [z, no] at this
      cases this
    refine for_it (walk_range (lo := 0) (n := d0.toNat)) (fun i σ H' => ∃ y6 y7 y8 y9 G, σ = [some (.ref g), some (.ref M), some (.int (N : Int)), some (.int 4), some (.ref r), some (.ref o), y6, y7, y8, y9] ∧ SameB g H H' ∧ KegAt H' g ∧ H' r = some (.tup (t.map V.int)) ∧ ListF H' o G ∧ Fine N G ∧ G.length = i)
      ⟨none, none, none, none, [], rfl, (sb1.trans (sameB_of s0)).trans sb2, hk2, sb2.tup hk0 hr0, (ListF.nil (o := o) ho0).sameB sb2 hk0 og, Fine.nil, rfl⟩ (fun _ _ _ _ _ => trivial) ?_ ?_
    · rintro i v σ H0 H3 hi ⟨y6, y7, y8, y9, G, rfl, sb3, hk3, hr3, hG3, fG, lG⟩ ⟨rfl, rfl⟩
      refine ⟨_, rfl, _, rfl, _, _, rfl, rfl, ⟨by decide, by decide, by decide⟩, by show 3 ≤ sizeLine; decide, fun l hl => ?_⟩
      have sl := same_upd (o := .lst [.int 5, .int 30, .int ((10 : Int) ^ (30 : Int).toNat)]) hl
      refine ⟨g, l, _, rfl, hk3.same sl, upd_same, fresh hk3 hl, by decide, by decide, fun i1 x1 H4 hx1 sb4 hk4 => ?_⟩
      obtain ⟨far, rfl, f0, f1⟩ : ∃ far : Int, x1 = .int far ∧ 0 ≤ far ∧ far ≤ 10 ^ 35 := by
        match i1, hx1 with
        | 0, e => exact ⟨5, (Option.some.inj e).symm, by decide, by decide⟩
        | 1, e => exact ⟨30, (Option.some.inj e).symm, by decide, by decide⟩
        | 2, e => exact ⟨_, (Option.some.inj e).symm, by rw [p30]; decide, by rw [p30]; decide⟩
      refine ⟨g, far, rfl, hk4, f0, f1, fun spot H5 sb5 hk5 => ?_⟩
      refine ⟨_, rfl, _, rfl, N, rfl, hN, by omega, fun H6 pp s6 pp0 hpp => ?_⟩
      have ppg : pp ≠ g := fresh hk5 pp0
      refine ⟨g, pp, _, rfl, hk5.same s6, hpp, ppg, ?_, ?_, fun i2 x2 H7 hx2 sb7 hk7 => ?_⟩
      · unfold natsV
        rw [List.length_map]
        exact partsL_pos hN
      · unfold natsV
        rw [List.length_map]
        exact Nat.le_trans (partsL_len N N) (by omega)
      obtain ⟨part, rfl, q0, q1⟩ : ∃ part : Nat, x2 = .int (part : Int) ∧ 0 < part ∧ part ∣ N := by
        unfold natsV at hx2
        rw [List.getElem?_map] at hx2
        obtain ⟨d, hd1, hd2⟩ := Option.map_eq_some_iff.mp hx2
        have := partsL_mem (List.mem_of_getElem? hd1)
        exact ⟨d, hd2.symm, this.1, this.2⟩
      have q2 : part ≤ 12 := Nat.le_trans (Nat.le_of_dvd hN q1) hN2
      refine ⟨_, _, rfl, ?_⟩
      -- what has been kept so far
      have hr4 := (sb4.tup (hk3.same sl) (sl _ _ hr3))
      have hr7 := sb7.tup (hk5.same s6) (s6 _ _ (sb5.tup hk4 hr4))
      have hG7 := (((((hG3.same sl).sameB sb4 (hk3.same sl) og).sameB sb5 hk4 og).same s6).sameB sb7 (hk5.same s6) og)
      have sbA : SameB g H H7 := (((sb3.trans (sameB_of sl)).trans sb4).trans sb5).trans ((sameB_of s6).trans sb7)
      obtain ⟨j, ej, hj⟩ := row_ix hlt hN spot
      refine ⟨_, rfl, _, rfl, .inl ⟨_, rfl, _, rfl, _, _, rfl, rfl, (by show (0 : Int) < _; omega), r, _, _, .int (rowAt t N spot), rfl, rfl, .inl (.inl hr7), (by rw [ej]; exact atI_nat (j := j) hj), ?_⟩⟩
      refine ⟨_, rfl, _, rfl, _, rfl, _, _, rfl, rfl, ⟨by decide, by decide, by decide⟩, by show 2 ≤ sizeLine; decide, fun l2 hl2 => ?_⟩
      have sl2 := same_upd (o := .lst [.int 1, .int ((10 : Int) ^ (20 : Int).toNat)]) hl2
      refine ⟨g, l2, _, rfl, hk7.same sl2, upd_same, fresh hk7 hl2, by decide, by decide, fun i3 x3 H8 hx3 sb8 hk8 => ?_⟩
      obtain ⟨far2, rfl, g0, g1⟩ : ∃ far : Int, x3 = .int far ∧ 0 ≤ far ∧ far ≤ 10 ^ 35 := by
        match i3, hx3 with
        | 0, e => exact ⟨1, (Option.some.inj e).symm, by decide, by decide⟩
        | 1, e => exact ⟨_, (Option.some.inj e).symm, by rw [p20]; decide, by rw [p20]; decide⟩
      refine ⟨g, far2, rfl, hk8, g0, g1, fun d9 H9 sb9 hk9 => ?_⟩
      refine ⟨_, _, rfl, rfl, .inl ⟨by omega, by omega⟩, _, _, rfl, rfl, ?_⟩
      have hG9 := ((hG7.same sl2).sameB sb8 (hk7.same sl2) og).sameB sb9 hk8 og
      have hr9 := sb9.tup hk8 (sb8.tup (hk7.same sl2) (sl2 _ _ hr7))
      have sbB : SameB g H H9 := (sbA.trans (sameB_of sl2)).trans (sb8.trans sb9)
      obtain ⟨us9, ho9, _⟩ := id hG9
      refine ⟨_, rfl, .inl ⟨rfl, _, .inl (.inl ho9)⟩, ?_⟩
      refine ⟨_, rfl, _, rfl, _, rfl, g, 7, rfl, hk9, by decide, log2_small (by decide) (by decide), fun dA HA _ _ sbC hkA => ?_⟩
      refine ⟨_, _, rfl, rfl, .inr ⟨_, rfl, _, _, rfl, rfl, ?_⟩⟩
      refine ⟨_, rfl, by show 3 ≤ sizeLine; decide, fun tt htt => ?_⟩
      obtain ⟨z, hz⟩ : ∃ z : Int, z = rowAt t N spot + (part : Int) * d9 + (if decide (dA = 0) = true then 1 else 0) := ⟨_, rfl⟩
      dsimp only
      rw [← hz]
      have st := same_upd (o := .tup [.int spot, .int z, .int (part : Int)]) htt
      have hGA := (hG9.sameB sbC hk9 og).same st
      obtain ⟨us, h1, h2, h3⟩ := hGA
      refine ⟨o, _, _, rfl, rfl, h1, ?_, ?_⟩
      · rw [List.length_map, h2]
        exact small1000 (by omega)
      · have hm := ListF.more (f := (spot, z, part)) h1 h2 h3 upd_same
        have hk4 : KegAt (upd (upd HA tt (.tup [.int spot, .int z, .int (part : Int)])) o (.lst (us.map V.ref ++ [.ref tt]))) g := by
          obtain ⟨x, y, z, k1, k2⟩ := hkA.same st
          exact ⟨x, y, z, by rw [upd_ne (Ne.symm og)]; exact k1, k2⟩
        refine ⟨_, _, _, _, G ++ [(spot, z, part)], rfl, ?_, hk4, ?_, ?_, fG.snoc q0 q1, by rw [List.length_append, lG]; rfl⟩
        · refine fun b x nb hb => ?_
          rw [upd_ne (oH _ _ hb nb)]
          exact st _ _ (sbC _ _ nb (sbB _ _ nb hb))
        · have hrA := st _ _ (sbC.tup hk9 hr9)
          rw [upd_ne (fun z => by rw [z, h1] at hrA; cases hrA)]
          exact hrA
        · rw [List.map_append] at hm
          exact hm
    · rintro σ H3 ⟨y6, y7, y8, y9, G, rfl, sb3, hk3, hr3, hG3, fG, lG⟩
      obtain ⟨us, h1, h2, h3⟩ := hG3
      refine ⟨_, rfl, o, _, rfl, .inl ⟨.inl (.inl h1), fun l hl' => ?_⟩⟩
      have s1 := same_upd (o := .tup (us.map V.ref)) hl'
      exact q _ l G (sb3.trans (sameB_of s1)) (hk3.same s1) (ListF.tup (o := o) h2 h3 hl') fG (by rw [lG]; omega)
end
end K15
namespace K15
/-! ### all rows, by the law's own loop -/
def okNext (N : Nat) (row : List Int) (x : Nat) (v : Int) : Bool := (List.range x).all fun y => decide (((Int.gcd (N : Int) ((x : Int) - (y : Int)) : Nat) : Int) ∣ v - row.getD y 0)
def stepV (N : Nat) (row : List Int) (x n : Nat) : List (List Int) := ((List.range n).filter fun (v : Nat) => okNext N row x (v : Int)).map fun (v : Nat) => row ++ [(v : Int)]
def stepL (N x : Nat) (ts : List (List Int)) : List (List Int) := ts.flatMap fun row => stepV N row x N
def mapsP (N : Nat) : Nat → List (List Int)
  | 0 => [[]]
  | x + 1 => stepL N x (mapsP N x)
theorem stepV_succ (N : Nat) (row : List Int) (x n : Nat) : stepV N row x (n + 1) = stepV N row x n ++ (if okNext N row x (n : Int) = true then [row ++ [(n : Int)]] else []) := by
  unfold stepV
  rw [List.range_succ, List.filter_append, List.map_append]
  congr 1
  by_cases h : okNext N row x (n : Int) = true
  · rw [if_pos h]; simp [h]
  · rw [if_neg h]; simp [h]
theorem stepV_len (N : Nat) (row : List Int) (x n : Nat) : (stepV N row x n).length ≤ n := by
  unfold stepV
  rw [List.length_map]
  refine Nat.le_trans (List.length_filter_le _ _) ?_
  rw [List.length_range]
  exact Nat.le_refl _
theorem stepL_take {N x i : Nat} {ts : List (List Int)} {row : List Int} (h : ts[i]? = some row) : stepL N x (ts.take (i + 1)) = stepL N x (ts.take i) ++ stepV N row x N := by
  unfold stepL
  rw [List.take_add_one, h, List.flatMap_append]
  simp
theorem stepL_len (N x : Nat) : ∀ ts : List (List Int), (stepL N x ts).length ≤ N * ts.length
  | [] => Nat.zero_le _
  | t :: ts => by
    have ih := stepL_len N x ts
    have h1 := stepV_len N t x N
    have e : stepL N x (t :: ts) = stepV N t x N ++ stepL N x ts := rfl
    rw [e, List.length_append, List.length_cons, Nat.mul_add, Nat.mul_one]
    omega
theorem mapsP_len (N : Nat) : ∀ x, (mapsP N x).length ≤ N ^ x
  | 0 => Nat.le_refl _
  | x + 1 => by
    have := stepL_len N x (mapsP N x)
    have ih := Nat.mul_le_mul_left N (mapsP_len N x)
    rw [Nat.pow_succ, Nat.mul_comm]
    exact Nat.le_trans this ih
/-- the first x rests of a row -/
structure RowP (N x : Nat) (t : List Int) : Prop where
  len : t.length = x
  low : ∀ v ∈ t, 0 ≤ v ∧ v < N
  keeps : ∀ (a b : Nat) (u v : Int), t[a]? = some u → t[b]? = some v → ((Int.gcd (N : Int) ((a : Int) - b) : Nat) : Int) ∣ u - v
theorem gcd_swap (N : Int) (a b : Int) : Int.gcd N (a - b) = Int.gcd N (b - a) := by
  rw [show a - b = -(b - a) by omega, Int.gcd_neg]
theorem okNext_iff {N x : Nat} {row : List Int} {v : Int} (h : row.length = x) : okNext N row x v = true ↔ ∀ (y : Nat) (u : Int), row[y]? = some u → ((Int.gcd (N : Int) ((x : Int) - (y : Int)) : Nat) : Int) ∣ v - u := by
  unfold okNext
  rw [List.all_eq_true]
  constructor
  · intro k y u e
    have hy : y < x := by rw [← h]; exact (List.getElem?_eq_some_iff.mp e).1
    have := of_decide_eq_true (k y (List.mem_range.mpr hy))
    rw [List.getD_eq_getElem?_getD, e] at this
    exact this
  · intro k y hy
    have hy := List.mem_range.mp hy
    have e : row[y]? = some (row[y]'(by omega)) := List.getElem?_eq_getElem _
    refine decide_eq_true ?_
    rw [List.getD_eq_getElem?_getD,
      e]
    exact k y _ e
theorem mem_mapsP (N : Nat) : ∀ (x : Nat) (t : List Int), t ∈ mapsP N x ↔ RowP N x t
  | 0, t => by
    constructor
    · intro h
      rw [List.mem_singleton.mp h]
      exact ⟨rfl, fun v h => by simp at h, fun a b u v h => by simp at h⟩
    · intro h
      have : t = [] := List.eq_nil_of_length_eq_zero h.len
      rw [this]
      exact List.mem_singleton.mpr rfl
  | x + 1, t => by
    have ih := mem_mapsP N x
    constructor
    · intro h
      obtain ⟨row, h1, h2⟩ := List.mem_flatMap.mp (show t ∈ (mapsP N x).flatMap fun row => stepV N row x N from h)
      obtain ⟨v, h3, rfl⟩ := List.mem_map.mp h2
      obtain ⟨h4, h5⟩ := List.mem_filter.mp h3
      have hv := List.mem_range.mp h4
      have R := (ih row).mp h1
      have ok := (okNext_iff R.len).mp h5
      refine ⟨by rw [List.length_append, R.len]; rfl, fun u hu => ?_, fun a b u w ha hb => ?_⟩
      · rcases List.mem_append.mp hu with z | z
        · exact R.low u z
        · rw [(List.mem_singleton.mp z)]
          omega
      · have at_ : ∀ (c : Nat) (z : Int), (row ++ [(v : Int)])[c]? = some z → (c < x ∧ row[c]? = some z) ∨ (c = x ∧ z = (v : Int)) := by
          intro c z hc
          by_cases hcx : c < row.length
          · rw [List.getElem?_append_left hcx] at hc
            exact .inl ⟨by rw [← R.len]; exact hcx, hc⟩
          · rw [List.getElem?_append_right (by omega)] at hc
            obtain ⟨k, hk⟩ : ∃ k, c - row.length = k := ⟨_, rfl⟩
            rw [hk] at hc
            match k, hc with
            | 0, hc => exact .inr ⟨by have := R.len; omega, (Option.some.inj hc).symm⟩
        rcases at_ a u ha with ⟨_, ea⟩ | ⟨rfl, rfl⟩ <;> rcases at_ b w hb with ⟨_, eb⟩ | ⟨rfl, rfl⟩
        · exact R.keeps a b u w ea eb
        · have := ok a u ea
          rw [gcd_swap]
          have z := Int.dvd_neg.mpr this
          rwa [show -((v : Int) - u) = u - v by omega] at z
        · exact ok b w eb
        · rw [Int.sub_self (v : Int)]; exact Int.dvd_zero _
    · intro R
      have hl : t.length = x + 1 := R.len
      obtain ⟨row, v, rfl⟩ : ∃ row v, t = row ++ [v] := ⟨t.dropLast, t.getLast (by intro z; rw [z] at hl; simp at hl), (List.dropLast_concat_getLast _).symm⟩
      have hrl : row.length = x := by rw [List.length_append] at hl; simpa using hl
      have lv := R.low v (List.mem_append_right _ (List.mem_singleton.mpr rfl))
      have old : ∀ (c : Nat) (z : Int), row[c]? = some z → (row ++ [v])[c]? = some z := fun c z hc => by
        rw [List.getElem?_append_left (List.getElem?_eq_some_iff.mp hc).1]; exact hc
      have new : (row ++ [v])[x]? = some v := by
        rw [List.getElem?_append_right (by omega), hrl]; simp
      refine List.mem_flatMap.mpr ⟨row, (ih row).mpr ⟨hrl, fun u hu => R.low u (List.mem_append_left _ hu), fun a b u w ha hb => R.keeps a b u w (old _ _ ha) (old _ _ hb)⟩, ?_⟩
      refine List.mem_map.mpr ⟨v.toNat, List.mem_filter.mpr ⟨List.mem_range.mpr (by omega), ?_⟩, by rw [Int.toNat_of_nonneg lv.1]⟩
      rw [Int.toNat_of_nonneg lv.1]
      exact (okNext_iff hrl).mpr fun y u hy => R.keeps x y v u new (old _ _ hy)
theorem mem_mapsS {N : Nat} {t : List Int} : t ∈ mapsP N N ↔ Row N t := (mem_mapsP N N t).trans ⟨fun h => ⟨h.len, h.low, h.keeps⟩, fun h => ⟨h.len, h.low, h.keeps⟩⟩
/-! ### rows of six and of twelve -/
def bigRow (f c N : Nat) (one two : List Int) : List Int := (List.range N).map fun (x : Nat) => ((c : Int) * one.getD (x % f) 0 + 4 * two.getD (x % 3) 0) % (N : Int)
def mapsB (f c N : Nat) : List (List Int) := (mapsP f f).flatMap fun one => (mapsP 3 3).map fun two => bigRow f c N one two
theorem getD_row {N : Nat} {t : List Int} (R : Row N t) {x : Nat} (h : x < N) : t[x]? = some (t.getD x 0) := by
  have : x < t.length := by rw [R.len]; exact h
  rw [List.getD_eq_getElem?_getD, List.getElem?_eq_getElem this]
  rfl
theorem getD_map_range {g : Nat → Int} {N x : Nat} (h : x < N) : ((List.range N).map g)[x]? = some (g x) := by
  rw [List.getElem?_map, List.getElem?_range h]
  rfl
/-- what ties the parts to the whole -/
structure Parts (f c N : Nat) : Prop where
  f0 : 0 < f
  N0 : 0 < N
  fN : f ≤ N
  tN : 3 ≤ N
  fd : (f : Int) ∣ (N : Int)
  td : (3 : Int) ∣ (N : Int)
  fc : (f : Int) ∣ (c : Int) - 1
  c3 : (3 : Int) ∣ (c : Int)
  f4 : (f : Int) ∣ 4
  both : ∀ z : Int, (f : Int) ∣ z → (3 : Int) ∣ z → (N : Int) ∣ z
  up : ∀ d z : Int, ((Int.gcd (f : Int) d : Nat) : Int) ∣ z → ((Int.gcd 3 d : Nat) : Int) ∣ z → ((Int.gcd (N : Int) d : Nat) : Int) ∣ z
theorem in_gcd {k m d z : Int} (h1 : k ∣ m) (h2 : k ∣ d) (h : ((Int.gcd m d : Nat) : Int) ∣ z) : k ∣ z := Int.dvd_trans (Int.dvd_coe_gcd h1 h2) h
theorem parts6 : Parts 2 3 6 := by
  refine ⟨by decide, by decide, by decide, by decide, by decide, by decide, by decide, by decide, by decide, fun z h1 h2 => by omega, fun d z h1 h2 => ?_⟩
  obtain ⟨g, hg⟩ : ∃ g, g = Int.gcd ((6 : Nat) : Int) d := ⟨_, rfl⟩
  have a1 : (g : Int) ∣ 6 := by rw [hg]; exact Int.gcd_dvd_left _ _
  have a2 : (g : Int) ∣ d := by rw [hg]; exact Int.gcd_dvd_right _ _
  rw [← hg]
  have hm : g ∈ divs := mem_divs (Nat.dvd_trans (Int.ofNat_dvd.mp a1) (by decide))
  simp only [divs, List.mem_cons, List.not_mem_nil, or_false] at hm
  rcases hm with e | e | e | e | e | e <;> rw [e] at a1 a2 ⊢
  · exact Int.one_dvd _
  · exact in_gcd (m := ((2 : Nat) : Int)) (by decide) a2 h1
  · exact in_gcd (m := 3) (by decide) a2 h2
  · exact absurd a1 (by decide)
  · have x := in_gcd (k := 2) (m := ((2 : Nat) : Int)) (by decide) (by omega) h1
    have y := in_gcd (k := 3) (m := 3) (by decide) (by omega) h2
    omega
  · exact absurd a1 (by decide)
theorem parts12 : Parts 4 9 12 := by
  refine ⟨by decide, by decide, by decide, by decide, by decide, by decide, by decide, by decide, by decide, fun z h1 h2 => by omega, fun d z h1 h2 => ?_⟩
  obtain ⟨g, hg⟩ : ∃ g, g = Int.gcd ((12 : Nat) : Int) d := ⟨_, rfl⟩
  have a1 : (g : Int) ∣ 12 := by rw [hg]; exact Int.gcd_dvd_left _ _
  have a2 : (g : Int) ∣ d := by rw [hg]; exact Int.gcd_dvd_right _ _
  rw [← hg]
  have hm : g ∈ divs := mem_divs (Int.ofNat_dvd.mp a1)
  simp only [divs, List.mem_cons, List.not_mem_nil, or_false] at hm
  rcases hm with e | e | e | e | e | e <;> rw [e] at a1 a2 ⊢
  · exact Int.one_dvd _
  · exact in_gcd (m := ((4 : Nat) : Int)) (by decide) a2 h1
  · exact in_gcd (m := 3) (by decide) a2 h2
  · exact in_gcd (m := ((4 : Nat) : Int)) (by decide) a2 h1
  · have x := in_gcd (k := 2) (m := ((4 : Nat) : Int)) (by decide) (by omega) h1
    have y := in_gcd (k := 3) (m := 3) (by decide) (by omega) h2
    omega
  · have x := in_gcd (k := 4) (m := ((4 : Nat) : Int)) (by decide) (by omega) h1
    have y := in_gcd (k := 3) (m := 3) (by decide) (by omega) h2
    omega
/-- a row's rests at places that agree -/
theorem Row.near {N : Nat} {t : List Int} (R : Row N t) {k : Int} (hk : k ∣ (N : Int)) {x y : Nat} (hx : x < N) (hy : y < N) (h : k ∣ (x : Int) - y) : k ∣ t.getD x 0 - t.getD y 0 :=
  Int.dvd_trans (Int.dvd_coe_gcd hk h) (R.keeps x y _ _ (getD_row R hx) (getD_row R hy))
theorem getD_mod {a : Nat} {k : Nat} : ((k : Nat) : Int) ∣ (a : Int) - ((a % k : Nat) : Int) := by
  have := Nat.div_add_mod a k
  exact ⟨((a / k : Nat) : Int), by rw [← Int.natCast_mul]; omega⟩
theorem mod_dvd {k N : Nat} {z : Int} (h : (k : Int) ∣ (N : Int)) : (k : Int) ∣ z % (N : Int) - z := by
  have e := Int.mul_ediv_add_emod z (N : Int)
  have : z % (N : Int) - z = (N : Int) * (-(z / (N : Int))) := by rw [Int.mul_neg]; omega
  rw [this]
  exact Int.dvd_trans h (Int.dvd_mul_right _ _)
section
variable {f c N : Nat} (P : Parts f c N)
include P
/-- the made rest by f, by 3 -/
theorem big_f (a b : Int) : (f : Int) ∣ ((c : Int) * a + 4 * b) % (N : Int) - a := by
  have h1 := mod_dvd (z := (c : Int) * a + 4 * b) P.fd
  have h2 : (f : Int) ∣ ((c : Int) - 1) * a := Int.dvd_trans P.fc (Int.dvd_mul_right _ _)
  have h3 : (f : Int) ∣ 4 * b := Int.dvd_trans P.f4 (Int.dvd_mul_right _ _)
  have := Int.dvd_add h1 (Int.dvd_add h2 h3)
  rw [Int.sub_mul, Int.one_mul] at this
  have e : ((c : Int) * a + 4 * b) % (N : Int) - ((c : Int) * a + 4 * b) + ((c : Int) * a - a + 4 * b) = ((c : Int) * a + 4 * b) % (N : Int) - a := by omega
  rwa [e] at this
theorem big_3 (a b : Int) : (3 : Int) ∣ ((c : Int) * a + 4 * b) % (N : Int) - b := by
  have h1 := mod_dvd (k := 3) (z := (c : Int) * a + 4 * b) P.td
  have h2 : (3 : Int) ∣ (c : Int) * a := Int.dvd_trans P.c3 (Int.dvd_mul_right _ _)
  have h1 : (3 : Int) ∣ ((c : Int) * a + 4 * b) % (N : Int) - ((c : Int) * a + 4 * b) := h1
  obtain ⟨p, hp⟩ := h1
  obtain ⟨q, hq⟩ := h2
  exact ⟨p + q + b, by omega⟩
theorem bigRow_row {one two : List Int} (R1 : Row f one) (R2 : Row 3 two) : Row N (bigRow f c N one two) := by
  have hN : (0 : Int) < (N : Int) := by have := P.N0; omega
  refine ⟨by unfold bigRow; rw [List.length_map, List.length_range], fun v hv => ?_, fun x y u v hx hy => ?_⟩
  · obtain ⟨x, _, rfl⟩ := List.mem_map.mp hv
    exact ⟨Int.emod_nonneg _ (by omega), Int.emod_lt_of_pos _ hN⟩
  · have lx : x < N := by have := (List.getElem?_eq_some_iff.mp hx).1; unfold bigRow at this; rwa [List.length_map, List.length_range] at this
    have ly : y < N := by have := (List.getElem?_eq_some_iff.mp hy).1; unfold bigRow at this; rwa [List.length_map, List.length_range] at this
    have ex := (getD_map_range (g := fun (x : Nat) => ((c : Int) * one.getD (x % f) 0 + 4 * two.getD (x % 3) 0) % (N : Int)) lx).symm.trans hx
    have ey := (getD_map_range (g := fun (x : Nat) => ((c : Int) * one.getD (x % f) 0 + 4 * two.getD (x % 3) 0) % (N : Int)) ly).symm.trans hy
    cases ex
    cases ey
    refine P.up _ _ ?_ ?_
    · -- by the part of f
      obtain ⟨k, hk⟩ : ∃ k : Int, k = ((Int.gcd (f : Int) ((x : Int) - y) : Nat) : Int) := ⟨_, rfl⟩
      rw [← hk]
      have kf : k ∣ (f : Int) := by rw [hk]; exact Int.gcd_dvd_left _ _
      have kd : k ∣ (x : Int) - y := by rw [hk]; exact Int.gcd_dvd_right _ _
      have d1 := Int.dvd_trans kf (big_f P (one.getD (x % f) 0) (two.getD (x % 3) 0))
      have d2 := Int.dvd_trans kf (big_f P (one.getD (y % f) 0) (two.getD (y % 3) 0))
      have d3 : k ∣ one.getD (x % f) 0 - one.getD (y % f) 0 := by
        refine R1.near kf (Nat.mod_lt _ P.f0) (Nat.mod_lt _ P.f0) ?_
        have m1 := Int.dvd_trans kf (getD_mod (a := x) (k := f))
        have m2 := Int.dvd_trans kf (getD_mod (a := y) (k := f))
        have := Int.dvd_add (Int.dvd_sub kd m1) m2
        have e : (x : Int) - y - ((x : Int) - ((x % f : Nat) : Int)) + ((y : Int) - ((y % f : Nat) : Int)) = ((x % f : Nat) : Int) - ((y % f : Nat) : Int) := by omega
        rwa [e] at this
      have := Int.dvd_add (Int.dvd_sub d1 d2) d3
      have e : ∀ p q r s : Int, p - r - (q - s) + (r - s) = p - q := fun p q r s => by omega
      rwa [e] at this
    · obtain ⟨k, hk⟩ : ∃ k : Int, k = ((Int.gcd (3 : Int) ((x : Int) - y) : Nat) : Int) := ⟨_, rfl⟩
      rw [← hk]
      have kf : k ∣ (3 : Int) := by rw [hk]; exact Int.gcd_dvd_left _ _
      have kd : k ∣ (x : Int) - y := by rw [hk]; exact Int.gcd_dvd_right _ _
      have d1 := Int.dvd_trans kf (big_3 P (one.getD (x % f) 0) (two.getD (x % 3) 0))
      have d2 := Int.dvd_trans kf (big_3 P (one.getD (y % f) 0) (two.getD (y % 3) 0))
      have d3 : k ∣ two.getD (x % 3) 0 - two.getD (y % 3) 0 := by
        refine R2.near kf (Nat.mod_lt _ (by decide)) (Nat.mod_lt _ (by decide)) ?_
        have m1 := Int.dvd_trans kf (getD_mod (a := x) (k := 3))
        have m2 := Int.dvd_trans kf (getD_mod (a := y) (k := 3))
        have := Int.dvd_add (Int.dvd_sub kd m1) m2
        have e : (x : Int) - y - ((x : Int) - ((x % 3 : Nat) : Int)) + ((y : Int) - ((y % 3 : Nat) : Int)) = ((x % 3 : Nat) : Int) - ((y % 3 : Nat) : Int) := by omega
        rwa [e] at this
      have := Int.dvd_add (Int.dvd_sub d1 d2) d3
      have e : ∀ p q r s : Int, p - r - (q - s) + (r - s) = p - q := fun p q r s => by omega
      rwa [e] at this
/-- a row's first rests, by a part -/
theorem partRow {k : Nat} {t : List Int} (k0 : 0 < k) (hkN : k ≤ N) (hd : (k : Int) ∣ (N : Int)) (R : Row N t) : Row k ((List.range k).map fun (x : Nat) => t.getD x 0 % (k : Int)) := by
  refine ⟨by rw [List.length_map, List.length_range], fun v hv => ?_, fun x y u v hx hy => ?_⟩
  · obtain ⟨x, _, rfl⟩ := List.mem_map.mp hv
    exact ⟨Int.emod_nonneg _ (by omega), Int.emod_lt_of_pos _ (by omega)⟩
  · have lx : x < k := by have := (List.getElem?_eq_some_iff.mp hx).1; rwa [List.length_map, List.length_range] at this
    have ly : y < k := by have := (List.getElem?_eq_some_iff.mp hy).1; rwa [List.length_map, List.length_range] at this
    have ex := (getD_map_range (g := fun (x : Nat) => t.getD x 0 % (k : Int)) lx).symm.trans hx
    have ey := (getD_map_range (g := fun (x : Nat) => t.getD x 0 % (k : Int)) ly).symm.trans hy
    cases ex
    cases ey
    have kf : ((Int.gcd (k : Int) ((x : Int) - y) : Nat) : Int) ∣ (k : Int) := Int.gcd_dvd_left _ _
    have d1 := Int.dvd_trans kf (mod_dvd (z := t.getD x 0) (Int.dvd_refl (k : Int)))
    have d2 := Int.dvd_trans kf (mod_dvd (z := t.getD y 0) (Int.dvd_refl (k : Int)))
    have d3 := R.near (Int.dvd_trans kf hd) (Nat.lt_of_lt_of_le lx hkN) (Nat.lt_of_lt_of_le ly hkN) (Int.gcd_dvd_right _ _)
    have := Int.dvd_add (Int.dvd_sub d1 d2) d3
    have e : ∀ p q r s : Int, p - r - (q - s) + (r - s) = p - q := fun p q r s => by omega
    rwa [e] at this
theorem mem_mapsB {t : List Int} : t ∈ mapsB f c N ↔ Row N t := by
  unfold mapsB
  constructor
  · intro h
    obtain ⟨one, h1, h2⟩ := List.mem_flatMap.mp h
    obtain ⟨two, h3, rfl⟩ := List.mem_map.mp h2
    exact bigRow_row P (mem_mapsS.mp h1) (mem_mapsS.mp h3)
  · intro R
    have R1 := partRow P P.f0 P.fN P.fd R
    have R2 := partRow P (k := 3) (by decide) P.tN P.td R
    refine List.mem_flatMap.mpr ⟨_, mem_mapsS.mpr R1, List.mem_map.mpr ⟨_, mem_mapsS.mpr R2, ?_⟩⟩
    refine List.ext_getElem? fun x => ?_
    by_cases hx : x < N
    · unfold bigRow
      rw [getD_map_range hx, getD_row R hx]
      congr 1
      have e1 : ((List.range f).map fun (x : Nat) => t.getD x 0 % (f : Int)).getD (x % f) 0 = t.getD (x % f) 0 % (f : Int) := by
        rw [List.getD_eq_getElem?_getD, getD_map_range (Nat.mod_lt _ P.f0)]; rfl
      have e2 : ((List.range 3).map fun (x : Nat) => t.getD x 0 % ((3 : Nat) : Int)).getD (x % 3) 0 = t.getD (x % 3) 0 % ((3 : Nat) : Int) := by
        rw [List.getD_eq_getElem?_getD, getD_map_range (Nat.mod_lt _ (by decide))]; rfl
      rw [e1, e2]
      obtain ⟨z, hz⟩ : ∃ z, z = ((c : Int) * (t.getD (x % f) 0 % (f : Int)) + 4 * (t.getD (x % 3) 0 % ((3 : Nat) : Int))) % (N : Int) := ⟨_, rfl⟩
      rw [← hz]
      have b1 := big_f P (t.getD (x % f) 0 % (f : Int)) (t.getD (x % 3) 0 % ((3 : Nat) : Int))
      have b2 := big_3 P (t.getD (x % f) 0 % (f : Int)) (t.getD (x % 3) 0 % ((3 : Nat) : Int))
      rw [← hz] at b1 b2
      have fx : (f : Int) ∣ z - t.getD x 0 := by
        have n1 := R.near P.fd (Nat.lt_of_lt_of_le (Nat.mod_lt x P.f0) P.fN) hx (by have := Int.dvd_neg.mpr (getD_mod (a := x) (k := f)); rwa [Int.neg_sub] at this)
        have n2 := mod_dvd (z := t.getD (x % f) 0) (Int.dvd_refl (f : Int))
        have := Int.dvd_add (Int.dvd_add b1 n2) n1
        have e : ∀ p q r s : Int, p - q + (q - r) + (r - s) = p - s := fun p q r s => by omega
        rwa [e] at this
      have tx : (3 : Int) ∣ z - t.getD x 0 := by
        have n1 := R.near P.td (Nat.lt_of_lt_of_le (Nat.mod_lt x (by decide : 0 < 3)) P.tN) hx (by have := Int.dvd_neg.mpr (getD_mod (a := x) (k := 3)); rwa [Int.neg_sub] at this)
        have n2 := mod_dvd (k := 3) (z := t.getD (x % 3) 0) (Int.dvd_refl ((3 : Nat) : Int))
        have := Int.dvd_add (Int.dvd_add b2 n2) n1
        have e : ∀ p q r s : Int, p - q + (q - r) + (r - s) = p - s := fun p q r s => by omega
        rwa [e] at this
      have dv := P.both _ fx tx
      have hN : (0 : Int) < (N : Int) := by have := P.N0; omega
      have z0 : 0 ≤ z := by rw [hz]; exact Int.emod_nonneg _ (by omega)
      have z1 : z < (N : Int) := by rw [hz]; exact Int.emod_lt_of_pos _ hN
      have l := R.low _ (List.mem_of_getElem? (getD_row R hx))
      obtain ⟨m, hm⟩ := dv
      have m0 : m = 0 := by
        rcases Int.lt_trichotomy m 0 with q | q | q
        · have : (N : Int) * m ≤ (N : Int) * (-1) := Int.mul_le_mul_of_nonneg_left (by omega) (by omega)
          omega
        · exact q
        · have : (N : Int) * 1 ≤ (N : Int) * m := Int.mul_le_mul_of_nonneg_left (by omega) (by omega)
          omega
      rw [m0, Int.mul_zero] at hm
      omega
    · rw [List.getElem?_eq_none (by unfold bigRow; rw [List.length_map, List.length_range]; omega), List.getElem?_eq_none (by rw [R.len]; omega)]
end
end K15
namespace K15
open L2 PySem PySem.Spec PyProof.Rows
theorem MapsAt.same {H H' : Hp} {M : Addr} {ts : List (List Int)} (h : MapsAt H M ts) (s : Same H H') : MapsAt H' M ts := by
  obtain ⟨rs, h1, h2, h3⟩ := h
  exact ⟨rs, s _ _ h1, h2, fun i r t e1 e2 => s _ _ (h3 i r t e1 e2)⟩
theorem MapsAt.nil {H : Hp} {o : Addr} (h : H o = some (.lst [])) : MapsAt H o [] := ⟨[], h, rfl, fun i r f e => by simp at e⟩
/-- one row more, at p -/
theorem MapsAt.more {H : Hp} {o p : Addr} {ts : List (List Int)} {t : List Int} {rs : List Addr} (h1 : H o = some (.lst (rs.map V.ref))) (h2 : rs.length = ts.length) (h3 : ∀ (i : Nat) (r : Addr) (t : List Int), rs[i]? = some r → ts[i]? = some t → H r = some (.tup (t.map V.int)))
    (ht : H p = some (.tup (t.map V.int))) : MapsAt (upd H o (.lst ((rs ++ [p]).map V.ref))) o (ts ++ [t]) := by
  refine ⟨rs ++ [p], upd_same, by simp [h2], fun i r g e1 e2 => ?_⟩
  have no : ∀ r x, H r = some (.tup x) → r ≠ o := fun r x hx z => by
    rw [z, h1] at hx
    cases hx
  by_cases hi : i < rs.length
  · rw [List.getElem?_append_left hi] at e1
    rw [List.getElem?_append_left (by omega)] at e2
    have := h3 i r g e1 e2
    rw [upd_ne (no _ _ this)]
    exact this
  · rw [List.getElem?_append_right (by omega)] at e1
    rw [List.getElem?_append_right (by omega), ← h2] at e2
    obtain ⟨k, hk⟩ : ∃ k, i - rs.length = k := ⟨_, rfl⟩
    rw [hk] at e1 e2
    match k, e1, e2 with
    | 0, e1, e2 =>
      cases Option.some.inj e1
      cases Option.some.inj e2
      rw [upd_ne (no _ _ ht)]
      exact ht
/-- the rows stand while another list is written -/
theorem MapsAt.upd {H : Hp} {o M : Addr} {ts : List (List Int)} {xs ys : List V} (h : MapsAt H M ts) (ne : M ≠ o) (ho : H o = some (.lst xs)) : MapsAt (L2.upd H o (.lst ys)) M ts := by
  obtain ⟨rs, h1, h2, h3⟩ := h
  refine ⟨rs, by rw [upd_ne ne]; exact h1, h2, fun i r t e1 e2 => ?_⟩
  have := h3 i r t e1 e2
  rw [upd_ne (fun z => by rw [z, ho] at this; cases this)]
  exact this
section
variable {w : World} {P : Program} {K : PySem.W.Frag} {base : Heap} {mg : Str → Option Value}
def NM : List Str := ["_law_size", "_law_first", "_law_times", "_law_found", "_law_one_map", "_law_two_map", "_law_x", "_law_row", "_law_later", "_law_rest_here", "_law_each", "_law_y"]
theorem sc_law_maps : FnScope NM ["_law_size"] (defScope s_law_maps) := ⟨rfl, rfl, rfl, by decide +kernel, rfl, by decide +kernel, by decide +kernel⟩
/-- rows of 2, 3 or 4 -/
def spMapsS : Sp := fun vs H Q _ => ∃ N : Nat, vs = [.int (N : Int)] ∧ 0 < N ∧ N ≤ 4 ∧ ∀ (H' : Hp) (p : Addr), Same H H' → H p = none → MapsAt H' p (mapsP N N) → Q (.ref p) H'
theorem mapsP_small {N x : Nat} (hN : 0 < N) (h4 : N ≤ 4) (hx : x ≤ N) : (mapsP N x).length ≤ 256 := by
  refine Nat.le_trans (mapsP_len N x) (Nat.le_trans (Nat.pow_le_pow_left h4 x) (Nat.le_trans (Nat.pow_le_pow_right (by decide) (Nat.le_trans hx h4)) (by decide)))
theorem maps_bodyS (T : Txt K mg) {f : Addr} {cdv : Value} {A : Around} {outer : List Env} {s : Shared} {H : Hp} {Q : VK} {E : XK} {N : Nat} (hr : Room 2 (A.deeper (envOfC "_law_maps" (defScope s_law_maps) s.heap.objs.size f cdv))) (hN : 0 < N) (h4 : N ≤ 4)
    (q : ∀ (H' : Hp) (p : Addr), Same H H' → H p = none → MapsAt H' p (mapsP N N) → Q (.ref p) H') :
    ∃ t, PSs (cxOf CX0 P w K mg base NM "_law_maps" (defScope s_law_maps) f cdv A outer s H E) (defBody s_law_maps) t ∧ t { nx := fun _ H' => Q .non H', rt := Q } (start NM [.int (N : Int)]) H := by
  have Ga := has_law_agree (P := P) (w := w) (base := base) T
  have Gg := has_law_gcd (P := P) (w := w) (base := base) T
  have hr1 : Room 1 (A.deeper (envOfC "_law_maps" (defScope s_law_maps) s.heap.objs.size f cdv)) := hr.mono (by decide)
  have mR : mg "range" = none := T.fr _ (by decide +kernel)
  refine ⟨_, PSs.nox (pss_cons (ps_if (pt_cmp (pc_gt (pv 0) pe_int)) pss_never pss_nil)
    (pss_cons (ps_set (i := 3) sc_law_maps.nd rfl (.inl rfl) (pe_lst (pa_cons (pe_tup pa_nil) pa_nil)))
    (pss_cons (ps_for PassesOwn.never rfl (pi_range1 rfl mR (pa_cons (pv 0) pa_nil)) (pg_name (i := 6) sc_law_maps.nd rfl (.inr rfl))
      (pss_cons (ps_set (i := 8) sc_law_maps.nd rfl (.inl rfl) (pe_lst pa_nil))
      (pss_cons (ps_for PassesOwn.never rfl (pi_list (pv 3)) (pg_name (i := 7) sc_law_maps.nd rfl (.inr rfl))
        (pss_one (ps_for PassesOwn.never rfl (pi_range1 rfl mR (pa_cons (pv 0) pa_nil)) (pg_name (i := 9) sc_law_maps.nd rfl (.inr rfl))
          (pss_one (ps_if (pt_cmpR (op_eqD hr.units) (pe_lc (own := [("_law_y", 11)]) (g := gName 11) rfl sc_law_maps.nd (pi_range1 rfl mR (pa_cons (pv 6) pa_nil)) (blkOk_by (N := NM) (sc := defScope s_law_maps) (by decide +kernel))
              (fun _ _ _ _ _ => pg_name (i := 11) sc_law_maps.nd rfl (Or.inl rfl))
              (fun _ _ _ _ _ => pts_one (pt_not (pt_val (pe_fn Ga hr1 (pa_cons (pv 9) (pa_cons (pe_ix (ixT K) (pv 7) (pv 11) (fun _ _ => rfl)) (pa_cons (pe_fn Gg hr1 (pa_cons (pv 0) (pa_cons (pe_op op_sub (pv 6) (pv 11)) pa_nil))) pa_nil)))))))
              (fun _ _ _ _ _ => pv 11)) (pe_lst pa_nil) (nomark _))
            (pss_one (ps_expr (pe_bm PySem.F.plainAttrs_list PySem.F.slot_list_append PySem.F.type_list_append mt_append (pv 8) (pa_cons (pe_op op_catA (pv 7) (pe_tup (pa_cons (pv 9) pa_nil))) pa_nil)))) pss_nil)))))
      (pss_one (ps_set (i := 3) sc_law_maps.nd rfl (.inl rfl) (pv 8))))))
    (pss_one (ps_ret (pv 3)))))), ?_⟩
  refine ⟨_, rfl, (N : Int), 4, rfl, rfl, _, rfl, ite2 (fun c => absurd (of_decide_eq_true c) (by omega)) (fun _ => ?_)⟩
  refine ⟨Nat.zero_le _, fun e0 he0 => ⟨by show 1 ≤ sizeLine; decide, fun L0 hL0 => ?_⟩⟩
  have s1 := same_upd (o := .tup []) he0
  have s2 := same_upd (o := .lst [.ref e0]) hL0
  have sm0 := s1.trans s2
  have m0 : MapsAt (upd (upd H e0 (.tup [])) L0 (.lst [.ref e0])) L0 (mapsP N 0) := by
    refine ⟨[e0], upd_same, rfl, fun i r t a1 a2 => ?_⟩
    match i, a1, a2 with
    | 0, a1, a2 =>
      cases Option.some.inj a1
      cases Option.some.inj a2
      exact s2 _ _ upd_same
  have nL0 : H L0 = none := by
    cases hh : H L0 with
    | none => rfl
    | some o =>
      have := s1 _ _ hh
      rw [hL0] at this
      cases this
  refine ⟨_, rfl, _, rfl, by omega, by omega, ?_⟩
  refine for_it (walk_range (lo := 0) (n := ((N : Int)).toNat)) (fun x σ H' => ∃ y1 y2 y4 y5 y6 y7 y8 y9 y10 y11 L, σ = [some (.int (N : Int)), y1, y2, some (.ref L), y4, y5, y6, y7, y8, y9, y10, y11] ∧ Same H H' ∧ H L = none ∧ MapsAt H' L (mapsP N x))
    ⟨none, none, none, none, none, none, none, none, none, none, L0, rfl, sm0, nL0, m0⟩ (fun _ _ _ _ _ => trivial) ?_ ?_
  · rintro x v σ Ha H1 hx ⟨y1, y2, y4, y5, y6, y7, y8, y9, y10, y11, L, rfl, s3, nL, hL⟩ ⟨rfl, rfl⟩
    have hxN : x < N := by omega
    have e0 : (0 : Int) + (x : Int) = (x : Int) := Int.zero_add _
    dsimp only
    rw [e0]
    refine ⟨Nat.zero_le _, fun D hD => ?_⟩
    have sD := same_upd (o := .lst []) hD
    obtain ⟨rs, hL1, hL2, hL3⟩ := id hL
    have LD : L ≠ D := ne_of_none hL1 hD
    have nD : H D = none := by
      cases hh : H D with
      | none => rfl
      | some o =>
        have := s3 _ _ hh
        rw [hD] at this
        cases this
    have small := mapsP_small hN h4 (Nat.le_of_lt hxN)
    have rowlen : ∀ t ∈ mapsP N x, t.length = x := fun t ht => ((mem_mapsP N x t).mp ht).len
    refine ⟨_, rfl, L, rfl, ⟨_, .inl (.inl (sD _ _ hL1))⟩, ?_⟩
    refine for_it (walk_list (K := K) (a := L) (xs := rs.map V.ref)) (fun i σ H' => ∃ y7 y9, σ = [some (.int (N : Int)), y1, y2, some (.ref L), y4, y5, some (.int (x : Int)), y7, some (.ref D), y9, y10, y11] ∧ SameB D H1 H' ∧ MapsAt H' D (stepL N x ((mapsP N x).take i)))
      ⟨y7, y9, rfl, sameB_of sD, MapsAt.nil upd_same⟩ (fun i σ H' _ h => ?_) ?_ ?_
    · obtain ⟨_, _, _, sb, _⟩ := h
      exact .inl (.inl (sb _ _ LD hL1))
    · rintro i v0 σ Hb H2 hi ⟨y7, y9, rfl, sb, hM⟩ ⟨rfl, hx0⟩
      obtain ⟨r, er, rfl⟩ := at_map hx0
      obtain ⟨row, et⟩ := at_len hL2 er
      have hrow1 := hL3 i r row er et
      have rD : r ≠ D := ne_of_none hrow1 hD
      have hrl : row.length = x := rowlen row (List.mem_of_getElem? et)
      have hiM : i < (mapsP N x).length := (List.getElem?_eq_some_iff.mp et).1
      have len1 : (stepL N x ((mapsP N x).take i)).length ≤ 4 * 256 := by
        refine Nat.le_trans (stepL_len N x _) (Nat.mul_le_mul h4 ?_)
        rw [List.length_take]
        omega
      refine ⟨_, rfl, _, rfl, by omega, by omega, ?_⟩
      refine for_it (walk_range (lo := 0) (n := ((N : Int)).toNat)) (fun v σ H' => ∃ y9, σ = [some (.int (N : Int)), y1, y2, some (.ref L), y4, y5, some (.int (x : Int)), some (.ref r), some (.ref D), y9, y10, y11] ∧ SameB D H1 H' ∧ MapsAt H' D (stepL N x ((mapsP N x).take i) ++ stepV N row x v))
        ⟨y9, rfl, sb, by rw [show stepV N row x 0 = [] from rfl, List.append_nil]; exact hM⟩ (fun _ _ _ _ _ => trivial) ?_ ?_
      · rintro v w0 σ Hb H3 hv ⟨y9, rfl, sb, hM⟩ ⟨rfl, rfl⟩
        have hvN : v < N := by omega
        have e1 : (0 : Int) + (v : Int) = (v : Int) := Int.zero_add _
        dsimp only
        rw [e1]
        have hr3 := sb _ _ rD hrow1
        refine ⟨_, rfl, _, rfl, by omega, by omega, fun D2 hD2 => ?_⟩
        let okB : Nat → Bool := fun y => decide (((Int.gcd (N : Int) ((x : Int) - (y : Int)) : Nat) : Int) ∣ (v : Int) - row.getD y 0)
        refine lc_range (lo := 0) (n := ((x : Int)).toNat) (fun k H' => Same H3 H' ∧ H' D2 = some (.lst (numsV ((List.range k).filter fun y => !okB y)))) ⟨same_upd hD2, upd_same⟩ ?_ ?_
        · rintro k H4 hk ⟨sc, hd⟩
          have hkx : k < x := by omega
          have e2 : (0 : Int) + (k : Int) = (k : Int) := Int.zero_add _
          rw [e2]
          refine ⟨rfl, ?_⟩
          have hk2 : (row.map V.int)[k]? = some (.int (row.getD k 0)) := by
            have : k < row.length := by omega
            rw [List.getElem?_map, List.getElem?_eq_getElem this, List.getD_eq_getElem?_getD, List.getElem?_eq_getElem this]
            rfl
          refine ⟨_, rfl, _, rfl, _, rfl, r, _, (k : Int), .int (row.getD k 0), rfl, rfl, .inl (.inl (sc _ _ hr3)), atI_nat (j := k) hk2, _, rfl, _, rfl, _, rfl, _, _, rfl, rfl, _, _, rfl, _, _, _, rfl, _, rfl, ?_⟩
          show if (!okB k) = true then _ else _
          have ef := filt_more (p := fun y => !okB y) (k := k)
          cases ho : okB k with
          | true =>
            refine iteF ⟨sc, ?_⟩
            rw [ef, ho]
            rw [if_neg (by decide), List.append_nil]
            exact hd
          | false =>
            refine iteT ⟨_, rfl, _, hd, ?_, fun bb o z => ?_, ?_⟩
            · unfold numsV
              rw [List.length_map]
              have := List.length_filter_le (fun y => !okB y) (List.range k)
              rw [List.length_range] at this
              exact small1000 (by omega)
            · rw [upd_ne (ne_of_none z hD2)]
              exact sc _ _ z
            · rw [upd_same, ef, ho, if_pos (by decide)]
              unfold numsV
              rw [List.map_append]
              rfl
        · rintro H4 ⟨sc, hd⟩
          rw [show ((x : Int)).toNat = x from Int.toNat_natCast x] at hd
          refine ⟨Nat.zero_le _, fun l nl => ?_⟩
          have sl := same_upd (o := .lst []) nl
          refine ⟨_, _, .lst (.inl (.inl (sl _ _ hd))) (dp_ints2 _ _ _), .lst (.inl (.inl upd_same)) .nil, shaped_ints2 _, shaped_nil, _, rfl, ?_⟩
          rw [eqv_nil (fun (k : Nat) => PyData.int (k : Int))]
          have eok : decide ((List.range x).filter (fun y => !okB y) = []) = okNext N row x (v : Int) := by
            unfold okNext
            rw [Bool.eq_iff_iff, decide_eq_true_iff, List.filter_eq_nil_iff, List.all_eq_true]
            constructor
            · intro z y hy
              have := z y hy
              simpa [okB] using this
            · intro z y hy
              have := z y hy
              simpa [okB] using this
          rw [eok]
          have s34 := sc.trans sl
          have es := stepV_succ N row x v
          have sb4 : SameB D H1 (upd H4 l (.lst [])) := sb.trans (sameB_of s34)
          have hM4 := hM.same s34
          generalize upd H4 l (.lst []) = H5 at s34 sb4 hM4 ⊢
          cases hok : okNext N row x (v : Int) with
          | false =>
            rw [hok, if_neg (by decide), List.append_nil] at es
            refine iteF ⟨_, rfl, sb4, ?_⟩
            rw [es]
            exact hM4
          | true =>
            rw [hok, if_pos rfl] at es
            obtain ⟨rs5, q1, q2, q3⟩ := id hM4
            refine iteT ?_
            refine ⟨_, rfl, .inl ⟨rfl, _, .inl (.inl q1)⟩, ?_⟩
            have fin : ∀ (p : Addr) (H6 : Hp), Same H5 H6 → H6 p = some (.tup ((row ++ [(v : Int)]).map V.int)) → ∃ l xs y, V.ref D = .ref l ∧ [V.ref p] = [y] ∧ H6 l = some (.lst xs) ∧ xs.length < sizeLine ∧
                ∃ y9, [some (V.int (N : Int)), y1, y2, some (V.ref L), y4, y5, some (V.int (x : Int)), some (V.ref r), some (V.ref D), some (V.int (v : Int)), y10, y11] = [some (.int (N : Int)), y1, y2, some (.ref L), y4, y5, some (.int (x : Int)), some (.ref r), some (.ref D), y9, y10, y11] ∧
                  SameB D H1 (upd H6 l (.lst (xs ++ [y]))) ∧ MapsAt (upd H6 l (.lst (xs ++ [y]))) D (stepL N x ((mapsP N x).take i) ++ stepV N row x (v + 1)) := fun p H6 s6 hp => by
              refine ⟨D, _, _, rfl, rfl, s6 _ _ q1, ?_, _, rfl, (sb4.trans (sameB_of s6)).trans sameB_upd, ?_⟩
              · have := stepV_len N row x v
                rw [List.length_map, q2, List.length_append]
                have z : sizeLine = 16777216 := sizeLine_eq
                omega
              · have := MapsAt.more (s6 _ _ q1) q2 (fun i r t a1 a2 => s6 _ _ (q3 i r t a1 a2)) hp
                rw [es, ← List.append_assoc]
                rw [List.map_append] at this
                exact this
            have hr5 := s34 _ _ hr3
            refine ⟨_, rfl, _, rfl, by show 1 ≤ sizeLine; decide, fun t1 ht1 => ?_⟩
            have s5 := same_upd (o := .tup [.int (v : Int)]) ht1
            refine ⟨r, t1, _, _, rfl, rfl, .inl (.inl (s5 _ _ hr5)), .inl (.inl upd_same), ?_, fun z => ?_, fun _ z => ?_, fun z1 z2 p hp => ?_⟩
            · rw [List.length_map, hrl]
              have z : sizeLine = 16777216 := sizeLine_eq
              show x + 1 ≤ _
              omega
            · have ez : row = [] := List.map_eq_nil_iff.mp z
              refine fin t1 _ s5 ?_
              rw [upd_same, ez]
              rfl
            · exact absurd z (by simp)
            · have s6 := same_upd (o := .tup (row.map V.int ++ [.int (v : Int)])) hp
              refine fin p _ (s5.trans s6) ?_
              rw [upd_same, List.map_append]
              rfl
      · rintro σ H3 ⟨y9, rfl, sb, hM⟩
        rw [show ((N : Int)).toNat = N from Int.toNat_natCast N] at hM
        refine ⟨_, _, rfl, sb, ?_⟩
        rw [stepL_take et]
        exact hM
    · rintro σ H2 ⟨y7, y9, rfl, sb, hM⟩
      rw [List.length_map, hL2, List.take_length] at hM
      refine ⟨_, rfl, _, _, _, _, _, _, _, _, _, _, D, rfl, fun b o hb => sb _ _ (ne_of_none hb nD) (s3 _ _ hb), nD, hM⟩
  · rintro σ H1 ⟨y1, y2, y4, y5, y6, y7, y8, y9, y10, y11, L, rfl, s3, nL, hL⟩
    have e : ((N : Int)).toNat = N := Int.toNat_natCast N
    rw [e] at hL
    exact ⟨_, rfl, q H1 L s3 nL hL⟩
theorem has_law_mapsS (T : Txt K mg) : Has P w K mg base CX0 3 "_law_maps" ["_law_size"] spMapsS := by
  refine T.has (st := s_law_maps) 30 rfl (by decide +kernel) sc_law_maps (fun vs H Q E h => ?_) (fun _ _ _ _ _ _ us hl => match us, hl with | [_], _ => rfl) (fun f cdv A outer s H vs Q E hr h => ?_)
  · obtain ⟨N, rfl, _⟩ := h
    rfl
  · obtain ⟨N, rfl, hN, h4, q⟩ := h
    exact maps_bodyS T hr hN h4 q
end
end K15
namespace K15
open L2 PySem PySem.Spec PyProof.Rows
theorem ifT {b : Bool} {σ : L2.St} {H : Hp} {Q : VK} {x y c : Int} (h : c = if b = true then x else y) (k : Q (.int c) H) : if b = true then tC (.int x) σ H Q else tC (.int y) σ H Q := by
  cases b with
  | true => rw [if_pos rfl] at h ⊢; rw [← h]; exact k
  | false => rw [if_neg (by decide)] at h ⊢; rw [← h]; exact k
def bigG (f c : Nat) (one two : List Int) (x : Nat) : Int := (c : Int) * one.getD (x % f) 0 + 4 * two.getD (x % 3) 0
def bigL (f c N : Nat) (ts us : List (List Int)) : List (List Int) := ts.flatMap fun one => us.map fun two => bigRow f c N one two
theorem bigL_take {f c N i : Nat} {ts us : List (List Int)} {one : List Int} (h : ts[i]? = some one) : bigL f c N (ts.take (i + 1)) us = bigL f c N (ts.take i) us ++ us.map fun two => bigRow f c N one two := by
  unfold bigL
  rw [List.take_add_one, h, List.flatMap_append]
  simp
theorem bigL_len {f c N : Nat} {us : List (List Int)} : ∀ ts : List (List Int), (bigL f c N ts us).length = us.length * ts.length
  | [] => rfl
  | t :: ts => by
    have e : bigL f c N (t :: ts) us = (us.map fun two => bigRow f c N t two) ++ bigL f c N ts us := rfl
    rw [e, List.length_append, List.length_map, bigL_len ts, List.length_cons, Nat.mul_add, Nat.mul_one, Nat.add_comm]
theorem map_take {α β : Type} {g : α → β} {l : List α} {j : Nat} {a : α} (h : l[j]? = some a) : (l.take (j + 1)).map g = (l.take j).map g ++ [g a] := by
  rw [List.take_add_one, h, List.map_append]
  rfl
theorem range_more {g : Nat → Int} {k : Nat} : ((List.range (k + 1)).map g).map V.int = ((List.range k).map g).map V.int ++ [.int (g k)] := by
  rw [List.range_succ, List.map_append, List.map_append]
  rfl
section
variable {w : World} {P : Program} {K : PySem.W.Frag} {base : Heap} {mg : Str → Option Value}
theorem maps_bodyB (T : Txt K mg) {fa : Addr} {cdv : Value} {A : Around} {outer : List Env} {s : Shared} {H : Hp} {Q : VK} {E : XK} {f c N : Nat} (PT : Parts f c N) (hf4 : f ≤ 4) (hfN : (N : Int) / 3 = (f : Int)) (hcN : (c : Int) = if decide ((N : Int) = 12) = true then 9 else 3) (hN4 : 4 < N) (hN12 : N ≤ 12)
    (hr : Room 3 (A.deeper (envOfC "_law_maps" (defScope s_law_maps) s.heap.objs.size fa cdv))) (q : ∀ (H' : Hp) (p : Addr), Same H H' → H p = none → MapsAt H' p (mapsB f c N) → Q (.ref p) H') :
    ∃ t, PSs (cxOf CX0 P w K mg base NM "_law_maps" (defScope s_law_maps) fa cdv A outer s H E) (defBody s_law_maps) t ∧ t { nx := fun _ H' => Q .non H', rt := Q } (start NM [.int (N : Int)]) H := by
  have Gm := has_law_mapsS (P := P) (w := w) (base := base) T
  have mR : mg "range" = none := T.fr _ (by decide +kernel)
  have mI : mg "int" = none := T.fr _ (by decide +kernel)
  have mT : mg "tuple" = none := T.fr _ (by decide +kernel)
  have f0 := PT.f0
  refine ⟨_, PSs.nox (pss_cons (ps_if (pt_cmp (pc_gt (pv 0) pe_int))
    (pss_cons (ps_asg (pe_tup (pa_cons (pe_op op_fdiv (pv 0) pe_int) (pa_cons (pe_ifExp (pt_cmp (pc_eqI (pv 0) pe_int)) pe_int pe_int) (pa_cons (pe_lst pa_nil) pa_nil))))
        (pg_tup rfl (pgs_cons (pg_name (i := 1) sc_law_maps.nd rfl (.inr rfl)) (pgs_cons (pg_name (i := 2) sc_law_maps.nd rfl (.inr rfl)) (pgs_cons (pg_name (i := 3) sc_law_maps.nd rfl (.inl rfl)) pgs_nil)))))
    (pss_cons (ps_for PassesOwn.never rfl (pi_list (pe_fn Gm hr (pa_cons (pv 1) pa_nil))) (pg_name (i := 4) sc_law_maps.nd rfl (.inr rfl))
      (pss_one (ps_for PassesOwn.never rfl (pi_list (pe_fn Gm hr (pa_cons pe_int pa_nil))) (pg_name (i := 5) sc_law_maps.nd rfl (.inr rfl))
        (pss_cons (ps_set (i := 7) sc_law_maps.nd rfl (.inr rfl) (pe_lc (own := [("_law_x", 6)]) (g := gName 6) (tt := tYes) rfl sc_law_maps.nd (pi_range1 rfl mR (pa_cons (pv 0) pa_nil)) (blkOk_by (N := NM) (sc := defScope s_law_maps) (by decide +kernel))
            (fun _ _ _ _ _ => pg_name (i := 6) sc_law_maps.nd rfl (Or.inl rfl)) (fun _ _ _ _ _ => pts_nil)
            (fun _ _ _ _ _ => pe_op op_add (pe_op op_mul (pv 2) (pe_ix (ixT K) (pv 4) (pe_op op_mod (pe_t1 call_int1 mI (pv 6)) (pv 1)) (fun _ _ => rfl))) (pe_op op_mul pe_int (pe_ix (ixT K) (pv 5) (pe_op op_mod (pe_t1 call_int1 mI (pv 6)) pe_int) (fun _ _ => rfl))))))
        (pss_one (ps_expr (pe_bm PySem.F.plainAttrs_list PySem.F.slot_list_append PySem.F.type_list_append mt_append (pv 3) (pa_cons (pe_t1 call_tuple_of mT
            (pe_lc (own := [("_law_each", 10)]) (g := gName 10) (tt := tYes) rfl sc_law_maps.nd (pi_list (pv 7)) (blkOk_by (N := NM) (sc := defScope s_law_maps) (by decide +kernel))
              (fun _ _ _ _ _ => pg_name (i := 10) sc_law_maps.nd rfl (Or.inl rfl)) (fun _ _ _ _ _ => pts_nil)
              (fun _ _ _ _ _ => pe_op op_mod (pe_t1 call_int1 mI (pv 10)) (pv 0)))) pa_nil))))))))
    (pss_one (ps_ret (pv 3))))) pss_nil) pss_never), ?_⟩
  refine ⟨_, rfl, (N : Int), 4, rfl, rfl, _, rfl, ite2 (fun _ => ?_) (fun c => absurd (decide_eq_true (by omega)) c)⟩
  refine ⟨_, rfl, _, _, rfl, rfl, ⟨by decide, by decide⟩, _, rfl, (N : Int), 12, rfl, rfl, _, rfl, ifT hcN ?_⟩
  refine ⟨Nat.zero_le _, fun L hL => ⟨by show 3 ≤ sizeLine; decide, fun t0 ht0 => ?_⟩⟩
  have sL := same_upd (o := .lst []) hL
  have st0 := same_upd (o := .tup [.int ((N : Int) / 3), .int (c : Int), .ref L]) ht0
  refine ⟨t0, _, rfl, .inl (.inl upd_same), rfl, _, _, rfl, _, _, rfl, _, _, rfl, rfl, ?_⟩
  dsimp only
  rw [hfN]
  rw [hfN] at st0
  have sA := sL.trans st0
  have hL0 := st0 _ _ (upd_same (H := H) (a := L) (o := .lst []))
  generalize upd (upd H L (.lst [])) t0 (.tup [.int (f : Int), .int (c : Int), .ref L]) = HA at sA hL0 ⊢
  refine ⟨_, rfl, f, rfl, f0, hf4, fun H1 M1 s1 nM1 hM1 => ?_⟩
  obtain ⟨rs1, hM1a, hM1b, hM1c⟩ := id hM1
  have M1L : M1 ≠ L := fun z => by rw [z, hL0] at nM1; cases nM1
  have hL1 := s1 _ _ hL0
  have notL : ∀ {r : Addr} {xs : List V}, H1 r = some (.tup xs) → r ≠ L := fun {r xs} h z => by rw [z, hL1] at h; cases h
  have small1 := mapsP_small f0 hf4 (Nat.le_refl f)
  have small3 : (mapsP 3 3).length ≤ 256 := mapsP_small (by decide) (by decide) (Nat.le_refl 3)
  have c64 : -(2 ^ 64) < (c : Int) ∧ (c : Int) < 2 ^ 64 := by
    rw [hcN]
    split <;> exact ⟨by decide, by decide⟩
  refine ⟨M1, rfl, ⟨_, .inl (.inl hM1a)⟩, ?_⟩
  refine for_it (walk_list (K := K) (a := M1) (xs := rs1.map V.ref)) (fun i σ H' => ∃ y4 y5 y6 y7 y8 y9 y10 y11, σ = [some (.int (N : Int)), some (.int (f : Int)), some (.int (c : Int)), some (.ref L), y4, y5, y6, y7, y8, y9, y10, y11] ∧ SameB L H1 H' ∧
      MapsAt H' L (bigL f c N ((mapsP f f).take i) (mapsP 3 3))) ⟨none, none, none, none, none, none, none, none, rfl, SameB.refl _ _, MapsAt.nil hL1⟩ (fun i σ H' _ h => ?_) ?_ ?_
  · obtain ⟨_, _, _, _, _, _, _, _, _, sb, _⟩ := h
    exact .inl (.inl (sb _ _ M1L hM1a))
  · rintro i v0 σ Hb H2 hi ⟨y4, y5, y6, y7, y8, y9, y10, y11, rfl, sb, hLm⟩ ⟨rfl, hx0⟩
    obtain ⟨r1, er1, rfl⟩ := at_map hx0
    obtain ⟨one, et1⟩ := at_len hM1b er1
    have hone := hM1c i r1 one er1 et1
    have R1 : Row f one := mem_mapsS.mp (List.mem_of_getElem? et1)
    have lenA : (bigL f c N ((mapsP f f).take i) (mapsP 3 3)).length ≤ 256 * 256 := by
      rw [bigL_len]
      refine Nat.mul_le_mul small3 ?_
      rw [List.length_take]
      omega
    refine ⟨3, rfl, by decide, by decide, fun H3 M2 s3 nM2 hM2 => ?_⟩
    obtain ⟨rs2, hM2a, hM2b, hM2c⟩ := id hM2
    obtain ⟨rsL, qL1, qL2, qL3⟩ := id hLm
    have M2L : M2 ≠ L := fun z => by rw [z, qL1] at nM2; cases nM2
    have hLm3 := hLm.same s3
    have qL1' := s3 _ _ qL1
    have hone3 := s3 _ _ (sb _ _ (notL hone) hone)
    have not3 : ∀ {r : Addr} {xs : List V}, H3 r = some (.tup xs) → r ≠ L := fun {r xs} h z => by rw [z, qL1'] at h; cases h
    refine ⟨M2, rfl, ⟨_, .inl (.inl hM2a)⟩, ?_⟩
    refine for_it (walk_list (K := K) (a := M2) (xs := rs2.map V.ref)) (fun j σ H' => ∃ y5 y6 y7 y8 y9 y10 y11, σ = [some (.int (N : Int)), some (.int (f : Int)), some (.int (c : Int)), some (.ref L), some (.ref r1), y5, y6, y7, y8, y9, y10, y11] ∧ SameB L H3 H' ∧
        MapsAt H' L (bigL f c N ((mapsP f f).take i) (mapsP 3 3) ++ ((mapsP 3 3).take j).map fun two => bigRow f c N one two)) ⟨y5, y6, y7, y8, y9, y10, y11, rfl, SameB.refl _ _, by rw [List.take_zero, List.map_nil, List.append_nil]; exact hLm3⟩ (fun j σ H' _ h => ?_) ?_ ?_
    · obtain ⟨_, _, _, _, _, _, _, _, sb, _⟩ := h
      exact .inl (.inl (sb _ _ M2L hM2a))
    · rintro j v1 σ Hb H4 hj ⟨y5, y6, y7, y8, y9, y10, y11, rfl, sb4, hLj⟩ ⟨rfl, hx1⟩
      obtain ⟨r2, er2, rfl⟩ := at_map hx1
      obtain ⟨two, et2⟩ := at_len hM2b er2
      have htwo := hM2c j r2 two er2 et2
      have R2 : Row 3 two := mem_mapsS.mp (List.mem_of_getElem? et2)
      have hone4 := sb4 _ _ (not3 hone3) hone3
      have htwo4 := sb4 _ _ (not3 htwo) htwo
      refine ⟨_, rfl, (N : Int), rfl, by omega, by omega, fun D1 hD1 => ?_⟩
      refine lc_range (lo := 0) (n := ((N : Int)).toNat) (fun k H' => Same H4 H' ∧ H' D1 = some (.lst (((List.range k).map (bigG f c one two)).map V.int))) ⟨same_upd hD1, upd_same⟩ ?_ ?_
      · rintro k H5 hk ⟨sc, hd⟩
        have hkN : k < N := by omega
        have e2 : (0 : Int) + (k : Int) = (k : Int) := Int.zero_add _
        rw [e2]
        refine ⟨rfl, ?_⟩
        have i1 : atI (one.map V.int) ((k : Int) % (f : Int)) = some (.int (one.getD (k % f) 0)) := by
          rw [← Int.natCast_emod]
          refine atI_nat (j := k % f) ?_
          rw [List.getElem?_map, getD_row R1 (Nat.mod_lt k f0)]
          rfl
        have i2 : atI (two.map V.int) ((k : Int) % 3) = some (.int (two.getD (k % 3) 0)) := by
          show atI (two.map V.int) ((k : Int) % ((3 : Nat) : Int)) = _
          rw [← Int.natCast_emod]
          refine atI_nat (j := k % 3) ?_
          rw [List.getElem?_map, getD_row R2 (Nat.mod_lt k (by decide))]
          rfl
        refine ⟨_, rfl, _, rfl, _, rfl, .inl ⟨_, rfl, _, rfl, _, _, rfl, rfl, (by show (0 : Int) < f; omega), r1, _, _, _, rfl, rfl, .inl (.inl (sc _ _ hone4)), i1, _, _, rfl, rfl, .inl c64, ?_⟩⟩
        refine ⟨_, rfl, _, rfl, .inl ⟨_, rfl, _, _, rfl, rfl, (by show (0 : Int) < 3; decide), r2, _, _, _, rfl, rfl, .inl (.inl (sc _ _ htwo4)), i2, _, _, rfl, rfl, .inl (by decide), _, _, rfl, rfl, ?_⟩⟩
        refine ⟨_, hd, ?_, fun bb o z => ?_, ?_⟩
        · rw [List.length_map, List.length_map, List.length_range]
          exact small1000 (by omega)
        · rw [upd_ne (ne_of_none z hD1)]
          exact sc _ _ z
        · rw [upd_same, range_more]
          rfl
      · rintro H5 ⟨sc5, hd5⟩
        rw [show ((N : Int)).toNat = N from Int.toNat_natCast N] at hd5
        obtain ⟨rsj, qj1, qj2, qj3⟩ := id hLj
        have D1L : D1 ≠ L := fun z => by rw [z, qj1] at hD1; cases hD1
        refine ⟨_, rfl, .inl ⟨rfl, _, .inl (.inl (sc5 _ _ qj1))⟩, ?_⟩
        refine ⟨_, rfl, D1, rfl, ⟨_, .inl (.inl hd5)⟩, fun D2 hD2 => ?_⟩
        refine lc_it (walk_list (K := K) (a := D1) (xs := ((List.range N).map (bigG f c one two)).map V.int)) (fun k H' => Same H5 H' ∧ H' D2 = some (.lst (((List.range k).map fun x => bigG f c one two x % (N : Int)).map V.int))) ⟨same_upd hD2, upd_same⟩ (fun k H' _ h => .inl (.inl (h.1 _ _ hd5))) ?_ ?_
        · rintro k x H6 H7 hk ⟨sc, hd⟩ ⟨rfl, hx⟩
          rw [List.length_map, List.length_map, List.length_range] at hk
          rw [List.getElem?_map, getD_map_range hk] at hx
          cases Option.some.inj hx
          refine ⟨rfl, ?_⟩
          refine ⟨_, rfl, .inl ⟨_, rfl, _, rfl, _, _, rfl, rfl, (by show (0 : Int) < N; omega), ?_⟩⟩
          refine ⟨_, hd, ?_, fun bb o z => ?_, ?_⟩
          · rw [List.length_map, List.length_map, List.length_range]
            exact small1000 (by omega)
          · rw [upd_ne (ne_of_none z hD2)]
            exact sc _ _ z
          · rw [upd_same, range_more]
        · rintro H6 ⟨sc6, hd6⟩
          rw [List.length_map, List.length_map, List.length_range] at hd6
          refine ⟨D2, _, rfl, .inl ⟨.inl (.inl hd6), fun p hp => ?_⟩⟩
          have sp := same_upd (o := .tup (((List.range N).map fun x => bigG f c one two x % (N : Int)).map V.int)) hp
          have s46 := (sc5.trans sc6).trans sp
          refine ⟨L, _, _, rfl, rfl, s46 _ _ qj1, ?_, ?_⟩
          · rw [List.length_map, qj2, List.length_append, List.length_map, List.length_take]
            have z : sizeLine = 16777216 := sizeLine_eq
            omega
          · refine ⟨_, _, _, _, _, _, _, rfl, (sb4.trans (sameB_of s46)).trans sameB_upd, ?_⟩
            have := MapsAt.more (t := bigRow f c N one two) (s46 _ _ qj1) qj2 (fun i r t a1 a2 => s46 _ _ (qj3 i r t a1 a2)) (upd_same (H := H6) (a := p) (o := .tup (((List.range N).map fun x => bigG f c one two x % (N : Int)).map V.int)))
            rw [List.map_append] at this
            rw [map_take et2, ← List.append_assoc]
            exact this
    · rintro σ H4 ⟨y5, y6, y7, y8, y9, y10, y11, rfl, sb4, hLj⟩
      rw [List.length_map, hM2b, List.take_length] at hLj
      refine ⟨_, _, _, _, _, _, _, _, rfl, (sb.trans (sameB_of s3)).trans sb4, ?_⟩
      rw [bigL_take et1]
      exact hLj
  · rintro σ H2 ⟨y4, y5, y6, y7, y8, y9, y10, y11, rfl, sb, hLm⟩
    rw [List.length_map, hM1b, List.take_length] at hLm
    exact ⟨_, rfl, q H2 L (fun b o hb => sb _ _ (ne_of_none hb hL) (s1 _ _ (sA _ _ hb))) hL hLm⟩
/-- all rows by N -/
structure AllRows (N : Nat) (ts : List (List Int)) : Prop where
  mem : ∀ t, t ∈ ts ↔ Row N t
  pos : 0 < ts.length
  few : ts.length ≤ 100000
theorem row_zero {N : Nat} (hN : 0 < N) : Row N (List.replicate N 0) := by
  refine ⟨List.length_replicate, fun v hv => ?_, fun x y u v hx hy => ?_⟩
  · rw [List.eq_of_mem_replicate hv]
    omega
  · rw [List.eq_of_mem_replicate (List.mem_of_getElem? hx), List.eq_of_mem_replicate (List.mem_of_getElem? hy)]
    exact Int.dvd_zero _
theorem allRows_of {N : Nat} {ts : List (List Int)} (hN : 0 < N) (h : ∀ t, t ∈ ts ↔ Row N t) (hl : ts.length ≤ 100000) : AllRows N ts := ⟨h, List.length_pos_of_mem ((h _).mpr (row_zero hN)), hl⟩
theorem mapsB_len {f c N : Nat} (f0 : 0 < f) (hf : f ≤ 4) : (mapsB f c N).length ≤ 100000 := by
  have e : mapsB f c N = bigL f c N (mapsP f f) (mapsP 3 3) := rfl
  rw [e, bigL_len]
  refine Nat.le_trans (Nat.mul_le_mul (mapsP_small (by decide) (by decide) (Nat.le_refl 3)) (mapsP_small f0 hf (Nat.le_refl f))) (by decide)
def spMaps : Sp := fun vs H Q _ => ∃ N : Nat, vs = [.int (N : Int)] ∧ (N = 4 ∨ N = 6 ∨ N = 12) ∧ ∀ (H' : Hp) (p : Addr) (ts : List (List Int)), Same H H' → H p = none → MapsAt H' p ts → AllRows N ts → Q (.ref p) H'
theorem has_law_maps (T : Txt K mg) : Has P w K mg base CX0 4 "_law_maps" ["_law_size"] spMaps := by
  refine T.has (st := s_law_maps) 30 rfl (by decide +kernel) sc_law_maps (fun vs H Q E h => ?_) (fun _ _ _ _ _ _ us hl => match us, hl with | [_], _ => rfl) (fun f cdv A outer s H vs Q E hr h => ?_)
  · obtain ⟨N, rfl, _⟩ := h
    rfl
  · obtain ⟨N, rfl, hN, q⟩ := h
    rcases hN with rfl | rfl | rfl
    · exact maps_bodyS T (hr.mono (by decide)) (by decide) (by decide) fun H' p s' n m => q H' p _ s' n m (allRows_of (by decide) (fun t => mem_mapsS) (Nat.le_trans (mapsP_small (by decide) (by decide) (Nat.le_refl 4)) (by decide)))
    · exact maps_bodyB T parts6 (by decide) (by decide) (by decide) (by decide) (by decide) hr fun H' p s' n m => q H' p _ s' n m (allRows_of (by decide) (fun t => mem_mapsB parts6) (mapsB_len (by decide) (by decide)))
    · exact maps_bodyB T parts12 (by decide) (by decide) (by decide) (by decide) (by decide) hr fun H' p s' n m => q H' p _ s' n m (allRows_of (by decide) (fun t => mem_mapsB parts12) (mapsB_len (by decide) (by decide)))
end
end K15
namespace K15
open L2 PySem PySem.Spec PyProof.Rows
/-- a value is a number, whichever -/
theorem asg_int {te : TE} {i : Nat} {R : TS} {D : Ends} {σ : L2.St} {H : Hp} (h : ∀ Q : VK, (∀ z : Int, Q (.int z) H) → te σ H Q) (k : ∀ z : Int, R D (σ.set i (some (.int z))) H) : tSeq (tAsg te (gName i)) R D σ H := h _ k
theorem cut_ints {ns : List Int} {lo hi : Option Int} {x : V} (h : x ∈ cutV (ns.map V.int) lo hi) : ∃ n : Int, x = .int n := by
  unfold cutV at h
  obtain ⟨n, _, rfl⟩ := List.mem_map.mp (List.mem_of_mem_drop (List.mem_of_mem_take h))
  exact ⟨n, rfl⟩
section
variable {w : World} {P : Program} {K : PySem.W.Frag} {base : Heap} {mg : Str → Option Value}
theorem sc_law_keg : FnScope ["_law_script", "_law_at", "_law_own", "_law_stirred", "_law_each"] ["_law_script", "_law_at"] (defScope s_law_keg) := ⟨rfl, rfl, rfl, by decide +kernel, rfl, by decide +kernel, by decide +kernel⟩
/-- a new keg; the script stands -/
def spKeg (K : PySem.W.Frag) : Sp := fun vs H Q _ => ∃ (a : Addr) (ns : List Int) (i : Nat), vs = [.ref a, .int (i : Int)] ∧ SqL K H a (ns.map V.int) ∧ ns.length ≤ 1000 ∧ i ≤ 1000 ∧ ∀ (H' : Hp) (g : Addr), Same H H' → H g = none → KegAt H' g → Q (.ref g) H'
theorem has_law_keg (T : Txt K mg) : Has P w K mg base CX0 1 "_law_keg" ["_law_script", "_law_at"] (spKeg K) := by
  refine T.has (st := s_law_keg) 21 rfl (by decide +kernel) sc_law_keg (fun vs H Q E h => ?_) (fun _ _ _ _ _ _ us hl => match us, hl with | [_, _], _ => rfl) (fun f cdv A outer s H vs Q E hr h => ?_)
  · obtain ⟨a, ns, i, rfl, _⟩ := h
    rfl
  · obtain ⟨a, ns, i, rfl, ha, hl, hi, q⟩ := h
    have mL : mg "len" = none := T.fr _ (by decide +kernel)
    have mI : mg "int" = none := T.fr _ (by decide +kernel)
    have mA : mg "abs" = none := T.fr _ (by decide +kernel)
    refine ⟨_, PSs.nox (pss_cons (ps_set (i := 2) sc_law_keg.nd rfl (.inl rfl) (pe_ifExp (pt_cmp (pc_lt (pv 1) (pe_b1 call_len_seq mL (pv 0)))) (pe_ix ix_list (pv 0) (pv 1) (fun _ _ => rfl)) (pe_op op_add (pe_op op_mul pe_int (pv 1)) pe_int)))
      (pss_cons (ps_set (i := 3) sc_law_keg.nd rfl (.inl rfl) (pe_op op_mul pe_int (pe_op op_add (pv 1) pe_int)))
      (pss_cons (ps_for PassesOwn.never rfl (pi_list (pe_op op_cat (pe_slice sl_list (pv 0) po_none (po_some pe_int)) (pe_lst (pa_cons (pv 2) pa_nil)))) (pg_name (i := 4) sc_law_keg.nd rfl (.inl rfl))
        (pss_one (ps_set (i := 3) sc_law_keg.nd rfl (.inl rfl) (pe_op op_mod (pe_t1 call_int1 mI (pe_op op_add (pe_op op_mul (pv 3) pe_int) (pv 4))) pe_int))))
      (pss_one (ps_ret (pe_lst (pa_cons (pe_ifExp (pt_cmp (pc_ge (pe_b1 call_abs mA (pv 2)) (pe_op op_pow pe_int pe_int))) (pe_b1 call_abs mA (pv 2)) pe_int) (pa_cons (pv 3) (pa_cons pe_int pa_nil))))))))), ?_⟩
    refine asg_int (fun Q hQ => ?_) fun z => ?_
    · refine ⟨_, rfl, _, rfl, a, _, rfl, .inl ha, _, _, rfl, rfl, _, rfl, ite2 (fun c => ?_) (fun _ => ?_)⟩
      · have hin : i < ns.length := by
          have := of_decide_eq_true c
          rw [List.length_map] at this
          omega
        refine ⟨_, rfl, _, rfl, a, _, _, _, rfl, rfl, ha, atI_nat (j := i) (v := .int ns[i]) (by rw [List.getElem?_map, List.getElem?_eq_getElem hin]; rfl), hQ _⟩
      · exact ⟨_, rfl, _, _, rfl, rfl, .inl (by decide), _, _, rfl, rfl, hQ _⟩
    · refine ⟨_, rfl, _, _, rfl, rfl, _, _, rfl, rfl, .inl (by decide), ?_⟩
      refine ⟨_, rfl, 5, rfl, a, _, rfl, ha, fun c1 hc1 => ?_⟩
      have s1 := same_upd (o := .lst (cutV (ns.map V.int) none (some 5))) hc1
      refine ⟨_, rfl, by show 1 ≤ sizeLine; decide, fun c2 hc2 => ?_⟩
      have s2 := same_upd (o := .lst [.int z]) hc2
      refine ⟨c1, c2, _, _, rfl, rfl, s2 _ _ upd_same, upd_same, ?_, fun c3 hc3 => ?_⟩
      · have h1 := cutV_length (ns.map V.int) none (some 5)
        rw [List.length_map] at h1
        have h2 : sizeLine = 16777216 := sizeLine_eq
        show _ + 1 ≤ _
        omega
      have s3 := same_upd (o := .lst (cutV (ns.map V.int) none (some 5) ++ [.int z])) hc3
      have hl3 := upd_same (H := upd (upd H c1 (.lst (cutV (ns.map V.int) none (some 5)))) c2 (.lst [.int z])) (a := c3) (o := .lst (cutV (ns.map V.int) none (some 5) ++ [.int z]))
      have sA := (s1.trans s2).trans s3
      generalize upd (upd (upd H c1 (.lst (cutV (ns.map V.int) none (some 5)))) c2 (.lst [.int z])) c3 (.lst (cutV (ns.map V.int) none (some 5) ++ [.int z])) = HA at hl3 sA ⊢
      refine ⟨c3, rfl, ⟨_, .inl (.inl hl3)⟩, ?_⟩
      refine for_it (walk_list (K := K) (a := c3) (xs := cutV (ns.map V.int) none (some 5) ++ [.int z])) (fun m σ H' => ∃ (st : Int) (y4 : Option V), σ = [some (.ref a), some (.int (i : Int)), some (.int z), some (.int st), y4] ∧ H' = HA ∧ 0 ≤ st ∧ st < 18446744073709551616)
        ⟨_, none, rfl, rfl, by omega, by omega⟩ (fun m σ H' _ h => ?_) ?_ ?_
      · obtain ⟨_, _, _, rfl, _⟩ := h
        exact .inl (.inl hl3)
      · rintro m x σ Hb H2 hm ⟨st, y4, rfl, rfl, h0, h1⟩ ⟨rfl, hx⟩
        obtain ⟨n, rfl⟩ : ∃ n : Int, x = .int n := by
          rcases List.mem_append.mp (List.mem_of_getElem? hx) with q1 | q1
          · exact cut_ints q1
          · exact ⟨z, List.mem_singleton.mp q1⟩
        refine ⟨_, rfl, _, _, rfl, rfl, .inr (by decide), _, rfl, _, _, rfl, rfl, .inl ⟨_, rfl, _, _, rfl, rfl, (by show (0 : Int) < _; decide), ?_⟩⟩
        exact ⟨_, _, rfl, rfl, Int.emod_nonneg _ (by decide), Int.lt_trans (Int.emod_lt_of_pos _ (by decide)) (by decide)⟩
      · rintro σ H2 ⟨st, y4, rfl, rfl, h0, h1⟩
        have tail : ∀ z0 : Int, 0 ≤ z0 → ∃ v, ([some (V.ref a), some (V.int (i : Int)), some (V.int z), some (V.int st), y4] : L2.St)[3]? = some (some v) ∧ ([V.int z0, v, V.int 0].length ≤ sizeLine ∧ ∀ p, H2 p = none → Q (.ref p) (upd H2 p (.lst [.int z0, v, .int 0]))) := fun z0 hz0 => by
          refine ⟨_, rfl, by show 3 ≤ sizeLine; decide, fun g hg => ?_⟩
          have s4 := same_upd (o := .lst [.int z0, .int st, .int 0]) hg
          refine q _ g (sA.trans s4) ?_ ⟨z0, st, 0, upd_same, hz0, h0, h1⟩
          cases hh : H g with
          | none => rfl
          | some o =>
            have := sA _ _ hh
            rw [hg] at this
            cases this
        refine ⟨_, rfl, _, rfl, _, _, rfl, rfl, ⟨by decide, by decide, by decide⟩, _, _, rfl, rfl, _, rfl, ite2 (fun _ => ?_) (fun _ => tail 0 (by decide))⟩
        exact ⟨_, rfl, _, rfl, tail _ (by rw [abs_eq]; exact Int.natCast_nonneg _)⟩
end
end K15
/-! ### the plain law: what the program computes answers as the law's rows say -/
namespace K15
theorem allSo_iff {N : Nat} {t : List Int} {F : List Fact} : allSo N t F = true ↔ ∀ f ∈ F, SoP N t f := by
  unfold allSo
  rw [List.all_eq_true]
  exact ⟨fun h f hf => of_decide_eq_true (h f hf), fun h f hf => decide_eq_true (h f hf)⟩
def fits (N : Nat) (ts : List (List Int)) (F : List Fact) : List (List Int) := ts.filter fun t => allSo N t F
def moreL (N : Nat) (one : List (List Int)) (G : List Fact) : List Nat := (List.range G.length).filter fun k => one.any fun t => !allSo N t [G.getD k (0, 0, 0)]
section
variable {N : Nat} {ts : List (List Int)} (A : AllRows N ts) (hN : 0 < N) (h12 : N ∣ 12)
include A
theorem mem_fits {F : List Fact} {t : List Int} : t ∈ fits N ts F ↔ Row N t ∧ ∀ f ∈ F, SoP N t f := by
  unfold fits
  rw [List.mem_filter, A.mem, allSo_iff]
include hN h12
theorem fits_nil {F : List Fact} (hF : Fine N F) : fits N ts F = [] ↔ ¬ NoQ F := by
  constructor
  · intro h hq
    obtain ⟨t, r, hs⟩ := row_of_noQ hN h12 hF.val hq
    have : t ∈ fits N ts F := (mem_fits A).mpr ⟨r, hs⟩
    rw [h] at this
    cases this
  · intro h
    cases e : fits N ts F with
    | nil => rfl
    | cons t r =>
      have m : t ∈ fits N ts F := by rw [e]; exact List.mem_cons_self
      obtain ⟨h1, h2⟩ := (mem_fits A).mp m
      exact absurd (noQ_of_row hN hF.val h1 h2) h
theorem more_eq {F G : List Fact} (hF : Fine N F) : moreL N (fits N ts F) G = unsureL N F G := by
  unfold moreL unsureL
  refine List.filter_congr fun k _ => ?_
  obtain ⟨g, hg⟩ : ∃ g, g = G.getD k (0, 0, 0) := ⟨_, rfl⟩
  rw [← hg]
  have e : sureB N F g = !((fits N ts F).any fun t => !allSo N t [g]) := by
    refine sureB_eq ?_
    unfold SureP
    constructor
    · intro h t r hs
      have m := (mem_fits A).mpr ⟨r, hs⟩
      cases hh : allSo N t [g] with
      | true => exact allSo_iff.mp hh g List.mem_cons_self
      | false =>
        have : ((fits N ts F).any fun t => !allSo N t [g]) = true := List.any_eq_true.mpr ⟨t, m, by rw [hh]; rfl⟩
        rw [this] at h
        cases h
    · intro h
      cases hh : ((fits N ts F).any fun t => !allSo N t [g]) with
      | false => rfl
      | true =>
        obtain ⟨t, m, ht⟩ := List.any_eq_true.mp hh
        obtain ⟨r, hs⟩ := (mem_fits A).mp m
        have : allSo N t [g] = true := allSo_iff.mpr fun f hf => by rw [List.mem_singleton.mp hf]; exact h t r hs
        rw [this] at ht
        cases ht
  rw [e, Bool.not_not]
theorem unsure_nil {F G : List Fact} : unsureL N F G = [] ↔ ∀ g ∈ G, SureP N F g := by
  unfold unsureL
  rw [List.filter_eq_nil_iff]
  constructor
  · intro h g hg
    obtain ⟨k, hk, e⟩ := List.mem_iff_getElem.mp hg
    have := h k (List.mem_range.mpr hk)
    have e2 : G.getD k (0, 0, 0) = g := iltD (by rw [List.getElem?_eq_getElem hk, e])
    rw [e2] at this
    have s : sureB N F g = true := by simpa using this
    unfold sureB at s
    exact @of_decide_eq_true _ (Classical.propDecidable _) s
  · intro h k hk
    have hk := List.mem_range.mp hk
    have e2 : G.getD k (0, 0, 0) = G[k] := iltD (List.getElem?_eq_getElem hk)
    rw [e2]
    have s : sureB N F G[k] = true := sureB_eq ⟨fun _ => h _ (List.getElem_mem hk), fun _ => rfl⟩
    rw [s]
    decide
theorem due_much {F G : List Fact} (hF : Fine N F) : (!decide (fits N ts F = []) && decide (moreL N (fits N ts F) G = [])) = asMuch N F G := by
  unfold asMuch
  rw [more_eq A hN h12 hF]
  congr 1
  by_cases hq : NoQ F
  · rw [decide_eq_true hq, decide_eq_false (fun z => (fits_nil A hN h12 hF).mp z hq)]; rfl
  · rw [decide_eq_false hq, decide_eq_true ((fits_nil A hN h12 hF).mpr hq)]; rfl
theorem due_alike {F G : List Fact} (hF : Fine N F) (hG : Fine N G) : decide (fits N ts F = fits N ts G) = alikeL N F G := by
  unfold alikeL
  have key : fits N ts F = fits N ts G ↔ ∀ t, Row N t → ((∀ f ∈ F, SoP N t f) ↔ ∀ g ∈ G, SoP N t g) := by
    constructor
    · intro e t r
      have h1 := mem_fits A (F := F) (t := t)
      have h2 := mem_fits A (F := G) (t := t)
      rw [e] at h1
      constructor
      · intro h
        exact (h2.mp (h1.mpr ⟨r, h⟩)).2
      · intro h
        exact (h1.mp (h2.mpr ⟨r, h⟩)).2
    · intro h
      unfold fits
      refine List.filter_congr fun t ht => ?_
      rw [Bool.eq_iff_iff, allSo_iff, allSo_iff]
      exact h t ((A.mem t).mp ht)
  by_cases hq : NoQ F ∧ NoQ G
  · rw [if_pos hq, ← Bool.decide_and]
    refine decide_eq_decide.mpr ?_
    rw [key, unsure_nil A hN h12, unsure_nil A hN h12]
    constructor
    · intro h
      exact ⟨fun g hg t r hs => (h t r).mp hs g hg, fun f hf t r hs => (h t r).mpr hs f hf⟩
    · intro h t r
      exact ⟨fun hs g hg => h.1 g hg t r hs, fun hs f hf => h.2 f hf t r hs⟩
  · rw [if_neg hq]
    have n1 := fits_nil A hN h12 hF
    have n2 := fits_nil A hN h12 hG
    by_cases h1 : NoQ F <;> by_cases h2 : NoQ G
    · exact absurd ⟨h1, h2⟩ hq
    · rw [decide_eq_true h1, decide_eq_false h2, decide_eq_false]
      · rfl
      · intro e
        rw [n2.mpr h2] at e
        exact n1.mp e h1
    · rw [decide_eq_false h1, decide_eq_true h2, decide_eq_false]
      · rfl
      · intro e
        rw [n1.mpr h1] at e
        exact n2.mp e.symm h2
    · rw [decide_eq_false h1, decide_eq_false h2, n1.mpr h1, n2.mpr h2, decide_eq_true rfl]
      rfl
theorem fits_app (F G : List Fact) : ((fits N ts F).filter fun t => allSo N t G) = fits N ts (F ++ G) := by
  unfold fits
  rw [List.filter_filter]
  refine List.filter_congr fun t _ => ?_
  unfold allSo
  rw [List.all_append, Bool.and_comm]
theorem Fine.app {F G : List Fact} (hF : Fine N F) (hG : Fine N G) : Fine N (F ++ G) := by
  refine ⟨fun f hf => ?_, fun f hf => ?_⟩
  · rcases List.mem_append.mp hf with z | z
    · exact hF.val f z
    · exact hG.val f z
  · rcases List.mem_append.mp hf with z | z
    · exact hF.pos f z
    · exact hG.pos f z
theorem due_joined {F G : List Fact} (hF : Fine N F) (hG : Fine N G) : (!decide (((fits N ts F).filter fun t => allSo N t G) = [])) = joinedL N F G := by
  unfold joinedL
  rw [fits_app A hN h12]
  have n := fits_nil A hN h12 (Fine.app A hN h12 hF hG)
  by_cases hq : NoQ (F ++ G)
  · rw [decide_eq_true hq, decide_eq_false (fun z => n.mp z hq)]; rfl
  · rw [decide_eq_false hq, decide_eq_true (n.mpr hq)]; rfl
end
end K15
namespace K15
open L2 PySem PySem.Spec PyProof.Rows
/-! ### rows as data -/
def rowD (t : List Int) : PyData := .tuple (t.map PyData.int)
theorem MapsAt.dp {K : PySem.W.Frag} {H : Hp} : ∀ {rs : List Addr} {ts : List (List Int)}, rs.length = ts.length → (∀ (i : Nat) (r : Addr) (t : List Int), rs[i]? = some r → ts[i]? = some t → H r = some (.tup (t.map V.int))) → DpAll K H (rs.map V.ref) (ts.map rowD)
  | [], [], _, _ => .nil
  | [], _ :: _, h, _ => absurd h (by simp)
  | _ :: _, [], h, _ => absurd h (by simp)
  | r :: rs, t :: ts, h, k => .cons (.tup (.inl (.inl (k 0 r t rfl rfl))) (dp_ints K H t)) (MapsAt.dp (by simpa using h) fun i r' t' e1 e2 => k (i + 1) r' t' (by simpa using e1) (by simpa using e2))
theorem dp_maps {K : PySem.W.Frag} {H : Hp} {M : Addr} {ts : List (List Int)} (h : MapsAt H M ts) : Dp K H (.ref M) (.list (ts.map rowD)) := by
  obtain ⟨rs, h1, h2, h3⟩ := h
  exact .lst (.inl (.inl h1)) (MapsAt.dp h2 h3)
theorem lay_rows : ∀ ts : List (List Int), PyData.canLayAll0 (ts.map rowD) = true ∧ PyData.depthAll (ts.map rowD) ≤ 1
  | [] => ⟨rfl, Nat.zero_le _⟩
  | t :: r => by
    obtain ⟨h1, h2⟩ := lay_rows r
    obtain ⟨h3, h4⟩ := lay_ints t
    refine ⟨?_, ?_⟩
    · show (PyData.canLayAll0 (t.map PyData.int) && PyData.canLayAll0 (r.map rowD)) = true
      rw [h1, h3]; rfl
    · show max (PyData.depthAll (t.map PyData.int) + 1) (PyData.depthAll (r.map rowD)) ≤ 1
      rw [h4]
      omega
theorem shaped_rows (ts : List (List Int)) : SeqAt.shaped (.list (ts.map rowD)) = true := shaped_list (lay_rows ts).1 (Nat.le_trans (lay_rows ts).2 (by decide))
theorem eqv_ints : ∀ s t : List Int, PyData.eqvAll (s.map PyData.int) (t.map PyData.int) = decide (s = t)
  | [], [] => rfl
  | [], _ :: _ => rfl
  | _ :: _, [] => rfl
  | a :: s, b :: t => by
    show (PyData.eqv (.int a) (.int b) && PyData.eqvAll (s.map PyData.int) (t.map PyData.int)) = _
    rw [eqv_ints s t]
    have e : PyData.eqv (.int a) (.int b) = (a == b) := by simp [PyData.eqv]
    rw [e, Bool.eq_iff_iff]
    simp
theorem eqv_rows : ∀ s t : List (List Int), PyData.eqvAll (s.map rowD) (t.map rowD) = decide (s = t)
  | [], [] => rfl
  | [], _ :: _ => rfl
  | _ :: _, [] => rfl
  | a :: s, b :: t => by
    show (PyData.eqv (rowD a) (rowD b) && PyData.eqvAll (s.map rowD) (t.map rowD)) = _
    have e : PyData.eqv (rowD a) (rowD b) = decide (a = b) := by
      show PyData.eqv (.tuple (a.map PyData.int)) (.tuple (b.map PyData.int)) = _
      have z : PyData.eqv (.tuple (a.map PyData.int)) (.tuple (b.map PyData.int)) = PyData.eqvAll (a.map PyData.int) (b.map PyData.int) := by simp [PyData.eqv]
      rw [z, eqv_ints]
    rw [eqv_rows s t, e, Bool.eq_iff_iff]
    simp
theorem eqv_maps (s t : List (List Int)) : PyData.eqv (.list (s.map rowD)) (.list (t.map rowD)) = decide (s = t) := by
  have z : PyData.eqv (.list (s.map rowD)) (.list (t.map rowD)) = PyData.eqvAll (s.map rowD) (t.map rowD) := by simp [PyData.eqv]
  rw [z, eqv_rows]
/-! ### all but the keg and the tables stays -/
def SameX (g : Addr) (H H' : Hp) : Prop := ∀ b o, b ≠ g → (∀ ps, o ≠ .tbl ps) → H b = some o → H' b = some o
theorem SameX.refl (g : Addr) (H : Hp) : SameX g H H := fun _ _ _ _ h => h
theorem SameX.trans {g : Addr} {H H1 H2 : Hp} (a : SameX g H H1) (b : SameX g H1 H2) : SameX g H H2 := fun c o n m h => b c o n m (a c o n m h)
theorem sameX_of {g : Addr} {H H' : Hp} (s : SameB g H H') : SameX g H H' := fun b o n _ h => s b o n h
theorem sameX_ext {g : Addr} {H H' : Hp} (s : LamX.ExtN H H') : SameX g H H' := fun b o _ m h => s b o h m
theorem sameX_same {g : Addr} {H H' : Hp} (s : Same H H') : SameX g H H' := fun b o _ _ h => s b o h
theorem Tabs.sameB {T : List (Addr × Str)} {H H' : Hp} {g : Addr} (t : LamX.Tabs T H) (s : SameB g H H') (k : KegAt H g) : LamX.Tabs T H' := fun p hp => by
  obtain ⟨ps, h1, h2, h3⟩ := t p hp
  refine ⟨ps, s _ _ (k.ne h1 fun xs z => by cases z) h1, h2, fun pos cv hc => ?_⟩
  obtain ⟨c, e1, e2⟩ := (h3 pos cv hc)
  exact ⟨c, e1, s _ _ (k.ne e2 fun xs z => by unfold LamX.CodeO at z; cases z) e2⟩
theorem Tabs.same {T : List (Addr × Str)} {H H' : Hp} (t : LamX.Tabs T H) (s : Same H H') : LamX.Tabs T H' := t.ext s
theorem MapsAt.sameX {H H' : Hp} {g M : Addr} {ts : List (List Int)} (h : MapsAt H M ts) (s : SameX g H H') (k : KegAt H g) (ne : M ≠ g) : MapsAt H' M ts := by
  obtain ⟨rs, h1, h2, h3⟩ := h
  exact ⟨rs, s _ _ ne (fun _ z => by cases z) h1, h2, fun i r t e1 e2 => s _ _ (k.ne (h3 i r t e1 e2) fun xs z => by cases z) (fun _ z => by cases z) (h3 i r t e1 e2)⟩
theorem FactsAt.sameX {H H' : Hp} {g a : Addr} {F : List Fact} (h : FactsAt H a F) (s : SameX g H H') (k : KegAt H g) : FactsAt H' a F := by
  obtain ⟨rs, h1, h2, h3⟩ := h
  exact ⟨rs, s _ _ (k.ne h1 fun xs z => by cases z) (fun _ z => by cases z) h1, h2, fun i r f e1 e2 => s _ _ (k.ne (h3 i r f e1 e2) fun xs z => by cases z) (fun _ z => by unfold factV at z; cases z) (h3 i r f e1 e2)⟩
theorem KegAt.extN {H H' : Hp} {g : Addr} (k : KegAt H g) (s : LamX.ExtN H H') : KegAt H' g := by
  obtain ⟨a, b, c, h, r⟩ := k
  exact ⟨a, b, c, s _ _ h (fun _ z => by cases z), r⟩
/-! ### the rows that facts are so by -/
theorem wipe_get {σ : L2.St} {j v : Nat} {x : Option V} {y : V} (h : σ[j]? = some (some y)) (ne : j ≠ v) : ((wipe σ [v]).set v x)[j]? = some (some y) := by
  unfold wipe wipe
  rw [List.getElem?_set_ne (Ne.symm ne), List.getElem?_set_ne (Ne.symm ne)]
  exact h
theorem wipe_own {σ : L2.St} {v : Nat} {x : V} (h : v < σ.length) : ((wipe σ [v]).set v (some x))[v]? = some (some x) := by
  unfold wipe wipe
  exact List.getElem?_set_self (by rw [List.length_set]; exact h)
theorem wipe_again {σ : L2.St} {v : Nat} {x : Option V} : wipe ((wipe σ [v]).set v x) [v] = wipe σ [v] := by
  show ((σ.set v none).set v x).set v none = σ.set v none
  rw [List.set_set, List.set_set]
theorem take_filt {α : Type} {p : α → Bool} {l : List α} {i : Nat} {a : α} (h : l[i]? = some a) : (l.take (i + 1)).filter p = (l.take i).filter p ++ (if p a = true then [a] else []) := by
  rw [List.take_add_one, h,
    List.filter_append]
  congr 1
  by_cases q : p a = true
  · rw [if_pos q]; simp [q]
  · rw [if_neg q]; simp [q]
theorem rd_fit {K : PySem.W.Frag} {σ : L2.St} {H : Hp} {Q : VK} {i j v : Nat} {M a : Addr} {N : Nat} {ts : List (List Int)} {F : List Fact} (hi : σ[i]? = some (some (.ref M))) (hj : σ[j]? = some (some (.ref a))) (hjv : j ≠ v) (hv : v < σ.length) (hM : MapsAt H M ts) (hF : FactsAt H a F)
    (hl : ∀ t ∈ ts, t.length = N) (hN : 0 < N) (few : ts.length ≤ 100000) (q : ∀ H' D, Same H H' → H D = none → MapsAt H' D (ts.filter fun t => allSo N t F) → Q (.ref D) H') :
    tLc (iList K (tVar i)) (gName v) (tB (tCall spSo [] E0 (tCons (tVar v) (tCons (tVar j) tNil)))) (tVar v) [v] σ H Q := by
  obtain ⟨rs, h1, h2, h3⟩ := id hM
  refine ⟨_, hi, M, rfl, ⟨_, .inl (.inl h1)⟩, fun D hD => ?_⟩
  refine lc_it (walk_list (K := K) (a := M) (xs := rs.map V.ref)) (fun k H' => Same H H' ∧ MapsAt H' D ((ts.take k).filter fun t => allSo N t F)) ⟨same_upd hD, MapsAt.nil upd_same⟩ (fun k H' _ h => .inl (.inl (h.1 _ _ h1))) ?_ ?_
  · rintro k x H1 H2 hk ⟨s1, hd⟩ ⟨rfl, hx⟩
    obtain ⟨r, er, rfl⟩ := at_map hx
    obtain ⟨t, et⟩ := at_len h2 er
    have hr := s1 _ _ (h3 k r t er et)
    have e := take_filt (p := fun t => allSo N t F) et
    obtain ⟨us, q1, q2, q3⟩ := id hd
    refine ⟨wipe_again, _, wipe_own hv, _, wipe_get hj hjv, r, a, N, t, F, rfl, hr, hl t (List.mem_of_getElem? et), hN, hF.same s1, _, rfl, ?_⟩
    cases ho : allSo N t F with
    | false =>
      rw [ho, if_neg (by decide), List.append_nil] at e
      refine iteF ⟨s1, ?_⟩
      rw [e]
      exact hd
    | true =>
      rw [ho, if_pos rfl] at e
      refine iteT ⟨_, wipe_own hv, _, q1, ?_, fun b o z => ?_, ?_⟩
      · have z : sizeLine = 16777216 := sizeLine_eq
        have l1 := List.length_filter_le (fun t => allSo N t F) (ts.take k)
        rw [List.length_take] at l1
        rw [List.length_map, q2]
        omega
      · rw [upd_ne (ne_of_none z hD)]
        exact s1 _ _ z
      · have := MapsAt.more q1 q2 q3 hr
        rw [List.map_append] at this
        rw [e]
        exact this
  · rintro H1 ⟨s1, hd⟩
    rw [List.length_map, h2, List.take_length] at hd
    exact q H1 D s1 hD hd
end K15
namespace K15
open L2 PySem PySem.Spec PyProof.Rows
/-! ### readings of the law's comparisons -/
section
variable {K : PySem.W.Frag} {σ : L2.St} {H : Hp} {Q : VK} {i j : Nat} {M M2 : Addr} {ts us : List (List Int)} {l : List Nat}
theorem rd_maps_ne (hi : σ[i]? = some (some (.ref M))) (hM : MapsAt H M ts) (q : ∀ H', Same H H' → Q (.bl (!decide (ts = []))) H') : tOp (rNeD K) (tVar i) (tLst tNil) σ H Q := by
  refine ⟨_, hi, Nat.zero_le _, fun l nl => ?_⟩
  have s1 := same_upd (o := .lst []) nl
  refine ⟨_, _, dp_maps (hM.same s1), .lst (.inl (.inl upd_same)) .nil, shaped_rows ts, shaped_nil, ?_⟩
  rw [eqv_nil rowD]
  exact q _ s1
theorem rd_maps_eq0 (hi : σ[i]? = some (some (.ref M))) (hM : MapsAt H M ts) (q : ∀ H', Same H H' → Q (.bl (decide (ts = []))) H') : tOp (rEqD K) (tVar i) (tLst tNil) σ H Q := by
  refine ⟨_, hi, Nat.zero_le _, fun l nl => ?_⟩
  have s1 := same_upd (o := .lst []) nl
  refine ⟨_, _, dp_maps (hM.same s1), .lst (.inl (.inl upd_same)) .nil, shaped_rows ts, shaped_nil, ?_⟩
  rw [eqv_nil rowD]
  exact q _ s1
theorem rd_maps_eq (hi : σ[i]? = some (some (.ref M))) (hj : σ[j]? = some (some (.ref M2))) (hM : MapsAt H M ts) (hM2 : MapsAt H M2 us) (q : Q (.bl (decide (ts = us))) H) : tOp (rEqD K) (tVar i) (tVar j) σ H Q := by
  refine ⟨_, hi, _, hj, _, _, dp_maps hM, dp_maps hM2, shaped_rows ts, shaped_rows us, ?_⟩
  rw [eqv_maps]
  exact q
theorem rd_nums_eq0 (hi : σ[i]? = some (some (.ref M))) (hM : H M = some (.lst (numsV l))) (q : ∀ H', Same H H' → Q (.bl (decide (l = []))) H') : tOp (rEqD K) (tVar i) (tLst tNil) σ H Q := by
  refine ⟨_, hi, Nat.zero_le _, fun l2 nl => ?_⟩
  have s1 := same_upd (o := .lst []) nl
  refine ⟨_, _, .lst (.inl (.inl (s1 _ _ hM))) (dp_ints2 _ _ _), .lst (.inl (.inl upd_same)) .nil, shaped_ints2 _, shaped_nil, ?_⟩
  rw [eqv_nil (fun (k : Nat) => PyData.int (k : Int))]
  exact q _ s1
theorem rd_nums_ne (hi : σ[i]? = some (some (.ref M))) (hM : H M = some (.lst (numsV l))) (q : ∀ H', Same H H' → Q (.bl (!decide (l = []))) H') : tOp (rNeD K) (tVar i) (tLst tNil) σ H Q := by
  refine ⟨_, hi, Nat.zero_le _, fun l2 nl => ?_⟩
  have s1 := same_upd (o := .lst []) nl
  refine ⟨_, _, .lst (.inl (.inl (s1 _ _ hM))) (dp_ints2 _ _ _), .lst (.inl (.inl upd_same)) .nil, shaped_ints2 _, shaped_nil, ?_⟩
  rw [eqv_nil (fun (k : Nat) => PyData.int (k : Int))]
  exact q _ s1
theorem rd_and2 {A B : TE} {a c : Bool} (hA : ∀ Q : VK, (∀ H', Same H H' → Q (.bl a) H') → A σ H Q) (hB : ∀ (H1 : Hp) (Q : VK), Same H H1 → (∀ H', Same H1 H' → Q (.bl c) H') → B σ H1 Q) (q : ∀ H', Same H H' → Q (.bl (a && c)) H') : tAndV A B σ H Q := by
  refine hA _ fun H1 s1 => ⟨_, rfl, ?_⟩
  cases a with
  | false => exact iteF (q H1 s1)
  | true => exact iteT (hB H1 _ s1 fun H2 s2 => q H2 (s1.trans s2))
end
/-! ### texts -/
def mText : List Nat → Str
  | [] => "None"
  | k :: _ => toString (k : Int)
theorem mText_ok {l : List Nat} (h : ∀ k ∈ l, k < 4) : SeqAt.shaped (.str (mText l)) = true := by
  match l, h with
  | [], _ => exact (by decide +kernel : SeqAt.shaped (.str ("None" : Str)) = true)
  | k :: r, h =>
    have hk := h k List.mem_cons_self
    have all : ∀ k : Nat, k < 4 → SeqAt.shaped (.str (toString (k : Int) : String)) = true := by decide +kernel
    exact all k hk
theorem pairText_ok {q : Nat × Nat} (h1 : q.1 < 5) (h2 : q.2 < 5) : SeqAt.shaped (.str (pairText q)) = true := by
  obtain ⟨i, j⟩ := q
  have all : ∀ i, i < 5 → ∀ j, j < 5 → SeqAt.shaped (.str (pairText (i, j))) = true := by decide +kernel
  exact all i h1 j h2
def repD (a b c : Bool) : PyData := .list [.list [.bool a, .bool b, .bool c], .list [.bool a, .bool b, .bool c]]
theorem repD_ok (a b c : Bool) : (repD a b c).showable = true ∧ (repD a b c).hasDict = false ∧ (repD a b c).depth ≤ 60 ∧ (repD a b c).shown.length ≤ sizeLine ∧ SeqAt.shaped (.str (repD a b c).shown) = true := by
  cases a <;> cases b <;> cases c <;> exact ⟨by decide +kernel, by decide +kernel, by decide +kernel, by decide +kernel, by decide +kernel⟩
theorem eqv_str (x : Str) : PyData.eqv (.str x) (.str x) = true := by simp [PyData.eqv]
theorem nat_log {k : Nat} (h : k < 4) : ((k : Int)).natAbs.log2 < 1920 := by
  rw [Int.natAbs_natCast]
  have all : ∀ k, k < 4 → k.log2 < 1920 := by decide +kernel
  exact all k h
/-- what first_more's outcome is told as -/
structure Out (N : Nat) (F G : List Fact) (a1 a2 : Str) : Prop where
  back : NoQ F → a1 = "back" ∧ a2 = mText (unsureL N F G)
  mach : ∀ q, FirstQ F q → a1 = "machine" ∧ a2 = pairText q
theorem moreL_lt {N : Nat} {one : List (List Int)} {G : List Fact} (h : G.length ≤ 4) : ∀ k ∈ moreL N one G, k < 4 := fun k hk => by
  unfold moreL at hk
  have := List.mem_range.mp (List.mem_filter.mp hk).1
  omega
theorem unsureL_lt {N : Nat} {F G : List Fact} (h : G.length ≤ 4) : ∀ k ∈ unsureL N F G, k < 4 := fun k hk => by
  unfold unsureL at hk
  have := List.mem_range.mp (List.mem_filter.mp hk).1
  omega
theorem FirstQ.lt5 {F : List Fact} {q : Nat × Nat} (h : FirstQ F q) (l : F.length ≤ 4) : q.1 < 5 ∧ q.2 < 5 := by
  obtain ⟨f, g, e1, e2, _⟩ := h.bad
  have := (List.getElem?_eq_some_iff.mp e1).1
  have := (List.getElem?_eq_some_iff.mp e2).1
  omega
section
variable {K : PySem.W.Frag} {σ : L2.St} {H : Hp} {Q : VK} {i : Nat} {M : Addr} {l : List Nat}
/-- repr(xs[0] if xs != [] else None) -/
theorem rd_first (hi : σ[i]? = some (some (.ref M))) (hM : H M = some (.lst (numsV l))) (hl : ∀ k ∈ l, k < 4) (q : ∀ H', Same H H' → Q (.str (mText l)) H') :
    tCB (rRep K) (tCons (tIf (tTest (tOp (rNeD K) (tVar i) (tLst tNil))) (tOp (rIxL K) (tVar i) (tC (.int 0))) (tC .non)) tNil) σ H Q := by
  refine rd_nums_ne hi hM fun H1 s1 => ⟨_, rfl, ?_⟩
  cases l with
  | nil => exact iteF (.inr (.inl ⟨rfl, q H1 s1⟩))
  | cons k r =>
    refine iteT ⟨_, hi, M, _, 0, _, rfl, rfl, .inl (.inl (s1 _ _ hM)), atI_nat (j := 0) rfl, ?_⟩
    exact .inl ⟨_, rfl, nat_log (hl k List.mem_cons_self), q H1 s1⟩
/-- if one == []: due = ['machine', repr((first_quarrel(first) + [None])[0])] -/
theorem rd_due {D : Ends} {N : Nat} {one : List (List Int)} {F G : List Fact} {p1 D8 : Addr} (h4 : σ[4]? = some (some (.ref M))) (h11 : σ[11]? = some (some (.ref p1))) (h8 : σ[8]? = some (some (.ref D8))) (hM : MapsAt H M one) (hF : FactsAt H p1 F) (lF : F.length ≤ 4)
    (hone : one = [] ↔ ¬ NoQ F) (hmore : NoQ F → l = unsureL N F G) (hb : H D8 = some (.lst [.str "back", .str (mText l)])) (hl : ∀ k ∈ l, k < 4)
    (k : ∀ (D9 : Addr) (a1 a2 : Str) (H' : Hp), Same H H' → H' D9 = some (.lst [.str a1, .str a2]) → Out N F G a1 a2 → SeqAt.shaped (.str a1) = true → SeqAt.shaped (.str a2) = true → D.nx (σ.set 8 (some (.ref D9))) H') :
    tIfS (tTest (tOp (rEqD K) (tVar 4) (tLst tNil))) (tAsg (tLst (tCons (tC (.str "machine")) (tCons (tCB (rRep K) (tCons (tOp (rIxL K) (tOp rCat (tCall spFq [] E0 (tCons (tVar 11) tNil)) (tLst (tCons (tC .non) tNil))) (tC (.int 0))) tNil)) tNil))) (gName 8)) tNext D σ H := by
  refine rd_maps_eq0 h4 hM fun H1 s1 => ⟨_, rfl, ?_⟩
  by_cases hq : NoQ F
  · rw [decide_eq_false (fun z => hone.mp z hq)]
    refine iteF ?_
    have := k D8 "back" (mText l) H1 s1 (s1 _ _ hb) ⟨fun _ => ⟨rfl, by rw [hmore hq]⟩, fun q f => absurd f.bad (noQ_iff.mp hq _ _ f.lt)⟩ (by decide +kernel) (mText_ok hl)
    have e : σ.set 8 (some (.ref D8)) = σ := by
      refine List.ext_getElem? fun m => ?_
      by_cases hm : m = 8
      · subst hm
        have hl : 8 < σ.length := by
          rcases Nat.lt_or_ge 8 σ.length with z | z
          · exact z
          · rw [List.getElem?_eq_none z] at h8; cases h8
        rw [List.getElem?_set_self hl, h8]
      · rw [List.getElem?_set_ne (Ne.symm hm)]
    rw [e] at this
    exact this
  · rw [decide_eq_true (hone.mpr hq)]
    refine iteT ?_
    refine ⟨_, h11, p1, F, rfl, hF.same s1, by omega, fun H2 p s2 => ⟨fun z => absurd z hq, fun q t fq ht hp => ?_⟩⟩
    refine ⟨by show 1 ≤ sizeLine; decide, fun c1 hc1 => ?_⟩
    have s3 := same_upd (o := .lst [.non]) hc1
    refine ⟨_, _, _, _, rfl, rfl, s3 _ _ hp, upd_same, by show 2 ≤ sizeLine; decide, fun c2 hc2 => ?_⟩
    have s4 := same_upd (o := .lst ([.ref t] ++ [.non])) hc2
    refine ⟨c2, _, 0, _, rfl, rfl, .inl (.inl upd_same), atI_nat (j := 0) rfl, ?_⟩
    obtain ⟨q1, q2⟩ := fq.lt5 lF
    have ht4 := s4 _ _ (s3 _ _ ht)
    refine .inr (.inr ⟨⟨_, dPair q, rfl, .tup (.inl (.inl ht4)) (.cons (.int _) (.cons (.int _) .nil)), (pair_size q1 q2).2, rfl, by show 1 ≤ 60; decide, (pair_size q1 q2).1, ?_⟩, _, rfl⟩)
    refine ⟨by show 2 ≤ sizeLine; decide, fun c3 hc3 => ?_⟩
    have s5 := same_upd (o := .lst [.str "machine", .str (dPair q).shown]) hc3
    exact k c3 "machine" (pairText q) _ ((((s1.trans s2).trans s3).trans s4).trans s5) upd_same ⟨fun z => absurd z hq, fun q' f => ⟨rfl, by rw [fq.one f]⟩⟩ (by decide +kernel) (pairText_ok q1 q2)
end
def twoD (a1 a2 : Str) : PyData := .list [.list [.str a1, .str a2], .list [.str a1, .str a2]]
theorem twoD_ok {a1 a2 : Str} (h1 : SeqAt.shaped (.str a1) = true) (h2 : SeqAt.shaped (.str a2) = true) : SeqAt.shaped (twoD a1 a2) = true := by
  unfold SeqAt.shaped at h1 h2
  rw [Bool.and_eq_true] at h1 h2
  have e : PyData.canLayAll0 [.str a1, .str a2] = true := by
    show (PyData.canLay0 (.str a1) && (PyData.canLay0 (.str a2) && true)) = true
    rw [h1.1, h2.1]; rfl
  refine shaped_list ?_ ?_
  · show (PyData.canLayAll0 [.str a1, .str a2] && (PyData.canLayAll0 [.str a1, .str a2] && true)) = true
    rw [e]; rfl
  · have d : PyData.depthAll [.list [.str a1, .str a2], .list [.str a1, .str a2]] = 1 := by simp [PyData.depthAll, PyData.depth]
    rw [d]; decide
theorem twoD_eqv (a1 a2 : Str) : PyData.eqv (twoD a1 a2) (twoD a1 a2) = true := by simp [twoD, PyData.eqv, PyData.eqvAll]
theorem Tabs.updL {T : List (Addr × Str)} {H : Hp} {D : Addr} {xs ys : List V} (t : LamX.Tabs T H) (v : H D = some (.lst xs)) : LamX.Tabs T (upd H D (.lst ys)) := fun p hp => by
  obtain ⟨ps, h1, h2, h3⟩ := t p hp
  refine ⟨ps, by rw [upd_ne (fun z => by rw [z, v] at h1; cases h1)]; exact h1, h2, fun pos cv hc => ?_⟩
  obtain ⟨c, e1, e2⟩ := (h3 pos cv hc)
  exact ⟨c, e1, by rw [upd_ne (fun z => by rw [z, v] at e2; unfold LamX.CodeO at e2; cases e2)]; exact e2⟩
section
variable {K : PySem.W.Frag} {σ : L2.St} {H : Hp} {Q : VK} {N : Nat} {F G : List Fact} {a1 a2 : Str} {p1 b : Addr} {TT : List (Addr × Str)}
/-- what heard wishes of first_more -/
theorem heard_more {H1 : Hp} (hA : FactsAt H1 p1 F) (hB : FactsAt H1 b G) (t2 : Two N F G) (lF : F.length ≤ 4) (lG : G.length ≤ 4) (ho : Out N F G a1 a2) (k : ∀ (H2 : Hp) (p : Addr), Same H1 H2 → H2 p = some (.lst [.str a1, .str a2]) → Q (.ref p) H2)
    (Qn : VK) (hQ : ∀ v H', HeardQ Q v H' → Qn v H') : spMore K [.ref p1, .ref b] H1 Qn (HeardE K Q) := by
  refine ⟨p1, b, N, F, G, rfl, hA, hB, t2, fun hq H2 s2 => hQ _ _ ?_, fun hq => ?_⟩
  · obtain ⟨e1, e2⟩ := ho.back hq
    refine ⟨a2, ?_, fun H3 p s3 hp => k H3 p (s2.trans s3) (by rw [e1]; exact hp)⟩
    rw [e2]
    unfold moreV
    have hl := unsureL_lt (N := N) (F := F) lG
    cases hu : unsureL N F G with
    | nil => exact .non
    | cons m r => exact .int _ (nat_log (hl m (by rw [hu]; exact List.mem_cons_self)))
  · intro q d H2 fq s2 hd
    obtain ⟨e1, e2⟩ := ho.mach q fq
    obtain ⟨q1, q2⟩ := fq.lt5 lF
    exact ⟨rfl, d, q, rfl, hd, q1, q2, fun H3 p s3 hp => k H3 p (s2.trans s3) (by rw [e1, e2]; exact hp)⟩
theorem FactsAt.extN {H H' : Hp} {a : Addr} {F : List Fact} (h : FactsAt H a F) (s : LamX.ExtN H H') : FactsAt H' a F := by
  obtain ⟨rs, h1, h2, h3⟩ := h
  exact ⟨rs, s _ _ h1 (fun _ z => by cases z), h2, fun i r f e1 e2 => s _ _ (h3 i r f e1 e2) (fun _ z => by unfold factV at z; cases z)⟩
theorem rd_heard1 (h11 : σ[11]? = some (some (.ref p1))) (h12 : σ[12]? = some (some (.ref b))) (hT : LamX.Tabs TT H) (hA : FactsAt H p1 F) (hB : FactsAt H b G) (t2 : Two N F G) (lF : F.length ≤ 4) (lG : G.length ≤ 4) (ho : Out N F G a1 a2)
    (k : ∀ (H1 H2 : Hp) (p : Addr), LamX.ExtN H H1 → LamX.Tabs TT H1 → Same H1 H2 → H2 p = some (.lst [.str a1, .str a2]) → Q (.ref p) H2) :
    LamX.tLam TT (HeardT K) (fun E => tCallS (spMore K) (fun _ => E) (tCons (tVar 11) (tCons (tVar 12) tNil))) σ H Q :=
  ⟨hT, fun H1 eN T1 Qn hQ => ⟨_, h11, _, h12, heard_more (hA.extN eN) (hB.extN eN) t2 lF lG ho (fun H2 p s2 hp => k H1 H2 p eN T1 s2 hp) Qn hQ⟩⟩
theorem rd_heard2 (h11 : σ[11]? = some (some (.ref p1))) (h12 : σ[12]? = some (some (.ref b))) (hT : LamX.Tabs TT H) (hA : FactsAt H p1 F) (hB : FactsAt H b G) (t2 : Two N F G) (lF : F.length ≤ 4) (lG : G.length ≤ 4) (ho : Out N F G a1 a2)
    (k : ∀ (H1 H2 : Hp) (p : Addr), LamX.ExtN H H1 → LamX.Tabs TT H1 → Same H1 H2 → H2 p = some (.lst [.str a1, .str a2]) → Q (.ref p) H2) :
    LamX.tLam TT (HeardT K) (fun E => tCallQ (spMore K) g2V E (tCons (tVar 12) (tCons (tVar 11) tNil))) σ H Q :=
  ⟨hT, fun H1 eN T1 Qn hQ => ⟨_, h12, _, h11, heard_more (hA.extN eN) (hB.extN eN) t2 lF lG ho (fun H2 p s2 hp => k H1 H2 p eN T1 s2 hp) Qn hQ⟩⟩
end
end K15
namespace K15
open L2 PySem PySem.Spec PyProof.Rows
def cR (K : PySem.W.Frag) : Addr := (He.cT K ("_law_right", none)).1
def pR (K : PySem.W.Frag) : Addr := (He.cT K ("_law_right", none)).2
def lamQ : Str := (envOfC "_law_right" (defScope s_law_right) 0 0 .none).qual ++ "<lambda>"
def TR (K : PySem.W.Frag) : List (Addr × Str) := [(pR K, lamQ)]
def NR : List Str := ["_law_keg_here", "_law_size", "_law_maps_here", "_law_turn", "_law_one_maps", "_law_two_maps", "_law_more", "_law_both_maps", "_law_due", "_law_told_here", "_law_named", "_law_first", "_law_second", "_law_row", "_law_k"]
theorem sc_law_right : FnScope NR ["_law_keg_here"] (defScope s_law_right) := ⟨rfl, rfl, rfl, by decide +kernel, rfl, by decide +kernel, by decide +kernel⟩
theorem fresh_keg {H : Hp} {l g : Addr} (k : KegAt H g) (hn : H l = none) : l ≠ g := fun z => by
  obtain ⟨_, _, _, h, _⟩ := k
  rw [z, h] at hn
  cases hn
/-- a part of facts -/
theorem FactsAt.cut {H : Hp} {p : Addr} {rs : List Addr} {F : List Fact} {lo hi : Option Int} (h2 : rs.length = F.length) (h3 : ∀ (i : Nat) (r : Addr) (f : Fact), rs[i]? = some r → F[i]? = some f → H r = some (factV f)) (hp : H p = none) :
    FactsAt (upd H p (.tup (cutV (rs.map V.ref) lo hi))) p ((F.drop (HT.sIx F.length 0 lo)).take (HT.sIx F.length F.length hi - HT.sIx F.length 0 lo)) := by
  have e : cutV (rs.map V.ref) lo hi = ((rs.drop (HT.sIx F.length 0 lo)).take (HT.sIx F.length F.length hi - HT.sIx F.length 0 lo)).map V.ref := by
    unfold cutV
    rw [List.length_map, h2, List.map_take, List.map_drop]
  rw [e]
  refine ⟨_, upd_same, by rw [List.length_take, List.length_take, List.length_drop, List.length_drop, h2], fun i r f e1 e2 => (same_upd hp) _ _ ?_⟩
  rw [List.getElem?_take] at e1 e2
  split at e1
  · rename_i q
    rw [if_pos q, List.getElem?_drop] at e2
    rw [List.getElem?_drop] at e1
    exact h3 _ r f e1 e2
  · cases e1
theorem Fine.sub {N : Nat} {F : List Fact} {i j : Nat} (h : Fine N F) : Fine N ((F.drop i).take j) := ⟨fun f hf => h.val f (List.mem_of_mem_drop (List.mem_of_mem_take hf)), fun f hf => h.pos f (List.mem_of_mem_drop (List.mem_of_mem_take hf))⟩
theorem cut_len {F : List Fact} {i j : Nat} : ((F.drop i).take j).length ≤ F.length := by
  rw [List.length_take,
    List.length_drop]
  omega
theorem rd_slice {K : PySem.W.Frag} {N : Nat} {a : Addr} {F : List Fact} {H : Hp} {Q : VK} {lo hi : Option Int} (ha : FactsAt H a F) (fF : Fine N F) (k : ∀ (a2 : Addr) (H7 : Hp) (F2 : List Fact), Same H H7 → FactsAt H7 a2 F2 → Fine N F2 → F2.length ≤ F.length → Q (.ref a2) H7) :
    rSlA K (.ref a) lo hi H Q := by
  obtain ⟨rs, c1, c2, c3⟩ := id ha
  exact ⟨a, _, rfl, .inl (.inl c1), fun _ => k a H F (Same.refl H) ha fF (Nat.le_refl _), fun _ p hp => k p _ _ (same_upd hp) (FactsAt.cut c2 c3 hp) fF.sub cut_len⟩
/-- one of the facts, as a tuple -/
theorem rd_slice1 {K : PySem.W.Frag} {a : Addr} {F : List Fact} {H : Hp} {Q : VK} {k : Nat} (ha : FactsAt H a F) (hk : k < F.length) (q : ∀ (a2 : Addr) (H7 : Hp), Same H H7 → FactsAt H7 a2 [F.getD k (0, 0, 0)] → Q (.ref a2) H7) :
    rSlA K (.ref a) (some (k : Int)) (some ((k : Int) + 1)) H Q := by
  obtain ⟨rs, c1, c2, c3⟩ := id ha
  have e1 : ∀ n d, k < n → HT.sIx n d (some (k : Int)) = k := fun n d h => by rw [HT.sIx_nat]; omega
  have e2 : ∀ n d, k < n → HT.sIx n d (some ((k : Int) + 1)) = k + 1 := fun n d h => by
    rw [show (k : Int) + 1 = ((k + 1 : Nat) : Int) by omega, HT.sIx_nat]
    omega
  have ln : (rs.map V.ref).length = F.length := by rw [List.length_map, c2]
  have one : (F.drop k).take 1 = [F.getD k (0, 0, 0)] := by
    rw [List.drop_eq_getElem_cons hk, List.getD_eq_getElem?_getD, List.getElem?_eq_getElem hk]
    rfl
  refine ⟨a, _, rfl, .inl (.inl c1), fun z => ?_, fun _ p hp => ?_⟩
  · rw [ln, e1 _ _ hk, e2 _ _ hk] at z
    obtain ⟨z1, z2⟩ := z
    have : F = [F.getD k (0, 0, 0)] := by
      rw [← one, z1]
      rw [List.drop_zero, List.take_of_length_le (by omega)]
    refine q a H (Same.refl H) ?_
    rw [← this]
    exact ha
  · have := FactsAt.cut (lo := some (k : Int)) (hi := some ((k : Int) + 1)) c2 c3 hp
    rw [e1 _ _ hk, e2 _ _ hk, show k + 1 - k = 1 by omega, one] at this
    exact q p _ (same_upd hp) this
section
variable {X : Cx}
theorem slT (K : PySem.W.Frag) {X : Cx} (h : X.K = K := by rfl) : SlR X (rSlA K) := by
  subst h
  exact sl_tupA
theorem piL (K : PySem.W.Frag) {X : Cx} {tg l : Expr} {tl : TE} (hl : PE X l tl) (h : X.K = K := by rfl) : PI X tg l (iList K tl) := by
  subst h
  exact pi_list hl
theorem neD (K : PySem.W.Frag) {X : Cx} (hu : X.A.units + 64 < cLine) (h : X.K = K := by rfl) : OpR X (compareOp .NotEq) (rNeD K) := by
  subst h
  exact op_neD hu
theorem pe_fn2 {k : Nat} {x : Str} {sp : Sp} {p pos : Pos} {e : Expr} {es : List Expr} {t : TA} (G : Has2 X.prog X.w X.K X.mg X.base CX0 k x sp) (hr : Room k X.A) (ha : PA X (e :: es) t) (hg : Gl X x := by rfl) (hdb : (x == ("__debug__" : Str)) = false := by decide)
    (he : starEach (e :: es) X.env = (false, eval e X.env) :: starEach es X.env := by rfl) (hpl : (backTo pos (starEach es X.env)).any (·.1) = false := by rfl) : PE X (.Call (.Name x p) (e :: es) [] pos) (tCall sp [] E0 t) := pe_fn G.to hr ha hg hdb he hpl
theorem pe_kw2 {k : Nat} {x : Str} {sp : Sp} {p pos : Pos} {kws : List Keyword} {tk : TA} (G : Has2 X.prog X.w X.K X.mg X.base CX0 k x sp) (hr : Room k X.A) (hkw : PK X kws tk) (hg : Gl X x := by rfl) (hall : (backToKw pos (keywordEach kws X.env)).all (·.1.isSome) = true := by rfl)
    (hks : (backToKw pos (keywordEach kws X.env)).filterMap (·.1) = [(Str.ofString "other"), (Str.ofString "one")] := by rfl) (hdb : (x == ("__debug__" : Str)) = false := by decide) (hpl : ((backTo pos (starEach [] X.env)).any (·.1) || (backToKw pos (keywordEach kws X.env)).any (·.1.isNone)) = false := by rfl) :
    PE X (.Call (.Name x p) [] kws pos) (tCallQ sp g2V E0 tk) := by
  obtain ⟨f, fd, h1, h2, h3, _, h5⟩ := G
  exact pe_callQ h3 hr hg h1 h2 h5 pass0 hkw hall hks hdb hpl
end
section
variable {w : World} {P : Program} {K : PySem.W.Frag} {base : Heap} {mg : Str → Option Value}
theorem law_right_body (T : Txt K mg) (TB : LamX.TabB base mg (cR K) (pR K)) {f : Addr} {cdv : Value} {A : Around} {outer : List Env} {s : Shared} {H : Hp} {Q : VK} {g : Addr} (hcd : cdv = .ref (cR K)) (hgd : A.guards = some [])
    (hr : Room 9 (A.deeper (envOfC "_law_right" (defScope s_law_right) s.heap.objs.size f cdv))) (hk : KegAt H g) (hT : LamX.Tabs (TR K) H) (q : ∀ H', SameX g H H' → LamX.Tabs (TR K) H' → Q (.bl true) H') :
    ∃ t, PSs (cxOf CX0 P w K mg base NR "_law_right" (defScope s_law_right) f cdv A outer s H E0) (defBody s_law_right) t ∧ t { nx := fun _ H' => Q .non H', rt := Q } (start NR [.ref g]) H := by
  have Gf := has_law_from (P := P) (w := w) (base := base) T
  have Gm := has_law_maps (P := P) (w := w) (base := base) T
  have Gt := has_law_told (P := P) (w := w) (base := base) T
  have Gv := has_law_moved (P := P) (w := w) (base := base) T
  have Gs := has_law_so (P := P) (w := w) (base := base) T
  have Gq := has_law_first_quarrel (P := P) (w := w) (base := base) T
  have Gam := has_as_much (P := P) (w := w) (base := base) T
  have Gal := has_alike (P := P) (w := w) (base := base) T
  have Gjo := has_joined (P := P) (w := w) (base := base) T
  have Gfm := has_first_more (P := P) (w := w) (base := base) T
  have mR : mg "range" = none := T.fr _ (by decide +kernel)
  have mL : mg "len" = none := T.fr _ (by decide +kernel)
  have mRp : mg "repr" = none := T.fr _ (by decide +kernel)
  have r2 := hr.mono (show 2 ≤ 9 by decide)
  have r3 := hr.mono (show 3 ≤ 9 by decide)
  have r4 := hr.mono (show 4 ≤ 9 by decide)
  have r7 := hr.mono (show 7 ≤ 9 by decide)
  have hgd2 : (A.deeper (envOfC "_law_right" (defScope s_law_right) s.heap.objs.size f cdv)).guards = some [] := hgd
  have hu : (A.deeper (envOfC "_law_right" (defScope s_law_right) s.heap.objs.size f cdv)).units + 100 < cLine := by have := hr.un; omega
  obtain ⟨fdh, Fh⟩ := T.df (mkD "_law_heard" s_law_heard) (List.mem_of_getElem? (i := 29) rfl)
  have bh : Binds K fdh ["_law_act"] [] := FunD.bindsN Fh (fun _ _ _ _ _ _ us hl => match us, hl with | [_], _ => rfl)
  obtain ⟨och, odh, dVh, kVh, doch, pmh, anh, cdh, cth, oslh, rfl, lkh, hcdh, _, _⟩ := Fh.ex
  obtain ⟨fm, fdm, m1, m2, m3, m4, m5⟩ := Gfm
  let tL1 : XK → TE := fun E => tCallS (spMore K) (fun _ => E) (tCons (tVar 11) (tCons (tVar 12) tNil))
  let tL2 : XK → TE := fun E => tCallQ (spMore K) g2V E (tCons (tVar 12) (tCons (tVar 11) tNil))
  refine ⟨_, PSs.nox (pss_cons (ps_set (i := 1) sc_law_right.nd rfl (.inl rfl) (pe_fn Gf r2 (pa_cons (pv 0) (pa_cons (pe_lst (pa_cons pe_int (pa_cons pe_int (pa_cons pe_int (pa_cons pe_int pa_nil))))) pa_nil))))
    (pss_cons (ps_set (i := 2) sc_law_right.nd rfl (.inl rfl) (pe_fn Gm r4 (pa_cons (pv 1) pa_nil)))
    (pss_cons (ps_for PassesOwn.never rfl (pi_range1 rfl mR (pa_cons pe_int pa_nil)) (pg_name (i := 3) sc_law_right.nd rfl (.inl rfl))
      (pss_cons (ps_asg (pe_tup (pa_cons (pe_fn Gt r3 (pa_cons (pv 0) (pa_cons (pv 2) (pa_cons (pv 1) (pa_cons pe_int pa_nil))))) (pa_cons (pe_fn Gt r3 (pa_cons (pv 0) (pa_cons (pv 2) (pa_cons (pv 1) (pa_cons pe_int pa_nil))))) pa_nil)))
          (pg_tup rfl (pgs_cons (pg_name (i := 11) sc_law_right.nd rfl (.inr rfl)) (pgs_cons (pg_name (i := 12) sc_law_right.nd rfl (.inr rfl)) pgs_nil))))
      (pss_cons (ps_set (i := 12) sc_law_right.nd rfl (.inr rfl) (pe_fn Gf r2 (pa_cons (pv 0) (pa_cons (pe_lst (pa_cons (pv 12) (pa_cons (pv 12) (pa_cons (pe_fn Gv r3 (pa_cons (pv 0) (pa_cons (pv 11) (pa_cons (pv 1) pa_nil))))
          (pa_cons (pe_fn Gv r3 (pa_cons (pv 0) (pa_cons (pe_slice sl_tupA (pv 11) po_none (po_some pe_int)) (pa_cons (pv 1) pa_nil)))) pa_nil))))) pa_nil))))
      (pss_cons (ps_set (i := 4) sc_law_right.nd rfl (.inr rfl) (pe_lc (own := [("_law_row", 13)]) (g := gName 13) rfl sc_law_right.nd (pi_list (pv 2)) (blkOk_by (N := NR) (sc := defScope s_law_right) (by decide +kernel))
          (fun _ _ _ _ _ => pg_name (i := 13) sc_law_right.nd rfl (Or.inl rfl)) (fun _ _ _ _ _ => pts_one (pt_val (pe_fn Gs r2 (pa_cons (pv 13) (pa_cons (pv 11) pa_nil))))) (fun _ _ _ _ _ => pv 13)))
      (pss_cons (ps_setLc (i := 5) (own := [("_law_row", 13)]) (g := gName 13) rfl sc_law_right.nd rfl rfl (sw_true rfl rfl rfl rfl) (pi_list (pv 2)) (blkOk_by (N := NR) (sc := defScope s_law_right) (by decide +kernel))
          (fun _ _ _ _ _ => pg_name (i := 13) sc_law_right.nd rfl (Or.inl rfl)) (fun _ _ _ _ _ => pts_one (pt_val (pe_fn Gs r2 (pa_cons (pv 13) (pa_cons (pv 12) pa_nil))))) (fun _ _ _ _ _ => pv 13))
      (pss_cons (ps_setLc (i := 6) (own := [("_law_k", 14)]) (g := gName 14) rfl sc_law_right.nd rfl rfl (sw_true rfl rfl rfl rfl) (pi_range1 rfl mR (pa_cons (pe_b1 call_len_seq mL (pv 12)) pa_nil)) (blkOk_by (N := NR) (sc := defScope s_law_right) (by decide +kernel))
          (fun _ _ _ _ _ => pg_name (i := 14) sc_law_right.nd rfl (Or.inr rfl))
          (fun _ _ _ _ _ => pts_one (pt_cmpR (neD K hr.units) (pe_lc (own := [("_law_row", 13)]) (g := gName 13) (wi := iList K (tVar 4)) rfl sc_law_right.nd (piL K (pv 4)) (blkOk_by (N := NR) (sc := { kind := .function, names := [(".0", .local), ("_law_k", .cell), ("_law_one_maps", .cell), ("_law_second", .cell)], isGenerator := false, isCoroutine := false }) (by decide +kernel))
            (fun _ _ _ _ _ => pg_name (i := 13) sc_law_right.nd rfl (Or.inl rfl)) (fun _ _ _ _ _ => pts_one (pt_not (pt_val (pe_fn Gs r2 (pa_cons (pv 13) (pa_cons (pe_slice (slT K) (pv 12) (po_some (pv 14)) (po_some (pe_op op_add (pv 14) pe_int))) pa_nil))))))
            (fun _ _ _ _ _ => pe_int)) (pe_lst pa_nil) (nomark _)))
          (fun _ _ _ _ _ => pv 14))
      (pss_cons (ps_setLc (i := 7) (own := [("_law_row", 13)]) (g := gName 13) rfl sc_law_right.nd rfl rfl (sw_true rfl rfl rfl rfl) (pi_list (pv 4)) (blkOk_by (N := NR) (sc := defScope s_law_right) (by decide +kernel))
          (fun _ _ _ _ _ => pg_name (i := 13) sc_law_right.nd rfl (Or.inl rfl)) (fun _ _ _ _ _ => pts_one (pt_val (pe_fn Gs r2 (pa_cons (pv 13) (pa_cons (pv 12) pa_nil))))) (fun _ _ _ _ _ => pv 13))
      (pss_cons (ps_set (i := 8) sc_law_right.nd rfl (.inl rfl) (pe_lst (pa_cons (pe_and (pe_cmpR (op_neD hr.units) (pv 4) (pe_lst pa_nil) (nomark _)) (pe_one (pe_cmpR (op_eqD hr.units) (pv 6) (pe_lst pa_nil) (nomark _)))) (pa_cons (pe_cmpR (op_eqD hr.units) (pv 4) (pv 5) (nomark _)) (pa_cons (pe_cmpR (op_neD hr.units) (pv 7) (pe_lst pa_nil) (nomark _)) pa_nil)))))
      (pss_cons (ps_set (i := 9) sc_law_right.nd rfl (.inl rfl) (pe_lst (pa_cons (pe_fn2 Gam r7 (pa_cons (pv 11) (pa_cons (pv 12) pa_nil))) (pa_cons (pe_fn2 Gal r7 (pa_cons (pv 11) (pa_cons (pv 12) pa_nil))) (pa_cons (pe_fn2 Gjo r7 (pa_cons (pv 11) (pa_cons (pv 12) pa_nil))) pa_nil)))))
      (pss_cons (ps_set (i := 10) sc_law_right.nd rfl (.inl rfl) (pe_lst (pa_cons (pe_kw2 Gam r7 (pk_cons (pv 12) (pk_cons (pv 11) pk_nil))) (pa_cons (pe_kw2 Gal r7 (pk_cons (pv 12) (pk_cons (pv 11) pk_nil))) (pa_cons (pe_kw2 Gjo r7 (pk_cons (pv 12) (pk_cons (pv 11) pk_nil))) pa_nil)))))
      (pss_cons (ps_if (pt_cmpR (op_neD hr.units) (pe_b1 (call_rep hgd2 hu) mRp (pe_lst (pa_cons (pv 9) (pa_cons (pv 10) pa_nil)))) (pe_b1 (call_rep hgd2 hu) mRp (pe_lst (pa_cons (pv 8) (pa_cons (pv 8) pa_nil)))) (nomark _)) pss_never pss_nil)
      (pss_cons (ps_set (i := 8) sc_law_right.nd rfl (.inl rfl) (pe_lst (pa_cons pe_str (pa_cons (pe_b1 (call_rep hgd2 hu) mRp (pe_ifExp (pt_cmpR (op_neD hr.units) (pv 6) (pe_lst pa_nil) (nomark _)) (pe_ix ix_list (pv 6) pe_int (fun _ _ => rfl)) pe_non)) pa_nil))))
      (pss_cons (ps_if (pt_cmpR (op_eqD hr.units) (pv 4) (pe_lst pa_nil) (nomark _)) (pss_one (ps_set (i := 8) sc_law_right.nd rfl (.inl rfl) (pe_lst (pa_cons pe_str (pa_cons (pe_b1 (call_rep hgd2 hu) mRp (pe_ix ix_list (pe_op op_cat (pe_fn Gq r2 (pa_cons (pv 11) pa_nil)) (pe_lst (pa_cons pe_non pa_nil))) pe_int (fun _ _ => rfl))) pa_nil))))) pss_nil)
      (pss_cons (ps_set (i := 9) sc_law_right.nd rfl (.inl rfl) (pe_lst (pa_cons (LamX.pe_lamcall (T := TR K) (TT := HeardT K) (x := "_law_heard") (a := "_law_act") (g := He.fAd K ("_law_heard", none)) (c := cR K) (P := pR K) (k := 7) (Ng := ["_law_act", "_law_back", "_law_e"]) (t := tL1) rfl (T.gl "_law_heard" (by decide +kernel)) Fh.kp lkh hcdh bh sc_law_heard rfl (Or.inl rfl)
            (heard_gives (k := 6) T hgd2 hr) TB hcd List.mem_cons_self (fun p hp _ => by rw [List.mem_singleton.mp hp]; rfl) hr (LamX.lamS_by (sc := defScope s_law_right) (by decide +kernel)) rfl (fun _ _ _ _ _ => rfl)
            (fun _ _ _ _ E _ _ hr' => pe_callS (E := fun _ => E) m3 hr' rfl m1 m2 m4 (fun σ => passAt (takes_of rfl rfl rfl rfl) σ) (by exact (pa_cons (pv 11) (pa_cons (pv 12) pa_nil))))) pa_nil)))
      (pss_cons (ps_expr (pe_bm PySem.F.plainAttrs_list PySem.F.slot_list_append PySem.F.type_list_append mt_append (pv 9) (pa_cons (LamX.pe_lamcall (T := TR K) (TT := HeardT K) (x := "_law_heard") (a := "_law_act") (g := He.fAd K ("_law_heard", none)) (c := cR K) (P := pR K) (k := 7) (Ng := ["_law_act", "_law_back", "_law_e"]) (t := tL2) rfl (T.gl "_law_heard" (by decide +kernel)) Fh.kp lkh hcdh bh sc_law_heard rfl (Or.inl rfl)
            (heard_gives (k := 6) T hgd2 hr) TB hcd List.mem_cons_self (fun p hp _ => by rw [List.mem_singleton.mp hp]; rfl) hr (LamX.lamS_by (sc := defScope s_law_right) (by decide +kernel)) rfl (fun _ _ _ _ _ => rfl)
            (fun _ _ _ _ E _ _ hr' => pe_callQ (E := E) m3 hr' rfl m1 m2 m5 (passes_call (W := fun cls d _ H => E cls d H) (takes_of rfl rfl rfl rfl) fun _ _ _ _ h => h) (pk_cons (pv 12) (pk_cons (pv 11) pk_nil)))) pa_nil)))
      (pss_one (ps_if (pt_cmpR (op_neD hr.units) (pv 9) (pe_lst (pa_cons (pv 8) (pa_cons (pv 8) pa_nil))) (nomark _)) pss_never pss_nil)))))))))))))))))
    (pss_one (ps_ret pe_bl))))), ?_⟩
  refine ⟨_, rfl, by show 4 ≤ sizeLine; decide, fun l hl => ?_⟩
  have sl := same_upd (o := .lst [.int 4, .int 6, .int 6, .int 12]) hl
  refine ⟨g, l, _, rfl, hk.same sl, upd_same, fresh_keg hk hl, by decide, by decide, fun i0 x0 H1 hx0 sb1 hk1 => ?_⟩
  obtain ⟨N, rfl, hN⟩ : ∃ N : Nat, x0 = .int (N : Int) ∧ (N = 4 ∨ N = 6 ∨ N = 12) := by
    match i0, hx0 with
    | 0, e => exact ⟨4, (Option.some.inj e).symm, .inl rfl⟩
    | 1, e => exact ⟨6, (Option.some.inj e).symm, .inr (.inl rfl)⟩
    | 2, e => exact ⟨6, (Option.some.inj e).symm, .inr (.inl rfl)⟩
    | 3, e => exact ⟨12, (Option.some.inj e).symm, .inr (.inr rfl)⟩
  have hN0 : 0 < N := by omega
  have hN12 : N ≤ 12 := by omega
  have hdv : N ∣ 12 := by rcases hN with rfl | rfl | rfl <;> decide
  have hT1 := Tabs.sameB (Tabs.same hT sl) sb1 (hk.same sl)
  refine ⟨_, rfl, N, rfl, hN, fun H2 M ts s2 nM hM hA => ?_⟩
  have Mg : M ≠ g := fresh_keg hk1 nM
  have hlen : ∀ t ∈ ts, t.length = N := fun t ht => ((hA.mem t).mp ht).len
  have few6 : ts.length ≤ 1000000 := Nat.le_trans hA.few (by decide)
  refine ⟨4, rfl, by decide, by decide, ?_⟩
  refine for_it (walk_range (lo := 0) (n := ((4 : Int)).toNat)) (fun k σ H' => ∃ y3 y4 y5 y6 y7 y8 y9 y10 y11 y12, σ = [some (.ref g), some (.int (N : Int)), some (.ref M), y3, y4, y5, y6, y7, y8, y9, y10, y11, y12, none, none] ∧ SameX g H H' ∧ KegAt H' g ∧ LamX.Tabs (TR K) H' ∧ MapsAt H' M ts)
    ⟨none, none, none, none, none, none, none, none, none, none, rfl, (sameX_same sl).trans ((sameX_of sb1).trans (sameX_same s2)), hk1.same s2, Tabs.same hT1 s2, hM⟩ (fun _ _ _ _ _ => trivial) ?_ ?_
  · rintro k v0 σ Hb H3 hk4 ⟨y3, y4, y5, y6, y7, y8, y9, y10, y11, y12, rfl, sx3, hk3, hT3, hM3⟩ ⟨rfl, rfl⟩
    refine ⟨_, rfl, _, rfl, _, rfl, g, M, N, ts, rfl, hk3, hM3, Mg, hN0, hN12, hA.pos, few6, hlen, fun H4 p1 F sb4 hkA hF4 fF lF => ?_⟩
    have hM4 := hM3.sameX (sameX_of sb4) hk3 Mg
    refine ⟨_, rfl, _, rfl, _, rfl, g, M, N, ts, rfl, hkA, hM4, Mg, hN0, hN12, hA.pos, few6, hlen, fun H5 p2 G0 sb5 hkB hG5 fG0 lG0 => ?_⟩
    refine ⟨by show 2 ≤ sizeLine; decide, fun t0 ht0 => ?_⟩
    have st0 := same_upd (o := .tup [.ref p1, .ref p2]) ht0
    refine ⟨t0, _, rfl, .inl (.inl upd_same), rfl, _, _, rfl, _, _, rfl, rfl, ?_⟩
    -- second, anew
    have hF5 := (hF4.sameB sb5 hkA).same st0
    have hG5' := hG5.same st0
    have hk5 := hkB.same st0
    refine ⟨_, rfl, _, rfl, _, rfl, _, rfl, _, rfl, _, rfl, g, p1, N, F, rfl, hk5, hF5, hN0, hN12, fF, lF, fun H6 q1 G1 sb6 hk6 hG6 fG1 lG1 => ?_⟩
    have hF6 := hF5.sameB sb6 hk5
    refine ⟨_, rfl, _, rfl, 2, rfl, rd_slice hF6 fF fun a2 H7 F2 s7 hF7 fF2 lF2 => ?_⟩
    refine ⟨_, rfl, g, a2, N, F2, rfl, hk6.same s7, hF7, hN0, hN12, fF2, Nat.le_trans lF2 lF, fun H8 q2 G2 sb8 hk8 hG8 fG2 lG2 => ?_⟩
    refine ⟨by show 4 ≤ sizeLine; decide, fun l9 hl9 => ?_⟩
    have s9 := same_upd (o := .lst [.ref p2, .ref p2, .ref q1, .ref q2]) hl9
    have hk9 := hk8.same s9
    refine ⟨g, l9, _, rfl, hk9, upd_same, fresh_keg hk8 hl9, by show 0 < 4; decide, by show 4 ≤ 100000000; decide, fun i9 x9 H9 hx9 sbA hkC => ?_⟩
    -- what stands by now
    have k67 := hk6.same s7
    have sAll : SameX g H3 H9 := (sameX_of ((sb4.trans sb5).trans (sameB_of st0))).trans ((sameX_of (sb6.trans (sameB_of s7))).trans (sameX_of ((sb8.trans (sameB_of s9)).trans sbA)))
    have hT9 : LamX.Tabs (TR K) H9 := Tabs.sameB (Tabs.same (Tabs.sameB (Tabs.same (Tabs.sameB (Tabs.same (Tabs.sameB (Tabs.sameB hT3 sb4 hk3) sb5 hkA) st0) sb6 hk5) s7) sb8 k67) s9) sbA hk9
    have hM9 := hM3.sameX sAll hk3 Mg
    have hF9 : FactsAt H9 p1 F := (((hF6.same s7).sameB sb8 k67).same s9).sameB sbA hk9
    have hp2 : FactsAt H9 p2 G0 := ((((hG5'.sameB sb6 hk5).same s7).sameB sb8 k67).same s9).sameB sbA hk9
    have hq1 : FactsAt H9 q1 G1 := (((hG6.same s7).sameB sb8 k67).same s9).sameB sbA hk9
    have hq2 : FactsAt H9 q2 G2 := (hG8.same s9).sameB sbA hk9
    obtain ⟨b, G, rfl, hG9, fG, lG⟩ : ∃ (b : Addr) (G : List Fact), x9 = .ref b ∧ FactsAt H9 b G ∧ Fine N G ∧ G.length ≤ 4 := by
      match i9, hx9 with
      | 0, e => exact ⟨p2, G0, (Option.some.inj e).symm, hp2, fG0, lG0⟩
      | 1, e => exact ⟨p2, G0, (Option.some.inj e).symm, hp2, fG0, lG0⟩
      | 2, e => exact ⟨q1, G1, (Option.some.inj e).symm, hq1, fG1, lG1⟩
      | 3, e => exact ⟨q2, G2, (Option.some.inj e).symm, hq2, fG2, lG2⟩
    have sX9 := sx3.trans sAll
    clear hp2 hq1 hq2 sAll hx9 sbA hk9 s9 hl9 hG8 sb8 hk8 hF7 s7 hG6 sb6 hk6 k67 hF6 hG5' hF5 hk5 ht0 st0 hG5 sb5 hkB hF4 sb4 hkA hM4 hM3 hT3 hk3 sx3
    -- the rows that fit
    dsimp only [gName, tSeq, tAsg, List.set, List.map_cons, List.map_nil]
    show tLc (iList K (tVar 2)) (gName 13) (tB (tCall spSo [] E0 (tCons (tVar 13) (tCons (tVar 11) tNil)))) (tVar 13) [13] [some (.ref g), some (.int (N : Int)), some (.ref M), some (.int (0 + (k : Int))), y4, y5, y6, y7, y8, y9, y10, some (.ref p1), some (.ref b), none, none] H9 _
    refine rd_fit (i := 2) (j := 11) (v := 13) (M := M) (a := p1) (N := N) ?_ ?_ (by decide) ?_ hM9 hF9 hlen hN0 hA.few fun HA D1 sA nD1 hD1 => ?_
    · rfl
    · rfl
    · show 13 < 15; decide
    show tLc (iList K (tVar 2)) (gName 13) (tB (tCall spSo [] E0 (tCons (tVar 13) (tCons (tVar 12) tNil)))) (tVar 13) [13] [some (.ref g), some (.int (N : Int)), some (.ref M), some (.int (0 + (k : Int))), some (.ref D1), y5, y6, y7, y8, y9, y10, some (.ref p1), some (.ref b), none, none] HA _
    refine rd_fit (i := 2) (j := 12) (v := 13) (M := M) (a := b) (N := N) ?_ ?_ (by decide) ?_ (hM9.same sA) (hG9.same sA) hlen hN0 hA.few fun HB D2 sB nD2 hD2 => ?_
    · rfl
    · rfl
    · show 13 < 15; decide
    have sAB := sA.trans sB
    have hGB := hG9.same sAB
    obtain ⟨rsG, g1, g2, g3⟩ := id hGB
    have hD1B := hD1.same sB
    obtain ⟨one, hone⟩ : ∃ one, one = ts.filter fun t => allSo N t F := ⟨_, rfl⟩
    rw [← hone] at hD1B hD1
    have fewO : one.length ≤ 100000 := by rw [hone]; exact Nat.le_trans (List.length_filter_le _ _) hA.few
    have lenO : ∀ t ∈ one, t.length = N := fun t ht => hlen t (List.mem_filter.mp (by rw [hone] at ht; exact ht)).1
    obtain ⟨rs1, o1, o2, o3⟩ := id hD1B
    refine ⟨_, rfl, b, _, rfl, .inr (.inl (.inl g1)), _, rfl, by omega, by rw [List.length_map]; omega, fun D3 hD3 => ?_⟩
    have lenG : ((((rsG.map V.ref).length : Nat) : Int)).toNat = G.length := by rw [List.length_map, g2]; exact Int.toNat_natCast _
    refine lc_range (lo := 0) (n := ((((rsG.map V.ref).length : Nat) : Int)).toNat) (fun k H' => Same HB H' ∧ H' D3 = some (.lst (numsV ((List.range k).filter fun k => one.any fun t => !allSo N t [G.getD k (0, 0, 0)])))) ⟨same_upd hD3, upd_same⟩ ?_ ?_
    · rintro k1 HC hk1 ⟨sC, hd⟩
      rw [lenG] at hk1
      have e0 : (0 : Int) + (k1 : Int) = (k1 : Int) := Int.zero_add _
      rw [e0]
      refine ⟨rfl, ?_⟩
      refine ⟨_, rfl, D1, rfl, ⟨_, .inl (.inl (sC _ _ o1))⟩, fun D5 hD5 => ?_⟩
      refine lc_it (walk_list (K := K) (a := D1) (xs := rs1.map V.ref)) (fun m H' => Same HC H' ∧ H' D5 = some (.lst ((((one.take m).filter fun t => !allSo N t [G.getD k1 (0, 0, 0)]).map fun _ => (1 : Int)).map V.int))) ⟨same_upd hD5, upd_same⟩ (fun m H' _ h => .inl (.inl (h.1 _ _ (sC _ _ o1)))) ?_ ?_
      · rintro m x H6 H7 hm ⟨s6, hd6⟩ ⟨rfl, hx⟩
        obtain ⟨r, er, rfl⟩ := at_map hx
        obtain ⟨t, et⟩ := at_len o2 er
        have hrow := s6 _ _ (sC _ _ (o3 m r t er et))
        refine ⟨rfl, ?_⟩
        refine ⟨_, rfl, _, rfl, _, rfl, (k1 : Int), rfl, _, rfl, _, _, rfl, rfl, (k1 : Int) + 1, rfl, rd_slice1 ((hGB.same sC).same s6) hk1 fun a2 H8 s8 hA2 => ?_⟩
        refine ⟨r, a2, N, t, _, rfl, s8 _ _ hrow, lenO t (List.mem_of_getElem? et), hN0, hA2, _, rfl, ?_⟩
        have ef := take_filt (p := fun t => !allSo N t [G.getD k1 (0, 0, 0)]) et
        show if (!allSo N t [G.getD k1 (0, 0, 0)]) = true then _ else _
        cases ho : allSo N t [G.getD k1 (0, 0, 0)] with
        | true =>
          rw [ho, if_neg (by decide), List.append_nil] at ef
          refine iteF ⟨s6.trans s8, ?_⟩
          rw [ef]
          exact s8 _ _ hd6
        | false =>
          rw [ho, if_pos (by decide)] at ef
          refine iteT ⟨_, s8 _ _ hd6, ?_, fun bb o z => ?_, ?_⟩
          · have z : sizeLine = 16777216 := sizeLine_eq
            have l1 := List.length_filter_le (fun t => !allSo N t [G.getD k1 (0, 0, 0)]) (one.take m)
            rw [List.length_take] at l1
            rw [List.length_map, List.length_map]
            omega
          · rw [upd_ne (ne_of_none z hD5)]
            exact s8 _ _ (s6 _ _ z)
          · rw [upd_same, ef, List.map_append, List.map_append]
            rfl
      · rintro H6 ⟨s6, hd6⟩
        rw [List.length_map, o2, List.take_length] at hd6
        refine ⟨Nat.zero_le _, fun l nl => ?_⟩
        have s7 := same_upd (o := .lst []) nl
        refine ⟨_, _, .lst (.inl (.inl (s7 _ _ hd6))) (dp_ints K _ _), .lst (.inl (.inl upd_same)) .nil, shaped_ints _, shaped_nil, _, rfl, ?_⟩
        rw [eqv_nil PyData.int]
        have s67 := (sC.trans s6).trans s7
        have hd7 := s7 _ _ (s6 _ _ hd)
        have em := filt_more (p := fun k => one.any fun t => !allSo N t [G.getD k (0, 0, 0)]) (k := k1)
        cases ha : one.any fun t => !allSo N t [G.getD k1 (0, 0, 0)] with
        | false =>
          have en : ((one.filter fun t => !allSo N t [G.getD k1 (0, 0, 0)]).map fun _ => (1 : Int)) = [] := by
            rw [List.map_eq_nil_iff, List.filter_eq_nil_iff]
            intro t ht hh
            have := (List.any_eq_true (p := fun t => !allSo N t [G.getD k1 (0, 0, 0)])).mpr ⟨t, ht, hh⟩
            rw [ha] at this
            cases this
          rw [en]
          refine iteF ⟨s67, ?_⟩
          rw [em, ha, if_neg (by decide), List.append_nil]
          exact hd7
        | true =>
          have en : ¬ ((one.filter fun t => !allSo N t [G.getD k1 (0, 0, 0)]).map fun _ => (1 : Int)) = [] := by
            rw [List.map_eq_nil_iff, List.filter_eq_nil_iff]
            intro z
            obtain ⟨t, ht, hh⟩ := List.any_eq_true.mp ha
            exact z t ht hh
          rw [decide_eq_false en]
          refine iteT ⟨_, rfl, _, hd7, ?_, fun bb o z => ?_, ?_⟩
          · unfold numsV
            rw [List.length_map]
            have := List.length_filter_le (fun k => one.any fun t => !allSo N t [G.getD k (0, 0, 0)]) (List.range k1)
            rw [List.length_range] at this
            exact small1000 (by omega)
          · rw [upd_ne (ne_of_none z hD3)]
            exact s67 _ _ z
          · rw [upd_same, em, ha, if_pos rfl]
            unfold numsV
            rw [List.map_append]
            rfl
    rintro HC ⟨sC, hD3v⟩
    rw [lenG] at hD3v
    have hD3m : HC D3 = some (.lst (numsV (moreL N one G))) := hD3v
    show tLc (iList K (tVar 4)) (gName 13) (tB (tCall spSo [] E0 (tCons (tVar 13) (tCons (tVar 12) tNil)))) (tVar 13) [13] [some (.ref g), some (.int (N : Int)), some (.ref M), some (.int (0 + (k : Int))), some (.ref D1), some (.ref D2), some (.ref D3), y7, y8, y9, y10, some (.ref p1), some (.ref b), none, none] HC _
    refine rd_fit (i := 4) (j := 12) (v := 13) (M := D1) (a := b) (N := N) ?_ ?_ (by decide) ?_ (hD1B.same sC) (hGB.same sC) lenO hN0 fewO fun HD D4 sD nD4 hD4 => ?_
    · rfl
    · rfl
    · show 13 < 15; decide
    -- what stands at HD
    have sBD := sC.trans sD
    have sAD := sAB.trans sBD
    have hD1D := hD1B.same sBD
    have hD2D := hD2.same sBD
    have hD3D := sD _ _ hD3m
    have t2 : Two N F G := ⟨hN0, hdv, fF, fG, by omega, by omega⟩
    have d1 : (!decide (one = []) && decide (moreL N one G = [])) = asMuch N F G := by rw [hone]; exact due_much hA hN0 hdv fF
    have d2 : decide (one = ts.filter fun t => allSo N t G) = alikeL N F G := by rw [hone]; exact due_alike hA hN0 hdv fF fG
    have d3 : (!decide ((one.filter fun t => allSo N t G) = [])) = joinedL N F G := by rw [hone]; exact due_joined hA hN0 hdv fF fG
    have d4 : one = [] ↔ ¬ NoQ F := by rw [hone]; exact fits_nil hA hN0 hdv fF
    have d5 : NoQ F → moreL N one G = unsureL N F G := fun _ => by rw [hone]; exact more_eq hA hN0 hdv fF
    refine rd_and2 (a := !decide (one = [])) (c := decide (moreL N one G = [])) (fun Q hQ => rd_maps_ne (M := D1) rfl hD1D hQ) (fun H1 Q s1 hQ => rd_nums_eq0 (M := D3) rfl (s1 _ _ hD3D) hQ) fun HE sE => ?_
    refine rd_maps_eq (M := D1) (M2 := D2) rfl rfl (hD1D.same sE) (hD2D.same sE) ?_
    refine rd_maps_ne (M := D4) rfl (hD4.same sE) fun HF sF => ?_
    refine ⟨by show 3 ≤ sizeLine; decide, fun D8 hD8 => ?_⟩
    dsimp only
    rw [d1, d2, d3]
    have s8 := same_upd (o := .lst [.bl (asMuch N F G), .bl (alikeL N F G), .bl (joinedL N F G)]) hD8
    have v8 := upd_same (H := HF) (a := D8) (o := .lst [.bl (asMuch N F G), .bl (alikeL N F G), .bl (joinedL N F G)])
    have sA8 := ((sAD.trans sE).trans sF).trans s8
    have sD8 := (sE.trans sF).trans s8
    generalize upd HF D8 (.lst [.bl (asMuch N F G), .bl (alikeL N F G), .bl (joinedL N F G)]) = HG at s8 v8 sA8 sD8 ⊢
    -- what the program says
    refine ⟨_, rfl, _, rfl, p1, b, N, F, G, rfl, hF9.same sA8, hG9.same sA8, t2, fun I1 u1 => ?_⟩
    refine ⟨_, rfl, _, rfl, p1, b, N, F, G, rfl, (hF9.same sA8).same u1, (hG9.same sA8).same u1, t2, fun I2 u2 => ?_⟩
    refine ⟨_, rfl, _, rfl, p1, b, N, F, G, rfl, ((hF9.same sA8).same u1).same u2, ((hG9.same sA8).same u1).same u2, t2, fun I3 u3 => ?_⟩
    refine ⟨by show 3 ≤ sizeLine; decide, fun D9 hD9 => ?_⟩
    have s9 := same_upd (o := .lst [.bl (asMuch N F G), .bl (alikeL N F G), .bl (joinedL N F G)]) hD9
    have v9 := upd_same (H := I3) (a := D9) (o := .lst [.bl (asMuch N F G), .bl (alikeL N F G), .bl (joinedL N F G)])
    have u9 := ((u1.trans u2).trans u3).trans s9
    generalize upd I3 D9 (.lst [.bl (asMuch N F G), .bl (alikeL N F G), .bl (joinedL N F G)]) = HH at s9 v9 u9 ⊢
    refine ⟨_, rfl, _, rfl, p1, b, N, F, G, rfl, (hF9.same sA8).same u9, (hG9.same sA8).same u9, t2, fun J1 w1 => ?_⟩
    refine ⟨_, rfl, _, rfl, p1, b, N, F, G, rfl, ((hF9.same sA8).same u9).same w1, ((hG9.same sA8).same u9).same w1, t2, fun J2 w2 => ?_⟩
    refine ⟨_, rfl, _, rfl, p1, b, N, F, G, rfl, (((hF9.same sA8).same u9).same w1).same w2, (((hG9.same sA8).same u9).same w1).same w2, t2, fun J3 w3 => ?_⟩
    refine ⟨by show 3 ≤ sizeLine; decide, fun D10 hD10 => ?_⟩
    have s10 := same_upd (o := .lst [.bl (asMuch N F G), .bl (alikeL N F G), .bl (joinedL N F G)]) hD10
    have v10 := upd_same (H := J3) (a := D10) (o := .lst [.bl (asMuch N F G), .bl (alikeL N F G), .bl (joinedL N F G)])
    have w10 := ((w1.trans w2).trans w3).trans s10
    generalize upd J3 D10 (.lst [.bl (asMuch N F G), .bl (alikeL N F G), .bl (joinedL N F G)]) = HI at s10 v10 w10 ⊢
    have v9' := w10 _ _ v9
    have v8' := w10 _ _ (u9 _ _ v8)
    -- told as texts
    obtain ⟨k1, k2, k3, k4, k5⟩ := repD_ok (asMuch N F G) (alikeL N F G) (joinedL N F G)
    have db := dp_bools K
    refine ⟨_, rfl, _, rfl, by show 2 ≤ sizeLine; decide, fun c1 hc1 => .inr (.inr ⟨⟨_, repD (asMuch N F G) (alikeL N F G) (joinedL N F G), rfl, ?_, k1, k2, k3, k4, ?_⟩, _, rfl⟩)⟩
    · have sc := same_upd (o := .lst [.ref D9, .ref D10]) hc1
      exact .lst (.inl (.inl upd_same)) (.cons (.lst (.inl (.inl (sc _ _ v9'))) (dp_bools K _ [_, _, _])) (.cons (.lst (.inl (.inl (sc _ _ v10))) (dp_bools K _ [_, _, _])) .nil))
    have sc1 := same_upd (o := .lst [.ref D9, .ref D10]) hc1
    refine ⟨_, rfl, _, rfl, by show 2 ≤ sizeLine; decide, fun c2 hc2 => .inr (.inr ⟨⟨_, repD (asMuch N F G) (alikeL N F G) (joinedL N F G), rfl, ?_, k1, k2, k3, k4, ?_⟩, _, rfl⟩)⟩
    · have sc := sc1.trans (same_upd (o := .lst [.ref D8, .ref D8]) hc2)
      exact .lst (.inl (.inl upd_same)) (.cons (.lst (.inl (.inl (sc _ _ v8'))) (dp_bools K _ [_, _, _])) (.cons (.lst (.inl (.inl (sc _ _ v8'))) (dp_bools K _ [_, _, _])) .nil))
    have sc2 := sc1.trans (same_upd (o := .lst [.ref D8, .ref D8]) hc2)
    refine ⟨_, _, .str _, .str _, k5, k5, _, rfl, ?_⟩
    rw [eqv_str]
    refine iteF ?_
    -- what first_more is due to tell
    have sXI := ((sD8.trans u9).trans w10).trans sc2
    refine rd_first (M := D3) rfl (sXI _ _ hD3D) (moreL_lt lG) fun HJ sJ => ?_
    refine ⟨by show 2 ≤ sizeLine; decide, fun D11 hD11 => ?_⟩
    have s11 := same_upd (o := .lst [.str "back", .str (mText (moreL N one G))]) hD11
    have v11 := upd_same (H := HJ) (a := D11) (o := .lst [.str "back", .str (mText (moreL N one G))])
    have sXJ := (sXI.trans sJ).trans s11
    have sYJ := sAD.trans sXJ
    generalize upd HJ D11 (.lst [.str "back", .str (mText (moreL N one G))]) = HK at s11 v11 sXJ sYJ ⊢
    refine rd_due (M := D1) (p1 := p1) (D8 := D11) (one := one) (F := F) (G := G) (N := N) (l := moreL N one G) rfl rfl rfl (hD1D.same sXJ) (hF9.same sYJ) lF d4 d5 v11 (moreL_lt lG) fun D12 a1 a2 HL sL v12 hout ok1 ok2 => ?_
    have sZL := sYJ.trans sL
    have hT10 := Tabs.same hT9 sZL
    dsimp only [tSeq, tAsg, tDrop, gName, List.set, tLst, tCons, tNil]
    refine rd_heard1 (p1 := p1) (b := b) (F := F) (G := G) (N := N) (a1 := a1) (a2 := a2) rfl rfl hT10 (hF9.same sZL) (hG9.same sZL) t2 lF lG hout fun L1 L2 pA e1 T1 s12 vA => ?_
    refine ⟨by show 1 ≤ sizeLine; decide, fun D13 hD13 => ?_⟩
    have s13 := same_upd (o := .lst [.ref pA]) hD13
    have v13 := upd_same (H := L2) (a := D13) (o := .lst [.ref pA])
    have sM := s12.trans s13
    have vA' := s13 _ _ vA
    have hT11 := Tabs.same T1 sM
    have hF10 := ((hF9.same sZL).extN e1).same sM
    have hG10 := ((hG9.same sZL).extN e1).same sM
    have hk10 := ((hkC.same sZL).extN e1).same sM
    have sX10 : SameX g H9 (upd L2 D13 (.lst [.ref pA])) := ((sameX_same sZL).trans (sameX_ext e1)).trans (sameX_same sM)
    have v12' := sM _ _ (e1 _ _ v12 (fun _ z => by cases z))
    have sXL2 : SameX g H9 L2 := ((sameX_same sZL).trans (sameX_ext e1)).trans (sameX_same s12)
    have ne13 : ∀ b o, b ≠ g → (∀ ps, o ≠ .tbl ps) → H9 b = some o → b ≠ D13 := fun b o n m h => ne_of_none (sXL2 b o n m h) hD13
    have D13g : D13 ≠ g := fresh_keg (((hkC.same sZL).extN e1).same s12) hD13
    generalize upd L2 D13 (.lst [.ref pA]) = HM at s13 v13 sM vA' hT11 hF10 hG10 hk10 sX10 v12' ⊢
    refine ⟨_, rfl, .inl ⟨rfl, _, .inl (.inl v13)⟩, ?_⟩
    refine rd_heard2 (p1 := p1) (b := b) (F := F) (G := G) (N := N) (a1 := a1) (a2 := a2) rfl rfl hT11 hF10 hG10 t2 lF lG hout fun M1 M2 pB e2 T2 s14 vB => ?_
    have v13' := s14 _ _ (e2 _ _ v13 (fun _ z => by cases z))
    have vA2 := s14 _ _ (e2 _ _ vA' (fun _ z => by cases z))
    have v12'' := s14 _ _ (e2 _ _ v12' (fun _ z => by cases z))
    refine ⟨D13, _, _, rfl, rfl, v13', by show 1 < sizeLine; decide, ?_⟩
    have pAne : pA ≠ D13 := fun z => by rw [z, v13'] at vA2; cases vA2
    have pBne : pB ≠ D13 := fun z => by rw [z, v13'] at vB; cases vB
    have D12ne : D12 ≠ D13 := fun z => by rw [z, v13'] at v12''; cases v12''
    have fA : upd M2 D13 (.lst ([.ref pA] ++ [.ref pB])) pA = some (.lst [.str a1, .str a2]) := by rw [upd_ne pAne]; exact vA2
    have fB : upd M2 D13 (.lst ([.ref pA] ++ [.ref pB])) pB = some (.lst [.str a1, .str a2]) := by rw [upd_ne pBne]; exact vB
    have fD : upd M2 D13 (.lst ([.ref pA] ++ [.ref pB])) D12 = some (.lst [.str a1, .str a2]) := by rw [upd_ne D12ne]; exact v12''
    have f13 : upd M2 D13 (.lst ([.ref pA] ++ [.ref pB])) D13 = some (.lst [.ref pA, .ref pB]) := upd_same
    have sXN : SameX g H9 (upd M2 D13 (.lst ([.ref pA] ++ [.ref pB]))) := fun b o n m h => by
      rw [upd_ne (ne13 b o n m h)]
      exact s14 _ _ (e2 _ _ (sX10 b o n m h) m)
    have hkN : KegAt (upd M2 D13 (.lst ([.ref pA] ++ [.ref pB]))) g := by
      obtain ⟨x, y, z, k1, k2⟩ := (hk10.extN e2).same s14
      exact ⟨x, y, z, by rw [upd_ne (Ne.symm D13g)]; exact k1, k2⟩
    have hTN : LamX.Tabs (TR K) (upd M2 D13 (.lst ([.ref pA] ++ [.ref pB]))) := Tabs.updL (Tabs.same T2 s14) v13'
    generalize upd M2 D13 (.lst ([.ref pA] ++ [.ref pB])) = HN at fA fB fD f13 sXN hkN hTN ⊢
    refine ⟨_, rfl, _, rfl, _, rfl, by show 2 ≤ sizeLine; decide, fun c3 hc3 => ?_⟩
    have sc3 := same_upd (o := .lst [.ref D12, .ref D12]) hc3
    have dS : ∀ (p : Addr), HN p = some (.lst [.str a1, .str a2]) → Dp K (upd HN c3 (.lst [.ref D12, .ref D12])) (.ref p) (.list [.str a1, .str a2]) := fun p hp => .lst (.inl (.inl (sc3 _ _ hp))) (.cons (.str _) (.cons (.str _) .nil))
    refine ⟨twoD a1 a2, twoD a1 a2, .lst (.inl (.inl (sc3 _ _ f13))) (.cons (dS _ fA) (.cons (dS _ fB) .nil)), .lst (.inl (.inl upd_same)) (.cons (dS _ fD) (.cons (dS _ fD) .nil)), twoD_ok ok1 ok2, twoD_ok ok1 ok2, _, rfl, ?_⟩
    rw [twoD_eqv]
    refine iteF ⟨_, _, _, _, _, _, _, _, _, _, rfl, (sX9.trans sXN).trans (sameX_same sc3), hkN.same sc3, Tabs.same hTN sc3, (hM9.sameX sXN hkC Mg).same sc3⟩
  · rintro σ H3 ⟨y3, y4, y5, y6, y7, y8, y9, y10, y11, y12, rfl, sx3, hk3, hT3, hM3⟩
    exact q H3 sx3 hT3
end
end K15
namespace K15
open L2 PySem PySem.Spec PyProof.Rows
section
variable {w : World} {P : Program} {K : PySem.W.Frag} {base : Heap} {mg : Str → Option Value}
def spRight (K : PySem.W.Frag) : Sp := fun vs H Q _ => ∃ g : Addr, vs = [.ref g] ∧ KegAt H g ∧ LamX.Tabs (TR K) H ∧ ∀ H', SameX g H H' → LamX.Tabs (TR K) H' → Q (.bl true) H'
theorem has_law_right (T : Txt K mg) (TB : LamX.TabB base mg (cR K) (pR K)) : HasG P w K mg base 10 "_law_right" ["_law_keg_here"] (spRight K) := by
  obtain ⟨fd, F⟩ := T.df (mkD "_law_right" s_law_right) (List.mem_of_getElem? (i := 36) rfl)
  have B : Binds K fd ["_law_keg_here"] [] := FunD.bindsN F (fun _ _ _ _ _ _ us hl => match us, hl with | [_], _ => rfl)
  have len : ∀ vs H Q E, spRight K vs H Q E → vs.length = (["_law_keg_here"] : List Str).length := fun vs H Q E h => by
    obtain ⟨g, rfl, _⟩ := h
    rfl
  refine ⟨_, fd, T.gl "_law_right" (by decide +kernel), F.kp, ⟨len, fun A outer s H args us vs Q hg hr e0 b r h => ?_⟩, B⟩
  obtain ⟨oc, od, dV, kV, doc, pm, an, cdv, ct, osl, rfl, lk, hcd, _, _⟩ := (F.ex)
  obtain ⟨c, ec⟩ := He.codeIn_ref hcd
  have ecR : cR K = c := He.codeOf_eq (p := ("_law_right", none)) lk ec
  refine LamX.run_ofS lk hcd sc_law_right hr e0 b r (len _ _ _ _ h) fun hr' => ?_
  obtain ⟨g, rfl, hk, hT, q⟩ := h
  exact law_right_body T TB (by rw [ec, ecR]) hg hr' hk hT q
theorem SqL.sameX {H H' : Hp} {g a : Addr} {xs : List V} (h : SqL K H a xs) (s : SameX g H H') (ne : a ≠ g) : SqL K H' a xs := by
  rcases (h) with (h | ⟨o, h⟩) | h
  · exact .inl (.inl (s _ _ ne (fun _ z => by cases z) h))
  · exact .inl (.inr ⟨o, s _ _ ne (fun _ z => by cases z) h⟩)
  · exact .inr h
theorem SqL.sameX0 {H H' : Hp} {g a : Addr} {xs : List V} (h : SqL K H a xs) (hg : H g = none) (s : SameX g H H') : SqL K H' a xs := by
  rcases (h) with (h | ⟨o, h⟩) | h
  · exact .inl (.inl (s _ _ (ne_of_none h hg) (fun _ z => by cases z) h))
  · exact .inl (.inr ⟨o, s _ _ (ne_of_none h hg) (fun _ z => by cases z) h⟩)
  · exact .inr h
theorem sc_law : FnScope ["_law_script", "_law_at"] ["_law_script"] (defScope s_law) := ⟨rfl, rfl, rfl, by decide +kernel, rfl, by decide +kernel, by decide +kernel⟩
def spLaw (K : PySem.W.Frag) : Sp := fun vs H Q _ => ∃ (a : Addr) (ns : List Int), vs = [.ref a] ∧ SqL K H a (ns.map V.int) ∧ ns.length ≤ 1000 ∧ LamX.Tabs (TR K) H ∧ ∀ H', Q (.bl true) H'
theorem has_law (T : Txt K mg) (TB : LamX.TabB base mg (cR K) (pR K)) : HasG P w K mg base 11 "law" ["_law_script"] (spLaw K) := by
  have Gr := has_law_right (P := P) (w := w) (base := base) T TB
  have Gk := has_law_keg (P := P) (w := w) (base := base) T
  have mR : mg "range" = none := T.fr _ (by decide +kernel)
  have mL : mg "len" = none := T.fr _ (by decide +kernel)
  have mX : mg "max" = none := T.fr _ (by decide +kernel)
  have mN : mg "min" = none := T.fr _ (by decide +kernel)
  refine T.hasG (st := s_law) 37 rfl (by decide +kernel) sc_law (fun vs H Q E h => ?_) (fun _ _ _ _ _ _ us hl => match us, hl with | [_], _ => rfl) (fun f cdv A outer s H vs Q hg hr h => ?_)
  · obtain ⟨a, ns, rfl, _⟩ := h
    rfl
  · obtain ⟨a, ns, rfl, ha, hl, hT, q⟩ := h
    have r1 := hr.mono (show 1 ≤ 10 by decide)
    have hgd : (A.deeper (envOfC "law" (defScope s_law) s.heap.objs.size f cdv)).guards = some [] := hg
    refine ⟨_, PSs.nox (pss_cons (ps_for PassesOwn.never rfl (pi_range1 rfl mR (pa_cons (pe_b2 (call_max2 rfl) mX pe_int (pe_b2 (call_min2 rfl) mN (pe_b1 call_len_seq mL (pv 0)) pe_int)) pa_nil)) (pg_name (i := 1) sc_law.nd rfl (.inl rfl))
        (pss_one (ps_if (pt_not (pt_val (pe_fnG Gr hgd hr (pa_cons (pe_fn Gk r1 (pa_cons (pv 0) (pa_cons (pv 1) pa_nil))) pa_nil)))) pss_never pss_nil)))
      (pss_one (ps_ret pe_bl))), ?_⟩
    refine ⟨_, rfl, a, _, rfl, .inl ha, _, _, rfl, _, _, rfl, ?_⟩
    obtain ⟨m, hm, hm2⟩ : ∃ m : Int, m = (if (if 5 < ((((ns.map V.int).length : Nat) : Int)) then 5 else (((ns.map V.int).length : Nat) : Int)) > 2 then (if 5 < ((((ns.map V.int).length : Nat) : Int)) then 5 else (((ns.map V.int).length : Nat) : Int)) else 2) ∧ m ≤ 5 ∧ 0 ≤ m := by
      refine ⟨_, rfl, ?_⟩
      split <;> split <;> omega
    refine ⟨m, by rw [hm], by omega, by omega, ?_⟩
    refine for_it (walk_range (lo := 0) (n := m.toNat)) (fun i σ H' => ∃ y1, σ = [some (.ref a), y1] ∧ SqL K H' a (ns.map V.int) ∧ LamX.Tabs (TR K) H') ⟨none, rfl, ha, hT⟩ (fun _ _ _ _ _ => trivial) ?_ ?_
    · rintro i v σ H0 H1 hi ⟨y1, rfl, hS, hT1⟩ ⟨rfl, rfl⟩
      have e0 : ((0 : Int) + (i : Int) = (i : Int)) := Int.zero_add _
      dsimp only
      rw [e0]
      refine ⟨_, rfl, _, rfl, a, ns, i, rfl, hS, hl, by omega, fun H2 g s2 ng hk => ?_⟩
      refine ⟨g, rfl, hk, Tabs.same hT1 s2, fun H3 sx T3 => ⟨_, rfl, iteF ⟨_, rfl, ?_, T3⟩⟩⟩
      exact SqL.sameX0 hS ng ((sameX_same s2).trans sx)
    · rintro σ H1 ⟨y1, rfl, hS, hT1⟩
      exact q H1
end
end K15
namespace K15
open L2 PySem PySem.Spec PyProof.Rows
/-! ### the end: the law's def called from the outermost place -/
section
variable {Pg : Program} {w : World} {K : PySem.W.Frag} {mg mb : Str → Option Value} {fa a tab code : Addr} {s : Shared} {vs : List Value} {ns : List Int}
/-- what is tracked there: the table of code objects, the script (frozen), if it is not the module's own -/
def endHp (K : PySem.W.Frag) (tab a : Addr) (vs : List Value) (ns : List Int) : Hp := fun b =>
  if b = tab then some (.tbl #[]) else if b = a ∧ (K.lookup a).isNone = true then some (.frz { cls := .type "list", data := .seq vs.toArray } (.lst (ns.map V.int))) else none
theorem endHp_cases {b : Addr} {u : HO} (h : endHp K tab a vs ns b = some u) :
    (b = tab ∧ u = .tbl #[]) ∨ (b = a ∧ K.lookup a = none ∧ u = .frz { cls := .type "list", data := .seq vs.toArray } (.lst (ns.map V.int))) := by
  unfold endHp at h
  by_cases h1 : b = tab
  · rw [if_pos h1] at h
    exact .inl ⟨h1, (Option.some.inj h).symm⟩
  · rw [if_neg h1] at h
    by_cases h2 : b = a ∧ (K.lookup a).isNone = true
    · rw [if_pos h2] at h
      exact .inr ⟨h2.1, Option.isNone_iff_eq_none.mp h2.2, (Option.some.inj h).symm⟩
    · rw [if_neg h2] at h
      cases h
theorem endHp_tab : endHp K tab a vs ns tab = some (.tbl #[]) := if_pos rfl
/-- an object that is no list and no empty record is not tracked -/
theorem endHp_free {b : Addr} {o : Obj} (hT : s.heap.get? tab = some { cls := .none, data := .fields #[] }) (ha : s.heap.get? a = some { cls := .type "list", data := .seq vs.toArray })
    (e : s.heap.get? b = some o) (n1 : ∀ xs n, o.data ≠ .seq xs n) (n2 : o.data ≠ .fields #[]) : endHp K tab a vs ns b = none := by
  cases q : endHp K tab a vs ns b with
  | none => rfl
  | some u =>
    rcases endHp_cases q with ⟨rfl, _⟩ | ⟨rfl, _⟩
    · rw [hT] at e
      exact absurd (congrArg Obj.data (Option.some.inj e)).symm n2
    · rw [ha] at e
      exact absurd (congrArg Obj.data (Option.some.inj e)).symm (n1 _ _)
theorem end_call {k : Nat} {nm x : Str} {sp : Sp} (hfa : mg nm = some (.ref fa)) (kin : K.In s.heap) (ns0 : s.heap.Ns mainGlobals mg) (nb : s.heap.Ns builtinsNs mb) (bb : ∀ y : Str, y ≠ "__name__" → mb y = bootBuiltins y) (lim : s.heap.NoLimit) (gen : s.gens = #[])
    (hT : s.heap.get? tab = some { cls := .none, data := .fields #[] }) (outT : K.lookup tab = none) (hdT : PySem.W.codeHdIn K code tab = true)
    (bmn : ∃ (bm : Addr) (ob : Obj), mg "__builtins__" = some (.ref bm) ∧ bm ≠ builtinsNs ∧ s.heap.get? bm = some ob ∧ ob.cls = .type "module" ∧ ob.dict = some builtinsNs ∧ ob.data = .plain)
    (ha : s.heap.get? a = some { cls := .type "list", data := .seq vs.toArray }) (hi : IntsAre vs ns) (hl : ns.length ≤ sizeLine) (room : Room k callerA)
    (F : ∀ base : Heap, K.In base → base.Ns mainGlobals mg → LamX.TabB base mg code tab → HasG Pg w K mg base k nm [x] sp)
    (hsp : ∀ H : Hp, H tab = some (.tbl #[]) → SqL K H a (ns.map V.int) → sp [.ref a] H (fun v _ => v = .bl true) E0) :
    codeAny (model Pg w) callerA (.call (.ref fa) ⟨[.ref a], []⟩) (fun r t => r = .ok (.ret (.bool true)) ∧ OldK s.heap t.heap ∧ t.os = s.os ∧ AllBare t.gens) s := by
  have rv := vals_ints hi
  have free : ∀ {b : Addr} {o : Obj}, s.heap.get? b = some o → (∀ xs n, o.data ≠ .seq xs n) → o.data ≠ .fields #[] → endHp K tab a vs ns b = none := fun e n1 n2 => endHp_free hT ha e n1 n2
  have keepNs : ∀ {b : Addr} {m : Str → Option Value}, s.heap.Ns b m → (hidT s.heap (endHp K tab a vs ns)).Ns b m := by
    rintro b m ⟨o, es, ep, e, d, r⟩
    exact ⟨o, es, ep, hidT_get e (free e (fun xs n z => by rw [d] at z; cases z) fun z => by rw [d] at z; cases z), d, r⟩
  have kinB : K.In (hidT s.heap (endHp K tab a vs ns)) := fun b o e => hidT_get (kin b o e) (by
    cases q : endHp K tab a vs ns b with
    | none => rfl
    | some u =>
      rcases endHp_cases q with ⟨rfl, _⟩ | ⟨rfl, n, _⟩
      · rw [outT] at e
        cases e
      · rw [n] at e
        cases e)
  have mod : L2.Mod K mg (hidT s.heap (endHp K tab a vs ns)) := by
    obtain ⟨mc, l1, l2⟩ := lim
    exact ⟨kinB, keepNs ns0, ⟨mb, keepNs nb, bb⟩, mc, keepNs l1, l2⟩
  have tb : LamX.TabB (hidT s.heap (endHp K tab a vs ns)) mg code tab := by
    obtain ⟨bm, ob, b1, b2, b3, b4, b5, b6⟩ := bmn
    have isTab : ∀ {y : Addr} {o : Obj}, s.heap.get? y = some o → y = tab → o = { cls := .none, data := .fields #[] } := fun e z => by
      rw [z, hT] at e
      exact (Option.some.inj e).symm
    refine ⟨PySem.W.codeHd_of_K kinB hdT, ⟨bm, ob, b1, b2, fun z => ?_, fun z => ?_, hidT_get b3 (free b3 (fun xs n z => by rw [b6] at z; cases z) fun z => by rw [b6] at z; cases z), b4, b5, b6⟩, fun z => ?_⟩
    · obtain ⟨o, es, ep, e, d, _⟩ := ns0
      rw [z, e] at b3
      cases b3
      rw [d] at b6
      cases b6
    · rw [isTab b3 z] at b6
      cases b6
    · obtain ⟨o, es, ep, e, d, _⟩ := ns0
      rw [isTab e z] at d
      cases d
  have hok : HOk Pg w (endHp K tab a vs ns) s.heap := fun b u z => by
    rcases endHp_cases z with ⟨rfl, rfl⟩ | ⟨rfl, _, rfl⟩
    · exact hT
    · exact ⟨ha, by rw [List.length_map]; exact hl, vs, _, rv, ha⟩
  have seq : SqL K (endHp K tab a vs ns) a (ns.map V.int) := by
    cases q : K.lookup a with
    | none =>
      have ne : a ≠ tab := fun z => by
        rw [z, hT] at ha
        cases ha
      exact .inl (.inr ⟨_, (if_neg ne).trans (if_pos ⟨rfl, by rw [q]; rfl⟩)⟩)
    | some o =>
      have e := kin a o q
      rw [ha] at e
      cases e
      exact .inr ⟨_, vs.toArray, _, q, rfl, rfl, rfl, by rw [List.size_toArray, hi.length]; exact hl, by simpa using rv⟩
  have env : Env0 Pg w K mg (hidT s.heap (endHp K tab a vs ns)) callerA [] s (endHp K tab a vs ns) :=
    { frames := rfl, mod := mod, bs := fun b o e => of_hidT e, bsz := Nat.le_of_eq (hidT_size _ _), funs := trivial, frf := fun b hb => absurd (show b ∈ ([] : List Addr) from hb) (by simp), hok := hok, bare := .of_eq gen }
  obtain ⟨f0, fd, hf0, _, hF, hB⟩ := F _ kinB (keepNs ns0) tb
  cases Value.ref.inj (Option.some.inj (hfa.symm.trans hf0))
  have run := hF.run callerA [] s _ ⟨[.ref a], []⟩ [.ref a] [.ref a] _ rfl room env (hB s [.ref a] kin rfl) (.cons rfl .nil) (hsp _ endHp_tab seq)
  refine codeAny_mono run fun r t h => ?_
  cases r with
  | error e => exact (show False from h).elim
  | ok fl =>
    cases fl with
    | ret u =>
      obtain ⟨v, H', os, bare, un, hok2, rel, hv⟩ := h
      have hv2 : v = .bl true := hv
      rw [hv2] at rel
      obtain rfl : u = Value.bool true := rel
      -- all but the table stands
      have stays : ∀ b o, b ≠ tab → s.heap.get? b = some o → t.heap.get? b = some o := fun b o n e => by
        cases q : endHp K tab a vs ns b with
        | none => exact un.keep b o e q (fun z => absurd (show b ∈ ([] : List Addr) from z) (by simp)) (by simp)
        | some u2 =>
          rcases endHp_cases q with ⟨z, _⟩ | ⟨rfl, _, rfl⟩
          · exact absurd z n
          · obtain ⟨g1, _⟩ := hok2 b _ (un.frzs b _ _ q)
            rw [ha] at e
            rw [← Option.some.inj e]
            exact g1
      obtain ⟨more, grown⟩ := un.tbls tab #[] endHp_tab
      have now : t.heap.get? tab = some { cls := .none, data := .fields (#[] ++ more) } := hok2 tab _ grown
      refine ⟨rfl, { old := fun b o e => ?_, there := fun b o e => ?_ }, os, bare⟩
      · by_cases n : b = tab
        · subst n
          rw [hT] at e
          cases e
          exact .inr (.inl ⟨((PySem.W.codeHd_of_K kin hdT).tab hT).isCodeTable, rfl, #[], more, rfl, now⟩)
        · exact .inl (stays b o n e)
      · by_cases n : b = tab
        · subst n
          exact ⟨_, now⟩
        · exact ⟨o, stays b o n e⟩
    | _ => exact False.elim h
end
/-! ### what the head tells -/
theorem dfs_none (K : PySem.W.Frag) : ∀ d ∈ dfs, d.dvs K = [] ∧ d.kws K = [] := by
  intro d hd
  unfold dfs at hd
  simp only [List.mem_cons, List.not_mem_nil, or_false] at hd
  repeat (rcases hd with rfl | hd; · exact ⟨rfl, rfl⟩)
theorem txt_of {w : World} {h : Heap} {K : PySem.W.Frag} {mg : Str → Option Value} (X : K.In h) (G : h.Ns mainGlobals mg) (c : He.SaysX fcs dfs [] tfs exB w h K) : Txt K mg where
  gl := fun x hx => He.glo_ok X G (c.t.d.facts (by
    unfold fcs
    rcases (List.mem_append.mp hx) with q | q
    · exact List.mem_append_left _ (List.mem_map.mpr ⟨x, q, rfl⟩)
    · exact List.mem_append_right _ (List.mem_append_left _ (List.mem_map.mpr ⟨x, q, rfl⟩))))
  fr := fun x hx => He.free_ok X G (c.t.d.facts (by
    unfold fcs
    exact List.mem_append_right _ (List.mem_append_right _ (List.mem_append_left _ (List.mem_map.mpr ⟨x, hx, rfl⟩)))))
  mf := He.int_ok X G (c.t.d.facts (by
    unfold fcs
    exact List.mem_append_right _ (List.mem_append_right _ (List.mem_append_right _ List.mem_cons_self))))
  df := fun d hd => by
    obtain ⟨fd, F⟩ := c.t.d.defs hd
    obtain ⟨e1, e2⟩ := dfs_none K d hd
    rw [e1, e2] at F
    exact ⟨fd, F⟩
  nm := c.more
end K15
open PySem PySem.Calls PySem.W PyProof.Rows
theorem PySem.Challenge.cw_keptrests_k15_whole_facts_compared_by_al_holds : PySem.Challenge.rw_keptrests_k15_whole_facts_compared_by_al.Holds := by
  w_on; o_law
  refine HandSHeadRun.head_any (r := OpenLaw.row PySem.Challenge.rw_keptrests_k15_whole_facts_compared_by_al) (q := view (OpenLaw.row PySem.Challenge.rw_keptrests_k15_whole_facts_compared_by_al).prog [65]) (H := K15.hk) (ob := K15.ob) (M := 40000) (loose := K15.loose)
    (d := HandSHeadRun.topDef (OpenLaw.row PySem.Challenge.rw_keptrests_k15_whole_facts_compared_by_al).prog 65) (kwd := []) K15.ob_eq
    (by kernel_rfl) (fun s => by kernel_rfl) K15.run (by kernel_rfl) (by kernel_rfl) (by kernel_rfl) (by rfl) (by first | assumption | decide +kernel) (by decide +kernel) ⟨rfl, rfl, rfl, rfl, rfl, by decide +kernel⟩ ?hw ?hc
  case hw => w_witness2
  case hc =>
    refine Att.attach_callB (l := PySem.Challenge.rw_keptrests_k15_whole_facts_compared_by_al) (n := 63) rfl (by kernel_rfl) fun w s0 s1 mg mb fa o pm cd doc a vs ns G Y ho hd hcd hmg hobj hints hlen hbits hg => ?_
    obtain ⟨K, KX, c⟩ := Y
    have hm : mg ("law" : PySem.Str) = some (.ref fa) := by
      have e : (HandSHeadRun.topDef (OpenLaw.row PySem.Challenge.rw_keptrests_k15_whole_facts_compared_by_al).prog 65).name = ("law" : PySem.Str) := by kernel_rfl
      rw [← e]
      exact hmg
    refine K15.end_call (k := 11) (nm := "law") (x := "_law_script") (sp := K15.spLaw K) (code := K15.cR K) (tab := K15.pR K) hm KX G.T.g G.T.b G.T.builtins G.T.nolimit hg (c.empty _ List.mem_cons_self) (c.out _ List.mem_cons_self) (c.hd _ List.mem_cons_self) G.T.bmain hobj hints
      (Nat.le_trans hlen (by decide)) ⟨rfl, by decide, by decide⟩ (fun base X2 G2 TB => K15.has_law (K15.txt_of KX G.T.g c) TB) fun H hH hS => ⟨a, ns, rfl, hS, Nat.le_trans hlen (by decide), fun p hp => ?_, fun _ => rfl⟩
    rw [List.mem_singleton.mp hp]
    exact LamX.TabS.nil hH
