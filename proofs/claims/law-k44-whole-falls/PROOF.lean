import PyProof.Rows.All
import Wide.All
import OpenK.AllK
import Wide.FinOn
import KE.KStateDown
import HandS.ForMost
import HandS.Defaults
import HandS.Head0
import HandS.Head1
import HandS.Head2
import HandS.HeadEnd
import HandS.HeadHook1
import HandS.HeadHook2
import PySem.Challenge.RW_ropedclimbers_k44_whole_falls_whoever_wr
import HandS.DictComp
import HandS.IsInst
import HandS.Conv
import HandS.NoneIn
import HandS.WordsList
import HandS.WordsDict
import KE.GoesSet
import KE.GoesEnum
import HandS.Set
import HandS.SetBool
import HandS.More
import HandS.Strs
import KE.GoesMore
import HandS.HeadWalk
/-! ## MthK -/
/-! The mathematics: chains, least sums, falls. No program in sight. -/
namespace RF
abbrev Rp := Int × Int × Int
/-- a chain of rope numbers from u to l -/
def ChOk (rs : List Rp) : Int → List Int → Int → Prop
  | u, [], l => u = l
  | u, k :: c, l => ∃ r : Rp, 0 ≤ k ∧ rs[k.toNat]? = some r ∧ r.1 = u ∧ ChOk rs r.2.1 c l
def chSum (rs : List Rp) : List Int → Int
  | [] => 0
  | k :: c => ((rs[k.toNat]?).getD (0, 0, 0)).2.2 + chSum rs c
def hAt (S : List Int) (k : Int) : Int := ((0 :: S)[k.toNat]?).getD 0
def Lets (rs : List Rp) (S : List Int) : Prop := ∀ r ∈ rs, hAt S r.1 - hAt S r.2.1 ≤ r.2.2
def Kn (n : Nat) (k : Int) : Prop := 0 ≤ k ∧ k ≤ (n : Int)
def WfR (n : Nat) (rs : List Rp) : Prop := ∀ r ∈ rs, Kn n r.1 ∧ Kn n r.2.1 ∧ r.1 ≠ r.2.1
theorem hAt_zero (S : List Int) : hAt S 0 = 0 := rfl
theorem ch_nil {rs : List Rp} {u : Int} : ChOk rs u [] u := rfl
theorem ch_cons {rs : List Rp} {k : Int} {c : List Int} {r : Rp} {l : Int} (h0 : 0 ≤ k) (hk : rs[k.toNat]? = some r) (h : ChOk rs r.2.1 c l) : ChOk rs r.1 (k :: c) l := ⟨r, h0, hk, rfl, h⟩
theorem sum_cons {rs : List Rp} {k : Int} {c : List Int} {r : Rp} (hk : rs[k.toNat]? = some r) : chSum rs (k :: c) = r.2.2 + chSum rs c := by
  show ((rs[k.toNat]?).getD (0, 0, 0)).2.2 + chSum rs c = _
  rw [hk]; rfl
theorem ch_pot {rs : List Rp} {S : List Int} (L : Lets rs S) : ∀ {c : List Int} {u l : Int}, ChOk rs u c l → hAt S u - hAt S l ≤ chSum rs c
  | [], u, l, h => by
    have h : u = l := h
    subst h
    show hAt S u - hAt S u ≤ 0
    omega
  | k :: c, u, l, h => by
    obtain ⟨r, h0, hk, rfl, h⟩ := h
    have h1 := L r (List.mem_of_getElem? hk)
    have h2 := ch_pot L h
    rw [sum_cons hk]
    omega
theorem ch_append {rs : List Rp} : ∀ {a b : List Int} {u m l : Int}, ChOk rs u a m → ChOk rs m b l → ChOk rs u (a ++ b) l
  | [], b, u, m, l, h, h2 => by
    have h : u = m := h
    subst h
    exact h2
  | k :: a, b, u, m, l, h, h2 => by
    obtain ⟨r, h0, hk, e, h⟩ := h
    exact ⟨r, h0, hk, e, ch_append h h2⟩
theorem sum_append (rs : List Rp) : ∀ (a b : List Int), chSum rs (a ++ b) = chSum rs a + chSum rs b
  | [], b => by show chSum rs b = 0 + chSum rs b; omega
  | k :: a, b => by
    show ((rs[k.toNat]?).getD (0, 0, 0)).2.2 + chSum rs (a ++ b) = ((rs[k.toNat]?).getD (0, 0, 0)).2.2 + chSum rs a + chSum rs b
    rw [sum_append rs a b]
    omega
/-- the knot behind i steps -/
def kAt (rs : List Rp) : Int → List Int → Nat → Int
  | u, _, 0 => u
  | u, [], _ + 1 => u
  | _, k :: c, i + 1 => kAt rs ((rs[k.toNat]?).getD (0, 0, 0)).2.1 c i
theorem ch_split {rs : List Rp} : ∀ {c : List Int} {u l : Int} (i : Nat), ChOk rs u c l → ChOk rs u (c.take i) (kAt rs u c i) ∧ ChOk rs (kAt rs u c i) (c.drop i) l
  | [], u, l, i, h => by
    cases i with
    | zero => exact ⟨rfl, h⟩
    | succ i => exact ⟨by simp only [List.take_nil]; exact rfl, by simp only [List.drop_nil]; exact h⟩
  | k :: c, u, l, i, h => by
    cases i with
    | zero => exact ⟨rfl, h⟩
    | succ i =>
      obtain ⟨r, h0, hk, e, h⟩ := h
      have q := ch_split i h
      have e2 : kAt rs u (k :: c) (i + 1) = kAt rs r.2.1 c i := by
        show kAt rs ((rs[k.toNat]?).getD (0, 0, 0)).2.1 c i = _
        rw [hk]; rfl
      rw [e2]
      exact ⟨⟨r, h0, hk, e, q.1⟩, q.2⟩
theorem kAt_kn {rs : List Rp} {n : Nat} (W : WfR n rs) : ∀ {c : List Int} {u l : Int} (i : Nat), Kn n u → ChOk rs u c l → Kn n (kAt rs u c i)
  | [], u, l, i, hu, h => by cases i <;> exact hu
  | k :: c, u, l, i, hu, h => by
    cases i with
    | zero => exact hu
    | succ i =>
      obtain ⟨r, h0, hk, e, h⟩ := h
      have e2 : kAt rs u (k :: c) (i + 1) = kAt rs r.2.1 c i := by
        show kAt rs ((rs[k.toNat]?).getD (0, 0, 0)).2.1 c i = _
        rw [hk]; rfl
      rw [e2]
      exact kAt_kn W i (W r (List.mem_of_getElem? hk)).2.1 h
theorem pig : ∀ (n : Nat) (f : Nat → Nat), (∀ i, i ≤ n + 1 → f i ≤ n) → ∃ i j, i < j ∧ j ≤ n + 1 ∧ f i = f j
  | 0, f, h => ⟨0, 1, by omega, by omega, by have := h 0 (by omega); have := h 1 (by omega); omega⟩
  | n + 1, f, h => by
    by_cases e : ∃ i, i < n + 2 ∧ f i = f (n + 2)
    · obtain ⟨i, h1, h2⟩ := e
      exact ⟨i, n + 2, h1, by omega, h2⟩
    · have ne : ∀ i, i < n + 2 → f i ≠ f (n + 2) := fun i hi q => e ⟨i, hi, q⟩
      obtain ⟨i, j, h1, h2, h3⟩ := pig n (fun i => if f i > f (n + 2) then f i - 1 else f i) (fun i hi => by
        have h4 := h i (by omega)
        have h5 := h (n + 2) (by omega)
        have h6 := ne i (by omega)
        show (if f i > f (n + 2) then f i - 1 else f i) ≤ n
        split <;> omega)
      refine ⟨i, j, h1, by omega, ?_⟩
      have a := ne i (by omega)
      have b := ne j (by omega)
      have h3 : (if f i > f (n + 2) then f i - 1 else f i) = (if f j > f (n + 2) then f j - 1 else f j) := h3
      split at h3 <;> split at h3 <;> omega
theorem short {rs : List Rp} {S : List Int} {n : Nat} (W : WfR n rs) (L : Lets rs S) : ∀ (m : Nat) {c : List Int} {u l : Int}, c.length ≤ m → Kn n u → ChOk rs u c l →
    ∃ c', ChOk rs u c' l ∧ c'.length ≤ n ∧ chSum rs c' ≤ chSum rs c
  | 0, c, u, l, hm, hu, h => ⟨c, h, by omega, by omega⟩
  | m + 1, c, u, l, hm, hu, h => by
    by_cases hn : c.length ≤ n
    · exact ⟨c, h, hn, by omega⟩
    · obtain ⟨i, j, hij, hj, e⟩ := pig n (fun i => (kAt rs u c i).toNat) (fun i _ => by
        have := kAt_kn W i hu h
        show (kAt rs u c i).toNat ≤ n
        have h1 := this.1; have h2 := this.2
        omega)
      have ki := kAt_kn W i hu h
      have kj := kAt_kn W j hu h
      have e : (kAt rs u c i).toNat = (kAt rs u c j).toNat := e
      have e : kAt rs u c i = kAt rs u c j := by
        have a := ki.1; have b := kj.1
        omega
      have si := ch_split i h
      have sj := ch_split j h
      -- the ring between
      have e3 : c.take j = c.take i ++ (c.drop i).take (j - i) := by
        rw [← List.take_append_drop i (c.take j), List.take_take, Nat.min_eq_left (by omega), List.drop_take]
      have ring : hAt S (kAt rs u c i) - hAt S (kAt rs u c j) ≤ chSum rs ((c.drop i).take (j - i)) := by
        have q := (ch_split (j - i) si.2).1
        have q2 := ch_pot L q
        have q3 : chSum rs c = chSum rs (c.take j) + chSum rs (c.drop j) := by rw [← sum_append, List.take_append_drop]
        -- the knot behind j - i more steps
        have key : ∀ (i d : Nat) (c : List Int) (u : Int), kAt rs (kAt rs u c i) (c.drop i) d = kAt rs u c (i + d) := by
          intro i
          induction i with
          | zero => intro d c u; rw [Nat.zero_add]; cases c <;> rfl
          | succ i ih =>
            intro d c u
            cases c with
            | nil => rw [show i + 1 + d = (i + d) + 1 by omega]; cases d <;> rfl
            | cons k c =>
              rw [show i + 1 + d = (i + d) + 1 by omega]
              exact ih d c _
        rw [key, show i + (j - i) = j by omega] at q2
        exact q2
      have hs : chSum rs (c.take i ++ c.drop j) ≤ chSum rs c := by
        have q3 : chSum rs c = chSum rs (c.take j) + chSum rs (c.drop j) := by rw [← sum_append, List.take_append_drop]
        rw [q3, sum_append, e3, sum_append]
        rw [e] at ring
        omega
      have hc : ChOk rs u (c.take i ++ c.drop j) l := ch_append si.1 (by rw [e]; exact sj.2)
      have hl : (c.take i ++ c.drop j).length ≤ m := by
        rw [List.length_append, List.length_take, List.length_drop]
        omega
      obtain ⟨c', h1, h2, h3⟩ := short W L m hl hu hc
      exact ⟨c', h1, h2, by omega⟩
/-- o is the least sum of the chains from u to l -/
def IsD (rs : List Rp) (u l : Int) : Option Int → Prop
  | none => ∀ c, ¬ ChOk rs u c l
  | some d => (∃ c, ChOk rs u c l ∧ chSum rs c = d) ∧ ∀ c, ChOk rs u c l → d ≤ chSum rs c
theorem IsD.uniq {rs : List Rp} {u l : Int} : ∀ {o o' : Option Int}, IsD rs u l o → IsD rs u l o' → o = o'
  | none, none, _, _ => rfl
  | none, some d, h, h' => by
    obtain ⟨⟨c, h1, _⟩, _⟩ := h'
    exact (h c h1).elim
  | some d, none, h, h' => by
    obtain ⟨⟨c, h1, _⟩, _⟩ := h
    exact (h' c h1).elim
  | some d, some d', h, h' => by
    obtain ⟨⟨c, h1, h2⟩, h3⟩ := h
    obtain ⟨⟨c', h1', h2'⟩, h3'⟩ := h'
    have a := h3 c' h1'
    have b := h3' c h1
    have : d = d' := by omega
    rw [this]
open Classical in
noncomputable def dst (rs : List Rp) (u l : Int) : Option Int := if h : ∃ o, IsD rs u l o then Classical.choose h else none
theorem dst_is {rs : List Rp} {u l : Int} {o : Option Int} (h : IsD rs u l o) : IsD rs u l (dst rs u l) := by
  unfold dst
  rw [dif_pos ⟨o, h⟩]
  exact Classical.choose_spec (⟨o, h⟩ : ∃ o, IsD rs u l o)
theorem dst_eq {rs : List Rp} {u l : Int} {o : Option Int} (h : IsD rs u l o) : dst rs u l = o := (dst_is h).uniq h
/-! ### relaxing -/
/-- what is known of the sums B: each is one of a chain to G -/
def Sound (rs : List Rp) (G : Int → Prop) (B : Int → Option Int) : Prop := ∀ u d, B u = some d → ∃ c g, G g ∧ ChOk rs u c g ∧ chSum rs c = d
/-- no chain to G of at most t ropes is less -/
def Upto (rs : List Rp) (G : Int → Prop) (t : Nat) (B : Int → Option Int) : Prop := ∀ u c g, G g → ChOk rs u c g → c.length ≤ t → ∃ d, B u = some d ∧ d ≤ chSum rs c
/-- in the pass t + 1, i ropes looked at -/
def Mid (rs : List Rp) (G : Int → Prop) (t i : Nat) (B : Int → Option Int) : Prop := Upto rs G t B ∧
  ∀ (k : Nat) (r : Rp) (c : List Int) (g : Int), k < i → rs[k]? = some r → G g → ChOk rs r.2.1 c g → c.length ≤ t → ∃ d, B r.1 = some d ∧ d ≤ r.2.2 + chSum rs c
def setB (B : Int → Option Int) (u d : Int) : Int → Option Int := fun x => if x = u then some d else B x
/-- does the rope make it less -/
def Less (B : Int → Option Int) (r : Rp) : Option Int → Prop
  | none => False
  | some dv => match B r.1 with
    | none => True
    | some du => dv + r.2.2 < du
theorem down_upto {rs : List Rp} {G : Int → Prop} {t : Nat} {B B' : Int → Option Int} (h : Upto rs G t B) (dn : ∀ u d, B u = some d → ∃ d', B' u = some d' ∧ d' ≤ d) : Upto rs G t B' := fun u c g hg hc ht => by
  obtain ⟨d, e, l⟩ := h u c g hg hc ht
  obtain ⟨d', e', l'⟩ := dn u d e
  exact ⟨d', e', by omega⟩
theorem set_dn {B : Int → Option Int} {u : Int} {d : Int} (h : ∀ d0, B u = some d0 → d ≤ d0) : ∀ x d0, B x = some d0 → ∃ d', setB B u d x = some d' ∧ d' ≤ d0 := fun x d0 e => by
  unfold setB
  by_cases q : x = u
  · subst q
    rw [if_pos rfl]
    exact ⟨d, rfl, h d0 e⟩
  · rw [if_neg q]
    exact ⟨d0, e, Int.le_refl _⟩
theorem mid_set {rs : List Rp} {G : Int → Prop} {t i : Nat} {B : Int → Option Int} {r : Rp} {dv : Int} (M : Mid rs G t i B) (hr : rs[i]? = some r) (hv : B r.2.1 = some dv) (hl : ∀ du, B r.1 = some du → dv + r.2.2 ≤ du) :
    Mid rs G t (i + 1) (setB B r.1 (dv + r.2.2)) := by
  have dn := set_dn (B := B) (u := r.1) (d := dv + r.2.2) hl
  refine ⟨down_upto M.1 dn, fun k r' c g hk hr' hg hc hlen => ?_⟩
  by_cases q : k < i
  · obtain ⟨d, e, l⟩ := M.2 k r' c g q hr' hg hc hlen
    obtain ⟨d', e', l'⟩ := dn _ d e
    exact ⟨d', e', by omega⟩
  · have ek : k = i := by omega
    subst ek
    rw [hr] at hr'
    cases hr'
    obtain ⟨d, e, l⟩ := M.1 r.2.1 c g hg hc hlen
    rw [hv] at e
    cases e
    refine ⟨dv + r.2.2, ?_, by omega⟩
    unfold setB
    rw [if_pos rfl]
theorem mid_keep {rs : List Rp} {G : Int → Prop} {t i : Nat} {B : Int → Option Int} {r : Rp} (M : Mid rs G t i B) (hr : rs[i]? = some r) (h : ∀ dv, B r.2.1 = some dv → ∃ du, B r.1 = some du ∧ du ≤ dv + r.2.2) : Mid rs G t (i + 1) B := by
  refine ⟨M.1, fun k r' c g hk hr' hg hc hlen => ?_⟩
  by_cases q : k < i
  · exact M.2 k r' c g q hr' hg hc hlen
  · have ek : k = i := by omega
    subst ek
    rw [hr] at hr'
    cases hr'
    obtain ⟨d, e, l⟩ := M.1 r.2.1 c g hg hc hlen
    obtain ⟨du, e2, l2⟩ := h d e
    exact ⟨du, e2, by omega⟩
theorem mid_start {rs : List Rp} {G : Int → Prop} {t : Nat} {B : Int → Option Int} (h : Upto rs G t B) : Mid rs G t 0 B := ⟨h, fun k r c g hk => by omega⟩
theorem mid_end {rs : List Rp} {G : Int → Prop} {t : Nat} {B : Int → Option Int} (M : Mid rs G t rs.length B) : Upto rs G (t + 1) B := fun u c g hg hc hl => by
  cases c with
  | nil => exact M.1 u [] g hg hc (Nat.zero_le _)
  | cons k c =>
    obtain ⟨r, h0, hk, e, h⟩ := hc
    have hlt : k.toNat < rs.length := (List.getElem?_eq_some_iff.mp hk).1
    obtain ⟨d, e2, l2⟩ := M.2 k.toNat r c g hlt hk hg h (by simpa using hl)
    refine ⟨d, by rw [← e]; exact e2, ?_⟩
    rw [sum_cons hk]
    exact l2
theorem sound_set {rs : List Rp} {G : Int → Prop} {i : Nat} {B : Int → Option Int} {r : Rp} {dv : Int} (Z : Sound rs G B) (hr : rs[i]? = some r) (hv : B r.2.1 = some dv) : Sound rs G (setB B r.1 (dv + r.2.2)) := fun u d e => by
  unfold setB at e
  by_cases q : u = r.1
  · rw [if_pos q] at e
    cases e
    obtain ⟨c, g, hg, hc, hs⟩ := Z _ _ hv
    have hk : rs[((i : Nat) : Int).toNat]? = some r := by simpa using hr
    refine ⟨(i : Int) :: c, g, hg, by rw [q]; exact ch_cons (by omega) hk hc, ?_⟩
    rw [sum_cons hk]
    omega
  · rw [if_neg q] at e
    exact Z u d e
/-- nothing more to be made less -/
def Still (rs : List Rp) (B : Int → Option Int) : Prop := ∀ r ∈ rs, ∀ dv, B r.2.1 = some dv → ∃ du, B r.1 = some du ∧ du ≤ dv + r.2.2
theorem still_of {rs : List Rp} {S : List Int} {n : Nat} {G : Int → Prop} {B : Int → Option Int} (W : WfR n rs) (L : Lets rs S) (Z : Sound rs G B) (U : Upto rs G n B) : Still rs B := fun r hr dv hv => by
  obtain ⟨c, g, hg, hc, hs⟩ := Z _ _ hv
  obtain ⟨i, hi⟩ := List.mem_iff_getElem?.mp hr
  have hk : rs[((i : Nat) : Int).toNat]? = some r := by simpa using hi
  have h1 : ChOk rs r.1 ((i : Int) :: c) g := ch_cons (by omega) hk hc
  obtain ⟨c', h2, h3, h4⟩ := short W L _ (Nat.le_refl _) (W r hr).1 h1
  obtain ⟨d, e, l⟩ := U r.1 c' g hg h2 h3
  rw [sum_cons hk] at h4
  exact ⟨d, e, by omega⟩
theorem still_all {rs : List Rp} {G : Int → Prop} {B : Int → Option Int} (St : Still rs B) (h0 : ∀ g, G g → ∃ d, B g = some d ∧ d ≤ 0) : ∀ (c : List Int) (u g : Int), G g → ChOk rs u c g → ∃ d, B u = some d ∧ d ≤ chSum rs c
  | [], u, g, hg, h => by
    have h : u = g := h
    subst h
    exact h0 u hg
  | k :: c, u, g, hg, h => by
    obtain ⟨r, hk0, hk, rfl, h⟩ := h
    obtain ⟨dv, e, l⟩ := still_all St h0 c r.2.1 g hg h
    obtain ⟨du, e2, l2⟩ := St r (List.mem_of_getElem? hk) dv e
    refine ⟨du, e2, ?_⟩
    rw [sum_cons hk]
    omega
theorem upto_zero {rs : List Rp} {G : Int → Prop} {B : Int → Option Int} (h0 : ∀ g, G g → ∃ d, B g = some d ∧ d ≤ 0) : Upto rs G 0 B := fun u c g hg hc hl => by
  cases c with
  | nil =>
    have h : u = g := hc
    subst h
    exact h0 u hg
  | cons k c => simp at hl
/-- behind it all: the least sums to one goal -/
theorem isD_of {rs : List Rp} {g : Int} {B : Int → Option Int} (Z : Sound rs (· = g) B) (St : Still rs B) (h0 : ∃ d, B g = some d ∧ d ≤ 0) (u : Int) : IsD rs u g (B u) := by
  have all := still_all (G := (· = g)) St (fun x hx => by subst hx; exact h0)
  cases e : B u with
  | none =>
    intro c hc
    obtain ⟨d, e2, _⟩ := all c u g rfl hc
    rw [e] at e2
    cases e2
  | some d =>
    obtain ⟨c, g', hg, hc, hs⟩ := Z u d e
    have hg : g' = g := hg
    subst hg
    refine ⟨⟨c, hc, hs⟩, fun c2 hc2 => ?_⟩
    obtain ⟨d2, e2, l2⟩ := all c2 u g' rfl hc2
    rw [e] at e2
    cases e2
    exact l2
end RF
/-! ## TxtK -/
set_option Elab.async false
set_option linter.all false
set_option maxRecDepth 100000
set_option maxHeartbeats 0
/-! The text by places; the facts that the head tells. Printed by gentext.py. -/
namespace RF
open PySem PySem.Spec PyProof.Rows L2
def top (i : Nat) : Stmt := PySem.Challenge.pw_ropedclimbers_k44_whole_falls_whoever_wr.main.body.getD i (.Pass ⟨0, 0, 0, 0⟩)
abbrev s_is_whole : Stmt := top 16
abbrev s_is_within : Stmt := top 17
abbrev s_are_wholes : Stmt := top 18
abbrev s_is_rope : Stmt := top 19
abbrev s_look_at_ropes : Stmt := top 20
abbrev s_Rig_init : Stmt := inClass (top 21) 0
abbrev s_Rig_many : Stmt := inClass (top 21) 1
abbrev s_Rig_ropes : Stmt := inClass (top 21) 2
abbrev s_Rig_rope : Stmt := inClass (top 21) 3
abbrev s_Rig_len : Stmt := inClass (top 21) 9
abbrev s_is_chain : Stmt := top 23
abbrev s_look_at_chain : Stmt := top 24
abbrev s_knots_of : Stmt := top 25
abbrev s_sum_of : Stmt := top 26
abbrev s_leads : Stmt := top 27
abbrev s_is_heights : Stmt := top 29
abbrev s_look_at_heights : Stmt := top 30
abbrev s_room_by : Stmt := top 31
abbrev s_broken : Stmt := top 32
abbrev s_is_stand : Stmt := top 33
abbrev s_look_at_stand : Stmt := top 34
abbrev s_spread : Stmt := top 37
abbrev s_solved : Stmt := top 38
abbrev s_stand_or_ring : Stmt := top 39
abbrev s_look_at_rig : Stmt := top 40
abbrev s_look_at_knot : Stmt := top 41
abbrev s_Table_init : Stmt := inClass (top 42) 0
abbrev s_Table_told : Stmt := inClass (top 42) 2
abbrev s_Table_least : Stmt := inClass (top 42) 3
abbrev s_Table_chain : Stmt := inClass (top 42) 4
abbrev s_is_slip : Stmt := top 44
abbrev s_look_at_slips : Stmt := top 45
abbrev s_stops_by : Stmt := top 46
abbrev s_ends_by : Stmt := top 47
abbrev s_fallen : Stmt := top 48
abbrev s_pulls_by : Stmt := top 49
abbrev s_fall : Stmt := top 50
abbrev s_are_stops : Stmt := top 51
abbrev s_is_pull : Stmt := top 52
abbrev s_are_pulls : Stmt := top 53
abbrev s_is_fall : Stmt := top 54
abbrev s_law_pool : Stmt := top 56
abbrev s_law_draw : Stmt := top 57
abbrev s_law_number : Stmt := top 58
abbrev s_law_highs : Stmt := top 59
abbrev s_law_ropes : Stmt := top 60
abbrev s_law_whole : Stmt := top 61
abbrev s_law_lets : Stmt := top 62
abbrev s_law_stand : Stmt := top 63
abbrev s_law_knots : Stmt := top 64
abbrev s_law_sums : Stmt := top 65
abbrev s_law_dist : Stmt := top 66
abbrev s_law_limits : Stmt := top 67
abbrev s_law_fallen : Stmt := top 68
abbrev s_law_slips : Stmt := top 69
abbrev s_law_pull : Stmt := top 70
abbrev s_law_pulls : Stmt := top 71
abbrev s_law_stops : Stmt := top 72
abbrev s_law_fall : Stmt := top 73
abbrev s_law_some_pulls : Stmt := top 74
abbrev s_law_paper : Stmt := top 75
abbrev s_law_under : Stmt := top 76
abbrev s_law_above : Stmt := top 77
abbrev s_law : Stmt := top 78
def D_is_whole : He.DefD := ⟨("is_whole", none), "is_whole", "is_whole", defArgs s_is_whole, defBody s_is_whole, defScope s_is_whole, [], []⟩
def D_is_within : He.DefD := ⟨("is_within", none), "is_within", "is_within", defArgs s_is_within, defBody s_is_within, defScope s_is_within, [], []⟩
def D_are_wholes : He.DefD := ⟨("are_wholes", none), "are_wholes", "are_wholes", defArgs s_are_wholes, defBody s_are_wholes, defScope s_are_wholes, [], []⟩
def D_is_rope : He.DefD := ⟨("is_rope", none), "is_rope", "is_rope", defArgs s_is_rope, defBody s_is_rope, defScope s_is_rope, [], []⟩
def D_look_at_ropes : He.DefD := ⟨("look_at_ropes", none), "look_at_ropes", "look_at_ropes", defArgs s_look_at_ropes, defBody s_look_at_ropes, defScope s_look_at_ropes, [.int 0], []⟩
def D_Rig_init : He.DefD := ⟨("Rig", some "__init__"), "__init__", "Rig.__init__", defArgs s_Rig_init, defBody s_Rig_init, defScope s_Rig_init, [.adr (He.dflAt ("Rig", some "__init__") 0)], []⟩
def D_Rig_many : He.DefD := ⟨("Rig", some "many"), "many", "Rig.many", defArgs s_Rig_many, defBody s_Rig_many, defScope s_Rig_many, [], []⟩
def D_Rig_ropes : He.DefD := ⟨("Rig", some "ropes"), "ropes", "Rig.ropes", defArgs s_Rig_ropes, defBody s_Rig_ropes, defScope s_Rig_ropes, [], []⟩
def D_Rig_rope : He.DefD := ⟨("Rig", some "rope"), "rope", "Rig.rope", defArgs s_Rig_rope, defBody s_Rig_rope, defScope s_Rig_rope, [], []⟩
def D_Rig_len : He.DefD := ⟨("Rig", some "__len__"), "__len__", "Rig.__len__", defArgs s_Rig_len, defBody s_Rig_len, defScope s_Rig_len, [], []⟩
def D_is_chain : He.DefD := ⟨("is_chain", none), "is_chain", "is_chain", defArgs s_is_chain, defBody s_is_chain, defScope s_is_chain, [], []⟩
def D_look_at_chain : He.DefD := ⟨("look_at_chain", none), "look_at_chain", "look_at_chain", defArgs s_look_at_chain, defBody s_look_at_chain, defScope s_look_at_chain, [], []⟩
def D_knots_of : He.DefD := ⟨("knots_of", none), "knots_of", "knots_of", defArgs s_knots_of, defBody s_knots_of, defScope s_knots_of, [], []⟩
def D_sum_of : He.DefD := ⟨("sum_of", none), "sum_of", "sum_of", defArgs s_sum_of, defBody s_sum_of, defScope s_sum_of, [], []⟩
def D_leads : He.DefD := ⟨("leads", none), "leads", "leads", defArgs s_leads, defBody s_leads, defScope s_leads, [], []⟩
def D_is_heights : He.DefD := ⟨("is_heights", none), "is_heights", "is_heights", defArgs s_is_heights, defBody s_is_heights, defScope s_is_heights, [], []⟩
def D_look_at_heights : He.DefD := ⟨("look_at_heights", none), "look_at_heights", "look_at_heights", defArgs s_look_at_heights, defBody s_look_at_heights, defScope s_look_at_heights, [], []⟩
def D_room_by : He.DefD := ⟨("room_by", none), "room_by", "room_by", defArgs s_room_by, defBody s_room_by, defScope s_room_by, [], []⟩
def D_broken : He.DefD := ⟨("broken", none), "broken", "broken", defArgs s_broken, defBody s_broken, defScope s_broken, [], []⟩
def D_is_stand : He.DefD := ⟨("is_stand", none), "is_stand", "is_stand", defArgs s_is_stand, defBody s_is_stand, defScope s_is_stand, [], []⟩
def D_look_at_stand : He.DefD := ⟨("look_at_stand", none), "look_at_stand", "look_at_stand", defArgs s_look_at_stand, defBody s_look_at_stand, defScope s_look_at_stand, [], []⟩
def D_spread : He.DefD := ⟨("spread", none), "spread", "spread", defArgs s_spread, defBody s_spread, defScope s_spread, [], []⟩
def D_solved : He.DefD := ⟨("solved", none), "solved", "solved", defArgs s_solved, defBody s_solved, defScope s_solved, [], []⟩
def D_stand_or_ring : He.DefD := ⟨("stand_or_ring", none), "stand_or_ring", "stand_or_ring", defArgs s_stand_or_ring, defBody s_stand_or_ring, defScope s_stand_or_ring, [], []⟩
def D_look_at_rig : He.DefD := ⟨("look_at_rig", none), "look_at_rig", "look_at_rig", defArgs s_look_at_rig, defBody s_look_at_rig, defScope s_look_at_rig, [], []⟩
def D_look_at_knot : He.DefD := ⟨("look_at_knot", none), "look_at_knot", "look_at_knot", defArgs s_look_at_knot, defBody s_look_at_knot, defScope s_look_at_knot, [], []⟩
def D_Table_init : He.DefD := ⟨("Table", some "__init__"), "__init__", "Table.__init__", defArgs s_Table_init, defBody s_Table_init, defScope s_Table_init, [], []⟩
def D_Table_told : He.DefD := ⟨("Table", some "told"), "told", "Table.told", defArgs s_Table_told, defBody s_Table_told, defScope s_Table_told, [], []⟩
def D_Table_least : He.DefD := ⟨("Table", some "least"), "least", "Table.least", defArgs s_Table_least, defBody s_Table_least, defScope s_Table_least, [], []⟩
def D_Table_chain : He.DefD := ⟨("Table", some "chain"), "chain", "Table.chain", defArgs s_Table_chain, defBody s_Table_chain, defScope s_Table_chain, [], []⟩
def D_is_slip : He.DefD := ⟨("is_slip", none), "is_slip", "is_slip", defArgs s_is_slip, defBody s_is_slip, defScope s_is_slip, [], []⟩
def D_look_at_slips : He.DefD := ⟨("look_at_slips", none), "look_at_slips", "look_at_slips", defArgs s_look_at_slips, defBody s_look_at_slips, defScope s_look_at_slips, [], []⟩
def D_stops_by : He.DefD := ⟨("stops_by", none), "stops_by", "stops_by", defArgs s_stops_by, defBody s_stops_by, defScope s_stops_by, [], []⟩
def D_ends_by : He.DefD := ⟨("ends_by", none), "ends_by", "ends_by", defArgs s_ends_by, defBody s_ends_by, defScope s_ends_by, [], []⟩
def D_fallen : He.DefD := ⟨("fallen", none), "fallen", "fallen", defArgs s_fallen, defBody s_fallen, defScope s_fallen, [], []⟩
def D_pulls_by : He.DefD := ⟨("pulls_by", none), "pulls_by", "pulls_by", defArgs s_pulls_by, defBody s_pulls_by, defScope s_pulls_by, [], []⟩
def D_fall : He.DefD := ⟨("fall", none), "fall", "fall", defArgs s_fall, defBody s_fall, defScope s_fall, [], []⟩
def D_are_stops : He.DefD := ⟨("are_stops", none), "are_stops", "are_stops", defArgs s_are_stops, defBody s_are_stops, defScope s_are_stops, [], []⟩
def D_is_pull : He.DefD := ⟨("is_pull", none), "is_pull", "is_pull", defArgs s_is_pull, defBody s_is_pull, defScope s_is_pull, [], []⟩
def D_are_pulls : He.DefD := ⟨("are_pulls", none), "are_pulls", "are_pulls", defArgs s_are_pulls, defBody s_are_pulls, defScope s_are_pulls, [], []⟩
def D_is_fall : He.DefD := ⟨("is_fall", none), "is_fall", "is_fall", defArgs s_is_fall, defBody s_is_fall, defScope s_is_fall, [], []⟩
def D_law_pool : He.DefD := ⟨("_law_pool", none), "_law_pool", "_law_pool", defArgs s_law_pool, defBody s_law_pool, defScope s_law_pool, [], []⟩
def D_law_draw : He.DefD := ⟨("_law_draw", none), "_law_draw", "_law_draw", defArgs s_law_draw, defBody s_law_draw, defScope s_law_draw, [], []⟩
def D_law_number : He.DefD := ⟨("_law_number", none), "_law_number", "_law_number", defArgs s_law_number, defBody s_law_number, defScope s_law_number, [], []⟩
def D_law_highs : He.DefD := ⟨("_law_highs", none), "_law_highs", "_law_highs", defArgs s_law_highs, defBody s_law_highs, defScope s_law_highs, [], []⟩
def D_law_ropes : He.DefD := ⟨("_law_ropes", none), "_law_ropes", "_law_ropes", defArgs s_law_ropes, defBody s_law_ropes, defScope s_law_ropes, [], []⟩
def D_law_whole : He.DefD := ⟨("_law_whole", none), "_law_whole", "_law_whole", defArgs s_law_whole, defBody s_law_whole, defScope s_law_whole, [], []⟩
def D_law_lets : He.DefD := ⟨("_law_lets", none), "_law_lets", "_law_lets", defArgs s_law_lets, defBody s_law_lets, defScope s_law_lets, [], []⟩
def D_law_stand : He.DefD := ⟨("_law_stand", none), "_law_stand", "_law_stand", defArgs s_law_stand, defBody s_law_stand, defScope s_law_stand, [], []⟩
def D_law_knots : He.DefD := ⟨("_law_knots", none), "_law_knots", "_law_knots", defArgs s_law_knots, defBody s_law_knots, defScope s_law_knots, [], []⟩
def D_law_sums : He.DefD := ⟨("_law_sums", none), "_law_sums", "_law_sums", defArgs s_law_sums, defBody s_law_sums, defScope s_law_sums, [], []⟩
def D_law_dist : He.DefD := ⟨("_law_dist", none), "_law_dist", "_law_dist", defArgs s_law_dist, defBody s_law_dist, defScope s_law_dist, [], []⟩
def D_law_limits : He.DefD := ⟨("_law_limits", none), "_law_limits", "_law_limits", defArgs s_law_limits, defBody s_law_limits, defScope s_law_limits, [], []⟩
def D_law_fallen : He.DefD := ⟨("_law_fallen", none), "_law_fallen", "_law_fallen", defArgs s_law_fallen, defBody s_law_fallen, defScope s_law_fallen, [], []⟩
def D_law_slips : He.DefD := ⟨("_law_slips", none), "_law_slips", "_law_slips", defArgs s_law_slips, defBody s_law_slips, defScope s_law_slips, [], []⟩
def D_law_pull : He.DefD := ⟨("_law_pull", none), "_law_pull", "_law_pull", defArgs s_law_pull, defBody s_law_pull, defScope s_law_pull, [], []⟩
def D_law_pulls : He.DefD := ⟨("_law_pulls", none), "_law_pulls", "_law_pulls", defArgs s_law_pulls, defBody s_law_pulls, defScope s_law_pulls, [], []⟩
def D_law_stops : He.DefD := ⟨("_law_stops", none), "_law_stops", "_law_stops", defArgs s_law_stops, defBody s_law_stops, defScope s_law_stops, [], []⟩
def D_law_fall : He.DefD := ⟨("_law_fall", none), "_law_fall", "_law_fall", defArgs s_law_fall, defBody s_law_fall, defScope s_law_fall, [], []⟩
def D_law_some_pulls : He.DefD := ⟨("_law_some_pulls", none), "_law_some_pulls", "_law_some_pulls", defArgs s_law_some_pulls, defBody s_law_some_pulls, defScope s_law_some_pulls, [], []⟩
def D_law_paper : He.DefD := ⟨("_law_paper", none), "_law_paper", "_law_paper", defArgs s_law_paper, defBody s_law_paper, defScope s_law_paper, [], []⟩
def D_law_under : He.DefD := ⟨("_law_under", none), "_law_under", "_law_under", defArgs s_law_under, defBody s_law_under, defScope s_law_under, [], []⟩
def D_law_above : He.DefD := ⟨("_law_above", none), "_law_above", "_law_above", defArgs s_law_above, defBody s_law_above, defScope s_law_above, [], []⟩
def D_law : He.DefD := ⟨("law", none), "law", "law", defArgs s_law, defBody s_law, defScope s_law, [], []⟩
def fn : List He.DefD := [D_is_whole, D_is_within, D_are_wholes, D_is_rope, D_look_at_ropes, D_Rig_init, D_Rig_many, D_Rig_ropes, D_Rig_rope, D_Rig_len, D_is_chain, D_look_at_chain, D_knots_of, D_sum_of, D_leads, D_is_heights, D_look_at_heights, D_room_by, D_broken, D_is_stand, D_look_at_stand, D_spread, D_solved, D_stand_or_ring, D_look_at_rig, D_look_at_knot, D_Table_init, D_Table_told, D_Table_least, D_Table_chain, D_is_slip, D_look_at_slips, D_stops_by, D_ends_by, D_fallen, D_pulls_by, D_fall, D_are_stops, D_is_pull, D_are_pulls, D_is_fall, D_law_pool, D_law_draw, D_law_number, D_law_highs, D_law_ropes, D_law_whole, D_law_lets, D_law_stand, D_law_knots, D_law_sums, D_law_dist, D_law_limits, D_law_fallen, D_law_slips, D_law_pull, D_law_pulls, D_law_stops, D_law_fall, D_law_some_pulls, D_law_paper, D_law_under, D_law_above, D_law]
def fa : List He.Fa := [.glo "is_whole", .glo "is_within", .glo "are_wholes", .glo "is_rope", .glo "look_at_ropes", .glo "is_chain", .glo "look_at_chain", .glo "knots_of", .glo "sum_of", .glo "leads", .glo "is_heights", .glo "look_at_heights", .glo "room_by", .glo "broken", .glo "is_stand", .glo "look_at_stand", .glo "spread", .glo "solved", .glo "stand_or_ring", .glo "look_at_rig", .glo "look_at_knot", .glo "is_slip", .glo "look_at_slips", .glo "stops_by", .glo "ends_by", .glo "fallen", .glo "pulls_by", .glo "fall", .glo "are_stops", .glo "is_pull", .glo "are_pulls", .glo "is_fall", .glo "_law_pool", .glo "_law_draw", .glo "_law_number", .glo "_law_highs", .glo "_law_ropes", .glo "_law_whole", .glo "_law_lets", .glo "_law_stand", .glo "_law_knots", .glo "_law_sums", .glo "_law_dist", .glo "_law_limits", .glo "_law_fallen", .glo "_law_slips", .glo "_law_pull", .glo "_law_pulls", .glo "_law_stops", .glo "_law_fall", .glo "_law_some_pulls", .glo "_law_paper", .glo "_law_under", .glo "_law_above", .glo "law", .glo "Rig", .glo "Table", .free "isinstance", .free "int", .free "bool", .free "list", .free "tuple", .free "dict", .free "len", .free "all", .free "any", .free "sum", .free "min", .free "max", .free "sorted", .free "range", .free "enumerate", .free "zip", .int "MOST_CLIMBERS" 8, .int "MOST_ROPES" 60, .cls "Rig", .mkr "Rig", .meth "Rig" "many", .meth "Rig" "ropes", .meth "Rig" "rope", .meth "Rig" "__len__", .cls "Table", .mkr "Table", .meth "Table" "told", .meth "Table" "least", .meth "Table" "chain", .noat "Rig" "own_many", .noat "Rig" "own_ropes", .noat "Table" "own_rig", .noat "Table" "best"]
/-- what the end leans on -/
structure TX (K : PySem.W.Frag) (mg : Str → Option Value) : Prop where
  says : He.SaysD fa fn K
  at_ : ∃ h : Heap, K.In h ∧ h.Ns mainGlobals mg
section
variable {K : PySem.W.Frag} {mg : Str → Option Value}
theorem TX.g_is_whole (T : TX K mg) : mg "is_whole" = some (.ref (He.ga K "is_whole")) := by
  obtain ⟨h, X, G⟩ := T.at_
  exact He.glo_ok X G (T.says.fact 0 (f := .glo "is_whole") rfl)
theorem TX.g_is_within (T : TX K mg) : mg "is_within" = some (.ref (He.ga K "is_within")) := by
  obtain ⟨h, X, G⟩ := T.at_
  exact He.glo_ok X G (T.says.fact 1 (f := .glo "is_within") rfl)
theorem TX.g_are_wholes (T : TX K mg) : mg "are_wholes" = some (.ref (He.ga K "are_wholes")) := by
  obtain ⟨h, X, G⟩ := T.at_
  exact He.glo_ok X G (T.says.fact 2 (f := .glo "are_wholes") rfl)
theorem TX.g_is_rope (T : TX K mg) : mg "is_rope" = some (.ref (He.ga K "is_rope")) := by
  obtain ⟨h, X, G⟩ := T.at_
  exact He.glo_ok X G (T.says.fact 3 (f := .glo "is_rope") rfl)
theorem TX.g_look_at_ropes (T : TX K mg) : mg "look_at_ropes" = some (.ref (He.ga K "look_at_ropes")) := by
  obtain ⟨h, X, G⟩ := T.at_
  exact He.glo_ok X G (T.says.fact 4 (f := .glo "look_at_ropes") rfl)
theorem TX.g_is_chain (T : TX K mg) : mg "is_chain" = some (.ref (He.ga K "is_chain")) := by
  obtain ⟨h, X, G⟩ := T.at_
  exact He.glo_ok X G (T.says.fact 5 (f := .glo "is_chain") rfl)
theorem TX.g_look_at_chain (T : TX K mg) : mg "look_at_chain" = some (.ref (He.ga K "look_at_chain")) := by
  obtain ⟨h, X, G⟩ := T.at_
  exact He.glo_ok X G (T.says.fact 6 (f := .glo "look_at_chain") rfl)
theorem TX.g_knots_of (T : TX K mg) : mg "knots_of" = some (.ref (He.ga K "knots_of")) := by
  obtain ⟨h, X, G⟩ := T.at_
  exact He.glo_ok X G (T.says.fact 7 (f := .glo "knots_of") rfl)
theorem TX.g_sum_of (T : TX K mg) : mg "sum_of" = some (.ref (He.ga K "sum_of")) := by
  obtain ⟨h, X, G⟩ := T.at_
  exact He.glo_ok X G (T.says.fact 8 (f := .glo "sum_of") rfl)
theorem TX.g_leads (T : TX K mg) : mg "leads" = some (.ref (He.ga K "leads")) := by
  obtain ⟨h, X, G⟩ := T.at_
  exact He.glo_ok X G (T.says.fact 9 (f := .glo "leads") rfl)
theorem TX.g_is_heights (T : TX K mg) : mg "is_heights" = some (.ref (He.ga K "is_heights")) := by
  obtain ⟨h, X, G⟩ := T.at_
  exact He.glo_ok X G (T.says.fact 10 (f := .glo "is_heights") rfl)
theorem TX.g_look_at_heights (T : TX K mg) : mg "look_at_heights" = some (.ref (He.ga K "look_at_heights")) := by
  obtain ⟨h, X, G⟩ := T.at_
  exact He.glo_ok X G (T.says.fact 11 (f := .glo "look_at_heights") rfl)
theorem TX.g_room_by (T : TX K mg) : mg "room_by" = some (.ref (He.ga K "room_by")) := by
  obtain ⟨h, X, G⟩ := T.at_
  exact He.glo_ok X G (T.says.fact 12 (f := .glo "room_by") rfl)
theorem TX.g_broken (T : TX K mg) : mg "broken" = some (.ref (He.ga K "broken")) := by
  obtain ⟨h, X, G⟩ := T.at_
  exact He.glo_ok X G (T.says.fact 13 (f := .glo "broken") rfl)
theorem TX.g_is_stand (T : TX K mg) : mg "is_stand" = some (.ref (He.ga K "is_stand")) := by
  obtain ⟨h, X, G⟩ := T.at_
  exact He.glo_ok X G (T.says.fact 14 (f := .glo "is_stand") rfl)
theorem TX.g_look_at_stand (T : TX K mg) : mg "look_at_stand" = some (.ref (He.ga K "look_at_stand")) := by
  obtain ⟨h, X, G⟩ := T.at_
  exact He.glo_ok X G (T.says.fact 15 (f := .glo "look_at_stand") rfl)
theorem TX.g_spread (T : TX K mg) : mg "spread" = some (.ref (He.ga K "spread")) := by
  obtain ⟨h, X, G⟩ := T.at_
  exact He.glo_ok X G (T.says.fact 16 (f := .glo "spread") rfl)
theorem TX.g_solved (T : TX K mg) : mg "solved" = some (.ref (He.ga K "solved")) := by
  obtain ⟨h, X, G⟩ := T.at_
  exact He.glo_ok X G (T.says.fact 17 (f := .glo "solved") rfl)
theorem TX.g_stand_or_ring (T : TX K mg) : mg "stand_or_ring" = some (.ref (He.ga K "stand_or_ring")) := by
  obtain ⟨h, X, G⟩ := T.at_
  exact He.glo_ok X G (T.says.fact 18 (f := .glo "stand_or_ring") rfl)
theorem TX.g_look_at_rig (T : TX K mg) : mg "look_at_rig" = some (.ref (He.ga K "look_at_rig")) := by
  obtain ⟨h, X, G⟩ := T.at_
  exact He.glo_ok X G (T.says.fact 19 (f := .glo "look_at_rig") rfl)
theorem TX.g_look_at_knot (T : TX K mg) : mg "look_at_knot" = some (.ref (He.ga K "look_at_knot")) := by
  obtain ⟨h, X, G⟩ := T.at_
  exact He.glo_ok X G (T.says.fact 20 (f := .glo "look_at_knot") rfl)
theorem TX.g_is_slip (T : TX K mg) : mg "is_slip" = some (.ref (He.ga K "is_slip")) := by
  obtain ⟨h, X, G⟩ := T.at_
  exact He.glo_ok X G (T.says.fact 21 (f := .glo "is_slip") rfl)
theorem TX.g_look_at_slips (T : TX K mg) : mg "look_at_slips" = some (.ref (He.ga K "look_at_slips")) := by
  obtain ⟨h, X, G⟩ := T.at_
  exact He.glo_ok X G (T.says.fact 22 (f := .glo "look_at_slips") rfl)
theorem TX.g_stops_by (T : TX K mg) : mg "stops_by" = some (.ref (He.ga K "stops_by")) := by
  obtain ⟨h, X, G⟩ := T.at_
  exact He.glo_ok X G (T.says.fact 23 (f := .glo "stops_by") rfl)
theorem TX.g_ends_by (T : TX K mg) : mg "ends_by" = some (.ref (He.ga K "ends_by")) := by
  obtain ⟨h, X, G⟩ := T.at_
  exact He.glo_ok X G (T.says.fact 24 (f := .glo "ends_by") rfl)
theorem TX.g_fallen (T : TX K mg) : mg "fallen" = some (.ref (He.ga K "fallen")) := by
  obtain ⟨h, X, G⟩ := T.at_
  exact He.glo_ok X G (T.says.fact 25 (f := .glo "fallen") rfl)
theorem TX.g_pulls_by (T : TX K mg) : mg "pulls_by" = some (.ref (He.ga K "pulls_by")) := by
  obtain ⟨h, X, G⟩ := T.at_
  exact He.glo_ok X G (T.says.fact 26 (f := .glo "pulls_by") rfl)
theorem TX.g_fall (T : TX K mg) : mg "fall" = some (.ref (He.ga K "fall")) := by
  obtain ⟨h, X, G⟩ := T.at_
  exact He.glo_ok X G (T.says.fact 27 (f := .glo "fall") rfl)
theorem TX.g_are_stops (T : TX K mg) : mg "are_stops" = some (.ref (He.ga K "are_stops")) := by
  obtain ⟨h, X, G⟩ := T.at_
  exact He.glo_ok X G (T.says.fact 28 (f := .glo "are_stops") rfl)
theorem TX.g_is_pull (T : TX K mg) : mg "is_pull" = some (.ref (He.ga K "is_pull")) := by
  obtain ⟨h, X, G⟩ := T.at_
  exact He.glo_ok X G (T.says.fact 29 (f := .glo "is_pull") rfl)
theorem TX.g_are_pulls (T : TX K mg) : mg "are_pulls" = some (.ref (He.ga K "are_pulls")) := by
  obtain ⟨h, X, G⟩ := T.at_
  exact He.glo_ok X G (T.says.fact 30 (f := .glo "are_pulls") rfl)
theorem TX.g_is_fall (T : TX K mg) : mg "is_fall" = some (.ref (He.ga K "is_fall")) := by
  obtain ⟨h, X, G⟩ := T.at_
  exact He.glo_ok X G (T.says.fact 31 (f := .glo "is_fall") rfl)
theorem TX.g_law_pool (T : TX K mg) : mg "_law_pool" = some (.ref (He.ga K "_law_pool")) := by
  obtain ⟨h, X, G⟩ := T.at_
  exact He.glo_ok X G (T.says.fact 32 (f := .glo "_law_pool") rfl)
theorem TX.g_law_draw (T : TX K mg) : mg "_law_draw" = some (.ref (He.ga K "_law_draw")) := by
  obtain ⟨h, X, G⟩ := T.at_
  exact He.glo_ok X G (T.says.fact 33 (f := .glo "_law_draw") rfl)
theorem TX.g_law_number (T : TX K mg) : mg "_law_number" = some (.ref (He.ga K "_law_number")) := by
  obtain ⟨h, X, G⟩ := T.at_
  exact He.glo_ok X G (T.says.fact 34 (f := .glo "_law_number") rfl)
theorem TX.g_law_highs (T : TX K mg) : mg "_law_highs" = some (.ref (He.ga K "_law_highs")) := by
  obtain ⟨h, X, G⟩ := T.at_
  exact He.glo_ok X G (T.says.fact 35 (f := .glo "_law_highs") rfl)
theorem TX.g_law_ropes (T : TX K mg) : mg "_law_ropes" = some (.ref (He.ga K "_law_ropes")) := by
  obtain ⟨h, X, G⟩ := T.at_
  exact He.glo_ok X G (T.says.fact 36 (f := .glo "_law_ropes") rfl)
theorem TX.g_law_whole (T : TX K mg) : mg "_law_whole" = some (.ref (He.ga K "_law_whole")) := by
  obtain ⟨h, X, G⟩ := T.at_
  exact He.glo_ok X G (T.says.fact 37 (f := .glo "_law_whole") rfl)
theorem TX.g_law_lets (T : TX K mg) : mg "_law_lets" = some (.ref (He.ga K "_law_lets")) := by
  obtain ⟨h, X, G⟩ := T.at_
  exact He.glo_ok X G (T.says.fact 38 (f := .glo "_law_lets") rfl)
theorem TX.g_law_stand (T : TX K mg) : mg "_law_stand" = some (.ref (He.ga K "_law_stand")) := by
  obtain ⟨h, X, G⟩ := T.at_
  exact He.glo_ok X G (T.says.fact 39 (f := .glo "_law_stand") rfl)
theorem TX.g_law_knots (T : TX K mg) : mg "_law_knots" = some (.ref (He.ga K "_law_knots")) := by
  obtain ⟨h, X, G⟩ := T.at_
  exact He.glo_ok X G (T.says.fact 40 (f := .glo "_law_knots") rfl)
theorem TX.g_law_sums (T : TX K mg) : mg "_law_sums" = some (.ref (He.ga K "_law_sums")) := by
  obtain ⟨h, X, G⟩ := T.at_
  exact He.glo_ok X G (T.says.fact 41 (f := .glo "_law_sums") rfl)
theorem TX.g_law_dist (T : TX K mg) : mg "_law_dist" = some (.ref (He.ga K "_law_dist")) := by
  obtain ⟨h, X, G⟩ := T.at_
  exact He.glo_ok X G (T.says.fact 42 (f := .glo "_law_dist") rfl)
theorem TX.g_law_limits (T : TX K mg) : mg "_law_limits" = some (.ref (He.ga K "_law_limits")) := by
  obtain ⟨h, X, G⟩ := T.at_
  exact He.glo_ok X G (T.says.fact 43 (f := .glo "_law_limits") rfl)
theorem TX.g_law_fallen (T : TX K mg) : mg "_law_fallen" = some (.ref (He.ga K "_law_fallen")) := by
  obtain ⟨h, X, G⟩ := T.at_
  exact He.glo_ok X G (T.says.fact 44 (f := .glo "_law_fallen") rfl)
theorem TX.g_law_slips (T : TX K mg) : mg "_law_slips" = some (.ref (He.ga K "_law_slips")) := by
  obtain ⟨h, X, G⟩ := T.at_
  exact He.glo_ok X G (T.says.fact 45 (f := .glo "_law_slips") rfl)
theorem TX.g_law_pull (T : TX K mg) : mg "_law_pull" = some (.ref (He.ga K "_law_pull")) := by
  obtain ⟨h, X, G⟩ := T.at_
  exact He.glo_ok X G (T.says.fact 46 (f := .glo "_law_pull") rfl)
theorem TX.g_law_pulls (T : TX K mg) : mg "_law_pulls" = some (.ref (He.ga K "_law_pulls")) := by
  obtain ⟨h, X, G⟩ := T.at_
  exact He.glo_ok X G (T.says.fact 47 (f := .glo "_law_pulls") rfl)
theorem TX.g_law_stops (T : TX K mg) : mg "_law_stops" = some (.ref (He.ga K "_law_stops")) := by
  obtain ⟨h, X, G⟩ := T.at_
  exact He.glo_ok X G (T.says.fact 48 (f := .glo "_law_stops") rfl)
theorem TX.g_law_fall (T : TX K mg) : mg "_law_fall" = some (.ref (He.ga K "_law_fall")) := by
  obtain ⟨h, X, G⟩ := T.at_
  exact He.glo_ok X G (T.says.fact 49 (f := .glo "_law_fall") rfl)
theorem TX.g_law_some_pulls (T : TX K mg) : mg "_law_some_pulls" = some (.ref (He.ga K "_law_some_pulls")) := by
  obtain ⟨h, X, G⟩ := T.at_
  exact He.glo_ok X G (T.says.fact 50 (f := .glo "_law_some_pulls") rfl)
theorem TX.g_law_paper (T : TX K mg) : mg "_law_paper" = some (.ref (He.ga K "_law_paper")) := by
  obtain ⟨h, X, G⟩ := T.at_
  exact He.glo_ok X G (T.says.fact 51 (f := .glo "_law_paper") rfl)
theorem TX.g_law_under (T : TX K mg) : mg "_law_under" = some (.ref (He.ga K "_law_under")) := by
  obtain ⟨h, X, G⟩ := T.at_
  exact He.glo_ok X G (T.says.fact 52 (f := .glo "_law_under") rfl)
theorem TX.g_law_above (T : TX K mg) : mg "_law_above" = some (.ref (He.ga K "_law_above")) := by
  obtain ⟨h, X, G⟩ := T.at_
  exact He.glo_ok X G (T.says.fact 53 (f := .glo "_law_above") rfl)
theorem TX.g_law (T : TX K mg) : mg "law" = some (.ref (He.ga K "law")) := by
  obtain ⟨h, X, G⟩ := T.at_
  exact He.glo_ok X G (T.says.fact 54 (f := .glo "law") rfl)
theorem TX.c_Rig (T : TX K mg) : mg "Rig" = some (.ref (He.ga K "Rig")) := by
  obtain ⟨h, X, G⟩ := T.at_
  exact He.glo_ok X G (T.says.fact 55 (f := .glo "Rig") rfl)
theorem TX.c_Table (T : TX K mg) : mg "Table" = some (.ref (He.ga K "Table")) := by
  obtain ⟨h, X, G⟩ := T.at_
  exact He.glo_ok X G (T.says.fact 56 (f := .glo "Table") rfl)
theorem TX.b_isinstance (T : TX K mg) : mg "isinstance" = none := by
  obtain ⟨h, X, G⟩ := T.at_
  exact He.free_ok X G (T.says.fact 57 (f := .free "isinstance") rfl)
theorem TX.b_int (T : TX K mg) : mg "int" = none := by
  obtain ⟨h, X, G⟩ := T.at_
  exact He.free_ok X G (T.says.fact 58 (f := .free "int") rfl)
theorem TX.b_bool (T : TX K mg) : mg "bool" = none := by
  obtain ⟨h, X, G⟩ := T.at_
  exact He.free_ok X G (T.says.fact 59 (f := .free "bool") rfl)
theorem TX.b_list (T : TX K mg) : mg "list" = none := by
  obtain ⟨h, X, G⟩ := T.at_
  exact He.free_ok X G (T.says.fact 60 (f := .free "list") rfl)
theorem TX.b_tuple (T : TX K mg) : mg "tuple" = none := by
  obtain ⟨h, X, G⟩ := T.at_
  exact He.free_ok X G (T.says.fact 61 (f := .free "tuple") rfl)
theorem TX.b_dict (T : TX K mg) : mg "dict" = none := by
  obtain ⟨h, X, G⟩ := T.at_
  exact He.free_ok X G (T.says.fact 62 (f := .free "dict") rfl)
theorem TX.b_len (T : TX K mg) : mg "len" = none := by
  obtain ⟨h, X, G⟩ := T.at_
  exact He.free_ok X G (T.says.fact 63 (f := .free "len") rfl)
theorem TX.b_all (T : TX K mg) : mg "all" = none := by
  obtain ⟨h, X, G⟩ := T.at_
  exact He.free_ok X G (T.says.fact 64 (f := .free "all") rfl)
theorem TX.b_any (T : TX K mg) : mg "any" = none := by
  obtain ⟨h, X, G⟩ := T.at_
  exact He.free_ok X G (T.says.fact 65 (f := .free "any") rfl)
theorem TX.b_sum (T : TX K mg) : mg "sum" = none := by
  obtain ⟨h, X, G⟩ := T.at_
  exact He.free_ok X G (T.says.fact 66 (f := .free "sum") rfl)
theorem TX.b_min (T : TX K mg) : mg "min" = none := by
  obtain ⟨h, X, G⟩ := T.at_
  exact He.free_ok X G (T.says.fact 67 (f := .free "min") rfl)
theorem TX.b_max (T : TX K mg) : mg "max" = none := by
  obtain ⟨h, X, G⟩ := T.at_
  exact He.free_ok X G (T.says.fact 68 (f := .free "max") rfl)
theorem TX.b_sorted (T : TX K mg) : mg "sorted" = none := by
  obtain ⟨h, X, G⟩ := T.at_
  exact He.free_ok X G (T.says.fact 69 (f := .free "sorted") rfl)
theorem TX.b_range (T : TX K mg) : mg "range" = none := by
  obtain ⟨h, X, G⟩ := T.at_
  exact He.free_ok X G (T.says.fact 70 (f := .free "range") rfl)
theorem TX.b_enumerate (T : TX K mg) : mg "enumerate" = none := by
  obtain ⟨h, X, G⟩ := T.at_
  exact He.free_ok X G (T.says.fact 71 (f := .free "enumerate") rfl)
theorem TX.b_zip (T : TX K mg) : mg "zip" = none := by
  obtain ⟨h, X, G⟩ := T.at_
  exact He.free_ok X G (T.says.fact 72 (f := .free "zip") rfl)
theorem TX.i_MOST_CLIMBERS (T : TX K mg) : ∃ t, mg "MOST_CLIMBERS" = some (.int 8 t) := by
  obtain ⟨h, X, G⟩ := T.at_
  exact He.int_ok X G (T.says.fact 73 (f := .int "MOST_CLIMBERS" 8) rfl)
theorem TX.i_MOST_ROPES (T : TX K mg) : ∃ t, mg "MOST_ROPES" = some (.int 60 t) := by
  obtain ⟨h, X, G⟩ := T.at_
  exact He.int_ok X G (T.says.fact 74 (f := .int "MOST_ROPES" 60) rfl)
theorem TX.cls_Rig (T : TX K mg) : Cls K (He.ga K "Rig") := He.cls_ok (T.says.fact 75 (f := .cls "Rig") rfl)
theorem TX.mkr_Rig (T : TX K mg) : Mk K (He.ga K "Rig") (He.ma K (He.ga K "Rig") "__init__") := He.mkr_ok (T.says.fact 76 (f := .mkr "Rig") rfl)
theorem TX.m_Rig_many (T : TX K mg) : Meth K (He.ga K "Rig") "many" (He.ma K (He.ga K "Rig") "many") := He.meth_ok (T.says.fact 77 (f := .meth "Rig" "many") rfl)
theorem TX.m_Rig_ropes (T : TX K mg) : Meth K (He.ga K "Rig") "ropes" (He.ma K (He.ga K "Rig") "ropes") := He.meth_ok (T.says.fact 78 (f := .meth "Rig" "ropes") rfl)
theorem TX.m_Rig_rope (T : TX K mg) : Meth K (He.ga K "Rig") "rope" (He.ma K (He.ga K "Rig") "rope") := He.meth_ok (T.says.fact 79 (f := .meth "Rig" "rope") rfl)
theorem TX.m_Rig_len (T : TX K mg) : Meth K (He.ga K "Rig") "__len__" (He.ma K (He.ga K "Rig") "__len__") := He.meth_ok (T.says.fact 80 (f := .meth "Rig" "__len__") rfl)
theorem TX.cls_Table (T : TX K mg) : Cls K (He.ga K "Table") := He.cls_ok (T.says.fact 81 (f := .cls "Table") rfl)
theorem TX.mkr_Table (T : TX K mg) : Mk K (He.ga K "Table") (He.ma K (He.ga K "Table") "__init__") := He.mkr_ok (T.says.fact 82 (f := .mkr "Table") rfl)
theorem TX.m_Table_told (T : TX K mg) : Meth K (He.ga K "Table") "told" (He.ma K (He.ga K "Table") "told") := He.meth_ok (T.says.fact 83 (f := .meth "Table" "told") rfl)
theorem TX.m_Table_least (T : TX K mg) : Meth K (He.ga K "Table") "least" (He.ma K (He.ga K "Table") "least") := He.meth_ok (T.says.fact 84 (f := .meth "Table" "least") rfl)
theorem TX.m_Table_chain (T : TX K mg) : Meth K (He.ga K "Table") "chain" (He.ma K (He.ga K "Table") "chain") := He.meth_ok (T.says.fact 85 (f := .meth "Table" "chain") rfl)
theorem TX.n_Rig_own_many (T : TX K mg) : NoAttr K (He.ga K "Rig") "own_many" := He.noat_ok (T.says.fact 86 (f := .noat "Rig" "own_many") rfl)
theorem TX.n_Rig_own_ropes (T : TX K mg) : NoAttr K (He.ga K "Rig") "own_ropes" := He.noat_ok (T.says.fact 87 (f := .noat "Rig" "own_ropes") rfl)
theorem TX.n_Table_own_rig (T : TX K mg) : NoAttr K (He.ga K "Table") "own_rig" := He.noat_ok (T.says.fact 88 (f := .noat "Table" "own_rig") rfl)
theorem TX.n_Table_best (T : TX K mg) : NoAttr K (He.ga K "Table") "best" := He.noat_ok (T.says.fact 89 (f := .noat "Table" "best") rfl)
theorem TX.d_is_whole (T : TX K mg) : ∃ fd, FunD K "is_whole" "is_whole" (defArgs s_is_whole) (defBody s_is_whole) (defScope s_is_whole) (D_is_whole.dvs K) [] (He.fAd K ("is_whole", none)) fd := T.says.def_ 0 (d := D_is_whole) rfl
theorem TX.d_is_within (T : TX K mg) : ∃ fd, FunD K "is_within" "is_within" (defArgs s_is_within) (defBody s_is_within) (defScope s_is_within) (D_is_within.dvs K) [] (He.fAd K ("is_within", none)) fd := T.says.def_ 1 (d := D_is_within) rfl
theorem TX.d_are_wholes (T : TX K mg) : ∃ fd, FunD K "are_wholes" "are_wholes" (defArgs s_are_wholes) (defBody s_are_wholes) (defScope s_are_wholes) (D_are_wholes.dvs K) [] (He.fAd K ("are_wholes", none)) fd := T.says.def_ 2 (d := D_are_wholes) rfl
theorem TX.d_is_rope (T : TX K mg) : ∃ fd, FunD K "is_rope" "is_rope" (defArgs s_is_rope) (defBody s_is_rope) (defScope s_is_rope) (D_is_rope.dvs K) [] (He.fAd K ("is_rope", none)) fd := T.says.def_ 3 (d := D_is_rope) rfl
theorem TX.d_look_at_ropes (T : TX K mg) : ∃ fd, FunD K "look_at_ropes" "look_at_ropes" (defArgs s_look_at_ropes) (defBody s_look_at_ropes) (defScope s_look_at_ropes) (D_look_at_ropes.dvs K) [] (He.fAd K ("look_at_ropes", none)) fd := T.says.def_ 4 (d := D_look_at_ropes) rfl
theorem TX.d_Rig_init (T : TX K mg) : ∃ fd, FunD K "__init__" "Rig.__init__" (defArgs s_Rig_init) (defBody s_Rig_init) (defScope s_Rig_init) (D_Rig_init.dvs K) [] (He.fAd K ("Rig", some "__init__")) fd := T.says.def_ 5 (d := D_Rig_init) rfl
theorem TX.d_Rig_many (T : TX K mg) : ∃ fd, FunD K "many" "Rig.many" (defArgs s_Rig_many) (defBody s_Rig_many) (defScope s_Rig_many) (D_Rig_many.dvs K) [] (He.fAd K ("Rig", some "many")) fd := T.says.def_ 6 (d := D_Rig_many) rfl
theorem TX.d_Rig_ropes (T : TX K mg) : ∃ fd, FunD K "ropes" "Rig.ropes" (defArgs s_Rig_ropes) (defBody s_Rig_ropes) (defScope s_Rig_ropes) (D_Rig_ropes.dvs K) [] (He.fAd K ("Rig", some "ropes")) fd := T.says.def_ 7 (d := D_Rig_ropes) rfl
theorem TX.d_Rig_rope (T : TX K mg) : ∃ fd, FunD K "rope" "Rig.rope" (defArgs s_Rig_rope) (defBody s_Rig_rope) (defScope s_Rig_rope) (D_Rig_rope.dvs K) [] (He.fAd K ("Rig", some "rope")) fd := T.says.def_ 8 (d := D_Rig_rope) rfl
theorem TX.d_Rig_len (T : TX K mg) : ∃ fd, FunD K "__len__" "Rig.__len__" (defArgs s_Rig_len) (defBody s_Rig_len) (defScope s_Rig_len) (D_Rig_len.dvs K) [] (He.fAd K ("Rig", some "__len__")) fd := T.says.def_ 9 (d := D_Rig_len) rfl
theorem TX.d_is_chain (T : TX K mg) : ∃ fd, FunD K "is_chain" "is_chain" (defArgs s_is_chain) (defBody s_is_chain) (defScope s_is_chain) (D_is_chain.dvs K) [] (He.fAd K ("is_chain", none)) fd := T.says.def_ 10 (d := D_is_chain) rfl
theorem TX.d_look_at_chain (T : TX K mg) : ∃ fd, FunD K "look_at_chain" "look_at_chain" (defArgs s_look_at_chain) (defBody s_look_at_chain) (defScope s_look_at_chain) (D_look_at_chain.dvs K) [] (He.fAd K ("look_at_chain", none)) fd := T.says.def_ 11 (d := D_look_at_chain) rfl
theorem TX.d_knots_of (T : TX K mg) : ∃ fd, FunD K "knots_of" "knots_of" (defArgs s_knots_of) (defBody s_knots_of) (defScope s_knots_of) (D_knots_of.dvs K) [] (He.fAd K ("knots_of", none)) fd := T.says.def_ 12 (d := D_knots_of) rfl
theorem TX.d_sum_of (T : TX K mg) : ∃ fd, FunD K "sum_of" "sum_of" (defArgs s_sum_of) (defBody s_sum_of) (defScope s_sum_of) (D_sum_of.dvs K) [] (He.fAd K ("sum_of", none)) fd := T.says.def_ 13 (d := D_sum_of) rfl
theorem TX.d_leads (T : TX K mg) : ∃ fd, FunD K "leads" "leads" (defArgs s_leads) (defBody s_leads) (defScope s_leads) (D_leads.dvs K) [] (He.fAd K ("leads", none)) fd := T.says.def_ 14 (d := D_leads) rfl
theorem TX.d_is_heights (T : TX K mg) : ∃ fd, FunD K "is_heights" "is_heights" (defArgs s_is_heights) (defBody s_is_heights) (defScope s_is_heights) (D_is_heights.dvs K) [] (He.fAd K ("is_heights", none)) fd := T.says.def_ 15 (d := D_is_heights) rfl
theorem TX.d_look_at_heights (T : TX K mg) : ∃ fd, FunD K "look_at_heights" "look_at_heights" (defArgs s_look_at_heights) (defBody s_look_at_heights) (defScope s_look_at_heights) (D_look_at_heights.dvs K) [] (He.fAd K ("look_at_heights", none)) fd := T.says.def_ 16 (d := D_look_at_heights) rfl
theorem TX.d_room_by (T : TX K mg) : ∃ fd, FunD K "room_by" "room_by" (defArgs s_room_by) (defBody s_room_by) (defScope s_room_by) (D_room_by.dvs K) [] (He.fAd K ("room_by", none)) fd := T.says.def_ 17 (d := D_room_by) rfl
theorem TX.d_broken (T : TX K mg) : ∃ fd, FunD K "broken" "broken" (defArgs s_broken) (defBody s_broken) (defScope s_broken) (D_broken.dvs K) [] (He.fAd K ("broken", none)) fd := T.says.def_ 18 (d := D_broken) rfl
theorem TX.d_is_stand (T : TX K mg) : ∃ fd, FunD K "is_stand" "is_stand" (defArgs s_is_stand) (defBody s_is_stand) (defScope s_is_stand) (D_is_stand.dvs K) [] (He.fAd K ("is_stand", none)) fd := T.says.def_ 19 (d := D_is_stand) rfl
theorem TX.d_look_at_stand (T : TX K mg) : ∃ fd, FunD K "look_at_stand" "look_at_stand" (defArgs s_look_at_stand) (defBody s_look_at_stand) (defScope s_look_at_stand) (D_look_at_stand.dvs K) [] (He.fAd K ("look_at_stand", none)) fd := T.says.def_ 20 (d := D_look_at_stand) rfl
theorem TX.d_spread (T : TX K mg) : ∃ fd, FunD K "spread" "spread" (defArgs s_spread) (defBody s_spread) (defScope s_spread) (D_spread.dvs K) [] (He.fAd K ("spread", none)) fd := T.says.def_ 21 (d := D_spread) rfl
theorem TX.d_solved (T : TX K mg) : ∃ fd, FunD K "solved" "solved" (defArgs s_solved) (defBody s_solved) (defScope s_solved) (D_solved.dvs K) [] (He.fAd K ("solved", none)) fd := T.says.def_ 22 (d := D_solved) rfl
theorem TX.d_stand_or_ring (T : TX K mg) : ∃ fd, FunD K "stand_or_ring" "stand_or_ring" (defArgs s_stand_or_ring) (defBody s_stand_or_ring) (defScope s_stand_or_ring) (D_stand_or_ring.dvs K) [] (He.fAd K ("stand_or_ring", none)) fd := T.says.def_ 23 (d := D_stand_or_ring) rfl
theorem TX.d_look_at_rig (T : TX K mg) : ∃ fd, FunD K "look_at_rig" "look_at_rig" (defArgs s_look_at_rig) (defBody s_look_at_rig) (defScope s_look_at_rig) (D_look_at_rig.dvs K) [] (He.fAd K ("look_at_rig", none)) fd := T.says.def_ 24 (d := D_look_at_rig) rfl
theorem TX.d_look_at_knot (T : TX K mg) : ∃ fd, FunD K "look_at_knot" "look_at_knot" (defArgs s_look_at_knot) (defBody s_look_at_knot) (defScope s_look_at_knot) (D_look_at_knot.dvs K) [] (He.fAd K ("look_at_knot", none)) fd := T.says.def_ 25 (d := D_look_at_knot) rfl
theorem TX.d_Table_init (T : TX K mg) : ∃ fd, FunD K "__init__" "Table.__init__" (defArgs s_Table_init) (defBody s_Table_init) (defScope s_Table_init) (D_Table_init.dvs K) [] (He.fAd K ("Table", some "__init__")) fd := T.says.def_ 26 (d := D_Table_init) rfl
theorem TX.d_Table_told (T : TX K mg) : ∃ fd, FunD K "told" "Table.told" (defArgs s_Table_told) (defBody s_Table_told) (defScope s_Table_told) (D_Table_told.dvs K) [] (He.fAd K ("Table", some "told")) fd := T.says.def_ 27 (d := D_Table_told) rfl
theorem TX.d_Table_least (T : TX K mg) : ∃ fd, FunD K "least" "Table.least" (defArgs s_Table_least) (defBody s_Table_least) (defScope s_Table_least) (D_Table_least.dvs K) [] (He.fAd K ("Table", some "least")) fd := T.says.def_ 28 (d := D_Table_least) rfl
theorem TX.d_Table_chain (T : TX K mg) : ∃ fd, FunD K "chain" "Table.chain" (defArgs s_Table_chain) (defBody s_Table_chain) (defScope s_Table_chain) (D_Table_chain.dvs K) [] (He.fAd K ("Table", some "chain")) fd := T.says.def_ 29 (d := D_Table_chain) rfl
theorem TX.d_is_slip (T : TX K mg) : ∃ fd, FunD K "is_slip" "is_slip" (defArgs s_is_slip) (defBody s_is_slip) (defScope s_is_slip) (D_is_slip.dvs K) [] (He.fAd K ("is_slip", none)) fd := T.says.def_ 30 (d := D_is_slip) rfl
theorem TX.d_look_at_slips (T : TX K mg) : ∃ fd, FunD K "look_at_slips" "look_at_slips" (defArgs s_look_at_slips) (defBody s_look_at_slips) (defScope s_look_at_slips) (D_look_at_slips.dvs K) [] (He.fAd K ("look_at_slips", none)) fd := T.says.def_ 31 (d := D_look_at_slips) rfl
theorem TX.d_stops_by (T : TX K mg) : ∃ fd, FunD K "stops_by" "stops_by" (defArgs s_stops_by) (defBody s_stops_by) (defScope s_stops_by) (D_stops_by.dvs K) [] (He.fAd K ("stops_by", none)) fd := T.says.def_ 32 (d := D_stops_by) rfl
theorem TX.d_ends_by (T : TX K mg) : ∃ fd, FunD K "ends_by" "ends_by" (defArgs s_ends_by) (defBody s_ends_by) (defScope s_ends_by) (D_ends_by.dvs K) [] (He.fAd K ("ends_by", none)) fd := T.says.def_ 33 (d := D_ends_by) rfl
theorem TX.d_fallen (T : TX K mg) : ∃ fd, FunD K "fallen" "fallen" (defArgs s_fallen) (defBody s_fallen) (defScope s_fallen) (D_fallen.dvs K) [] (He.fAd K ("fallen", none)) fd := T.says.def_ 34 (d := D_fallen) rfl
theorem TX.d_pulls_by (T : TX K mg) : ∃ fd, FunD K "pulls_by" "pulls_by" (defArgs s_pulls_by) (defBody s_pulls_by) (defScope s_pulls_by) (D_pulls_by.dvs K) [] (He.fAd K ("pulls_by", none)) fd := T.says.def_ 35 (d := D_pulls_by) rfl
theorem TX.d_fall (T : TX K mg) : ∃ fd, FunD K "fall" "fall" (defArgs s_fall) (defBody s_fall) (defScope s_fall) (D_fall.dvs K) [] (He.fAd K ("fall", none)) fd := T.says.def_ 36 (d := D_fall) rfl
theorem TX.d_are_stops (T : TX K mg) : ∃ fd, FunD K "are_stops" "are_stops" (defArgs s_are_stops) (defBody s_are_stops) (defScope s_are_stops) (D_are_stops.dvs K) [] (He.fAd K ("are_stops", none)) fd := T.says.def_ 37 (d := D_are_stops) rfl
theorem TX.d_is_pull (T : TX K mg) : ∃ fd, FunD K "is_pull" "is_pull" (defArgs s_is_pull) (defBody s_is_pull) (defScope s_is_pull) (D_is_pull.dvs K) [] (He.fAd K ("is_pull", none)) fd := T.says.def_ 38 (d := D_is_pull) rfl
theorem TX.d_are_pulls (T : TX K mg) : ∃ fd, FunD K "are_pulls" "are_pulls" (defArgs s_are_pulls) (defBody s_are_pulls) (defScope s_are_pulls) (D_are_pulls.dvs K) [] (He.fAd K ("are_pulls", none)) fd := T.says.def_ 39 (d := D_are_pulls) rfl
theorem TX.d_is_fall (T : TX K mg) : ∃ fd, FunD K "is_fall" "is_fall" (defArgs s_is_fall) (defBody s_is_fall) (defScope s_is_fall) (D_is_fall.dvs K) [] (He.fAd K ("is_fall", none)) fd := T.says.def_ 40 (d := D_is_fall) rfl
theorem TX.d_law_pool (T : TX K mg) : ∃ fd, FunD K "_law_pool" "_law_pool" (defArgs s_law_pool) (defBody s_law_pool) (defScope s_law_pool) (D_law_pool.dvs K) [] (He.fAd K ("_law_pool", none)) fd := T.says.def_ 41 (d := D_law_pool) rfl
theorem TX.d_law_draw (T : TX K mg) : ∃ fd, FunD K "_law_draw" "_law_draw" (defArgs s_law_draw) (defBody s_law_draw) (defScope s_law_draw) (D_law_draw.dvs K) [] (He.fAd K ("_law_draw", none)) fd := T.says.def_ 42 (d := D_law_draw) rfl
theorem TX.d_law_number (T : TX K mg) : ∃ fd, FunD K "_law_number" "_law_number" (defArgs s_law_number) (defBody s_law_number) (defScope s_law_number) (D_law_number.dvs K) [] (He.fAd K ("_law_number", none)) fd := T.says.def_ 43 (d := D_law_number) rfl
theorem TX.d_law_highs (T : TX K mg) : ∃ fd, FunD K "_law_highs" "_law_highs" (defArgs s_law_highs) (defBody s_law_highs) (defScope s_law_highs) (D_law_highs.dvs K) [] (He.fAd K ("_law_highs", none)) fd := T.says.def_ 44 (d := D_law_highs) rfl
theorem TX.d_law_ropes (T : TX K mg) : ∃ fd, FunD K "_law_ropes" "_law_ropes" (defArgs s_law_ropes) (defBody s_law_ropes) (defScope s_law_ropes) (D_law_ropes.dvs K) [] (He.fAd K ("_law_ropes", none)) fd := T.says.def_ 45 (d := D_law_ropes) rfl
theorem TX.d_law_whole (T : TX K mg) : ∃ fd, FunD K "_law_whole" "_law_whole" (defArgs s_law_whole) (defBody s_law_whole) (defScope s_law_whole) (D_law_whole.dvs K) [] (He.fAd K ("_law_whole", none)) fd := T.says.def_ 46 (d := D_law_whole) rfl
theorem TX.d_law_lets (T : TX K mg) : ∃ fd, FunD K "_law_lets" "_law_lets" (defArgs s_law_lets) (defBody s_law_lets) (defScope s_law_lets) (D_law_lets.dvs K) [] (He.fAd K ("_law_lets", none)) fd := T.says.def_ 47 (d := D_law_lets) rfl
theorem TX.d_law_stand (T : TX K mg) : ∃ fd, FunD K "_law_stand" "_law_stand" (defArgs s_law_stand) (defBody s_law_stand) (defScope s_law_stand) (D_law_stand.dvs K) [] (He.fAd K ("_law_stand", none)) fd := T.says.def_ 48 (d := D_law_stand) rfl
theorem TX.d_law_knots (T : TX K mg) : ∃ fd, FunD K "_law_knots" "_law_knots" (defArgs s_law_knots) (defBody s_law_knots) (defScope s_law_knots) (D_law_knots.dvs K) [] (He.fAd K ("_law_knots", none)) fd := T.says.def_ 49 (d := D_law_knots) rfl
theorem TX.d_law_sums (T : TX K mg) : ∃ fd, FunD K "_law_sums" "_law_sums" (defArgs s_law_sums) (defBody s_law_sums) (defScope s_law_sums) (D_law_sums.dvs K) [] (He.fAd K ("_law_sums", none)) fd := T.says.def_ 50 (d := D_law_sums) rfl
theorem TX.d_law_dist (T : TX K mg) : ∃ fd, FunD K "_law_dist" "_law_dist" (defArgs s_law_dist) (defBody s_law_dist) (defScope s_law_dist) (D_law_dist.dvs K) [] (He.fAd K ("_law_dist", none)) fd := T.says.def_ 51 (d := D_law_dist) rfl
theorem TX.d_law_limits (T : TX K mg) : ∃ fd, FunD K "_law_limits" "_law_limits" (defArgs s_law_limits) (defBody s_law_limits) (defScope s_law_limits) (D_law_limits.dvs K) [] (He.fAd K ("_law_limits", none)) fd := T.says.def_ 52 (d := D_law_limits) rfl
theorem TX.d_law_fallen (T : TX K mg) : ∃ fd, FunD K "_law_fallen" "_law_fallen" (defArgs s_law_fallen) (defBody s_law_fallen) (defScope s_law_fallen) (D_law_fallen.dvs K) [] (He.fAd K ("_law_fallen", none)) fd := T.says.def_ 53 (d := D_law_fallen) rfl
theorem TX.d_law_slips (T : TX K mg) : ∃ fd, FunD K "_law_slips" "_law_slips" (defArgs s_law_slips) (defBody s_law_slips) (defScope s_law_slips) (D_law_slips.dvs K) [] (He.fAd K ("_law_slips", none)) fd := T.says.def_ 54 (d := D_law_slips) rfl
theorem TX.d_law_pull (T : TX K mg) : ∃ fd, FunD K "_law_pull" "_law_pull" (defArgs s_law_pull) (defBody s_law_pull) (defScope s_law_pull) (D_law_pull.dvs K) [] (He.fAd K ("_law_pull", none)) fd := T.says.def_ 55 (d := D_law_pull) rfl
theorem TX.d_law_pulls (T : TX K mg) : ∃ fd, FunD K "_law_pulls" "_law_pulls" (defArgs s_law_pulls) (defBody s_law_pulls) (defScope s_law_pulls) (D_law_pulls.dvs K) [] (He.fAd K ("_law_pulls", none)) fd := T.says.def_ 56 (d := D_law_pulls) rfl
theorem TX.d_law_stops (T : TX K mg) : ∃ fd, FunD K "_law_stops" "_law_stops" (defArgs s_law_stops) (defBody s_law_stops) (defScope s_law_stops) (D_law_stops.dvs K) [] (He.fAd K ("_law_stops", none)) fd := T.says.def_ 57 (d := D_law_stops) rfl
theorem TX.d_law_fall (T : TX K mg) : ∃ fd, FunD K "_law_fall" "_law_fall" (defArgs s_law_fall) (defBody s_law_fall) (defScope s_law_fall) (D_law_fall.dvs K) [] (He.fAd K ("_law_fall", none)) fd := T.says.def_ 58 (d := D_law_fall) rfl
theorem TX.d_law_some_pulls (T : TX K mg) : ∃ fd, FunD K "_law_some_pulls" "_law_some_pulls" (defArgs s_law_some_pulls) (defBody s_law_some_pulls) (defScope s_law_some_pulls) (D_law_some_pulls.dvs K) [] (He.fAd K ("_law_some_pulls", none)) fd := T.says.def_ 59 (d := D_law_some_pulls) rfl
theorem TX.d_law_paper (T : TX K mg) : ∃ fd, FunD K "_law_paper" "_law_paper" (defArgs s_law_paper) (defBody s_law_paper) (defScope s_law_paper) (D_law_paper.dvs K) [] (He.fAd K ("_law_paper", none)) fd := T.says.def_ 60 (d := D_law_paper) rfl
theorem TX.d_law_under (T : TX K mg) : ∃ fd, FunD K "_law_under" "_law_under" (defArgs s_law_under) (defBody s_law_under) (defScope s_law_under) (D_law_under.dvs K) [] (He.fAd K ("_law_under", none)) fd := T.says.def_ 61 (d := D_law_under) rfl
theorem TX.d_law_above (T : TX K mg) : ∃ fd, FunD K "_law_above" "_law_above" (defArgs s_law_above) (defBody s_law_above) (defScope s_law_above) (D_law_above.dvs K) [] (He.fAd K ("_law_above", none)) fd := T.says.def_ 62 (d := D_law_above) rfl
theorem TX.d_law (T : TX K mg) : ∃ fd, FunD K "law" "law" (defArgs s_law) (defBody s_law) (defScope s_law) (D_law.dvs K) [] (He.fAd K ("law", none)) fd := T.says.def_ 63 (d := D_law) rfl
end
end RF
/-! ## RulK -/
set_option Elab.async false
set_option linter.all false
set_option maxRecDepth 100000
set_option maxHeartbeats 4000000
/-! Own words over the layer. -/
namespace RF
open PySem PySem.Spec PyProof.Rows L2
/-! ### the built-ins by their names -/
theorem bt_isinstance : bootBuiltins "isinstance" = some (.builtin "isinstance") := by decide +kernel
theorem bt_int : bootBuiltins "int" = some (.type "int") := by decide +kernel
theorem bt_bool : bootBuiltins "bool" = some (.type "bool") := by decide +kernel
theorem bt_list : bootBuiltins "list" = some (.type "list") := by decide +kernel
theorem bt_tuple : bootBuiltins "tuple" = some (.type "tuple") := by decide +kernel
theorem bt_dict : bootBuiltins "dict" = some (.type "dict") := by decide +kernel
theorem bt_len : bootBuiltins "len" = some (.builtin "len") := by decide +kernel
theorem bt_all : bootBuiltins "all" = some (.builtin "all") := by decide +kernel
theorem bt_any : bootBuiltins "any" = some (.builtin "any") := by decide +kernel
theorem bt_sum : bootBuiltins "sum" = some (.builtin "sum") := by decide +kernel
theorem bt_min : bootBuiltins "min" = some (.builtin "min") := by decide +kernel
theorem bt_max : bootBuiltins "max" = some (.builtin "max") := by decide +kernel
theorem bt_sorted : bootBuiltins "sorted" = some (.builtin "sorted") := by decide +kernel
theorem bt_range : bootBuiltins "range" = some (.type "range") := by decide +kernel
theorem bt_enumerate : bootBuiltins "enumerate" = some (.type "enumerate") := by decide +kernel
theorem bt_zip : bootBuiltins "zip" = some (.type "zip") := by decide +kernel
/-! ### a def of the text, ready to be called -/
structure Okd (P : Program) (w : World) (K : PySem.W.Frag) (mg : Str → Option Value) (base : Heap) (k : Nat) (x : Str) (ps : List Str) (sp : Sp) : Prop where
  ex : ∃ (f : Addr) (fd : FuncData), FnOk P w K mg base CX0 k f fd ps sp ∧ mg x = some (.ref f) ∧ PySem.W.keepIn K (.ref f) = true ∧ Binds K fd ps []
/-- a method of the class at C -/
structure Okm (P : Program) (w : World) (K : PySem.W.Frag) (mg : Str → Option Value) (base : Heap) (k : Nat) (C : Addr) (m : Str) (ps : List Str) (sp : Sp) : Prop where
  ex : ∃ (f : Addr) (fd : FuncData), FnOk P w K mg base CX0 k f fd ps sp ∧ Meth K C m f ∧ Binds K fd ps []
abbrev BOk (x qual : Str) (params : Arguments) (body : List Stmt) (scope : Scope) (ps : List Str) : Prop :=
  ∀ (kV doc pm : Value) (an : Option Addr) (cdv ct : Value) (us : List Value), us.length = ps.length → bindArgs (PySem.W.fnOf x qual params body scope .none kV doc pm an cdv ct) ⟨us, []⟩ = pure (ps.zip us)
/-- what a body owes -/
abbrev Bod (P : Program) (w : World) (K : PySem.W.Frag) (mg : Str → Option Value) (base : Heap) (k : Nat) (N : List Str) (qual : Str) (body : List Stmt) (scope : Scope) (f : Addr) (sp : Sp) : Prop :=
  ∀ (cdv : Value) (A : Around) (outer : List Env) (s : Shared) (H : Hp) (vs : List V) (Q : VK) (E : XK), Room k (A.deeper (envOfC qual scope s.heap.objs.size f cdv)) → sp vs H Q E →
      ∃ t, PSs (cxOf CX0 P w K mg base N qual scope f cdv A outer s H E).nox body t ∧ t { nx := fun _ H' => Q .non H', rt := Q } (start N vs) H
section
variable {P : Program} {w : World} {K : PySem.W.Frag} {mg : Str → Option Value} {base : Heap} {x qual m : Str} {params : Arguments} {body : List Stmt} {scope : Scope} {f C : Addr} {fd : FuncData} {N ps : List Str} {sp : Sp} {k : Nat}
theorem okd_of (F : FunD K x qual params body scope [] [] f fd) (g : mg x = some (.ref f)) (S : FnScope N ps scope) (hb : BOk x qual params body scope ps) (len : ∀ vs H Q E, sp vs H Q E → vs.length = ps.length)
    (hbody : Bod P w K mg base k N qual body scope f sp) : Okd P w K mg base (k + 1) x ps sp :=
  ⟨f, fd, F.ok S len fun cdv A outer s H vs Q E hr h => let ⟨t, h1, h2⟩ := hbody cdv A outer s H vs Q E hr h; ⟨t, PSs.nox h1, h2⟩, g, F.kp, F.bindsN hb⟩
theorem okm_of (F : FunD K x qual params body scope [] [] f fd) (g : Meth K C m f) (S : FnScope N ps scope) (hb : BOk x qual params body scope ps) (len : ∀ vs H Q E, sp vs H Q E → vs.length = ps.length)
    (hbody : Bod P w K mg base k N qual body scope f sp) : Okm P w K mg base (k + 1) C m ps sp :=
  ⟨f, fd, F.ok S len fun cdv A outer s H vs Q E hr h => let ⟨t, h1, h2⟩ := hbody cdv A outer s H vs Q E hr h; ⟨t, PSs.nox h1, h2⟩, g, F.bindsN hb⟩
end
section
variable {X : Cx} {j k : Nat} {x m : Str} {ps : List Str} {sp : Sp} {p pos apos : Pos} {e o : Expr} {es : List Expr} {t : TA} {ta : TE} {C : Addr}
theorem pe_callD (D : Okd X.prog X.w X.K X.mg X.base j x ps sp) (hr : Room k X.A) (hl : j ≤ k) (hg : Gl X x) (ha : PA X (e :: es) t) (hdb : (x == ("__debug__" : Str)) = false := by decide)
    (he : starEach (e :: es) X.env = (false, eval e X.env) :: starEach es X.env := by rfl) (hpl : (backTo pos (starEach es X.env)).any (·.1) = false := by rfl) : PE X (.Call (.Name x p) (e :: es) [] pos) (tCall sp [] E0 t) := by
  obtain ⟨f, fd, F, g, kp, b⟩ := D.ex
  exact pe_call F (hr.mono hl) hg g kp b .nil pass0 ha hdb he hpl
theorem pe_methD {pl : Sem Bool} (D : Okm X.prog X.w X.K X.mg X.base j C m ps sp) (c : Cls X.K C) (hr : Room k X.A) (hl : j ≤ k) (ho : PE X o ta) (ha : PA X (e :: es) t)
    (hst : starEach (e :: es) X.env = (false, eval e X.env) :: starEach es X.env := by rfl) (hpl : (backTo pos (starEach es X.env)).any (·.1) = false := by rfl)
    (ht : eval (.Call (.Attribute o m apos) (e :: es) [] pos) X.env = (do
      let ov ← eval o X.env
      standAt apos.atName
      let (f, first) ← holding [ov] (getMethod ov m pl)
      callWith pos f first (backTo pos (starEach (e :: es) X.env)) (backToKw pos (keywordEach [] X.env))) := by rfl) : PE X (.Call (.Attribute o m apos) (e :: es) [] pos) (tMeth C m sp [] E0 ta t) := by
  obtain ⟨f, fd, F, g, b⟩ := D.ex
  exact pe_meth ho c g F (hr.mono hl) b .nil pass0 ha hst hpl ht
theorem pe_methD0 {pl : Sem Bool} (D : Okm X.prog X.w X.K X.mg X.base j C m ps sp) (c : Cls X.K C) (hr : Room k X.A) (hl : j ≤ k) (ho : PE X o ta)
    (ht : eval (.Call (.Attribute o m apos) [] [] pos) X.env = (do
      let ov ← eval o X.env
      standAt apos.atName
      let (f, first) ← holding [ov] (getMethod ov m pl)
      callWith pos f first (backTo pos (starEach [] X.env)) (backToKw pos (keywordEach [] X.env))) := by rfl) : PE X (.Call (.Attribute o m apos) [] [] pos) (tMeth C m sp [] E0 ta tNil) := by
  obtain ⟨f, fd, F, g, b⟩ := D.ex
  exact pe_meth0 ho c g F (hr.mono hl) b .nil pass0 ht
/-- len(o) of an own class -/
def rLenO (C : Addr) (sp : Sp) : List V → Hp → VK → Prop := fun xs H Q => ∃ a dx fs, xs = [.ref a] ∧ H a = some (.ins C dx fs) ∧ sp [.ref a] H (fun v H' => ∃ n : Int, v = .int n ∧ 0 ≤ n ∧ n < 2 ^ 63 ∧ Q (.int n) H') E0
theorem call_lenO (D : Okm X.prog X.w X.K X.mg X.base j C "__len__" ps sp) (hr : Room k X.A) (hl : j + 1 ≤ k) : CallR X (.builtin "len") (rLenO C sp) := by
  intro pins s σ H xs us Q I r h
  obtain ⟨a, dx, fs, rfl, ha, hsp⟩ := h
  obtain ⟨u, rfl, r1⟩ := vals1 r
  cases r1
  obtain ⟨f, fd, F, g, b⟩ := D.ex
  obtain ⟨mA, J, _⟩ := ins_get I.hok ha
  obtain ⟨od, J, _⟩ := J.look
  obtain ⟨m, hF⟩ := I.fr
  have hr1 : Room j X.A.in1 := (hr.mono hl).in1
  have e0 : Env0 X.prog X.w X.K X.mg X.base X.A.in1 X.stack s H := I.env0.in1
  have r2 : Vals [V.ref a] [Value.ref a] := .cons rfl .nil
  have hlen := F.len _ _ _ _ hsp
  refine PySem.W.len_K hF I.ok.mod.kin J g.at_ g.fn ?_
  refine wpAny_call (codeAny_mono (F.run X.A.in1 X.stack s H ⟨[.ref a], []⟩ [.ref a] [.ref a] _ _ hr1 e0 (by
    have := b s [.ref a] I.kIn (by simpa using hlen)
    simpa using this) r2 hsp) fun r s' hq => ?_)
  cases r with
  | error e => exact hq.elim
  | ok fl =>
    cases fl with
    | ret u =>
      obtain ⟨v, H', I2, rv, n, e1, e2, e3, q⟩ := I.after hq
      subst e1
      obtain ⟨tk, rfl⟩ := rv
      exact ⟨⟨e2, e3⟩, ⟨.int n, H', I2.tok _, ⟨_, rfl⟩, q⟩⟩
    | next => exact hq.elim
    | brk => exact hq.elim
    | cont => exact hq.elim
end

/-! ### heaps -/
theorem same_upd {H : Hp} {p : Addr} {o : HO} (h : H p = none) : Same H (upd H p o) := fun b x e => by
  rw [upd_ne (ne_of_none e h)]
  exact e
theorem same_upd2 {H H' : Hp} {p : Addr} {o : HO} (h : H p = none) (s : Same H H') : Same H (upd H' p o) := fun b x e => by
  rw [upd_ne (ne_of_none e h)]
  exact s b x e
theorem same_frz {H H' : Hp} {d : Addr} {od : Obj} {u : HO} (h : H d = some u) (s : Same (upd H d (.frz od u)) H') : Same H (upd H' d u) := fun b x e => by
  by_cases q : b = d
  · rw [q] at e ⊢
    rw [upd_same, ← e, h]
  · rw [upd_ne q]
    exact s b x (by rw [upd_ne q]; exact e)
theorem seqT_same {K : PySem.W.Frag} {H H' : Hp} {a : Addr} {xs : List V} (e : Same H H') (h : SqT K H a xs) : SqT K H' a xs := by
  rcases h with (h | ⟨o, h⟩) | h
  · exact .inl (.inl (e _ _ h))
  · exact .inl (.inr ⟨o, e _ _ h⟩)
  · exact .inr h
/-! ### loops -/
section
variable {J : It} {n : Nat} {g : TG} {tb : TS} {tt : TT} {te tk tv : TE} {D : Ends} {σ : L2.St} {H H1 : Hp} {vs : List Nat} {d : Addr} {Qd : Hp → Prop}
theorem for_gen (Pv : Nat → L2.St → Hp → Prop) (h0 : Pv 0 σ H) (hgo : ∀ i σ H, i < n → Pv i σ H → J.go i H)
    (hs : ∀ i x σ H H', i < n → Pv i σ H → J.yld i H x H' → g x σ H' fun σ2 H2 => tb { D with nx := Pv (i + 1), ct := Pv (i + 1), bk := D.nx } σ2 H2) (hd : ∀ σ H, Pv n σ H → J.stop n H ∧ D.nx σ H) :
    ∃ W : Nat → Nat → L2.St → Hp → Prop, (∃ m, W 0 m σ H) ∧ ∀ i m σ H, W i m σ H →
      (J.stop i H ∧ D.nx σ H) ∨ (J.go i H ∧ ∃ N : L2.St → Hp → Prop, (∀ σ' H', N σ' H' → ∃ m', m' < m ∧ W (i + 1) m' σ' H') ∧ ∀ x H', J.yld i H x H' → g x σ H' fun σ2 H2 => tb { D with nx := N, ct := N, bk := D.nx } σ2 H2) := by
  refine ⟨fun i m σ H => m = n - i ∧ i ≤ n ∧ Pv i σ H, ⟨n, by simp, Nat.zero_le _, h0⟩, ?_⟩
  rintro i m σ H ⟨rfl, hi, p⟩
  by_cases hlt : i < n
  · exact .inr ⟨hgo i σ H hlt p, Pv (i + 1), fun σ' H' p' => ⟨n - (i + 1), by omega, rfl, hlt, p'⟩, fun x H' y => hs i x σ H H' hlt p y⟩
  · have e : i = n := by omega
    subst e
    exact .inl (hd σ H p)
/-- a list comprehension, by an invariant over the heap -/
theorem lc_pv (Pv : Nat → Hp → Prop) (h0 : Pv 0 (upd H1 d (.lst []))) (hgo : ∀ i H, i < n → Pv i H → J.go i H)
    (hs : ∀ i x H H', i < n → Pv i H → J.yld i H x H' → g x (wipe σ vs) H' fun σ2 H2 => wipe σ2 vs = wipe σ vs ∧ tt σ2 H2 fun b H3 =>
      if b = true then te σ2 H3 fun y H4 => ∃ acc, H4 d = some (.lst acc) ∧ acc.length < sizeLine ∧ Pv (i + 1) (upd H4 d (.lst (acc ++ [y]))) else Pv (i + 1) H3) (hd : ∀ H, Pv n H → J.stop n H ∧ Qd H) :
    ∃ W : Nat → Nat → Hp → Prop, (∃ m, W 0 m (upd H1 d (.lst []))) ∧ ∀ i m H, W i m H →
      (J.stop i H ∧ Qd H) ∨ (J.go i H ∧ ∃ Nx : Hp → Prop, (∀ H', Nx H' → ∃ m', m' < m ∧ W (i + 1) m' H') ∧ ∀ x H', J.yld i H x H' → g x (wipe σ vs) H' fun σ2 H2 => wipe σ2 vs = wipe σ vs ∧ tt σ2 H2 fun b H3 =>
        if b = true then te σ2 H3 fun y H4 => ∃ acc, H4 d = some (.lst acc) ∧ acc.length < sizeLine ∧ Nx (upd H4 d (.lst (acc ++ [y]))) else Nx H3) := by
  refine ⟨fun i m H => m = n - i ∧ i ≤ n ∧ Pv i H, ⟨n, by simp, Nat.zero_le _, h0⟩, ?_⟩
  rintro i m H ⟨rfl, hi, p⟩
  by_cases hlt : i < n
  · exact .inr ⟨hgo i H hlt p, Pv (i + 1), fun H' p' => ⟨n - (i + 1), by omega, rfl, hlt, p'⟩, fun x H' y => hs i x H H' hlt p y⟩
  · have e : i = n := by omega
    subst e
    exact .inl (hd H p)
/-- a list comprehension whose i-th turn gives f i (none: left out) and changes nothing that stood -/
theorem lc_gen (f : Nat → Option V) (hn : n ≤ sizeLine) (hD : H1 d = none) (hgo : ∀ i H, i < n → Same H1 H → J.go i H) (hst : ∀ H, Same H1 H → J.stop n H)
    (turn : ∀ i x H H' (Qt : VK) (Qf : Hp → Prop), i < n → Same H1 H → J.yld i H x H' → (∀ y H4, f i = some y → Same H H4 → Qt y H4) → (∀ H4, f i = none → Same H H4 → Qf H4) →
      g x (wipe σ vs) H' fun σ2 H2 => wipe σ2 vs = wipe σ vs ∧ tt σ2 H2 fun b H3 => if b = true then te σ2 H3 Qt else Qf H3)
    (hd : ∀ H, Same H1 H → H d = some (.lst ((List.range n).filterMap f)) → Qd H) :
    ∃ W : Nat → Nat → Hp → Prop, (∃ m, W 0 m (upd H1 d (.lst []))) ∧ ∀ i m H, W i m H →
      (J.stop i H ∧ Qd H) ∨ (J.go i H ∧ ∃ Nx : Hp → Prop, (∀ H', Nx H' → ∃ m', m' < m ∧ W (i + 1) m' H') ∧ ∀ x H', J.yld i H x H' → g x (wipe σ vs) H' fun σ2 H2 => wipe σ2 vs = wipe σ vs ∧ tt σ2 H2 fun b H3 =>
        if b = true then te σ2 H3 fun y H4 => ∃ acc, H4 d = some (.lst acc) ∧ acc.length < sizeLine ∧ Nx (upd H4 d (.lst (acc ++ [y]))) else Nx H3) := by
  refine lc_pv (n := n) (fun i H => Same H1 H ∧ H d = some (.lst ((List.range i).filterMap f))) ⟨same_upd hD, upd_same⟩ (fun i H hi p => hgo i H hi p.1) (fun i x H H' hi p y => ?_) (fun H p => ⟨hst H p.1, hd H p.1 p.2⟩)
  refine turn i x H H' _ _ hi p.1 y (fun y H4 e s => ?_) (fun H4 e s => ?_)
  · refine ⟨_, s _ _ p.2, Nat.lt_of_le_of_lt (List.length_filterMap_le ..) (by rw [List.length_range]; omega), same_upd2 hD (p.1.trans s), ?_⟩
    rw [upd_same, List.range_succ, List.filterMap_append]
    simp [e]
  · refine ⟨p.1.trans s, ?_⟩
    rw [s _ _ p.2, List.range_succ, List.filterMap_append]
    simp [e]
/-- a dict comprehension, by an invariant over the heap -/
theorem dc_pv (Pv : Nat → Hp → Prop) (h0 : Pv 0 (upd H1 d (.dK []))) (hgo : ∀ i H, i < n → Pv i H → J.go i H)
    (hs : ∀ i x H H', i < n → Pv i H → J.yld i H x H' → g x (wipe σ vs) H' fun σ2 H2 => wipe σ2 vs = wipe σ vs ∧ tt σ2 H2 fun b H3 =>
      if b = true then tk σ2 H3 fun y H4 => tv σ2 H4 fun z H5 => ∃ kvs k, y = kV k ∧ H5 d = some (.dK kvs) ∧ kvs.length < sizeLine ∧ Pv (i + 1) (upd H5 d (.dK (putK kvs k z))) else Pv (i + 1) H3) (hd : ∀ H, Pv n H → J.stop n H ∧ Qd H) :
    ∃ W : Nat → Nat → Hp → Prop, (∃ m, W 0 m (upd H1 d (.dK []))) ∧ ∀ i m H, W i m H →
      (J.stop i H ∧ Qd H) ∨ (J.go i H ∧ ∃ Nx : Hp → Prop, (∀ H', Nx H' → ∃ m', m' < m ∧ W (i + 1) m' H') ∧ ∀ x H', J.yld i H x H' → g x (wipe σ vs) H' fun σ2 H2 => wipe σ2 vs = wipe σ vs ∧ tt σ2 H2 fun b H3 =>
        if b = true then tk σ2 H3 fun y H4 => tv σ2 H4 fun z H5 => ∃ kvs k, y = kV k ∧ H5 d = some (.dK kvs) ∧ kvs.length < sizeLine ∧ Nx (upd H5 d (.dK (putK kvs k z))) else Nx H3) := by
  refine ⟨fun i m H => m = n - i ∧ i ≤ n ∧ Pv i H, ⟨n, by simp, Nat.zero_le _, h0⟩, ?_⟩
  rintro i m H ⟨rfl, hi, p⟩
  by_cases hlt : i < n
  · exact .inr ⟨hgo i H hlt p, Pv (i + 1), fun H' p' => ⟨n - (i + 1), by omega, rfl, hlt, p'⟩, fun x H' y => hs i x H H' hlt p y⟩
  · have e : i = n := by omega
    subst e
    exact .inl (hd H p)
end
theorem range_fm {α β : Type} (F : α → Option β) : ∀ xs : List α, (List.range xs.length).filterMap (fun i => (xs[i]?).bind F) = xs.filterMap F
  | [] => rfl
  | x :: xs => by
    rw [List.length_cons, List.range_succ_eq_map, List.filterMap_cons, List.filterMap_map, List.filterMap_cons]
    have ih := range_fm F xs
    have e : (List.range xs.length).filterMap ((fun i => ((x :: xs)[i]?).bind F) ∘ Nat.succ) = xs.filterMap F := by
      rw [← ih]
      congr 1
    rw [e]
    rfl
theorem range_map {α β : Type} (F : α → β) (xs : List α) : (List.range xs.length).filterMap (fun i => (xs[i]?).map F) = xs.map F := by
  have h := range_fm (fun x => some (F x)) xs
  have e : xs.filterMap (fun x => some (F x)) = xs.map F := by
    induction xs with
    | nil => rfl
    | cons x xs ih => rw [List.filterMap_cons, List.map_cons, ih (range_fm _ xs)]
  rw [e] at h
  rw [← h]
  congr 1
  funext i
  cases xs[i]? <;> rfl
/-! ### tuples in a list -/
def TupsAt (H : Hp) (as : List Addr) (xs : List (List V)) : Prop := as.length = xs.length ∧ ∀ (i : Nat) (a : Addr) (x : List V), as[i]? = some a → xs[i]? = some x → H a = some (.tup x)
theorem TupsAt.same {H H' : Hp} {as : List Addr} {xs : List (List V)} (h : TupsAt H as xs) (s : Same H H') : TupsAt H' as xs := ⟨h.1, fun i a x e1 e2 => s _ _ (h.2 i a x e1 e2)⟩
theorem TupsAt.at_ {H : Hp} {as : List Addr} {xs : List (List V)} (h : TupsAt H as xs) {i : Nat} {a : Addr} (e : as[i]? = some a) : ∃ x, xs[i]? = some x ∧ H a = some (.tup x) := by
  have hl : i < as.length := (List.getElem?_eq_some_iff.mp e).1
  have hx : xs[i]? = some (xs[i]'(by rw [← h.1]; exact hl)) := List.getElem?_eq_getElem _
  exact ⟨_, hx, h.2 i a _ e hx⟩
theorem TupsAt.at2 {H : Hp} {as : List Addr} {xs : List (List V)} (h : TupsAt H as xs) {i : Nat} {x : List V} (e : xs[i]? = some x) : ∃ a, as[i]? = some a ∧ H a = some (.tup x) := by
  have hl : i < xs.length := (List.getElem?_eq_some_iff.mp e).1
  have hx : as[i]? = some (as[i]'(by rw [h.1]; exact hl)) := List.getElem?_eq_getElem _
  exact ⟨_, hx, h.2 i _ x hx e⟩
theorem TupsAt.snoc {H : Hp} {as : List Addr} {xs : List (List V)} {a : Addr} {x : List V} (h : TupsAt H as xs) (e : H a = some (.tup x)) : TupsAt H (as ++ [a]) (xs ++ [x]) := by
  refine ⟨by simp [h.1], fun i b y e1 e2 => ?_⟩
  by_cases hi : i < as.length
  · rw [List.getElem?_append_left hi] at e1
    rw [List.getElem?_append_left (by rw [← h.1]; exact hi)] at e2
    exact h.2 i b y e1 e2
  · rw [List.getElem?_append_right (by omega)] at e1
    rw [List.getElem?_append_right (by rw [← h.1]; omega)] at e2
    have hi0 : i - as.length = 0 := by
      cases q : i - as.length with
      | zero => rfl
      | succ k => rw [q] at e1; simp at e1
    rw [hi0] at e1
    rw [← h.1, hi0] at e2
    simp at e1 e2
    rw [← e1, ← e2]
    exact e
theorem TupsAt.nil {H : Hp} : TupsAt H [] [] := ⟨rfl, fun i a x e => by simp at e⟩
def rV (r : Rp) : List V := [.int r.1, .int r.2.1, .int r.2.2]
def sV (r : Int × Int) : List V := [.int r.1, .int r.2]
theorem get_map {α β : Type} {f : α → β} {xs : List α} {i : Nat} {y : β} (h : (xs.map f)[i]? = some y) : ∃ x, xs[i]? = some x ∧ y = f x := by
  rw [List.getElem?_map] at h
  cases e : xs[i]? with
  | none => rw [e] at h; cases h
  | some x => rw [e] at h; exact ⟨x, rfl, (Option.some.inj h).symm⟩
theorem get_map2 {α β : Type} {f : α → β} {xs : List α} {i : Nat} {x : α} (h : xs[i]? = some x) : (xs.map f)[i]? = some (f x) := by
  rw [List.getElem?_map, h]; rfl
end RF
/-! ## RulB -/
set_option Elab.async false
set_option linter.all false
set_option maxRecDepth 100000
set_option maxHeartbeats 4000000
/-! isinstance, ==, !=, the rig. -/
namespace RF
open PySem PySem.Spec PyProof.Rows L2
section
variable {K : PySem.W.Frag}
theorem kt_ii : PySem.W.kitOne K (.type "int") (.type "int") = some true := kit_ty (by decide +kernel)
theorem kt_ib : PySem.W.kitOne K (.type "int") (.type "bool") = some false := kit_ty (by decide +kernel)
theorem kt_bb : PySem.W.kitOne K (.type "bool") (.type "bool") = some true := kit_ty (by decide +kernel)
theorem kt_ll : PySem.W.kitOne K (.type "list") (.type "list") = some true := kit_ty (by decide +kernel)
theorem kt_tt : PySem.W.kitOne K (.type "tuple") (.type "tuple") = some true := kit_ty (by decide +kernel)
theorem kt_dd : PySem.W.kitOne K (.type "dict") (.type "dict") = some true := kit_ty (by decide +kernel)
theorem kt_lt : PySem.W.kitAny K (.type "list") [.type "list", .type "tuple"] = some true := kitAny_cons (b := true) (r := true) kt_ll (fun z => nomatch z) (fun _ => rfl)
end
/-! ### lists compared -/
theorem dpAll_ints {K : PySem.W.Frag} {H : Hp} : ∀ ns : List Int, DpAll K H (ns.map V.int) (ns.map PyData.int)
  | [] => .nil
  | n :: ns => .cons (.int n) (dpAll_ints ns)
theorem eqvAll_ints : ∀ ns ms : List Int, PyData.eqvAll (ns.map PyData.int) (ms.map PyData.int) = decide (ns = ms)
  | [], [] => by simp [PyData.eqvAll]
  | [], m :: ms => by simp [PyData.eqvAll]
  | n :: ns, [] => by simp [PyData.eqvAll]
  | n :: ns, m :: ms => by
    rw [List.map_cons, List.map_cons, PyData.eqvAll, eqvAll_ints ns ms, PyData.eqv]
    simp
    by_cases h : n = m <;> simp [h]
theorem eqv_ints (ns ms : List Int) : PyData.eqv (.list (ns.map PyData.int)) (.list (ms.map PyData.int)) = decide (ns = ms) := by
  rw [PyData.eqv]
  exact eqvAll_ints ns ms

section
variable {X : Cx}
/-- == of two lists of ints -/
def rEqI (K : PySem.W.Frag) : R2 := fun x y H Q => ∃ (a b : Addr) (ns ms : List Int), x = .ref a ∧ y = .ref b ∧ SqL K H a (ns.map V.int) ∧ SqL K H b (ms.map V.int) ∧ Q (.bl (decide (ns = ms))) H
def rNeI (K : PySem.W.Frag) : R2 := fun x y H Q => ∃ (a b : Addr) (ns ms : List Int), x = .ref a ∧ y = .ref b ∧ SqL K H a (ns.map V.int) ∧ SqL K H b (ms.map V.int) ∧ Q (.bl (!decide (ns = ms))) H
theorem op_eqI (hu : X.A.units + 64 < cLine) : OpR X (compareOp .Eq) (rEqI X.K) := fun pins s σ H x y v u Q I rx ry h => by
  obtain ⟨a, b, ns, ms, rfl, rfl, h1, h2, q⟩ := h
  refine op_eqD hu pins s σ H _ _ v u Q I rx ry ⟨_, _, .lst h1 (dpAll_ints ns), .lst h2 (dpAll_ints ms), PySem.W.ke_shaped_ints _, PySem.W.ke_shaped_ints _, ?_⟩
  rw [eqv_ints]
  exact q
theorem op_neI (hu : X.A.units + 64 < cLine) : OpR X (compareOp .NotEq) (rNeI X.K) := fun pins s σ H x y v u Q I rx ry h => by
  obtain ⟨a, b, ns, ms, rfl, rfl, h1, h2, q⟩ := h
  refine op_neD hu pins s σ H _ _ v u Q I rx ry ⟨_, _, .lst h1 (dpAll_ints ns), .lst h2 (dpAll_ints ms), PySem.W.ke_shaped_ints _, PySem.W.ke_shaped_ints _, ?_⟩
  rw [eqv_ints]
  exact q
/-- a list of tuples of ints is not the empty one -/
def rNeT (K : PySem.W.Frag) : R2 := fun x y H Q => ∃ (a b : Addr) (as : List Addr) (rs : List Rp), x = .ref a ∧ y = .ref b ∧ SqL K H a (as.map V.ref) ∧ TupsAt H as (rs.map rV) ∧ SqL K H b [] ∧ Q (.bl (!decide (rs = []))) H
theorem dp_row {K : PySem.W.Frag} {H : Hp} {a : Addr} {r : Rp} (h : H a = some (.tup (rV r))) : Dp K H (.ref a) (.tuple [.int r.1, .int r.2.1, .int r.2.2]) :=
  .tup (SqT.of h) (.cons (.int _) (.cons (.int _) (.cons (.int _) .nil)))
theorem dpAll_rows {K : PySem.W.Frag} {H : Hp} : ∀ {as : List Addr} {rs : List Rp}, TupsAt H as (rs.map rV) → DpAll K H (as.map V.ref) (rs.map fun r => PyData.tuple [.int r.1, .int r.2.1, .int r.2.2])
  | [], [], _ => .nil
  | [], r :: rs, h => by have := h.1; simp at this
  | a :: as, [], h => by have := h.1; simp at this
  | a :: as, r :: rs, h => .cons (dp_row (h.2 0 a _ rfl rfl)) (dpAll_rows ⟨by have := h.1; simpa using this, fun i b x e1 e2 => h.2 (i + 1) b x e1 e2⟩)
theorem rows_shaped (rs : List Rp) : SeqAt.shaped (.list (rs.map fun r => PyData.tuple [.int r.1, .int r.2.1, .int r.2.2])) = true := by
  have h1 : ∀ rs : List Rp, PyData.canLayAll0 (rs.map fun r => PyData.tuple [.int r.1, .int r.2.1, .int r.2.2]) = true := by
    intro rs
    induction rs with
    | nil => rfl
    | cons r rs ih => simp [PyData.canLayAll0, PyData.canLay0, ih]
  have h2 : ∀ rs : List Rp, PyData.depthAll (rs.map fun r => PyData.tuple [.int r.1, .int r.2.1, .int r.2.2]) ≤ 1 := by
    intro rs
    induction rs with
    | nil => simp [PyData.depthAll]
    | cons r rs ih => simp [PyData.depthAll, PyData.depth]; omega
  have h3 := h2 rs
  unfold SeqAt.shaped
  rw [Bool.and_eq_true]
  refine ⟨by rw [PyData.canLay0]; exact h1 rs, decide_eq_true ?_⟩
  rw [PyData.depth]
  omega
theorem op_neT (hu : X.A.units + 64 < cLine) : OpR X (compareOp .NotEq) (rNeT X.K) := fun pins s σ H x y v u Q I rx ry h => by
  obtain ⟨a, b, as, rs, rfl, rfl, h1, h2, h3, q⟩ := h
  refine op_neD hu pins s σ H _ _ v u Q I rx ry ⟨_, _, .lst h1 (dpAll_rows h2), .lst h3 .nil, rows_shaped _, by decide +kernel, ?_⟩
  cases rs with
  | nil => exact q
  | cons r rs => exact q
end
theorem putF_len (f : Str) (v : V) : ∀ fs : List (Str × V), (putF f v fs).length ≤ fs.length + 1
  | [] => by
    rw [putF]
    exact Nat.le_refl _
  | (x, y) :: fs => by
    rw [putF]
    split
    · simp
    · have := putF_len f v fs
      simp only [List.length_cons]
      omega
/-! ### the rig -/
def rigF (n : Int) (t : Addr) : List (Str × V) := putF "own_ropes" (.ref t) (putF "own_many" (.int n) [])
theorem rigF_many (n : Int) (t : Addr) : (rigF n t).lookup ("own_many" : Str) = some (.int n) := by
  unfold rigF
  rw [lookup_putF, if_neg (by decide +kernel), lookup_putF, if_pos rfl]
theorem rigF_ropes (n : Int) (t : Addr) : (rigF n t).lookup ("own_ropes" : Str) = some (.ref t) := by
  unfold rigF
  rw [lookup_putF, if_pos rfl]
theorem rigF_no (n : Int) (t : Addr) {m : Str} (h1 : ¬ m = "own_ropes") (h2 : ¬ m = "own_many") : (rigF n t).lookup m = none := by
  unfold rigF
  rw [lookup_putF, if_neg h1, lookup_putF, if_neg h2]
  rfl
theorem rigF_m1 (n : Int) (t : Addr) : (rigF n t).lookup ("many" : Str) = none := rigF_no n t (by decide +kernel) (by decide +kernel)
theorem rigF_m2 (n : Int) (t : Addr) : (rigF n t).lookup ("ropes" : Str) = none := rigF_no n t (by decide +kernel) (by decide +kernel)
theorem rigF_m3 (n : Int) (t : Addr) : (rigF n t).lookup ("rope" : Str) = none := rigF_no n t (by decide +kernel) (by decide +kernel)
/-- a rig of n climbers and the ropes rs stands at g -/
def RigA (K : PySem.W.Frag) (H : Hp) (g : Addr) (n : Nat) (rs : List Rp) : Prop :=
  ∃ dx t as, H g = some (.ins (He.ga K "Rig") dx (rigF n t)) ∧ H t = some (.tup (as.map V.ref)) ∧ TupsAt H as (rs.map rV)
theorem RigA.same {K : PySem.W.Frag} {H H' : Hp} {g : Addr} {n : Nat} {rs : List Rp} (h : RigA K H g n rs) (s : Same H H') : RigA K H' g n rs := by
  obtain ⟨dx, t, as, h1, h2, h3⟩ := h
  exact ⟨dx, t, as, s _ _ h1, s _ _ h2, h3.same s⟩

/-! ### a def with a default, a class that is made -/
structure OkdD (P : Program) (w : World) (K : PySem.W.Frag) (mg : Str → Option Value) (base : Heap) (k : Nat) (x : Str) (ps : List Str) (dvs : List V) (sp : Sp) : Prop where
  ex : ∃ (f : Addr) (fd : FuncData) (ds : List Value), FnOk P w K mg base CX0 k f fd ps sp ∧ mg x = some (.ref f) ∧ PySem.W.keepIn K (.ref f) = true ∧ Binds K fd ps ds ∧ Vals dvs ds
structure Oki (P : Program) (w : World) (K : PySem.W.Frag) (mg : Str → Option Value) (base : Heap) (k : Nat) (x : Str) (C : Addr) (ps : List Str) (sp : Sp) : Prop where
  ex : ∃ (f : Addr) (fd : FuncData), FnOk P w K mg base CX0 k f fd ps sp ∧ mg x = some (.ref C) ∧ Mk K C f ∧ Binds K fd ps []
section
variable {X : Cx} {j k : Nat} {x m : Str} {ps : List Str} {sp : Sp} {p pos apos : Pos} {e o : Expr} {es : List Expr} {t : TA} {ta : TE} {C : Addr} {dvs : List V}
theorem pe_callDf (D : OkdD X.prog X.w X.K X.mg X.base j x ps dvs sp) (hr : Room k X.A) (hl : j ≤ k) (hg : Gl X x) (ha : PA X (e :: es) t) (hdb : (x == ("__debug__" : Str)) = false := by decide)
    (he : starEach (e :: es) X.env = (false, eval e X.env) :: starEach es X.env := by rfl) (hpl : (backTo pos (starEach es X.env)).any (·.1) = false := by rfl) : PE X (.Call (.Name x p) (e :: es) [] pos) (tCall sp dvs E0 t) := by
  obtain ⟨f, fd, ds, F, g, kp, b, v⟩ := D.ex
  exact pe_call F (hr.mono hl) hg g kp b v pass0 ha hdb he hpl
theorem pe_makeD (D : Oki X.prog X.w X.K X.mg X.base j x C ps sp) (hr : Room k X.A) (hl : j + 1 ≤ k) (hg : Gl X x) (ha : PA X (e :: es) t) (hdb : (x == ("__debug__" : Str)) = false := by decide)
    (he : starEach (e :: es) X.env = (false, eval e X.env) :: starEach es X.env := by rfl) (hpl : (backTo pos (starEach es X.env)).any (·.1) = false := by rfl) : PE X (.Call (.Name x p) (e :: es) [] pos) (tMake C sp [] E0 t) := by
  obtain ⟨f, fd, F, g, M, b⟩ := D.ex
  exact pe_make M F (hr.mono hl) hg g b .nil pass0 ha hdb he hpl
end
theorem atI_int {α : Type} {xs : List α} {k : Int} {v : α} (h0 : 0 ≤ k) (h : xs[k.toNat]? = some v) : atI xs k = some v := by
  have e : ((k.toNat : Nat) : Int) = k := Int.toNat_of_nonneg h0
  rw [← e]
  exact atI_nat h

/-! ### the same rules, the written part by its own letter (so that a reading in a comprehension's block leans on nothing bound) -/
section
variable {X : Cx} {K : PySem.W.Frag}
theorem ix_listK (h : X.K = K) : IxR X (rIxL K) := by subst h; exact ix_list
theorem ix_tupK (h : X.K = K) : IxR X (rIxT K) := by subst h; exact ix_tup
theorem sl_listK (h : X.K = K) : SlR X (rSlL K) := by subst h; exact sl_list
theorem op_in_seqK (h : X.K = K) : OpR X (compareOp .In) (rIn K false) := by subst h; exact op_in_seq
theorem op_notIn_seqK (h : X.K = K) : OpR X (compareOp .NotIn) (rIn K true) := by subst h; exact op_notIn_seq
theorem op_eqIK (h : X.K = K) (hu : X.A.units + 64 < cLine) : OpR X (compareOp .Eq) (rEqI K) := by subst h; exact op_eqI hu
theorem op_neIK (h : X.K = K) (hu : X.A.units + 64 < cLine) : OpR X (compareOp .NotEq) (rNeI K) := by subst h; exact op_neI hu
theorem op_neTK (h : X.K = K) (hu : X.A.units + 64 < cLine) : OpR X (compareOp .NotEq) (rNeT K) := by subst h; exact op_neT hu
theorem call_isiK2 (h : X.K = K) : CallR X (.builtin "isinstance") (rIsi K) := by subst h; exact call_isi
theorem call_isiTK (h : X.K = K) : CallR X (.builtin "isinstance") (rIsiT K) := by subst h; exact call_isiT
def rLenQ (K : PySem.W.Frag) : List V → Hp → VK → Prop := fun xs H Q => ∃ p ys, xs = [.ref p] ∧ (SqL K H p ys ∨ SqT K H p ys) ∧ Q (.int ys.length) H
theorem call_len_seqK (h : X.K = K) : CallR X (.builtin "len") (rLenQ K) := by subst h; exact call_len_seq
theorem cr_allK (h : X.K = K) (hc : X.calm = true) : CallR X (.builtin "all") (rAll K) := by subst h; exact cr_all hc
theorem cr_anyK (h : X.K = K) (hc : X.calm = true) : CallR X (.builtin "any") (rAny K) := by subst h; exact cr_any hc
theorem cr_sumK (h : X.K = K) (hc : X.calm = true) : CallR X (.builtin "sum") (rSum K) := by subst h; exact cr_sum hc
theorem cr_minK2 (h : X.K = K) (hc : X.calm = true) : CallR X (.builtin "min") (rMin K) := by subst h; exact cr_min hc
theorem cr_maxK (h : X.K = K) (hc : X.calm = true) : CallR X (.builtin "max") (rMax K) := by subst h; exact cr_max hc
theorem cr_sortedK (h : X.K = K) : CallR X (.builtin "sorted") (rSorted K) := by subst h; exact cr_sorted
def rListQ (K : PySem.W.Frag) : List V → Hp → VK → Prop := fun xs H Q => ∃ p ys, xs = [.ref p] ∧ (SqL K H p ys ∨ SqT K H p ys) ∧ ∀ l, H l = none → Q (.ref l) (upd H l (.lst ys))
theorem call_list_ofK (h : X.K = K) : CallR X (.type "list") (rListQ K) := by subst h; exact call_list_of
def rTupQ (K : PySem.W.Frag) : List V → Hp → VK → Prop := fun xs H Q => ∃ p ys, xs = [.ref p] ∧ ((SqL K H p ys ∧ ∀ l, H l = none → Q (.ref l) (upd H l (.tup ys))) ∨ (SqT K H p ys ∧ Q (.ref p) H))
theorem call_tuple_ofK (h : X.K = K) : CallR X (.type "tuple") (rTupQ K) := by subst h; exact call_tuple_of
def rDictP (K : PySem.W.Frag) : List V → Hp → VK → Prop := fun xs H Q => ∃ (a : Addr) (ps : List Addr) (kvs : List (Key × V)), xs = [.ref a] ∧ SqL K H a (ps.map V.ref) ∧ Paired (fun p kv => SqT K H p [kV kv.1, kv.2]) ps kvs ∧
    ∀ p, H p = none → Q (.ref p) (upd H p (.dK (mergeK [] kvs)))
theorem call_dictPK (h : X.K = K) (hc : X.calm = true) : CallR X (.type "dict") (rDictP K) := by subst h; exact call_dictP hc
variable {tg l e e2 : Expr} {tl te : TE} {ta : TA} {p pos tpos apos cpos : Pos} {elts : List Expr} {kk : Nat}
theorem pi_listK (h : X.K = K) (hl : PE X l tl) : PI X tg l (iList K tl) := by subst h; exact pi_list hl
theorem pi_enumK (h : X.K = K) (hg : Gl X "enumerate") (hm : X.mg "enumerate" = none) (ha : PA X [e] ta) (hs : starEach [e] X.env = [(false, eval e X.env)] := by rfl) :
    PI X (.Tuple elts kk tpos) (.Call (.Name "enumerate" p) [e] [] pos) (iEnum K ta) := by subst h; exact pi_enum hg hm ha hs
theorem pi_zipK (h : X.K = K) (hg : Gl X "zip") (hm : X.mg "zip" = none) (ha : PA X [e, e2] ta)
    (hs : starEach [e, e2] X.env = (false, eval e X.env) :: starEach [e2] X.env := by rfl) (hpl : (backTo pos (starEach [e2] X.env)).any (·.1) = false := by rfl) :
    PI X (.Tuple elts kk tpos) (.Call (.Name "zip" p) [e, e2] [] pos) (iZip K ta) := by subst h; exact pi_zip hg hm ha hs hpl
theorem pg_tupK {es : List Expr} {k : Nat} {t : TGs} {n : Nat} (h : X.K = K) (hc : X.calm = true) (hp : PGs X es t)
    (hn : (assignEach es X.env).length = n := by rfl) (hst : (assignEach es X.env).findIdx? (·.1) = none := by rfl) : PG X (.Tuple es k pos) (gTup K n t) := by subst h; exact pg_tup hc hp hn hst
end
end RF
/-! ## RulC -/
set_option Elab.async false
set_option linter.all false
set_option maxRecDepth 100000
set_option maxHeartbeats 4000000
/-! Own rules: a star in targets; enumerate with a start; a set comprehension of ints. -/
namespace RF
open PySem PySem.Spec PyProof.Rows L2
/-! ### first, *others = a list -/
section
variable {prog : Program} {w : World} {A : Around} {E : Value → Shared → Prop} {s : Shared}
theorem walks_tail (hh : A.handled = none) (I ax : Addr) (hne : ax ≠ I) (items : Array Value) (h1 : 1 ≤ items.size) :
    PySem.WalksS prog w A I [I, ax] [I] (fun a b => a = b) (items.size - 1) (fun i v => items[i + 1]? = some v) (fun i s => s.heap.IsListIter I ax (i + 1) ∧ s.heap.IsList ax items) where
  sub := fun b hb => by simp at hb; simp [hb]
  grefl := fun _ => rfl
  gtrans := fun _ _ _ e1 e2 => e1.trans e2
  frame := fun _ _ _ _ st _ hk => ⟨st.1.at fun o e => hk I (by simp) o e, st.2.at fun o e => hk ax (by simp) o e⟩
  item := fun i s Q E hi st hQ => by
    have hi2 : i + 1 < items.size := by omega
    refine wpAny_pyNext_list_item st.1 st.2 (x := items[i + 1]) (by simp [hi2]) fun h' hit' hs' => ?_
    exact hQ _ { s with heap := h' } (by simp [hi2]) ⟨hit', st.2.extBut hs'.extBut hne⟩ ⟨fun b o hb e => hs'.extBut b o (fun h => hb (by simp [h])) e, rfl, rfl, rfl, Nat.le_refl _⟩
  done := fun s Q E st hQ => by
    have e : items.size - 1 + 1 = items.size := by omega
    have st1 := st.1
    rw [e] at st1
    exact wpAny_pyNext_list_end hh st1 st.2 (by simp) fun h' he' => hQ { s with heap := h' } ⟨fun b o hb e => he' b o (fun h => hb (by simp [h])) e, rfl, rfl, rfl, Nat.le_refl _⟩
  self := fun _ _ _ _ st hQ => wpAny_pyIter_listiter st.1 hQ
theorem items_eq {P : Nat → Value → Prop} {items : Array Value} {acc : Array Value} (h1 : 1 ≤ items.size) (h : ItemsOf (fun i v => items[i + 1]? = some v) acc (items.size - 1)) : acc.toList = items.toList.drop 1 := by
  obtain ⟨hs, hj⟩ := h
  refine List.ext_getElem? fun j => ?_
  rw [List.getElem?_drop]
  by_cases q : j < acc.size
  · have e1 : acc[j]? = some acc[j] := by simp [q]
    have e2 := hj j _ e1
    rw [Array.getElem?_toList, e1, Array.getElem?_toList, Nat.add_comm 1 j, e2]
  · rw [List.getElem?_eq_none (by simpa using q), List.getElem?_eq_none (by simp; omega)]
theorem star_items {l : Addr} {items : Array Value} {Q : List Value → Shared → Prop} (hh : A.handled = none) (hl : s.heap.IsList l items) (h1 : 1 ≤ items.size) (hz : items.size ≤ sizeLine)
    (hQ : ∀ (h2 : Heap) (tk : Nat), (∀ b o, s.heap.get? b = some o → h2.get? b = some o) →
      Q [items[0]'(by omega), .ref h2.objs.size] { s with heap := h2.push { cls := .type "list", data := .seq (items.toList.drop 1).toArray }, toks := tk }) : wpAny (model prog w) A (unpackItems (.ref l) 2 (some 1)) Q E s := by
  have hlt : l ≠ s.heap.objs.size := by obtain ⟨o, ho, _⟩ := hl; exact Nat.ne_of_lt (Heap.lt_size ho)
  unfold unpackItems
  refine wpAny_bind ?_
  unfold notIterableAtAll
  refine wpAny_bind (wpAny_specialOf hl.typeIs slot_list_iter.lookup ?_)
  refine wpAny_pure ?_
  simp only [Bool.false_eq_true, if_false]
  refine wpAny_bind (wpAny_holding (wpAny_pyIter_list hl ?_))
  refine wpAny_bind (wpAny_holding (PySem.W.kun_draw hlt 1 0 _ _ ⟨_, Heap.get?_push_size _ rfl, rfl, rfl⟩ (hl.push _) (by omega) fun h1' hit1 hs1 => ?_))
  have e1 : (items.toList.drop 0).take 1 = [items[0]'(by omega)] := by
    cases hI : items.toList with
    | nil => have : items.size = 0 := by rw [← Array.length_toList, hI]; rfl
             omega
    | cons x r =>
      have : items[0]'(by omega) = x := by
        have : items.toList[0]? = some x := by rw [hI]; rfl
        rw [Array.getElem?_toList] at this
        have h3 : items[0]? = some (items[0]'(by omega)) := by simp
        rw [h3] at this
        exact Option.some.inj this
      rw [this]; rfl
  rw [e1]
  rw [if_neg (by simp)]
  have hl1 : h1'.IsList l items := (hl.push _).extBut hs1.extBut hlt
  refine wpAny_bind (wpAny_holding ?_)
  refine wpAny_collect_iter (T := "list_iterator") (.inr (.inr (.inl rfl))) (walks_tail (prog := prog) (w := w) (A := A.in1) (by exact hh) s.heap.objs.size l hlt items h1) (fun i s st => by
    obtain ⟨⟨o, ho, hc, _⟩, _⟩ := st
    exact ⟨o, ho, hc⟩) ⟨hit1, hl1⟩ (fun b hb => by
      have : b = s.heap.objs.size ∨ b = l := by simpa using hb
      rcases this with z | z
      · rw [z]; obtain ⟨_, q, _⟩ := hit1; exact Heap.lt_size q
      · rw [z]; obtain ⟨_, q, _⟩ := hl1; exact Heap.lt_size q) (by simp) (fun s2 acc mv ac => ?_) (by omega)
  have ea := items_eq (P := fun i v => items[i + 1]? = some v) h1 ac
  have hlen : acc.toList.length = items.size - 1 := by rw [Array.length_toList]; exact ac.1
  rw [if_neg (by omega)]
  have tk : List.take (acc.toList.length - (2 - 1 - 1)) acc.toList = acc.toList := List.take_of_length_le (by omega)
  have dp : List.drop (acc.toList.length - (2 - 1 - 1)) acc.toList = [] := List.drop_eq_nil_of_le (by omega)
  rw [tk, dp]
  refine wpAny_bind (wpAny_newList ?_)
  refine wpAny_pure ?_
  obtain ⟨hp, g2, d2, t2, o2⟩ := s2
  obtain ⟨m1, m2, m3, m4, m5⟩ := mv
  have m2 : s.gens = g2 := m2
  have m3 : d2 = s.drawn := m3
  have m4 : o2 = s.os := m4
  subst m2 m3 m4
  rw [ea]
  exact hQ hp t2 fun b o e => m1 b o (by simp; exact Nat.ne_of_lt (Heap.lt_size e)) (hs1.extBut b o (Nat.ne_of_lt (Heap.lt_size e)) (Heap.get?_push_of_some _ e))
end
section
variable {X : Cx} {pos sp : Pos}
def gStar (K : PySem.W.Frag) (t : TGs) : TG := fun v σ H Q => ∃ a x xs, v = .ref a ∧ SqL K H a (x :: xs) ∧ ∀ p, H p = none → t [x, .ref p] σ (upd H p (.lst xs)) Q
theorem pg_starT {a b : Expr} {k : Nat} {t : TGs} (hc : X.calm = true) (h : PGs X [a, b] t) (hst : (assignEach [a, .Starred b sp] X.env).length = 2 := by rfl) (hs : (assignEach [a, .Starred b sp] X.env).findIdx? (·.1) = some 1 := by rfl)
    (he : (assignEach [a, .Starred b sp] X.env).map (·.2) = (assignEach [a, b] X.env).map (·.2) := by rfl) : PG X (.Tuple [a, .Starred b sp] k pos) (gStar X.K t) := by
  refine ⟨fun pins s σ H v u Q I r hw => ?_⟩
  obtain ⟨l, x, xs, e1, hq, hw⟩ := hw
  subst e1
  cases r
  obtain ⟨its, rv, pl, hz⟩ := I.list hq
  have hl' : s.heap.IsList l its.toArray := by
    obtain ⟨o, m, e, c, d, q⟩ := pl
    exact ⟨o, e, c, m, q⟩
  rw [PyProof.Rows.assign_Tuple]
  refine wpAny_bind (wpAny_standAt ?_)
  unfold unpack
  rw [hst, hs, he]
  have hlen := rv.length
  rw [List.length_cons] at hlen hz
  refine wpAny_bind (wpAny_holding (star_items (I.ok.hd hc) hl' (by simp; omega) (by simp; omega) fun h2 tk kp => ?_))
  have I1 : Inv X pins σ H { s with heap := h2, toks := tk } := I.kept kp
  have hf : H h2.objs.size = none := I1.hok.fresh (Nat.le_refl _)
  cases rv with
  | @cons _ u _ us r rr =>
    have I2 : Inv X pins σ (upd H h2.objs.size (.lst xs)) { s with heap := h2.push { cls := .type "list", data := .seq us.toArray }, toks := tk } :=
      I1.laid (t' := tk) (fun b o e => Heap.get?_push_of_some _ e) (Nat.le_refl _) ⟨by omega, us, 0, rr, Heap.get?_push_size _ rfl⟩
    refine h.run pins _ σ _ [x, .ref h2.objs.size] _ Q I2 (.cons r (.cons rfl .nil)) (hw _ hf)
end
section
variable {X : Cx} {K : PySem.W.Frag} {pos sp : Pos}
theorem pg_starTK {a b : Expr} {k : Nat} {t : TGs} (h : X.K = K) (hc : X.calm = true) (hp : PGs X [a, b] t) (hst : (assignEach [a, .Starred b sp] X.env).length = 2 := by rfl) (hs : (assignEach [a, .Starred b sp] X.env).findIdx? (·.1) = some 1 := by rfl)
    (he : (assignEach [a, .Starred b sp] X.env).map (·.2) = (assignEach [a, b] X.env).map (·.2) := by rfl) : PG X (.Tuple [a, .Starred b sp] k pos) (gStar K t) := by subst h; exact pg_starT hc hp hst hs he
end
end RF
/-! ## MthB -/
/-! Chains as rows. -/
namespace RF
def rowOf (rs : List Rp) (k : Int) : Rp := (rs[k.toNat]?).getD (0, 0, 0)
def InR (rs : List Rp) (c : List Int) : Prop := ∀ k ∈ c, 0 ≤ k ∧ k ≤ (rs.length : Int) - 1
def consec : List Rp → Prop
  | r :: r2 :: t => r.2.1 = r2.1 ∧ consec (r2 :: t)
  | _ => True
def CC : Int → List Rp → Int → Prop
  | u, [], l => u = l
  | u, r :: t, l => r.1 = u ∧ CC r.2.1 t l
def lastL (r : Rp) (t : List Rp) : Int := (t.getLast?.getD r).2.1
theorem cc_iff : ∀ (t : List Rp) (r : Rp) (u l : Int), CC u (r :: t) l ↔ r.1 = u ∧ consec (r :: t) ∧ lastL r t = l
  | [], r, u, l => by simp [CC, consec, lastL]
  | r2 :: t, r, u, l => by
    have ih := cc_iff t r2 r.2.1 l
    have e : lastL r (r2 :: t) = lastL r2 t := by
      unfold lastL
      cases t with
      | nil => rfl
      | cons r3 t => rw [List.getLast?_cons_cons, List.getLast?_cons]; rfl
    rw [show CC u (r :: r2 :: t) l ↔ r.1 = u ∧ CC r.2.1 (r2 :: t) l from Iff.rfl, ih, e]
    show _ ↔ r.1 = u ∧ (r.2.1 = r2.1 ∧ consec (r2 :: t)) ∧ _
    constructor
    · rintro ⟨a, b, c, d⟩
      exact ⟨a, ⟨b.symm, c⟩, d⟩
    · rintro ⟨a, ⟨b, c⟩, d⟩
      exact ⟨a, b.symm, c, d⟩
theorem row_get {rs : List Rp} {k : Int} (h0 : 0 ≤ k) (h1 : k ≤ (rs.length : Int) - 1) : rs[k.toNat]? = some (rowOf rs k) := by
  have hl : k.toNat < rs.length := by omega
  unfold rowOf
  rw [List.getElem?_eq_getElem hl]
  rfl
theorem ch_rows {rs : List Rp} : ∀ (c : List Int) (u l : Int), ChOk rs u c l ↔ InR rs c ∧ CC u (c.map (rowOf rs)) l
  | [], u, l => by simp [ChOk, CC, InR]
  | k :: c, u, l => by
    have ih := fun u => ch_rows (rs := rs) c u l
    constructor
    · rintro ⟨r, h0, hk, e, h⟩
      have hl : k.toNat < rs.length := (List.getElem?_eq_some_iff.mp hk).1
      obtain ⟨i1, i2⟩ := (ih _).mp h
      have er : rowOf rs k = r := by unfold rowOf; rw [hk]; rfl
      refine ⟨fun j hj => ?_, ?_⟩
      · rcases List.mem_cons.mp hj with rfl | hj
        · omega
        · exact i1 j hj
      · show (rowOf rs k).1 = u ∧ CC (rowOf rs k).2.1 (c.map (rowOf rs)) l
        rw [er]
        exact ⟨e, i2⟩
    · rintro ⟨h1, h2⟩
      have hk := h1 k (by simp)
      obtain ⟨e, h⟩ := (show (rowOf rs k).1 = u ∧ CC (rowOf rs k).2.1 (c.map (rowOf rs)) l from h2)
      exact ⟨rowOf rs k, hk.1, row_get hk.1 hk.2, e, (ih _).mpr ⟨fun j hj => h1 j (List.mem_cons_of_mem _ hj), h⟩⟩
/-- a chain of the rig -/
def IsCh (rs : List Rp) (c : List Int) : Prop := c ≠ [] ∧ InR rs c ∧ consec (c.map (rowOf rs))
theorem consec_at : ∀ {t : List Rp}, consec t ↔ ∀ (i : Nat) (r r2 : Rp), t[i]? = some r → t[i + 1]? = some r2 → r.2.1 = r2.1
  | [] => by simp [consec]
  | [r] => by
    refine ⟨fun _ i a b h1 h2 => by simp at h2, fun _ => trivial⟩
  | r :: r2 :: t => by
    have ih := consec_at (t := r2 :: t)
    constructor
    · rintro ⟨e, h⟩ i a b h1 h2
      cases i with
      | zero =>
        have h1 : some r = some a := h1
        have h2 : some r2 = some b := h2
        cases h1; cases h2
        exact e
      | succ i => exact ih.mp h i a b h1 h2
    · intro h
      exact ⟨h 0 r r2 rfl rfl, ih.mpr fun i a b h1 h2 => h (i + 1) a b h1 h2⟩
theorem chSum_rows (rs : List Rp) : ∀ c : List Int, chSum rs c = (c.map fun k => (rowOf rs k).2.2).sum
  | [] => rfl
  | k :: c => by
    rw [List.map_cons, List.sum_cons, ← chSum_rows rs c]
    rfl
theorem isCh_of {rs : List Rp} {c : List Int} {u l : Int} (h : ChOk rs u c l) (hc : c ≠ []) : IsCh rs c := by
  obtain ⟨h1, h2⟩ := (ch_rows c u l).mp h
  refine ⟨hc, h1, ?_⟩
  cases c with
  | nil => exact absurd rfl hc
  | cons k c => exact ((cc_iff _ _ _ _).mp h2).2.1
/-- a chain of the rig that leads from u to l -/
theorem leads_iff {rs : List Rp} {c : List Int} {k : Int} {t : List Int} (e : c = k :: t) (h : IsCh rs c) (u l : Int) : ((rowOf rs k).1 = u ∧ lastL (rowOf rs k) (t.map (rowOf rs)) = l) ↔ ChOk rs u c l := by
  subst e
  rw [ch_rows, List.map_cons, cc_iff]
  constructor
  · rintro ⟨a, b⟩
    exact ⟨h.2.1, a, h.2.2, b⟩
  · rintro ⟨_, a, _, b⟩
    exact ⟨a, b⟩
end RF
/-! ## A1 -/
set_option Elab.async false
set_option linter.all false
set_option maxRecDepth 100000
set_option maxHeartbeats 4000000
namespace RF
open PySem PySem.Spec PyProof.Rows L2
section
variable {P : Program} {w : World} {K : PySem.W.Frag} {mg : Str → Option Value} {base : Heap}
def sp_is_whole (K : PySem.W.Frag) : Sp := fun vs H Q _ => ∃ i : Int, vs = [.int i] ∧ Q (.bl true) H
abbrev N_is_whole : List Str := ["thing"]
theorem sc_is_whole : FnScope N_is_whole ["thing"] (defScope s_is_whole) := ⟨rfl, rfl, rfl, by decide +kernel, rfl, by decide +kernel, by decide +kernel⟩
theorem ok_is_whole (T : TX K mg) : Okd P w K mg base 1 "is_whole" ["thing"] (sp_is_whole K) := by
  obtain ⟨fd, F⟩ := T.d_is_whole
  refine okd_of F T.g_is_whole sc_is_whole (fun _ _ _ _ _ _ us hl => match us, hl with | [_], _ => rfl) ?_ ?_
  · rintro vs H Q E ⟨i, rfl, _⟩; rfl
  · rintro cdv A outer s H vs Q E hr ⟨i, rfl, q⟩
    refine ⟨_, (pss_one (ps_ret (pe_and (pe_callB (call_isiK2 (K := K) rfl) (by rfl) T.b_isinstance bt_isinstance (pa_cons (pv 0) (pa_cons (pe_bltn (v := .ty "int") (by rfl) T.b_int bt_int rfl) pa_nil))) (pe_one (pe_not (pe_callB (call_isiK2 (K := K) rfl) (by rfl) T.b_isinstance bt_isinstance (pa_cons (pv 0) (pa_cons (pe_bltn (v := .ty "bool") (by rfl) T.b_bool bt_bool rfl) pa_nil)))))))), ?_⟩
    refine ⟨_, rfl, _, .ty "int", .type "int", .type "int", _, rfl, .ty _, .base (.int _), kit_ty (by decide +kernel), true, rfl, ?_⟩
    refine iteT ?_
    exact ⟨_, rfl, _, .ty "bool", .type "int", .type "bool", _, rfl, .ty _, .base (.int _), kit_ty (r := false) (by decide +kernel), false, rfl, q⟩
def sp_is_within (K : PySem.W.Frag) : Sp := fun vs H Q _ => ∃ i lo hi : Int, vs = [.int i, .int lo, .int hi] ∧ Q (.bl (decide (lo ≤ i ∧ i ≤ hi))) H
abbrev N_is_within : List Str := ["thing", "least", "most"]
theorem sc_is_within : FnScope N_is_within ["thing", "least", "most"] (defScope s_is_within) := ⟨rfl, rfl, rfl, by decide +kernel, rfl, by decide +kernel, by decide +kernel⟩
theorem ok_is_within (T : TX K mg) : Okd P w K mg base 2 "is_within" ["thing", "least", "most"] (sp_is_within K) := by
  obtain ⟨fd, F⟩ := T.d_is_within
  refine okd_of F T.g_is_within sc_is_within (fun _ _ _ _ _ _ us hl => match us, hl with | [_, _, _], _ => rfl) ?_ ?_
  · rintro vs H Q E ⟨i, lo, hi, rfl, _⟩; rfl
  · rintro cdv A outer s H vs Q E hr ⟨i, lo, hi, rfl, q⟩
    refine ⟨_, (pss_one (ps_ret (pe_and (pe_callD (ok_is_whole T) hr (by decide) (by rfl) (pa_cons (pv 0) pa_nil)) (pe_one (pe_chain op_le op_le (pv 1) (pv 0) (pv 2)))))), ?_⟩
    refine ⟨_, rfl, i, rfl, true, rfl, iteT ?_⟩
    refine ⟨_, rfl, _, rfl, _, _, rfl, rfl, _, rfl, ?_⟩
    refine ite2 (fun h1 => ?_) (fun h1 => ?_)
    · refine ⟨_, rfl, _, _, rfl, rfl, ?_⟩
      have h1 : lo ≤ i := of_decide_eq_true h1
      simpa [h1] using q
    · have h1 : ¬ lo ≤ i := fun z => h1 (decide_eq_true z)
      simpa [h1] using q
end
end RF
/-! ## A2 -/
set_option Elab.async false
set_option linter.all false
set_option maxRecDepth 100000
set_option maxHeartbeats 4000000
namespace RF
open PySem PySem.Spec PyProof.Rows L2
section
variable {P : Program} {w : World} {K : PySem.W.Frag} {mg : Str → Option Value} {base : Heap}
def sp_are_wholes (K : PySem.W.Frag) : Sp := fun vs H Q _ => ∃ (a : Addr) (ns : List Int) (m : Int), vs = [.ref a, .int m] ∧ H a = some (.lst (ns.map V.int)) ∧ ns.length ≤ 1000 ∧ ∀ H', Same H H' → Q (.bl (decide ((ns.length : Int) = m))) H'
abbrev N_are_wholes : List Str := ["thing", "many", "one"]
theorem sc_are_wholes : FnScope N_are_wholes ["thing", "many"] (defScope s_are_wholes) := ⟨rfl, rfl, rfl, by decide +kernel, rfl, by decide +kernel, by decide +kernel⟩
theorem ok_are_wholes (T : TX K mg) : Okd P w K mg base 2 "are_wholes" ["thing", "many"] (sp_are_wholes K) := by
  obtain ⟨fd, F⟩ := T.d_are_wholes
  refine okd_of F T.g_are_wholes sc_are_wholes (fun _ _ _ _ _ _ us hl => match us, hl with | [_, _], _ => rfl) ?_ ?_
  · rintro vs H Q E ⟨a, ns, m, rfl, _⟩; rfl
  · rintro cdv A outer s H vs Q E hr ⟨a, ns, m, rfl, ha, hl, q⟩
    refine ⟨_, (pss_one (ps_ret (pe_and (pe_callB (call_isiK2 (K := K) rfl) (by rfl) T.b_isinstance bt_isinstance (pa_cons (pv 0) (pa_cons (pe_bltn (v := .ty "list") (by rfl) T.b_list bt_list rfl) pa_nil))) (pe_and (pe_cmpR op_eq (pe_callB (call_len_seqK (K := K) rfl) (by rfl) T.b_len bt_len (pa_cons (pv 0) pa_nil)) (pv 1) (nomark _)) (pe_one (pe_callB (cr_allK (K := K) rfl rfl) (by rfl) T.b_all bt_all (pa_cons (pe_lc (own := [("one", 2)]) (g := gName 2) rfl (sc_are_wholes).nd (pi_listK (K := K) rfl (pv 0)) (blkOk_by (N := N_are_wholes) (sc := defScope s_are_wholes) (own := [("one", 2)]) (by decide +kernel)) (fun _ _ _ _ _ => (pg_name (i := 2) (sc_are_wholes).nd rfl (.inl rfl))) (fun _ _ _ _ _ => pts_nil) (fun _ _ _ _ _ => (pe_callD (ok_is_whole T) hr (by decide) (by rfl) (pa_cons (pv 2) pa_nil)))) pa_nil))))))), ?_⟩
    refine ⟨_, rfl, _, .ty "list", .type "list", .type "list", _, rfl, .ty _, .base (.lst (ha)), kt_ll, true, rfl, iteT ?_⟩
    refine ⟨_, rfl, a, _, rfl, .inl (SqL.of ha), _, rfl, rfl, _, rfl, ?_⟩
    rw [List.length_map]
    refine ite2 (fun e => ?_) (fun e => ?_)
    · have e : (ns.length : Int) = m := V.int.inj (of_decide_eq_true e)
      refine ⟨_, rfl, a, rfl, ⟨_, SqL.of ha⟩, fun D hD => ?_⟩
      refine lc_gen (n := ns.length) (fun i => (ns[i]?).map fun _ => V.bl true) (Nat.le_trans hl (by decide)) hD (fun i H' hi sm => ⟨_, _, SqL.of (sm _ _ ha), get_map2 (List.getElem?_eq_getElem hi)⟩) (fun H' sm => ⟨_, SqL.of (sm _ _ ha), by rw [List.length_map]; exact Nat.le_refl _⟩) (fun i x H1 H2 Qt Qf hi sm y k1 k2 => ?_) (fun H' sm hd => ?_)
      · obtain ⟨rfl, y⟩ := y
        have ex := y _ (SqL.of (sm _ _ ha))
        obtain ⟨z, hz, rfl⟩ := get_map ex
        refine ⟨rfl, _, rfl, z, rfl, k1 _ _ (by rw [hz]; rfl) (Same.refl _)⟩
      · rw [range_map] at hd
        refine ⟨D, ns.map fun _ => true, rfl, SqL.of (by rw [hd, List.map_map]; rfl), ?_⟩
        have e2 : (ns.map fun _ => true).all id = decide ((ns.length : Int) = m) := by
          rw [decide_eq_true e]
          simp
        rw [e2]
        exact q _ sm
    · have e : ¬ (ns.length : Int) = m := fun z => e (decide_eq_true (by rw [z]))
      have h := q H (Same.refl _)
      rw [decide_eq_false e] at h
      exact h
def sp_is_rope (K : PySem.W.Frag) : Sp := fun vs H Q _ => ∃ (a : Addr) (r : Rp) (n : Nat), vs = [.ref a, .int n] ∧ H a = some (.tup (rV r)) ∧ Kn n r.1 ∧ Kn n r.2.1 ∧ r.1 ≠ r.2.1 ∧ Q (.bl true) H
abbrev N_is_rope : List Str := ["thing", "many", "upper", "lower", "most"]
theorem sc_is_rope : FnScope N_is_rope ["thing", "many"] (defScope s_is_rope) := ⟨rfl, rfl, rfl, by decide +kernel, rfl, by decide +kernel, by decide +kernel⟩
theorem ok_is_rope (T : TX K mg) : Okd P w K mg base 3 "is_rope" ["thing", "many"] (sp_is_rope K) := by
  obtain ⟨fd, F⟩ := T.d_is_rope
  refine okd_of F T.g_is_rope sc_is_rope (fun _ _ _ _ _ _ us hl => match us, hl with | [_, _], _ => rfl) ?_ ?_
  · rintro vs H Q E ⟨a, r, n, rfl, _⟩; rfl
  · rintro cdv A outer s H vs Q E hr ⟨a, ⟨u, l, m⟩, n, rfl, ha, hu, hl, hn, q⟩
    refine ⟨_, (pss_cons (ps_if (PW.pt (pw_or (pt_not (pt_val (pe_callB (call_isiK2 (K := K) rfl) (by rfl) T.b_isinstance bt_isinstance (pa_cons (pv 0) (pa_cons (pe_bltn (v := .ty "tuple") (by rfl) T.b_tuple bt_tuple rfl) pa_nil))))) (pw_or1 (pt_cmpR op_ne (pe_callB (call_len_seqK (K := K) rfl) (by rfl) T.b_len bt_len (pa_cons (pv 0) pa_nil)) pe_int (nomark _))))) (pss_one (ps_ret pe_bl)) pss_nil)
  (pss_cons (ps_asg (pv 0) (pg_tupK (K := K) rfl rfl (pgs_cons (pg_name (i := 2) (sc_is_rope).nd rfl (.inl rfl)) (pgs_cons (pg_name (i := 3) (sc_is_rope).nd rfl (.inl rfl)) (pgs_cons (pg_name (i := 4) (sc_is_rope).nd rfl (.inl rfl)) pgs_nil)))))
  (pss_cons (ps_if (PW.pt (pw_or (pt_not (pt_val (pe_callD (ok_is_within T) hr (by decide) (by rfl) (pa_cons (pv 2) (pa_cons pe_int (pa_cons (pv 1) pa_nil)))))) (pw_or1 (pt_not (pt_val (pe_callD (ok_is_within T) hr (by decide) (by rfl) (pa_cons (pv 3) (pa_cons pe_int (pa_cons (pv 1) pa_nil))))))))) (pss_one (ps_ret pe_bl)) pss_nil)
  (pss_one (ps_ret (pe_and (pe_cmpR op_ne (pv 2) (pv 3) (nomark _)) (pe_one (pe_callD (ok_is_whole T) hr (by decide) (by rfl) (pa_cons (pv 4) pa_nil))))))))), ?_⟩
    refine ⟨_, rfl, _, .ty "tuple", .type "tuple", .type "tuple", _, rfl, .ty _, .base (.tup (ha)), kt_tt, true, rfl, iteF ?_⟩
    refine ⟨_, rfl, a, _, rfl, .inr (SqT.of ha), rfl, false, rfl, iteF ?_⟩
    refine ⟨_, rfl, a, _, rfl, SqT.of ha, rfl, _, _, rfl, _, _, rfl, _, _, rfl, rfl, ?_⟩
    refine ⟨_, rfl, _, rfl, u, 0, n, rfl, _, rfl, ?_⟩
    rw [decide_eq_true (show 0 ≤ u ∧ u ≤ (n : Int) from hu)]
    refine iteF ⟨_, rfl, _, rfl, l, 0, n, rfl, _, rfl, ?_⟩
    rw [decide_eq_true (show 0 ≤ l ∧ l ≤ (n : Int) from hl)]
    refine iteF ⟨_, rfl, _, rfl, rfl, _, rfl, ?_⟩
    rw [decide_eq_false (fun z => hn (V.int.inj z))]
    exact ⟨_, rfl, m, rfl, q⟩
def sp_look_at_ropes (K : PySem.W.Frag) : Sp := fun vs H Q _ => ∃ (a : Addr) (as : List Addr) (rs : List Rp) (n : Nat), vs = [.ref a, .int n, .int 0] ∧ H a = some (.lst (as.map V.ref)) ∧ TupsAt H as (rs.map rV) ∧ WfR n rs ∧ rs.length ≤ 60 ∧ ∀ H', Same H H' → Q .non H'
end
end RF
/-! ## A3 -/
set_option Elab.async false
set_option linter.all false
set_option maxRecDepth 100000
set_option maxHeartbeats 4000000
namespace RF
open PySem PySem.Spec PyProof.Rows L2
section
variable {P : Program} {w : World} {K : PySem.W.Frag} {mg : Str → Option Value} {base : Heap}
abbrev N_look_at_ropes : List Str := ["ropes", "many", "others", "rope"]
theorem sc_look_at_ropes : FnScope N_look_at_ropes ["ropes", "many", "others"] (defScope s_look_at_ropes) := ⟨rfl, rfl, rfl, by decide +kernel, rfl, by decide +kernel, by decide +kernel⟩
theorem ok_look_at_ropes (T : TX K mg) : OkdD P w K mg base 4 "look_at_ropes" ["ropes", "many", "others"] [.int 0] (sp_look_at_ropes K) := by
  obtain ⟨fd, F⟩ := T.d_look_at_ropes
  obtain ⟨ds, r, b⟩ := FunD.binds1 F 2 0 (List.cons_ne_nil _ _) rfl (ps := ["ropes", "many", "others"]) (fun T kV doc pm an cdv ct us its hu hi => match us, hu, its, hi with | [_, _], _, [_], _ => ⟨_, rfl, rfl⟩)
  refine ⟨_, fd, ds, F.ok sc_look_at_ropes (k := 3) ?_ ?_, T.g_look_at_ropes, F.kp, b, r⟩
  · rintro vs H Q E ⟨a, as, rs, n, rfl, _⟩; rfl
  · rintro cdv A outer s H vs Q E hr ⟨a, as, rs, n, rfl, ha, ht, hw, hl, q⟩
    refine ⟨_, PSs.nox (pss_cons (ps_if (pt_not (pt_val (pe_callB (call_isiTK (K := K) rfl) (by rfl) T.b_isinstance bt_isinstance (pa_cons (pv 0) (pa_cons (pe_tup (pa_cons (pe_bltn (v := .ty "list") (by rfl) T.b_list bt_list rfl) (pa_cons (pe_bltn (v := .ty "tuple") (by rfl) T.b_tuple bt_tuple rfl) pa_nil))) pa_nil))))) (pss_one ps_never) pss_nil)
  (pss_cons (ps_for PassesOwn.never rfl (pi_listK (K := K) rfl (pv 0)) (pg_name (i := 3) (sc_look_at_ropes).nd rfl (.inl rfl)) (pss_one (ps_if (pt_not (pt_val (pe_callD (ok_is_rope T) hr (by decide) (by rfl) (pa_cons (pv 3) (pa_cons (pv 1) pa_nil))))) (pss_one ps_never) pss_nil)))
  (pss_one (ps_if (pt_cmpR op_gt (pe_op op_add (pv 2) (pe_callB (call_len_seqK (K := K) rfl) (by rfl) T.b_len bt_len (pa_cons (pv 0) pa_nil))) (pe_glob (v := .int 60) (by rfl) T.i_MOST_ROPES.choose_spec ⟨_, rfl⟩) (nomark _)) (pss_one ps_never) pss_nil)))), ?_⟩
    refine ⟨_, rfl, by decide, fun p hp => ?_⟩
    have s1 : Same H (upd H p (.tup [.ty "list", .ty "tuple"])) := same_upd hp
    refine ⟨_, _, _, .type "list", [.type "list", .type "tuple"], _, rfl, upd_same, .cons (.ty _) (.cons (.ty _) .nil), .base (.lst (s1 _ _ ha)), kt_lt, true, rfl, iteF ?_⟩
    refine ⟨_, rfl, a, rfl, ⟨_, SqL.of (s1 _ _ ha)⟩, for_list (K := K) (a := a) (xs := as.map V.ref) (fun i σ H' => ∃ v, σ = [some (.ref a), some (.int n), some (.int 0), v] ∧ Same H H') ⟨_, rfl, s1⟩ (fun i σ H' _ ⟨_, _, s2⟩ => SqL.of (s2 _ _ ha)) ?_ ?_⟩
    · rintro i x σ H' hx ⟨v, rfl, s2⟩
      obtain ⟨b, hb, rfl⟩ := get_map hx
      obtain ⟨y, hy, hb2⟩ := (ht.same s2).at_ hb
      obtain ⟨r, hr2, rfl⟩ := get_map hy
      have hw := hw r (List.mem_of_getElem? hr2)
      refine ⟨_, rfl, _, rfl, b, r, n, rfl, hb2, hw.1, hw.2.1, hw.2.2, ?_⟩
      exact ⟨_, rfl, _, rfl, s2⟩
    · rintro σ H' ⟨v, rfl, s2⟩
      refine ⟨_, rfl, _, rfl, a, _, rfl, .inl (SqL.of (s2 _ _ ha)), _, _, rfl, rfl, _, _, rfl, rfl, _, rfl, ?_⟩
      have e : decide ((60 : Int) < 0 + ((as.map V.ref).length : Nat)) = false := decide_eq_false (by rw [List.length_map, ht.1, List.length_map]; omega)
      rw [e]
      exact q H' s2
def sp_Rig_init (K : PySem.W.Frag) : Sp := fun vs H Q _ => ∃ (g dx a : Addr) (as : List Addr) (rs : List Rp) (n : Nat), vs = [.ref g, .int n, .ref a] ∧ H g = some (.ins (He.ga K "Rig") dx []) ∧ H a = some (.lst (as.map V.ref)) ∧ TupsAt H as (rs.map rV) ∧ WfR n rs ∧ rs.length ≤ 60 ∧ 1 ≤ n ∧ n ≤ 8 ∧
  ∀ H', (∀ b o, b ≠ g → H b = some o → H' b = some o) → RigA K H' g n rs → Q .non H'
abbrev N_Rig_init : List Str := ["self", "many", "ropes"]
theorem sc_Rig_init : FnScope N_Rig_init ["self", "many", "ropes"] (defScope s_Rig_init) := ⟨rfl, rfl, rfl, by decide +kernel, rfl, by decide +kernel, by decide +kernel⟩
theorem ok_Rig_init (T : TX K mg) : Oki P w K mg base 5 "Rig" (He.ga K "Rig") ["self", "many", "ropes"] (sp_Rig_init K) := by
  obtain ⟨fd, F⟩ := T.d_Rig_init
  obtain ⟨ds, r, b⟩ := FunD.binds1 F 3 1 (List.cons_ne_nil _ _) rfl (ps := ["self", "many", "ropes"]) (fun T kV doc pm an cdv ct us its hu hi => match us, hu, its, hi with | [_, _, _], _, [_], _ => ⟨_, rfl, rfl⟩)
  have e : ds = [] := by cases r; rfl
  subst e
  refine ⟨_, fd, F.ok sc_Rig_init (k := 4) ?_ ?_, T.c_Rig, T.mkr_Rig, b⟩
  · rintro vs H Q E ⟨g, dx, a, as, rs, n, rfl, _⟩; rfl
  · rintro cdv A outer s H vs Q E hr ⟨g, dx, a, as, rs, n, rfl, hg, ha, ht, hw, hl, h1, h8, q⟩
    refine ⟨_, PSs.nox (pss_cons (ps_if (pt_not (pt_val (pe_callD (ok_is_within T) hr (by decide) (by rfl) (pa_cons (pv 1) (pa_cons pe_int (pa_cons (pe_glob (v := .int 8) (by rfl) T.i_MOST_CLIMBERS.choose_spec ⟨_, rfl⟩) pa_nil)))))) (pss_one ps_never) pss_nil)
  (pss_cons (ps_expr (pe_callDf (ok_look_at_ropes T) hr (by decide) (by rfl) (pa_cons (pv 2) (pa_cons (pv 1) pa_nil))))
  (pss_cons (ps_fld (pv 0) (pv 1) rfl)
  (pss_one (ps_fld (pv 0) (pe_callTy (call_tuple_ofK (K := K) rfl) (by rfl) T.b_tuple bt_tuple (pa_cons (pv 2) pa_nil)) rfl))))), ?_⟩
    refine ⟨_, rfl, n, 1, 8, rfl, _, rfl, ?_⟩
    rw [decide_eq_true (show (1 : Int) ≤ n ∧ (n : Int) ≤ 8 by omega)]
    refine ⟨_, rfl, _, rfl, a, as, rs, n, rfl, ha, ht, hw, hl, fun H1 s1 => ?_⟩
    refine ⟨_, rfl, _, rfl, g, _, dx, _, rfl, s1 _ _ hg, T.cls_Rig, T.n_Rig_own_many, (by decide), ?_⟩
    have hga : g ≠ a := ne_of hg ha (by intro z; cases z)
    have ha2 : (upd H1 g (.ins (He.ga K "Rig") dx (putF "own_many" (.int n) []))) a = some (.lst (as.map V.ref)) := by rw [upd_ne hga.symm]; exact s1 _ _ ha
    refine ⟨_, rfl, a, _, rfl, .inl ⟨SqL.of ha2, fun t ht0 => ?_⟩⟩
    have hgt : g ≠ t := ne_of_none upd_same ht0
    refine ⟨_, rfl, g, _, dx, _, rfl, (by rw [upd_ne hgt]; exact upd_same), T.cls_Rig, T.n_Rig_own_ropes, Nat.lt_of_le_of_lt (putF_len _ _ _) (by decide), ?_⟩
    have k1 : ∀ b o, b ≠ g → H b = some o → (upd (upd (upd H1 g (.ins (He.ga K "Rig") dx (putF "own_many" (.int n) []))) t (.tup (as.map V.ref))) g (.ins (He.ga K "Rig") dx (putF "own_ropes" (.ref t) (putF "own_many" (.int n) [])))) b = some o := fun b o hb e => by
      have hbt : b ≠ t := by
        refine ne_of_none (H := upd H1 g (.ins (He.ga K "Rig") dx (putF "own_many" (.int n) []))) (o := o) ?_ ht0
        rw [upd_ne hb]; exact s1 _ _ e
      rw [upd_ne hb, upd_ne hbt, upd_ne hb]
      exact s1 _ _ e
    refine q _ k1 ⟨dx, t, as, upd_same, ?_, ht.1, fun i b x e1 e2 => k1 _ _ ?_ (ht.2 i b x e1 e2)⟩
    · rw [upd_ne hgt.symm, upd_same]
    · exact (ne_of hg (ht.2 i b x e1 e2) (by intro z; cases z)).symm
end
end RF
/-! ## A4 -/
set_option Elab.async false
set_option linter.all false
set_option maxRecDepth 100000
set_option maxHeartbeats 4000000
namespace RF
open PySem PySem.Spec PyProof.Rows L2
section
variable {P : Program} {w : World} {K : PySem.W.Frag} {mg : Str → Option Value} {base : Heap}
def sp_Rig_many (K : PySem.W.Frag) : Sp := fun vs H Q _ => ∃ (g : Addr) (n : Nat) (rs : List Rp), vs = [.ref g] ∧ RigA K H g n rs ∧ Q (.int n) H
abbrev N_Rig_many : List Str := ["self"]
theorem sc_Rig_many : FnScope N_Rig_many ["self"] (defScope s_Rig_many) := ⟨rfl, rfl, rfl, by decide +kernel, rfl, by decide +kernel, by decide +kernel⟩
theorem ok_Rig_many (T : TX K mg) : Okm P w K mg base 1 (He.ga K "Rig") "many" ["self"] (sp_Rig_many K) := by
  obtain ⟨fd, F⟩ := T.d_Rig_many
  refine okm_of F T.m_Rig_many sc_Rig_many (fun _ _ _ _ _ _ us hl => match us, hl with | [_], _ => rfl) ?_ ?_
  · rintro vs H Q E ⟨g, n, rs, rfl, _⟩; rfl
  · rintro cdv A outer s H vs Q E hr ⟨g, n, rs, rfl, ⟨dx, t, as, hg, ht, hts⟩, q⟩
    refine ⟨_, (pss_one (ps_ret (pe_fld (pv 0) rfl))), ?_⟩
    exact ⟨_, rfl, g, _, dx, _, _, rfl, hg, T.cls_Rig, T.n_Rig_own_many, rigF_many _ _, q⟩
def sp_Rig_ropes (K : PySem.W.Frag) : Sp := fun vs H Q _ => ∃ (g : Addr) (n : Nat) (rs : List Rp), vs = [.ref g] ∧ RigA K H g n rs ∧ ∀ p as, H p = none → TupsAt H as (rs.map rV) → Q (.ref p) (upd H p (.lst (as.map V.ref)))
abbrev N_Rig_ropes : List Str := ["self"]
theorem sc_Rig_ropes : FnScope N_Rig_ropes ["self"] (defScope s_Rig_ropes) := ⟨rfl, rfl, rfl, by decide +kernel, rfl, by decide +kernel, by decide +kernel⟩
theorem ok_Rig_ropes (T : TX K mg) : Okm P w K mg base 1 (He.ga K "Rig") "ropes" ["self"] (sp_Rig_ropes K) := by
  obtain ⟨fd, F⟩ := T.d_Rig_ropes
  refine okm_of F T.m_Rig_ropes sc_Rig_ropes (fun _ _ _ _ _ _ us hl => match us, hl with | [_], _ => rfl) ?_ ?_
  · rintro vs H Q E ⟨g, n, rs, rfl, _⟩; rfl
  · rintro cdv A outer s H vs Q E hr ⟨g, n, rs, rfl, ⟨dx, t, as, hg, ht, hts⟩, q⟩
    refine ⟨_, (pss_one (ps_ret (pe_callTy (call_list_ofK (K := K) rfl) (by rfl) T.b_list bt_list (pa_cons (pe_fld (pv 0) rfl) pa_nil)))), ?_⟩
    exact ⟨_, rfl, g, _, dx, _, _, rfl, hg, T.cls_Rig, T.n_Rig_own_ropes, rigF_ropes _ _, t, _, rfl, .inr (SqT.of ht), fun l hl => q l as hl hts⟩
def sp_Rig_len (K : PySem.W.Frag) : Sp := fun vs H Q _ => ∃ (g : Addr) (n : Nat) (rs : List Rp), vs = [.ref g] ∧ RigA K H g n rs ∧ Q (.int rs.length) H
abbrev N_Rig_len : List Str := ["self"]
theorem sc_Rig_len : FnScope N_Rig_len ["self"] (defScope s_Rig_len) := ⟨rfl, rfl, rfl, by decide +kernel, rfl, by decide +kernel, by decide +kernel⟩
theorem ok_Rig_len (T : TX K mg) : Okm P w K mg base 1 (He.ga K "Rig") "__len__" ["self"] (sp_Rig_len K) := by
  obtain ⟨fd, F⟩ := T.d_Rig_len
  refine okm_of F T.m_Rig_len sc_Rig_len (fun _ _ _ _ _ _ us hl => match us, hl with | [_], _ => rfl) ?_ ?_
  · rintro vs H Q E ⟨g, n, rs, rfl, _⟩; rfl
  · rintro cdv A outer s H vs Q E hr ⟨g, n, rs, rfl, ⟨dx, t, as, hg, ht, hts⟩, q⟩
    refine ⟨_, (pss_one (ps_ret (pe_callB (call_len_seqK (K := K) rfl) (by rfl) T.b_len bt_len (pa_cons (pe_fld (pv 0) rfl) pa_nil)))), ?_⟩
    refine ⟨_, rfl, g, _, dx, _, _, rfl, hg, T.cls_Rig, T.n_Rig_own_ropes, rigF_ropes _ _, t, _, rfl, .inr (SqT.of ht), ?_⟩
    rw [List.length_map, hts.1, List.length_map]
    exact q
def sp_Rig_rope (K : PySem.W.Frag) : Sp := fun vs H Q _ => ∃ (g : Addr) (n : Nat) (rs : List Rp) (k : Int) (r : Rp), vs = [.ref g, .int k] ∧ RigA K H g n rs ∧ 0 ≤ k ∧ rs[k.toNat]? = some r ∧ ∀ a, H a = some (.tup (rV r)) → Q (.ref a) H
abbrev N_Rig_rope : List Str := ["self", "number"]
theorem sc_Rig_rope : FnScope N_Rig_rope ["self", "number"] (defScope s_Rig_rope) := ⟨rfl, rfl, rfl, by decide +kernel, rfl, by decide +kernel, by decide +kernel⟩
theorem ok_Rig_rope (T : TX K mg) : Okm P w K mg base 3 (He.ga K "Rig") "rope" ["self", "number"] (sp_Rig_rope K) := by
  obtain ⟨fd, F⟩ := T.d_Rig_rope
  refine okm_of F T.m_Rig_rope sc_Rig_rope (fun _ _ _ _ _ _ us hl => match us, hl with | [_, _], _ => rfl) ?_ ?_
  · rintro vs H Q E ⟨g, n, rs, k, r, rfl, _⟩; rfl
  · rintro cdv A outer s H vs Q E hr ⟨g, n, rs, k, r, rfl, ⟨dx, t, as, hg, ht, hts⟩, h0, hk, q⟩
    refine ⟨_, (pss_cons (ps_if (pt_not (pt_val (pe_callD (ok_is_within T) hr (by decide) (by rfl) (pa_cons (pv 1) (pa_cons pe_int (pa_cons (pe_op op_sub (pe_callB (call_len_seqK (K := K) rfl) (by rfl) T.b_len bt_len (pa_cons (pe_fld (pv 0) rfl) pa_nil)) pe_int) pa_nil)))))) (pss_one ps_never) pss_nil)
  (pss_one (ps_ret (pe_ix (ix_tupK (K := K) rfl) (pe_fld (pv 0) rfl) (pv 1) (fun _ _ => rfl))))), ?_⟩
    have hl : k.toNat < rs.length := (List.getElem?_eq_some_iff.mp hk).1
    refine ⟨_, rfl, _, rfl, g, _, dx, _, _, rfl, hg, T.cls_Rig, T.n_Rig_own_ropes, rigF_ropes _ _, t, _, rfl, .inr (SqT.of ht), _, _, rfl, rfl, k, 0, ((as.map V.ref).length : Nat) - 1, rfl, _, rfl, ?_⟩
    have e : (as.map V.ref).length = rs.length := by rw [List.length_map, hts.1, List.length_map]
    rw [e, decide_eq_true (show 0 ≤ k ∧ k ≤ (rs.length : Int) - 1 by omega)]
    refine iteF ?_
    obtain ⟨b, hb, hb2⟩ := hts.at2 (get_map2 (f := rV) hk)
    exact ⟨_, rfl, g, _, dx, _, _, rfl, hg, T.cls_Rig, T.n_Rig_own_ropes, rigF_ropes _ _, _, rfl, t, _, k, _, rfl, rfl, SqT.of ht, atI_int h0 (get_map2 hb), q b hb2⟩
end
end RF
/-! ## A5 -/
set_option Elab.async false
set_option linter.all false
set_option maxRecDepth 100000
set_option maxHeartbeats 4000000
namespace RF
open PySem PySem.Spec PyProof.Rows L2
section
variable {P : Program} {w : World} {K : PySem.W.Frag} {mg : Str → Option Value} {base : Heap}
def sp_is_heights (K : PySem.W.Frag) : Sp := fun vs H Q _ => ∃ (g : Addr) (n : Nat) (rs : List Rp) (h : Addr) (S : List Int), vs = [.ref g, .ref h] ∧ RigA K H g n rs ∧ H h = some (.lst (S.map V.int)) ∧ S.length = n ∧ n ≤ 8 ∧ ∀ H', Same H H' → Q (.bl true) H'
abbrev N_is_heights : List Str := ["rig", "thing"]
theorem sc_is_heights : FnScope N_is_heights ["rig", "thing"] (defScope s_is_heights) := ⟨rfl, rfl, rfl, by decide +kernel, rfl, by decide +kernel, by decide +kernel⟩
theorem ok_is_heights (T : TX K mg) : Okd P w K mg base 3 "is_heights" ["rig", "thing"] (sp_is_heights K) := by
  obtain ⟨fd, F⟩ := T.d_is_heights
  refine okd_of F T.g_is_heights sc_is_heights (fun _ _ _ _ _ _ us hl => match us, hl with | [_, _], _ => rfl) ?_ ?_
  · rintro vs H Q E ⟨g, n, rs, h, S, rfl, _⟩; rfl
  · rintro cdv A outer s H vs Q E hr ⟨g, n, rs, h, S, rfl, hg, hh, hl, h8, q⟩
    refine ⟨_, (pss_one (ps_ret (pe_callD (ok_are_wholes T) hr (by decide) (by rfl) (pa_cons (pv 1) (pa_cons (pe_methD0 (ok_Rig_many T) T.cls_Rig hr (by decide) (pv 0)) pa_nil))))), ?_⟩
    obtain ⟨dx, t, as, hg1, ht, hts⟩ := id hg
    refine ⟨_, rfl, _, rfl, g, dx, _, rfl, hg1, rigF_m1 _ _, g, n, rs, rfl, hg, h, S, n, rfl, hh, by omega, fun H' sm => ?_⟩
    rw [decide_eq_true (show (S.length : Int) = n by omega)]
    exact q H' sm
def sp_look_at_heights (K : PySem.W.Frag) : Sp := fun vs H Q _ => ∃ (g : Addr) (n : Nat) (rs : List Rp) (h : Addr) (S : List Int), vs = [.ref g, .ref h] ∧ RigA K H g n rs ∧ H h = some (.lst (S.map V.int)) ∧ S.length = n ∧ n ≤ 8 ∧ ∀ H', Same H H' → Q .non H'
abbrev N_look_at_heights : List Str := ["rig", "heights"]
theorem sc_look_at_heights : FnScope N_look_at_heights ["rig", "heights"] (defScope s_look_at_heights) := ⟨rfl, rfl, rfl, by decide +kernel, rfl, by decide +kernel, by decide +kernel⟩
theorem ok_look_at_heights (T : TX K mg) : Okd P w K mg base 4 "look_at_heights" ["rig", "heights"] (sp_look_at_heights K) := by
  obtain ⟨fd, F⟩ := T.d_look_at_heights
  refine okd_of F T.g_look_at_heights sc_look_at_heights (fun _ _ _ _ _ _ us hl => match us, hl with | [_, _], _ => rfl) ?_ ?_
  · rintro vs H Q E ⟨g, n, rs, h, S, rfl, _⟩; rfl
  · rintro cdv A outer s H vs Q E hr ⟨g, n, rs, h, S, rfl, hg, hh, hl, h8, q⟩
    refine ⟨_, (pss_one (ps_if (pt_not (pt_val (pe_callD (ok_is_heights T) hr (by decide) (by rfl) (pa_cons (pv 0) (pa_cons (pv 1) pa_nil))))) (pss_one ps_never) pss_nil)), ?_⟩
    exact ⟨_, rfl, _, rfl, g, n, rs, h, S, rfl, hg, hh, hl, h8, fun H' sm => ⟨_, rfl, q H' sm⟩⟩
theorem hAt_get {S : List Int} {k : Int} (h0 : 0 ≤ k) (h1 : k ≤ (S.length : Int)) : ((0 :: S).map V.int)[k.toNat]? = some (.int (hAt S k)) := by
  have hl : k.toNat < (0 :: S).length := by rw [List.length_cons]; omega
  rw [List.getElem?_map, List.getElem?_eq_getElem hl]
  unfold hAt
  rw [List.getElem?_eq_getElem hl]
  rfl
def sp_room_by (K : PySem.W.Frag) : Sp := fun vs H Q _ => ∃ (a h : Addr) (r : Rp) (S : List Int), vs = [.ref a, .ref h] ∧ H a = some (.tup (rV r)) ∧ H h = some (.lst (S.map V.int)) ∧ Kn S.length r.1 ∧ Kn S.length r.2.1 ∧ S.length ≤ 8 ∧ ∀ H', Same H H' → Q (.int (r.2.2 - hAt S r.1 + hAt S r.2.1)) H'
abbrev N_room_by : List Str := ["rope", "heights", "upper", "lower", "most", "high"]
theorem sc_room_by : FnScope N_room_by ["rope", "heights"] (defScope s_room_by) := ⟨rfl, rfl, rfl, by decide +kernel, rfl, by decide +kernel, by decide +kernel⟩
theorem ok_room_by (T : TX K mg) : Okd P w K mg base 1 "room_by" ["rope", "heights"] (sp_room_by K) := by
  obtain ⟨fd, F⟩ := T.d_room_by
  refine okd_of F T.g_room_by sc_room_by (fun _ _ _ _ _ _ us hl => match us, hl with | [_, _], _ => rfl) ?_ ?_
  · rintro vs H Q E ⟨a, h, r, S, rfl, _⟩; rfl
  · rintro cdv A outer s H vs Q E hr ⟨a, h, ⟨u, l, m⟩, S, rfl, ha, hh, hu, hl, h8, q⟩
    refine ⟨_, (pss_cons (ps_asg (pv 0) (pg_tupK (K := K) rfl rfl (pgs_cons (pg_name (i := 2) (sc_room_by).nd rfl (.inl rfl)) (pgs_cons (pg_name (i := 3) (sc_room_by).nd rfl (.inl rfl)) (pgs_cons (pg_name (i := 4) (sc_room_by).nd rfl (.inl rfl)) pgs_nil)))))
  (pss_cons (ps_set (i := 5) (sc_room_by).nd rfl (.inl rfl) (pe_op op_cat (pe_lst (pa_cons pe_int pa_nil)) (pv 1)))
  (pss_one (ps_ret (pe_op op_add (pe_op op_sub (pv 4) (pe_ix (ix_listK (K := K) rfl) (pv 5) (pv 2) (fun _ _ => rfl))) (pe_ix (ix_listK (K := K) rfl) (pv 5) (pv 3) (fun _ _ => rfl))))))), ?_⟩
    refine ⟨_, rfl, a, _, rfl, SqT.of ha, rfl, _, _, rfl, _, _, rfl, _, _, rfl, rfl, ?_⟩
    refine ⟨by decide, fun z hz => ⟨_, rfl, z, h, _, _, rfl, rfl, upd_same, (by rw [upd_ne (ne_of_none hh hz)]; exact hh), (by rw [List.length_map]; exact Nat.le_trans (Nat.add_le_add_left h8 _) (by decide)), fun p hp => ?_⟩⟩
    have s1 : Same H (upd (upd H z (.lst [.int 0])) p (.lst ([V.int 0] ++ S.map V.int))) := (same_upd hz).trans (same_upd hp)
    have e : ([V.int 0] ++ S.map V.int) = (0 :: S).map V.int := rfl
    rw [e] at s1 ⊢
    refine ⟨_, rfl, _, rfl, _, rfl, p, _, u, _, rfl, rfl, SqL.of upd_same, atI_int hu.1 (hAt_get hu.1 hu.2), _, _, rfl, rfl, _, rfl, _, rfl, p, _, l, _, rfl, rfl, SqL.of upd_same, atI_int hl.1 (hAt_get hl.1 hl.2), _, _, rfl, rfl, ?_⟩
    exact q _ s1
def sp_broken (K : PySem.W.Frag) : Sp := fun vs H Q _ => ∃ (g : Addr) (n : Nat) (rs : List Rp) (h : Addr) (S : List Int), vs = [.ref g, .ref h] ∧ RigA K H g n rs ∧ H h = some (.lst (S.map V.int)) ∧ S.length = n ∧ n ≤ 8 ∧ WfR n rs ∧ rs.length ≤ 60 ∧ Lets rs S ∧
  ∀ H' p, Same H H' → H' p = some (.lst []) → Q (.ref p) H'
abbrev N_broken : List Str := ["rig", "heights", "number", "rope"]
theorem sc_broken : FnScope N_broken ["rig", "heights"] (defScope s_broken) := ⟨rfl, rfl, rfl, by decide +kernel, rfl, by decide +kernel, by decide +kernel⟩
theorem ok_broken (T : TX K mg) : Okd P w K mg base 5 "broken" ["rig", "heights"] (sp_broken K) := by
  obtain ⟨fd, F⟩ := T.d_broken
  refine okd_of F T.g_broken sc_broken (fun _ _ _ _ _ _ us hl => match us, hl with | [_, _], _ => rfl) ?_ ?_
  · rintro vs H Q E ⟨g, n, rs, h, S, rfl, _⟩; rfl
  · rintro cdv A outer s H vs Q E hr ⟨g, n, rs, h, S, rfl, hg, hh, hl, h8, hw, h60, hL, q⟩
    refine ⟨_, (pss_cons (ps_expr (pe_callD (ok_look_at_heights T) hr (by decide) (by rfl) (pa_cons (pv 0) (pa_cons (pv 1) pa_nil))))
  (pss_one (ps_ret (pe_lc (own := [("number", 2), ("rope", 3)]) (g := gTup K 2 (gCons (gName 2) (gCons (gName 3) (gNil)))) rfl (sc_broken).nd (pi_enumK (K := K) rfl (by rfl) T.b_enumerate (pa_cons (pe_methD0 (ok_Rig_ropes T) T.cls_Rig hr (by decide) (pv 0)) pa_nil)) (blkOk_by (N := N_broken) (sc := defScope s_broken) (own := [("number", 2), ("rope", 3)]) (by decide +kernel)) (fun _ _ _ _ _ => (pg_tupK (K := K) rfl rfl (pgs_cons (pg_name (i := 2) (sc_broken).nd rfl (.inl rfl)) (pgs_cons (pg_name (i := 3) (sc_broken).nd rfl (.inl rfl)) pgs_nil)))) (fun _ _ _ _ _ => (pts_one (pt_cmpR op_lt (pe_callD (ok_room_by T) hr (by decide) (by rfl) (pa_cons (pv 3) (pa_cons (pv 1) pa_nil))) pe_int (nomark _)))) (fun _ _ _ _ _ => (pv 2)))))), ?_⟩
    refine ⟨_, rfl, _, rfl, g, n, rs, h, S, rfl, hg, hh, hl, h8, fun H1 s1 => ?_⟩
    obtain ⟨dx, t, as0, hg1, ht, hts0⟩ := hg.same s1
    refine ⟨_, rfl, g, dx, _, rfl, hg1, rigF_m2 _ _, g, n, rs, rfl, hg.same s1, fun p as hp hts => ?_⟩
    have hts2 := hts.same (same_upd (o := .lst (as.map V.ref)) hp)
    have s2 : Same H (upd H1 p (.lst (as.map V.ref))) := s1.trans (same_upd hp)
    have hp2 : (upd H1 p (.lst (as.map V.ref))) p = some (.lst (as.map V.ref)) := upd_same
    revert s2 hts2 hp2
    generalize upd H1 p (.lst (as.map V.ref)) = H2
    intro hts2 s2 hp2
    refine ⟨p, _, rfl, SqL.of hp2, fun D hD => ?_⟩
    have el : as.length = rs.length := by rw [hts.1, List.length_map]
    refine lc_gen (n := rs.length) (fun _ => none) (Nat.le_trans h60 (by decide)) hD (fun i H' hi sm => ⟨_, _, SqL.of (sm _ _ hp2), get_map2 (List.getElem?_eq_getElem (by rw [el]; exact hi))⟩) (fun H' sm => ⟨_, SqL.of (sm _ _ hp2), by rw [List.length_map, el]; exact Nat.le_refl _⟩) (fun i x H3 H4 Qt Qf hi sm y k1 k2 => ?_) (fun H' sm hd => ?_)
    · obtain ⟨Tp, x, rfl, hT, rfl, y⟩ := y
      obtain ⟨b, hb, rfl⟩ := get_map (y _ (SqL.of (sm _ _ hp2)))
      obtain ⟨z, hz, hb2⟩ := (hts2.same sm).at_ hb
      obtain ⟨r, hr2, rfl⟩ := get_map hz
      have hm := List.mem_of_getElem? hr2
      refine ⟨Tp, _, rfl, SqT.of upd_same, rfl, _, _, rfl, _, _, rfl, rfl, rfl, ?_⟩
      have s4 : Same H3 (upd H3 Tp (.tup [.int (i : Nat), .ref b])) := same_upd hT
      refine ⟨_, rfl, _, rfl, b, h, r, S, rfl, s4 _ _ hb2, s4 _ _ (sm _ _ (s2 _ _ hh)), by rw [hl]; exact (hw r hm).1, by rw [hl]; exact (hw r hm).2.1, by omega, fun H5 s5 => ?_⟩
      refine ⟨_, _, rfl, rfl, _, rfl, ?_⟩
      have hL2 := hL r hm
      rw [decide_eq_false (show ¬ (r.2.2 - hAt S r.1 + hAt S r.2.1 < 0) by omega)]
      exact k2 _ rfl (s4.trans s5)
    · refine q H' D (s2.trans sm) ?_
      rw [hd]
      have e : (List.range rs.length).filterMap (fun _ => (none : Option V)) = [] := by simp
      rw [e]
def sp_is_stand (K : PySem.W.Frag) : Sp := fun vs H Q _ => ∃ (g : Addr) (n : Nat) (rs : List Rp) (h : Addr) (S : List Int), vs = [.ref g, .ref h] ∧ RigA K H g n rs ∧ H h = some (.lst (S.map V.int)) ∧ S.length = n ∧ n ≤ 8 ∧ WfR n rs ∧ rs.length ≤ 60 ∧ Lets rs S ∧
  ∀ H', Same H H' → Q (.bl true) H'
abbrev N_is_stand : List Str := ["rig", "thing"]
theorem sc_is_stand : FnScope N_is_stand ["rig", "thing"] (defScope s_is_stand) := ⟨rfl, rfl, rfl, by decide +kernel, rfl, by decide +kernel, by decide +kernel⟩
theorem ok_is_stand (T : TX K mg) : Okd P w K mg base 6 "is_stand" ["rig", "thing"] (sp_is_stand K) := by
  obtain ⟨fd, F⟩ := T.d_is_stand
  refine okd_of F T.g_is_stand sc_is_stand (fun _ _ _ _ _ _ us hl => match us, hl with | [_, _], _ => rfl) ?_ ?_
  · rintro vs H Q E ⟨g, n, rs, h, S, rfl, _⟩; rfl
  · rintro cdv A outer s H vs Q E hr ⟨g, n, rs, h, S, rfl, hg, hh, hl, h8, hw, h60, hL, q⟩
    refine ⟨_, (pss_one (ps_ret (pe_and (pe_callD (ok_is_heights T) hr (by decide) (by rfl) (pa_cons (pv 0) (pa_cons (pv 1) pa_nil))) (pe_one (pe_cmpR (op_eqIK (K := K) rfl hr.units) (pe_callD (ok_broken T) hr (by decide) (by rfl) (pa_cons (pv 0) (pa_cons (pv 1) pa_nil))) (pe_lst pa_nil) (nomark _)))))), ?_⟩
    refine ⟨_, rfl, _, rfl, g, n, rs, h, S, rfl, hg, hh, hl, h8, fun H1 s1 => ⟨true, rfl, iteT ?_⟩⟩
    refine ⟨_, rfl, _, rfl, g, n, rs, h, S, rfl, hg.same s1, s1 _ _ hh, hl, h8, hw, h60, hL, fun H2 p s2 hp => ?_⟩
    refine ⟨Nat.zero_le _, fun z hz => ⟨p, z, [], [], rfl, rfl, SqL.of (same_upd hz _ _ hp), SqL.of upd_same, ?_⟩⟩
    exact q _ ((s1.trans s2).trans (same_upd hz))
def sp_look_at_stand (K : PySem.W.Frag) : Sp := fun vs H Q _ => ∃ (g : Addr) (n : Nat) (rs : List Rp) (h : Addr) (S : List Int), vs = [.ref g, .ref h] ∧ RigA K H g n rs ∧ H h = some (.lst (S.map V.int)) ∧ S.length = n ∧ n ≤ 8 ∧ WfR n rs ∧ rs.length ≤ 60 ∧ Lets rs S ∧
  ∀ H', Same H H' → Q .non H'
abbrev N_look_at_stand : List Str := ["rig", "stand", "some"]
theorem sc_look_at_stand : FnScope N_look_at_stand ["rig", "stand"] (defScope s_look_at_stand) := ⟨rfl, rfl, rfl, by decide +kernel, rfl, by decide +kernel, by decide +kernel⟩
theorem ok_look_at_stand (T : TX K mg) : Okd P w K mg base 6 "look_at_stand" ["rig", "stand"] (sp_look_at_stand K) := by
  obtain ⟨fd, F⟩ := T.d_look_at_stand
  refine okd_of F T.g_look_at_stand sc_look_at_stand (fun _ _ _ _ _ _ us hl => match us, hl with | [_, _], _ => rfl) ?_ ?_
  · rintro vs H Q E ⟨g, n, rs, h, S, rfl, _⟩; rfl
  · rintro cdv A outer s H vs Q E hr ⟨g, n, rs, h, S, rfl, hg, hh, hl, h8, hw, h60, hL, q⟩
    refine ⟨_, (pss_cons (ps_set (i := 2) (sc_look_at_stand).nd rfl (.inl rfl) (pe_callD (ok_broken T) hr (by decide) (by rfl) (pa_cons (pv 0) (pa_cons (pv 1) pa_nil))))
  (pss_one (ps_if (pt_cmpR (op_neIK (K := K) rfl hr.units) (pv 2) (pe_lst pa_nil) (nomark _)) (pss_one ps_never) pss_nil))), ?_⟩
    refine ⟨_, rfl, _, rfl, g, n, rs, h, S, rfl, hg, hh, hl, h8, hw, h60, hL, fun H2 p s2 hp => ?_⟩
    refine ⟨_, rfl, Nat.zero_le _, fun z hz => ⟨p, z, [], [], rfl, rfl, SqL.of (same_upd hz _ _ hp), SqL.of upd_same, _, rfl, ?_⟩⟩
    exact q _ (s2.trans (same_upd hz))
end
end RF
/-! ## A6 -/
set_option Elab.async false
set_option linter.all false
set_option maxRecDepth 100000
set_option maxHeartbeats 4000000
namespace RF
open PySem PySem.Spec PyProof.Rows L2
section
variable {P : Program} {w : World} {K : PySem.W.Frag} {mg : Str → Option Value} {base : Heap}
theorem slice1 {xs : List V} : cutV xs (some 1) none = xs.drop 1 := by
  unfold cutV
  rw [show HT.sIx xs.length 0 (some 1) = min 1 xs.length from HT.sIx_nat xs.length 0 1, HT.sIx_none]
  cases xs with
  | nil => rfl
  | cons x r =>
    rw [show min 1 (x :: r).length = 1 by rw [List.length_cons]; omega]
    show (List.take ((x :: r).length - 1) r) = r
    rw [List.length_cons, Nat.add_sub_cancel]
    exact List.take_length
theorem TupsAt.drop1 {H : Hp} {as : List Addr} {xs : List (List V)} (h : TupsAt H as xs) : TupsAt H (as.drop 1) (xs.drop 1) :=
  ⟨by rw [List.length_drop, List.length_drop, h.1], fun i a x e1 e2 => by rw [List.getElem?_drop] at e1 e2; exact h.2 _ a x e1 e2⟩
/-- every turn hands on a truth: the list's all -/
theorem fm_bools {f : Nat → Option V} {p : Nat → Bool} (n : Nat) (h : ∀ i, i < n → f i = some (.bl (p i))) : (List.range n).filterMap f = ((List.range n).map p).map V.bl := by
  induction n with
  | zero => rfl
  | succ n ih =>
    rw [List.range_succ, List.filterMap_append, List.map_append, List.map_append, ih fun i hi => h i (by omega)]
    congr 1
    show [n].filterMap f = _
    rw [List.filterMap_cons, h n (by omega)]
    rfl
theorem all_range (n : Nat) (p : Nat → Bool) : ((List.range n).map p).all id = true ↔ ∀ i, i < n → p i = true := by
  simp [List.all_eq_true, List.mem_range]
theorem any_range (n : Nat) (p : Nat → Bool) : ((List.range n).map p).any id = true ↔ ∃ i, i < n ∧ p i = true := by
  simp [List.any_eq_true, List.mem_range]
theorem InR.get {rs : List Rp} {cs : List Int} (h : InR rs cs) {i : Nat} {k : Int} (e : cs[i]? = some k) : 0 ≤ k ∧ k ≤ (rs.length : Int) - 1 := h k (List.mem_of_getElem? e)
/-- rope tuples of a list of numbers stand in the list at D -/
def RowsAt (H : Hp) (D : Addr) (rows : List Rp) : Prop := ∃ as : List Addr, H D = some (.lst (as.map V.ref)) ∧ TupsAt H as (rows.map rV)
theorem RowsAt.same {H H' : Hp} {D : Addr} {rows : List Rp} (h : RowsAt H D rows) (s : Same H H') : RowsAt H' D rows := by
  obtain ⟨as, h1, h2⟩ := h
  exact ⟨as, s _ _ h1, h2.same s⟩
theorem RowsAt.len {H : Hp} {D : Addr} {rows : List Rp} (h : RowsAt H D rows) : ∃ as : List Addr, as.length = rows.length ∧ H D = some (.lst (as.map V.ref)) ∧ TupsAt H as (rows.map rV) := by
  obtain ⟨as, h1, h2⟩ := h
  exact ⟨as, by rw [h2.1, List.length_map], h1, h2⟩
def sp_is_chain (K : PySem.W.Frag) : Sp := fun vs H Q _ => ∃ (g : Addr) (n : Nat) (rs : List Rp) (c : Addr) (cs : List Int), vs = [.ref g, .ref c] ∧ RigA K H g n rs ∧ H c = some (.lst (cs.map V.int)) ∧ cs.length ≤ 1000 ∧ rs.length ≤ 60 ∧
  ∀ H' b, Same H H' → (b = true ↔ IsCh rs cs) → Q (.bl b) H'
abbrev N_is_chain : List Str := ["rig", "thing", "number", "ropes", "one", "other"]
theorem sc_is_chain : FnScope N_is_chain ["rig", "thing"] (defScope s_is_chain) := ⟨rfl, rfl, rfl, by decide +kernel, rfl, by decide +kernel, by decide +kernel⟩
theorem ok_is_chain (T : TX K mg) : Okd P w K mg base 4 "is_chain" ["rig", "thing"] (sp_is_chain K) := by
  obtain ⟨fd, F⟩ := T.d_is_chain
  refine okd_of F T.g_is_chain sc_is_chain (fun _ _ _ _ _ _ us hl => match us, hl with | [_, _], _ => rfl) ?_ ?_
  · rintro vs H Q E ⟨g, n, rs, c, cs, rfl, _⟩; rfl
  · rintro cdv A outer s H vs Q E hr ⟨g, n, rs, c, cs, rfl, hg, hc, hcl, h60, q⟩
    refine ⟨_, (pss_cons (ps_if (PW.pt (pw_or (pt_not (pt_val (pe_callB (call_isiK2 (K := K) rfl) (by rfl) T.b_isinstance bt_isinstance (pa_cons (pv 1) (pa_cons (pe_bltn (v := .ty "list") (by rfl) T.b_list bt_list rfl) pa_nil))))) (pw_or1 (pt_cmpR (op_eqIK (K := K) rfl hr.units) (pv 1) (pe_lst pa_nil) (nomark _))))) (pss_one (ps_ret pe_bl)) pss_nil)
  (pss_cons (ps_if (pt_not (pt_val (pe_callB (cr_allK (K := K) rfl rfl) (by rfl) T.b_all bt_all (pa_cons (pe_lc (own := [("number", 2)]) (g := gName 2) rfl (sc_is_chain).nd (pi_listK (K := K) rfl (pv 1)) (blkOk_by (N := N_is_chain) (sc := defScope s_is_chain) (own := [("number", 2)]) (by decide +kernel)) (fun _ _ _ _ _ => (pg_name (i := 2) (sc_is_chain).nd rfl (.inl rfl))) (fun _ _ _ _ _ => pts_nil) (fun _ _ _ _ _ => (pe_callD (ok_is_within T) hr (by decide) (by rfl) (pa_cons (pv 2) (pa_cons pe_int (pa_cons (pe_op op_sub (pe_callB (call_lenO (ok_Rig_len T) hr (by decide)) (by rfl) T.b_len bt_len (pa_cons (pv 0) pa_nil)) pe_int) pa_nil)))))) pa_nil)))) (pss_one (ps_ret pe_bl)) pss_nil)
  (pss_cons (ps_setLc (i := 3) (own := [("number", 2)]) (g := gName 2) rfl (sc_is_chain).nd rfl rfl (sw_true rfl rfl rfl (by decide +kernel)) (pi_listK (K := K) rfl (pv 1)) (blkOk_by (N := N_is_chain) (sc := defScope s_is_chain) (own := [("number", 2)]) (by decide +kernel)) (fun _ _ _ _ _ => (pg_name (i := 2) (sc_is_chain).nd rfl (.inl rfl))) (fun _ _ _ _ _ => pts_nil) (fun _ _ _ _ _ => (pe_methD (ok_Rig_rope T) T.cls_Rig hr (by decide) (pv 0) (pa_cons (pv 2) pa_nil))))
  (pss_one (ps_ret (pe_callB (cr_allK (K := K) rfl rfl) (by rfl) T.b_all bt_all (pa_cons (pe_lc (own := [("one", 4), ("other", 5)]) (g := gTup K 2 (gCons (gName 4) (gCons (gName 5) (gNil)))) rfl (sc_is_chain).nd (pi_zipK (K := K) rfl (by rfl) T.b_zip (pa_cons (pv 3) (pa_cons (pe_slice (sl_listK (K := K) rfl) (pv 3) (po_some pe_int) po_none) pa_nil))) (blkOk_by (N := N_is_chain) (sc := defScope s_is_chain) (own := [("one", 4), ("other", 5)]) (by decide +kernel)) (fun _ _ _ _ _ => (pg_tupK (K := K) rfl rfl (pgs_cons (pg_name (i := 4) (sc_is_chain).nd rfl (.inl rfl)) (pgs_cons (pg_name (i := 5) (sc_is_chain).nd rfl (.inl rfl)) pgs_nil)))) (fun _ _ _ _ _ => pts_nil) (fun _ _ _ _ _ => (pe_cmpR op_eq (pe_ix (ix_tupK (K := K) rfl) (pv 4) pe_int (fun _ _ => rfl)) (pe_ix (ix_tupK (K := K) rfl) (pv 5) pe_int (fun _ _ => rfl)) (nomark _)))) pa_nil))))))), ?_⟩
    refine ⟨_, rfl, _, .ty "list", .type "list", .type "list", _, rfl, .ty _, .base (.lst (hc)), kt_ll, true, rfl, iteF ?_⟩
    refine ⟨_, rfl, Nat.zero_le _, fun z hz => ⟨c, z, cs, [], rfl, rfl, SqL.of (same_upd hz _ _ hc), SqL.of upd_same, _, rfl, ?_⟩⟩
    have s1 : Same H (upd H z (.lst [])) := same_upd hz
    revert s1
    generalize upd H z (.lst []) = H1
    intro s1
    refine ite2 (fun e => ?_) (fun e => ?_)
    · have e : cs = [] := of_decide_eq_true e
      exact q H1 false s1 ⟨fun z => (by cases z), fun z => absurd e z.1⟩
    have hne : cs ≠ [] := fun z => e (decide_eq_true z)
    have hc1 := s1 _ _ hc
    -- all in range
    refine ⟨_, rfl, c, rfl, ⟨_, SqL.of hc1⟩, fun D hD => ?_⟩
    refine lc_gen (n := cs.length) (fun i => (cs[i]?).map fun k => V.bl (decide (0 ≤ k ∧ k ≤ (rs.length : Int) - 1))) (Nat.le_trans hcl (by decide)) hD (fun i H' hi sm => ⟨_, _, SqL.of (sm _ _ hc1), get_map2 (List.getElem?_eq_getElem hi)⟩) (fun H' sm => ⟨_, SqL.of (sm _ _ hc1), by rw [List.length_map]; exact Nat.le_refl _⟩) (fun i x H2 H3 Qt Qf hi sm y k1 k2 => ?_) (fun H2 sm hd => ?_)
    · obtain ⟨rfl, y⟩ := y
      obtain ⟨k, hk, rfl⟩ := get_map (y _ (SqL.of (sm _ _ hc1)))
      obtain ⟨dx, t, as, hg1, ht, hts⟩ := id ((hg.same s1).same sm)
      refine ⟨rfl, _, rfl, _, rfl, g, dx, _, rfl, hg1, g, n, rs, rfl, (hg.same s1).same sm, rs.length, rfl, by omega, by omega, _, _, rfl, rfl, k, 0, (rs.length : Int) - 1, rfl, k1 _ _ ?_ (Same.refl _)⟩
      show (cs[i]?).map _ = _
      rw [hk]; rfl
    rw [range_map] at hd
    refine ⟨D, cs.map fun k => decide (0 ≤ k ∧ k ≤ (rs.length : Int) - 1), rfl, SqL.of (by rw [hd, List.map_map]; rfl), ?_⟩
    have hin : (cs.map fun k => decide (0 ≤ k ∧ k ≤ (rs.length : Int) - 1)).all id = true ↔ InR rs cs := by
      rw [List.all_map, List.all_eq_true]
      exact ⟨fun h k hk => of_decide_eq_true (h k hk), fun h k hk => decide_eq_true (h k hk)⟩
    have s2 : Same H H2 := s1.trans sm
    refine ⟨_, rfl, ?_⟩
    refine ite2 (fun e2 => ?_) (fun e2 => ?_)
    · refine q H2 false s2 ⟨fun z => (by cases z), fun z => ?_⟩
      rw [hin.mpr z.2.1] at e2
      cases e2
    have hR : InR rs cs := hin.mp (by
      cases q : (cs.map fun k => decide (0 ≤ k ∧ k ≤ (rs.length : Int) - 1)).all id with
      | true => rfl
      | false => rw [q] at e2; exact absurd rfl e2)
    have hc2 := s2 _ _ hc
    have hg2 := hg.same s2
    -- the rows
    refine ⟨_, rfl, c, rfl, ⟨_, SqL.of hc2⟩, fun D2 hD2 => ?_⟩
    refine lc_pv (n := cs.length) (fun i H' => Same H2 H' ∧ RowsAt H' D2 ((cs.take i).map (rowOf rs))) ⟨same_upd hD2, [], upd_same, TupsAt.nil⟩ (fun i H' hi p => ⟨_, _, SqL.of (p.1 _ _ hc2), get_map2 (List.getElem?_eq_getElem hi)⟩) (fun i x H3 H4 hi p y => ?_) (fun H3 p => ⟨⟨_, SqL.of (p.1 _ _ hc2), by rw [List.length_map]; exact Nat.le_refl _⟩, ?_⟩)
    · obtain ⟨rfl, y⟩ := y
      obtain ⟨k, hk, rfl⟩ := get_map (y _ (SqL.of (p.1 _ _ hc2)))
      obtain ⟨dx, t, as0, hg1, ht, hts⟩ := id (hg2.same p.1)
      obtain ⟨as, ha1, ha2⟩ := p.2
      have hkr := hR.get hk
      refine ⟨rfl, _, rfl, g, dx, _, rfl, hg1, rigF_m3 _ _, _, rfl, g, n, rs, k, rowOf rs k, rfl, hg2.same p.1, hkr.1, row_get hkr.1 hkr.2, fun a ha => ?_⟩
      have hl : (as.map V.ref).length < sizeLine := by
        rw [List.length_map, ha2.1, List.length_map, List.length_map, List.length_take]
        exact Nat.lt_of_le_of_lt (Nat.min_le_right _ _) (Nat.lt_of_le_of_lt hcl (by decide))
      refine ⟨_, ha1, hl, same_upd2 hD2 p.1, as ++ [a], by rw [upd_same, List.map_append]; rfl, ?_⟩
      rw [List.take_add_one, hk, List.map_append, List.map_append]
      have kp : ∀ b x, H4 b = some (.tup x) → (upd H4 D2 (.lst (as.map V.ref ++ [.ref a]))) b = some (.tup x) := fun b x e => by
        rw [upd_ne (ne_of e ha1 (by intro z; cases z))]; exact e
      exact TupsAt.snoc ⟨ha2.1, fun j b x e1 e2 => kp b x (ha2.2 j b x e1 e2)⟩ (kp _ _ ha)
    rw [List.take_length] at p
    obtain ⟨p1, pr⟩ := p
    obtain ⟨as, hal, ha1, ha2⟩ := pr.len
    rw [List.length_map] at hal
    -- the zip
    refine ⟨_, rfl, _, rfl, _, rfl, D2, _, rfl, SqL.of ha1, fun D3 hD3 => ?_⟩
    rw [slice1]
    have s3 : Same H3 (upd H3 D3 (.lst ((as.map V.ref).drop 1))) := same_upd hD3
    have hD3' : (upd H3 D3 (.lst ((as.map V.ref).drop 1))) D3 = some (.lst ((as.drop 1).map V.ref)) := by rw [upd_same, List.map_drop]
    revert s3 hD3'
    generalize upd H3 D3 (.lst ((as.map V.ref).drop 1)) = H4
    intro s3 hD3'
    have ha1' := s3 _ _ ha1
    have ha2' := ha2.same s3
    have hd1 := ha2'.drop1
    refine ⟨D2, D3, as.map V.ref, (as.drop 1).map V.ref, rfl, SqL.of ha1', SqL.of hD3', fun D4 hD4 => ?_⟩
    refine lc_gen (n := cs.length - 1) (fun i => some (V.bl (decide (((cs.map (rowOf rs))[i]?.getD (0, 0, 0)).2.1 = ((cs.map (rowOf rs))[i + 1]?.getD (0, 0, 0)).1)))) (Nat.le_trans (Nat.sub_le _ _) (Nat.le_trans hcl (by decide))) hD4
      (fun i H' hi sm => ⟨_, _, _, _, SqL.of (sm _ _ ha1'), SqL.of (sm _ _ hD3'), get_map2 (List.getElem?_eq_getElem (by omega)), get_map2 (by rw [List.getElem?_drop]; exact List.getElem?_eq_getElem (by omega))⟩)
      (fun H' sm => ⟨_, _, SqL.of (sm _ _ ha1'), SqL.of (sm _ _ hD3'), .inr (by rw [List.length_map, List.length_drop, hal]; exact Nat.le_refl _)⟩) (fun i x H5 H6 Qt Qf hi sm y k1 k2 => ?_) (fun H5 sm5 hd5 => ?_)
    · obtain ⟨Tp, x1, x2, rfl, hT, rfl, f1, f2⟩ := y
      obtain ⟨b1, hb1, rfl⟩ := get_map (f1 _ (SqL.of (sm _ _ ha1')))
      obtain ⟨b2, hb2, rfl⟩ := get_map (f2 _ (SqL.of (sm _ _ hD3')))
      rw [List.getElem?_drop, Nat.add_comm 1 i] at hb2
      obtain ⟨y1, hy1, t1⟩ := (ha2'.same sm).at_ hb1
      obtain ⟨y2, hy2, t2⟩ := (ha2'.same sm).at_ hb2
      obtain ⟨r1, hr1, rfl⟩ := get_map hy1
      obtain ⟨r2, hr2, rfl⟩ := get_map hy2
      have s6 : Same H5 (upd H5 Tp (.tup [.ref b1, .ref b2])) := same_upd hT
      refine ⟨Tp, _, rfl, SqT.of upd_same, rfl, _, _, rfl, _, _, rfl, rfl, rfl, ?_⟩
      refine ⟨_, rfl, b1, _, 1, .int r1.2.1, rfl, rfl, SqT.of (s6 _ _ t1), rfl, _, rfl, b2, _, 0, .int r2.1, rfl, rfl, SqT.of (s6 _ _ t2), rfl, rfl, k1 _ _ ?_ s6⟩
      rw [hr1, hr2]
      show some (V.bl (decide (r1.2.1 = r2.1))) = some (V.bl (decide (V.int r1.2.1 = V.int r2.1)))
      congr 2
      exact decide_eq_decide.mpr ⟨fun z => by rw [z], fun z => V.int.inj z⟩
    · rw [fm_bools (p := fun i => decide (((cs.map (rowOf rs))[i]?.getD (0, 0, 0)).2.1 = ((cs.map (rowOf rs))[i + 1]?.getD (0, 0, 0)).1)) _ (fun i _ => rfl)] at hd5
      refine ⟨D4, _, rfl, SqL.of hd5, ?_⟩
      refine q H5 _ (((s2.trans p1).trans s3).trans sm5) ?_
      rw [all_range]
      refine ⟨fun h => ⟨hne, hR, consec_at.mpr fun i r r2 e1 e2 => ?_⟩, fun h i hi => ?_⟩
      · have hi : i + 1 < (cs.map (rowOf rs)).length := (List.getElem?_eq_some_iff.mp e2).1
        rw [List.length_map] at hi
        have := of_decide_eq_true (h i (by omega))
        rw [e1, e2] at this
        exact this
      · have h1 : i < (cs.map (rowOf rs)).length := by rw [List.length_map]; omega
        have h2 : i + 1 < (cs.map (rowOf rs)).length := by rw [List.length_map]; omega
        refine decide_eq_true ?_
        rw [List.getElem?_eq_getElem h1, List.getElem?_eq_getElem h2]
        exact consec_at.mp h.2.2 i _ _ (List.getElem?_eq_getElem h1) (List.getElem?_eq_getElem h2)
end
end RF
/-! ## A7 -/
set_option Elab.async false
set_option linter.all false
set_option maxRecDepth 100000
set_option maxHeartbeats 4000000
namespace RF
open PySem PySem.Spec PyProof.Rows L2
section
variable {P : Program} {w : World} {K : PySem.W.Frag} {mg : Str → Option Value} {base : Heap}
def sp_look_at_chain (K : PySem.W.Frag) : Sp := fun vs H Q _ => ∃ (g : Addr) (n : Nat) (rs : List Rp) (c : Addr) (cs : List Int), vs = [.ref g, .ref c] ∧ RigA K H g n rs ∧ H c = some (.lst (cs.map V.int)) ∧ cs.length ≤ 1000 ∧ rs.length ≤ 60 ∧ IsCh rs cs ∧
  ∀ H', Same H H' → Q .non H'
abbrev N_look_at_chain : List Str := ["rig", "chain"]
theorem sc_look_at_chain : FnScope N_look_at_chain ["rig", "chain"] (defScope s_look_at_chain) := ⟨rfl, rfl, rfl, by decide +kernel, rfl, by decide +kernel, by decide +kernel⟩
theorem ok_look_at_chain (T : TX K mg) : Okd P w K mg base 5 "look_at_chain" ["rig", "chain"] (sp_look_at_chain K) := by
  obtain ⟨fd, F⟩ := T.d_look_at_chain
  refine okd_of F T.g_look_at_chain sc_look_at_chain (fun _ _ _ _ _ _ us hl => match us, hl with | [_, _], _ => rfl) ?_ ?_
  · rintro vs H Q E ⟨g, n, rs, c, cs, rfl, _⟩; rfl
  · rintro cdv A outer s H vs Q E hr ⟨g, n, rs, c, cs, rfl, hg, hc, hcl, h60, hC, q⟩
    refine ⟨_, (pss_one (ps_if (pt_not (pt_val (pe_callD (ok_is_chain T) hr (by decide) (by rfl) (pa_cons (pv 0) (pa_cons (pv 1) pa_nil))))) (pss_one ps_never) pss_nil)), ?_⟩
    refine ⟨_, rfl, _, rfl, g, n, rs, c, cs, rfl, hg, hc, hcl, h60, fun H1 b s1 hb => ?_⟩
    rw [hb.mpr hC]
    exact ⟨_, rfl, q H1 s1⟩
/-- the tuples of a chain's ropes, in a new list -/
theorem rows_turn {as : List Addr} {H4 : Hp} {D2 : Addr} {cs : List Int} {rs : List Rp} {i : Nat} {k : Int} {a : Addr} (hcl : cs.length ≤ 1000) (ha1 : H4 D2 = some (.lst (as.map V.ref))) (ha2 : TupsAt H4 as (((cs.take i).map (rowOf rs)).map rV)) (hk : cs[i]? = some k)
    (ha : H4 a = some (.tup (rV (rowOf rs k)))) : (as.map V.ref).length < sizeLine ∧ RowsAt (upd H4 D2 (.lst (as.map V.ref ++ [.ref a]))) D2 ((cs.take (i + 1)).map (rowOf rs)) := by
  refine ⟨?_, as ++ [a], by rw [upd_same, List.map_append]; rfl, ?_⟩
  · rw [List.length_map, ha2.1, List.length_map, List.length_map, List.length_take]
    exact Nat.lt_of_le_of_lt (Nat.min_le_right _ _) (Nat.lt_of_le_of_lt hcl (by decide))
  · rw [List.take_add_one, hk, List.map_append, List.map_append]
    have kp : ∀ b x, H4 b = some (.tup x) → (upd H4 D2 (.lst (as.map V.ref ++ [.ref a]))) b = some (.tup x) := fun b x e => by
      rw [upd_ne (ne_of e ha1 (by intro z; cases z))]; exact e
    exact TupsAt.snoc ⟨ha2.1, fun j b x e1 e2 => kp b x (ha2.2 j b x e1 e2)⟩ (kp _ _ ha)
def sp_sum_of (K : PySem.W.Frag) : Sp := fun vs H Q _ => ∃ (g : Addr) (n : Nat) (rs : List Rp) (c : Addr) (cs : List Int), vs = [.ref g, .ref c] ∧ RigA K H g n rs ∧ H c = some (.lst (cs.map V.int)) ∧ cs.length ≤ 1000 ∧ rs.length ≤ 60 ∧ IsCh rs cs ∧
  ∀ H', Same H H' → Q (.int (chSum rs cs)) H'
abbrev N_sum_of : List Str := ["rig", "chain", "number"]
theorem sc_sum_of : FnScope N_sum_of ["rig", "chain"] (defScope s_sum_of) := ⟨rfl, rfl, rfl, by decide +kernel, rfl, by decide +kernel, by decide +kernel⟩
theorem ok_sum_of (T : TX K mg) : Okd P w K mg base 6 "sum_of" ["rig", "chain"] (sp_sum_of K) := by
  obtain ⟨fd, F⟩ := T.d_sum_of
  refine okd_of F T.g_sum_of sc_sum_of (fun _ _ _ _ _ _ us hl => match us, hl with | [_, _], _ => rfl) ?_ ?_
  · rintro vs H Q E ⟨g, n, rs, c, cs, rfl, _⟩; rfl
  · rintro cdv A outer s H vs Q E hr ⟨g, n, rs, c, cs, rfl, hg, hc, hcl, h60, hC, q⟩
    refine ⟨_, (pss_cons (ps_expr (pe_callD (ok_look_at_chain T) hr (by decide) (by rfl) (pa_cons (pv 0) (pa_cons (pv 1) pa_nil))))
  (pss_one (ps_ret (pe_callB (cr_sumK (K := K) rfl rfl) (by rfl) T.b_sum bt_sum (pa_cons (pe_lc (own := [("number", 2)]) (g := gName 2) rfl (sc_sum_of).nd (pi_listK (K := K) rfl (pv 1)) (blkOk_by (N := N_sum_of) (sc := defScope s_sum_of) (own := [("number", 2)]) (by decide +kernel)) (fun _ _ _ _ _ => (pg_name (i := 2) (sc_sum_of).nd rfl (.inl rfl))) (fun _ _ _ _ _ => pts_nil) (fun _ _ _ _ _ => (pe_ix (ix_tupK (K := K) rfl) (pe_methD (ok_Rig_rope T) T.cls_Rig hr (by decide) (pv 0) (pa_cons (pv 2) pa_nil)) pe_int (fun _ _ => rfl)))) pa_nil))))), ?_⟩
    refine ⟨_, rfl, _, rfl, g, n, rs, c, cs, rfl, hg, hc, hcl, h60, hC, fun H1 s1 => ?_⟩
    have hc1 := s1 _ _ hc
    have hg1 := hg.same s1
    refine ⟨_, rfl, c, rfl, ⟨_, SqL.of hc1⟩, fun D hD => ?_⟩
    refine lc_gen (n := cs.length) (fun i => (cs[i]?).map fun k => V.int (rowOf rs k).2.2) (Nat.le_trans hcl (by decide)) hD (fun i H' hi sm => ⟨_, _, SqL.of (sm _ _ hc1), get_map2 (List.getElem?_eq_getElem hi)⟩) (fun H' sm => ⟨_, SqL.of (sm _ _ hc1), by rw [List.length_map]; exact Nat.le_refl _⟩) (fun i x H2 H3 Qt Qf hi sm y k1 k2 => ?_) (fun H2 sm hd => ?_)
    · obtain ⟨rfl, y⟩ := y
      obtain ⟨k, hk, rfl⟩ := get_map (y _ (SqL.of (sm _ _ hc1)))
      obtain ⟨dx, t, as0, hg2, ht, hts⟩ := id (hg1.same sm)
      have hkr := InR.get hC.2.1 hk
      refine ⟨rfl, _, rfl, g, dx, _, rfl, hg2, rigF_m3 _ _, _, rfl, g, n, rs, k, rowOf rs k, rfl, hg1.same sm, hkr.1, row_get hkr.1 hkr.2, fun a ha => ?_⟩
      refine ⟨a, _, 2, .int (rowOf rs k).2.2, rfl, rfl, SqT.of ha, rfl, k1 _ _ ?_ (Same.refl _)⟩
      show (cs[i]?).map _ = _
      rw [hk]; rfl
    · rw [range_map] at hd
      refine ⟨D, cs.map fun k => (rowOf rs k).2.2, rfl, SqL.of (by rw [hd, List.map_map]; rfl), ?_⟩
      rw [← chSum_rows]
      exact q _ (s1.trans sm)
def knotsB (rs : List Rp) (k : Int) (t : List Int) : List Int := (rowOf rs k).1 :: (rowOf rs k).2.1 :: t.map fun j => (rowOf rs j).2.1
def sp_knots_of (K : PySem.W.Frag) : Sp := fun vs H Q _ => ∃ (g : Addr) (n : Nat) (rs : List Rp) (c : Addr) (k : Int) (t : List Int), vs = [.ref g, .ref c] ∧ RigA K H g n rs ∧ H c = some (.lst ((k :: t).map V.int)) ∧ (k :: t).length ≤ 1000 ∧ rs.length ≤ 60 ∧ IsCh rs (k :: t) ∧
  ∀ H' p, Same H H' → H' p = some (.lst ((knotsB rs k t).map V.int)) → Q (.ref p) H'
abbrev N_knots_of : List Str := ["rig", "chain", "first", "others", "number", "rope"]
theorem sc_knots_of : FnScope N_knots_of ["rig", "chain"] (defScope s_knots_of) := ⟨rfl, rfl, rfl, by decide +kernel, rfl, by decide +kernel, by decide +kernel⟩
theorem ok_knots_of (T : TX K mg) : Okd P w K mg base 6 "knots_of" ["rig", "chain"] (sp_knots_of K) := by
  obtain ⟨fd, F⟩ := T.d_knots_of
  refine okd_of F T.g_knots_of sc_knots_of (fun _ _ _ _ _ _ us hl => match us, hl with | [_, _], _ => rfl) ?_ ?_
  · rintro vs H Q E ⟨g, n, rs, c, k, t, rfl, _⟩; rfl
  · rintro cdv A outer s H vs Q E hr ⟨g, n, rs, c, k, t, rfl, hg, hc, hcl, h60, hC, q⟩
    refine ⟨_, (pss_cons (ps_expr (pe_callD (ok_look_at_chain T) hr (by decide) (by rfl) (pa_cons (pv 0) (pa_cons (pv 1) pa_nil))))
  (pss_cons (ps_asg (pe_lc (own := [("number", 4)]) (g := gName 4) rfl (sc_knots_of).nd (pi_listK (K := K) rfl (pv 1)) (blkOk_by (N := N_knots_of) (sc := defScope s_knots_of) (own := [("number", 4)]) (by decide +kernel)) (fun _ _ _ _ _ => (pg_name (i := 4) (sc_knots_of).nd rfl (.inl rfl))) (fun _ _ _ _ _ => pts_nil) (fun _ _ _ _ _ => (pe_methD (ok_Rig_rope T) T.cls_Rig hr (by decide) (pv 0) (pa_cons (pv 4) pa_nil)))) (pg_starTK (K := K) rfl rfl (pgs_cons (pg_name (i := 2) (sc_knots_of).nd rfl (.inl rfl)) (pgs_cons (pg_name (i := 3) (sc_knots_of).nd rfl (.inl rfl)) pgs_nil))))
  (pss_one (ps_ret (pe_op op_cat (pe_lst (pa_cons (pe_ix (ix_tupK (K := K) rfl) (pv 2) pe_int (fun _ _ => rfl)) (pa_cons (pe_ix (ix_tupK (K := K) rfl) (pv 2) pe_int (fun _ _ => rfl)) pa_nil))) (pe_lc (own := [("rope", 5)]) (g := gName 5) rfl (sc_knots_of).nd (pi_listK (K := K) rfl (pv 3)) (blkOk_by (N := N_knots_of) (sc := defScope s_knots_of) (own := [("rope", 5)]) (by decide +kernel)) (fun _ _ _ _ _ => (pg_name (i := 5) (sc_knots_of).nd rfl (.inl rfl))) (fun _ _ _ _ _ => pts_nil) (fun _ _ _ _ _ => (pe_ix (ix_tupK (K := K) rfl) (pv 5) pe_int (fun _ _ => rfl))))))))), ?_⟩
    refine ⟨_, rfl, _, rfl, g, n, rs, c, k :: t, rfl, hg, hc, hcl, h60, hC, fun H1 s1 => ?_⟩
    have hc1 := s1 _ _ hc
    have hg1 := hg.same s1
    refine ⟨_, rfl, c, rfl, ⟨_, SqL.of hc1⟩, fun D2 hD2 => ?_⟩
    refine lc_pv (n := (k :: t).length) (fun i H' => Same H1 H' ∧ RowsAt H' D2 (((k :: t).take i).map (rowOf rs))) ⟨same_upd hD2, [], upd_same, TupsAt.nil⟩ (fun i H' hi p => ⟨_, _, SqL.of (p.1 _ _ hc1), get_map2 (List.getElem?_eq_getElem hi)⟩) (fun i x H3 H4 hi p y => ?_) (fun H3 p => ⟨⟨_, SqL.of (p.1 _ _ hc1), by rw [List.length_map]; exact Nat.le_refl _⟩, ?_⟩)
    · obtain ⟨rfl, y⟩ := y
      obtain ⟨j, hk, rfl⟩ := get_map (y _ (SqL.of (p.1 _ _ hc1)))
      obtain ⟨dx, t0, as0, hg2, ht, hts⟩ := id (hg1.same p.1)
      obtain ⟨as, ha1, ha2⟩ := p.2
      have hkr := InR.get hC.2.1 hk
      refine ⟨rfl, _, rfl, g, dx, _, rfl, hg2, rigF_m3 _ _, _, rfl, g, n, rs, j, rowOf rs j, rfl, hg1.same p.1, hkr.1, row_get hkr.1 hkr.2, fun a ha => ?_⟩
      obtain ⟨e1, e2⟩ := rows_turn hcl ha1 ha2 hk ha
      exact ⟨_, ha1, e1, same_upd2 hD2 p.1, e2⟩
    rw [List.take_length] at p
    obtain ⟨p1, as, ha1, ha2⟩ := p
    cases as with
    | nil => have := ha2.1; simp at this
    | cons a0 as =>
      have h0 := ha2.2 0 a0 _ rfl rfl
      refine ⟨D2, .ref a0, as.map V.ref, rfl, SqL.of ha1, fun p hp => ?_⟩
      refine ⟨_, _, rfl, _, _, rfl, rfl, ?_⟩
      have s3 : Same H3 (upd H3 p (.lst (as.map V.ref))) := same_upd hp
      have hp3 : (upd H3 p (.lst (as.map V.ref))) p = some (.lst (as.map V.ref)) := upd_same
      revert s3 hp3
      generalize upd H3 p (.lst (as.map V.ref)) = H4
      intro s3 hp3
      have htl : TupsAt H4 as ((t.map (rowOf rs)).map rV) := ⟨by have := ha2.1; simpa using this, fun i b x e1 e2 => s3 _ _ (ha2.2 (i + 1) b x e1 e2)⟩
      have h04 := s3 _ _ h0
      -- [first[0], first[1]]
      refine ⟨_, rfl, a0, _, 0, .int (rowOf rs k).1, rfl, rfl, SqT.of h04, rfl, _, rfl, a0, _, 1, .int (rowOf rs k).2.1, rfl, rfl, SqT.of h04, rfl, (by show 2 ≤ sizeLine; decide), fun z hz => ?_⟩
      have s4 : Same H4 (upd H4 z (.lst [.int (rowOf rs k).1, .int (rowOf rs k).2.1])) := same_upd hz
      have hz4 : (upd H4 z (.lst [.int (rowOf rs k).1, .int (rowOf rs k).2.1])) z = some (.lst [.int (rowOf rs k).1, .int (rowOf rs k).2.1]) := upd_same
      revert s4 hz4
      generalize upd H4 z (.lst [.int (rowOf rs k).1, .int (rowOf rs k).2.1]) = H5
      intro s4 hz4
      have hp5 := s4 _ _ hp3
      have htl5 := htl.same s4
      have el : as.length = t.length := by rw [htl.1, List.length_map, List.length_map]
      have hct : t.length ≤ 1000 := by rw [List.length_cons] at hcl; omega
      refine ⟨_, rfl, p, rfl, ⟨_, SqL.of hp5⟩, fun D hD => ?_⟩
      refine lc_gen (n := t.length) (fun i => (t[i]?).map fun j => V.int (rowOf rs j).2.1) (Nat.le_trans hct (by decide)) hD (fun i H' hi sm => ⟨_, _, SqL.of (sm _ _ hp5), get_map2 (List.getElem?_eq_getElem (by rw [el]; exact hi))⟩) (fun H' sm => ⟨_, SqL.of (sm _ _ hp5), by rw [List.length_map, el]; exact Nat.le_refl _⟩) (fun i x H6 H7 Qt Qf hi sm y k1 k2 => ?_) (fun H6 sm hd => ?_)
      · obtain ⟨rfl, y⟩ := y
        obtain ⟨b, hb, rfl⟩ := get_map (y _ (SqL.of (sm _ _ hp5)))
        obtain ⟨y1, hy1, t1⟩ := (htl5.same sm).at_ hb
        obtain ⟨r1, hr1, rfl⟩ := get_map hy1
        obtain ⟨j, hj, rfl⟩ := get_map hr1
        refine ⟨rfl, _, rfl, b, _, 1, .int (rowOf rs j).2.1, rfl, rfl, SqT.of t1, rfl, k1 _ _ ?_ (Same.refl _)⟩
        show (t[i]?).map _ = _
        rw [hj]; rfl
      · rw [range_map] at hd
        refine ⟨z, D, _, _, rfl, rfl, sm _ _ hz4, hd, ?_, fun w hw => ?_⟩
        · rw [List.length_map]
          exact Nat.le_trans (Nat.add_le_add_left hct _) (by show 2 + 1000 ≤ sizeLine; decide)
        · refine q _ w ((s1.trans p1).trans ((s3.trans s4).trans (sm.trans (same_upd hw)))) ?_
          rw [upd_same, knotsB, List.map_cons, List.map_cons, List.map_map]
          rfl
theorem lastL_get (r : Rp) : ∀ t : List Rp, ∃ pre, (r.2.1 :: t.map (·.2.1)) = pre ++ [lastL r t]
  | [] => ⟨[], rfl⟩
  | r2 :: t => by
    obtain ⟨pre, h⟩ := lastL_get r2 t
    have e : lastL r (r2 :: t) = lastL r2 t := by
      unfold lastL
      cases t with
      | nil => rfl
      | cons r3 t => rw [List.getLast?_cons_cons, List.getLast?_cons]; rfl
    refine ⟨r.2.1 :: pre, ?_⟩
    rw [List.map_cons, h, e]
    rfl
theorem knots_last (rs : List Rp) (k : Int) (t : List Int) : atI ((knotsB rs k t).map V.int) (-1) = some (.int (lastL (rowOf rs k) (t.map (rowOf rs)))) := by
  obtain ⟨pre, h⟩ := lastL_get (rowOf rs k) (t.map (rowOf rs))
  have e : knotsB rs k t = ((rowOf rs k).1 :: pre) ++ [lastL (rowOf rs k) (t.map (rowOf rs))] := by
    show (rowOf rs k).1 :: (rowOf rs k).2.1 :: t.map (fun j => (rowOf rs j).2.1) = _
    rw [List.map_map] at h
    rw [show (t.map fun j => (rowOf rs j).2.1) = t.map ((fun r : Rp => r.2.1) ∘ rowOf rs) from rfl, h]
    rfl
  rw [e, List.map_append]
  exact atI_last _ _
def sp_leads (K : PySem.W.Frag) : Sp := fun vs H Q _ => ∃ (g : Addr) (n : Nat) (rs : List Rp) (c : Addr) (cs : List Int) (u l : Int), vs = [.ref g, .ref c, .int u, .int l] ∧ RigA K H g n rs ∧ H c = some (.lst (cs.map V.int)) ∧ cs.length ≤ 1000 ∧ rs.length ≤ 60 ∧
  ∀ H' b, Same H H' → (b = true ↔ cs ≠ [] ∧ ChOk rs u cs l) → Q (.bl b) H'
abbrev N_leads : List Str := ["rig", "thing", "upper", "lower", "knots"]
theorem sc_leads : FnScope N_leads ["rig", "thing", "upper", "lower"] (defScope s_leads) := ⟨rfl, rfl, rfl, by decide +kernel, rfl, by decide +kernel, by decide +kernel⟩
theorem ok_leads (T : TX K mg) : Okd P w K mg base 7 "leads" ["rig", "thing", "upper", "lower"] (sp_leads K) := by
  obtain ⟨fd, F⟩ := T.d_leads
  refine okd_of F T.g_leads sc_leads (fun _ _ _ _ _ _ us hl => match us, hl with | [_, _, _, _], _ => rfl) ?_ ?_
  · rintro vs H Q E ⟨g, n, rs, c, cs, u, l, rfl, _⟩; rfl
  · rintro cdv A outer s H vs Q E hr ⟨g, n, rs, c, cs, u, l, rfl, hg, hc, hcl, h60, q⟩
    refine ⟨_, (pss_cons (ps_if (pt_not (pt_val (pe_callD (ok_is_chain T) hr (by decide) (by rfl) (pa_cons (pv 0) (pa_cons (pv 1) pa_nil))))) (pss_one (ps_ret pe_bl)) pss_nil)
  (pss_cons (ps_set (i := 4) (sc_leads).nd rfl (.inl rfl) (pe_callD (ok_knots_of T) hr (by decide) (by rfl) (pa_cons (pv 0) (pa_cons (pv 1) pa_nil))))
  (pss_one (ps_ret (pe_and (pe_cmpR op_eq (pe_ix (ix_listK (K := K) rfl) (pv 4) pe_int (fun _ _ => rfl)) (pv 2) (nomark _)) (pe_one (pe_cmpR op_eq (pe_ix (ix_listK (K := K) rfl) (pv 4) (pe_un un_neg pe_int) (fun _ _ => rfl)) (pv 3) (nomark _)))))))), ?_⟩
    refine ⟨_, rfl, _, rfl, g, n, rs, c, cs, rfl, hg, hc, hcl, h60, fun H1 b s1 hb => ⟨_, rfl, ?_⟩⟩
    by_cases hC : IsCh rs cs
    · rw [hb.mpr hC]
      refine iteF ?_
      cases cs with
      | nil => exact absurd rfl hC.1
      | cons k t =>
        refine ⟨_, rfl, _, rfl, g, n, rs, c, k, t, rfl, hg.same s1, s1 _ _ hc, hcl, h60, hC, fun H2 p s2 hp => ?_⟩
        refine ⟨_, rfl, p, _, 0, .int (rowOf rs k).1, rfl, rfl, SqL.of hp, atI_nat (j := 0) rfl, _, rfl, rfl, _, rfl, ?_⟩
        have key := leads_iff (c := k :: t) rfl hC u l
        refine ite2 (fun e => ?_) (fun e => ?_)
        · have e : (rowOf rs k).1 = u := V.int.inj (of_decide_eq_true e)
          refine ⟨_, rfl, 1, rfl, p, _, -1, _, rfl, rfl, SqL.of hp, knots_last rs k t, _, rfl, rfl, q H2 _ (s1.trans s2) ?_⟩
          constructor
          · intro z
            have z : lastL (rowOf rs k) (t.map (rowOf rs)) = l := V.int.inj (of_decide_eq_true z)
            exact ⟨by simp, key.mp ⟨e, z⟩⟩
          · intro z
            exact decide_eq_true (by rw [(key.mpr z.2).2])
        · have e : ¬ (rowOf rs k).1 = u := fun z => e (decide_eq_true (by rw [z]))
          exact q H2 _ (s1.trans s2) ⟨fun z => (by cases z), fun z => absurd (key.mpr z.2).1 e⟩
    · have hbf : b = false := by
        cases b with
        | false => rfl
        | true => exact absurd (hb.mp rfl) hC
      rw [hbf]
      refine iteT ?_
      exact q H1 false s1 ⟨fun z => (by cases z), fun z => absurd (isCh_of z.2 z.1) hC⟩
end
end RF
/-! ## A8 -/
set_option Elab.async false
set_option linter.all false
set_option maxRecDepth 100000
set_option maxHeartbeats 4000000
namespace RF
open PySem PySem.Spec PyProof.Rows L2
section
variable {P : Program} {w : World} {K : PySem.W.Frag} {mg : Str → Option Value} {base : Heap}
/-! ### the heap without some objects -/
def msk (M : List Addr) (H : Hp) : Hp := fun b => if b ∈ M then none else H b
def Trk (M : List Addr) (H : Hp) : Prop := ∀ b ∈ M, ∃ o, H b = some o
theorem msk_sub {M : List Addr} {H : Hp} : Same (msk M H) H := fun b o h => by
  unfold msk at h
  split at h
  · cases h
  · exact h
theorem msk_out {M : List Addr} {H : Hp} {b : Addr} {o : HO} (h : msk M H b = some o) : b ∉ M := fun z => by
  unfold msk at h
  rw [if_pos z] at h
  cases h
theorem msk_of {M : List Addr} {H : Hp} {b : Addr} {o : HO} (hb : b ∉ M) (h : H b = some o) : msk M H b = some o := by
  unfold msk
  rw [if_neg hb]
  exact h
theorem msk_same {M : List Addr} {H H' : Hp} (s : Same H H') : Same (msk M H) (msk M H') := fun b o h => msk_of (msk_out h) (s b o (msk_sub b o h))
theorem msk_upd {M : List Addr} {H : Hp} {a : Addr} {o : HO} (h : a ∉ M) : msk M (upd H a o) = upd (msk M H) a o := by
  funext b
  show (if b ∈ M then none else (if b = a then some o else H b)) = (if b = a then some o else (if b ∈ M then none else H b))
  by_cases q : b ∈ M
  · have : b ≠ a := fun z => h (z ▸ q)
    rw [if_pos q, if_neg this, if_pos q]
  · rw [if_neg q, if_neg q]
theorem msk_in {M : List Addr} {H : Hp} {a : Addr} {o : HO} (h : a ∈ M) : msk M (upd H a o) = msk M H := by
  funext b
  show (if b ∈ M then none else (if b = a then some o else H b)) = (if b ∈ M then none else H b)
  by_cases q : b ∈ M
  · rw [if_pos q, if_pos q]
  · have : b ≠ a := fun z => q (z ▸ h)
    rw [if_neg q, if_neg q, if_neg this]
theorem msk_nil (H : Hp) : msk [] H = H := by
  funext b
  unfold msk
  rw [if_neg (by simp)]
theorem Trk.fresh {M : List Addr} {H : Hp} (t : Trk M H) {a : Addr} (h : H a = none) : a ∉ M := fun z => by
  obtain ⟨o, e⟩ := t a z
  rw [h] at e
  cases e
theorem Trk.same {M : List Addr} {H H' : Hp} (t : Trk M H) (s : Same H H') : Trk M H' := fun b hb => let ⟨o, e⟩ := t b hb; ⟨o, s _ _ e⟩
theorem trk_nil (H : Hp) : Trk [] H := fun b hb => by simp at hb
/-! ### a dict of least sums with their chains -/
abbrev Bst := Int → Option (Int × List Int)
def EntA (H : Hp) (L : Nat) : Option V → Option (Int × List Int) → Prop
  | none, none => True
  | some v, some (x, c) => ∃ t a, v = .ref t ∧ H t = some (.tup [.int x, .ref a]) ∧ H a = some (.lst (c.map V.int)) ∧ c.length ≤ L
  | _, _ => False
theorem EntA.some_ {H : Hp} {L : Nat} {o : Option V} {x : Int} {c : List Int} (h : EntA H L o (some (x, c))) : ∃ t a, o = some (.ref t) ∧ H t = some (.tup [.int x, .ref a]) ∧ H a = some (.lst (c.map V.int)) ∧ c.length ≤ L := by
  cases o with
  | none => exact h.elim
  | some v =>
    obtain ⟨t, a, e, h⟩ := h
    exact ⟨t, a, by rw [e], h⟩
theorem EntA.none_ {H : Hp} {L : Nat} {o : Option V} (h : EntA H L o none) : o = none := by
  cases o with
  | none => rfl
  | some v => exact h.elim
theorem EntA.mono {H H' : Hp} {L L' : Nat} {o : Option V} {p : Option (Int × List Int)} (h : EntA H L o p) (hl : L ≤ L') (k : ∀ b xs, H b = some (.tup xs) → H' b = some (.tup xs)) (k2 : ∀ b xs, H b = some (.lst xs) → H' b = some (.lst xs)) : EntA H' L' o p := by
  cases o with
  | none => cases p with
    | none => trivial
    | some p => exact h.elim
  | some v => cases p with
    | none => exact h.elim
    | some p =>
      obtain ⟨x, c⟩ := p
      obtain ⟨t, a, e, h1, h2, h3⟩ := h
      exact ⟨t, a, e, k _ _ h1, k2 _ _ h2, Nat.le_trans h3 hl⟩
def BestK (H : Hp) (kvs : List (Key × V)) (B : Bst) (L : Nat) : Prop := kvs.length ≤ L ∧ ∀ k : Int, EntA H L (valV kvs (Sum.inl k : Key)) (B k)
def BestA (H : Hp) (d : Addr) (B : Bst) (L : Nat) : Prop := ∃ kvs, H d = some (.dK kvs) ∧ BestK H kvs B L
theorem BestK.mono {H H' : Hp} {kvs : List (Key × V)} {B : Bst} {L L' : Nat} (h : BestK H kvs B L) (hl : L ≤ L') (k : ∀ b xs, H b = some (.tup xs) → H' b = some (.tup xs)) (k2 : ∀ b xs, H b = some (.lst xs) → H' b = some (.lst xs)) : BestK H' kvs B L' :=
  ⟨Nat.le_trans h.1 hl, fun j => (h.2 j).mono hl k k2⟩
theorem BestA.mono {H H' : Hp} {d : Addr} {B : Bst} {L L' : Nat} (h : BestA H d B L) (hl : L ≤ L') (s : Same H H') : BestA H' d B L' := by
  obtain ⟨kvs, h1, h2⟩ := h
  exact ⟨kvs, s _ _ h1, h2.mono hl (fun b xs e => s _ _ e) fun b xs e => s _ _ e⟩
def setE (B : Bst) (u : Int) (p : Int × List Int) : Bst := fun k => if k = u then some p else B k
theorem BestK.put {H : Hp} {d t a : Addr} {kvs kvs0 : List (Key × V)} {B : Bst} {L : Nat} {u x : Int} {c : List Int} (h : BestK H kvs B L) (hd : H d = some (.dK kvs0)) (ht : H t = some (.tup [.int x, .ref a])) (ha : H a = some (.lst (c.map V.int))) (hc : c.length ≤ L + 1) :
    BestA (upd H d (.dK (putK kvs (Sum.inl u : Key) (.ref t)))) d (setE B u (x, c)) (L + 1) := by
  refine ⟨_, upd_same, Nat.le_trans (length_putK _ _ _) (Nat.succ_le_succ h.1), fun k => ?_⟩
  have k1 : ∀ b xs, H b = some (.tup xs) → (upd H d (.dK (putK kvs (Sum.inl u : Key) (.ref t)))) b = some (.tup xs) := fun b xs e => by
    rw [upd_ne (ne_of e hd (by intro z; cases z))]; exact e
  have k2 : ∀ b xs, H b = some (.lst xs) → (upd H d (.dK (putK kvs (Sum.inl u : Key) (.ref t)))) b = some (.lst xs) := fun b xs e => by
    rw [upd_ne (ne_of e hd (by intro z; cases z))]; exact e
  rw [valV_put]
  unfold setE
  by_cases q : k = u
  · rw [if_pos (by rw [q]), if_pos q]
    exact ⟨t, a, rfl, k1 _ _ ht, k2 _ _ ha, hc⟩
  · rw [if_neg (fun z => q (Sum.inl.inj z)), if_neg q]
    exact (h.2 k).mono (Nat.le_succ _) k1 k2
def dOf (B : Bst) : Int → Option Int := fun k => (B k).map Prod.fst
theorem dOf_set (B : Bst) (u x : Int) (c : List Int) : dOf (setE B u (x, c)) = setB (dOf B) u x := by
  funext k
  unfold dOf setE setB
  by_cases q : k = u
  · rw [if_pos q, if_pos q]; rfl
  · rw [if_neg q, if_neg q]
/-- every entry is a chain to G, with its sum -/
def ChS (rs : List Rp) (G : Int → Prop) (B : Bst) : Prop := ∀ k x c, B k = some (x, c) → ∃ g, G g ∧ ChOk rs k c g ∧ chSum rs c = x
theorem ChS.sound {rs : List Rp} {G : Int → Prop} {B : Bst} (h : ChS rs G B) : Sound rs G (dOf B) := fun u d e => by
  unfold dOf at e
  cases q : B u with
  | none => rw [q] at e; cases e
  | some p =>
    obtain ⟨x, c⟩ := p
    rw [q] at e
    have e : x = d := Option.some.inj e
    subst e
    obtain ⟨g, h1, h2, h3⟩ := h u x c q
    exact ⟨c, g, h1, h2, h3⟩
theorem ChS.set {rs : List Rp} {G : Int → Prop} {B : Bst} {i : Nat} {r : Rp} {dv : Int} {c : List Int} (h : ChS rs G B) (hr : rs[i]? = some r) (hv : B r.2.1 = some (dv, c)) : ChS rs G (setE B r.1 (dv + r.2.2, (i : Int) :: c)) := fun k x c' e => by
  unfold setE at e
  by_cases q : k = r.1
  · rw [if_pos q] at e
    cases e
    obtain ⟨g, h1, h2, h3⟩ := h _ _ _ hv
    have hk : rs[((i : Nat) : Int).toNat]? = some r := by simpa using hr
    refine ⟨g, h1, by rw [q]; exact ch_cons (by omega) hk h2, ?_⟩
    rw [sum_cons hk]
    omega
  · rw [if_neg q] at e
    exact h k x c' e
def Zero (G : Int → Prop) (B : Bst) : Prop := ∀ g, G g → ∃ d, dOf B g = some d ∧ d ≤ 0
theorem dOf_some {B : Bst} {k x : Int} {c : List Int} (h : B k = some (x, c)) : dOf B k = some x := by unfold dOf; rw [h]; rfl
theorem of_dOf {B : Bst} {k x : Int} (h : dOf B k = some x) : ∃ c, B k = some (x, c) := by
  unfold dOf at h
  cases q : B k with
  | none => rw [q] at h; cases h
  | some p =>
    obtain ⟨y, c⟩ := p
    rw [q] at h
    have h : y = x := Option.some.inj h
    subst h
    exact ⟨c, rfl⟩
/-- the state of a pass: nothing was made less so far, or something was -/
def PassS (rs : List Rp) (Bs B : Bst) (i : Nat) (lv : V) : Prop :=
  (lv = .non ∧ B = Bs ∧ ∀ (k : Nat) (r : Rp), k < i → rs[k]? = some r → ∀ dv, dOf Bs r.2.1 = some dv → ∃ du, dOf Bs r.1 = some du ∧ du ≤ dv + r.2.2) ∨ ((∃ u, lv = .int u) ∧ ¬ Still rs (dOf Bs))
theorem PassS.keep {rs : List Rp} {Bs B : Bst} {i : Nat} {lv : V} {r : Rp} (h : PassS rs Bs B i lv) (hr : rs[i]? = some r) (hk : ∀ dv, dOf B r.2.1 = some dv → ∃ du, dOf B r.1 = some du ∧ du ≤ dv + r.2.2) : PassS rs Bs B (i + 1) lv := by
  rcases h with ⟨h1, h2, h3⟩ | h
  · refine .inl ⟨h1, h2, fun k r' hki hr' => ?_⟩
    by_cases q : k < i
    · exact h3 k r' q hr'
    · have e : k = i := by omega
      subst e
      rw [hr] at hr'
      cases hr'
      rw [← h2]
      exact hk
  · exact .inr h
theorem PassS.less {rs : List Rp} {Bs B : Bst} {i : Nat} {lv : V} {r : Rp} {dv : Int} (h : PassS rs Bs B i lv) (hr : rs[i]? = some r) (hv : dOf B r.2.1 = some dv) (hl : ∀ du, dOf B r.1 = some du → dv + r.2.2 < du) (B' : Bst) (u : Int) : PassS rs Bs B' (i + 1) (.int u) := by
  rcases h with ⟨h1, h2, h3⟩ | h
  · refine .inr ⟨⟨u, rfl⟩, fun st => ?_⟩
    subst h2
    obtain ⟨du, e1, e2⟩ := st r (List.mem_of_getElem? hr) dv hv
    have := hl du e1
    omega
  · exact .inr ⟨⟨u, rfl⟩, h.2⟩
theorem PassS.end_ {rs : List Rp} {Bs B : Bst} {lv : V} (h : PassS rs Bs B rs.length lv) : (lv = .non ∧ Still rs (dOf B)) ∨ ((∃ u, lv = .int u) ∧ ¬ Still rs (dOf Bs)) := by
  rcases h with ⟨h1, h2, h3⟩ | h
  · refine .inl ⟨h1, fun r hr dv hv => ?_⟩
    obtain ⟨i, hi⟩ := List.mem_iff_getElem?.mp hr
    subst h2
    exact h3 i r (List.getElem?_eq_some_iff.mp hi).1 hi dv hv
  · exact .inr h
def sp_spread (K : PySem.W.Frag) : Sp := fun vs H Q _ => ∃ (l d : Addr) (rs : List Rp) (S : List Int) (n : Nat) (G : Int → Prop) (B : Bst) (M : List Addr), vs = [.ref l, .int n, .ref d] ∧ Trk M H ∧ RowsAt H l rs ∧ WfR n rs ∧ Lets rs S ∧ n ≤ 8 ∧ rs.length ≤ 60 ∧ BestA (msk M H) d B 9 ∧ ChS rs G B ∧ Zero G B ∧
  ∀ H' B', (∀ b o, b ≠ d → H b = some o → H' b = some o) → BestA (msk M H') d B' 900 → ChS rs G B' → Zero G B' → Still rs (dOf B') → Q .non H'
abbrev N_spread : List Str := ["ropes", "many", "best", "turn", "later", "number", "upper", "lower", "most", "found"]
theorem sc_spread : FnScope N_spread ["ropes", "many", "best"] (defScope s_spread) := ⟨rfl, rfl, rfl, by decide +kernel, rfl, by decide +kernel, by decide +kernel⟩
theorem ok_spread (T : TX K mg) : Okd P w K mg base 1 "spread" ["ropes", "many", "best"] (sp_spread K) := by
  obtain ⟨fd, F⟩ := T.d_spread
  refine okd_of F T.g_spread sc_spread (fun _ _ _ _ _ _ us hl => match us, hl with | [_, _, _], _ => rfl) ?_ ?_
  · rintro vs H Q E ⟨l, d, rs, S, n, G, B, M, rfl, _⟩; rfl
  · rintro cdv A outer s H vs Q E hr ⟨l, d, rs, S, n, G, B, M, rfl, hM, ⟨as, hl1, hl2⟩, hw, hL, h8, h60, hB, hcs, hz, q⟩
    have hu := hu_of hr
    refine ⟨_, (pss_cons (ps_for PassesOwn.never rfl (pi_range1 (by rfl) T.b_range (pa_cons (pe_op op_add (pv 1) pe_int) pa_nil)) (pg_name (i := 3) (sc_spread).nd rfl (.inl rfl)) (pss_cons (ps_set (i := 4) (sc_spread).nd rfl (.inl rfl) pe_non)
  (pss_cons (ps_for PassesOwn.never rfl (pi_enumK (K := K) rfl (by rfl) T.b_enumerate (pa_cons (pv 0) pa_nil)) (pg_tupK (K := K) rfl rfl (pgs_cons (pg_name (i := 5) (sc_spread).nd rfl (.inl rfl)) (pgs_cons (pg_tupK (K := K) rfl rfl (pgs_cons (pg_name (i := 6) (sc_spread).nd rfl (.inl rfl)) (pgs_cons (pg_name (i := 7) (sc_spread).nd rfl (.inl rfl)) (pgs_cons (pg_name (i := 8) (sc_spread).nd rfl (.inl rfl)) pgs_nil)))) pgs_nil))) (pss_one (ps_if (pt_cmp (pc_din hu (pv 7) (pv 2))) (pss_cons (ps_set (i := 9) (sc_spread).nd rfl (.inl rfl) (pe_op op_add (pe_ix (ix_tupK (K := K) rfl) (pe_dget hu (pv 2) (pv 7) (fun _ _ => rfl)) pe_int (fun _ _ => rfl)) (pv 8)))
  (pss_one (ps_if (PW.pt (pw_or (pt_cmp (pc_dnotin hu (pv 6) (pv 2))) (pw_or1 (pt_cmpR op_lt (pv 9) (pe_ix (ix_tupK (K := K) rfl) (pe_dget hu (pv 2) (pv 6) (fun _ _ => rfl)) pe_int (fun _ _ => rfl)) (nomark _))))) (pss_cons (ps_dput hu (pv 2) (pv 6) (pe_tup (pa_cons (pv 9) (pa_cons (pe_op op_cat (pe_lst (pa_cons (pv 5) pa_nil)) (pe_ix (ix_tupK (K := K) rfl) (pe_dget hu (pv 2) (pv 7) (fun _ _ => rfl)) pe_int (fun _ _ => rfl))) pa_nil))) rfl)
  (pss_one (ps_set (i := 4) (sc_spread).nd rfl (.inl rfl) (pv 6)))) pss_nil))) pss_nil)))
  (pss_one (ps_if (pt_cmpR op_isN (pv 4) pe_non (nomark _)) (pss_one (ps_ret pe_non)) pss_nil)))))
  (pss_one ps_never)), ?_⟩
    have hal : as.length = rs.length := by rw [hl2.1, List.length_map]
    have e2 : ((n : Int) + 2).toNat = n + 2 := by omega
    refine ⟨_, rfl, _, _, rfl, rfl, (n : Int) + 2, rfl, by omega, by omega, ?_⟩
    rw [e2]
    refine for_range (n := n + 2) (fun t σ H1 => ∃ v3 v4 v5 v6 v7 v8 v9, σ = [some (.ref l), some (.int n), some (.ref d), v3, v4, v5, v6, v7, v8, v9] ∧ t ≤ n ∧ (∀ b o, b ≠ d → H b = some o → H1 b = some o) ∧ ∃ B1, BestA (msk M H1) d B1 (9 + t * 60) ∧ ChS rs G B1 ∧ Zero G B1 ∧ Upto rs G t (dOf B1))
      ⟨_, _, _, _, _, _, _, rfl, Nat.zero_le _, fun b o _ e => e, B, hB, hcs, hz, upto_zero hz⟩ ?_ (fun σ H1 h => ?_)
    · rintro t σ H1 ht ⟨v3, v4, v5, v6, v7, v8, v9, rfl, htn, k1, B1, hB1, hcs1, hz1, hup⟩
      have hdl : l ≠ d := fun z => by
        obtain ⟨kvs, e, _⟩ := hB
        rw [z, msk_sub _ _ e] at hl1
        cases hl1
      refine ⟨_, rfl, l, _, rfl, SqL.of (k1 _ _ hdl hl1), ?_⟩
      refine for_gen (n := rs.length) (fun i σ H2 => ∃ v3 lv v5 v6 v7 v8 v9, σ = [some (.ref l), some (.int n), some (.ref d), v3, some lv, v5, v6, v7, v8, v9] ∧ (∀ b o, b ≠ d → H b = some o → H2 b = some o) ∧ ∃ B2, BestA (msk M H2) d B2 (9 + t * 60 + i) ∧ ChS rs G B2 ∧ Zero G B2 ∧ Mid rs G t i (dOf B2) ∧ PassS rs B1 B2 i lv)
        ⟨_, _, _, _, _, _, _, rfl, k1, B1, hB1, hcs1, hz1, mid_start hup, .inl ⟨rfl, rfl, fun k r hk => by omega⟩⟩ (fun i σ H2 hi p => ?_) (fun i x σ H2 H3 hi p y => ?_) (fun σ H2 p => ?_)
      · obtain ⟨_, _, _, _, _, _, _, _, k2, _⟩ := p
        exact ⟨_, _, SqL.of (k2 _ _ hdl hl1), get_map2 (List.getElem?_eq_getElem (by rw [hal]; exact hi))⟩
      · obtain ⟨v3, lv, v5, v6, v7, v8, v9, rfl, k2, B2, hB2, hcs2, hz2, hmid, hps⟩ := p
        obtain ⟨Tp, x, rfl, hT, rfl, y⟩ := y
        obtain ⟨b, hb, rfl⟩ := get_map (y _ (SqL.of (k2 _ _ hdl hl1)))
        have hT2 : ∀ b o, H2 b = some o → (upd H2 Tp (.tup [.int (i : Nat), .ref b])) b = some o := fun c o e => (same_upd hT) c o e
        obtain ⟨r, hr2⟩ : ∃ r, rs[i]? = some r := ⟨rs[i], List.getElem?_eq_getElem hi⟩
        have hbd : b ≠ d := by
          have h1 := hl2.2 i b _ hb (get_map2 hr2)
          obtain ⟨kvs, e, _⟩ := hB
          exact ne_of h1 (msk_sub _ _ e) (by intro z; cases z)
        have hb2 : H2 b = some (.tup (rV r)) := k2 _ _ hbd (hl2.2 i b _ hb (get_map2 hr2))
        have s3 : Same H2 (upd H2 Tp (.tup [.int (i : Nat), .ref b])) := same_upd hT
        have hTp : (upd H2 Tp (.tup [.int (i : Nat), .ref b])) Tp = some (.tup [.int (i : Nat), .ref b]) := upd_same
        revert s3 hTp
        generalize upd H2 Tp (.tup [.int (i : Nat), .ref b]) = H3
        intro s3 hTp
        have hb3 := s3 _ _ hb2
        have k3 : ∀ b o, b ≠ d → H b = some o → H3 b = some o := fun b o h e => s3 _ _ (k2 b o h e)
        obtain ⟨u, lo, m⟩ := r
        obtain ⟨kvs, hkdM, hbk⟩ := hB2.mono (Nat.le_refl _) (msk_same s3)
        have hkd := msk_sub _ _ hkdM
        have hM3 : Trk M H3 := fun b hb => by
          obtain ⟨o, e⟩ := hM b hb
          exact ⟨o, k3 b o (fun z => msk_out hkdM (z ▸ hb)) e⟩
        refine ⟨Tp, _, rfl, SqT.of hTp, rfl, _, _, rfl, _, _, rfl, ⟨b, _, rfl, SqT.of hb3, rfl, _, _, rfl, _, _, rfl, _, _, rfl, rfl, rfl, ?_⟩⟩
        -- if lower in best
        refine ⟨_, rfl, _, rfl, d, _, rfl, DGet.k (k := Sum.inl lo) hkd, _, rfl, ?_⟩
        have hent := hbk.2 lo
        cases hBl : B2 lo with
        | none =>
          rw [hBl] at hent
          rw [hent.none_]
          refine ⟨_, _, _, _, _, _, _, rfl, k3, B2, ⟨kvs, hkdM, hbk.mono (Nat.le_succ _) (fun _ _ e => e) fun _ _ e => e⟩, hcs2, hz2, mid_keep hmid hr2 (fun dv hv => ?_), hps.keep hr2 (fun dv hv => ?_)⟩
          all_goals
            obtain ⟨c, hc⟩ := of_dOf hv
            rw [show (u, lo, m).2.1 = lo from rfl, hBl] at hc
            cases hc
        | some p =>
          obtain ⟨dv, c⟩ := p
          rw [hBl] at hent
          obtain ⟨t1, a1, e1, ht1, ha1, hc1⟩ := hent.some_
          have ht1 := msk_sub _ _ ht1
          have ha1 := msk_sub _ _ ha1
          rw [e1]
          refine iteT ?_
          refine ⟨_, rfl, _, rfl, d, _, rfl, (by rw [← e1]; exact DGet.k (k := Sum.inl lo) hkd), t1, _, 0, .int dv, rfl, rfl, SqT.of ht1, rfl, _, rfl, _, _, rfl, rfl, ?_⟩
          have dlo : dOf B2 lo = some dv := dOf_some hBl
          -- the relaxing
          have relax : (∀ du, dOf B2 u = some du → dv + m < du) → ∀ (D : Ends), (∀ σ H4, (∃ v3 lv v5 v6 v7 v8 v9, σ = [some (.ref l), some (.int n), some (.ref d), v3, some lv, v5, v6, v7, v8, v9] ∧ (∀ b o, b ≠ d → H b = some o → H4 b = some o) ∧ ∃ B2, BestA (msk M H4) d B2 (9 + t * 60 + (i + 1)) ∧ ChS rs G B2 ∧ Zero G B2 ∧ Mid rs G t (i + 1) (dOf B2) ∧ PassS rs B1 B2 (i + 1) lv) → D.nx σ H4) →
              ∀ (z p tt : Addr), H3 z = none → (upd H3 z (.lst [.int i])) p = none → (upd (upd H3 z (.lst [.int i])) p (.lst ([V.int i] ++ c.map V.int))) tt = none → ∀ v3 v5 v9,
              D.nx [some (.ref l), some (.int n), some (.ref d), v3, some (.int u), v5, some (.int u), some (.int lo), some (.int m), v9]
                (upd (upd (upd (upd H3 z (.lst [.int i])) p (.lst ([V.int i] ++ c.map V.int))) tt (.tup [.int (dv + m), .ref p])) d (.dK (putK kvs (Sum.inl u : Key) (.ref tt)))) := by
            intro hless D hD z p tt hz0 hp0 ht0 v3 v5 v9
            have s4 : Same H3 (upd (upd (upd H3 z (.lst [.int i])) p (.lst ([V.int i] ++ c.map V.int))) tt (.tup [.int (dv + m), .ref p])) := ((same_upd hz0).trans (same_upd hp0)).trans (same_upd ht0)
            have hpt : p ≠ tt := ne_of_none upd_same ht0
            have s4M := msk_same (M := M) s4
            have hM4 : Trk M (upd H3 z (.lst [.int (i : Nat)])) := hM3.same (same_upd hz0)
            have hM5 : Trk M (upd (upd H3 z (.lst [.int (i : Nat)])) p (.lst ([V.int (i : Nat)] ++ c.map V.int))) := hM4.same (same_upd hp0)
            have hbk4 := hbk.mono (L' := 9 + t * 60 + i) (Nat.le_refl _) (fun b xs e => s4M _ _ e) (fun b xs e => s4M _ _ e)
            have hput := hbk4.put (u := u) (x := dv + m) (c := (i : Int) :: c) (s4M _ _ hkdM) (msk_of (hM5.fresh ht0) upd_same) (msk_of (hM4.fresh hp0) (by rw [upd_ne hpt, upd_same]; rfl)) (by rw [List.length_cons]; omega)
            rw [← msk_upd (msk_out hkdM)] at hput
            refine hD _ _ ⟨_, _, _, _, _, _, _, rfl, fun b o hb e => ?_, _, hput, hcs2.set hr2 hBl, fun g hg => ?_, ?_, hps.less hr2 dlo hless _ u⟩
            · rw [upd_ne hb]
              exact s4 _ _ (k3 b o hb e)
            · rw [dOf_set]
              obtain ⟨x, ex, lx⟩ := hz2 g hg
              obtain ⟨x', ex', lx'⟩ := set_dn (B := dOf B2) (u := u) (d := dv + m) (fun d0 e0 => Int.le_of_lt (hless d0 e0)) g x ex
              exact ⟨x', ex', by omega⟩
            · rw [dOf_set]
              exact mid_set hmid hr2 dlo fun du hdu => Int.le_of_lt (hless du hdu)
          have hentU := hbk.2 u
          have hclen : ([V.int (i : Nat)]).length + (c.map V.int).length ≤ sizeLine := by
            rw [List.length_map]
            have : t * 60 ≤ 480 := by omega
            exact Nat.le_trans (Nat.add_le_add_left (Nat.le_trans hc1 (show 9 + t * 60 + i ≤ 1000 by omega)) 1) (by decide)
          have hkl : kvs.length < sizeLine := Nat.lt_of_le_of_lt (Nat.le_trans hbk.1 (show 9 + t * 60 + i ≤ 1000 by omega)) (by decide)
          have step : (∀ du, dOf B2 u = some du → dv + m < du) → ∀ (D : Ends), (∀ σ H4, (∃ v3 lv v5 v6 v7 v8 v9, σ = [some (.ref l), some (.int n), some (.ref d), v3, some lv, v5, v6, v7, v8, v9] ∧ (∀ b o, b ≠ d → H b = some o → H4 b = some o) ∧ ∃ B2, BestA (msk M H4) d B2 (9 + t * 60 + (i + 1)) ∧ ChS rs G B2 ∧ Zero G B2 ∧ Mid rs G t (i + 1) (dOf B2) ∧ PassS rs B1 B2 (i + 1) lv) → D.nx σ H4) →
              tSeq (sDPut (tVar 2) (tVar 6) (tTup (tCons (tVar 9) (tCons (tOp rCat (tLst (tCons (tVar 5) tNil)) (tOp (rIxT K) (tDGet (tVar 2) (tVar 7)) (tC (.int 1)))) tNil)))) (tAsg (tVar 6) (gName 4)) D
                [some (.ref l), some (.int n), some (.ref d), v3, some lv, some (.int i), some (.int u), some (.int lo), some (.int m), some (.int (dv + m))] H3 := by
            intro hless D hD
            refine ⟨_, rfl, _, rfl, (by show 1 ≤ sizeLine; decide), fun z hz0 => ?_⟩
            have hkd1 := same_upd (o := .lst [.int (i : Nat)]) hz0 _ _ hkd
            refine ⟨_, rfl, _, rfl, d, _, rfl, (by rw [← e1]; exact DGet.k (k := Sum.inl lo) hkd1), t1, _, 1, .ref a1, rfl, rfl, SqT.of (same_upd hz0 _ _ ht1), rfl, ?_⟩
            refine ⟨z, a1, _, _, rfl, rfl, upd_same, same_upd hz0 _ _ ha1, hclen, fun p hp0 => ⟨(by show 2 ≤ sizeLine; decide), fun tt ht0 => ?_⟩⟩
            have hkd3 := same_upd (o := .tup [.int (dv + m), .ref p]) ht0 _ _ (same_upd (o := .lst ([V.int (i : Nat)] ++ c.map V.int)) hp0 _ _ hkd1)
            refine ⟨_, rfl, _, rfl, d, _, rfl, DPut.k (k := Sum.inl u) hkd3 hkl, ?_⟩
            exact ⟨_, rfl, relax hless D hD z p tt hz0 hp0 ht0 _ _ _⟩
          -- the test
          refine ⟨_, rfl, _, rfl, d, _, rfl, DGet.k (k := Sum.inl u) hkd, _, rfl, ?_⟩
          cases hBu : B2 u with
          | none =>
            rw [hBu] at hentU
            rw [hentU.none_]
            refine iteT (iteT ?_)
            exact step (fun du hdu => by obtain ⟨c, hc⟩ := of_dOf hdu; rw [hBu] at hc; cases hc) _ fun σ H4 h => h
          | some pu =>
            obtain ⟨du, cu⟩ := pu
            rw [hBu] at hentU
            obtain ⟨t2, a2, e2, ht2, ha2, hc2⟩ := hentU.some_
            have ht2 := msk_sub _ _ ht2
            rw [e2]
            refine iteF ?_
            refine ⟨_, rfl, _, rfl, _, rfl, d, _, rfl, (by rw [← e2]; exact DGet.k (k := Sum.inl u) hkd), t2, _, 0, .int du, rfl, rfl, SqT.of ht2, rfl, _, _, rfl, rfl, _, rfl, ?_⟩
            refine ite2 (fun hlt => ?_) (fun hge => ?_)
            · have hlt := of_decide_eq_true hlt
              exact step (fun du' hdu => by rw [dOf_some hBu] at hdu; cases hdu; exact hlt) _ fun σ H4 h => h
            · have hge : ¬ dv + m < du := fun z => hge (decide_eq_true z)
              have hkp : ∀ dv', dOf B2 lo = some dv' → ∃ du', dOf B2 u = some du' ∧ du' ≤ dv' + m := fun dv' hv => by
                rw [dlo] at hv
                cases hv
                exact ⟨du, dOf_some hBu, by omega⟩
              exact ⟨_, _, _, _, _, _, _, rfl, k3, B2, ⟨kvs, hkdM, hbk.mono (Nat.le_succ _) (fun _ _ e => e) fun _ _ e => e⟩, hcs2, hz2, mid_keep hmid hr2 hkp, hps.keep hr2 hkp⟩
      · obtain ⟨v3, lv, v5, v6, v7, v8, v9, rfl, k2, B2, hB2, hcs2, hz2, hmid, hps⟩ := p
        refine ⟨⟨_, SqL.of (k2 _ _ hdl hl1), by rw [List.length_map, hal]; exact Nat.le_refl _⟩, ?_⟩
        refine ⟨_, rfl, rfl, _, rfl, ?_⟩
        rcases hps.end_ with ⟨rfl, hst⟩ | ⟨⟨u, rfl⟩, hst⟩
        · refine ite2 (fun _ => ?_) (fun z => absurd (decide_eq_true rfl) z)
          exact q H2 B2 k2 (by obtain ⟨kvs, h1, h2⟩ := hB2; exact ⟨kvs, h1, h2.mono (by omega) (fun _ _ e => e) fun _ _ e => e⟩) hcs2 hz2 hst
        · refine ite2 (fun z => nomatch (of_decide_eq_true z)) (fun _ => ?_)
          have htn' : t < n := by
            rcases Nat.lt_or_ge t n with h | h
            · exact h
            · have e : t = n := by omega
              subst e
              exact absurd (still_of hw hL hcs1.sound hup) hst
          exact ⟨_, _, _, _, _, _, _, rfl, htn', k2, B2, by
            obtain ⟨kvs, h1, h2⟩ := hB2
            exact ⟨kvs, h1, h2.mono (by omega) (fun _ _ e => e) fun _ _ e => e⟩, hcs2, hz2, mid_end hmid⟩
    · obtain ⟨_, _, _, _, _, _, _, _, h, _⟩ := h
      omega
end
end RF
/-! ## A9 -/
set_option Elab.async false
set_option linter.all false
set_option maxRecDepth 100000
set_option maxHeartbeats 4000000
namespace RF
open PySem PySem.Spec PyProof.Rows L2
section
variable {P : Program} {w : World} {K : PySem.W.Frag} {mg : Str → Option Value} {base : Heap}
def B0 (i : Nat) : Bst := fun k => if 0 ≤ k ∧ k < (i : Int) then some (0, []) else none
theorem B0_succ (i : Nat) : B0 (i + 1) = setE (B0 i) (i : Int) (0, []) := by
  funext k
  show (if 0 ≤ k ∧ k < ((i + 1 : Nat) : Int) then some (0, []) else none) = (if k = (i : Int) then some (0, []) else if 0 ≤ k ∧ k < (i : Int) then some (0, []) else none)
  by_cases q : k = (i : Int)
  · rw [if_pos (by omega), if_pos q]
  · rw [if_neg q]
    by_cases p : 0 ≤ k ∧ k < (i : Int)
    · rw [if_pos p, if_pos (by omega)]
    · rw [if_neg p, if_neg (by omega)]
def sp_solved (K : PySem.W.Frag) : Sp := fun vs H Q _ => ∃ (l : Addr) (rs : List Rp) (S : List Int) (n : Nat), vs = [.int n, .ref l] ∧ RowsAt H l rs ∧ WfR n rs ∧ Lets rs S ∧ n ≤ 8 ∧ rs.length ≤ 60 ∧
  ∀ H' p z, Same H H' → H' p = some (.tup [.str "stand", z]) → Q (.ref p) H'
abbrev N_solved : List Str := ["many", "ropes", "best", "knot", "ring"]
theorem sc_solved : FnScope N_solved ["many", "ropes"] (defScope s_solved) := ⟨rfl, rfl, rfl, by decide +kernel, rfl, by decide +kernel, by decide +kernel⟩
theorem ok_solved (T : TX K mg) : Okd P w K mg base 2 "solved" ["many", "ropes"] (sp_solved K) := by
  obtain ⟨fd, F⟩ := T.d_solved
  refine okd_of F T.g_solved sc_solved (fun _ _ _ _ _ _ us hl => match us, hl with | [_, _], _ => rfl) ?_ ?_
  · rintro vs H Q E ⟨l, rs, S, n, rfl, _⟩; rfl
  · rintro cdv A outer s H vs Q E hr ⟨l, rs, S, n, rfl, hl, hw, hL, h8, h60, q⟩
    have hu := hu_of hr
    refine ⟨_, (pss_cons (ps_set (i := 2) (sc_solved).nd rfl (.inr rfl) (pe_dc (own := [("knot", 3)]) (g := gName 3) rfl (sc_solved).nd (pi_range1 (by rfl) T.b_range (pa_cons (pe_op op_add (pv 0) pe_int) pa_nil)) (blkOk_by (N := N_solved) (sc := defScope s_solved) (own := [("knot", 3)]) (by decide +kernel)) (fun _ _ _ _ _ => (pg_name (i := 3) (sc_solved).nd rfl (.inl rfl))) (fun _ _ _ _ _ => pts_nil) (fun _ _ _ _ _ => (pv 3)) (fun _ _ _ _ _ => (pe_tup (pa_cons pe_int (pa_cons (pe_lst pa_nil) pa_nil))))))
  (pss_cons (ps_set (i := 4) (sc_solved).nd rfl (.inl rfl) (pe_callD (ok_spread T) hr (by decide) (by rfl) (pa_cons (pv 1) (pa_cons (pv 0) (pa_cons (pv 2) pa_nil)))))
  (pss_cons (ps_if (pt_cmpR op_notN (pv 4) pe_non (nomark _)) (pss_one (ps_ret (pe_tup (pa_cons pe_str (pa_cons (pv 4) pa_nil))))) pss_nil)
  (pss_one (ps_ret (pe_tup (pa_cons pe_str (pa_cons (pe_lc (own := [("knot", 3)]) (g := gName 3) rfl (sc_solved).nd (pi_range2 (by rfl) T.b_range (pa_cons pe_int (pa_cons (pe_op op_add (pv 0) pe_int) pa_nil))) (blkOk_by (N := N_solved) (sc := defScope s_solved) (own := [("knot", 3)]) (by decide +kernel)) (fun _ _ _ _ _ => (pg_name (i := 3) (sc_solved).nd rfl (.inl rfl))) (fun _ _ _ _ _ => pts_nil) (fun _ _ _ _ _ => (pe_op op_sub (pe_ix (ix_tupK (K := K) rfl) (pe_dget hu (pv 2) (pv 3) (fun _ _ => rfl)) pe_int (fun _ _ => rfl)) (pe_ix (ix_tupK (K := K) rfl) (pe_dget hu (pv 2) pe_int (fun _ _ => rfl)) pe_int (fun _ _ => rfl))))) pa_nil)))))))), ?_⟩
    have e1 : ((n : Int) + 1).toNat = n + 1 := by omega
    refine ⟨_, rfl, _, _, rfl, rfl, (n : Int) + 1, rfl, by omega, by omega, ?_⟩
    rw [e1]
    intro D hD
    refine dc_pv (n := n + 1) (fun i H' => Same H H' ∧ BestA H' D (B0 i) i) ⟨same_upd hD, [], upd_same, Nat.zero_le _, fun k => ?_⟩ (fun i H' hi p => hi) (fun i x H1 H2 hi p y => ?_) (fun H1 p => ⟨Nat.le_refl _, ?_⟩)
    · have e : B0 0 k = none := by unfold B0; rw [if_neg (by omega)]
      rw [e]; trivial
    · obtain ⟨rfl, rfl⟩ := y
      obtain ⟨p1, kvs, hk, hbk⟩ := p
      refine ⟨rfl, _, rfl, Nat.zero_le _, fun a ha => ⟨(by show 2 ≤ sizeLine; decide), fun t ht => ?_⟩⟩
      have s2 : Same H2 (upd (upd H2 a (.lst [])) t (.tup [.int 0, .ref a])) := (same_upd ha).trans (same_upd ht)
      refine ⟨kvs, Sum.inl (0 + (i : Int)), rfl, s2 _ _ hk, Nat.lt_of_le_of_lt hbk.1 (Nat.lt_of_le_of_lt (show i ≤ 1000 by omega) (by decide)), ?_⟩
      have hat : a ≠ t := ne_of_none upd_same ht
      have hput := (hbk.mono (L' := i) (Nat.le_refl _) (fun b xs e => s2 _ _ e) (fun b xs e => s2 _ _ e)).put (u := 0 + (i : Int)) (x := 0) (c := []) (s2 _ _ hk) upd_same (a := a) (by rw [upd_ne hat, upd_same]; rfl) (Nat.zero_le _)
      refine ⟨fun b o e => ?_, ?_⟩
      · rw [upd_ne (ne_of_none e hD)]
        exact s2 _ _ (p1 _ _ e)
      · have e0 : B0 (i + 1) = setE (B0 i) (0 + (i : Int)) (0, []) := by rw [B0_succ, Int.zero_add]
        rw [e0]
        exact hput
    obtain ⟨p1, hB⟩ := p
    -- spread
    have kn : ∀ k : Int, Kn n k → B0 (n + 1) k = some (0, []) := fun k h => by
      unfold B0
      rw [if_pos (by obtain ⟨a, b⟩ := h; omega)]
    refine ⟨_, rfl, _, rfl, _, rfl, l, D, rs, S, n, Kn n, B0 (n + 1), [], rfl, trk_nil _, hl.same p1, hw, hL, h8, h60, ?_, fun k x c e => ?_, fun g hg => ⟨0, dOf_some (kn g hg), Int.le_refl _⟩, fun H2 B' k2 hB' hcs hz hst => ?_⟩
    · rw [msk_nil]; exact hB.mono (by omega) (Same.refl _)
    · unfold B0 at e
      split at e
      · rename_i h
        cases e
        exact ⟨k, ⟨h.1, by omega⟩, rfl, rfl⟩
      · cases e
    rw [msk_nil] at hB'
    obtain ⟨kvs, hkd, hbk⟩ := hB'
    have s2 : Same H H2 := fun b o e => k2 b o (ne_of_none e hD) (p1 _ _ e)
    refine ⟨_, rfl, rfl, _, rfl, ?_⟩
    refine ⟨_, rfl, _, _, rfl, rfl, 1, (n : Int) + 1, rfl, ⟨by omega, by omega, by omega, by omega⟩, ?_⟩
    have e3 : ((n : Int) + 1 - 1).toNat = n := by omega
    rw [e3]
    intro D2 hD2
    have ent : ∀ k : Int, Kn n k → ∃ x t a, dOf B' k = some x ∧ valV kvs (Sum.inl k : Key) = some (.ref t) ∧ H2 t = some (.tup [.int x, .ref a]) := fun k hk => by
      obtain ⟨d, hd, _⟩ := hz k hk
      obtain ⟨c, hc⟩ := of_dOf hd
      have h := hbk.2 k
      rw [hc] at h
      obtain ⟨t, a, e, h1, _⟩ := h.some_
      exact ⟨d, t, a, hd, e, h1⟩
    refine lc_gen (n := n) (fun i => some (.int ((dOf B' (1 + (i : Int))).getD 0 - (dOf B' 0).getD 0))) (Nat.le_trans h8 (by decide)) hD2 (fun i H' hi sm => hi) (fun H' sm => Nat.le_refl _) (fun i x H3 H4 Qt Qf hi sm y k1 k2' => ?_) (fun H3 sm hd => ?_)
    · obtain ⟨rfl, rfl⟩ := y
      obtain ⟨x1, t1, a1, ex1, ev1, et1⟩ := ent (1 + (i : Int)) ⟨by omega, by omega⟩
      obtain ⟨x0, t0, a0, ex0, ev0, et0⟩ := ent 0 ⟨by omega, by omega⟩
      refine ⟨rfl, _, rfl, _, rfl, D, _, rfl, (by rw [← ev1]; exact DGet.k (k := Sum.inl (1 + (i : Int))) (sm _ _ hkd)), t1, _, 0, .int x1, rfl, rfl, SqT.of (sm _ _ et1), rfl, ?_⟩
      refine ⟨_, rfl, D, _, rfl, (by rw [← ev0]; exact DGet.k (k := Sum.inl 0) (sm _ _ hkd)), t0, _, 0, .int x0, rfl, rfl, SqT.of (sm _ _ et0), rfl, _, _, rfl, rfl, k1 _ _ ?_ (Same.refl _)⟩
      rw [ex1, ex0]; rfl
    · refine ⟨(by show 2 ≤ sizeLine; decide), fun p hp => ?_⟩
      exact q _ p (.ref D2) ((s2.trans sm).trans (same_upd hp)) upd_same
def sp_stand_or_ring (K : PySem.W.Frag) : Sp := fun vs H Q _ => ∃ (g : Addr) (rs : List Rp) (S : List Int) (n : Nat), vs = [.ref g] ∧ RigA K H g n rs ∧ WfR n rs ∧ Lets rs S ∧ n ≤ 8 ∧ rs.length ≤ 60 ∧
  ∀ H' p z, Same H H' → H' p = some (.tup [.str "stand", z]) → Q (.ref p) H'
abbrev N_stand_or_ring : List Str := ["rig"]
theorem sc_stand_or_ring : FnScope N_stand_or_ring ["rig"] (defScope s_stand_or_ring) := ⟨rfl, rfl, rfl, by decide +kernel, rfl, by decide +kernel, by decide +kernel⟩
theorem ok_stand_or_ring (T : TX K mg) : Okd P w K mg base 3 "stand_or_ring" ["rig"] (sp_stand_or_ring K) := by
  obtain ⟨fd, F⟩ := T.d_stand_or_ring
  refine okd_of F T.g_stand_or_ring sc_stand_or_ring (fun _ _ _ _ _ _ us hl => match us, hl with | [_], _ => rfl) ?_ ?_
  · rintro vs H Q E ⟨g, rs, S, n, rfl, _⟩; rfl
  · rintro cdv A outer s H vs Q E hr ⟨g, rs, S, n, rfl, hg, hw, hL, h8, h60, q⟩
    refine ⟨_, (pss_one (ps_ret (pe_callD (ok_solved T) hr (by decide) (by rfl) (pa_cons (pe_methD0 (ok_Rig_many T) T.cls_Rig hr (by decide) (pv 0)) (pa_cons (pe_methD0 (ok_Rig_ropes T) T.cls_Rig hr (by decide) (pv 0)) pa_nil))))), ?_⟩
    obtain ⟨dx, t, as, hg1, ht, hts⟩ := id hg
    refine ⟨_, rfl, g, dx, _, rfl, hg1, rigF_m1 _ _, g, n, rs, rfl, hg, _, rfl, g, dx, _, rfl, hg1, rigF_m2 _ _, g, n, rs, rfl, hg, fun p as2 hp hts2 => ?_⟩
    exact ⟨p, rs, S, n, rfl, ⟨as2, upd_same, hts2.same (same_upd hp)⟩, hw, hL, h8, h60, fun H' p2 z s2 h2 => q H' p2 z ((same_upd hp).trans s2) h2⟩
theorem stand_ring : decide (V.str (Str.ofString "stand") = V.str (Str.ofString "ring")) = false := by decide +kernel
def sp_look_at_rig (K : PySem.W.Frag) : Sp := fun vs H Q _ => ∃ (g : Addr) (rs : List Rp) (S : List Int) (n : Nat), vs = [.ref g] ∧ RigA K H g n rs ∧ WfR n rs ∧ Lets rs S ∧ n ≤ 8 ∧ rs.length ≤ 60 ∧ ∀ H', Same H H' → Q .non H'
abbrev N_look_at_rig : List Str := ["rig", "word", "found"]
theorem sc_look_at_rig : FnScope N_look_at_rig ["rig"] (defScope s_look_at_rig) := ⟨rfl, rfl, rfl, by decide +kernel, rfl, by decide +kernel, by decide +kernel⟩
theorem ok_look_at_rig (T : TX K mg) : Okd P w K mg base 4 "look_at_rig" ["rig"] (sp_look_at_rig K) := by
  obtain ⟨fd, F⟩ := T.d_look_at_rig
  refine okd_of F T.g_look_at_rig sc_look_at_rig (fun _ _ _ _ _ _ us hl => match us, hl with | [_], _ => rfl) ?_ ?_
  · rintro vs H Q E ⟨g, rs, S, n, rfl, _⟩; rfl
  · rintro cdv A outer s H vs Q E hr ⟨g, rs, S, n, rfl, hg, hw, hL, h8, h60, q⟩
    refine ⟨_, (pss_cons (ps_asg (pe_callD (ok_stand_or_ring T) hr (by decide) (by rfl) (pa_cons (pv 0) pa_nil)) (pg_tupK (K := K) rfl rfl (pgs_cons (pg_name (i := 1) (sc_look_at_rig).nd rfl (.inl rfl)) (pgs_cons (pg_name (i := 2) (sc_look_at_rig).nd rfl (.inl rfl)) pgs_nil))))
  (pss_one (ps_if (pt_cmpR op_eq (pv 1) pe_str (nomark _)) (pss_one ps_never) pss_nil))), ?_⟩
    refine ⟨_, rfl, g, rs, S, n, rfl, hg, hw, hL, h8, h60, fun H' p z s2 h2 => ?_⟩
    refine ⟨p, _, rfl, SqT.of h2, rfl, _, _, rfl, _, _, rfl, rfl, _, rfl, rfl, _, rfl, ?_⟩
    rw [stand_ring]
    exact iteF (q H' s2)
def sp_look_at_knot (K : PySem.W.Frag) : Sp := fun vs H Q _ => ∃ (g : Addr) (rs : List Rp) (n : Nat) (k : Int), vs = [.ref g, .int k] ∧ RigA K H g n rs ∧ Kn n k ∧ Q .non H
abbrev N_look_at_knot : List Str := ["rig", "knot"]
theorem sc_look_at_knot : FnScope N_look_at_knot ["rig", "knot"] (defScope s_look_at_knot) := ⟨rfl, rfl, rfl, by decide +kernel, rfl, by decide +kernel, by decide +kernel⟩
theorem ok_look_at_knot (T : TX K mg) : Okd P w K mg base 3 "look_at_knot" ["rig", "knot"] (sp_look_at_knot K) := by
  obtain ⟨fd, F⟩ := T.d_look_at_knot
  refine okd_of F T.g_look_at_knot sc_look_at_knot (fun _ _ _ _ _ _ us hl => match us, hl with | [_, _], _ => rfl) ?_ ?_
  · rintro vs H Q E ⟨g, rs, n, k, rfl, _⟩; rfl
  · rintro cdv A outer s H vs Q E hr ⟨g, rs, n, k, rfl, hg, hk, q⟩
    refine ⟨_, (pss_one (ps_if (pt_not (pt_val (pe_callD (ok_is_within T) hr (by decide) (by rfl) (pa_cons (pv 1) (pa_cons pe_int (pa_cons (pe_methD0 (ok_Rig_many T) T.cls_Rig hr (by decide) (pv 0)) pa_nil)))))) (pss_one ps_never) pss_nil)), ?_⟩
    obtain ⟨dx, t, as, hg1, ht, hts⟩ := id hg
    refine ⟨_, rfl, _, rfl, g, dx, _, rfl, hg1, rigF_m1 _ _, g, n, rs, rfl, hg, k, 0, n, rfl, _, rfl, ?_⟩
    rw [decide_eq_true (show 0 ≤ k ∧ k ≤ (n : Int) from hk)]
    exact iteF q
end
end RF
/-! ## A10 -/
set_option Elab.async false
set_option linter.all false
set_option maxRecDepth 100000
set_option maxHeartbeats 4000000
namespace RF
open PySem PySem.Spec PyProof.Rows L2
section
variable {P : Program} {w : World} {K : PySem.W.Frag} {mg : Str → Option Value} {base : Heap}
def tabF (g bl : Addr) : List (Str × V) := putF "best" (.ref bl) (putF "own_rig" (.ref g) [])
theorem tabF_rig (g bl : Addr) : (tabF g bl).lookup ("own_rig" : Str) = some (.ref g) := by
  unfold tabF
  rw [lookup_putF, if_neg (by decide +kernel), lookup_putF, if_pos rfl]
theorem tabF_best (g bl : Addr) : (tabF g bl).lookup ("best" : Str) = some (.ref bl) := by
  unfold tabF
  rw [lookup_putF, if_pos rfl]
theorem tabF_no (g bl : Addr) {m : Str} (h1 : ¬ m = "best") (h2 : ¬ m = "own_rig") : (tabF g bl).lookup m = none := by
  unfold tabF
  rw [lookup_putF, if_neg h1, lookup_putF, if_neg h2]
  rfl
theorem tabF_m1 (g bl : Addr) : (tabF g bl).lookup ("told" : Str) = none := tabF_no _ _ (by decide +kernel) (by decide +kernel)
theorem tabF_m2 (g bl : Addr) : (tabF g bl).lookup ("least" : Str) = none := tabF_no _ _ (by decide +kernel) (by decide +kernel)
theorem tabF_m3 (g bl : Addr) : (tabF g bl).lookup ("chain" : Str) = none := tabF_no _ _ (by decide +kernel) (by decide +kernel)
/-- the dict at d has the least sums to the knot j -/
def EntT (H : Hp) (rs : List Rp) (j : Nat) (d : Addr) : Prop := ∃ B, BestA H d B 900 ∧ ChS rs (· = (j : Int)) B ∧ ∀ u, IsD rs u j (dOf B u)
theorem EntT.same {H H' : Hp} {rs : List Rp} {j : Nat} {d : Addr} (h : EntT H rs j d) (s : Same H H') : EntT H' rs j d := by
  obtain ⟨B, h1, h2, h3⟩ := h
  exact ⟨B, h1.mono (Nat.le_refl _) s, h2, h3⟩
def TabA (K : PySem.W.Frag) (H : Hp) (x : Addr) (n : Nat) (rs : List Rp) : Prop :=
  ∃ (dx g bl : Addr) (ds : List Addr), H x = some (.ins (He.ga K "Table") dx (tabF g bl)) ∧ RigA K H g n rs ∧ H bl = some (.lst (ds.map V.ref)) ∧ ds.length = n + 1 ∧ ∀ (j : Nat) (d : Addr), ds[j]? = some d → EntT H rs j d
theorem TabA.same {H H' : Hp} {x : Addr} {n : Nat} {rs : List Rp} (h : TabA K H x n rs) (s : Same H H') : TabA K H' x n rs := by
  obtain ⟨dx, g, bl, ds, h1, h2, h3, h4, h5⟩ := h
  exact ⟨dx, g, bl, ds, s _ _ h1, h2.same s, s _ _ h3, h4, fun j d e => (h5 j d e).same s⟩
def sp_Table_init (K : PySem.W.Frag) : Sp := fun vs H Q _ => ∃ (x dx g : Addr) (rs : List Rp) (S : List Int) (n : Nat) (H0 : Hp), vs = [.ref x, .ref g] ∧ Same H0 H ∧ H0 x = none ∧ H x = some (.ins (He.ga K "Table") dx []) ∧ RigA K H0 g n rs ∧ WfR n rs ∧ Lets rs S ∧ n ≤ 8 ∧ rs.length ≤ 60 ∧
  ∀ H', Same H0 H' → TabA K H' x n rs → Q .non H'
abbrev N_Table_init : List Str := ["self", "rig", "knot", "found"]
theorem sc_Table_init : FnScope N_Table_init ["self", "rig"] (defScope s_Table_init) := ⟨rfl, rfl, rfl, by decide +kernel, rfl, by decide +kernel, by decide +kernel⟩
theorem ok_Table_init (T : TX K mg) : Oki P w K mg base 5 "Table" (He.ga K "Table") ["self", "rig"] (sp_Table_init K) := by
  obtain ⟨fd, F⟩ := T.d_Table_init
  refine ⟨_, fd, F.ok sc_Table_init (k := 4) ?_ ?_, T.c_Table, T.mkr_Table, FunD.bindsN F fun _ _ _ _ _ _ us hl => match us, hl with | [_, _], _ => rfl⟩
  · rintro vs H Q E ⟨x, dx, g, rs, S, n, H0, rfl, _⟩; rfl
  · rintro cdv A outer s H vs Q E hr ⟨x, dx, g, rs, S, n, H0, rfl, s0, hx0, hx, hg0, hw, hL, h8, h60, q⟩
    have hu := hu_of hr
    refine ⟨_, PSs.nox (pss_cons (ps_expr (pe_callD (ok_look_at_rig T) hr (by decide) (by rfl) (pa_cons (pv 1) pa_nil)))
  (pss_cons (ps_fld (pv 0) (pv 1) rfl)
  (pss_cons (ps_fld (pv 0) (pe_lst pa_nil) rfl)
  (pss_one (ps_for PassesOwn.never rfl (pi_range1 (by rfl) T.b_range (pa_cons (pe_op op_add (pe_methD0 (ok_Rig_many T) T.cls_Rig hr (by decide) (pv 1)) pe_int) pa_nil)) (pg_name (i := 2) (sc_Table_init).nd rfl (.inl rfl)) (pss_cons (ps_set (i := 3) (sc_Table_init).nd rfl (.inl rfl) (pe_disp (pps_cons (pv 2) (pe_tup (pa_cons pe_int (pa_cons (pe_lst pa_nil) pa_nil))) pps_nil) (by rfl) (by rfl) (fun z => by cases z) (by decide)))
  (pss_cons (ps_expr (pe_callD (ok_spread T) hr (by decide) (by rfl) (pa_cons (pe_methD0 (ok_Rig_ropes T) T.cls_Rig hr (by decide) (pv 1)) (pa_cons (pe_methD0 (ok_Rig_many T) T.cls_Rig hr (by decide) (pv 1)) (pa_cons (pv 3) pa_nil)))))
  (pss_one (ps_expr (pe_bm PySem.F.plainAttrs_list PySem.F.slot_list_append PySem.F.type_list_append mt_append (pe_fld (pv 0) rfl) (pa_cons (pv 3) pa_nil))))))))))), ?_⟩
    refine ⟨_, rfl, g, rs, S, n, rfl, hg0.same s0, hw, hL, h8, h60, fun H1 s1 => ?_⟩
    refine ⟨_, rfl, _, rfl, x, _, dx, _, rfl, s1 _ _ hx, T.cls_Table, T.n_Table_own_rig, (by decide), ?_⟩
    have s2 : Same H0 (upd H1 x (.ins (He.ga K "Table") dx (putF "own_rig" (.ref g) []))) := same_upd2 hx0 (s0.trans s1)
    have hx2 : (upd H1 x (.ins (He.ga K "Table") dx (putF "own_rig" (.ref g) []))) x = some (.ins (He.ga K "Table") dx (putF "own_rig" (.ref g) [])) := upd_same
    revert s2 hx2
    generalize upd H1 x (.ins (He.ga K "Table") dx (putF "own_rig" (.ref g) [])) = H2
    intro s2 hx2
    refine ⟨Nat.zero_le _, fun bl hbl => ?_⟩
    have hxb : x ≠ bl := ne_of_none hx2 hbl
    refine ⟨_, rfl, x, _, dx, _, rfl, (by rw [upd_ne hxb]; exact hx2), T.cls_Table, T.n_Table_best, Nat.lt_of_le_of_lt (putF_len _ _ _) (by decide), ?_⟩
    have hbl0 : H0 bl = none := s2.free hbl
    have s3 : Same H0 (upd (upd H2 bl (.lst [])) x (.ins (He.ga K "Table") dx (putF "best" (.ref bl) (putF "own_rig" (.ref g) [])))) := same_upd2 hx0 (same_upd2 hbl0 s2)
    have hx3 : (upd (upd H2 bl (.lst [])) x (.ins (He.ga K "Table") dx (putF "best" (.ref bl) (putF "own_rig" (.ref g) [])))) x = some (.ins (He.ga K "Table") dx (tabF g bl)) := upd_same
    have hb3 : (upd (upd H2 bl (.lst [])) x (.ins (He.ga K "Table") dx (putF "best" (.ref bl) (putF "own_rig" (.ref g) [])))) bl = some (.lst []) := by rw [upd_ne hxb.symm, upd_same]
    revert s3 hx3 hb3
    generalize upd (upd H2 bl (.lst [])) x (.ins (He.ga K "Table") dx (putF "best" (.ref bl) (putF "own_rig" (.ref g) []))) = H3
    intro s3 hx3 hb3
    obtain ⟨dxg, tg, asg, hg3, _⟩ := id (hg0.same s3)
    have e1 : ((n : Int) + 1).toNat = n + 1 := by omega
    refine ⟨_, rfl, g, dxg, _, rfl, hg3, rigF_m1 _ _, g, n, rs, rfl, hg0.same s3, _, _, rfl, rfl, (n : Int) + 1, rfl, by omega, by omega, ?_⟩
    rw [e1]
    refine for_range (n := n + 1) (fun j σ H' => ∃ v2 v3, σ = [some (.ref x), some (.ref g), v2, v3] ∧ Same H0 H' ∧ H' x = some (.ins (He.ga K "Table") dx (tabF g bl)) ∧ ∃ ds : List Addr, H' bl = some (.lst (ds.map V.ref)) ∧ ds.length = j ∧ ∀ (i : Nat) (d : Addr), ds[i]? = some d → EntT (msk [bl] H') rs i d)
      ⟨_, _, rfl, s3, hx3, [], hb3, rfl, fun i d e => by simp at e⟩ ?_ (fun σ H' h => ?_)
    · rintro j σ H4 hj ⟨v2, v3, rfl, s4, hx4, ds, hb4, hdl, hent⟩
      -- found = {knot: (0, [])}
      intro p hp
      refine ⟨_, rfl, Nat.zero_le _, fun a ha => ⟨(by show 2 ≤ sizeLine; decide), fun t ht => ?_⟩⟩
      have hpa : p ≠ a := ne_of_none upd_same ha
      have hat : a ≠ t := ne_of_none upd_same ht
      have hpt : p ≠ t := ne_of_none (H := upd (upd H4 p (.dK [])) a (.lst [])) (by rw [upd_ne hpa]; exact upd_same) ht
      refine ⟨by rw [upd_ne hpt, upd_ne hpa, upd_same], [(Sum.inl (0 + (j : Int)), .ref t)], rfl, by show 1 ≤ 15; decide, ?_⟩
      have hp4 : H4 p = none := hp
      have s5 : Same H4 (upd (upd (upd (upd H4 p (.dK [])) a (.lst [])) t (.tup [.int 0, .ref a])) p (.dK (mergeK [] [(Sum.inl (0 + (j : Int)), .ref t)]))) := same_upd2 hp4 (((same_upd hp).trans (same_upd ha)).trans (same_upd ht))
      have hp5 : (upd (upd (upd (upd H4 p (.dK [])) a (.lst [])) t (.tup [.int 0, .ref a])) p (.dK (mergeK [] [(Sum.inl (0 + (j : Int)), .ref t)]))) p = some (.dK [(Sum.inl (0 + (j : Int)), .ref t)]) := upd_same
      have ht5 : (upd (upd (upd (upd H4 p (.dK [])) a (.lst [])) t (.tup [.int 0, .ref a])) p (.dK (mergeK [] [(Sum.inl (0 + (j : Int)), .ref t)]))) t = some (.tup [.int 0, .ref a]) := by rw [upd_ne hpt.symm, upd_same]
      have ha5 : (upd (upd (upd (upd H4 p (.dK [])) a (.lst [])) t (.tup [.int 0, .ref a])) p (.dK (mergeK [] [(Sum.inl (0 + (j : Int)), .ref t)]))) a = some (.lst []) := by rw [upd_ne hpa.symm, upd_ne hat, upd_same]
      have hblp : bl ≠ p := ne_of_none hb4 hp4
      have hbla : bl ≠ a := ne_of_none (H := upd H4 p (.dK [])) (by rw [upd_ne hblp]; exact hb4) ha
      have hblt : bl ≠ t := ne_of_none (H := upd (upd H4 p (.dK [])) a (.lst [])) (by rw [upd_ne hbla, upd_ne hblp]; exact hb4) ht
      revert s5 hp5 ht5 ha5
      generalize upd (upd (upd (upd H4 p (.dK [])) a (.lst [])) t (.tup [.int 0, .ref a])) p (.dK (mergeK [] [(Sum.inl (0 + (j : Int)), .ref t)])) = H5
      intro s5 hp5 ht5 ha5
      obtain ⟨dxg, tg, asg, hg5, _⟩ := id ((hg0.same s4).same s5)
      have hgr5 := (hg0.same s4).same s5
      refine ⟨_, rfl, g, dxg, _, rfl, hg5, rigF_m2 _ _, g, n, rs, rfl, hgr5, fun p2 as hp2 hts => ?_⟩
      have s6 : Same H5 (upd H5 p2 (.lst (as.map V.ref))) := same_upd hp2
      have hts6 := hts.same s6
      have hp26 : (upd H5 p2 (.lst (as.map V.ref))) p2 = some (.lst (as.map V.ref)) := upd_same
      revert s6 hts6 hp26
      generalize upd H5 p2 (.lst (as.map V.ref)) = H6
      intro s6 hts6 hp26
      refine ⟨_, rfl, g, dxg, _, rfl, s6 _ _ hg5, rigF_m1 _ _, g, n, rs, rfl, hgr5.same s6, _, rfl, ?_⟩
      have nm : ∀ b, b ≠ bl → b ∉ [bl] := fun b h z => h (by simpa using z)
      have hnp : p2 ≠ p := fun z => by rw [z, hp5] at hp2; cases hp2
      let B : Bst := fun k => if k = (j : Int) then some (0, []) else none
      refine ⟨p2, p, rs, S, n, (· = (j : Int)), B, [bl], rfl, fun b hb => ?_, ⟨as, hp26, hts6⟩, hw, hL, h8, h60, ?_, fun k x c e => ?_, fun k e => ⟨0, ?_, Int.le_refl _⟩, fun H7 B' k7 hB' hcs hz hst => ?_⟩
      · have hb : b = bl := by simpa using hb
        exact ⟨_, by rw [hb]; exact s6 _ _ (s5 _ _ hb4)⟩
      · refine ⟨_, msk_of (nm _ hblp.symm) (s6 _ _ hp5), by show 1 ≤ 9; decide, fun k => ?_⟩
        show EntA _ 9 (valV [(Sum.inl (0 + (j : Int)), .ref t)] (Sum.inl k)) (if k = (j : Int) then some (0, []) else none)
        by_cases hk : k = (j : Int)
        · rw [if_pos hk]
          have e : valV ([(Sum.inl (0 + (j : Int)), V.ref t)] : List (Key × V)) (Sum.inl k) = some (.ref t) := by
            unfold valV
            rw [List.find?_cons_of_pos (by simp [hk])]
            rfl
          rw [e]
          exact ⟨t, a, rfl, msk_of (nm _ hblt.symm) (s6 _ _ ht5), msk_of (nm _ hbla.symm) (s6 _ _ ha5), Nat.zero_le _⟩
        · rw [if_neg hk]
          have e : valV ([(Sum.inl (0 + (j : Int)), V.ref t)] : List (Key × V)) (Sum.inl k) = none := by
            unfold valV
            rw [List.find?_cons_of_neg (by simp; omega)]
            rfl
          rw [e]; trivial
      · have e : (if k = (j : Int) then some ((0 : Int), ([] : List Int)) else none) = some (x, c) := e
        split at e
        · rename_i h
          cases e
          exact ⟨j, rfl, h, rfl⟩
        · cases e
      · show ((if k = (j : Int) then some ((0 : Int), ([] : List Int)) else none).map Prod.fst) = some 0
        rw [if_pos e]; rfl
      -- self.best.append(found)
      have s46 : Same H4 H7 := fun b o e => k7 b o (ne_of_none e hp4) (s6 _ _ (s5 _ _ e))
      have hx7 := s46 _ _ hx4
      have hb7 := s46 _ _ hb4
      refine ⟨_, rfl, x, _, dx, _, _, rfl, hx7, T.cls_Table, T.n_Table_best, tabF_best _ _, .inl ⟨rfl, _, SqL.of hb7⟩, _, rfl, bl, _, _, rfl, rfl, hb7, ?_, ?_⟩
      · rw [List.length_map, hdl]
        exact Nat.lt_of_le_of_lt (show j ≤ 1000 by omega) (by decide)
      have hxbl : x ≠ bl := hxb
      refine ⟨_, _, rfl, ?_, ?_, ds ++ [p], ?_, ?_, fun i d e => ?_⟩
      · exact same_upd2 hbl0 (s4.trans s46)
      · rw [upd_ne hxbl]; exact hx7
      · rw [upd_same, List.map_append]; rfl
      · rw [List.length_append, hdl]; rfl
      · rw [msk_in (by simp)]
        by_cases hi : i < ds.length
        · rw [List.getElem?_append_left hi] at e
          exact (hent i d e).same (msk_same s46)
        · rw [List.getElem?_append_right (by omega)] at e
          have hi0 : i - ds.length = 0 := by
            cases q : i - ds.length with
            | zero => rfl
            | succ k => rw [q] at e; simp at e
          rw [hi0] at e
          have e : p = d := by simpa using e
          subst e
          have ei : i = j := by omega
          subst ei
          exact ⟨B', hB', hcs, fun u => isD_of hcs.sound hst (hz _ rfl) u⟩
    · obtain ⟨v2, v3, rfl, s4, hx4, ds, hb4, hdl, hent⟩ := h
      exact q H' s4 ⟨dx, g, bl, ds, hx4, hg0.same s4, hb4, hdl, fun j d e => (hent j d e).same msk_sub⟩
end
end RF
/-! ## A11 -/
set_option Elab.async false
set_option linter.all false
set_option maxRecDepth 100000
set_option maxHeartbeats 4000000
namespace RF
open PySem PySem.Spec PyProof.Rows L2
section
variable {P : Program} {w : World} {K : PySem.W.Frag} {mg : Str → Option Value} {base : Heap}
def optV : Option Int → V
  | none => .non
  | some d => .int d
def ToldV (H : Hp) (rs : List Rp) (u l : Int) (v0 v1 : V) : Prop :=
  (dst rs u l = none ∧ v0 = .non ∧ v1 = .non) ∨ ∃ (d : Int) (c : List Int) (a : Addr), dst rs u l = some d ∧ v0 = .int d ∧ v1 = .ref a ∧ H a = some (.lst (c.map V.int)) ∧ ChOk rs u c l ∧ chSum rs c = d ∧ c.length ≤ 900
theorem TabA.ent {H : Hp} {x : Addr} {n : Nat} {rs : List Rp} (h : TabA K H x n rs) {l : Int} (hl : Kn n l) : ∃ (dx g bl : Addr) (ds : List Addr) (d : Addr), H x = some (.ins (He.ga K "Table") dx (tabF g bl)) ∧ RigA K H g n rs ∧ H bl = some (.lst (ds.map V.ref)) ∧ atI (ds.map V.ref) l = some (.ref d) ∧
    ∃ B, BestA H d B 900 ∧ ChS rs (· = l) B ∧ ∀ u, dst rs u l = dOf B u ∧ IsD rs u l (dst rs u l) := by
  obtain ⟨dx, g, bl, ds, h1, h2, h3, h4, h5⟩ := h
  have hlt : l.toNat < ds.length := by obtain ⟨a, b⟩ := hl; omega
  have e := List.getElem?_eq_getElem hlt
  obtain ⟨B, b1, b2, b3⟩ := h5 _ _ e
  have el : ((l.toNat : Nat) : Int) = l := Int.toNat_of_nonneg hl.1
  rw [el] at b2 b3
  refine ⟨dx, g, bl, ds, _, h1, h2, h3, atI_int hl.1 (get_map2 e), B, b1, b2, fun u => ⟨dst_eq (b3 u), dst_is (b3 u)⟩⟩
theorem TabA.isD {H : Hp} {x : Addr} {n : Nat} {rs : List Rp} (h : TabA K H x n rs) {l : Int} (hl : Kn n l) (u : Int) : IsD rs u l (dst rs u l) := by
  obtain ⟨dx, g, bl, ds, d, _, _, _, _, B, _, _, b3⟩ := h.ent hl
  exact (b3 u).2
def sp_Table_told (K : PySem.W.Frag) : Sp := fun vs H Q _ => ∃ (x : Addr) (n : Nat) (rs : List Rp) (u l : Int), vs = [.ref x, .int u, .int l] ∧ TabA K H x n rs ∧ Kn n u ∧ Kn n l ∧
  ∀ H' p v0 v1, Same H H' → H' p = some (.tup [v0, v1]) → ToldV H' rs u l v0 v1 → Q (.ref p) H'
abbrev N_Table_told : List Str := ["self", "upper", "lower"]
theorem sc_Table_told : FnScope N_Table_told ["self", "upper", "lower"] (defScope s_Table_told) := ⟨rfl, rfl, rfl, by decide +kernel, rfl, by decide +kernel, by decide +kernel⟩
theorem ok_Table_told (T : TX K mg) : Okm P w K mg base 4 (He.ga K "Table") "told" ["self", "upper", "lower"] (sp_Table_told K) := by
  obtain ⟨fd, F⟩ := T.d_Table_told
  refine okm_of F T.m_Table_told sc_Table_told (fun _ _ _ _ _ _ us hl => match us, hl with | [_, _, _], _ => rfl) ?_ ?_
  · rintro vs H Q E ⟨x, n, rs, u, l, rfl, _⟩; rfl
  · rintro cdv A outer s H vs Q E hr ⟨x, n, rs, u, l, rfl, ht, hku, hkl, q⟩
    have hu := hu_of hr
    refine ⟨_, (pss_cons (ps_expr (pe_callD (ok_look_at_knot T) hr (by decide) (by rfl) (pa_cons (pe_fld (pv 0) rfl) (pa_cons (pv 1) pa_nil))))
  (pss_cons (ps_expr (pe_callD (ok_look_at_knot T) hr (by decide) (by rfl) (pa_cons (pe_fld (pv 0) rfl) (pa_cons (pv 2) pa_nil))))
  (pss_one (ps_ret (pe_dget2 hu (pe_ix (ix_listK (K := K) rfl) (pe_fld (pv 0) rfl) (pv 2) (fun _ _ => rfl)) (pv 1) (pe_tup (pa_cons pe_non (pa_cons pe_non pa_nil))) ⟨by rfl, by rfl, by rfl, by rfl⟩))))), ?_⟩
    obtain ⟨dx, g, bl, ds, d, hx, hg, hb, hat, B, ⟨kvs, hd, hbk⟩, hcs, hdst⟩ := ht.ent hkl
    refine ⟨_, rfl, x, _, dx, _, _, rfl, hx, T.cls_Table, T.n_Table_own_rig, tabF_rig _ _, _, rfl, g, rs, n, u, rfl, hg, hku, ?_⟩
    refine ⟨_, rfl, x, _, dx, _, _, rfl, hx, T.cls_Table, T.n_Table_own_rig, tabF_rig _ _, _, rfl, g, rs, n, l, rfl, hg, hkl, ?_⟩
    refine ⟨_, rfl, x, _, dx, _, _, rfl, hx, T.cls_Table, T.n_Table_best, tabF_best _ _, _, rfl, bl, _, l, .ref d, rfl, rfl, SqL.of hb, hat, d, rfl, .inl ⟨kvs, .inl hd⟩, _, rfl, (by show 2 ≤ sizeLine; decide), fun z hz => ?_⟩
    have s1 : Same H (upd H z (.tup [.non, .non])) := same_upd hz
    refine ⟨valV kvs (Sum.inl u : Key), DGet.k (k := Sum.inl u) (s1 _ _ hd), ?_⟩
    have he := hbk.2 u
    have hdu := (hdst u).1
    cases hBu : B u with
    | none =>
      rw [hBu] at he
      rw [he.none_]
      refine q _ z .non .non s1 upd_same (.inl ⟨?_, rfl, rfl⟩)
      rw [hdu]; unfold dOf; rw [hBu]; rfl
    | some p =>
      obtain ⟨dd, c⟩ := p
      rw [hBu] at he
      obtain ⟨t1, a1, e1, ht1, ha1, hc1⟩ := he.some_
      rw [e1]
      obtain ⟨g', eg, hch, hsum⟩ := hcs u dd c hBu
      have eg : g' = l := eg
      subst eg
      exact q _ t1 (.int dd) (.ref a1) s1 (s1 _ _ ht1) (.inr ⟨dd, c, a1, by rw [hdu]; exact dOf_some hBu, rfl, rfl, s1 _ _ ha1, hch, hsum, hc1⟩)
def sp_Table_least (K : PySem.W.Frag) : Sp := fun vs H Q _ => ∃ (x : Addr) (n : Nat) (rs : List Rp) (u l : Int), vs = [.ref x, .int u, .int l] ∧ TabA K H x n rs ∧ Kn n u ∧ Kn n l ∧
  ∀ H', Same H H' → Q (optV (dst rs u l)) H'
abbrev N_Table_least : List Str := ["self", "upper", "lower"]
theorem sc_Table_least : FnScope N_Table_least ["self", "upper", "lower"] (defScope s_Table_least) := ⟨rfl, rfl, rfl, by decide +kernel, rfl, by decide +kernel, by decide +kernel⟩
theorem ok_Table_least (T : TX K mg) : Okm P w K mg base 5 (He.ga K "Table") "least" ["self", "upper", "lower"] (sp_Table_least K) := by
  obtain ⟨fd, F⟩ := T.d_Table_least
  refine okm_of F T.m_Table_least sc_Table_least (fun _ _ _ _ _ _ us hl => match us, hl with | [_, _, _], _ => rfl) ?_ ?_
  · rintro vs H Q E ⟨x, n, rs, u, l, rfl, _⟩; rfl
  · rintro cdv A outer s H vs Q E hr ⟨x, n, rs, u, l, rfl, ht, hku, hkl, q⟩
    refine ⟨_, (pss_one (ps_ret (pe_ix (ix_tupK (K := K) rfl) (pe_methD (ok_Table_told T) T.cls_Table hr (by decide) (pv 0) (pa_cons (pv 1) (pa_cons (pv 2) pa_nil))) pe_int (fun _ _ => rfl)))), ?_⟩
    obtain ⟨dx, g, bl, ds, hx, _⟩ := id ht
    refine ⟨_, rfl, x, dx, _, rfl, hx, tabF_m1 _ _, _, rfl, _, rfl, x, n, rs, u, l, rfl, ht, hku, hkl, fun H' p v0 v1 s1 hp hv => ?_⟩
    refine ⟨p, _, 0, v0, rfl, rfl, SqT.of hp, rfl, ?_⟩
    rcases hv with ⟨e, rfl, _⟩ | ⟨d, c, a, e, rfl, _⟩
    · have h := q H' s1
      rw [e] at h
      exact h
    · have h := q H' s1
      rw [e] at h
      exact h
def sp_Table_chain (K : PySem.W.Frag) : Sp := fun vs H Q _ => ∃ (x : Addr) (n : Nat) (rs : List Rp) (u l d : Int), vs = [.ref x, .int u, .int l] ∧ TabA K H x n rs ∧ Kn n u ∧ Kn n l ∧ dst rs u l = some d ∧
  ∀ H' p c, Same H H' → H p = none → H' p = some (.lst (c.map V.int)) → ChOk rs u c l → chSum rs c = d → c.length ≤ 900 → Q (.ref p) H'
abbrev N_Table_chain : List Str := ["self", "upper", "lower", "found"]
theorem sc_Table_chain : FnScope N_Table_chain ["self", "upper", "lower"] (defScope s_Table_chain) := ⟨rfl, rfl, rfl, by decide +kernel, rfl, by decide +kernel, by decide +kernel⟩
theorem ok_Table_chain (T : TX K mg) : Okm P w K mg base 5 (He.ga K "Table") "chain" ["self", "upper", "lower"] (sp_Table_chain K) := by
  obtain ⟨fd, F⟩ := T.d_Table_chain
  refine okm_of F T.m_Table_chain sc_Table_chain (fun _ _ _ _ _ _ us hl => match us, hl with | [_, _, _], _ => rfl) ?_ ?_
  · rintro vs H Q E ⟨x, n, rs, u, l, d, rfl, _⟩; rfl
  · rintro cdv A outer s H vs Q E hr ⟨x, n, rs, u, l, d, rfl, ht, hku, hkl, hd, q⟩
    refine ⟨_, (pss_cons (ps_set (i := 3) (sc_Table_chain).nd rfl (.inl rfl) (pe_ix (ix_tupK (K := K) rfl) (pe_methD (ok_Table_told T) T.cls_Table hr (by decide) (pv 0) (pa_cons (pv 1) (pa_cons (pv 2) pa_nil))) pe_int (fun _ _ => rfl)))
  (pss_one (ps_ret (pe_ifExp (pt_cmpR op_isN (pv 3) pe_non (nomark _)) pe_non (pe_callTy (call_list_ofK (K := K) rfl) (by rfl) T.b_list bt_list (pa_cons (pv 3) pa_nil)))))), ?_⟩
    obtain ⟨dx, g, bl, ds, hx, _⟩ := id ht
    refine ⟨_, rfl, x, dx, _, rfl, hx, tabF_m1 _ _, _, rfl, _, rfl, x, n, rs, u, l, rfl, ht, hku, hkl, fun H' p v0 v1 s1 hp hv => ?_⟩
    refine ⟨p, _, 1, v1, rfl, rfl, SqT.of hp, rfl, ?_⟩
    rcases hv with ⟨e, _⟩ | ⟨d', c, a, e, rfl, rfl, ha, hch, hsum, hlen⟩
    · rw [hd] at e; cases e
    · rw [hd] at e; cases e
      refine ⟨_, rfl, rfl, _, rfl, ?_⟩
      refine ite2 (fun z => nomatch (of_decide_eq_true z)) (fun _ => ?_)
      refine ⟨_, rfl, a, _, rfl, .inl (SqL.of ha), fun l2 hl2 => ?_⟩
      exact q _ l2 c (s1.trans (same_upd hl2)) (s1.free hl2) upd_same hch hsum hlen
end
end RF
/-! ## RulD -/
set_option Elab.async false
set_option linter.all false
set_option maxRecDepth 100000
set_option maxHeartbeats 4000000
/-! Own rules: enumerate with a start; a set comprehension of ints; its length. -/
namespace RF
open PySem PySem.Spec PyProof.Rows L2
/-! ### enumerate(list, start) -/
def IteS (K : PySem.W.Frag) (a : Addr) (i0 : Int) : It where
  go := fun i H => ∃ (xs : List V) (x : V), SqL K H a xs ∧ xs[i]? = some x
  yld := fun i H v H' => ∃ T x, v = .ref T ∧ H T = none ∧ H' = upd H T (.tup [.int (i0 + (i : Nat)), x]) ∧ ∀ xs, SqL K H a xs → xs[i]? = some x
  stop := fun i H => ∃ xs : List V, SqL K H a xs ∧ xs.length = i
def iEnumS (K : PySem.W.Frag) (ta : TA) : TI := fun σ H R => ta σ H fun vs H1 => ∃ a i0 xs, vs = [.ref a, .int i0] ∧ -(2 ^ 63) ≤ i0 ∧ i0 < 2 ^ 63 ∧ SqL K H1 a xs ∧ R (IteS K a i0) H1
theorem enum_old {e it b : Addr} (h : b ∈ [e, it]) : b = e ∨ b = it := by simpa using h
theorem turn_enumS {P : Program} {w : World} {K : PySem.W.Frag} {elts : List Expr} {kk : Nat} {tpos : Pos} (a e it : Addr) (i0 : Int) :
    Turn P w K (.Tuple elts kk tpos) (IteS K a i0) [e, it] e (fun i h => (∃ old, IsEnum h e it (i0 + (i : Nat)) old) ∧ h.IsListIter it a i ∧ e ≠ it ∧ a ≠ it) := by
  refine ⟨by simp, fun i h st b hb => ?_, fun i h h' st k => ?_, ?_, ?_, fun A i s Q E st h => ?_⟩
  · obtain ⟨⟨old, he⟩, ⟨o, ho, hc, hd⟩, _⟩ := st
    rcases enum_old hb with rfl | rfl
    · exact ⟨_, he, fun v q => nomatch q⟩
    · exact ⟨o, ho, fun v q => by rw [hd] at q; cases q⟩
  · obtain ⟨⟨old, he⟩, hi, r⟩ := st
    exact ⟨⟨old, k e (by simp) _ he⟩, hi.at fun o q => k it (by simp) o q, r⟩
  · intro X e1 e2 e3 hc i pins s σ H E I hf st hg
    subst e1 e2 e3
    obtain ⟨⟨old, he⟩, hit, hne, hna⟩ := st
    obtain ⟨xs, x, hq, hx⟩ := hg
    obtain ⟨its, rv, pl, hz⟩ := I.list hq
    obtain ⟨u, hu, ru⟩ := rv.get hx
    have hs1 : e < s.heap.objs.size := Heap.lt_size he
    have hs2 : it < s.heap.objs.size := by
      obtain ⟨_, q, _⟩ := hit
      exact Heap.lt_size q
    have hlen : i < its.toArray.size := by
      rw [List.size_toArray]
      exact (List.getElem?_eq_some_iff.mp hu).1
    have Dw : Draws X.prog X.w X.A.in1 it [it, a] its.toArray.size _ _ := Draws.list (A := X.A.in1) (by exact I.ok.hd hc) it a hna its.toArray
    have hea : e ≠ a := by
      rintro rfl
      obtain ⟨ob, _, ob1, ob2, _⟩ := pl
      rw [he] at ob1
      cases ob1
      exact absurd (Value.type.inj ob2) (by decide)
    refine wpAny_pyNext_enum_itemC Dw he ⟨hit, pl.isList⟩ hlen hne (by simp [hne, hea]) fun y h' tk hy ho hst' hT hsz hk => ?_
    have ey : u = y := by
      have z1 : its.toArray[i]? = some u := by simpa using hu
      rw [z1] at hy
      exact Option.some.inj hy
    subst ey
    refine ⟨_, rfl, wpAny_letOwnedTupleGo_enum (s := { s with heap := h', toks := tk + 1 }) ho fun h2 he2 sb => ?_⟩
    generalize hn : s.heap.objs.size = T at hT hsz hs1 hs2 ⊢
    have hT2 : h2.get? T = some { cls := .type "tuple", data := .seq #[.int (i0 + (i : Nat)) tk, u] } := (sb.2 _ (Nat.ne_of_gt hs1)).trans hT
    have nw : ObjOk X.prog X.w (upd H T (.tup [.int (i0 + (i : Nat)), x])) h2 T (.tup [.int (i0 + (i : Nat)), x]) :=
      ⟨(by show 2 ≤ sizeLine; decide), [.int (i0 + (i : Nat)) tk, u], .cons ⟨_, rfl⟩ (.cons ru .nil), ⟨_, hT2, rfl, _, rfl⟩⟩
    have hfr : H T = none := I.hok.fresh (Nat.le_of_eq hn)
    have I2 := I.turnedNew (t' := tk + 1) (h' := h2) (ch := [e, it]) (fun b ob hb q => ?_) hf (Nat.le_of_eq hn) nw
    · refine ⟨.ref T, _, I2, rfl, ⟨T, x, rfl, hfr, rfl, fun ys hy => by rw [I.list_inj hy hq]; exact hx⟩, ⟨⟨u, ?_⟩, hst'.1.at fun o q => (sb.2 it (Ne.symm hne)).trans q, hne, hna⟩, fun b hb => ?_⟩
      · rw [show i0 + ((i + 1 : Nat) : Int) = i0 + (i : Nat) + 1 by omega]
        exact he2
      · have : b < T := by
          rcases enum_old hb with rfl | rfl
          · exact hs1
          · exact hs2
        rw [upd_ne (Nat.ne_of_lt this)]
        exact (hf b hb).1
    · have n1 : b ≠ e := fun z => hb (by simp [z])
      exact (sb.2 b n1).trans (hk b ob n1 (fun z => hb (by simp [z])) q)
  · intro X e1 e2 e3 hc i pins s σ H E I hf st hg
    subst e1 e2 e3
    obtain ⟨⟨old, he⟩, hit, hne, hna⟩ := st
    obtain ⟨xs, hq, rfl⟩ := hg
    obtain ⟨its, rv, pl, hz⟩ := I.list hq
    obtain ⟨f0, f1, _, f3, f4, f5⟩ := hf it (by simp)
    have Dw : Draws X.prog X.w X.A.in1 it [it, a] its.toArray.size _ _ := Draws.list (A := X.A.in1) (by exact I.ok.hd hc) it a hna its.toArray
    have el : its.toArray.size = xs.length := by rw [List.size_toArray, rv.length]
    refine wpAny_pyNext_enum_endD Dw he (by rw [el]; exact ⟨hit, pl.isList⟩) fun h' eb => ⟨rfl, ?_⟩
    exact I.turned (t' := s.toks) (fun b o hb q => eb b o hb q) f0 f1 f3 f4 f5
  · obtain ⟨⟨_, he⟩, _⟩ := st
    exact wpAny_pyIter_enum he h
theorem pi_enumSK {X : Cx} {K : PySem.W.Frag} {e e2 : Expr} {ta : TA} {p pos tpos : Pos} {elts : List Expr} {kk : Nat} (hK : X.K = K) (hg : Gl X "enumerate") (hm : X.mg "enumerate" = none) (ha : PA X [e, e2] ta)
    (hs : starEach [e, e2] X.env = (false, eval e X.env) :: starEach [e2] X.env := by rfl) (hp : (backTo pos (starEach [e2] X.env)).any (·.1) = false := by rfl) :
    PI X (.Tuple elts kk tpos) (.Call (.Name "enumerate" p) [e, e2] [] pos) (iEnumS K ta) := by
  subst hK
  refine ⟨fun pins s σ H R I h => Call_ (ld_blt I hg hm boot_enumerate (PyProof.Rows.callWith_type1 (thn (ha.run pos pins s σ H _ I h) fun us s1 ⟨vs, H1, I1, r1, q1⟩ => ?_) hs hp))⟩
  obtain ⟨a, i0, xs, rfl, lo, hi, hq, q⟩ := q1
  cases r1 with
  | cons r rr =>
    cases r
    cases rr with
    | cons r2 rr =>
      cases rr
      obtain ⟨tk, rfl⟩ := r2
      obtain ⟨its, rv, pl, hz⟩ := I1.list hq
      refine enum_begins (begins_list a its.toArray) pl.isList lo hi fun h' he hit hsz hk => wpAny_pyIter_enum he ?_
      have ha1 : a < s1.heap.objs.size := by
        obtain ⟨_, _, ob1, _⟩ := pl
        exact Heap.lt_size ob1
      generalize hn : s1.heap.objs.size = N at he hit hsz ha1 ⊢
      refine ⟨N + 1, [N + 1, N], _, _, H1, rfl, I1.kept (t' := s1.toks) hk, turn_enumS a (N + 1) N i0, ⟨⟨.none, by rw [show i0 + ((0 : Nat) : Int) = i0 by omega]; exact he⟩, ⟨_, hit, rfl, rfl⟩, Nat.succ_ne_self _, Nat.ne_of_lt ha1⟩, fun b hb => ?_, q⟩
      have hle : s1.heap.objs.size ≤ b := by
        rw [hn]
        rcases enum_old hb with rfl | rfl
        · exact Nat.le_succ _
        · exact Nat.le_refl _
      exact I1.fpOk hle (I1.hok.fresh hle)
end RF
/-! ## RulE -/
set_option Elab.async false
set_option linter.all false
set_option maxRecDepth 100000
set_option maxHeartbeats 4000000
/-! Own rule: a set comprehension of ints, and how many it has. -/
namespace RF
open PySem PySem.Spec PyProof.Rows L2
abbrev NoSet (w : World) (D : Addr) : HO := SetO w D (fun _ => false) 0
/-- what one turn asks: W by the turn and a measure -/
def TurnI (w : World) (J : It) (g : TG) (tt : TT) (te : TE) (D : Addr) (τ : L2.St) (vs : List Nat) (End : Hp → Prop) (W : Nat → Nat → Hp → Prop) : Prop := ∀ i m H, W i m H →
  (J.stop i H ∧ End H) ∨ (J.go i H ∧ ∃ Nx : Hp → Prop, (∀ H', Nx H' → ∃ m', m' < m ∧ W (i + 1) m' H') ∧ ∀ x H', J.yld i H x H' →
    g x τ H' fun σ2 H2 => wipe σ2 vs = τ ∧ tt σ2 H2 fun b H3 => if b = true then te σ2 H3 fun y H4 => rSAdd w (.ref D) [y] H4 fun _ H5 => Nx H5 else Nx H3)
def tScI (w : World) (wi : TI) (g : TG) (tt : TT) (te : TE) (vs : List Nat) : TE := fun σ H Q => wi σ H fun J H1 => ∀ D, H1 D = none →
  ∃ W : Nat → Nat → Hp → Prop, (∃ m, W 0 m (upd H1 D (NoSet w D))) ∧ TurnI w J g tt te D (wipe σ vs) vs (fun H2 => Q (.ref D) H2) W
section
variable {X : Cx} {elt tg iter : Expr} {ifs : List Expr} {scope : Scope} {pos : Pos} {g : TG} {tt : TT} {te : TE} {J : It} {fp : List Addr} {it D : Addr} {tn : Nat → Heap → Prop}
/-- the loop, in the block's own frame -/
theorem setLoop {s0 : Shared} {H0 : Hp} {ce : Env} {σ : L2.St} {vs : List Nat} {End : Hp → Prop} {W : Nat → Nat → Hp → Prop} {R : Result → Shared → Prop} (hc : X.calm = true)
    (T : Turn X.prog X.w X.K tg J fp it tn) (pg : PG (X.blk s0 H0 scope ce fp) tg g) (pt : PTs (X.blk s0 H0 scope ce fp) ifs tt) (pe : PE (X.blk s0 H0 scope ce fp) elt te) (turn : TurnI X.w J g tt te D (wipe σ vs) vs End W)
    (hR : ∀ H s, Inv (X.blk s0 H0 scope ce fp) [] (wipe σ vs) H s → End H → R (.ok .next) s) (m0 : Nat) {H : Hp} {s : Shared} (I0 : Inv (X.blk s0 H0 scope ce fp) [] (wipe σ vs) H s) (t0 : tn 0 s.heap) (n0 : ∀ b ∈ fp, H b = none) (w0 : W 0 m0 H) :
    codeAny (model X.prog X.w) X.A (.compLoop (.SetComp elt [⟨tg, iter, ifs, 0⟩] scope pos) 0 (.ref it) (.ref D) ce) R s := by
  have own : ∀ {σ' : L2.St} {H' : Hp} {s' : Shared}, Inv (X.blk s0 H0 scope ce fp) [] σ' H' s' → (∀ b ∈ fp, H' b = none) → ∀ b ∈ fp, FpOk (X.blk s0 H0 scope ce fp) [] H' b := by
    intro σ' H' s' I' hn b hb
    have hx := I'.ok.exf b hb
    exact ⟨hn b hb, hx.1, I'.ok.exfs b hb, .inl hb, fun x c e => hx.2 x c e, fun p hp => by simp at hp⟩
  refine PpSet.compLoopS_any (fun k s' => ∃ i H', tn i s'.heap ∧ W i k H' ∧ (∀ b ∈ fp, H' b = none) ∧ Inv (X.blk s0 H0 scope ce fp) [] (wipe σ vs) H' s') ?_ m0 ⟨0, H, t0, w0, n0, I0⟩
  rintro k s1 ⟨i, H1, t1, w1, n1, I1⟩
  rcases turn i k H1 w1 with ⟨hst, hE⟩ | ⟨hgo, Nx, hNx, step⟩
  · refine thnF (T.done (X.blk s0 H0 scope ce fp) rfl rfl rfl hc i [] s1 _ H1 _ I1 (own I1 n1) t1 hst) ?_
    rintro r s2 ⟨rfl, I2⟩
    exact hR _ _ I2 hE
  · refine thnF (T.item (X.blk s0 H0 scope ce fp) rfl rfl rfl hc i [] s1 _ H1 _ I1 (own I1 n1) t1 hgo) ?_
    rintro r s2 ⟨u, rfl, h2⟩
    refine thnF h2 ?_
    rintro _ s3 ⟨x, H3, I3, r3, y3, t3, n3⟩
    have Ip := I3.pinned (own I3 n3) (T.obj _ _ t3)
    refine thnF (pg.run _ s3 _ H3 x u _ Ip r3 (step x H3 y3)) ?_
    rintro _ s4 ⟨σ4, H4, I4, hw4, q4⟩
    -- what the turn leaves
    have back : ∀ {s' : Shared} {H' : Hp}, Inv (X.blk s0 H0 scope ce fp) ([] ++ pinsAt fp s3.heap) σ4 H' s' → Nx H' →
        ∃ m, m < k ∧ ∃ i H', tn i s'.heap ∧ W i m H' ∧ (∀ b ∈ fp, H' b = none) ∧ Inv (X.blk s0 H0 scope ce fp) [] (wipe σ vs) H' s' := by
      intro s' H' I' nx
      obtain ⟨m', lt, w'⟩ := hNx H' nx
      have stay : ∀ b ∈ fp, ∀ o, s3.heap.get? b = some o → s'.heap.get? b = some o ∧ H' b = none := fun b hb o e => by
        have z := I'.pin (b, o) (List.mem_append_right _ (List.mem_append_right _ (mem_pinsAt hb e)))
        exact ⟨z.1, z.2.1⟩
      refine ⟨m', lt, i + 1, H', T.keep _ _ _ t3 (fun b hb o e => (stay b hb o e).1), w', fun b hb => ?_, I'.unpinned.weak (by rw [← hw4, wipe_length]) fun j v e => ?_⟩
      · obtain ⟨o, e, _⟩ := T.obj _ _ t3 b hb
        exact (stay b hb o e).2
      · rw [← hw4] at e
        exact (wipe_some e).1
    refine thnF (pt.run _ s4 σ4 H4 _ I4 q4) ?_
    rintro (_ | _) s5 ⟨H5, I5, q5⟩
    · exact back I5 q5
    · refine thnF (pe.run _ s5 σ4 H5 _ I5 q5) ?_
      rintro z s6 ⟨y, H6, I6, r6, q6⟩
      refine thnF (mt_sadd (X := X.blk s0 H0 scope ce fp) _ s6 σ4 H6 (.ref D) [y] (.ref D) [z] _ I6 rfl (.cons r6 .nil) q6) ?_
      rintro _ s7 ⟨_, H7, I7, _, q7⟩
      exact back I7 q7
end
theorem keeps_of {h h' : Heap} {o : Obj} (e : h' = h.push o) : ∀ b u, h.get? b = some u → h'.get? b = some u := fun b u z => by
  rw [e]
  exact Heap.get?_push_of_some _ z
theorem pe_scI {X : Cx} {elt tg iter : Expr} {ifs : List Expr} {scope : Scope} {own : List (PySem.Str × Nat)} {pos : Pos} {wi : TI} {g : TG} {tt : TT} {te : TE} (hc : X.calm = true) (nd : X.N.Nodup) (src : PI X tg iter wi) (ok : BlkOk X.N X.env.scope scope own)
    (pg : ∀ (s : Shared) (H : Hp) (C : Addr) (cl : List (PySem.Str × Addr)) (fp : List Addr), PG (X.blk s H scope (compEnvC scope cl C X.env) fp) tg g)
    (pt : ∀ (s : Shared) (H : Hp) (C : Addr) (cl : List (PySem.Str × Addr)) (fp : List Addr), PTs (X.blk s H scope (compEnvC scope cl C X.env) fp) ifs tt)
    (pe : ∀ (s : Shared) (H : Hp) (C : Addr) (cl : List (PySem.Str × Addr)) (fp : List Addr), PE (X.blk s H scope (compEnvC scope cl C X.env) fp) elt te)
    (hs : ∀ x, foldedSetIterable iter X.env x = pure x := by intro _; rfl) :
    PE X (.SetComp elt [⟨tg, iter, ifs, 0⟩] scope pos) (tScI X.w wi g tt te (own.map (·.2))) := by
  refine ⟨fun pins s σ H Q I h => ?_⟩
  rw [PpSet.eval_SetComp]
  have clo : ∀ y ∈ scope.names, y.2 = .free → ∃ c, X.env.cells.lookup y.1 = some c := fun y hy e => I.ok.has _ (ok.free y hy e)
  refine wpAny_comprehension_free (use := none) rfl hs (closure_ok clo) ok.kind (fun y hy e => (ok.uniq y hy).trans (congrArg some e)) ?_
  refine thn (src.run pins s σ H _ I h) fun v1 s1 h1 => thn h1 ?_
  rintro v2 s2 ⟨it, fp, tn, J, H2, rfl, I2, T, t2, f2, q⟩
  refine PpSet.newSet_ok (newEnv_comp ?_)
  have free : H2 s2.heap.objs.size = none := I2.hok.fresh (Nat.le_refl _)
  obtain ⟨W, ⟨m0, w0⟩, turn⟩ := q _ free
  have small : ∀ b ∈ fp, b < s2.heap.objs.size := fun b hb => (T.obj _ _ t2 b hb).elim fun o e => Heap.lt_size e.1
  -- the new set stands
  have I3 := I2.laid (t' := s2.toks) (o := NoSet X.w s2.heap.objs.size) (a := s2.heap.objs.size) (h' := s2.heap.push { cls := .type "set", dict := none, data := .set #[] 0 (.fresh 0 0 (!X.w.params.followText "set-order")) })
    (keeps_of rfl) (Nat.le_refl _) (setO_new (setR_fresh X.w))
  have t3 : tn 0 (s2.heap.push { cls := .type "set", dict := none, data := .set #[] 0 (.fresh 0 0 (!X.w.params.followText "set-order")) }) := T.keep _ _ _ t2 fun b _ o e => keeps_of rfl b o e
  have z3 : (s2.heap.push { cls := .type "set", dict := none, data := .set #[] 0 (.fresh 0 0 (!X.w.params.followText "set-order")) }).objs.size = s2.heap.objs.size + 1 := Heap.size_push ..
  have f3 : ∀ b ∈ fp, FpOk X pins (upd H2 s2.heap.objs.size (NoSet X.w s2.heap.objs.size)) b ∧ b < s2.heap.objs.size + 1 := fun b hb =>
    ⟨⟨(upd_ne (Nat.ne_of_lt (small b hb))).trans (f2 b hb).1, (f2 b hb).2⟩, Nat.lt_succ_of_lt (small b hb)⟩
  rw [← z3] at f3
  generalize s2.heap.objs.size = D at free w0 turn I3 f3 ⊢
  generalize s2.heap.push { cls := .type "set", dict := none, data := .set #[] 0 (.fresh 0 0 (!X.w.params.followText "set-order")) } = hp3 at I3 t3 f3 ⊢
  generalize upd H2 D (NoSet X.w D) = H3 at I3 f3 w0
  have I4 := block_start I3 ok nd f3
  have t4 : tn 0 (pushCells (hp3.push { cls := .type "dict", data := .dict #[] }) scope.names) := T.keep _ _ _ t3 fun b _ o e => pushCells_keeps _ _ _ _ (keeps_of rfl b o e)
  have loop := setLoop (elt := elt) (iter := iter) (ifs := ifs) (pos := pos) (R := compPost (model X.prog X.w) X.A X.xe none (EP X pins σ Q) (.ref D) hp3.objs.size) hc T (pg _ _ _ _ _) (pt _ _ _ _ _) (pe _ _ _ _ _) turn (fun H5 s5 I5 q5 => ?_) m0 I4 t4 (fun b hb => (f3 b hb).1.1) w0
  · exact PpSet.codeAny_compStart_set loop (T.self X.A 0 _ _ _ t4 loop)
  · have I6 : Inv X pins σ H5 s5 := I3.call' (ch := fp) I5.os I5.base I5.hok I5.bare fun b hb => by
      obtain ⟨⟨_, k1, _, k2, k3, k4⟩, _⟩ := f3 b hb
      exact ⟨k2, k1, k3, k4⟩
    have e5 : H5 hp3.objs.size = none := I5.free
    obtain ⟨mm, hm, _⟩ := I5.loc
    obtain ⟨f0, f1, _, f3', f4, f5⟩ : FpOk X pins H5 hp3.objs.size := I3.fpOk (Nat.le_refl _) e5
    exact ⟨mm, hm, fun h9 sb => ⟨.ref D, H5, I6.turned (t' := s5.toks) (fun b o hb e => (sb.2 b hb).trans e) f0 f1 f3' f4 f5, rfl, q5⟩⟩
/-- len of a set of ints -/
def rLenS (w : World) : List V → Hp → VK → Prop := fun xs H Q => ∃ (a : Addr) (S : Int → Bool) (n : Nat), xs = [.ref a] ∧ H a = some (SetO w a S n) ∧ n < 2 ^ 62 ∧ Q (.int n) H
theorem call_lenS {X : Cx} : CallR X (.builtin "len") (rLenS X.w) := by
  intro pins s σ H xs us Q I r h
  obtain ⟨a, S, n, rfl, ha, hn, q⟩ := h
  obtain ⟨u, rfl, r1⟩ := vals1 r
  cases r1
  obtain ⟨o, es, ep, t, ho, hx, hd, _, _, _, _, hf, hz, _⟩ := setO_get I ha
  refine call_len_set ho hx hd hf (by rw [hz]; omega) ⟨.int n, H, I.tok _, ⟨_, by rw [hz]⟩, q⟩
end RF
/-! ## A12 -/
set_option Elab.async false
set_option linter.all false
set_option maxRecDepth 100000
set_option maxHeartbeats 4000000
namespace RF
open PySem PySem.Spec PyProof.Rows L2
section
variable {P : Program} {w : World} {K : PySem.W.Frag} {mg : Str → Option Value} {base : Heap}
theorem sc_pv {J : It} {g : TG} {tt : TT} {te : TE} {D : Addr} {τ : L2.St} {vs : List Nat} {End : Hp → Prop} {H1 : Hp} {n : Nat} (Pv : Nat → Hp → Prop) (h0 : Pv 0 (upd H1 D (NoSet w D))) (hgo : ∀ i H, i < n → Pv i H → J.go i H)
    (hs : ∀ i x H H', i < n → Pv i H → J.yld i H x H' → g x τ H' fun σ2 H2 => wipe σ2 vs = τ ∧ tt σ2 H2 fun b H3 => if b = true then te σ2 H3 fun y H4 => rSAdd w (.ref D) [y] H4 fun _ H5 => Pv (i + 1) H5 else Pv (i + 1) H3)
    (hd : ∀ H, Pv n H → J.stop n H ∧ End H) : ∃ W : Nat → Nat → Hp → Prop, (∃ m, W 0 m (upd H1 D (NoSet w D))) ∧ TurnI w J g tt te D τ vs End W := by
  refine ⟨fun i m H => m = n - i ∧ i ≤ n ∧ Pv i H, ⟨n, rfl, Nat.zero_le _, h0⟩, ?_⟩
  rintro i m H ⟨rfl, hi, p⟩
  rcases Nat.lt_or_ge i n with hlt | hge
  · exact .inr ⟨hgo i H hlt p, Pv (i + 1), fun H' p' => ⟨n - (i + 1), by omega, rfl, hlt, p'⟩, fun x H' y => hs i x H H' hlt p y⟩
  · obtain rfl : i = n := by omega
    exact .inl (hd H p)
theorem nodup_sub : ∀ (l m : List Int), l.Nodup → (∀ x ∈ l, x ∈ m) → l.length ≤ m.length
  | [], m, _, _ => Nat.zero_le _
  | x :: l, m, hn, hs => by
    obtain ⟨h1, h2⟩ := List.nodup_cons.mp hn
    have hx : x ∈ m := hs x (by simp)
    have ih := nodup_sub l (m.erase x) h2 fun y hy => (List.mem_erase_of_ne (fun z => h1 (by rw [← z]; exact hy))).mpr (hs y (by simp [hy]))
    rw [List.length_erase_of_mem hx] at ih
    have := List.length_pos_of_mem hx
    rw [List.length_cons]
    omega
/-- slips, each climber once -/
def WfS (n : Nat) (ss : List (Int × Int)) : Prop := (ss.map Prod.fst).Nodup ∧ ∀ s ∈ ss, 1 ≤ s.1 ∧ s.1 ≤ (n : Int)
theorem WfS.len {n : Nat} {ss : List (Int × Int)} (h : WfS n ss) : ss.length ≤ n := by
  have h2 : ((List.range n).map fun i : Nat => ((i : Int) + 1)).length = n := by simp
  have hsub : ∀ x ∈ ss.map Prod.fst, x ∈ (List.range n).map fun i : Nat => ((i : Int) + 1) := fun x hx => by
    obtain ⟨s, hs, rfl⟩ := List.mem_map.mp hx
    have := h.2 s hs
    exact List.mem_map.mpr ⟨(s.1 - 1).toNat, List.mem_range.mpr (by omega), by omega⟩
  have := nodup_sub _ _ h.1 hsub
  rw [h2, List.length_map] at this
  exact this
def SlipsAt (H : Hp) (l : Addr) (ss : List (Int × Int)) : Prop := ∃ as : List Addr, H l = some (.lst (as.map V.ref)) ∧ TupsAt H as (ss.map sV)
theorem SlipsAt.same {H H' : Hp} {l : Addr} {ss : List (Int × Int)} (h : SlipsAt H l ss) (s : Same H H') : SlipsAt H' l ss := by
  obtain ⟨as, h1, h2⟩ := h
  exact ⟨as, s _ _ h1, h2.same s⟩
theorem SlipsAt.get {H : Hp} {l : Addr} {ss : List (Int × Int)} (h : SlipsAt H l ss) : ∃ as : List Addr, as.length = ss.length ∧ H l = some (.lst (as.map V.ref)) ∧ ∀ (i : Nat) (b : Addr), as[i]? = some b → ∃ s, ss[i]? = some s ∧ H b = some (.tup (sV s)) := by
  obtain ⟨as, h1, h2⟩ := h
  refine ⟨as, by rw [h2.1, List.length_map], h1, fun i b hb => ?_⟩
  obtain ⟨y, hy, hb2⟩ := h2.at_ hb
  obtain ⟨s, hs, rfl⟩ := get_map hy
  exact ⟨s, hs, hb2⟩
def sp_is_slip (K : PySem.W.Frag) : Sp := fun vs H Q _ => ∃ (g a : Addr) (n : Nat) (rs : List Rp) (s : Int × Int), vs = [.ref g, .ref a] ∧ RigA K H g n rs ∧ H a = some (.tup (sV s)) ∧ 1 ≤ s.1 ∧ s.1 ≤ (n : Int) ∧ Q (.bl true) H
abbrev N_is_slip : List Str := ["rig", "thing"]
theorem sc_is_slip : FnScope N_is_slip ["rig", "thing"] (defScope s_is_slip) := ⟨rfl, rfl, rfl, by decide +kernel, rfl, by decide +kernel, by decide +kernel⟩
theorem ok_is_slip (T : TX K mg) : Okd P w K mg base 3 "is_slip" ["rig", "thing"] (sp_is_slip K) := by
  obtain ⟨fd, F⟩ := T.d_is_slip
  refine okd_of F T.g_is_slip sc_is_slip (fun _ _ _ _ _ _ us hl => match us, hl with | [_, _], _ => rfl) ?_ ?_
  · rintro vs H Q E ⟨g, a, n, rs, s, rfl, _⟩; rfl
  · rintro cdv A outer s H vs Q E hr ⟨g, a, n, rs, ⟨c, to⟩, rfl, hg, ha, h1, h2, q⟩
    refine ⟨_, (pss_cons (ps_if (PW.pt (pw_or (pt_not (pt_val (pe_callB (call_isiK2 (K := K) rfl) (by rfl) T.b_isinstance bt_isinstance (pa_cons (pv 1) (pa_cons (pe_bltn (v := .ty "tuple") (by rfl) T.b_tuple bt_tuple rfl) pa_nil))))) (pw_or1 (pt_cmpR op_ne (pe_callB (call_len_seqK (K := K) rfl) (by rfl) T.b_len bt_len (pa_cons (pv 1) pa_nil)) pe_int (nomark _))))) (pss_one (ps_ret pe_bl)) pss_nil)
  (pss_one (ps_ret (pe_and (pe_callD (ok_is_within T) hr (by decide) (by rfl) (pa_cons (pe_ix (ix_tupK (K := K) rfl) (pv 1) pe_int (fun _ _ => rfl)) (pa_cons pe_int (pa_cons (pe_methD0 (ok_Rig_many T) T.cls_Rig hr (by decide) (pv 0)) pa_nil)))) (pe_one (pe_callD (ok_is_whole T) hr (by decide) (by rfl) (pa_cons (pe_ix (ix_tupK (K := K) rfl) (pv 1) pe_int (fun _ _ => rfl)) pa_nil))))))), ?_⟩
    obtain ⟨dx, t, as, hg1, ht, hts⟩ := id hg
    refine ⟨_, rfl, _, .ty "tuple", .type "tuple", .type "tuple", _, rfl, .ty _, .base (.tup (ha)), kt_tt, true, rfl, iteF ?_⟩
    refine ⟨_, rfl, a, _, rfl, .inr (SqT.of ha), rfl, false, rfl, iteF ?_⟩
    refine ⟨_, rfl, a, _, 0, .int c, rfl, rfl, SqT.of ha, rfl, ?_⟩
    refine ⟨_, rfl, g, dx, _, rfl, hg1, rigF_m1 _ _, g, n, rs, rfl, hg, ?_⟩
    refine ⟨c, 1, n, rfl, ?_⟩
    rw [decide_eq_true (show 1 ≤ c ∧ c ≤ (n : Int) from ⟨h1, h2⟩)]
    refine ⟨_, rfl, ?_⟩
    refine iteT ?_
    exact ⟨_, rfl, a, _, 1, .int to, rfl, rfl, SqT.of ha, rfl, to, rfl, q⟩
def sp_look_at_slips (K : PySem.W.Frag) : Sp := fun vs H Q _ => ∃ (g l : Addr) (n : Nat) (rs : List Rp) (ss : List (Int × Int)), vs = [.ref g, .ref l] ∧ RigA K H g n rs ∧ SlipsAt H l ss ∧ WfS n ss ∧ n ≤ 8 ∧ ∀ H', Same H H' → Q .non H'
abbrev N_look_at_slips : List Str := ["rig", "slips", "one", "climber", "to"]
theorem sc_look_at_slips : FnScope N_look_at_slips ["rig", "slips"] (defScope s_look_at_slips) := ⟨rfl, rfl, rfl, by decide +kernel, rfl, by decide +kernel, by decide +kernel⟩
theorem ok_look_at_slips (T : TX K mg) : Okd P w K mg base 4 "look_at_slips" ["rig", "slips"] (sp_look_at_slips K) := by
  obtain ⟨fd, F⟩ := T.d_look_at_slips
  refine okd_of F T.g_look_at_slips sc_look_at_slips (fun _ _ _ _ _ _ us hl => match us, hl with | [_, _], _ => rfl) ?_ ?_
  · rintro vs H Q E ⟨g, l, n, rs, ss, rfl, _⟩; rfl
  · rintro cdv A outer s H vs Q E hr ⟨g, l, n, rs, ss, rfl, hg, hs, hw, h8, q⟩
    refine ⟨_, (pss_cons (ps_if (PW.pt (pw_or (pt_not (pt_val (pe_callB (call_isiTK (K := K) rfl) (by rfl) T.b_isinstance bt_isinstance (pa_cons (pv 1) (pa_cons (pe_tup (pa_cons (pe_bltn (v := .ty "list") (by rfl) T.b_list bt_list rfl) (pa_cons (pe_bltn (v := .ty "tuple") (by rfl) T.b_tuple bt_tuple rfl) pa_nil))) pa_nil))))) (pw_or1 (pt_not (pt_val (pe_callB (cr_allK (K := K) rfl rfl) (by rfl) T.b_all bt_all (pa_cons (pe_lc (own := [("one", 2)]) (g := gName 2) rfl (sc_look_at_slips).nd (pi_listK (K := K) rfl (pv 1)) (blkOk_by (N := N_look_at_slips) (sc := defScope s_look_at_slips) (own := [("one", 2)]) (by decide +kernel)) (fun _ _ _ _ _ => (pg_name (i := 2) (sc_look_at_slips).nd rfl (.inl rfl))) (fun _ _ _ _ _ => pts_nil) (fun _ _ _ _ _ => (pe_callD (ok_is_slip T) hr (by decide) (by rfl) (pa_cons (pv 0) (pa_cons (pv 2) pa_nil))))) pa_nil))))))) (pss_one ps_never) pss_nil)
  (pss_one (ps_if (pt_cmpR op_lt (pe_callB call_lenS (by rfl) T.b_len bt_len (pa_cons (pe_scI (own := [("climber", 3), ("to", 4)]) (g := gTup K 2 (gCons (gName 3) (gCons (gName 4) (gNil)))) rfl (sc_look_at_slips).nd (pi_listK (K := K) rfl (pv 1)) (blkOk_by (N := N_look_at_slips) (sc := defScope s_look_at_slips) (own := [("climber", 3), ("to", 4)]) (by decide +kernel)) (fun _ _ _ _ _ => (pg_tupK (K := K) rfl rfl (pgs_cons (pg_name (i := 3) (sc_look_at_slips).nd rfl (.inl rfl)) (pgs_cons (pg_name (i := 4) (sc_look_at_slips).nd rfl (.inl rfl)) pgs_nil)))) (fun _ _ _ _ _ => pts_nil) (fun _ _ _ _ _ => (pv 3))) pa_nil)) (pe_callB (call_len_seqK (K := K) rfl) (by rfl) T.b_len bt_len (pa_cons (pv 1) pa_nil)) (nomark _)) (pss_one ps_never) pss_nil))), ?_⟩
    have hsl := hw.len
    obtain ⟨as, hal, hl, hat⟩ := hs.get
    refine ⟨_, rfl, by decide, fun p hp => ?_⟩
    have s1 : Same H (upd H p (.tup [.ty "list", .ty "tuple"])) := same_upd hp
    refine ⟨_, _, _, .type "list", [.type "list", .type "tuple"], _, rfl, upd_same, .cons (.ty _) (.cons (.ty _) .nil), .base (.lst (s1 _ _ hl)), kt_lt, true, rfl, iteF ?_⟩
    revert s1
    generalize upd H p (.tup [.ty "list", .ty "tuple"]) = H1
    intro s1
    have hl1 := s1 _ _ hl
    refine ⟨_, rfl, l, rfl, ⟨_, SqL.of hl1⟩, fun D hD => ?_⟩
    refine lc_gen (n := ss.length) (fun _ => some (V.bl true)) (Nat.le_trans hsl (Nat.le_trans h8 (by decide))) hD (fun i H' hi sm => ⟨_, _, SqL.of (sm _ _ hl1), get_map2 (List.getElem?_eq_getElem (by rw [hal]; exact hi))⟩) (fun H' sm => ⟨_, SqL.of (sm _ _ hl1), by rw [List.length_map, hal]; exact Nat.le_refl _⟩) (fun i x H2 H3 Qt Qf hi sm y k1 k2 => ?_) (fun H2 sm hd => ?_)
    · obtain ⟨rfl, y⟩ := y
      obtain ⟨b, hb, rfl⟩ := get_map (y _ (SqL.of (sm _ _ hl1)))
      obtain ⟨s, hsi, hb2⟩ := hat _ _ hb
      have hm := hw.2 s (List.mem_of_getElem? hsi)
      exact ⟨rfl, _, rfl, _, rfl, g, b, n, rs, s, rfl, (hg.same s1).same sm, sm _ _ (s1 _ _ hb2), hm.1, hm.2, k1 _ _ rfl (Same.refl _)⟩
    · rw [fm_bools (p := fun _ => true) _ (fun i _ => rfl)] at hd
      have ea : ((List.range ss.length).map fun _ => true).all id = true := (all_range _ _).mpr fun _ _ => rfl
      refine ⟨D, _, rfl, SqL.of hd, _, rfl, ?_⟩
      rw [ea]
      refine iteF ?_
      have s2 := s1.trans sm
      have hl2 := s2 _ _ hl
      refine ⟨_, rfl, _, rfl, ⟨_, SqL.of hl2⟩, fun D2 hD2 => ?_⟩
      refine sc_pv (n := ss.length) (fun i H' => Same H2 H' ∧ H' D2 = some (SetO w D2 (fun k => decide (k ∈ (ss.take i).map Prod.fst)) i)) ⟨same_upd hD2, ?_⟩ (fun i H' hi p => ⟨_, _, SqL.of (p.1 _ _ hl2), get_map2 (List.getElem?_eq_getElem (by rw [hal]; exact hi))⟩) (fun i x H3 H4 hi p y => ?_) (fun H3 p => ⟨⟨_, SqL.of (p.1 _ _ hl2), by rw [List.length_map, hal]; exact Nat.le_refl _⟩, ?_⟩)
      · rw [upd_same]
        have : (fun k : Int => decide (k ∈ (ss.take 0).map Prod.fst)) = fun _ => false := by funext k; simp
        exact congrArg (fun f => some (SetO w D2 f 0)) this.symm
      · obtain ⟨rfl, y⟩ := y
        obtain ⟨p1, p2⟩ := p
        obtain ⟨b, hb, rfl⟩ := get_map (y _ (SqL.of (p1 _ _ hl2)))
        obtain ⟨⟨c, to⟩, hsi, hb2⟩ := hat _ _ hb
        refine ⟨b, _, rfl, SqT.of (p1 _ _ (s2 _ _ hb2)), rfl, _, _, rfl, _, _, rfl, rfl, rfl, ?_⟩
        have hnew : c ∉ (ss.take i).map Prod.fst := fun z => by
          have e := List.take_append_drop i ss
          have hnd := hw.1
          rw [← e, List.map_append, List.nodup_append] at hnd
          refine hnd.2.2 c z c ?_ rfl
          have hgd : (ss.drop i)[0]? = some (c, to) := by rw [List.getElem?_drop]; exact hsi
          exact List.mem_map.mpr ⟨(c, to), List.mem_of_getElem? hgd, rfl⟩
        refine ⟨_, rfl, D2, c, _, i, rfl, rfl, p2, Nat.lt_of_le_of_lt (show i + 1 ≤ 100 by omega) (by decide), same_upd2 hD2 p1, ?_⟩
        rw [upd_same, if_neg (by rw [decide_eq_false hnew]; exact Bool.false_ne_true)]
        congr 2
        funext k
        rw [List.take_add_one, hsi, List.map_append]
        simp
      · refine ⟨D2, _, ss.length, rfl, p.2, Nat.lt_of_le_of_lt (show ss.length ≤ 100 by omega) (by decide), ?_⟩
        refine ⟨_, rfl, l, _, rfl, .inl (SqL.of (p.1 _ _ hl2)), _, _, rfl, rfl, _, rfl, ?_⟩
        rw [decide_eq_false (show ¬ ((ss.length : Int) < ((as.map V.ref).length : Nat)) by rw [List.length_map, hal]; omega)]
        exact q _ (s2.trans p.1)
end
end RF
/-! ## A13 -/
set_option Elab.async false
set_option linter.all false
set_option maxRecDepth 100000
set_option maxHeartbeats 4000000
namespace RF
open PySem PySem.Spec PyProof.Rows L2
section
variable {P : Program} {w : World} {K : PySem.W.Frag} {mg : Str → Option Value} {base : Heap}
/-! ### pairs with int keys -/
def lkp {α : Type} : List (Int × α) → Int → Option α
  | [], _ => none
  | p :: r, c => if p.1 = c then some p.2 else lkp r c
def putL {α : Type} : List (Int × α) → Int → α → List (Int × α)
  | [], c, x => [(c, x)]
  | p :: r, c, x => if p.1 = c then (c, x) :: r else p :: putL r c x
def gkv {α : Type} (f : α → V) (es : List (Int × α)) : List (Key × V) := es.map fun p => ((Sum.inl p.1 : Key), f p.2)
theorem gkv_len {α : Type} (f : α → V) (es : List (Int × α)) : (gkv f es).length = es.length := List.length_map ..
theorem inl_ne {a c : Int} (h : ¬ a = c) : ¬ (Sum.inl a : Key) = Sum.inl c := fun z => h (Sum.inl.inj z)
theorem gkv_val {α : Type} (f : α → V) (c : Int) : ∀ es : List (Int × α), valV (gkv f es) (Sum.inl c : Key) = (lkp es c).map f
  | [] => rfl
  | p :: r => by
    have ih := gkv_val f c r
    show valV (((Sum.inl p.1 : Key), f p.2) :: gkv f r) _ = _
    unfold lkp
    by_cases h : p.1 = c
    · rw [if_pos h, valV_pos (by show (Sum.inl p.1 : Key) = _; rw [h])]; rfl
    · rw [if_neg h, valV_neg (inl_ne h)]; exact ih
theorem lkp_none {α : Type} {c : Int} : ∀ {es : List (Int × α)}, lkp es c = none ↔ c ∉ es.map Prod.fst
  | [] => by simp [lkp]
  | p :: r => by
    have ih := lkp_none (c := c) (es := r)
    unfold lkp
    by_cases h : p.1 = c
    · rw [if_pos h]; simp [h]
    · rw [if_neg h, ih]
      constructor
      · intro h1 z
        rcases List.mem_cons.mp z with z | z
        · exact h z.symm
        · exact h1 z
      · intro h1 z; exact h1 (List.mem_cons_of_mem _ z)
theorem lkp_mem {α : Type} {c : Int} {x : α} : ∀ {es : List (Int × α)}, lkp es c = some x → (c, x) ∈ es
  | p :: r, h => by
    unfold lkp at h
    by_cases q : p.1 = c
    · rw [if_pos q] at h
      cases h
      rw [← q]
      simp
    · rw [if_neg q] at h
      exact List.mem_cons_of_mem _ (lkp_mem h)
theorem lkp_of {α : Type} {c : Int} {x : α} : ∀ {es : List (Int × α)}, (es.map Prod.fst).Nodup → (c, x) ∈ es → lkp es c = some x
  | p :: r, hn, h => by
    rw [List.map_cons, List.nodup_cons] at hn
    unfold lkp
    rcases List.mem_cons.mp h with z | z
    · rw [if_pos (by rw [← z]), ← z]
    · rw [if_neg (fun q => hn.1 (by rw [q]; exact List.mem_map.mpr ⟨_, z, rfl⟩))]
      exact lkp_of hn.2 z
theorem lkp_put {α : Type} (c j : Int) (x : α) : ∀ es : List (Int × α), lkp (putL es c x) j = if j = c then some x else lkp es j
  | [] => by
    unfold putL lkp
    by_cases h : c = j
    · rw [if_pos h, if_pos h.symm]
    · rw [if_neg h, if_neg fun z => h z.symm]; rfl
  | p :: r => by
    have ih := lkp_put c j x r
    unfold putL
    by_cases h : p.1 = c
    · rw [if_pos h]
      unfold lkp
      by_cases q : c = j
      · rw [if_pos q, if_pos q.symm]
      · rw [if_neg q, if_neg fun z => q z.symm, if_neg (by rw [h]; exact q)]
    · rw [if_neg h]
      unfold lkp
      by_cases q : p.1 = j
      · rw [if_pos q, if_pos q, if_neg fun z => h (q.trans z)]
      · rw [if_neg q, if_neg q, ih]
theorem putL_keys {α : Type} (c : Int) (x : α) : ∀ es : List (Int × α), (putL es c x).map Prod.fst = if c ∈ es.map Prod.fst then es.map Prod.fst else es.map Prod.fst ++ [c]
  | [] => rfl
  | p :: r => by
    have ih := putL_keys c x r
    unfold putL
    by_cases h : p.1 = c
    · rw [if_pos h, if_pos (by simp [h])]
      simp [h]
    · rw [if_neg h]
      show p.1 :: _ = _
      rw [ih]
      by_cases q : c ∈ r.map Prod.fst
      · rw [if_pos q, if_pos (by simp only [List.map_cons, List.mem_cons]; exact .inr q)]; rfl
      · rw [if_neg q, if_neg (by
          simp only [List.map_cons, List.mem_cons]
          exact fun z => z.elim (fun z => h z.symm) q)]
        rfl
theorem putL_nodup {α : Type} {c : Int} {x : α} {es : List (Int × α)} (h : (es.map Prod.fst).Nodup) : ((putL es c x).map Prod.fst).Nodup := by
  rw [putL_keys]
  split
  · exact h
  · rename_i q
    rw [List.nodup_append]
    refine ⟨h, by simp, fun a ha b hb z => q ?_⟩
    have : b = c := by simpa using hb
    rw [← this, ← z]; exact ha
theorem putL_new {α : Type} {c : Int} {x : α} : ∀ {es : List (Int × α)}, c ∉ es.map Prod.fst → putL es c x = es ++ [(c, x)]
  | [], _ => rfl
  | p :: r, h => by
    unfold putL
    rw [if_neg (fun z => h (by simp [z])), putL_new (fun z => h (List.mem_cons_of_mem _ z))]
    rfl
theorem putL_len {α : Type} (c : Int) (x : α) : ∀ es : List (Int × α), (putL es c x).length ≤ es.length + 1
  | [] => Nat.le_refl _
  | p :: r => by
    unfold putL
    split
    · simp
    · have := putL_len c x r
      rw [List.length_cons, List.length_cons]; omega
theorem gkv_same {α : Type} (f : α → V) (c : Int) (y : V) : ∀ es : List (Int × α), c ∉ es.map Prod.fst → (gkv f es).map (fun kv => if kv.1 = (Sum.inl c : Key) then (kv.1, y) else kv) = gkv f es
  | [], _ => rfl
  | p :: r, h => by
    have ih := gkv_same f c y r fun z => h (List.mem_cons_of_mem _ z)
    show (if (Sum.inl p.1 : Key) = Sum.inl c then _ else _) :: _ = _
    rw [if_neg (inl_ne fun z => h (by simp [z]))]
    exact congrArg _ ih
theorem gkv_put {α : Type} (f : α → V) (c : Int) (x : α) {es : List (Int × α)} (hn : (es.map Prod.fst).Nodup) : putK (gkv f es) (Sum.inl c : Key) (f x) = gkv f (putL es c x) := by
  by_cases h : c ∈ es.map Prod.fst
  · unfold putK
    rw [valV_any, gkv_val]
    have hs : ((lkp es c).map f).isSome = true := by
      cases q : lkp es c with
      | none => exact absurd h (lkp_none.mp q)
      | some y => rfl
    rw [if_pos hs]
    clear hs
    induction es with
    | nil => simp at h
    | cons p r ih =>
      rw [List.map_cons, List.nodup_cons] at hn
      unfold putL
      show (if (Sum.inl p.1 : Key) = Sum.inl c then _ else _) :: (gkv f r).map _ = _
      by_cases q : p.1 = c
      · rw [if_pos q, if_pos (by rw [q]), gkv_same f c (f x) r (by rw [← q]; exact hn.1)]
        show ((Sum.inl p.1 : Key), f x) :: _ = ((Sum.inl c : Key), f x) :: _
        rw [q]
        rfl
      · rw [if_neg q, if_neg (inl_ne q)]
        have h2 : c ∈ r.map Prod.fst := (List.mem_cons.mp h).elim (fun z => absurd z.symm q) id
        exact congrArg _ (ih hn.2 h2)
  · rw [putK_new _ (by rw [gkv_val, lkp_none.mpr h]; rfl), putL_new h]
    show gkv f es ++ _ = _
    unfold gkv
    rw [List.map_append]
    rfl
theorem gkv_get {α : Type} {f : α → V} {es : List (Int × α)} {i : Nat} {kv : Key × V} (h : (gkv f es)[i]? = some kv) : ∃ p, es[i]? = some p ∧ kv = ((Sum.inl p.1 : Key), f p.2) := get_map h
/-! ### two lists, member by member -/
theorem paired_get {α β : Type} {F : α → β → Prop} : ∀ {xs : List α} {ys : List β} {i : Nat} {x : α}, Paired F xs ys → xs[i]? = some x → ∃ y, ys[i]? = some y ∧ F x y
  | _, _, _, _, .nil, e => by simp at e
  | _, _, 0, _, .cons h _, e => ⟨_, rfl, by simp at e; rw [← e]; exact h⟩
  | _, _, i + 1, _, .cons _ t, e => paired_get (i := i) t e
theorem paired_mono {α β : Type} {F G : α → β → Prop} (k : ∀ a b, F a b → G a b) : ∀ {xs : List α} {ys : List β}, Paired F xs ys → Paired G xs ys
  | _, _, .nil => .nil
  | _, _, .cons h t => .cons (k _ _ h) (paired_mono k t)
/-- chains by climbers: e the climber and the chain's place -/
def StE (H : Hp) (e : Int × Addr) (st : Int × List Int) : Prop := e.1 = st.1 ∧ H e.2 = some (.lst (st.2.map V.int)) ∧ st.2.length ≤ 900
def StopsAt (H : Hp) (d : Addr) (sts : List (Int × List Int)) : Prop := ∃ es : List (Int × Addr), H d = some (.dK (gkv V.ref es)) ∧ Paired (StE H) es sts
theorem ste_same {H H' : Hp} (s : Same H H') {e : Int × Addr} {st : Int × List Int} (h : StE H e st) : StE H' e st := ⟨h.1, s _ _ h.2.1, h.2.2⟩
theorem StopsAt.same {H H' : Hp} {d : Addr} {sts : List (Int × List Int)} (h : StopsAt H d sts) (s : Same H H') : StopsAt H' d sts := by
  obtain ⟨es, h1, h2⟩ := h
  exact ⟨es, s _ _ h1, paired_mono (fun _ _ => ste_same s) h2⟩
theorem st_keys {H : Hp} : ∀ {es : List (Int × Addr)} {sts : List (Int × List Int)}, Paired (StE H) es sts → es.map Prod.fst = sts.map Prod.fst
  | _, _, .nil => rfl
  | _, _, .cons h t => by rw [List.map_cons, List.map_cons, h.1, st_keys t]
theorem st_lkp {H : Hp} {c : Int} : ∀ {es : List (Int × Addr)} {sts : List (Int × List Int)}, Paired (StE H) es sts → (lkp es c = none ∧ lkp sts c = none) ∨ ∃ a cs, lkp es c = some a ∧ lkp sts c = some cs ∧ H a = some (.lst (cs.map V.int)) ∧ cs.length ≤ 900
  | _, _, .nil => .inl ⟨rfl, rfl⟩
  | e :: _, st :: _, .cons h t => by
    unfold lkp
    rw [h.1]
    by_cases q : st.1 = c
    · rw [if_pos q, if_pos q]
      exact .inr ⟨_, _, rfl, rfl, h.2.1, h.2.2⟩
    · rw [if_neg q, if_neg q]
      exact st_lkp t
theorem st_put {H : Hp} {c : Int} {a : Addr} {cs : List Int} (ha : H a = some (.lst (cs.map V.int))) (hl : cs.length ≤ 900) : ∀ {es : List (Int × Addr)} {sts : List (Int × List Int)}, Paired (StE H) es sts → Paired (StE H) (putL es c a) (putL sts c cs)
  | _, _, .nil => .cons ⟨rfl, ha, hl⟩ .nil
  | e :: _, st :: _, .cons h t => by
    unfold putL
    rw [h.1]
    by_cases q : st.1 = c
    · rw [if_pos q, if_pos q]
      exact .cons ⟨rfl, ha, hl⟩ t
    · rw [if_neg q, if_neg q]
      exact .cons h (st_put ha hl t)
/-! ### what is new -/
open Classical in
noncomputable def nw (H0 H : Hp) : Hp := fun b => if H0 b = none then H b else none
theorem nw_sub {H0 H : Hp} : Same (nw H0 H) H := fun b o e => by
  unfold nw at e
  split at e
  · exact e
  · cases e
theorem nw_of {H0 H : Hp} {b : Addr} {o : HO} (h0 : H0 b = none) (h : H b = some o) : nw H0 H b = some o := by
  unfold nw
  rw [if_pos h0]; exact h
theorem nw_new {H0 H : Hp} {b : Addr} {o : HO} (h : nw H0 H b = some o) : H0 b = none := by
  unfold nw at h
  split at h
  · assumption
  · cases h
theorem nw_mono {H0 H H' : Hp} (s : Same H H') : Same (nw H0 H) (nw H0 H') := fun b o e => nw_of (nw_new e) (s _ _ (nw_sub _ _ e))
theorem nw_anti {H0 H1 H : Hp} (s : Same H0 H1) : Same (nw H1 H) (nw H0 H) := fun b o e => nw_of (s.free (nw_new e)) (nw_sub _ _ e)
theorem nw_msk {M : List Addr} {H0 H : Hp} (t : Trk M H0) : Same (nw H0 H) (msk M H) := fun b o e => msk_of (t.fresh (nw_new e)) (nw_sub _ _ e)
end
end RF
/-! ## A14 -/
set_option Elab.async false
set_option linter.all false
set_option maxRecDepth 100000
set_option maxHeartbeats 4000000
namespace RF
open PySem PySem.Spec PyProof.Rows L2
section
variable {P : Program} {w : World} {K : PySem.W.Frag} {mg : Str → Option Value} {base : Heap}
noncomputable def isDue (rs : List Rp) (s : Int × Int) : Bool := match dst rs 0 s.1 with
  | none => false
  | some d => decide (s.2 < 0 - d)
noncomputable def dueL (rs : List Rp) (ss : List (Int × Int)) : List Int := (ss.filter (isDue rs)).map Prod.fst
def StOk (rs : List Rp) (st : Int × List Int) : Prop := ∃ d, dst rs 0 st.1 = some d ∧ ChOk rs 0 st.2 st.1 ∧ chSum rs st.2 = d
theorem due_take {rs : List Rp} {ss : List (Int × Int)} {i : Nat} {s : Int × Int} (h : ss[i]? = some s) : dueL rs (ss.take (i + 1)) = dueL rs (ss.take i) ++ if isDue rs s = true then [s.1] else [] := by
  unfold dueL
  rw [List.take_add_one, h, List.filter_append, List.map_append]
  congr 1
  show ([s].filter _).map _ = _
  rw [List.filter_cons]
  split <;> rfl
theorem due_sub {rs : List Rp} {ss : List (Int × Int)} {c : Int} (h : c ∈ dueL rs ss) : c ∈ ss.map Prod.fst := by
  obtain ⟨s, hs, rfl⟩ := List.mem_map.mp h
  exact List.mem_map.mpr ⟨s, (List.mem_filter.mp hs).1, rfl⟩
theorem fresh_key {n : Nat} {ss : List (Int × Int)} (hw : WfS n ss) {i : Nat} {s : Int × Int} (h : ss[i]? = some s) : s.1 ∉ (ss.take i).map Prod.fst := fun z => by
  have hnd := hw.1
  rw [← List.take_append_drop i ss, List.map_append, List.nodup_append] at hnd
  refine hnd.2.2 _ z _ ?_ rfl
  have hgd : (ss.drop i)[0]? = some s := by rw [List.getElem?_drop]; exact h
  exact List.mem_map.mpr ⟨s, List.mem_of_getElem? hgd, rfl⟩
def sp_stops_by (K : PySem.W.Frag) : Sp := fun vs H Q _ => ∃ (x l : Addr) (n : Nat) (rs : List Rp) (ss : List (Int × Int)), vs = [.ref x, .ref l] ∧ TabA K H x n rs ∧ SlipsAt H l ss ∧ WfS n ss ∧ n ≤ 8 ∧
  ∀ H' d sts, Same H H' → StopsAt (nw H H') d sts → sts.map Prod.fst = dueL rs ss → (∀ st ∈ sts, StOk rs st) → Q (.ref d) H'
abbrev N_stops_by : List Str := ["table", "slips", "found", "climber", "to", "low"]
theorem sc_stops_by : FnScope N_stops_by ["table", "slips"] (defScope s_stops_by) := ⟨rfl, rfl, rfl, by decide +kernel, rfl, by decide +kernel, by decide +kernel⟩
theorem ok_stops_by (T : TX K mg) : Okd P w K mg base 6 "stops_by" ["table", "slips"] (sp_stops_by K) := by
  obtain ⟨fd, F⟩ := T.d_stops_by
  refine okd_of F T.g_stops_by sc_stops_by (fun _ _ _ _ _ _ us hl => match us, hl with | [_, _], _ => rfl) ?_ ?_
  · rintro vs H Q E ⟨x, l, n, rs, ss, rfl, _⟩; rfl
  · rintro cdv A outer s H vs Q E hr ⟨x, l, n, rs, ss, rfl, ht, hs, hw, h8, q⟩
    have hu := hu_of hr
    refine ⟨_, (pss_cons (ps_set (i := 2) (sc_stops_by).nd rfl (.inl rfl) pe_dnewK)
  (pss_cons (ps_for PassesOwn.never rfl (pi_listK (K := K) rfl (pv 1)) (pg_tupK (K := K) rfl rfl (pgs_cons (pg_name (i := 3) (sc_stops_by).nd rfl (.inl rfl)) (pgs_cons (pg_name (i := 4) (sc_stops_by).nd rfl (.inl rfl)) pgs_nil))) (pss_cons (ps_set (i := 5) (sc_stops_by).nd rfl (.inl rfl) (pe_methD (ok_Table_least T) T.cls_Table hr (by decide) (pv 0) (pa_cons pe_int (pa_cons (pv 3) pa_nil))))
  (pss_one (ps_if (PW.pt (pw_and (pt_cmpR op_notN (pv 5) pe_non (nomark _)) (pw_and1 (pt_cmpR op_lt (pv 4) (pe_op op_sub pe_int (pv 5)) (nomark _))))) (pss_one (ps_dput hu (pv 2) (pv 3) (pe_methD (ok_Table_chain T) T.cls_Table hr (by decide) (pv 0) (pa_cons pe_int (pa_cons (pv 3) pa_nil))) rfl)) pss_nil))))
  (pss_one (ps_ret (pv 2))))), ?_⟩
    have hsl := hw.len
    obtain ⟨as, hal, hl, hat⟩ := hs.get
    intro D hD
    have s0 : Same H (upd H D (.dK [])) := same_upd hD
    have hd0 : (upd H D (.dK [])) D = some (.dK (gkv V.ref [])) := upd_same
    revert s0 hd0
    generalize upd H D (.dK []) = H1
    intro s0 hd0
    refine ⟨_, rfl, l, rfl, ⟨_, SqL.of (s0 _ _ hl)⟩, ?_⟩
    refine for_gen (n := ss.length) (fun i σ H2 => ∃ v3 v4 v5, σ = [some (.ref x), some (.ref l), some (.ref D), v3, v4, v5] ∧ Same H H2 ∧ ∃ (es : List (Int × Addr)) (sts : List (Int × List Int)), H2 D = some (.dK (gkv V.ref es)) ∧ Paired (StE (nw H H2)) es sts ∧ sts.map Prod.fst = dueL rs (ss.take i) ∧ ∀ st ∈ sts, StOk rs st)
      ⟨_, _, _, rfl, s0, [], [], hd0, .nil, rfl, fun st h => by simp at h⟩ (fun i σ H2 hi p => ?_) (fun i x' σ H2 H3 hi p y => ?_) (fun σ H2 p => ?_)
    · obtain ⟨_, _, _, _, s2, _⟩ := p
      exact ⟨_, _, SqL.of (s2 _ _ hl), get_map2 (List.getElem?_eq_getElem (by rw [hal]; exact hi))⟩
    · obtain ⟨v3, v4, v5, rfl, s2, es, sts, hd2, hps, hk, hok⟩ := p
      obtain ⟨rfl, y⟩ := y
      obtain ⟨b, hb, rfl⟩ := get_map (y _ (SqL.of (s2 _ _ hl)))
      obtain ⟨⟨c, to⟩, hsi, hb2⟩ := hat _ _ hb
      have hcm := hw.2 _ (List.mem_of_getElem? hsi)
      have hkc : Kn n c := ⟨by have := hcm.1; omega, hcm.2⟩
      refine ⟨b, _, rfl, SqT.of (s2 _ _ hb2), rfl, _, _, rfl, _, _, rfl, rfl, ?_⟩
      have htb := ht.same s2
      obtain ⟨dx, g, bl, ds, hx, _⟩ := id htb
      refine ⟨_, rfl, x, dx, _, rfl, hx, tabF_m2 _ _, _, rfl, x, n, rs, 0, c, rfl, htb, ⟨Int.le_refl _, by omega⟩, hkc, fun H4 s4 => ?_⟩
      have hdue : isDue rs (c, to) = match dst rs 0 c with
        | none => false
        | some d => decide (to < 0 - d) := rfl
      have htk := due_take (rs := rs) hsi
      have hd1 : ∀ d, dst rs 0 c = some d → isDue rs (c, to) = decide (to < 0 - d) := fun d e => by rw [hdue, e]
      have hd2' : dst rs 0 c = none → isDue rs (c, to) = false := fun e => by rw [hdue, e]
      clear hdue
      have hps4 := paired_mono (fun _ _ => ste_same (nw_mono (H0 := H) s4)) hps
      cases hdc : dst rs 0 c with
      | none =>
        refine ⟨_, rfl, rfl, _, rfl, ?_⟩
        refine iteF ⟨_, _, _, rfl, s2.trans s4, es, sts, s4 _ _ hd2, hps4, ?_, hok⟩
        rw [htk, hd2' hdc, hk]; simp
      | some d =>
        refine ⟨_, rfl, rfl, _, rfl, iteT ?_⟩
        refine ⟨_, rfl, _, rfl, _, _, rfl, rfl, _, _, rfl, rfl, _, rfl, ?_⟩
        refine ite2 (fun e => ?_) (fun e => ?_)
        · have e : to < 0 - d := of_decide_eq_true e
          have htc := htb.same s4
          obtain ⟨dx2, g2, bl2, ds2, hx2, _⟩ := id htc
          refine ⟨_, rfl, x, dx2, _, rfl, hx2, tabF_m3 _ _, _, rfl, x, n, rs, 0, c, d, rfl, htc, ⟨Int.le_refl _, by omega⟩, hkc, hdc, fun H5 p ch s5 hpn hp hch hsum hlen => ?_⟩
          have s25 : Same H H5 := (s2.trans s4).trans s5
          have hd5 := s5 _ _ (s4 _ _ hd2)
          have hdp : D ≠ p := ne_of_none (s4 _ _ hd2) hpn
          have hDH : H D = none := hD
          have hp0 : H p = none := (s2.trans s4).free hpn
          have hcn : c ∉ es.map Prod.fst := by
            rw [st_keys hps, hk]
            exact fun z => fresh_key hw hsi (due_sub z)
          have hln : es.length ≤ i := by
            have := congrArg List.length hk
            rw [← st_keys hps, List.length_map] at this
            rw [this]
            unfold dueL
            rw [List.length_map]
            exact Nat.le_trans (List.length_filter_le ..) (by rw [List.length_take]; exact Nat.min_le_left ..)
          refine ⟨_, rfl, _, rfl, D, _, rfl, DPut.k (k := Sum.inl c) hd5 (by rw [gkv_len]; exact Nat.lt_of_le_of_lt (show es.length ≤ 100 by omega) (by decide)), ?_⟩
          refine ⟨_, _, _, rfl, same_upd2 hDH s25, es ++ [(c, p)], sts ++ [(c, ch)], ?_, ?_, ?_, fun st hst => ?_⟩
          · rw [upd_same, ← putL_new hcn]
            have hnd : (es.map Prod.fst).Nodup := by
              rw [st_keys hps, hk]
              unfold dueL
              exact List.Nodup.sublist ((List.filter_sublist.trans (List.take_sublist ..)).map _) hw.1
            rw [gkv_put V.ref c p hnd]
          · have k5 : ∀ b xs, nw H H5 b = some (.lst xs) → nw H (upd H5 D (.dK (putK (gkv V.ref es) (Sum.inl c) (.ref p)))) b = some (.lst xs) := fun b xs e => by
              refine nw_of (nw_new e) ?_
              rw [upd_ne (ne_of (nw_sub _ _ e) hd5 (by intro z; cases z))]
              exact nw_sub _ _ e
            refine Paired.snoc (paired_mono (fun a b h => ⟨h.1, k5 _ _ ?_, h.2.2⟩) hps) ⟨rfl, k5 _ _ (nw_of hp0 hp), hlen⟩
            exact nw_mono (s4.trans s5) _ _ h.2.1
          · rw [List.map_append, hk, htk, hd1 d hdc, decide_eq_true e]; rfl
          · rcases List.mem_append.mp hst with z | z
            · exact hok st z
            · have z : st = (c, ch) := by simpa using z
              subst z
              exact ⟨d, hdc, hch, hsum⟩
        · have e : ¬ to < 0 - d := fun z => e (decide_eq_true z)
          refine ⟨_, _, _, rfl, s2.trans s4, es, sts, s4 _ _ hd2, hps4, ?_, hok⟩
          rw [htk, hd1 d hdc, decide_eq_false e, hk]; simp
    · obtain ⟨v3, v4, v5, rfl, s2, es, sts, hd2, hps, hk, hok⟩ := p
      rw [List.take_length] at hk
      refine ⟨⟨_, SqL.of (s2 _ _ hl), by rw [List.length_map, hal]; exact Nat.le_refl _⟩, _, rfl, ?_⟩
      exact q H2 D sts s2 ⟨es, nw_of hD hd2, hps⟩ hk hok
end
end RF
/-! ## A15 -/
set_option Elab.async false
set_option linter.all false
set_option maxRecDepth 100000
set_option maxHeartbeats 4000000
namespace RF
open PySem PySem.Spec PyProof.Rows L2
section
variable {P : Program} {w : World} {K : PySem.W.Frag} {mg : Str → Option Value} {base : Heap}
theorem merge_gkv {α : Type} (f : α → V) : ∀ (more es : List (Int × α)), ((es ++ more).map Prod.fst).Nodup → mergeK (gkv f es) (gkv f more) = gkv f (es ++ more)
  | [], es, _ => by rw [List.append_nil]; rfl
  | p :: r, es, h => by
    have hp : p.1 ∉ es.map Prod.fst := fun z => by
      rw [List.map_append, List.nodup_append] at h
      exact h.2.2 _ z _ (by simp) rfl
    have hn : (es.map Prod.fst).Nodup := by
      rw [List.map_append, List.nodup_append] at h
      exact h.1
    have ih := merge_gkv f r (es ++ [(p.1, p.2)]) (by rw [List.append_assoc]; exact h)
    show mergeK (putK (gkv f es) (Sum.inl p.1 : Key) (f p.2)) (gkv f r) = _
    rw [gkv_put f p.1 p.2 hn, putL_new hp, ih, List.append_assoc]
    rfl
theorem pair_slips {K : PySem.W.Frag} {H : Hp} : ∀ {as : List Addr} {ss : List (Int × Int)}, TupsAt H as (ss.map sV) → Paired (fun p kv => SqT K H p [kV kv.1, kv.2]) as (gkv V.int ss)
  | [], [], _ => .nil
  | [], _ :: _, h => by have := h.1; simp at this
  | _ :: _, [], h => by have := h.1; simp at this
  | a :: as, s :: ss, h => .cons (SqT.of (h.2 0 a (sV s) rfl rfl)) (pair_slips ⟨by have := h.1; simpa using this, fun i b x e1 e2 => h.2 (i + 1) b x e1 e2⟩)
/-- all but the dicts -/
def nod (H : Hp) : Hp := fun b => match H b with
  | some (.dK _) => none
  | x => x
theorem nod_of {H : Hp} {b : Addr} {o : HO} (h : H b = some o) (hd : ∀ kvs, o ≠ .dK kvs) : nod H b = some o := by
  unfold nod
  rw [h]
  cases o <;> first | rfl | exact absurd rfl (hd _)
theorem nod_sub {H : Hp} : Same (nod H) H := fun b o e => by
  unfold nod at e
  split at e
  · cases e
  · exact e
theorem nod_upd {H : Hp} {d : Addr} {kvs : List (Key × V)} {o : HO} (h : H d = some (.dK kvs)) : Same (nod H) (upd H d o) := fun b x e => by
  have hb : b ≠ d := fun z => by
    rw [z] at e
    unfold nod at e
    rw [h] at e
    cases e
  rw [upd_ne hb]
  exact nod_sub _ _ e
theorem TupsAt.nod {H : Hp} {as : List Addr} {xs : List (List V)} (h : TupsAt H as xs) : TupsAt (nod H) as xs := ⟨h.1, fun i a x e1 e2 => nod_of (h.2 i a x e1 e2) (fun _ z => by cases z)⟩
theorem RigA.nod {K : PySem.W.Frag} {H : Hp} {g : Addr} {n : Nat} {rs : List Rp} (h : RigA K H g n rs) : RigA K (nod H) g n rs := by
  obtain ⟨dx, t, as, h1, h2, h3⟩ := h
  exact ⟨dx, t, as, nod_of h1 (fun _ z => by cases z), nod_of h2 (fun _ z => by cases z), h3.nod⟩
theorem nod_lst {H : Hp} {a : Addr} {xs : List V} (h : H a = some (.lst xs)) : RF.nod H a = some (.lst xs) := nod_of h (fun _ z => by cases z)
def endOf (rs : List Rp) (ss : List (Int × Int)) (sts : List (Int × List Int)) (c : Int) : Option Int := match lkp sts c with
  | some cs => some (0 - chSum rs cs)
  | none => lkp ss c
theorem lkp_snoc {α : Type} {c j : Int} {x : α} : ∀ {es : List (Int × α)}, c ∉ es.map Prod.fst → lkp (es ++ [(c, x)]) j = if j = c then some x else lkp es j
  | [], _ => by
    show lkp [(c, x)] j = _
    unfold lkp
    by_cases h : c = j
    · rw [if_pos h, if_pos h.symm]
    · rw [if_neg h, if_neg fun z => h z.symm]; rfl
  | p :: r, hn => by
    show lkp (p :: (r ++ [(c, x)])) j = _
    unfold lkp
    by_cases h : p.1 = j
    · rw [if_pos h, if_neg fun z => hn (by simp [h, z]), if_pos h]
    · rw [if_neg h, if_neg h]
      exact lkp_snoc fun z => hn (List.mem_cons_of_mem _ z)
def sp_ends_by (K : PySem.W.Frag) : Sp := fun vs H Q _ => ∃ (g l d : Addr) (n : Nat) (rs : List Rp) (ss : List (Int × Int)) (sts : List (Int × List Int)), vs = [.ref g, .ref l, .ref d] ∧ RigA K H g n rs ∧ SlipsAt H l ss ∧ WfS n ss ∧ n ≤ 8 ∧ rs.length ≤ 60 ∧
  StopsAt H d sts ∧ (sts.map Prod.fst).Nodup ∧ (∀ st ∈ sts, st.1 ∈ ss.map Prod.fst ∧ IsCh rs st.2) ∧
  ∀ H' e es, Same H H' → H e = none → H' e = some (.dK (gkv V.int es)) → es.map Prod.fst = ss.map Prod.fst → (∀ c, lkp es c = endOf rs ss sts c) → Q (.ref e) H'
abbrev N_ends_by : List Str := ["rig", "slips", "stops", "found", "climber", "chain"]
theorem sc_ends_by : FnScope N_ends_by ["rig", "slips", "stops"] (defScope s_ends_by) := ⟨rfl, rfl, rfl, by decide +kernel, rfl, by decide +kernel, by decide +kernel⟩
theorem ok_ends_by (T : TX K mg) : Okd P w K mg base 7 "ends_by" ["rig", "slips", "stops"] (sp_ends_by K) := by
  obtain ⟨fd, F⟩ := T.d_ends_by
  refine okd_of F T.g_ends_by sc_ends_by (fun _ _ _ _ _ _ us hl => match us, hl with | [_, _, _], _ => rfl) ?_ ?_
  · rintro vs H Q E ⟨g, l, d, n, rs, ss, sts, rfl, _⟩; rfl
  · rintro cdv A outer s H vs Q E hr ⟨g, l, d, n, rs, ss, sts, rfl, hg, hs, hw, h8, h60, hst, hnd, hin, q⟩
    have hu := hu_of hr
    refine ⟨_, (pss_cons (ps_set (i := 3) (sc_ends_by).nd rfl (.inl rfl) (pe_callTy (call_dictPK (K := K) rfl rfl) (by rfl) T.b_dict bt_dict (pa_cons (pv 1) pa_nil)))
  (pss_cons (ps_lock (ps_for PassesOwn.never rfl (pi_items (pv 2)) (pg_tupK (K := K) rfl rfl (pgs_cons (pg_name (i := 4) (sc_ends_by).nd rfl (.inl rfl)) (pgs_cons (pg_name (i := 5) (sc_ends_by).nd rfl (.inl rfl)) pgs_nil))) (pss_one (ps_dput hu (pv 3) (pv 4) (pe_op op_sub pe_int (pe_callD (ok_sum_of T) hr (by decide) (by rfl) (pa_cons (pv 0) (pa_cons (pv 5) pa_nil)))) rfl))))
  (pss_one (ps_ret (pv 3))))), ?_⟩
    have hsl := hw.len
    obtain ⟨as, hl, hts⟩ := hs
    obtain ⟨dst0, hd, hps⟩ := hst
    refine ⟨_, rfl, l, as, gkv V.int ss, rfl, SqL.of hl, pair_slips hts, fun e he => ?_⟩
    rw [show mergeK [] (gkv V.int ss) = gkv V.int ss from merge_gkv V.int ss [] hw.1]
    have s1 : Same H (upd H e (.dK (gkv V.int ss))) := same_upd he
    have he1 : (upd H e (.dK (gkv V.int ss))) e = some (.dK (gkv V.int ss)) := upd_same
    have hed : e ≠ d := (ne_of_none hd he).symm
    revert s1 he1
    generalize upd H e (.dK (gkv V.int ss)) = H1
    intro s1 he1
    have hd1 := s1 _ _ hd
    refine ⟨d, _, hd1, trivial, fun od => ?_⟩
    generalize hHf : upd H1 d (.frz od (.dK (gkv V.ref dst0))) = Hf
    have hnod : Same (RF.nod H1) Hf := by rw [← hHf]; exact nod_upd hd1
    have hgf : RigA K Hf g n rs := (hg.same s1).nod.same hnod
    have hef : Hf e = some (.dK (gkv V.int ss)) := by rw [← hHf, upd_ne hed]; exact he1
    have hdf : Hf d = some (.frz od (.dK (gkv V.ref dst0))) := by rw [← hHf]; exact upd_same
    have hHe : RF.nod H e = none := by unfold RF.nod; rw [he]
    refine ⟨_, rfl, d, od, _, rfl, hdf, ?_⟩
    have hkeep : ∀ H2 : Hp, (∀ b o, b ≠ e → Hf b = some o → H2 b = some o) → Same (RF.nod H) H2 := fun H2 k b o z => by
      refine k b o (ne_of_none z hHe) (hnod _ _ ?_)
      exact nod_of (s1 _ _ (nod_sub _ _ z)) (fun kvs w => by
        rw [w] at z
        unfold RF.nod at z
        split at z
        · cases z
        · rename_i h1 h2; exact h2 _ z)
    refine for_gen (n := sts.length) (fun i σ H2 => ∃ v4 v5, σ = [some (.ref g), some (.ref l), some (.ref d), some (.ref e), v4, v5] ∧ (∀ b o, b ≠ e → Hf b = some o → H2 b = some o) ∧ ∃ es : List (Int × Int), H2 e = some (.dK (gkv V.int es)) ∧ es.map Prod.fst = ss.map Prod.fst ∧ ∀ c, lkp es c = endOf rs ss (sts.take i) c)
      ⟨_, _, rfl, fun b o _ z => z, ss, hef, rfl, fun c => rfl⟩ (fun i σ H2 hi p => ?_) (fun i x σ H2 H3 hi p y => ?_) (fun σ H2 p => ?_)
    · obtain ⟨_, _, _, k2, _⟩ := p
      exact ⟨k2 _ _ hed.symm hdf, by rw [gkv_len, hps.length]; exact hi⟩
    · obtain ⟨v4, v5, rfl, k2, es, he2, hk, hlk⟩ := p
      obtain ⟨Tp, k, v, hkv, rfl, hT, rfl⟩ := y
      obtain ⟨⟨c0, a⟩, hp, hkveq⟩ := gkv_get hkv
      cases hkveq
      obtain ⟨⟨c, cs⟩, hsi, hc0, ha, hlen⟩ := paired_get hps hp
      have hc0 : c0 = c := hc0
      subst hc0
      have hmem := List.mem_of_getElem? hsi
      obtain ⟨hcin, hch⟩ := hin _ hmem
      have s3 : Same H2 (upd H2 Tp (.tup [kV (Sum.inl c0), .ref a])) := same_upd hT
      refine ⟨Tp, _, rfl, SqT.of upd_same, rfl, _, _, rfl, _, _, rfl, rfl, ?_⟩
      revert s3
      generalize upd H2 Tp (.tup [kV (Sum.inl c0), .ref a]) = H3
      intro s3
      have hse : Same (RF.nod H) H3 := (hkeep H2 k2).trans s3
      refine ⟨_, rfl, _, rfl, g, n, rs, a, cs, rfl, hg.nod.same hse, hse _ _ (nod_lst ha), Nat.le_trans hlen (by decide), h60, hch, ?_⟩
      intro H4 s4
      have he4 := s4 _ _ (s3 _ _ he2)
      have hkn : (es.map Prod.fst).Nodup := by rw [hk]; exact hw.1
      refine ⟨_, _, rfl, rfl, _, rfl, _, rfl, e, _, rfl, DPut.k (k := Sum.inl c0) he4 (by rw [gkv_len]; have := congrArg List.length hk; rw [List.length_map, List.length_map] at this; exact Nat.lt_of_le_of_lt (show es.length ≤ 100 by omega) (by decide)), ?_⟩
      refine ⟨_, _, rfl, fun b o hb z => by rw [upd_ne hb]; exact s4 _ _ (s3 _ _ (k2 b o hb z)), putL es c0 (0 - chSum rs cs), ?_, ?_, fun j => ?_⟩
      · rw [upd_same, gkv_put V.int c0 _ hkn]
      · rw [putL_keys, if_pos (by rw [hk]; exact hcin), hk]
      · rw [lkp_put, hlk j]
        have hnew : c0 ∉ (sts.take i).map Prod.fst := fun z => by
          have e := List.take_append_drop i sts
          rw [← e, List.map_append, List.nodup_append] at hnd
          refine hnd.2.2 _ z c0 ?_ rfl
          have hgd : (sts.drop i)[0]? = some (c0, cs) := by rw [List.getElem?_drop]; exact hsi
          exact List.mem_map.mpr ⟨(c0, cs), List.mem_of_getElem? hgd, rfl⟩
        unfold endOf
        rw [List.take_add_one, hsi]
        show _ = match lkp (List.take i sts ++ [(c0, cs)]) j with
          | some cs => some (0 - chSum rs cs)
          | none => lkp ss j
        rw [lkp_snoc hnew]
        by_cases hj : j = c0
        · rw [if_pos hj, if_pos hj]
        · rw [if_neg hj, if_neg hj]
    · obtain ⟨v4, v5, rfl, k2, es, he2, hk, hlk⟩ := p
      rw [List.take_length] at hlk
      have hd2 := k2 _ _ hed.symm hdf
      refine ⟨⟨hd2, by rw [gkv_len, hps.length]; exact Nat.le_refl _⟩, hd2, _, rfl, ?_⟩
      refine q _ e es (fun b o z => ?_) he (by rw [upd_ne hed]; exact he2) hk hlk
      have hbe : b ≠ e := ne_of_none z he
      by_cases hb : b = d
      · rw [hb] at z ⊢
        rw [upd_same, ← z, hd]
      · rw [upd_ne hb]
        refine k2 b o hbe ?_
        rw [← hHf, upd_ne hb]
        exact s1 _ _ z
end
end RF
/-! ## A16 -/
set_option Elab.async false
set_option linter.all false
set_option maxRecDepth 100000
set_option maxHeartbeats 4000000
namespace RF
open PySem PySem.Spec PyProof.Rows L2
section
variable {P : Program} {w : World} {K : PySem.W.Frag} {mg : Str → Option Value} {base : Heap}
def capF (S : List Int) (E : Int → Option Int) (k : Int) : Int := if k = 0 then 0 else match E k with
  | none => hAt S k
  | some e => if e < hAt S k then e else hAt S k
/-- the highest heights under the caps, by the least sums -/
def IsFal (rs : List Rp) (n : Nat) (cap : Int → Int) (F : List Int) : Prop := F.length = n ∧ ∀ c : Int, 1 ≤ c → c ≤ n →
  (∃ k d, Kn n k ∧ dst rs c k = some d ∧ hAt F c = cap k + d) ∧ ∀ k d, Kn n k → dst rs c k = some d → hAt F c ≤ cap k + d
theorem fal_ext {cap cap' : Int → Int} {n : Nat} {rs : List Rp} {F F' : List Int} (h : IsFal rs n cap F) (h' : IsFal rs n cap' F') (e : ∀ k, Kn n k → cap k = cap' k) : F = F' := by
  refine List.ext_getElem? fun i => ?_
  by_cases hi : i < n
  · obtain ⟨⟨k, d, hk, hd, hv⟩, hle⟩ := h.2 ((i : Int) + 1) (by omega) (by omega)
    obtain ⟨⟨k', d', hk', hd', hv'⟩, hle'⟩ := h'.2 ((i : Int) + 1) (by omega) (by omega)
    have a := hle k' d' hk' hd'
    have b := hle' k d hk hd
    rw [e k' hk'] at a
    rw [← e k hk] at b
    have hh : hAt F ((i : Int) + 1) = hAt F' ((i : Int) + 1) := by omega
    have g : ∀ G : List Int, G.length = n → G[i]? = some (hAt G ((i : Int) + 1)) := fun G hG => by
      unfold hAt
      rw [show ((i : Int) + 1).toNat = i + 1 by omega, List.getElem?_cons_succ, List.getElem?_eq_getElem (by omega)]
      rfl
    rw [g F h.1, g F' h'.1, hh]
  · rw [List.getElem?_eq_none (by have := h.1; omega), List.getElem?_eq_none (by have := h'.1; omega)]
/-- the caps so far -/
def capL (cap : Int → Int) (i : Nat) : List (Int × Int) := (List.range i).map fun k : Nat => ((k : Int), cap k)
theorem capL_keys (cap : Int → Int) (i : Nat) : (capL cap i).map Prod.fst = (List.range i).map fun k : Nat => (k : Int) := by
  unfold capL
  rw [List.map_map]
  rfl
theorem capL_new (cap : Int → Int) (i : Nat) : (i : Int) ∉ (capL cap i).map Prod.fst := fun z => by
  rw [capL_keys] at z
  obtain ⟨k, hk, e⟩ := List.mem_map.mp z
  have := List.mem_range.mp hk
  omega
theorem capL_nodup (cap : Int → Int) : ∀ i : Nat, ((capL cap i).map Prod.fst).Nodup
  | 0 => .nil
  | i + 1 => by
    have h := putL_nodup (c := (i : Int)) (x := cap i) (capL_nodup cap i)
    rw [putL_new (capL_new cap i)] at h
    unfold capL at h ⊢
    rw [List.range_succ, List.map_append]
    exact h
theorem capL_succ (cap : Int → Int) (i : Nat) : capL cap (i + 1) = putL (capL cap i) i (cap i) := by
  rw [putL_new (capL_new cap i)]
  unfold capL
  rw [List.range_succ, List.map_append]
  rfl
theorem capL_get (cap : Int → Int) {m i : Nat} (h : i < m) : (capL cap m)[i]? = some ((i : Int), cap i) := by
  unfold capL
  rw [List.getElem?_map, List.getElem?_range h]
  rfl
theorem dst_self {rs : List Rp} {c : Int} (h : IsD rs c c (dst rs c c)) : ∃ d, dst rs c c = some d := by
  cases e : dst rs c c with
  | some d => exact ⟨d, rfl⟩
  | none =>
    rw [e] at h
    exact absurd (ch_nil (rs := rs) (u := c)) (h [])
theorem hAt_idx {S : List Int} {i : Nat} {z : Int} (h : S[i]? = some z) : hAt S (1 + (i : Int)) = z := by
  unfold hAt
  rw [show (1 + (i : Int)).toNat = i + 1 by omega, List.getElem?_cons_succ, h]
  rfl
theorem hAt_snoc {F : List Int} {m : Int} {c : Int} (h0 : 0 ≤ c) (h1 : c ≤ F.length) : hAt (F ++ [m]) c = hAt F c := by
  unfold hAt
  rw [show 0 :: (F ++ [m]) = (0 :: F) ++ [m] from rfl, List.getElem?_append_left (by rw [List.length_cons]; omega)]
theorem hAt_last (F : List Int) (m : Int) : hAt (F ++ [m]) (1 + (F.length : Int)) = m := hAt_idx (by rw [List.getElem?_append_right (Nat.le_refl _), Nat.sub_self]; rfl)
noncomputable def reach (rs : List Rp) (cap : Int → Int) (c : Int) (i : Nat) : Option Int := (dst rs c i).map fun d => cap i + d
/-- the least of what a knot is held by -/
theorem reach_min {rs : List Rp} {cap : Int → Int} {c : Int} {n : Nat} (hc : Kn n c) (hd : ∃ d, dst rs c c = some d) :
    0 < ((List.range (n + 1)).filterMap (reach rs cap c)).length ∧ ∀ m, m ∈ (List.range (n + 1)).filterMap (reach rs cap c) → (∀ y, y ∈ (List.range (n + 1)).filterMap (reach rs cap c) → m ≤ y) →
      (∃ k d, Kn n k ∧ dst rs c k = some d ∧ m = cap k + d) ∧ ∀ k d, Kn n k → dst rs c k = some d → m ≤ cap k + d := by
  have mem : ∀ k d, Kn n k → dst rs c k = some d → cap k + d ∈ (List.range (n + 1)).filterMap (reach rs cap c) := fun k d hk hd => by
    refine List.mem_filterMap.mpr ⟨k.toNat, List.mem_range.mpr (by have := hk.2; omega), ?_⟩
    unfold reach
    rw [Int.toNat_of_nonneg hk.1, hd]
    rfl
  obtain ⟨d0, hd0⟩ := hd
  refine ⟨List.length_pos_of_mem (mem c d0 hc hd0), fun m hm hle => ⟨?_, fun k d hk hd => hle _ (mem k d hk hd)⟩⟩
  obtain ⟨i, hi, e⟩ := List.mem_filterMap.mp hm
  unfold reach at e
  cases q : dst rs c i with
  | none => rw [q] at e; cases e
  | some d =>
    rw [q] at e
    have := List.mem_range.mp hi
    exact ⟨i, d, ⟨by omega, by omega⟩, q, (Option.some.inj e).symm⟩
theorem fm_ints (f : Nat → Option Int) (l : List Nat) : l.filterMap (fun i => (f i).map V.int) = (l.filterMap f).map V.int := by
  rw [List.map_filterMap]
def sp_fallen (K : PySem.W.Frag) : Sp := fun vs H Q _ => ∃ (x h d : Addr) (n : Nat) (rs : List Rp) (S : List Int) (es : List (Int × Int)), vs = [.ref x, .ref h, .ref d] ∧ TabA K H x n rs ∧ H h = some (.lst (S.map V.int)) ∧ S.length = n ∧ n ≤ 8 ∧ H d = some (.dK (gkv V.int es)) ∧
  ∀ H' p F, Same H H' → nw H H' p = some (.lst (F.map V.int)) → IsFal rs n (capF S (lkp es)) F → Q (.ref p) H'
abbrev N_fallen : List Str := ["table", "stand", "ends", "caps", "climber", "height", "found", "some", "knot", "cap", "far"]
theorem sc_fallen : FnScope N_fallen ["table", "stand", "ends"] (defScope s_fallen) := ⟨rfl, rfl, rfl, by decide +kernel, rfl, by decide +kernel, by decide +kernel⟩
theorem ok_fallen (T : TX K mg) : Okd P w K mg base 6 "fallen" ["table", "stand", "ends"] (sp_fallen K) := by
  obtain ⟨fd, F⟩ := T.d_fallen
  refine okd_of F T.g_fallen sc_fallen (fun _ _ _ _ _ _ us hl => match us, hl with | [_, _, _], _ => rfl) ?_ ?_
  · rintro vs H Q E ⟨x, h, d, n, rs, S, es, rfl, _⟩; rfl
  · rintro cdv A outer s H vs Q E hr ⟨x, h, d, n, rs, S, es, rfl, ht, hh, hS, h8, hd, q⟩
    have hu := hu_of hr
    refine ⟨_, (pss_cons (ps_set (i := 3) (sc_fallen).nd rfl (.inl rfl) (pe_disp (pps_cons pe_int pe_int pps_nil) (by rfl) (by rfl) (fun z => by cases z) (by decide)))
  (pss_cons (ps_for PassesOwn.never rfl (pi_enumSK (K := K) rfl (by rfl) T.b_enumerate (pa_cons (pv 1) (pa_cons pe_int pa_nil))) (pg_tupK (K := K) rfl rfl (pgs_cons (pg_name (i := 4) (sc_fallen).nd rfl (.inr rfl)) (pgs_cons (pg_name (i := 5) (sc_fallen).nd rfl (.inl rfl)) pgs_nil))) (pss_one (ps_dput hu (pv 3) (pv 4) (pe_callB (call_min2 rfl) (by rfl) T.b_min bt_min (pa_cons (pv 5) (pa_cons (pe_dget2 hu (pv 2) (pv 4) (pv 5) ⟨by rfl, by rfl, by rfl, by rfl⟩) pa_nil))) rfl)))
  (pss_cons (ps_set (i := 6) (sc_fallen).nd rfl (.inl rfl) (pe_lst pa_nil))
  (pss_cons (ps_for PassesOwn.never rfl (pi_range2 (by rfl) T.b_range (pa_cons pe_int (pa_cons (pe_op op_add (pe_callB (call_len_seqK (K := K) rfl) (by rfl) T.b_len bt_len (pa_cons (pv 1) pa_nil)) pe_int) pa_nil))) (pg_name (i := 4) (sc_fallen).nd rfl (.inr rfl)) (pss_cons (ps_lock (ps_setLc (i := 7) (own := [("knot", 8), ("cap", 9)]) (g := gTup K 2 (gCons (gName 8) (gCons (gName 9) (gNil)))) rfl (sc_fallen).nd rfl rfl (sw_true rfl rfl rfl (by decide +kernel)) (pi_items (pv 3)) (blkOk_by (N := N_fallen) (sc := defScope s_fallen) (own := [("knot", 8), ("cap", 9)]) (by decide +kernel)) (fun _ _ _ _ _ => (pg_tupK (K := K) rfl rfl (pgs_cons (pg_name (i := 8) (sc_fallen).nd rfl (.inl rfl)) (pgs_cons (pg_name (i := 9) (sc_fallen).nd rfl (.inl rfl)) pgs_nil)))) (fun _ _ _ _ _ => pts_nil) (fun _ _ _ _ _ => (pe_tup (pa_cons (pv 9) (pa_cons (pe_methD (ok_Table_least T) T.cls_Table hr (by decide) (pv 0) (pa_cons (pv 4) (pa_cons (pv 8) pa_nil))) pa_nil))))))
  (pss_one (ps_expr (pe_bm PySem.F.plainAttrs_list PySem.F.slot_list_append PySem.F.type_list_append mt_append (pv 6) (pa_cons (pe_callB (cr_minK2 (K := K) rfl rfl) (by rfl) T.b_min bt_min (pa_cons (pe_lc (own := [("cap", 9), ("far", 10)]) (g := gTup K 2 (gCons (gName 9) (gCons (gName 10) (gNil)))) rfl (sc_fallen).nd (pi_listK (K := K) rfl (pv 7)) (blkOk_by (N := N_fallen) (sc := defScope s_fallen) (own := [("cap", 9), ("far", 10)]) (by decide +kernel)) (fun _ _ _ _ _ => (pg_tupK (K := K) rfl rfl (pgs_cons (pg_name (i := 9) (sc_fallen).nd rfl (.inl rfl)) (pgs_cons (pg_name (i := 10) (sc_fallen).nd rfl (.inl rfl)) pgs_nil)))) (fun _ _ _ _ _ => (pts_one (pt_cmpR op_notN (pv 10) pe_non (nomark _)))) (fun _ _ _ _ _ => (pe_op op_add (pv 9) (pv 10)))) pa_nil)) pa_nil))))))
  (pss_one (ps_ret (pv 6))))))), ?_⟩
    intro p hp
    refine ⟨upd_same, [(Sum.inl 0, .int 0)], rfl, by show 1 ≤ 15; decide, ?_⟩
    have hp0 : H p = none := hp
    have s1 : Same H (upd (upd H p (.dK [])) p (.dK (mergeK [] [(Sum.inl 0, .int 0)]))) := same_upd2 hp (same_upd hp)
    have hp1 : (upd (upd H p (.dK [])) p (.dK (mergeK [] [(Sum.inl 0, .int 0)]))) p = some (.dK (gkv V.int (capL (capF S (lkp es)) 1))) := upd_same
    revert s1 hp1
    generalize upd (upd H p (.dK [])) p (.dK (mergeK [] [(Sum.inl 0, .int 0)])) = H1
    intro s1 hp1
    refine ⟨_, rfl, h, 1, _, rfl, by omega, by omega, SqL.of (s1 _ _ hh), ?_⟩
    refine for_gen (n := S.length) (fun i σ H2 => ∃ v4 v5 v6 v7 v8 v9 v10, σ = [some (.ref x), some (.ref h), some (.ref d), some (.ref p), v4, v5, v6, v7, v8, v9, v10] ∧ Same H H2 ∧ H2 p = some (.dK (gkv V.int (capL (capF S (lkp es)) (i + 1)))))
      ⟨_, _, _, _, _, _, _, rfl, s1, hp1⟩ (fun i σ H2 hi pv => ?_) (fun i x' σ H2 H3 hi pv y => ?_) (fun σ H2 pv => ?_)
    · obtain ⟨_, _, _, _, _, _, _, _, s2, _⟩ := pv
      exact ⟨_, _, SqL.of (s2 _ _ hh), get_map2 (List.getElem?_eq_getElem hi)⟩
    · obtain ⟨v4, v5, v6, v7, v8, v9, v10, rfl, s2, hp2⟩ := pv
      obtain ⟨Tp, xx, rfl, hT, rfl, y⟩ := y
      obtain ⟨z, hz, rfl⟩ := get_map (y _ (SqL.of (s2 _ _ hh)))
      refine ⟨Tp, _, rfl, SqT.of upd_same, rfl, _, _, rfl, _, _, rfl, rfl, ?_⟩
      have s3 : Same H2 (upd H2 Tp (.tup [.int (1 + (i : Nat)), .int z])) := same_upd hT
      revert s3
      generalize upd H2 Tp (.tup [.int (1 + (i : Nat)), .int z]) = H3
      intro s3
      have hd3 := s3 _ _ (s2 _ _ hd)
      have hp3 := s3 _ _ hp2
      refine ⟨_, rfl, _, rfl, d, rfl, .inl ⟨_, .inl hd3⟩, _, rfl, _, rfl, _, DGet.k (k := Sum.inl (1 + (i : Int))) hd3, z, (lkp es (1 + (i : Int))).getD z, ?_, ?_⟩
      · rw [gkv_val]
        cases lkp es (1 + (i : Int)) <;> rfl
      have ecap : (if (lkp es (1 + (i : Int))).getD z < z then (lkp es (1 + (i : Int))).getD z else z) = capF S (lkp es) (1 + (i : Int)) := by
        have e0 : capF S (lkp es) (1 + (i : Int)) = match lkp es (1 + (i : Int)) with
            | none => z
            | some e => if e < z then e else z := by
          unfold capF
          rw [if_neg (by omega), hAt_idx hz]
        rw [e0]
        cases lkp es (1 + (i : Int)) with
        | none => show (if z < z then z else z) = z; split <;> rfl
        | some e => rfl
      rw [ecap]
      refine ⟨_, rfl, _, rfl, p, _, rfl, DPut.k (k := Sum.inl (1 + (i : Int))) hp3 (by rw [gkv_len]; unfold capL; rw [List.length_map, List.length_range]; exact Nat.lt_of_le_of_lt (show i + 1 ≤ 100 by omega) (by decide)), ?_⟩
      refine ⟨_, _, _, _, _, _, _, rfl, same_upd2 hp0 (s2.trans s3), ?_⟩
      rw [upd_same, capL_succ _ (i + 1), show (((i + 1 : Nat) : Int)) = 1 + (i : Int) by omega]
      have := gkv_put V.int ((i + 1 : Nat) : Int) (capF S (lkp es) ((i + 1 : Nat) : Int)) (capL_nodup (capF S (lkp es)) (i + 1))
      rw [show (((i + 1 : Nat) : Int)) = 1 + (i : Int) by omega] at this
      rw [← this]
    · obtain ⟨v4, v5, v6, v7, v8, v9, v10, rfl, s2, hp2⟩ := pv
      refine ⟨⟨_, SqL.of (s2 _ _ hh), List.length_map ..⟩, ?_⟩
      rw [hS] at hp2
      -- found = []
      refine ⟨Nat.zero_le _, fun fo hfo => ?_⟩
      have hfo0 : H fo = none := s2.free hfo
      have hpf : p ≠ fo := ne_of_none hp2 hfo
      have s3 : Same H (upd H2 fo (.lst [])) := same_upd2 hfo0 s2
      have hp3 : (upd H2 fo (.lst [])) p = some (.dK (gkv V.int (capL (capF S (lkp es)) (n + 1)))) := by rw [upd_ne hpf]; exact hp2
      have hfo3 : (upd H2 fo (.lst [])) fo = some (.lst []) := upd_same
      revert s3 hp3 hfo3
      generalize upd H2 fo (.lst []) = H3
      intro s3 hp3 hfo3
      refine ⟨_, rfl, h, _, rfl, .inl (SqL.of (s3 _ _ hh)), _, _, rfl, rfl, 1, (n : Int) + 1, ?_, ⟨by omega, by omega, by omega, by omega⟩, ?_⟩
      · rw [List.length_map, hS]
      have e3 : ((n : Int) + 1 - 1).toNat = n := by omega
      rw [e3]
      refine for_range (n := n) (fun j σ H4 => ∃ v4 v5 v7 v8 v9 v10 F, σ = [some (.ref x), some (.ref h), some (.ref d), some (.ref p), v4, v5, some (.ref fo), v7, v8, v9, v10] ∧ Same H H4 ∧ H4 p = some (.dK (gkv V.int (capL (capF S (lkp es)) (n + 1)))) ∧ H4 fo = some (.lst (F.map V.int)) ∧ F.length = j ∧
          ∀ c : Int, 1 ≤ c → c ≤ j → (∃ k dd, Kn n k ∧ dst rs c k = some dd ∧ hAt F c = capF S (lkp es) k + dd) ∧ ∀ k dd, Kn n k → dst rs c k = some dd → hAt F c ≤ capF S (lkp es) k + dd)
        ⟨_, _, _, _, _, _, [], rfl, s3, hp3, hfo3, rfl, fun c h1 h2 => by omega⟩ ?_ (fun σ H4 pv => ?_)
      · rintro j σ H4 hj ⟨v4, v5, v7, v8, v9, v10, F, rfl, s4, hp4, hfo4, hFl, hF⟩
        have hkc : Kn n (1 + (j : Int)) := ⟨by omega, by omega⟩
        -- some = [..]
        refine ⟨p, _, hp4, trivial, fun od => ?_⟩
        generalize hHf : upd H4 p (.frz od (.dK (gkv V.int (capL (capF S (lkp es)) (n + 1))))) = Hf
        have sf : Same H Hf := by rw [← hHf]; exact same_upd2 hp0 s4
        have hpf2 : Hf p = some (.frz od (.dK (gkv V.int (capL (capF S (lkp es)) (n + 1))))) := by rw [← hHf]; exact upd_same
        have hfof : Hf fo = some (.lst (F.map V.int)) := by rw [← hHf, upd_ne hpf.symm]; exact hfo4
        refine ⟨_, rfl, p, od, _, rfl, hpf2, fun D hD => ?_⟩
        refine lc_pv (n := n + 1) (fun i H5 => Same Hf H5 ∧ ∃ as : List Addr, H5 D = some (.lst (as.map V.ref)) ∧ TupsAt H5 as ((List.range i).map fun k : Nat => [V.int (capF S (lkp es) k), optV (dst rs (1 + (j : Int)) k)])) ⟨same_upd hD, [], upd_same, TupsAt.nil⟩
          (fun i H5 hi pv => ⟨pv.1 _ _ hpf2, by rw [gkv_len]; unfold capL; rw [List.length_map, List.length_range]; exact hi⟩) (fun i x' H5 H6 hi pv y => ?_) (fun H5 pv => ⟨⟨pv.1 _ _ hpf2, by rw [gkv_len]; unfold capL; rw [List.length_map, List.length_range]; exact Nat.le_refl _⟩, ?_⟩)
        · obtain ⟨s5, as, ha1, ha2⟩ := pv
          obtain ⟨Tp, kk, vv, hkv, rfl, hT, rfl⟩ := y
          rw [show (gkv V.int (capL (capF S (lkp es)) (n + 1)))[i]? = some (Sum.inl (i : Int), V.int (capF S (lkp es) i)) from get_map2 (capL_get _ hi)] at hkv
          cases hkv
          have s6 : Same H5 (upd H5 Tp (.tup [kV (Sum.inl (i : Int)), .int (capF S (lkp es) i)])) := same_upd hT
          refine ⟨Tp, _, rfl, SqT.of upd_same, rfl, _, _, rfl, _, _, rfl, rfl, rfl, ?_⟩
          revert s6
          generalize upd H5 Tp (.tup [kV (Sum.inl (i : Int)), .int (capF S (lkp es) i)]) = H6
          intro s6
          have htb := (ht.same sf).same (s5.trans s6)
          obtain ⟨dx, g, bl, ds, hx, _⟩ := id htb
          refine ⟨_, rfl, _, rfl, x, dx, _, rfl, hx, tabF_m2 _ _, _, rfl, _, rfl, x, n, rs, 1 + (j : Int), i, rfl, htb, hkc, ⟨by omega, by omega⟩, fun H7 s7 => ?_⟩
          refine ⟨(by show 2 ≤ sizeLine; decide), fun t htn => ?_⟩
          have s67 := s6.trans s7
          have hDt : D ≠ t := ne_of_none (s67 _ _ ha1) htn
          have s8 : Same H5 (upd H7 t (.tup [.int (capF S (lkp es) i), optV (dst rs (1 + (j : Int)) i)])) := s67.trans (same_upd htn)
          refine ⟨_, s8 _ _ ha1, ?_, same_upd2 hD (s5.trans s8), as ++ [t], by rw [upd_same, List.map_append]; rfl, ?_⟩
          · rw [List.length_map, ha2.1, List.length_map, List.length_range]
            exact Nat.lt_of_le_of_lt (show i ≤ 100 by omega) (by decide)
          · rw [List.range_succ, List.map_append]
            have kp : ∀ b xs, (upd H7 t (.tup [.int (capF S (lkp es) i), optV (dst rs (1 + (j : Int)) i)])) b = some (.tup xs) → (upd (upd H7 t (.tup [.int (capF S (lkp es) i), optV (dst rs (1 + (j : Int)) i)])) D (.lst (as.map V.ref ++ [.ref t]))) b = some (.tup xs) := fun b xs e => by
              rw [upd_ne (ne_of e (s8 _ _ ha1) (by intro z; cases z))]; exact e
            exact TupsAt.snoc ⟨ha2.1, fun a b xs e1 e2 => kp b xs (s8 _ _ (ha2.2 a b xs e1 e2))⟩ (kp _ _ upd_same)
        · obtain ⟨s5, as, ha1, ha2⟩ := pv
          have hD4 : D ≠ p := (ne_of_none hpf2 hD).symm
          refine ⟨s5 _ _ hpf2, ?_⟩
          have s6 : Same H4 (upd H5 p (.dK (gkv V.int (capL (capF S (lkp es)) (n + 1))))) := same_frz hp4 (by rw [hHf]; exact s5)
          have hD6 : (upd H5 p (.dK (gkv V.int (capL (capF S (lkp es)) (n + 1))))) D = some (.lst (as.map V.ref)) := by rw [upd_ne hD4]; exact ha1
          have ha6 : TupsAt (upd H5 p (.dK (gkv V.int (capL (capF S (lkp es)) (n + 1))))) as ((List.range (n + 1)).map fun k : Nat => [V.int (capF S (lkp es) k), optV (dst rs (1 + (j : Int)) k)]) :=
            ⟨ha2.1, fun a b xs e1 e2 => by
              have e := ha2.2 a b xs e1 e2
              rw [upd_ne (ne_of e (s5 _ _ hpf2) (by intro z; cases z))]; exact e⟩
          revert s6 hD6 ha6
          generalize upd H5 p (.dK (gkv V.int (capL (capF S (lkp es)) (n + 1)))) = H6
          intro s6 hD6 ha6
          -- found.append(min(..))
          have hfo6 := s6 _ _ hfo4
          have hal : as.length = n + 1 := by rw [ha6.1, List.length_map, List.length_range]
          refine ⟨_, rfl, .inl ⟨rfl, _, SqL.of hfo6⟩, _, rfl, D, rfl, ⟨_, SqL.of hD6⟩, fun D2 hD2 => ?_⟩
          refine lc_gen (n := n + 1) (fun i => (reach rs (capF S (lkp es)) (1 + (j : Int)) i).map V.int) (Nat.le_trans (Nat.succ_le_succ h8) (by decide)) hD2 (fun i H7 hi sm => ⟨_, _, SqL.of (sm _ _ hD6), get_map2 (List.getElem?_eq_getElem (by rw [hal]; exact hi))⟩) (fun H7 sm => ⟨_, SqL.of (sm _ _ hD6), by rw [List.length_map, hal]; exact Nat.le_refl _⟩) (fun i x' H7 H8 Qt Qf hi sm y k1 k2 => ?_) (fun H7 sm hd7 => ?_)
          · obtain ⟨rfl, y⟩ := y
            obtain ⟨b, hb, rfl⟩ := get_map (y _ (SqL.of (sm _ _ hD6)))
            obtain ⟨yy, hy, hb2⟩ := (ha6.same sm).at_ hb
            rw [List.getElem?_map, List.getElem?_range hi] at hy
            cases hy
            refine ⟨b, _, rfl, SqT.of hb2, rfl, _, _, rfl, _, _, rfl, rfl, rfl, ?_⟩
            have er : reach rs (capF S (lkp es)) (1 + (j : Int)) i = (dst rs (1 + (j : Int)) i).map fun dd => capF S (lkp es) i + dd := rfl
            cases hdd : dst rs (1 + (j : Int)) i with
            | none =>
              rw [hdd] at er
              exact ⟨_, rfl, rfl, _, rfl, k2 _ (by rw [er]; rfl) (Same.refl _)⟩
            | some dd =>
              rw [hdd] at er
              exact ⟨_, rfl, rfl, _, rfl, _, rfl, _, rfl, _, _, rfl, rfl, k1 _ _ (by rw [er]; rfl) (Same.refl _)⟩
          · rw [fm_ints] at hd7
            obtain ⟨hpos, hmin⟩ := reach_min (cap := capF S (lkp es)) hkc (dst_self (ht.isD hkc _))
            refine ⟨D2, _, rfl, SqL.of hd7, hpos, fun m hm hle => ?_⟩
            obtain ⟨m1, m2⟩ := hmin m hm hle
            have hfo7 := sm _ _ hfo6
            refine ⟨fo, _, _, rfl, rfl, hfo7, ?_, ?_⟩
            · rw [List.length_map, hFl]
              exact Nat.lt_of_le_of_lt (show j ≤ 100 by omega) (by decide)
            · refine ⟨_, _, _, _, _, _, F ++ [m], rfl, same_upd2 hfo0 ((s4.trans s6).trans sm), ?_, ?_, ?_, fun c h1 h2 => ?_⟩
              · rw [upd_ne hpf]
                exact sm _ _ (s6 _ _ hp4)
              · rw [upd_same, List.map_append]; rfl
              · rw [List.length_append, hFl]; rfl
              · by_cases hcj : c ≤ j
                · rw [hAt_snoc (by omega) (by omega)]
                  exact hF c h1 hcj
                · obtain rfl : c = 1 + (j : Int) := by omega
                  rw [← hFl, hAt_last, hFl]
                  exact ⟨m1, m2⟩
      · obtain ⟨v4, v5, v7, v8, v9, v10, F, rfl, s4, hp4, hfo4, hFl, hF⟩ := pv
        exact ⟨_, rfl, q H4 fo F s4 (nw_of hfo0 hfo4) ⟨hFl, hF⟩⟩
end
end RF
/-! ## MthD -/
set_option Elab.async false
set_option linter.all false
set_option maxRecDepth 100000
set_option maxHeartbeats 4000000
namespace RF
open PySem PySem.Spec PyProof.Rows L2
section
variable {P : Program} {w : World} {K : PySem.W.Frag} {mg : Str → Option Value} {base : Heap}
def AllD (rs : List Rp) (n : Nat) : Prop := ∀ u l, Kn n l → IsD rs u l (dst rs u l)
def EndOk (rs : List Rp) (E : Int → Option Int) : Prop := E 0 = none ∧ ∀ k e d, E k = some e → dst rs 0 k = some d → 0 - d ≤ e
theorem cap_zero (S : List Int) (E : Int → Option Int) : capF S E 0 = 0 := rfl
theorem cap_le (S : List Int) (E : Int → Option Int) (k : Int) : capF S E k ≤ hAt S k := by
  unfold capF
  split
  · rename_i h; rw [h, hAt_zero]; exact Int.le_refl _
  · split
    · exact Int.le_refl _
    · split <;> omega
theorem cap_end {S : List Int} {E : Int → Option Int} {k e : Int} (hk : k ≠ 0) (h : E k = some e) : capF S E k ≤ e := by
  unfold capF
  rw [if_neg hk, h]
  show (if e < hAt S k then e else hAt S k) ≤ e
  split <;> omega
theorem cap_cases (S : List Int) (E : Int → Option Int) (k : Int) : capF S E k = hAt S k ∨ ∃ e, k ≠ 0 ∧ E k = some e ∧ capF S E k = e ∧ e < hAt S k := by
  unfold capF
  split
  · rename_i h; rw [h, hAt_zero]; exact .inl rfl
  · rename_i hk
    cases q : E k with
    | none => exact .inl rfl
    | some e =>
      show (if e < hAt S k then e else hAt S k) = _ ∨ _
      by_cases h : e < hAt S k
      · exact .inr ⟨e, hk, rfl, if_pos h, h⟩
      · exact .inl (if_neg h)
/-- a stand along a least sum -/
theorem pot_dst {rs : List Rp} {n : Nat} {S : List Int} {u l d : Int} (A : AllD rs n) (L : Lets rs S) (hl : Kn n l) (h : dst rs u l = some d) : hAt S u - hAt S l ≤ d := by
  have hd := A u l hl
  rw [h] at hd
  obtain ⟨⟨c, hc, hs⟩, _⟩ := hd
  rw [← hs]
  exact ch_pot L hc
theorem dst_chain {rs : List Rp} {n : Nat} {u l : Int} (A : AllD rs n) (hl : Kn n l) {c : List Int} (hc : ChOk rs u c l) : ∃ d, dst rs u l = some d ∧ d ≤ chSum rs c := by
  have hd := A u l hl
  cases e : dst rs u l with
  | none => rw [e] at hd; exact absurd hc (hd c)
  | some d => rw [e] at hd; exact ⟨d, rfl, hd.2 c hc⟩
theorem dst_rope {rs : List Rp} {n : Nat} {k d : Int} {r : Rp} (A : AllD rs n) (hk : Kn n k) (hr : r ∈ rs) (h : dst rs r.2.1 k = some d) : ∃ d', dst rs r.1 k = some d' ∧ d' ≤ r.2.2 + d := by
  have hd := A r.2.1 k hk
  rw [h] at hd
  obtain ⟨⟨c, hc, hs⟩, _⟩ := hd
  obtain ⟨i, hi⟩ := List.getElem?_of_mem hr
  obtain ⟨d', e, hle⟩ := dst_chain A hk (ch_cons (k := (i : Int)) (by omega) (by rw [Int.toNat_natCast]; exact hi) hc)
  rw [sum_cons (k := (i : Int)) (by rw [Int.toNat_natCast]; exact hi), hs] at hle
  exact ⟨d', e, hle⟩
theorem cap_low {rs : List Rp} {n : Nat} {S : List Int} {E : Int → Option Int} (A : AllD rs n) (L : Lets rs S) (O : EndOk rs E) {k d : Int} (hk : Kn n k) (h : dst rs 0 k = some d) : 0 ≤ capF S E k + d := by
  have hp := pot_dst A L hk h
  rw [hAt_zero] at hp
  rcases cap_cases S E k with q | ⟨e, _, he, q, _⟩
  · omega
  · have := O.2 k e d he h
    omega
section
variable {rs : List Rp} {n : Nat} {S F : List Int} {E : Int → Option Int}
theorem fal_cap (A : AllD rs n) (h : IsFal rs n (capF S E) F) {k : Int} (hk : Kn n k) : hAt F k ≤ capF S E k := by
  by_cases h0 : k = 0
  · rw [h0, hAt_zero, cap_zero]; exact Int.le_refl _
  · obtain ⟨d, e, hle⟩ := dst_chain A hk (ch_nil (rs := rs) (u := k))
    have := (h.2 k (by have := hk.1; omega) hk.2).2 k d hk e
    have h2 : chSum rs [] = 0 := rfl
    omega
theorem fal_lets (A : AllD rs n) (W : WfR n rs) (L : Lets rs S) (O : EndOk rs E) (h : IsFal rs n (capF S E) F) : Lets rs F := fun r hr => by
  obtain ⟨hu, hl, _⟩ := W r hr
  -- what holds the lower
  have low : ∃ k d, Kn n k ∧ dst rs r.2.1 k = some d ∧ capF S E k + d ≤ hAt F r.2.1 := by
    by_cases h0 : r.2.1 = 0
    · obtain ⟨d, e, hle⟩ := dst_chain A hl (ch_nil (rs := rs) (u := r.2.1))
      have h2 : chSum rs [] = 0 := rfl
      refine ⟨r.2.1, d, hl, e, ?_⟩
      rw [h0, hAt_zero, cap_zero]
      omega
    · obtain ⟨⟨k, d, hk, hd, e⟩, _⟩ := h.2 r.2.1 (by have := hl.1; omega) hl.2
      exact ⟨k, d, hk, hd, by omega⟩
  obtain ⟨k, d, hk, hd, e⟩ := low
  obtain ⟨d', hd', hle⟩ := dst_rope A hk hr hd
  by_cases h0 : r.1 = 0
  · rw [h0] at hd' ⊢
    have := cap_low A L O hk hd'
    rw [hAt_zero]
    omega
  · have := (h.2 r.1 (by have := hu.1; omega) hu.2).2 k d' hk hd'
    omega
theorem fal_top (A : AllD rs n) {T : List Int} (L : Lets rs T) (h : IsFal rs n (capF S E) F) (hc : ∀ k, Kn n k → hAt T k ≤ capF S E k) {c : Int} (hk : Kn n c) : hAt T c ≤ hAt F c := by
  by_cases h0 : c = 0
  · rw [h0, hAt_zero, hAt_zero]; exact Int.le_refl _
  · obtain ⟨⟨k, d, hkk, hd, e⟩, _⟩ := h.2 c (by have := hk.1; omega) hk.2
    have := pot_dst A L hkk hd
    have := hc k hkk
    omega
/-- along a tight chain there's a rope from outside in -/
theorem tight_in {ks : Int → Prop} (LS : Lets rs S) (LF : Lets rs F) : ∀ (c : List Int) (u k : Int), ChOk rs u c k → hAt F u = hAt F k + chSum rs c → hAt F u < hAt S u → ¬ ks u → ks k →
    ∃ r ∈ rs, hAt F r.1 < hAt S r.1 ∧ ¬ ks r.1 ∧ ks r.2.1 ∧ r.2.2 - hAt F r.1 + hAt F r.2.1 = 0
  | [], u, k, hc, _, _, hu, hk => by
    have : u = k := hc
    rw [this] at hu
    exact absurd hk hu
  | j :: c, u, k, hc, he, hlt, hu, hk => by
    obtain ⟨r, h0, hr, rfl, hc'⟩ := hc
    have hm := List.mem_of_getElem? hr
    have h1 := LF r hm
    have h2 := LS r hm
    have h3 := ch_pot LF hc'
    rw [sum_cons hr] at he
    by_cases hin : ks r.2.1
    · exact ⟨r, hm, hlt, hu, hin, by omega⟩
    · exact tight_in LS LF c r.2.1 k hc' (by omega) (by omega) hin hk
theorem fal_step (A : AllD rs n) (W : WfR n rs) (L : Lets rs S) (O : EndOk rs E) (h : IsFal rs n (capF S E) F) {ks : Int → Prop} (hks : ∀ k e, 1 ≤ k → k ≤ (n : Int) → hAt F k < hAt S k → E k = some e → hAt F k = e → ks k) {c : Int} (hc : 1 ≤ c) (hcn : c ≤ (n : Int)) (hlt : hAt F c < hAt S c) (hn : ¬ ks c) :
    ∃ r ∈ rs, hAt F r.1 < hAt S r.1 ∧ ¬ ks r.1 ∧ ks r.2.1 ∧ r.2.2 - hAt F r.1 + hAt F r.2.1 = 0 := by
  have LF := fal_lets A W L O h
  obtain ⟨⟨k, d, hk, hd, e⟩, _⟩ := h.2 c hc hcn
  have hD := A c k hk
  rw [hd] at hD
  obtain ⟨⟨ch, hch, hs⟩, _⟩ := hD
  have h1 := fal_cap A h hk
  have h2 := ch_pot LF hch
  have h3 := ch_pot L hch
  have hFk : hAt F k = capF S E k := by omega
  rcases cap_cases S E k with q | ⟨e', hk0, he', q, hq⟩
  · omega
  · exact tight_in L LF ch c k hch (by omega) hlt hn (hks k e' (by have := hk.1; omega) hk.2 (by omega) he' (by omega))
end
/-! ### counting those left -/
theorem left_less (p q : Int → Bool) : ∀ (l : List Int), (∀ x ∈ l, p x = true → q x = true) → (∃ x ∈ l, p x = false ∧ q x = true) → (l.filter fun x => !q x).length < (l.filter fun x => !p x).length
  | [], _, h => by obtain ⟨x, hx, _⟩ := h; simp at hx
  | y :: l, hm, h => by
    have mono : (l.filter fun x => !q x).length ≤ (l.filter fun x => !p x).length := by
      clear h
      induction l with
      | nil => exact Nat.le_refl _
      | cons z l ih =>
        have ih := ih fun x hx => hm x (by
          rcases List.mem_cons.mp hx with e | e
          · rw [e]; simp
          · simp [e])
        have hz := hm z (by simp)
        rw [List.filter_cons, List.filter_cons]
        cases pz : p z <;> cases qz : q z <;> simp [pz, qz] at hz ⊢ <;> omega
    obtain ⟨x, hx, h1, h2⟩ := h
    have hy := hm y (by simp)
    rw [List.filter_cons, List.filter_cons]
    rcases List.mem_cons.mp hx with e | e
    · subst e
      rw [h1, h2]
      simp
      omega
    · have ih := left_less p q l (fun x hx => hm x (by simp [hx])) ⟨x, e, h1, h2⟩
      cases py : p y <;> cases qy : q y <;> simp [py, qy] at hy ⊢ <;> omega
end
end RF
/-! ## A17 -/
set_option Elab.async false
set_option linter.all false
set_option maxRecDepth 100000
set_option maxHeartbeats 4000000
namespace RF
open PySem PySem.Spec PyProof.Rows L2
section
variable {P : Program} {w : World} {K : PySem.W.Frag} {mg : Str → Option Value} {base : Heap}
theorem hAt_at {S : List Int} {n : Nat} (hS : S.length = n) {c : Int} (h1 : 1 ≤ c) (h2 : c ≤ n) : atI (S.map V.int) (c - 1) = some (.int (hAt S c)) := by
  refine atI_int (by omega) ?_
  have h := hAt_get (S := S) (k := c) (by omega) (by omega)
  rw [show c.toNat = (c - 1).toNat + 1 by omega] at h
  rw [← h]
  rfl
/-- who is lower -/
def dnF (S F : List Int) (i : Nat) : Option Int := if hAt F (1 + (i : Int)) < hAt S (1 + (i : Int)) then some (1 + (i : Int)) else none
def downL (S F : List Int) (n : Nat) : List Int := (List.range n).filterMap (dnF S F)
theorem down_mem {S F : List Int} {n : Nat} {c : Int} : c ∈ downL S F n ↔ 1 ≤ c ∧ c ≤ n ∧ hAt F c < hAt S c := by
  unfold downL
  rw [List.mem_filterMap]
  constructor
  · rintro ⟨i, hi, e⟩
    have := List.mem_range.mp hi
    unfold dnF at e
    split at e
    · cases e
      exact ⟨by omega, by omega, by assumption⟩
    · cases e
  · rintro ⟨h1, h2, h3⟩
    refine ⟨(c - 1).toNat, List.mem_range.mpr (by omega), ?_⟩
    have e : 1 + (((c - 1).toNat : Nat) : Int) = c := by omega
    unfold dnF
    rw [e, if_pos h3]
theorem down_sorted (S F : List Int) : ∀ n : Nat, (downL S F n).Pairwise (· < ·)
  | 0 => .nil
  | n + 1 => by
    have ih := down_sorted S F n
    unfold downL at ih ⊢
    rw [List.range_succ, List.filterMap_append, List.pairwise_append]
    refine ⟨ih, ?_, fun a ha b hb => ?_⟩
    · show ([n].filterMap (dnF S F)).Pairwise _
      rw [List.filterMap_cons]
      split
      · exact .nil
      · exact List.pairwise_singleton _ _
    · have h1 := (down_mem (S := S) (F := F) (n := n)).mp ha
      obtain ⟨i, hi, e⟩ := List.mem_filterMap.mp hb
      have : i = n := by simpa using hi
      subst this
      unfold dnF at e
      split at e
      · cases e; omega
      · cases e
theorem down_nodup (S F : List Int) (n : Nat) : (downL S F n).Nodup := (down_sorted S F n).imp fun h => by omega
theorem down_len (S F : List Int) (n : Nat) : (downL S F n).length ≤ n := by
  unfold downL
  exact Nat.le_trans (List.length_filterMap_le ..) (by rw [List.length_range]; exact Nat.le_refl _)
/-- the pulls found, by their keys -/
def FD (H : Hp) (D : Addr) (dn : List Int) (P : List Int → Prop) : Prop := ∃ fs : List (Int × Option Int), H D = some (.dK (gkv optV fs)) ∧ (fs.map Prod.fst).Nodup ∧ (∀ k ∈ fs.map Prod.fst, k ∈ dn) ∧ P (fs.map Prod.fst)
theorem FD.imp {H H' : Hp} {D : Addr} {dn : List Int} {P P' : List Int → Prop} (h : FD H D dn P) (s : Same H H') (k : ∀ l, P l → P' l) : FD H' D dn P' := by
  obtain ⟨fs, h1, h2, h3, h4⟩ := h
  exact ⟨fs, s _ _ h1, h2, h3, k _ h4⟩
theorem FD.put {H : Hp} {D : Addr} {dn : List Int} {P' : List Int → Prop} {c : Int} {x : Option Int} {fs : List (Int × Option Int)} (h2 : (fs.map Prod.fst).Nodup) (h3 : ∀ k ∈ fs.map Prod.fst, k ∈ dn) (hc : c ∈ dn) (hn : c ∉ fs.map Prod.fst) (k : P' (fs.map Prod.fst ++ [c])) :
    FD (upd H D (.dK (putK (gkv optV fs) (Sum.inl c) (optV x)))) D dn P' := by
  refine ⟨putL fs c x, by rw [upd_same, gkv_put optV c x h2], putL_nodup h2, fun j hj => ?_, ?_⟩
  · rw [putL_keys, if_neg hn] at hj
    rcases List.mem_append.mp hj with z | z
    · exact h3 j z
    · have : j = c := by simpa using z
      rw [this]; exact hc
  · rw [putL_keys, if_neg hn]; exact k
theorem key_val {fs : List (Int × Option Int)} {c : Int} (h : c ∈ fs.map Prod.fst) : ∃ x, valV (gkv optV fs) (Sum.inl c : Key) = some (optV x) := by
  cases q : lkp fs c with
  | none => exact absurd h (lkp_none.mp q)
  | some x => exact ⟨x, by rw [gkv_val, q]; rfl⟩
theorem key_no {fs : List (Int × Option Int)} {c : Int} (h : c ∉ fs.map Prod.fst) : valV (gkv optV fs) (Sum.inl c : Key) = none := by
  rw [gkv_val, lkp_none.mpr h]; rfl
theorem inV_ints (c : Int) : ∀ ns : List Int, inV (.int c) (ns.map V.int) = decide (c ∈ ns)
  | [] => by rw [decide_eq_false (by simp)]; rfl
  | x :: r => by
    have ih := inV_ints c r
    show (eqV (.int x) (.int c) || inV (.int c) (r.map V.int)) = _
    rw [ih]
    have e : eqV (.int x) (.int c) = decide (x = c) := by
      show decide _ = _
      exact decide_eq_decide.mpr ⟨fun z => by first | exact z | exact V.int.inj z, fun z => by rw [z]⟩
    rw [e]
    by_cases h : x = c
    · rw [decide_eq_true h, decide_eq_true (show c ∈ x :: r by rw [h]; exact List.mem_cons_self ..)]; rfl
    · rw [decide_eq_false h, Bool.false_or]
      exact decide_eq_decide.mpr ⟨fun z => List.mem_cons_of_mem _ z, fun z => (List.mem_cons.mp z).elim (fun z => absurd z.symm h) id⟩
theorem flat_ints (ns : List Int) : (ns.map V.int).all flatV = true := by
  rw [List.all_map, List.all_eq_true]
  intro x _
  rfl
/-- each who is lower comes to be found -/
def Steps (rs : List Rp) (n : Nat) (S F : List Int) (E : Int → Option Int) : Prop := ∀ ks : Int → Prop, (∀ k e, 1 ≤ k → k ≤ (n : Int) → hAt F k < hAt S k → E k = some e → hAt F k = e → ks k) → ∀ c, 1 ≤ c → c ≤ (n : Int) → hAt F c < hAt S c → ¬ ks c →
    ∃ r ∈ rs, hAt F r.1 < hAt S r.1 ∧ ¬ ks r.1 ∧ ks r.2.1 ∧ r.2.2 - hAt F r.1 + hAt F r.2.1 = 0
def SlipIn (n : Nat) (S F : List Int) (E : Int → Option Int) (ks : List Int) : Prop := ∀ k e, 1 ≤ k → k ≤ (n : Int) → hAt F k < hAt S k → E k = some e → hAt F k = e → k ∈ ks
def leftN (dn ks : List Int) : Nat := (dn.filter fun x => !decide (x ∈ ks)).length
/-- what one pass over the ropes does -/
def PassP (rs : List Rp) (dn : List Int) (F : List Int) (ks0 : List Int) (i : Nat) (ks : List Int) : Prop :=
  (∀ k ∈ ks0, k ∈ ks) ∧ ∀ j r, j < i → rs[j]? = some r → r.1 ∈ dn → r.2.1 ∈ ks0 → r.2.2 - hAt F r.1 + hAt F r.2.1 = 0 → r.1 ∈ ks
theorem pass_left {rs : List Rp} {n : Nat} {S F : List Int} {E : Int → Option Int} {ks0 ks : List Int} (W : WfR n rs) (hst : Steps rs n S F E) (hs : SlipIn n S F E ks0) (hp : PassP rs (downL S F n) F ks0 rs.length ks) {t m : Nat} (hl : leftN (downL S F n) ks0 ≤ m - t) (ht : t < m) : leftN (downL S F n) ks ≤ m - (t + 1) := by
  by_cases hz : leftN (downL S F n) ks0 = 0
  · have : leftN (downL S F n) ks ≤ leftN (downL S F n) ks0 := by
      unfold leftN
      have e : (downL S F n).filter (fun x => !decide (x ∈ ks)) = [] := by
        rw [List.filter_eq_nil_iff]
        intro a ha z
        have e0 : (downL S F n).filter (fun x => !decide (x ∈ ks0)) = [] := List.length_eq_zero_iff.mp hz
        rw [List.filter_eq_nil_iff] at e0
        have := e0 a ha
        simp at this z
        exact z (hp.1 a this)
      rw [e]; exact Nat.zero_le _
    omega
  · have : ∃ c ∈ downL S F n, c ∉ ks0 := by
      cases q : (downL S F n).filter fun x => !decide (x ∈ ks0) with
      | nil => exact absurd (by unfold leftN; rw [q]; rfl) hz
      | cons c r =>
        have hm : c ∈ (downL S F n).filter fun x => !decide (x ∈ ks0) := by rw [q]; simp
        obtain ⟨h1, h2⟩ := List.mem_filter.mp hm
        exact ⟨c, h1, by simpa using h2⟩
    obtain ⟨c, hc, hcn⟩ := this
    obtain ⟨h1, h2, h3⟩ := down_mem.mp hc
    obtain ⟨r, hr, r1, r2, r3, r4⟩ := hst (· ∈ ks0) hs c h1 h2 h3 hcn
    obtain ⟨j, hj⟩ := List.getElem?_of_mem hr
    have hjl : j < rs.length := (List.getElem?_eq_some_iff.mp hj).1
    have hrd : r.1 ∈ downL S F n := by
      obtain ⟨⟨a, b⟩, _⟩ := W r hr
      refine down_mem.mpr ⟨?_, b, r1⟩
      rcases Int.lt_or_le 0 r.1 with z | z
      · omega
      · have : r.1 = 0 := by omega
        rw [this, hAt_zero, hAt_zero] at r1
        omega
    have hin := hp.2 j r hjl hj hrd r3 r4
    have := left_less (fun x => decide (x ∈ ks0)) (fun x => decide (x ∈ ks)) (downL S F n) (fun x _ h => decide_eq_true (hp.1 x (of_decide_eq_true h))) ⟨r.1, hrd, decide_eq_false r2, decide_eq_true hin⟩
    unfold leftN at hl ⊢
    omega
theorem left_zero {dn ks : List Int} (h : leftN dn ks = 0) {c : Int} (hc : c ∈ dn) : c ∈ ks := by
  have e0 := List.length_eq_zero_iff.mp h
  rw [List.filter_eq_nil_iff] at e0
  simpa using e0 c hc
def sp_pulls_by (K : PySem.W.Frag) : Sp := fun vs H Q _ => ∃ (g hs hf d : Addr) (n : Nat) (rs : List Rp) (S F : List Int) (es : List (Int × Int)), vs = [.ref g, .ref hs, .ref hf, .ref d] ∧ RigA K H g n rs ∧ WfR n rs ∧ rs.length ≤ 60 ∧ n ≤ 8 ∧
  H hs = some (.lst (S.map V.int)) ∧ S.length = n ∧ H hf = some (.lst (F.map V.int)) ∧ F.length = n ∧ H d = some (.dK (gkv V.int es)) ∧ Steps rs n S F (lkp es) ∧ ∀ H' p, Same H H' → Q (.ref p) H'
abbrev N_pulls_by : List Str := ["rig", "stand", "heights", "ends", "down", "climber", "found", "turn", "number", "rope"]
theorem sc_pulls_by : FnScope N_pulls_by ["rig", "stand", "heights", "ends"] (defScope s_pulls_by) := ⟨rfl, rfl, rfl, by decide +kernel, rfl, by decide +kernel, by decide +kernel⟩
theorem ok_pulls_by (T : TX K mg) : Okd P w K mg base 2 "pulls_by" ["rig", "stand", "heights", "ends"] (sp_pulls_by K) := by
  obtain ⟨fd, F⟩ := T.d_pulls_by
  refine okd_of F T.g_pulls_by sc_pulls_by (fun _ _ _ _ _ _ us hl => match us, hl with | [_, _, _, _], _ => rfl) ?_ ?_
  · rintro vs H Q E ⟨g, hs, hf, d, n, rs, S, F, es, rfl, _⟩; rfl
  · rintro cdv A outer s H vs Q E hr ⟨g, hs, hf, d, n, rs, S, F, es, rfl, hg, hw, h60, h8, hS, hSl, hF, hFl, hd, hst, q⟩
    have hu := hu_of hr
    refine ⟨_, (pss_cons (ps_setLc (i := 4) (own := [("climber", 5)]) (g := gName 5) rfl (sc_pulls_by).nd rfl rfl (sw_true rfl rfl rfl (by decide +kernel)) (pi_range2 (by rfl) T.b_range (pa_cons pe_int (pa_cons (pe_op op_add (pe_methD0 (ok_Rig_many T) T.cls_Rig hr (by decide) (pv 0)) pe_int) pa_nil))) (blkOk_by (N := N_pulls_by) (sc := defScope s_pulls_by) (own := [("climber", 5)]) (by decide +kernel)) (fun _ _ _ _ _ => (pg_name (i := 5) (sc_pulls_by).nd rfl (.inl rfl))) (fun _ _ _ _ _ => (pts_one (pt_cmpR op_lt (pe_ix (ix_listK (K := K) rfl) (pv 2) (pe_op op_sub (pv 5) pe_int) (fun _ _ => rfl)) (pe_ix (ix_listK (K := K) rfl) (pv 1) (pe_op op_sub (pv 5) pe_int) (fun _ _ => rfl)) (nomark _)))) (fun _ _ _ _ _ => (pv 5)))
  (pss_cons (ps_set (i := 6) (sc_pulls_by).nd rfl (.inr rfl) (pe_dc (own := [("climber", 5)]) (g := gName 5) rfl (sc_pulls_by).nd (pi_listK (K := K) rfl (pv 4)) (blkOk_by (N := N_pulls_by) (sc := defScope s_pulls_by) (own := [("climber", 5)]) (by decide +kernel)) (fun _ _ _ _ _ => (pg_name (i := 5) (sc_pulls_by).nd rfl (.inl rfl))) (fun _ _ _ _ _ => (pts_one (PW.pt (pw_and (pt_cmp (pc_din hu (pv 5) (pv 3))) (pw_and1 (pt_cmpR op_eq (pe_ix (ix_listK (K := K) rfl) (pv 2) (pe_op op_sub (pv 5) pe_int) (fun _ _ => rfl)) (pe_dget hu (pv 3) (pv 5) (fun _ _ => rfl)) (nomark _))))))) (fun _ _ _ _ _ => (pv 5)) (fun _ _ _ _ _ => pe_non)))
  (pss_cons (ps_for PassesOwn.never rfl (pi_range1 (by rfl) T.b_range (pa_cons (pe_callB (call_len_seqK (K := K) rfl) (by rfl) T.b_len bt_len (pa_cons (pv 4) pa_nil)) pa_nil)) (pg_name (i := 7) (sc_pulls_by).nd rfl (.inl rfl)) (pss_one (ps_for PassesOwn.never rfl (pi_enumK (K := K) rfl (by rfl) T.b_enumerate (pa_cons (pe_methD0 (ok_Rig_ropes T) T.cls_Rig hr (by decide) (pv 0)) pa_nil)) (pg_tupK (K := K) rfl rfl (pgs_cons (pg_name (i := 8) (sc_pulls_by).nd rfl (.inl rfl)) (pgs_cons (pg_name (i := 9) (sc_pulls_by).nd rfl (.inl rfl)) pgs_nil))) (pss_one (ps_if (PW.pt (pw_and (pt_cmpR (op_in_seqK (K := K) rfl) (pe_ix (ix_tupK (K := K) rfl) (pv 9) pe_int (fun _ _ => rfl)) (pv 4) (by rfl)) (pw_and (pt_cmp (pc_dnotin hu (pe_ix (ix_tupK (K := K) rfl) (pv 9) pe_int (fun _ _ => rfl)) (pv 6))) (pw_and (pt_cmp (pc_din hu (pe_ix (ix_tupK (K := K) rfl) (pv 9) pe_int (fun _ _ => rfl)) (pv 6))) (pw_and1 (pt_cmpR op_eq (pe_callD (ok_room_by T) hr (by decide) (by rfl) (pa_cons (pv 9) (pa_cons (pv 2) pa_nil))) pe_int (nomark _))))))) (pss_one (ps_dput hu (pv 6) (pe_ix (ix_tupK (K := K) rfl) (pv 9) pe_int (fun _ _ => rfl)) (pv 8) rfl)) pss_nil)))))
  (pss_one (ps_ret (pe_dc (own := [("climber", 5)]) (g := gName 5) rfl (sc_pulls_by).nd (pi_listK (K := K) rfl (pv 4)) (blkOk_by (N := N_pulls_by) (sc := defScope s_pulls_by) (own := [("climber", 5)]) (by decide +kernel)) (fun _ _ _ _ _ => (pg_name (i := 5) (sc_pulls_by).nd rfl (.inl rfl))) (fun _ _ _ _ _ => pts_nil) (fun _ _ _ _ _ => (pv 5)) (fun _ _ _ _ _ => (pe_dget hu (pv 6) (pv 5) (fun _ _ => rfl))))))))), ?_⟩
    obtain ⟨dx, tt, as0, hg1, ht0, hts0⟩ := id hg
    refine ⟨_, rfl, g, dx, _, rfl, hg1, rigF_m1 _ _, g, n, rs, rfl, hg, _, _, rfl, rfl, 1, (n : Int) + 1, rfl, ⟨by omega, by omega, by omega, by omega⟩, fun D hD => ?_⟩
    rw [show ((n : Int) + 1 - 1).toNat = n by omega]
    refine lc_gen (n := n) (fun i => (dnF S F i).map V.int) (Nat.le_trans h8 (by decide)) hD (fun i H' hi sm => hi) (fun H' sm => Nat.le_refl _) (fun i x H1 H2 Qt Qf hi sm y k1 k2 => ?_) (fun H1 sm hd1 => ?_)
    · obtain ⟨rfl, rfl⟩ := y
      refine ⟨rfl, _, rfl, _, rfl, _, _, rfl, rfl, hf, _, _, .int (hAt F (1 + (i : Int))), rfl, rfl, SqL.of (sm _ _ hF), hAt_at hFl (by omega) (by omega), ?_⟩
      refine ⟨_, rfl, _, rfl, _, _, rfl, rfl, hs, _, _, .int (hAt S (1 + (i : Int))), rfl, rfl, SqL.of (sm _ _ hS), hAt_at hSl (by omega) (by omega), ?_⟩
      refine ⟨_, _, rfl, rfl, _, rfl, ?_⟩
      by_cases hlt : hAt F (1 + (i : Int)) < hAt S (1 + (i : Int))
      · rw [decide_eq_true hlt]
        exact ⟨_, rfl, k1 _ _ (by unfold dnF; rw [if_pos hlt]; rfl) (Same.refl _)⟩
      · rw [decide_eq_false hlt]
        exact k2 _ (by unfold dnF; rw [if_neg hlt]; rfl) (Same.refl _)
    · rw [fm_ints] at hd1
      have hD1 : H1 D = some (.lst ((downL S F n).map V.int)) := hd1
      generalize hdn : downL S F n = dn at hD1
      have hdl : dn.length ≤ n := by rw [← hdn]; exact down_len S F n
      refine ⟨_, rfl, D, rfl, ⟨_, SqL.of hD1⟩, fun B hB => ?_⟩
      have hB0 : H B = none := sm.free hB
      refine dc_pv (n := dn.length) (fun i H' => Same H1 H' ∧ FD H' B dn fun ks => ks.length ≤ i ∧ (∀ k ∈ ks, k ∈ dn.take i) ∧ ∀ k e, k ∈ dn.take i → lkp es k = some e → hAt F k = e → k ∈ ks) ⟨same_upd hB, [], upd_same, .nil, fun k z => by simp at z, Nat.le_refl _, fun k z => by simp at z, fun k e z => by simp at z⟩
        (fun i H' hi p => ⟨_, _, SqL.of (p.1 _ _ hD1), get_map2 (List.getElem?_eq_getElem hi)⟩) (fun i x H2 H3 hi p y => ?_) (fun H2 p => ⟨⟨_, SqL.of (p.1 _ _ hD1), by rw [List.length_map]; exact Nat.le_refl _⟩, ?_⟩)
      · obtain ⟨s2, fs, f1, f2, f3, f4, f5, f6⟩ := p
        obtain ⟨rfl, y⟩ := y
        obtain ⟨c, hc, rfl⟩ := get_map (y _ (SqL.of (s2 _ _ hD1)))
        have hcm := List.mem_of_getElem? hc
        have hcd := down_mem.mp (by rw [hdn]; exact hcm)
        have s02 := sm.trans s2
        have hd2 := s02 _ _ hd
        have htk : dn.take (i + 1) = dn.take i ++ [c] := by rw [List.take_add_one, hc]; rfl
        refine ⟨rfl, _, rfl, _, rfl, d, _, rfl, DGet.k (k := Sum.inl c) hd2, _, rfl, ?_⟩
        rw [gkv_val]
        have skip : (∀ e, lkp es c = some e → ¬ hAt F c = e) → Same H1 H3 ∧ FD H3 B dn fun ks => ks.length ≤ i + 1 ∧ (∀ k ∈ ks, k ∈ dn.take (i + 1)) ∧ ∀ k e, k ∈ dn.take (i + 1) → lkp es k = some e → hAt F k = e → k ∈ ks := fun hno => by
          refine ⟨s2, fs, f1, f2, f3, by omega, fun k hk => by rw [htk]; exact List.mem_append_left _ (f5 k hk), fun k e hk he hF => ?_⟩
          rw [htk] at hk
          rcases List.mem_append.mp hk with z | z
          · exact f6 k e z he hF
          · have z : k = c := by simpa using z
            subst z
            exact absurd hF (hno e he)
        cases hlc : lkp es c with
        | none => exact skip fun e z => by rw [hlc] at z; cases z
        | some e =>
          refine iteT ?_
          refine ⟨_, rfl, _, rfl, _, _, rfl, rfl, hf, _, _, .int (hAt F c), rfl, rfl, SqL.of (s02 _ _ hF), hAt_at hFl hcd.1 hcd.2.1, _, rfl, _, rfl, d, .int e, rfl, (by rw [show some (V.int e) = valV (gkv V.int es) (Sum.inl c : Key) by rw [gkv_val, hlc]; rfl]; exact DGet.k (k := Sum.inl c) hd2), rfl, _, rfl, ?_⟩
          by_cases hFe : hAt F c = e
          · rw [decide_eq_true (by rw [hFe])]
            have hnew : c ∉ fs.map Prod.fst := fun z => by
              have h1 := f5 c z
              have hnd : dn.Nodup := by rw [← hdn]; exact down_nodup S F n
              rw [← List.take_append_drop i dn, List.nodup_append] at hnd
              refine hnd.2.2 c h1 c ?_ rfl
              have hgd : (dn.drop i)[0]? = some c := by rw [List.getElem?_drop]; exact hc
              exact List.mem_of_getElem? hgd
            refine iteT ⟨_, rfl, gkv optV fs, Sum.inl c, rfl, f1, by rw [gkv_len]; rw [List.length_map] at f4; exact Nat.lt_of_le_of_lt (show fs.length ≤ 100 by omega) (by decide), same_upd2 hB s2, ?_⟩
            refine FD.put (x := none) f2 f3 hcm hnew ⟨by rw [List.length_append]; show _ + 1 ≤ _; omega, fun k hk => ?_, fun k e' hk he hF => ?_⟩
            · rw [htk]
              rcases List.mem_append.mp hk with z | z
              · exact List.mem_append_left _ (f5 k z)
              · exact List.mem_append_right _ z
            · rw [htk] at hk
              rcases List.mem_append.mp hk with z | z
              · exact List.mem_append_left _ (f6 k e' z he hF)
              · exact List.mem_append_right _ z
          · rw [decide_eq_false (fun z => hFe (V.int.inj z))]
            exact iteF (skip fun e' z => by rw [hlc] at z; cases z; exact hFe)
      · obtain ⟨s2, hfd⟩ := p
        rw [List.take_length] at hfd
        have s02 := sm.trans s2
        have hD2 := s2 _ _ hD1
        refine ⟨_, rfl, D, _, rfl, .inl (SqL.of hD2), dn.length, ?_, by omega, by omega, ?_⟩
        · rw [List.length_map]
        rw [show ((dn.length : Nat) : Int).toNat = dn.length from Int.toNat_natCast _]
        have hk0 : ∀ ks : List Int, (∀ k ∈ ks, k ∈ dn) → ks.Nodup → ks.length ≤ 8 := fun ks h1 h2 => Nat.le_trans (nodup_sub ks dn h2 h1) (by omega)
        refine for_range (n := dn.length) (fun t σ H3 => ∃ v5 v7 v8 v9, σ = [some (.ref g), some (.ref hs), some (.ref hf), some (.ref d), some (.ref D), v5, some (.ref B), v7, v8, v9] ∧ (∀ b o, b ≠ B → H2 b = some o → H3 b = some o) ∧ FD H3 B dn fun ks => SlipIn n S F (lkp es) ks ∧ leftN dn ks ≤ dn.length - t)
          ⟨_, _, _, _, rfl, fun b o _ e => e, hfd.imp (Same.refl _) fun ks hks => ⟨fun k e h1 h2 h3 h4 h5 => hks.2.2 k e (by rw [← hdn]; exact down_mem.mpr ⟨h1, h2, h3⟩) h4 h5, List.length_filter_le ..⟩⟩ ?_ (fun σ H3 p => ?_)
        · rintro t σ H3 ht ⟨v5, v7, v8, v9, rfl, k3, fs0, f1, f2, f3, f4, f5⟩
          have hne : ∀ b o, H2 b = some o → (∀ kvs, o ≠ .dK kvs) → b ≠ B := fun b o e h z => by
            obtain ⟨fs, e2, _⟩ := hfd
            rw [z] at e
            rw [e2] at e
            exact h _ (Option.some.inj e).symm
          have kg : ∀ Hx : Hp, (∀ b o, b ≠ B → H2 b = some o → Hx b = some o) → RigA K Hx g n rs := fun Hx k => by
            obtain ⟨dx, tt, as0, z1, z2, z3⟩ := hg.same s02
            exact ⟨dx, tt, as0, k _ _ (hne _ _ z1 (fun _ z => by cases z)) z1, k _ _ (hne _ _ z2 (fun _ z => by cases z)) z2, z3.1, fun i a x e1 e2 => k _ _ (hne _ _ (z3.2 i a x e1 e2) (fun _ z => by cases z)) (z3.2 i a x e1 e2)⟩
          obtain ⟨dx3, tt3, as3, hg3, _⟩ := id (kg H3 k3)
          refine ⟨_, rfl, g, dx3, _, rfl, hg3, rigF_m2 _ _, g, n, rs, rfl, kg H3 k3, fun p as hp hts => ?_⟩
          have s4 : Same H3 (upd H3 p (.lst (as.map V.ref))) := same_upd hp
          have hp4 : (upd H3 p (.lst (as.map V.ref))) p = some (.lst (as.map V.ref)) := upd_same
          have hts4 := hts.same s4
          revert s4 hp4 hts4
          generalize upd H3 p (.lst (as.map V.ref)) = H4
          intro s4 hp4 hts4
          have hal : as.length = rs.length := by rw [hts.1, List.length_map]
          have hne4 : ∀ b o, H4 b = some o → (∀ kvs, o ≠ .dK kvs) → b ≠ B := fun b o e h z => by
            rw [z, s4 _ _ f1] at e
            exact h _ (Option.some.inj e).symm
          have k4 : ∀ b o, b ≠ B → H2 b = some o → H4 b = some o := fun b o hb e => s4 _ _ (k3 b o hb e)
          refine ⟨p, _, rfl, SqL.of hp4, ?_⟩
          refine for_gen (n := rs.length) (fun i σ H5 => ∃ v5 v8 v9, σ = [some (.ref g), some (.ref hs), some (.ref hf), some (.ref d), some (.ref D), v5, some (.ref B), some (.int (0 + (t : Nat))), v8, v9] ∧ (∀ b o, b ≠ B → H4 b = some o → H5 b = some o) ∧ FD H5 B dn (PassP rs dn F (fs0.map Prod.fst) i))
            ⟨_, _, _, rfl, fun b o _ e => e, fs0, s4 _ _ f1, f2, f3, fun k hk => hk, fun j r hj => by omega⟩ (fun i σ H5 hi pv => ?_) (fun i x σ H5 H6 hi pv y => ?_) (fun σ H5 pv => ?_)
          · obtain ⟨_, _, _, _, k5, _⟩ := pv
            exact ⟨_, _, SqL.of (k5 _ _ (hne4 _ _ hp4 (fun _ z => by cases z)) hp4), get_map2 (List.getElem?_eq_getElem (by rw [hal]; exact hi))⟩
          · obtain ⟨v5, v8, v9, rfl, k5, fs, g1, g2, g3, g4, g5⟩ := pv
            obtain ⟨Tp, x, rfl, hT, rfl, y⟩ := y
            obtain ⟨b, hb, rfl⟩ := get_map (y _ (SqL.of (k5 _ _ (hne4 _ _ hp4 (fun _ z => by cases z)) hp4)))
            obtain ⟨yy, hy, hb4⟩ := hts4.at_ hb
            obtain ⟨r, hri, rfl⟩ := get_map hy
            have hb5 := k5 _ _ (hne4 _ _ hb4 (fun _ z => by cases z)) hb4
            have hD5 := k5 _ _ (hne4 _ _ (k4 _ _ (hne _ _ hD2 (fun _ z => by cases z)) hD2) (fun _ z => by cases z)) (k4 _ _ (hne _ _ hD2 (fun _ z => by cases z)) hD2)
            have hF2 := s02 _ _ hF
            have hF5 := k5 _ _ (hne4 _ _ (k4 _ _ (hne _ _ hF2 (fun _ z => by cases z)) hF2) (fun _ z => by cases z)) (k4 _ _ (hne _ _ hF2 (fun _ z => by cases z)) hF2)
            refine ⟨Tp, _, rfl, SqT.of upd_same, rfl, _, _, rfl, _, _, rfl, rfl, ?_⟩
            have s6 : Same H5 (upd H5 Tp (.tup [.int (i : Nat), .ref b])) := same_upd hT
            revert s6
            generalize upd H5 Tp (.tup [.int (i : Nat), .ref b]) = H6
            intro s6
            have hb6 := s6 _ _ hb5
            have g16 := s6 _ _ g1
            obtain ⟨hk1, hk2, _⟩ := hw r (List.mem_of_getElem? hri)
            have fin : ∀ H7, Same H6 H7 → (r.1 ∈ dn → r.2.1 ∈ fs0.map Prod.fst → r.2.2 - hAt F r.1 + hAt F r.2.1 = 0 → r.1 ∈ fs.map Prod.fst) →
                (∀ b o, b ≠ B → H4 b = some o → H7 b = some o) ∧ FD H7 B dn (PassP rs dn F (fs0.map Prod.fst) (i + 1)) := fun H7 s7 hin => by
              refine ⟨fun b o hb e => s7 _ _ (s6 _ _ (k5 b o hb e)), fs, s7 _ _ g16, g2, g3, g4, fun j r2 hj hr2 => ?_⟩
              by_cases hji : j = i
              · subst hji
                rw [hri] at hr2
                cases hr2
                exact hin
              · exact g5 j r2 (by omega) hr2
            obtain ⟨u, lo, m⟩ := r
            refine ⟨_, rfl, b, _, 0, .int u, rfl, rfl, SqT.of hb6, rfl, _, rfl, D, _, rfl, .inl (SqL.of (s6 _ _ hD5)), rfl, flat_ints _, _, rfl, ?_⟩
            show if inV (.int u) (dn.map V.int) = true then _ else _
            rw [inV_ints]
            refine ite2 (fun e1 => ?_) (fun e1 => ?_)
            · have e1 : u ∈ dn := of_decide_eq_true e1
              refine ⟨_, rfl, b, _, 0, .int u, rfl, rfl, SqT.of hb6, rfl, _, rfl, B, _, rfl, DGet.k (k := Sum.inl u) g16, _, rfl, ?_⟩
              by_cases hin : u ∈ fs.map Prod.fst
              · obtain ⟨x, hx⟩ := key_val hin
                rw [hx]
                exact iteF ⟨_, _, _, rfl, fin H6 (Same.refl _) fun _ _ _ => hin⟩
              · rw [key_no hin]
                refine iteT ?_
                refine ⟨_, rfl, b, _, 1, .int lo, rfl, rfl, SqT.of hb6, rfl, _, rfl, B, _, rfl, DGet.k (k := Sum.inl lo) g16, _, rfl, ?_⟩
                by_cases hlo : lo ∈ fs.map Prod.fst
                · obtain ⟨x, hx⟩ := key_val hlo
                  rw [hx]
                  refine iteT ?_
                  refine ⟨_, rfl, _, rfl, b, hf, (u, lo, m), F, rfl, hb6, s6 _ _ hF5, by rw [hFl]; exact hk1, by rw [hFl]; exact hk2, by omega, fun H7 s7 => ?_⟩
                  refine ⟨rfl, _, rfl, ?_⟩
                  by_cases h0 : m - hAt F u + hAt F lo = 0
                  · rw [decide_eq_true (show V.int (m - hAt F u + hAt F lo) = V.int 0 by rw [h0])]
                    refine iteT ?_
                    have g17 := s7 _ _ g16
                    refine ⟨_, rfl, _, rfl, _, rfl, b, _, 0, .int u, rfl, rfl, SqT.of (s7 _ _ hb6), rfl, B, _, rfl, DPut.k (k := Sum.inl u) g17 (by rw [gkv_len]; have := hk0 _ g3 g2; rw [List.length_map] at this; exact Nat.lt_of_le_of_lt (show fs.length ≤ 100 by omega) (by decide)), ?_⟩
                    refine ⟨_, _, _, rfl, fun b o hb e => by rw [upd_ne hb]; exact s7 _ _ (s6 _ _ (k5 b o hb e)), ?_⟩
                    refine FD.put (x := some (i : Int)) g2 g3 e1 hin ⟨fun k hk => List.mem_append_left _ (g4 k hk), fun j r2 hj hr2 a1 a2 a3 => ?_⟩
                    by_cases hji : j = i
                    · subst hji
                      rw [hri] at hr2
                      cases hr2
                      exact List.mem_append_right _ (by simp)
                    · exact List.mem_append_left _ (g5 j r2 (by omega) hr2 a1 a2 a3)
                  · rw [decide_eq_false (fun z => h0 (V.int.inj z))]
                    exact iteF ⟨_, _, _, rfl, fin H7 s7 fun _ _ z => absurd z h0⟩
                · rw [key_no hlo]
                  exact iteF ⟨_, _, _, rfl, fin H6 (Same.refl _) fun _ z _ => absurd (g4 _ z) hlo⟩
            · have e1 : ¬ u ∈ dn := fun z => e1 (decide_eq_true z)
              exact ⟨_, _, _, rfl, fin H6 (Same.refl _) fun z _ _ => absurd z e1⟩
          · obtain ⟨v5, v8, v9, rfl, k5, fs, g1, g2, g3, g45⟩ := pv
            refine ⟨⟨_, SqL.of (k5 _ _ (hne4 _ _ hp4 (fun _ z => by cases z)) hp4), by rw [List.length_map, hal]; exact Nat.le_refl _⟩, ?_⟩
            refine ⟨_, _, _, _, rfl, fun b o hb e => k5 b o hb (k4 b o hb e), fs, g1, g2, g3, fun k e h1 h2 h3 h4 h5 => g45.1 k (f4 k e h1 h2 h3 h4 h5), ?_⟩
            subst hdn
            exact pass_left hw hst f4 g45 f5 ht
        · obtain ⟨v5, v7, v8, v9, rfl, k3, fs, f1, f2, f3, f4, f5⟩ := p
          rw [Nat.sub_self] at f5
          have f5 := Nat.le_zero.mp f5
          have hDB : D ≠ B := fun z => by rw [z, hB] at hD1; cases hD1
          have hD3 := k3 _ _ hDB hD2
          refine ⟨_, rfl, D, rfl, ⟨_, SqL.of hD3⟩, fun R hR => ?_⟩
          refine dc_pv (n := dn.length) (fun i H' => Same H3 H' ∧ ∃ kvs : List (Key × V), kvs.length ≤ i ∧ H' R = some (.dK kvs)) ⟨same_upd hR, [], Nat.zero_le _, upd_same⟩
            (fun i H' hi p => ⟨_, _, SqL.of (p.1 _ _ hD3), get_map2 (List.getElem?_eq_getElem hi)⟩) (fun i x H4 H5 hi p y => ?_) (fun H4 p => ⟨⟨_, SqL.of (p.1 _ _ hD3), by rw [List.length_map]; exact Nat.le_refl _⟩, ?_⟩)
          · obtain ⟨s4, kvs, hkl, hR4⟩ := p
            obtain ⟨rfl, y⟩ := y
            obtain ⟨c, hc, rfl⟩ := get_map (y _ (SqL.of (s4 _ _ hD3)))
            have hcm := List.mem_of_getElem? hc
            obtain ⟨x, hx⟩ := key_val (left_zero f5 hcm)
            refine ⟨rfl, _, rfl, _, rfl, _, rfl, B, optV x, rfl, (by rw [← hx]; exact DGet.k (k := Sum.inl c) (s4 _ _ f1)), kvs, Sum.inl c, rfl, hR4, Nat.lt_of_le_of_lt (show kvs.length ≤ 100 by omega) (by decide), same_upd2 hR s4, _, ?_, upd_same⟩
            exact Nat.le_trans (length_putK ..) (by omega)
          · refine q H4 R (fun b o e => p.1 _ _ (k3 b o (ne_of_none e hB0) (s02 _ _ e)))
end
end RF
/-! ## A18 -/
set_option Elab.async false
set_option linter.all false
set_option maxRecDepth 100000
set_option maxHeartbeats 4000000
namespace RF
open PySem PySem.Spec PyProof.Rows L2
section
variable {P : Program} {w : World} {K : PySem.W.Frag} {mg : Str → Option Value} {base : Heap}
theorem due_iff {rs : List Rp} {n : Nat} {ss : List (Int × Int)} {c to : Int} (hw : WfS n ss) (h : (c, to) ∈ ss) : c ∈ dueL rs ss ↔ ∃ d, dst rs 0 c = some d ∧ to < 0 - d := by
  have e : isDue rs (c, to) = true ↔ ∃ d, dst rs 0 c = some d ∧ to < 0 - d := by
    unfold isDue
    show (match dst rs 0 c with | none => false | some d => decide (to < 0 - d)) = true ↔ _
    cases dst rs 0 c with
    | none => exact ⟨fun z => (by cases z), fun ⟨d, z, _⟩ => by cases z⟩
    | some d => exact ⟨fun z => ⟨d, rfl, of_decide_eq_true z⟩, fun ⟨d', z, h⟩ => by cases z; exact decide_eq_true h⟩
  rw [← e]
  unfold dueL
  rw [List.mem_map]
  constructor
  · rintro ⟨⟨c', to'⟩, h1, h2⟩
    have h2 : c' = c := h2
    subst h2
    obtain ⟨h3, h4⟩ := List.mem_filter.mp h1
    have a := lkp_of hw.1 h
    have b := lkp_of hw.1 h3
    rw [a] at b
    cases b
    exact h4
  · intro z
    exact ⟨(c, to), List.mem_filter.mpr ⟨h, z⟩, rfl⟩
theorem due_nodup {rs : List Rp} {n : Nat} {ss : List (Int × Int)} (hw : WfS n ss) : (dueL rs ss).Nodup := by
  unfold dueL
  exact List.Nodup.sublist (List.filter_sublist.map _) hw.1
theorem key_pos {n : Nat} {ss : List (Int × Int)} {c : Int} (hw : WfS n ss) (h : c ∈ ss.map Prod.fst) : 1 ≤ c ∧ c ≤ (n : Int) := by
  obtain ⟨s, hs, rfl⟩ := List.mem_map.mp h
  exact hw.2 s hs
theorem ends_ok {rs : List Rp} {n : Nat} {ss : List (Int × Int)} {sts : List (Int × List Int)} (hw : WfS n ss) (hk : sts.map Prod.fst = dueL rs ss) (ho : ∀ st ∈ sts, StOk rs st) : EndOk rs (endOf rs ss sts) := by
  constructor
  · have h0 : lkp sts 0 = none := lkp_none.mpr (by
      rw [hk]
      exact fun z => by have := (key_pos hw (due_sub z)).1; omega)
    unfold endOf
    rw [h0]
    exact lkp_none.mpr fun z => by have := (key_pos hw z).1; omega
  · intro k e d he hd
    unfold endOf at he
    cases q : lkp sts k with
    | some cs =>
      rw [q] at he
      obtain ⟨d', h1, h2, h3⟩ := ho _ (lkp_mem q)
      rw [hd] at h1
      cases h1
      have : 0 - chSum rs cs = e := Option.some.inj he
      have h3 : chSum rs cs = d := h3
      omega
    | none =>
      rw [q] at he
      have hm := lkp_mem he
      have hn := lkp_none.mp q
      rw [hk, due_iff hw hm] at hn
      refine Int.not_lt.mp fun z => hn ⟨d, hd, z⟩
theorem st_ch {rs : List Rp} {n : Nat} {ss : List (Int × Int)} {sts : List (Int × List Int)} (hw : WfS n ss) (hk : sts.map Prod.fst = dueL rs ss) (ho : ∀ st ∈ sts, StOk rs st) : ∀ st ∈ sts, st.1 ∈ ss.map Prod.fst ∧ IsCh rs st.2 := fun st hst => by
  have h1 : st.1 ∈ ss.map Prod.fst := due_sub (by rw [← hk]; exact List.mem_map.mpr ⟨st, hst, rfl⟩)
  obtain ⟨d, _, h2, _⟩ := ho st hst
  refine ⟨h1, isCh_of h2 fun z => ?_⟩
  rw [z] at h2
  have h2 : (0 : Int) = st.1 := h2
  have := (key_pos hw h1).1
  omega
def sp_fall (K : PySem.W.Frag) : Sp := fun vs H Q _ => ∃ (g h l : Addr) (n : Nat) (rs : List Rp) (S : List Int) (ss : List (Int × Int)), vs = [.ref g, .ref h, .ref l] ∧ RigA K H g n rs ∧ WfR n rs ∧ rs.length ≤ 60 ∧ n ≤ 8 ∧
  H h = some (.lst (S.map V.int)) ∧ S.length = n ∧ Lets rs S ∧ SlipsAt H l ss ∧ WfS n ss ∧
  ∀ H' t hf v d F sts, Same H H' → nw H H' t = some (.tup [.ref hf, v, .ref d]) → nw H H' hf = some (.lst (F.map V.int)) → StopsAt (nw H H') d sts → sts.map Prod.fst = dueL rs ss → (∀ st ∈ sts, StOk rs st) →
    IsFal rs n (capF S (endOf rs ss sts)) F → AllD rs n → Q (.ref t) H'
abbrev N_fall : List Str := ["rig", "stand", "slips", "table", "stops", "ends", "heights"]
theorem sc_fall : FnScope N_fall ["rig", "stand", "slips"] (defScope s_fall) := ⟨rfl, rfl, rfl, by decide +kernel, rfl, by decide +kernel, by decide +kernel⟩
theorem ok_fall (T : TX K mg) : Okd P w K mg base 8 "fall" ["rig", "stand", "slips"] (sp_fall K) := by
  obtain ⟨fd, F⟩ := T.d_fall
  refine okd_of F T.g_fall sc_fall (fun _ _ _ _ _ _ us hl => match us, hl with | [_, _, _], _ => rfl) ?_ ?_
  · rintro vs H Q E ⟨g, h, l, n, rs, S, ss, rfl, _⟩; rfl
  · rintro cdv A outer s H vs Q E hr ⟨g, h, l, n, rs, S, ss, rfl, hg, hw, h60, h8, hh, hSl, hL, hs, hws, q⟩
    refine ⟨_, (pss_cons (ps_expr (pe_callD (ok_look_at_stand T) hr (by decide) (by rfl) (pa_cons (pv 0) (pa_cons (pv 1) pa_nil))))
  (pss_cons (ps_expr (pe_callD (ok_look_at_slips T) hr (by decide) (by rfl) (pa_cons (pv 0) (pa_cons (pv 2) pa_nil))))
  (pss_cons (ps_set (i := 3) (sc_fall).nd rfl (.inl rfl) (pe_makeD (ok_Table_init T) hr (by decide) (by rfl) (pa_cons (pv 0) pa_nil)))
  (pss_cons (ps_set (i := 4) (sc_fall).nd rfl (.inl rfl) (pe_callD (ok_stops_by T) hr (by decide) (by rfl) (pa_cons (pv 3) (pa_cons (pv 2) pa_nil))))
  (pss_cons (ps_set (i := 5) (sc_fall).nd rfl (.inl rfl) (pe_callD (ok_ends_by T) hr (by decide) (by rfl) (pa_cons (pv 0) (pa_cons (pv 2) (pa_cons (pv 4) pa_nil)))))
  (pss_cons (ps_set (i := 6) (sc_fall).nd rfl (.inl rfl) (pe_callD (ok_fallen T) hr (by decide) (by rfl) (pa_cons (pv 3) (pa_cons (pv 1) (pa_cons (pv 5) pa_nil)))))
  (pss_one (ps_ret (pe_tup (pa_cons (pv 6) (pa_cons (pe_callD (ok_pulls_by T) hr (by decide) (by rfl) (pa_cons (pv 0) (pa_cons (pv 1) (pa_cons (pv 6) (pa_cons (pv 5) pa_nil))))) (pa_cons (pv 4) pa_nil)))))))))))), ?_⟩
    refine ⟨_, rfl, _, rfl, g, n, rs, h, S, rfl, hg, hh, hSl, h8, hw, h60, hL, fun H1 s1 => ?_⟩
    refine ⟨_, rfl, _, rfl, g, l, n, rs, ss, rfl, hg.same s1, hs.same s1, hws, h8, fun H2 s2 => ?_⟩
    have s02 := s1.trans s2
    refine ⟨_, rfl, fun x dx hx hdx hne => ?_⟩
    have hxx : (upd H2 dx (.own x)) x = none := by rw [upd_ne hne.symm]; exact hx
    refine ⟨x, dx, g, rs, S, n, H2, rfl, (same_upd hdx).trans (same_upd hxx), hx, upd_same, hg.same s02, hw, hL, h8, h60, fun H3 s3 htb => ⟨rfl, ?_⟩⟩
    have s03 := s02.trans s3
    have hA : AllD rs n := fun u l hl => htb.isD hl u
    refine ⟨_, rfl, _, rfl, x, l, n, rs, ss, rfl, htb, hs.same s03, hws, h8, fun H4 d sts s4 hst hk ho => ?_⟩
    have s04 := s03.trans s4
    have hst0 : StopsAt (nw H H4) d sts := hst.same (nw_anti s03)
    refine ⟨_, rfl, _, rfl, _, rfl, g, l, d, n, rs, ss, sts, rfl, hg.same s04, hs.same s04, hws, h8, h60, hst.same nw_sub, (by rw [hk]; exact due_nodup hws), st_ch hws hk ho, fun H5 e es s5 hen he hek hel => ?_⟩
    have s05 := s04.trans s5
    have hE := ends_ok hws hk ho
    refine ⟨_, rfl, _, rfl, _, rfl, x, h, e, n, rs, S, es, rfl, (htb.same s4).same s5, s05 _ _ hh, hSl, h8, he, fun H6 p F s6 hp hF => ?_⟩
    have s06 := s05.trans s6
    have hF : IsFal rs n (capF S (endOf rs ss sts)) F := by
      have : lkp es = endOf rs ss sts := funext hel
      rw [← this]; exact hF
    have hp0 : nw H H6 p = some (.lst (F.map V.int)) := nw_anti s05 _ _ hp
    refine ⟨_, rfl, _, rfl, _, rfl, _, rfl, _, rfl, g, h, p, e, n, rs, S, F, es, rfl, hg.same s06, hw, h60, h8, s06 _ _ hh, hSl, nw_sub _ _ hp, hF.1, s6 _ _ he, ?_, fun H7 v s7 => ?_⟩
    · rw [show lkp es = endOf rs ss sts from funext hel]
      exact fun ks hks c h1 h2 h3 h4 => fal_step hA hw hL hE hF hks h1 h2 h3 h4
    · refine ⟨_, rfl, (by show 3 ≤ sizeLine; decide), fun t ht => ?_⟩
      have s07 := s06.trans s7
      have s8 : Same H7 (upd H7 t (.tup [.ref p, .ref v, .ref d])) := same_upd ht
      exact q _ t p (.ref v) d F sts (s07.trans s8) (nw_of (s07.free ht) upd_same) (nw_mono (s7.trans s8) _ _ hp0) (hst0.same (nw_mono (((s5.trans s6).trans s7).trans s8))) hk ho hF hA
end
end RF
/-! ## A19 -/
set_option Elab.async false
set_option linter.all false
set_option maxRecDepth 100000
set_option maxHeartbeats 4000000
namespace RF
open PySem PySem.Spec PyProof.Rows L2
section
variable {P : Program} {w : World} {K : PySem.W.Frag} {mg : Str → Option Value} {base : Heap}
/-- a chain that stops whom it should, for the check -/
def StG (rs : List Rp) (n : Nat) (ss : List (Int × Int)) (F : List Int) (st : Int × List Int) : Prop := (1 ≤ st.1 ∧ st.1 ≤ (n : Int)) ∧ (st.2 ≠ [] ∧ ChOk rs 0 st.2 st.1) ∧ ∃ to, lkp ss st.1 = some to ∧ ¬ 0 - chSum rs st.2 ≤ to ∧ hAt F st.1 = 0 - chSum rs st.2
def sp_are_stops (K : PySem.W.Frag) : Sp := fun vs H Q _ => ∃ (g l hf d : Addr) (n : Nat) (rs : List Rp) (ss : List (Int × Int)) (F : List Int) (sts : List (Int × List Int)), vs = [.ref g, .ref l, .ref hf, .ref d] ∧ RigA K H g n rs ∧ SlipsAt H l ss ∧ WfS n ss ∧ n ≤ 8 ∧ rs.length ≤ 60 ∧
  H hf = some (.lst (F.map V.int)) ∧ F.length = n ∧ StopsAt H d sts ∧ ∀ H' b, Same H H' → (b = true ↔ ∀ st ∈ sts, StG rs n ss F st) → Q (.bl b) H'
abbrev N_are_stops : List Str := ["rig", "slips", "heights", "thing", "ends", "climber", "chain", "low"]
theorem sc_are_stops : FnScope N_are_stops ["rig", "slips", "heights", "thing"] (defScope s_are_stops) := ⟨rfl, rfl, rfl, by decide +kernel, rfl, by decide +kernel, by decide +kernel⟩
theorem ok_are_stops (T : TX K mg) : Okd P w K mg base 8 "are_stops" ["rig", "slips", "heights", "thing"] (sp_are_stops K) := by
  obtain ⟨fd, F⟩ := T.d_are_stops
  refine okd_of F T.g_are_stops sc_are_stops (fun _ _ _ _ _ _ us hl => match us, hl with | [_, _, _, _], _ => rfl) ?_ ?_
  · rintro vs H Q E ⟨g, l, hf, d, n, rs, ss, F, sts, rfl, _⟩; rfl
  · rintro cdv A outer s H vs Q E hr ⟨g, l, hf, d, n, rs, ss, F, sts, rfl, hg, hs, hw, h8, h60, hF, hFl, hst, q⟩
    have hu := hu_of hr
    refine ⟨_, (pss_cons (ps_if (pt_not (pt_val (pe_callB (call_isiK2 (K := K) rfl) (by rfl) T.b_isinstance bt_isinstance (pa_cons (pv 3) (pa_cons (pe_bltn (v := .ty "dict") (by rfl) T.b_dict bt_dict rfl) pa_nil))))) (pss_one (ps_ret pe_bl)) pss_nil)
  (pss_cons (ps_set (i := 4) (sc_are_stops).nd rfl (.inl rfl) (pe_callTy (call_dictPK (K := K) rfl rfl) (by rfl) T.b_dict bt_dict (pa_cons (pv 1) pa_nil)))
  (pss_cons (ps_lock (ps_for PassesOwn.never rfl (pi_items (pv 3)) (pg_tupK (K := K) rfl rfl (pgs_cons (pg_name (i := 5) (sc_are_stops).nd rfl (.inl rfl)) (pgs_cons (pg_name (i := 6) (sc_are_stops).nd rfl (.inl rfl)) pgs_nil))) (pss_cons (ps_if (PW.pt (pw_or (pt_not (pt_val (pe_callD (ok_is_within T) hr (by decide) (by rfl) (pa_cons (pv 5) (pa_cons pe_int (pa_cons (pe_methD0 (ok_Rig_many T) T.cls_Rig hr (by decide) (pv 0)) pa_nil)))))) (pw_or (pt_cmp (pc_dnotin hu (pv 5) (pv 4))) (pw_or1 (pt_not (pt_val (pe_callD (ok_leads T) hr (by decide) (by rfl) (pa_cons (pv 0) (pa_cons (pv 6) (pa_cons pe_int (pa_cons (pv 5) pa_nil))))))))))) (pss_one (ps_ret pe_bl)) pss_nil)
  (pss_cons (ps_set (i := 7) (sc_are_stops).nd rfl (.inl rfl) (pe_op op_sub pe_int (pe_callD (ok_sum_of T) hr (by decide) (by rfl) (pa_cons (pv 0) (pa_cons (pv 6) pa_nil)))))
  (pss_one (ps_if (PW.pt (pw_or (pt_cmpR op_le (pv 7) (pe_dget hu (pv 4) (pv 5) (fun _ _ => rfl)) (nomark _)) (pw_or1 (pt_cmpR op_ne (pe_ix (ix_listK (K := K) rfl) (pv 2) (pe_op op_sub (pv 5) pe_int) (fun _ _ => rfl)) (pv 7) (nomark _))))) (pss_one (ps_ret pe_bl)) pss_nil))))))
  (pss_one (ps_ret pe_bl))))), ?_⟩
    obtain ⟨as, hl, hts⟩ := hs
    obtain ⟨es0, hd, hps⟩ := hst
    refine ⟨_, rfl, _, .ty "dict", .type "dict", .type "dict", _, rfl, .ty _, .base (.dK (hd)), kt_dd, true, rfl, iteF ?_⟩
    refine ⟨_, rfl, l, as, gkv V.int ss, rfl, SqL.of hl, pair_slips hts, fun e he => ?_⟩
    rw [show mergeK [] (gkv V.int ss) = gkv V.int ss from merge_gkv V.int ss [] hw.1]
    have s1 : Same H (upd H e (.dK (gkv V.int ss))) := same_upd he
    have he1 : (upd H e (.dK (gkv V.int ss))) e = some (.dK (gkv V.int ss)) := upd_same
    have hed : e ≠ d := (ne_of_none hd he).symm
    revert s1 he1
    generalize upd H e (.dK (gkv V.int ss)) = H1
    intro s1 he1
    have hd1 := s1 _ _ hd
    refine ⟨d, _, hd1, trivial, fun od => ?_⟩
    generalize hHf : upd H1 d (.frz od (.dK (gkv V.ref es0))) = Hf
    have hnod : Same (RF.nod H1) Hf := by rw [← hHf]; exact nod_upd hd1
    have hgf : RigA K Hf g n rs := (hg.same s1).nod.same hnod
    have hef : Hf e = some (.dK (gkv V.int ss)) := by rw [← hHf, upd_ne hed]; exact he1
    have hdf : Hf d = some (.frz od (.dK (gkv V.ref es0))) := by rw [← hHf]; exact upd_same
    have hFf : Hf hf = some (.lst (F.map V.int)) := hnod _ _ (nod_lst (s1 _ _ hF))
    have hlst : ∀ a xs, H a = some (.lst xs) → Hf a = some (.lst xs) := fun a xs z => hnod _ _ (nod_lst (s1 _ _ z))
    have back : ∀ H2, Same Hf H2 → Same H (upd H2 d (.dK (gkv V.ref es0))) := fun H2 s2 => s1.trans (same_frz hd1 (by rw [hHf]; exact s2))
    refine ⟨_, rfl, d, od, _, rfl, hdf, ?_⟩
    refine for_gen (n := sts.length) (fun i σ H2 => ∃ v5 v6 v7, σ = [some (.ref g), some (.ref l), some (.ref hf), some (.ref d), some (.ref e), v5, v6, v7] ∧ Same Hf H2 ∧ ∀ st ∈ sts.take i, StG rs n ss F st)
      ⟨_, _, _, rfl, Same.refl _, fun st z => by simp at z⟩ (fun i σ H2 hi p => ?_) (fun i x σ H2 H3 hi p y => ?_) (fun σ H2 p => ?_)
    · obtain ⟨_, _, _, _, s2, _⟩ := p
      exact ⟨s2 _ _ hdf, by rw [gkv_len, hps.length]; exact hi⟩
    · obtain ⟨v5, v6, v7, rfl, s2, hgd⟩ := p
      obtain ⟨Tp, k, v, hkv, rfl, hT, rfl⟩ := y
      obtain ⟨⟨c0, a⟩, hp, hkveq⟩ := gkv_get hkv
      cases hkveq
      obtain ⟨⟨c, cs⟩, hsi, hc0, ha, hlen⟩ := paired_get hps hp
      have hc0 : c0 = c := hc0
      subst hc0
      have hmem := List.mem_of_getElem? hsi
      have s3 : Same H2 (upd H2 Tp (.tup [kV (Sum.inl c0), .ref a])) := same_upd hT
      refine ⟨Tp, _, rfl, SqT.of upd_same, rfl, _, _, rfl, _, _, rfl, rfl, ?_⟩
      revert s3
      generalize upd H2 Tp (.tup [kV (Sum.inl c0), .ref a]) = H3
      intro s3
      have sf3 := s2.trans s3
      have ha3 := sf3 _ _ (hlst _ _ ha)
      have hg3 := hgf.same sf3
      have he3 := sf3 _ _ hef
      obtain ⟨dx, t, as1, hg1, ht, hts1⟩ := id hg3
      have bad : ¬ StG rs n ss F (c0, cs) → ∀ H4, Same Hf H4 → H4 d = some (.frz od (.dK (gkv V.ref es0))) ∧ Q (.bl false) (upd H4 d (.dK (gkv V.ref es0))) := fun hb H4 s4 =>
        ⟨s4 _ _ hdf, q _ _ (back _ s4) ⟨fun z => (by cases z), fun z => absurd (z _ hmem) hb⟩⟩
      refine ⟨_, rfl, _, rfl, g, dx, _, rfl, hg1, rigF_m1 _ _, g, n, rs, rfl, hg3, c0, 1, n, rfl, _, rfl, ?_⟩
      by_cases hin : 1 ≤ c0 ∧ c0 ≤ (n : Int)
      · rw [decide_eq_true hin]
        refine iteF ?_
        refine ⟨_, rfl, _, rfl, e, _, rfl, DGet.k (k := Sum.inl c0) he3, _, rfl, ?_⟩
        rw [gkv_val]
        cases hlk : lkp ss c0 with
        | none => exact iteT (bad (fun z => by
            obtain ⟨_, _, to, h, _⟩ := z
            have h : lkp ss c0 = some to := h
            rw [hlk] at h; cases h) _ sf3)
        | some to =>
          refine iteF ?_
          refine ⟨_, rfl, _, rfl, _, rfl, g, n, rs, a, cs, 0, c0, rfl, hg3, ha3, Nat.le_trans hlen (by decide), h60, fun H4 b s4 hb => ?_⟩
          have sf4 := sf3.trans s4
          refine ⟨_, rfl, ?_⟩
          cases b with
          | false => exact iteT (bad (fun z => by have := hb.mpr z.2.1; cases this) _ sf4)
          | true =>
            obtain ⟨hcne, hch⟩ := hb.mp rfl
            refine iteF ?_
            refine ⟨_, rfl, _, rfl, g, n, rs, a, cs, rfl, hg3.same s4, s4 _ _ ha3, Nat.le_trans hlen (by decide), h60, isCh_of hch hcne, fun H5 s5 => ?_⟩
            have sf5 := sf4.trans s5
            refine ⟨_, _, rfl, rfl, ?_⟩
            refine ⟨_, rfl, _, rfl, _, rfl, e, .int to, rfl, (by rw [show some (V.int to) = valV (gkv V.int ss) (Sum.inl c0 : Key) by rw [gkv_val, hlk]; rfl]; exact DGet.k (k := Sum.inl c0) (sf5 _ _ hef)), _, _, rfl, rfl, _, rfl, ?_⟩
            by_cases hle : 0 - chSum rs cs ≤ to
            · rw [decide_eq_true hle]
              exact iteT (bad (fun z => by
                obtain ⟨_, _, to', h, h2, _⟩ := z
                have h : lkp ss c0 = some to' := h
                rw [hlk] at h; cases h
                exact h2 hle) _ sf5)
            · rw [decide_eq_false hle]
              refine iteF ?_
              refine ⟨_, rfl, _, rfl, _, _, rfl, rfl, hf, _, _, .int (hAt F c0), rfl, rfl, SqL.of (sf5 _ _ hFf), hAt_at hFl hin.1 hin.2, _, rfl, rfl, _, rfl, ?_⟩
              by_cases hfe : hAt F c0 = 0 - chSum rs cs
              · rw [decide_eq_true (show V.int (hAt F c0) = V.int (0 - chSum rs cs) by rw [hfe])]
                refine iteF ⟨_, _, _, rfl, sf5, fun st hst => ?_⟩
                rw [List.take_add_one, hsi] at hst
                rcases List.mem_append.mp hst with z | z
                · exact hgd st z
                · have z : st = (c0, cs) := by simpa using z
                  subst z
                  exact ⟨hin, ⟨hcne, hch⟩, to, hlk, hle, hfe⟩
              · rw [decide_eq_false (fun z => hfe (V.int.inj z))]
                exact iteT (bad (fun z => by
                  obtain ⟨_, _, to', h, h2, h3⟩ := z
                  exact hfe h3) _ sf5)
      · rw [decide_eq_false hin]
        exact iteT (bad (fun z => hin z.1) _ sf3)
    · obtain ⟨v5, v6, v7, rfl, s2, hgd⟩ := p
      rw [List.take_length] at hgd
      have hd2 := s2 _ _ hdf
      exact ⟨⟨hd2, by rw [gkv_len, hps.length]; exact Nat.le_refl _⟩, hd2, q _ _ (back _ s2) ⟨fun _ => hgd, fun _ => rfl⟩⟩
end
end RF
/-! ## A20 -/
set_option Elab.async false
set_option linter.all false
set_option maxRecDepth 100000
set_option maxHeartbeats 4000000
namespace RF
open PySem PySem.Spec PyProof.Rows L2
section
variable {P : Program} {w : World} {K : PySem.W.Frag} {mg : Str → Option Value} {base : Heap}
/-- a told reason, for the check -/
def PullG (rs : List Rp) (F : List Int) (dn : List Int) (E : Int → Option Int) (c : Int) : Option Int → Prop
  | none => ∃ e, E c = some e ∧ hAt F c = e
  | some k => (0 ≤ k ∧ k ≤ (rs.length : Int) - 1) ∧ (rowOf rs k).1 = c ∧ (rowOf rs k).2.1 ∈ dn ∧ (rowOf rs k).2.2 - hAt F (rowOf rs k).1 + hAt F (rowOf rs k).2.1 = 0
def sp_is_pull (K : PySem.W.Frag) : Sp := fun vs H Q _ => ∃ (g hf D e : Addr) (n : Nat) (rs : List Rp) (F dn : List Int) (es : List (Int × Int)) (c : Int) (x : Option Int), vs = [.ref g, .ref hf, .ref D, .ref e, .int c, optV x] ∧ RigA K H g n rs ∧ WfR n rs ∧ n ≤ 8 ∧ rs.length ≤ 60 ∧
  H hf = some (.lst (F.map V.int)) ∧ F.length = n ∧ H D = some (.lst (dn.map V.int)) ∧ H e = some (.dK (gkv V.int es)) ∧ 1 ≤ c ∧ c ≤ (n : Int) ∧ ∀ H' b, Same H H' → (b = true ↔ PullG rs F dn (lkp es) c x) → Q (.bl b) H'
abbrev N_is_pull : List Str := ["rig", "heights", "down", "ends", "climber", "number", "rope"]
theorem sc_is_pull : FnScope N_is_pull ["rig", "heights", "down", "ends", "climber", "number"] (defScope s_is_pull) := ⟨rfl, rfl, rfl, by decide +kernel, rfl, by decide +kernel, by decide +kernel⟩
theorem ok_is_pull (T : TX K mg) : Okd P w K mg base 4 "is_pull" ["rig", "heights", "down", "ends", "climber", "number"] (sp_is_pull K) := by
  obtain ⟨fd, F⟩ := T.d_is_pull
  refine okd_of F T.g_is_pull sc_is_pull (fun _ _ _ _ _ _ us hl => match us, hl with | [_, _, _, _, _, _], _ => rfl) ?_ ?_
  · rintro vs H Q E ⟨g, hf, D, e, n, rs, F, dn, es, c, x, rfl, _⟩; rfl
  · rintro cdv A outer s H vs Q E hr ⟨g, hf, D, e, n, rs, F, dn, es, c, x, rfl, hg, hw, h8, h60, hF, hFl, hD, he, hc1, hc2, q⟩
    have hu := hu_of hr
    refine ⟨_, (pss_cons (ps_if (pt_cmpR op_isN (pv 5) pe_non (nomark _)) (pss_one (ps_ret (pe_and (pe_cmp (pc_din hu (pv 4) (pv 3)) rfl) (pe_one (pe_cmpR op_eq (pe_ix (ix_listK (K := K) rfl) (pv 1) (pe_op op_sub (pv 4) pe_int) (fun _ _ => rfl)) (pe_dget hu (pv 3) (pv 4) (fun _ _ => rfl)) (nomark _)))))) pss_nil)
  (pss_cons (ps_if (pt_not (pt_val (pe_callD (ok_is_within T) hr (by decide) (by rfl) (pa_cons (pv 5) (pa_cons pe_int (pa_cons (pe_op op_sub (pe_callB (call_lenO (ok_Rig_len T) hr (by decide)) (by rfl) T.b_len bt_len (pa_cons (pv 0) pa_nil)) pe_int) pa_nil)))))) (pss_one (ps_ret pe_bl)) pss_nil)
  (pss_cons (ps_set (i := 6) (sc_is_pull).nd rfl (.inl rfl) (pe_methD (ok_Rig_rope T) T.cls_Rig hr (by decide) (pv 0) (pa_cons (pv 5) pa_nil)))
  (pss_one (ps_ret (pe_and (pe_cmpR op_eq (pe_ix (ix_tupK (K := K) rfl) (pv 6) pe_int (fun _ _ => rfl)) (pv 4) (nomark _)) (pe_and (pe_cmpR (op_in_seqK (K := K) rfl) (pe_ix (ix_tupK (K := K) rfl) (pv 6) pe_int (fun _ _ => rfl)) (pv 2) (by rfl)) (pe_one (pe_cmpR op_eq (pe_callD (ok_room_by T) hr (by decide) (by rfl) (pa_cons (pv 6) (pa_cons (pv 1) pa_nil))) pe_int (nomark _)))))))))), ?_⟩
    cases x with
    | none =>
      refine ⟨_, rfl, rfl, _, rfl, iteT ?_⟩
      refine ⟨_, rfl, _, rfl, e, _, rfl, DGet.k (k := Sum.inl c) he, _, rfl, ?_⟩
      rw [gkv_val]
      cases hlk : lkp es c with
      | none => exact iteF (q H _ (Same.refl _) ⟨fun z => (by cases z), fun ⟨e', z, _⟩ => by rw [hlk] at z; cases z⟩)
      | some e' =>
        refine iteT ?_
        refine ⟨_, rfl, _, rfl, _, _, rfl, rfl, hf, _, _, .int (hAt F c), rfl, rfl, SqL.of hF, hAt_at hFl hc1 hc2, _, rfl, _, rfl, e, .int e', rfl, (by rw [show some (V.int e') = valV (gkv V.int es) (Sum.inl c : Key) by rw [gkv_val, hlk]; rfl]; exact DGet.k (k := Sum.inl c) he), rfl, ?_⟩
        refine q H _ (Same.refl _) ⟨fun z => ⟨e', hlk, V.int.inj (of_decide_eq_true z)⟩, fun ⟨e2, z, h⟩ => ?_⟩
        rw [hlk] at z
        cases z
        exact decide_eq_true (by rw [h])
    | some k =>
      refine ⟨_, rfl, rfl, _, rfl, iteF ?_⟩
      obtain ⟨dx, t, as, hg1, ht, hts⟩ := id hg
      refine ⟨_, rfl, _, rfl, g, dx, _, rfl, hg1, g, n, rs, rfl, hg, rs.length, rfl, by omega, by omega, _, _, rfl, rfl, k, 0, (rs.length : Int) - 1, rfl, _, rfl, ?_⟩
      by_cases hin : 0 ≤ k ∧ k ≤ (rs.length : Int) - 1
      · rw [decide_eq_true hin]
        refine iteF ?_
        refine ⟨_, rfl, g, dx, _, rfl, hg1, rigF_m3 _ _, _, rfl, g, n, rs, k, rowOf rs k, rfl, hg, hin.1, row_get hin.1 hin.2, fun a ha => ?_⟩
        obtain ⟨hk1, hk2, _⟩ := hw _ (List.mem_of_getElem? (row_get hin.1 hin.2))
        have hP : PullG rs F dn (lkp es) c (some k) ↔ (rowOf rs k).1 = c ∧ (rowOf rs k).2.1 ∈ dn ∧ (rowOf rs k).2.2 - hAt F (rowOf rs k).1 + hAt F (rowOf rs k).2.1 = 0 := ⟨fun z => z.2, fun z => ⟨hin, z⟩⟩
        revert ha hk1 hk2 hP
        generalize rowOf rs k = r
        obtain ⟨u, lo, m⟩ := r
        intro ha hk1 hk2 hP
        refine ⟨_, rfl, a, _, 0, .int u, rfl, rfl, SqT.of ha, rfl, _, rfl, rfl, _, rfl, ?_⟩
        by_cases hu1 : u = c
        · rw [decide_eq_true (by rw [hu1])]
          refine iteT ?_
          refine ⟨_, rfl, a, _, 1, .int lo, rfl, rfl, SqT.of ha, rfl, _, rfl, D, _, rfl, .inl (SqL.of hD), rfl, flat_ints _, _, rfl, ?_⟩
          show if inV (.int lo) (dn.map V.int) = true then _ else _
          rw [inV_ints]
          refine ite2 (fun e1 => ?_) (fun e1 => ?_)
          · have e1 : lo ∈ dn := of_decide_eq_true e1
            refine ⟨_, rfl, _, rfl, a, hf, (u, lo, m), F, rfl, ha, hF, by rw [hFl]; exact hk1, by rw [hFl]; exact hk2, by omega, fun H5 s5 => ?_⟩
            refine ⟨rfl, ?_⟩
            exact q H5 _ s5 (Iff.trans ⟨fun z => ⟨hu1, e1, V.int.inj (of_decide_eq_true z)⟩, fun z => decide_eq_true (congrArg V.int z.2.2)⟩ hP.symm)
          · have e1 : ¬ lo ∈ dn := fun z => e1 (decide_eq_true z)
            exact q H _ (Same.refl _) (Iff.trans ⟨fun z => (by cases z), fun z => absurd z.2.1 e1⟩ hP.symm)
        · rw [decide_eq_false (fun z => hu1 (V.int.inj z))]
          exact iteF (q H _ (Same.refl _) (Iff.trans ⟨fun z => (by cases z), fun z => absurd z.1 hu1⟩ hP.symm))
      · rw [decide_eq_false hin]
        exact iteT (q H _ (Same.refl _) ⟨fun z => (by cases z), fun z => absurd z.1 hin⟩)
/-- one step from who fell to who pulled -/
def stepP (rs : List Rp) (pls : List (Int × Option Int)) (c : Int) : Int := match lkp pls c with
  | some (some k) => (rowOf rs k).2.1
  | _ => c
def iterP (rs : List Rp) (pls : List (Int × Option Int)) : Nat → Int → Int
  | 0, c => c
  | t + 1, c => stepP rs pls (iterP rs pls t c)
theorem iter_in {rs : List Rp} {pls : List (Int × Option Int)} {dn : List Int} (h : ∀ p ∈ pls, ∀ k, p.2 = some k → (rowOf rs k).2.1 ∈ dn) {c : Int} (hc : c ∈ dn) : ∀ t, iterP rs pls t c ∈ dn
  | 0 => hc
  | t + 1 => by
    have ih := iter_in h hc t
    show stepP rs pls (iterP rs pls t c) ∈ dn
    unfold stepP
    split
    · rename_i k e
      exact h _ (lkp_mem e) k rfl
    · exact ih
open Classical in
noncomputable def pullB (rs : List Rp) (F dn : List Int) (E : Int → Option Int) (p : Int × Option Int) : Bool := decide (PullG rs F dn E p.1 p.2)
open Classical in
theorem pullB_iff {rs : List Rp} {F dn : List Int} {E : Int → Option Int} {p : Int × Option Int} : pullB rs F dn E p = true ↔ PullG rs F dn E p.1 p.2 := by
  unfold pullB
  exact decide_eq_true_iff
theorem sorted_eq {xs ys : List Int} (h : ys.Perm xs) (hs : ys.Pairwise (· ≤ ·)) (hx : xs.Pairwise (· < ·)) : ys = xs :=
  h.eq_of_pairwise (le := (· ≤ ·)) (fun a b _ _ h1 h2 => Int.le_antisymm h1 h2) hs (hx.imp fun z => Int.le_of_lt z)
theorem key_of {pls : List (Int × Option Int)} {dn : List Int} (hk : pls.map Prod.fst = dn) {c : Int} (hc : c ∈ dn) : ∃ x, lkp pls c = some x := by
  cases q : lkp pls c with
  | some x => exact ⟨x, rfl⟩
  | none => exact absurd (by rw [hk]; exact hc) (lkp_none.mp q)
def PullsG (rs : List Rp) (F dn : List Int) (E : Int → Option Int) (pls : List (Int × Option Int)) : Prop := (∀ p ∈ pls, PullG rs F dn E p.1 p.2) ∧ ∀ c ∈ dn, lkp pls (iterP rs pls dn.length c) = some none
def sp_are_pulls (K : PySem.W.Frag) : Sp := fun vs H Q _ => ∃ (g hf D e pd : Addr) (n : Nat) (rs : List Rp) (F dn : List Int) (es : List (Int × Int)) (pls : List (Int × Option Int)), vs = [.ref g, .ref hf, .ref D, .ref e, .ref pd] ∧ RigA K H g n rs ∧ WfR n rs ∧ n ≤ 8 ∧ rs.length ≤ 60 ∧
  H hf = some (.lst (F.map V.int)) ∧ F.length = n ∧ H D = some (.lst (dn.map V.int)) ∧ dn.Pairwise (· < ·) ∧ (∀ c ∈ dn, 1 ≤ c ∧ c ≤ (n : Int)) ∧ H e = some (.dK (gkv V.int es)) ∧ H pd = some (.dK (gkv optV pls)) ∧ pls.map Prod.fst = dn ∧ e ≠ pd ∧
  ∀ H' b, Same H H' → (b = true ↔ PullsG rs F dn (lkp es) pls) → Q (.bl b) H'
abbrev N_are_pulls : List Str := ["rig", "heights", "down", "ends", "thing", "climber", "number", "now", "turn"]
theorem sc_are_pulls : FnScope N_are_pulls ["rig", "heights", "down", "ends", "thing"] (defScope s_are_pulls) := ⟨rfl, rfl, rfl, by decide +kernel, rfl, by decide +kernel, by decide +kernel⟩
theorem ok_are_pulls (T : TX K mg) : Okd P w K mg base 5 "are_pulls" ["rig", "heights", "down", "ends", "thing"] (sp_are_pulls K) := by
  obtain ⟨fd, F⟩ := T.d_are_pulls
  refine okd_of F T.g_are_pulls sc_are_pulls (fun _ _ _ _ _ _ us hl => match us, hl with | [_, _, _, _, _], _ => rfl) ?_ ?_
  · rintro vs H Q E ⟨g, hf, D, e, pd, n, rs, F, dn, es, pls, rfl, _⟩; rfl
  · rintro cdv A outer s H vs Q E hr ⟨g, hf, D, e, pd, n, rs, F, dn, es, pls, rfl, hg, hw, h8, h60, hF, hFl, hD, hsrt, hrg, he, hpd, hks, hep, q⟩
    have hu := hu_of hr
    refine ⟨_, (pss_cons (ps_if (PW.pt (pw_or (pt_not (pt_val (pe_callB (call_isiK2 (K := K) rfl) (by rfl) T.b_isinstance bt_isinstance (pa_cons (pv 4) (pa_cons (pe_bltn (v := .ty "dict") (by rfl) T.b_dict bt_dict rfl) pa_nil))))) (pw_or1 (pt_not (pt_val (pe_callB (cr_allK (K := K) rfl rfl) (by rfl) T.b_all bt_all (pa_cons (pe_lock (pe_lc (own := [("climber", 5)]) (g := gName 5) rfl (sc_are_pulls).nd (pi_keys (pv 4)) (blkOk_by (N := N_are_pulls) (sc := defScope s_are_pulls) (own := [("climber", 5)]) (by decide +kernel)) (fun _ _ _ _ _ => (pg_name (i := 5) (sc_are_pulls).nd rfl (.inl rfl))) (fun _ _ _ _ _ => pts_nil) (fun _ _ _ _ _ => (pe_callD (ok_is_within T) hr (by decide) (by rfl) (pa_cons (pv 5) (pa_cons pe_int (pa_cons (pe_methD0 (ok_Rig_many T) T.cls_Rig hr (by decide) (pv 0)) pa_nil))))))) pa_nil))))))) (pss_one (ps_ret pe_bl)) pss_nil)
  (pss_cons (ps_if (pt_cmpR (op_neIK (K := K) rfl hr.units) (pe_callB (call_sortedDI rfl) (by rfl) T.b_sorted bt_sorted (pa_cons (pv 4) pa_nil)) (pv 2) (nomark _)) (pss_one (ps_ret pe_bl)) pss_nil)
  (pss_cons (ps_if (pt_not (pt_val (pe_callB (cr_allK (K := K) rfl rfl) (by rfl) T.b_all bt_all (pa_cons (pe_lock (pe_lc (own := [("climber", 5), ("number", 6)]) (g := gTup K 2 (gCons (gName 5) (gCons (gName 6) (gNil)))) rfl (sc_are_pulls).nd (pi_items (pv 4)) (blkOk_by (N := N_are_pulls) (sc := defScope s_are_pulls) (own := [("climber", 5), ("number", 6)]) (by decide +kernel)) (fun _ _ _ _ _ => (pg_tupK (K := K) rfl rfl (pgs_cons (pg_name (i := 5) (sc_are_pulls).nd rfl (.inl rfl)) (pgs_cons (pg_name (i := 6) (sc_are_pulls).nd rfl (.inl rfl)) pgs_nil)))) (fun _ _ _ _ _ => pts_nil) (fun _ _ _ _ _ => (pe_callD (ok_is_pull T) hr (by decide) (by rfl) (pa_cons (pv 0) (pa_cons (pv 1) (pa_cons (pv 2) (pa_cons (pv 3) (pa_cons (pv 5) (pa_cons (pv 6) pa_nil)))))))))) pa_nil)))) (pss_one (ps_ret pe_bl)) pss_nil)
  (pss_cons (ps_for PassesOwn.never rfl (pi_listK (K := K) rfl (pv 2)) (pg_name (i := 5) (sc_are_pulls).nd rfl (.inl rfl)) (pss_cons (ps_set (i := 7) (sc_are_pulls).nd rfl (.inl rfl) (pv 5))
  (pss_cons (ps_for PassesOwn.never rfl (pi_range1 (by rfl) T.b_range (pa_cons (pe_callB (call_len_seqK (K := K) rfl) (by rfl) T.b_len bt_len (pa_cons (pv 2) pa_nil)) pa_nil)) (pg_name (i := 8) (sc_are_pulls).nd rfl (.inl rfl)) (pss_one (ps_set (i := 7) (sc_are_pulls).nd rfl (.inl rfl) (pe_ifExp (pt_cmpR op_isN (pe_dget hu (pv 4) (pv 7) (fun _ _ => rfl)) pe_non (nomark _)) (pv 7) (pe_ix (ix_tupK (K := K) rfl) (pe_methD (ok_Rig_rope T) T.cls_Rig hr (by decide) (pv 0) (pa_cons (pe_dget hu (pv 4) (pv 7) (fun _ _ => rfl)) pa_nil)) pe_int (fun _ _ => rfl))))))
  (pss_one (ps_if (pt_cmpR op_notN (pe_dget hu (pv 4) (pv 7) (fun _ _ => rfl)) pe_non (nomark _)) (pss_one (ps_ret pe_bl)) pss_nil)))))
  (pss_one (ps_ret pe_bl)))))), ?_⟩
    have hdl : dn.length ≤ 8 := by
      have h1 := nodup_sub dn ((List.range n).map fun i : Nat => ((i : Int) + 1)) (hsrt.imp fun h => by omega) fun c hc => List.mem_map.mpr ⟨(c - 1).toNat, List.mem_range.mpr (by have := hrg c hc; omega), by have := hrg c hc; omega⟩
      rw [List.length_map, List.length_range] at h1
      omega
    have hpl : pls.length = dn.length := by rw [← hks, List.length_map]
    have hget : ∀ {i : Nat}, i < pls.length → ∃ p, pls[i]? = some p ∧ p.1 ∈ dn := fun {i} hi => ⟨pls[i], List.getElem?_eq_getElem hi, by rw [← hks]; exact List.mem_map.mpr ⟨_, List.getElem_mem hi, rfl⟩⟩
    refine ⟨_, rfl, _, .ty "dict", .type "dict", .type "dict", _, rfl, .ty _, .base (.dK (hpd)), kt_dd, true, rfl, iteF ?_⟩
    refine ⟨pd, _, hpd, trivial, fun od => ?_⟩
    generalize hHf : upd H pd (.frz od (.dK (gkv optV pls))) = Hf
    have hnod : Same (RF.nod H) Hf := by rw [← hHf]; exact nod_upd hpd
    have hgf : RigA K Hf g n rs := hg.nod.same hnod
    have hpf : Hf pd = some (.frz od (.dK (gkv optV pls))) := by rw [← hHf]; exact upd_same
    obtain ⟨dx, t, as, hg1, ht, hts⟩ := id hgf
    refine ⟨_, rfl, pd, od, rfl, .inl ⟨_, hpf, fun B hB => ?_⟩⟩
    refine lc_gen (n := pls.length) (fun _ => some (V.bl true)) (Nat.le_trans (show pls.length ≤ 100 by omega) (by decide)) hB (fun i H' hi sm => ⟨sm _ _ hpf, by rw [gkv_len]; exact hi⟩) (fun H' sm => ⟨sm _ _ hpf, by rw [gkv_len]; exact Nat.le_refl _⟩) (fun i x H2 H3 Qt Qf hi sm y k1 k2 => ?_) (fun H2 sm hd2 => ?_)
    · obtain ⟨rfl, k, v, hkv, rfl⟩ := y
      obtain ⟨⟨c, x⟩, hp, e1⟩ := gkv_get hkv
      cases e1
      obtain ⟨p', hp', hcd⟩ := hget hi
      rw [hp] at hp'
      cases hp'
      have hr1 := hrg c hcd
      refine ⟨rfl, _, rfl, _, rfl, g, dx, _, rfl, sm _ _ hg1, rigF_m1 _ _, g, n, rs, rfl, hgf.same sm, c, 1, n, rfl, ?_⟩
      rw [decide_eq_true hr1]
      exact k1 _ _ rfl (Same.refl _)
    · rw [fm_bools (p := fun _ => true) _ (fun i _ => rfl)] at hd2
      have ea : ((List.range pls.length).map fun _ => true).all id = true := (all_range _ _).mpr fun _ _ => rfl
      refine ⟨sm _ _ hpf, ?_⟩
      have hBp : B ≠ pd := (ne_of_none hpf hB).symm
      have s1 : Same H (upd H2 pd (.dK (gkv optV pls))) := same_frz hpd (by rw [hHf]; exact sm)
      have hB1 : (upd H2 pd (.dK (gkv optV pls))) B = some (.lst (((List.range pls.length).map fun _ => true).map V.bl)) := by rw [upd_ne hBp]; exact hd2
      revert s1 hB1
      generalize upd H2 pd (.dK (gkv optV pls)) = H1
      intro s1 hB1
      refine ⟨B, _, rfl, SqL.of hB1, _, rfl, ?_⟩
      rw [ea]
      refine iteF ?_
      -- sorted(thing) != down
      refine ⟨_, rfl, pd, _, dn, rfl, .inl (s1 _ _ hpd), ?_, by omega, fun ys p hperm hys hp => ?_⟩
      · rw [← hks]
        unfold gkv
        rw [List.map_map, List.map_map]
        rfl
      have s2 : Same H (upd H1 p (.lst (ys.map V.int))) := s1.trans (same_upd hp)
      refine ⟨_, rfl, p, D, ys, dn, rfl, rfl, SqL.of upd_same, SqL.of (s2 _ _ hD), _, rfl, ?_⟩
      rw [decide_eq_true (sorted_eq hperm hys hsrt)]
      refine iteF ?_
      revert s2
      generalize upd H1 p (.lst (ys.map V.int)) = H2
      intro s2
      -- all the reasons
      have hpd2 := s2 _ _ hpd
      refine ⟨pd, _, hpd2, trivial, fun od2 => ?_⟩
      generalize hHg : upd H2 pd (.frz od2 (.dK (gkv optV pls))) = Hg
      have hng : Same (RF.nod H2) Hg := by rw [← hHg]; exact nod_upd hpd2
      have hgg : RigA K Hg g n rs := (hg.same s2).nod.same hng
      have hpg : Hg pd = some (.frz od2 (.dK (gkv optV pls))) := by rw [← hHg]; exact upd_same
      have hFg : Hg hf = some (.lst (F.map V.int)) := hng _ _ (nod_lst (s2 _ _ hF))
      have hDg : Hg D = some (.lst (dn.map V.int)) := hng _ _ (nod_lst (s2 _ _ hD))
      have heg : Hg e = some (.dK (gkv V.int es)) := by rw [← hHg, upd_ne hep]; exact s2 _ _ he
      refine ⟨_, rfl, pd, od2, _, rfl, hpg, fun B2 hB2 => ?_⟩
      refine lc_gen (n := pls.length) (fun i => (pls[i]?).map fun p => V.bl (pullB rs F dn (lkp es) p)) (Nat.le_trans (show pls.length ≤ 100 by omega) (by decide)) hB2 (fun i H' hi sm => ⟨sm _ _ hpg, by rw [gkv_len]; exact hi⟩) (fun H' sm => ⟨sm _ _ hpg, by rw [gkv_len]; exact Nat.le_refl _⟩) (fun i x H3 H4 Qt Qf hi sm y k1 k2 => ?_) (fun H3 sm hd3 => ?_)
      · obtain ⟨Tp, k, v, hkv, rfl, hT, rfl⟩ := y
        obtain ⟨⟨c, x⟩, hp, e1⟩ := gkv_get hkv
        cases e1
        obtain ⟨p', hp', hcd⟩ := hget hi
        rw [hp] at hp'
        cases hp'
        have hr1 := hrg c hcd
        refine ⟨Tp, _, rfl, SqT.of upd_same, rfl, _, _, rfl, _, _, rfl, rfl, rfl, ?_⟩
        have s4 : Same H3 (upd H3 Tp (.tup [kV (Sum.inl c), optV x])) := same_upd hT
        have sg := sm.trans s4
        refine ⟨_, rfl, _, rfl, _, rfl, _, rfl, _, rfl, _, rfl, g, hf, D, e, n, rs, F, dn, es, c, x, rfl, hgg.same sg, hw, h8, h60, sg _ _ hFg, hFl, sg _ _ hDg, sg _ _ heg, hr1.1, hr1.2, fun H5 b s5 hb => ?_⟩
        refine k1 _ _ ?_ (s4.trans s5)
        rw [hp]
        show some (V.bl (pullB rs F dn (lkp es) (c, x))) = some (V.bl b)
        congr 2
        rw [Bool.eq_iff_iff]
        exact Iff.trans pullB_iff hb.symm
      · rw [range_map] at hd3
        have hd3 : H3 B2 = some (.lst ((pls.map (pullB rs F dn (lkp es))).map V.bl)) := by rw [hd3, List.map_map]; rfl
        refine ⟨sm _ _ hpg, ?_⟩
        have hBp2 : B2 ≠ pd := (ne_of_none hpg hB2).symm
        have s3 : Same H (upd H3 pd (.dK (gkv optV pls))) := s2.trans (same_frz hpd2 (by rw [hHg]; exact sm))
        have hB3 : (upd H3 pd (.dK (gkv optV pls))) B2 = some (.lst ((pls.map (pullB rs F dn (lkp es))).map V.bl)) := by rw [upd_ne hBp2]; exact hd3
        revert s3 hB3
        generalize upd H3 pd (.dK (gkv optV pls)) = H4
        intro s3 hB3
        refine ⟨B2, _, rfl, SqL.of hB3, _, rfl, ?_⟩
        have hall : (pls.map (pullB rs F dn (lkp es))).all id = true ↔ ∀ p ∈ pls, PullG rs F dn (lkp es) p.1 p.2 := by
          rw [List.all_map, List.all_eq_true]
          exact ⟨fun h p hp => pullB_iff.mp (h p hp), fun h p hp => pullB_iff.mpr (h p hp)⟩
        refine ite2 (fun e2 => ?_) (fun e2 => ?_)
        · refine q H4 _ s3 ⟨fun z => (by cases z), fun z => ?_⟩
          rw [hall.mpr z.1] at e2
          cases e2
        have hP := hall.mp (by
          cases z : (pls.map (pullB rs F dn (lkp es))).all id with
          | true => rfl
          | false => rw [z] at e2; exact absurd rfl e2)
        have hlow : ∀ p ∈ pls, ∀ k, p.2 = some k → (rowOf rs k).2.1 ∈ dn := fun p hp k hk => by
          have := hP p hp
          rw [hk] at this
          exact this.2.2.1
        have hpd4 := s3 _ _ hpd
        have hD4 := s3 _ _ hD
        refine ⟨_, rfl, D, rfl, ⟨_, SqL.of hD4⟩, ?_⟩
        refine for_gen (n := dn.length) (fun i σ H5 => ∃ v5 v6 v7 v8, σ = [some (.ref g), some (.ref hf), some (.ref D), some (.ref e), some (.ref pd), v5, v6, v7, v8] ∧ Same H H5 ∧ ∀ c ∈ dn.take i, lkp pls (iterP rs pls dn.length c) = some none)
          ⟨_, _, _, _, rfl, s3, fun c z => by simp at z⟩ (fun i σ H5 hi p => ?_) (fun i x σ H5 H6 hi p y => ?_) (fun σ H5 p => ?_)
        · obtain ⟨_, _, _, _, _, s5, _⟩ := p
          exact ⟨_, _, SqL.of (s5 _ _ hD), get_map2 (List.getElem?_eq_getElem hi)⟩
        · obtain ⟨v5, v6, v7, v8, rfl, s5, hgd⟩ := p
          obtain ⟨rfl, y⟩ := y
          obtain ⟨c, hc, rfl⟩ := get_map (y _ (SqL.of (s5 _ _ hD)))
          have hcm := List.mem_of_getElem? hc
          refine ⟨_, rfl, _, rfl, D, _, rfl, .inl (SqL.of (s5 _ _ hD)), dn.length, by rw [List.length_map], by omega, by omega, ?_⟩
          rw [show ((dn.length : Nat) : Int).toNat = dn.length from Int.toNat_natCast _]
          refine for_range (n := dn.length) (fun t σ H7 => ∃ v6 v8, σ = [some (.ref g), some (.ref hf), some (.ref D), some (.ref e), some (.ref pd), some (.int c), v6, some (.int (iterP rs pls t c)), v8] ∧ Same H H7)
            ⟨_, _, rfl, s5⟩ ?_ (fun σ H7 p => ?_)
          · rintro t σ H7 ht7 ⟨v6, v8, rfl, s7⟩
            obtain ⟨x, hx⟩ := key_of hks (iter_in hlow hcm t)
            have hgv : ∀ H8, Same H H8 → DGet H8 pd (.int (iterP rs pls t c)) (some (optV x)) := fun H8 s8 => by
              rw [show some (optV x) = valV (gkv optV pls) (Sum.inl (iterP rs pls t c) : Key) by rw [gkv_val, hx]; rfl]
              exact DGet.k (k := Sum.inl (iterP rs pls t c)) (s8 _ _ hpd)
            refine ⟨_, rfl, _, rfl, pd, _, rfl, hgv _ s7, rfl, _, rfl, ?_⟩
            have hst : iterP rs pls (t + 1) c = stepP rs pls (iterP rs pls t c) := rfl
            cases x with
            | none =>
              refine iteT ⟨_, rfl, v6, some (.int (0 + (t : Nat))), ?_, s7⟩
              have hs2 : iterP rs pls (t + 1) c = iterP rs pls t c := by rw [hst]; unfold stepP; rw [hx]
              rw [hs2]; rfl
            | some k =>
              have hPk : PullG rs F dn (lkp es) (iterP rs pls t c) (some k) := hP _ (lkp_mem hx)
              obtain ⟨dx7, t7, as7, hg7, _⟩ := id (hg.same s7)
              refine iteF ⟨_, rfl, g, dx7, _, rfl, hg7, rigF_m3 _ _, _, rfl, _, rfl, pd, _, rfl, hgv _ s7, g, n, rs, k, rowOf rs k, rfl, hg.same s7, hPk.1.1, row_get hPk.1.1 hPk.1.2, fun a ha => ?_⟩
              refine ⟨a, _, 1, .int (rowOf rs k).2.1, rfl, rfl, SqT.of ha, rfl, v6, some (.int (0 + (t : Nat))), ?_, s7⟩
              have hs2 : iterP rs pls (t + 1) c = (rowOf rs k).2.1 := by rw [hst]; unfold stepP; rw [hx]
              rw [hs2]; rfl
          · obtain ⟨v6, v8, rfl, s7⟩ := p
            obtain ⟨x, hx⟩ := key_of hks (iter_in hlow hcm dn.length)
            refine ⟨_, rfl, _, rfl, pd, _, rfl, (by
              rw [show some (optV x) = valV (gkv optV pls) (Sum.inl (iterP rs pls dn.length c) : Key) by rw [gkv_val, hx]; rfl]
              exact DGet.k (k := Sum.inl (iterP rs pls dn.length c)) (s7 _ _ hpd)), rfl, _, rfl, ?_⟩
            cases x with
            | none =>
              refine iteF ⟨_, _, _, _, rfl, s7, fun c' hc' => ?_⟩
              rw [List.take_add_one, hc] at hc'
              rcases List.mem_append.mp hc' with z | z
              · exact hgd c' z
              · have z : c' = c := by simpa using z
                rw [z]; exact hx
            | some k =>
              refine iteT (q H7 false s7 ⟨fun z => (by cases z), fun z => ?_⟩)
              have := z.2 c hcm
              rw [hx] at this
              cases this
        · obtain ⟨v5, v6, v7, v8, rfl, s5, hgd⟩ := p
          rw [List.take_length] at hgd
          exact ⟨⟨_, SqL.of (s5 _ _ hD), by rw [List.length_map]; exact Nat.le_refl _⟩, q H5 true s5 ⟨fun _ => ⟨hP, hgd⟩, fun _ => rfl⟩⟩
end
end RF
/-! ## A21 -/
set_option Elab.async false
set_option linter.all false
set_option maxRecDepth 100000
set_option maxHeartbeats 4000000
namespace RF
open PySem PySem.Spec PyProof.Rows L2
section
variable {P : Program} {w : World} {K : PySem.W.Frag} {mg : Str → Option Value} {base : Heap}
def FallG (rs : List Rp) (n : Nat) (S : List Int) (ss : List (Int × Int)) (F : List Int) (sts : List (Int × List Int)) (pls : List (Int × Option Int)) : Prop :=
  (∀ c : Int, 1 ≤ c → c ≤ n → hAt F c ≤ hAt S c) ∧ (∀ st ∈ sts, StG rs n ss F st) ∧ (∀ c e, endOf rs ss sts c = some e → hAt F c ≤ e) ∧ PullsG rs F (downL S F n) (endOf rs ss sts) pls
/-- a paper: heights, pulls, stops -/
def PaperAt (H : Hp) (t : Addr) (F : List Int) (pls : List (Int × Option Int)) (sts : List (Int × List Int)) : Prop :=
  ∃ hf pd sd : Addr, H t = some (.tup [.ref hf, .ref pd, .ref sd]) ∧ H hf = some (.lst (F.map V.int)) ∧ H pd = some (.dK (gkv optV pls)) ∧ StopsAt H sd sts
theorem PaperAt.same {H H' : Hp} {t : Addr} {F : List Int} {pls : List (Int × Option Int)} {sts : List (Int × List Int)} (h : PaperAt H t F pls sts) (s : Same H H') : PaperAt H' t F pls sts := by
  obtain ⟨hf, pd, sd, h1, h2, h3, h4⟩ := h
  exact ⟨hf, pd, sd, s _ _ h1, s _ _ h2, s _ _ h3, h4.same s⟩
theorem hAt_i {S : List Int} {i : Nat} (h : i < S.length) : S[i]? = some (hAt S (1 + (i : Int))) := by
  rw [List.getElem?_eq_getElem h, hAt_idx (List.getElem?_eq_getElem h)]
def sp_is_fall (K : PySem.W.Frag) : Sp := fun vs H Q _ => ∃ (g h l t : Addr) (n : Nat) (rs : List Rp) (S F : List Int) (ss : List (Int × Int)) (pls : List (Int × Option Int)) (sts : List (Int × List Int)), vs = [.ref g, .ref h, .ref l, .ref t] ∧ RigA K H g n rs ∧ WfR n rs ∧ rs.length ≤ 60 ∧ n ≤ 8 ∧
  H h = some (.lst (S.map V.int)) ∧ S.length = n ∧ Lets rs S ∧ SlipsAt H l ss ∧ WfS n ss ∧ PaperAt H t F pls sts ∧ F.length = n ∧ Lets rs F ∧ pls.map Prod.fst = downL S F n ∧ (sts.map Prod.fst).Nodup ∧
  ∀ H' b, Same H H' → (b = true ↔ FallG rs n S ss F sts pls) → Q (.bl b) H'
abbrev N_is_fall : List Str := ["rig", "stand", "slips", "thing", "heights", "pulls", "stops", "height", "before", "ends", "climber", "end", "down"]
theorem sc_is_fall : FnScope N_is_fall ["rig", "stand", "slips", "thing"] (defScope s_is_fall) := ⟨rfl, rfl, rfl, by decide +kernel, rfl, by decide +kernel, by decide +kernel⟩
theorem ok_is_fall (T : TX K mg) : Okd P w K mg base 9 "is_fall" ["rig", "stand", "slips", "thing"] (sp_is_fall K) := by
  obtain ⟨fd, F⟩ := T.d_is_fall
  refine okd_of F T.g_is_fall sc_is_fall (fun _ _ _ _ _ _ us hl => match us, hl with | [_, _, _, _], _ => rfl) ?_ ?_
  · rintro vs H Q E ⟨g, h, l, t, n, rs, S, F, ss, pls, sts, rfl, _⟩; rfl
  · rintro cdv A outer s H vs Q E hr ⟨g, h, l, t, n, rs, S, F, ss, pls, sts, rfl, hg, hw, h60, h8, hh, hSl, hL, hs, hws, hP, hFl, hLF, hks, hnd, q⟩
    have hu := hu_of hr
    refine ⟨_, (pss_cons (ps_expr (pe_callD (ok_look_at_stand T) hr (by decide) (by rfl) (pa_cons (pv 0) (pa_cons (pv 1) pa_nil))))
  (pss_cons (ps_expr (pe_callD (ok_look_at_slips T) hr (by decide) (by rfl) (pa_cons (pv 0) (pa_cons (pv 2) pa_nil))))
  (pss_cons (ps_if (PW.pt (pw_or (pt_not (pt_val (pe_callB (call_isiK2 (K := K) rfl) (by rfl) T.b_isinstance bt_isinstance (pa_cons (pv 3) (pa_cons (pe_bltn (v := .ty "tuple") (by rfl) T.b_tuple bt_tuple rfl) pa_nil))))) (pw_or (pt_cmpR op_ne (pe_callB (call_len_seqK (K := K) rfl) (by rfl) T.b_len bt_len (pa_cons (pv 3) pa_nil)) pe_int (nomark _)) (pw_or1 (pt_not (pt_val (pe_callD (ok_is_stand T) hr (by decide) (by rfl) (pa_cons (pv 0) (pa_cons (pe_ix (ix_tupK (K := K) rfl) (pv 3) pe_int (fun _ _ => rfl)) pa_nil))))))))) (pss_one (ps_ret pe_bl)) pss_nil)
  (pss_cons (ps_asg (pv 3) (pg_tupK (K := K) rfl rfl (pgs_cons (pg_name (i := 4) (sc_is_fall).nd rfl (.inr rfl)) (pgs_cons (pg_name (i := 5) (sc_is_fall).nd rfl (.inl rfl)) (pgs_cons (pg_name (i := 6) (sc_is_fall).nd rfl (.inl rfl)) pgs_nil)))))
  (pss_cons (ps_if (PW.pt (pw_or (pt_val (pe_callB (cr_anyK (K := K) rfl rfl) (by rfl) T.b_any bt_any (pa_cons (pe_lc (own := [("height", 7), ("before", 8)]) (g := gTup K 2 (gCons (gName 7) (gCons (gName 8) (gNil)))) rfl (sc_is_fall).nd (pi_zipK (K := K) rfl (by rfl) T.b_zip (pa_cons (pv 4) (pa_cons (pv 1) pa_nil))) (blkOk_by (N := N_is_fall) (sc := defScope s_is_fall) (own := [("height", 7), ("before", 8)]) (by decide +kernel)) (fun _ _ _ _ _ => (pg_tupK (K := K) rfl rfl (pgs_cons (pg_name (i := 7) (sc_is_fall).nd rfl (.inl rfl)) (pgs_cons (pg_name (i := 8) (sc_is_fall).nd rfl (.inl rfl)) pgs_nil)))) (fun _ _ _ _ _ => pts_nil) (fun _ _ _ _ _ => (pe_cmpR op_gt (pv 7) (pv 8) (nomark _)))) pa_nil))) (pw_or1 (pt_not (pt_val (pe_callD (ok_are_stops T) hr (by decide) (by rfl) (pa_cons (pv 0) (pa_cons (pv 2) (pa_cons (pv 4) (pa_cons (pv 6) pa_nil)))))))))) (pss_one (ps_ret pe_bl)) pss_nil)
  (pss_cons (ps_set (i := 9) (sc_is_fall).nd rfl (.inl rfl) (pe_callD (ok_ends_by T) hr (by decide) (by rfl) (pa_cons (pv 0) (pa_cons (pv 2) (pa_cons (pv 6) pa_nil)))))
  (pss_cons (ps_if (pt_val (pe_callB (cr_anyK (K := K) rfl rfl) (by rfl) T.b_any bt_any (pa_cons (pe_lock (pe_lc (own := [("climber", 10), ("end", 11)]) (g := gTup K 2 (gCons (gName 10) (gCons (gName 11) (gNil)))) rfl (sc_is_fall).nd (pi_items (pv 9)) (blkOk_by (N := N_is_fall) (sc := defScope s_is_fall) (own := [("climber", 10), ("end", 11)]) (by decide +kernel)) (fun _ _ _ _ _ => (pg_tupK (K := K) rfl rfl (pgs_cons (pg_name (i := 10) (sc_is_fall).nd rfl (.inl rfl)) (pgs_cons (pg_name (i := 11) (sc_is_fall).nd rfl (.inl rfl)) pgs_nil)))) (fun _ _ _ _ _ => pts_nil) (fun _ _ _ _ _ => (pe_cmpR op_gt (pe_ix (ix_listK (K := K) rfl) (pv 4) (pe_op op_sub (pv 10) pe_int) (fun _ _ => rfl)) (pv 11) (nomark _))))) pa_nil))) (pss_one (ps_ret pe_bl)) pss_nil)
  (pss_cons (ps_setLc (i := 12) (own := [("climber", 10)]) (g := gName 10) rfl (sc_is_fall).nd rfl rfl (sw_true rfl rfl rfl (by decide +kernel)) (pi_range2 (by rfl) T.b_range (pa_cons pe_int (pa_cons (pe_op op_add (pe_methD0 (ok_Rig_many T) T.cls_Rig hr (by decide) (pv 0)) pe_int) pa_nil))) (blkOk_by (N := N_is_fall) (sc := defScope s_is_fall) (own := [("climber", 10)]) (by decide +kernel)) (fun _ _ _ _ _ => (pg_name (i := 10) (sc_is_fall).nd rfl (.inl rfl))) (fun _ _ _ _ _ => (pts_one (pt_cmpR op_lt (pe_ix (ix_listK (K := K) rfl) (pv 4) (pe_op op_sub (pv 10) pe_int) (fun _ _ => rfl)) (pe_ix (ix_listK (K := K) rfl) (pv 1) (pe_op op_sub (pv 10) pe_int) (fun _ _ => rfl)) (nomark _)))) (fun _ _ _ _ _ => (pv 10)))
  (pss_one (ps_ret (pe_callD (ok_are_pulls T) hr (by decide) (by rfl) (pa_cons (pv 0) (pa_cons (pv 4) (pa_cons (pv 12) (pa_cons (pv 9) (pa_cons (pv 5) pa_nil)))))))))))))))), ?_⟩
    obtain ⟨hf, pd, sd, ht, hF, hpd, hst⟩ := hP
    refine ⟨_, rfl, _, rfl, g, n, rs, h, S, rfl, hg, hh, hSl, h8, hw, h60, hL, fun H1 s1 => ?_⟩
    refine ⟨_, rfl, _, rfl, g, l, n, rs, ss, rfl, hg.same s1, hs.same s1, hws, h8, fun H2 s2 => ?_⟩
    have s02 := s1.trans s2
    have ht2 := s02 _ _ ht
    refine ⟨_, rfl, _, .ty "tuple", .type "tuple", .type "tuple", _, rfl, .ty _, .base (.tup (ht2)), kt_tt, true, rfl, iteF ?_⟩
    refine ⟨_, rfl, t, _, rfl, .inr (SqT.of ht2), rfl, false, rfl, iteF ?_⟩
    refine ⟨_, rfl, _, rfl, t, _, 0, .ref hf, rfl, rfl, SqT.of ht2, rfl, g, n, rs, hf, F, rfl, hg.same s02, s02 _ _ hF, hFl, h8, hw, h60, hLF, fun H3 s3 => ?_⟩
    refine ⟨true, rfl, iteF ?_⟩
    have s03 := s02.trans s3
    have ht3 := s03 _ _ ht
    have hF3 := s03 _ _ hF
    have hh3 := s03 _ _ hh
    refine ⟨_, rfl, t, _, rfl, SqT.of ht3, rfl, _, _, rfl, _, _, rfl, _, _, rfl, rfl, ?_⟩
    -- any above before
    refine ⟨_, rfl, _, rfl, hf, h, _, _, rfl, SqL.of hF3, SqL.of hh3, fun B hB => ?_⟩
    refine lc_gen (n := n) (fun i => some (V.bl (decide (hAt S (1 + (i : Int)) < hAt F (1 + (i : Int)))))) (Nat.le_trans h8 (by decide)) hB
      (fun i H' hi sm => ⟨_, _, _, _, SqL.of (sm _ _ hF3), SqL.of (sm _ _ hh3), get_map2 (hAt_i (by omega)), get_map2 (hAt_i (by omega))⟩)
      (fun H' sm => ⟨_, _, SqL.of (sm _ _ hF3), SqL.of (sm _ _ hh3), .inl (by rw [List.length_map, hFl]; exact Nat.le_refl _)⟩) (fun i x H4 H5 Qt Qf hi sm y k1 k2 => ?_) (fun H4 sm hd4 => ?_)
    · obtain ⟨Tp, x1, x2, rfl, hT, rfl, f1, f2⟩ := y
      have e1 := f1 _ (SqL.of (sm _ _ hF3))
      have e2 := f2 _ (SqL.of (sm _ _ hh3))
      rw [get_map2 (hAt_i (by omega))] at e1 e2
      cases e1
      cases e2
      refine ⟨Tp, _, rfl, SqT.of upd_same, rfl, _, _, rfl, _, _, rfl, rfl, rfl, ?_⟩
      exact ⟨_, rfl, _, rfl, _, _, rfl, rfl, k1 _ _ rfl (same_upd hT)⟩
    · rw [fm_bools (p := fun i => decide (hAt S (1 + (i : Int)) < hAt F (1 + (i : Int)))) _ (fun i _ => rfl)] at hd4
      refine ⟨B, _, rfl, SqL.of hd4, _, rfl, ?_⟩
      have s04 := s03.trans sm
      refine ite2 (fun e => ?_) (fun e => ?_)
      · obtain ⟨i, hi, e⟩ := (any_range _ _).mp e
        have e := of_decide_eq_true e
        exact q H4 false s04 ⟨fun z => (by cases z), fun z => by have := z.1 (1 + (i : Int)) (by omega) (by omega); omega⟩
      have hle : ∀ c : Int, 1 ≤ c → c ≤ n → hAt F c ≤ hAt S c := fun c h1 h2 => by
        refine Int.not_lt.mp fun z => e ((any_range _ _).mpr ⟨(c - 1).toNat, by omega, decide_eq_true ?_⟩)
        rw [show 1 + (((c - 1).toNat : Nat) : Int) = c by omega]
        exact z
      -- are_stops
      refine ⟨_, rfl, _, rfl, _, rfl, _, rfl, g, l, hf, sd, n, rs, ss, F, sts, rfl, hg.same s04, hs.same s04, hws, h8, h60, s04 _ _ hF, hFl, hst.same s04, fun H5 b s5 hb => ?_⟩
      have s05 := s04.trans s5
      refine ⟨_, rfl, ?_⟩
      cases b with
      | false => exact iteT (q H5 false s05 ⟨fun z => (by cases z), fun z => by have := hb.mpr z.2.1; cases this⟩)
      | true =>
        have hG := hb.mp rfl
        refine iteF ?_
        have hin : ∀ st ∈ sts, st.1 ∈ ss.map Prod.fst ∧ IsCh rs st.2 := fun st hm => by
          obtain ⟨_, ⟨h1, h2⟩, to, h3, _⟩ := hG st hm
          exact ⟨List.mem_map.mpr ⟨_, lkp_mem h3, rfl⟩, isCh_of h2 h1⟩
        refine ⟨_, rfl, _, rfl, _, rfl, g, l, sd, n, rs, ss, sts, rfl, hg.same s05, hs.same s05, hws, h8, h60, hst.same s05, hnd, hin, fun H6 e es s6 hen he hek hel => ?_⟩
        have s06 := s05.trans s6
        have hE : lkp es = endOf rs ss sts := funext hel
        have hesn : (es.map Prod.fst).Nodup := by rw [hek]; exact hws.1
        have hesl : es.length ≤ 8 := by
          have := congrArg List.length hek
          rw [List.length_map, List.length_map] at this
          have := hws.len
          omega
        -- any above its end
        refine ⟨e, _, he, trivial, fun od => ?_⟩
        generalize hHf : upd H6 e (.frz od (.dK (gkv V.int es))) = Hf
        have hnod : Same (RF.nod H6) Hf := by rw [← hHf]; exact nod_upd he
        have hef : Hf e = some (.frz od (.dK (gkv V.int es))) := by rw [← hHf]; exact upd_same
        have hFf : Hf hf = some (.lst (F.map V.int)) := hnod _ _ (nod_lst (s06 _ _ hF))
        refine ⟨_, rfl, e, od, _, rfl, hef, fun B2 hB2 => ?_⟩
        refine lc_gen (n := es.length) (fun i => (es[i]?).map fun p => V.bl (decide (p.2 < hAt F p.1))) (Nat.le_trans hesl (by decide)) hB2 (fun i H' hi sm => ⟨sm _ _ hef, by rw [gkv_len]; exact hi⟩) (fun H' sm => ⟨sm _ _ hef, by rw [gkv_len]; exact Nat.le_refl _⟩) (fun i x H7 H8 Qt Qf hi sm y k1 k2 => ?_) (fun H7 sm7 hd7 => ?_)
        · obtain ⟨Tp, k, v, hkv, rfl, hT, rfl⟩ := y
          obtain ⟨⟨c, x⟩, hp, e1⟩ := gkv_get hkv
          cases e1
          have hcr := key_pos hws (by rw [← hek]; exact List.mem_map.mpr ⟨_, List.mem_of_getElem? hp, rfl⟩ : c ∈ ss.map Prod.fst)
          refine ⟨Tp, _, rfl, SqT.of upd_same, rfl, _, _, rfl, _, _, rfl, rfl, rfl, ?_⟩
          have s8 : Same H7 (upd H7 Tp (.tup [kV (Sum.inl c), .int x])) := same_upd hT
          refine ⟨_, rfl, _, rfl, _, _, rfl, rfl, hf, _, _, .int (hAt F c), rfl, rfl, SqL.of (s8 _ _ (sm _ _ hFf)), hAt_at hFl hcr.1 hcr.2, _, rfl, _, _, rfl, rfl, k1 _ _ ?_ s8⟩
          rw [hp]; rfl
        · rw [range_map] at hd7
          have hd7 : H7 B2 = some (.lst ((es.map fun p => decide (p.2 < hAt F p.1)).map V.bl)) := by rw [hd7, List.map_map]; rfl
          refine ⟨sm7 _ _ hef, ?_⟩
          have hBe : B2 ≠ e := (ne_of_none hef hB2).symm
          have s67 : Same H6 (upd H7 e (.dK (gkv V.int es))) := same_frz he (by rw [hHf]; exact sm7)
          have s07 := s06.trans s67
          have hB7 : (upd H7 e (.dK (gkv V.int es))) B2 = some (.lst ((es.map fun p => decide (p.2 < hAt F p.1)).map V.bl)) := by rw [upd_ne hBe]; exact hd7
          have he7 := s67 _ _ he
          revert s07 hB7 he7
          generalize upd H7 e (.dK (gkv V.int es)) = H8
          intro s07 hB7 he7
          refine ⟨B2, _, rfl, SqL.of hB7, _, rfl, ?_⟩
          refine ite2 (fun e2 => ?_) (fun e2 => ?_)
          · rw [List.any_map, List.any_eq_true] at e2
            obtain ⟨p, hp, h2⟩ := e2
            have h2 : p.2 < hAt F p.1 := of_decide_eq_true h2
            refine q H8 false s07 ⟨fun z => (by cases z), fun z => ?_⟩
            have := z.2.2.1 p.1 p.2 (by rw [← hE]; exact lkp_of hesn hp)
            omega
          have hend : ∀ c e', endOf rs ss sts c = some e' → hAt F c ≤ e' := fun c e' hce => by
            rw [← hE] at hce
            refine Int.not_lt.mp fun z => e2 ?_
            rw [List.any_map, List.any_eq_true]
            exact ⟨(c, e'), lkp_mem hce, decide_eq_true z⟩
          -- down
          obtain ⟨dx, t8, as8, hg8, _⟩ := id (hg.same s07)
          refine ⟨_, rfl, g, dx, _, rfl, hg8, rigF_m1 _ _, g, n, rs, rfl, hg.same s07, _, _, rfl, rfl, 1, (n : Int) + 1, rfl, ⟨by omega, by omega, by omega, by omega⟩, fun D hD => ?_⟩
          rw [show ((n : Int) + 1 - 1).toNat = n by omega]
          refine lc_gen (n := n) (fun i => (dnF S F i).map V.int) (Nat.le_trans h8 (by decide)) hD (fun i H' hi sm => hi) (fun H' sm => Nat.le_refl _) (fun i x H9 H10 Qt Qf hi sm y k1 k2 => ?_) (fun H9 sm9 hd9 => ?_)
          · obtain ⟨rfl, rfl⟩ := y
            have hF9 := sm _ _ (s07 _ _ hF)
            have hh9 := sm _ _ (s07 _ _ hh)
            refine ⟨rfl, _, rfl, _, rfl, _, _, rfl, rfl, hf, _, _, .int (hAt F (1 + (i : Int))), rfl, rfl, SqL.of hF9, hAt_at hFl (by omega) (by omega), ?_⟩
            refine ⟨_, rfl, _, rfl, _, _, rfl, rfl, h, _, _, .int (hAt S (1 + (i : Int))), rfl, rfl, SqL.of hh9, hAt_at hSl (by omega) (by omega), ?_⟩
            refine ⟨_, _, rfl, rfl, _, rfl, ?_⟩
            by_cases hlt : hAt F (1 + (i : Int)) < hAt S (1 + (i : Int))
            · rw [decide_eq_true hlt]
              exact ⟨_, rfl, k1 _ _ (by unfold dnF; rw [if_pos hlt]; rfl) (Same.refl _)⟩
            · rw [decide_eq_false hlt]
              exact k2 _ (by unfold dnF; rw [if_neg hlt]; rfl) (Same.refl _)
          · rw [fm_ints] at hd9
            have hd9 : H9 D = some (.lst ((downL S F n).map V.int)) := hd9
            have s09 := s07.trans sm9
            have hep : e ≠ pd := (ne_of_none (s05 _ _ hpd) hen).symm
            refine ⟨_, rfl, _, rfl, _, rfl, _, rfl, _, rfl, g, hf, D, e, pd, n, rs, F, downL S F n, es, pls, rfl, hg.same s09, hw, h8, h60, s09 _ _ hF, hFl, hd9, down_sorted S F n, fun c hc => ⟨(down_mem.mp hc).1, (down_mem.mp hc).2.1⟩, sm9 _ _ he7, s09 _ _ hpd, hks, hep, fun H10 b s10 hb10 => ?_⟩
            refine q H10 b (s09.trans s10) (hb10.trans ?_)
            rw [hE]
            exact ⟨fun z => ⟨hle, hG, hend, z⟩, fun z => z.2.2.2⟩
end
end RF
/-! ## A22 -/
set_option Elab.async false
set_option linter.all false
set_option maxRecDepth 100000
set_option maxHeartbeats 4000000
namespace RF
open PySem PySem.Spec PyProof.Rows L2
section
variable {P : Program} {w : World} {K : PySem.W.Frag} {mg : Str → Option Value} {base : Heap}
def sp_law_whole (K : PySem.W.Frag) : Sp := fun vs H Q _ => ∃ i : Int, vs = [.int i] ∧ Q (.bl true) H
abbrev N_law_whole : List Str := ["_law_thing"]
theorem sc_law_whole : FnScope N_law_whole ["_law_thing"] (defScope s_law_whole) := ⟨rfl, rfl, rfl, by decide +kernel, rfl, by decide +kernel, by decide +kernel⟩
theorem ok_law_whole (T : TX K mg) : Okd P w K mg base 1 "_law_whole" ["_law_thing"] (sp_law_whole K) := by
  obtain ⟨fd, F⟩ := T.d_law_whole
  refine okd_of F T.g_law_whole sc_law_whole (fun _ _ _ _ _ _ us hl => match us, hl with | [_], _ => rfl) ?_ ?_
  · rintro vs H Q E ⟨i, rfl, _⟩; rfl
  · rintro cdv A outer s H vs Q E hr ⟨i, rfl, q⟩
    refine ⟨_, (pss_one (ps_ret (pe_and (pe_callB (call_isiK2 (K := K) rfl) (by rfl) T.b_isinstance bt_isinstance (pa_cons (pv 0) (pa_cons (pe_bltn (v := .ty "int") (by rfl) T.b_int bt_int rfl) pa_nil))) (pe_one (pe_not (pe_callB (call_isiK2 (K := K) rfl) (by rfl) T.b_isinstance bt_isinstance (pa_cons (pv 0) (pa_cons (pe_bltn (v := .ty "bool") (by rfl) T.b_bool bt_bool rfl) pa_nil)))))))), ?_⟩
    refine ⟨_, rfl, _, .ty "int", .type "int", .type "int", _, rfl, .ty _, .base (.int _), kt_ii, true, rfl, ?_⟩
    refine iteT ?_
    exact ⟨_, rfl, _, .ty "bool", .type "int", .type "bool", _, rfl, .ty _, .base (.int _), kt_ib, false, rfl, q⟩
open Classical in
noncomputable def letsB (S : List Int) (r : Rp) : Bool := decide (hAt S r.1 - hAt S r.2.1 ≤ r.2.2)
theorem letsB_iff {S : List Int} {r : Rp} : letsB S r = true ↔ hAt S r.1 - hAt S r.2.1 ≤ r.2.2 := by
  unfold letsB
  exact decide_eq_true_iff
theorem RowsAt.get {H : Hp} {l : Addr} {rs : List Rp} (h : RowsAt H l rs) : ∃ as : List Addr, as.length = rs.length ∧ H l = some (.lst (as.map V.ref)) ∧ ∀ (i : Nat) (b : Addr), as[i]? = some b → ∃ r, rs[i]? = some r ∧ H b = some (.tup (rV r)) := by
  obtain ⟨as, h1, h2⟩ := h
  refine ⟨as, by rw [h2.1, List.length_map], h1, fun i b hb => ?_⟩
  obtain ⟨y, hy, hb2⟩ := h2.at_ hb
  obtain ⟨r, hr, rfl⟩ := get_map hy
  exact ⟨r, hr, hb2⟩
theorem RowsAt.at_ {H : Hp} {l : Addr} {rs : List Rp} (h : RowsAt H l rs) {k : Int} {r : Rp} (h0 : 0 ≤ k) (hk : rs[k.toNat]? = some r) : ∃ (as : List Addr) (b : Addr), H l = some (.lst (as.map V.ref)) ∧ atI (as.map V.ref) k = some (.ref b) ∧ H b = some (.tup (rV r)) := by
  obtain ⟨as, h1, h2⟩ := h
  obtain ⟨b, hb, hb2⟩ := h2.at2 (get_map2 (f := rV) hk)
  exact ⟨as, b, h1, atI_int h0 (get_map2 hb), hb2⟩
def sp_law_lets (K : PySem.W.Frag) : Sp := fun vs H Q _ => ∃ (l h : Addr) (rs : List Rp) (S : List Int), vs = [.ref l, .ref h] ∧ RowsAt H l rs ∧ WfR S.length rs ∧ rs.length ≤ 60 ∧ H h = some (.lst ((0 :: S).map V.int)) ∧
  ∀ H' b, Same H H' → (b = true ↔ Lets rs S) → Q (.bl b) H'
abbrev N_law_lets : List Str := ["_law_ropes_here", "_law_high", "_law_rope"]
theorem sc_law_lets : FnScope N_law_lets ["_law_ropes_here", "_law_high"] (defScope s_law_lets) := ⟨rfl, rfl, rfl, by decide +kernel, rfl, by decide +kernel, by decide +kernel⟩
theorem ok_law_lets (T : TX K mg) : Okd P w K mg base 1 "_law_lets" ["_law_ropes_here", "_law_high"] (sp_law_lets K) := by
  obtain ⟨fd, F⟩ := T.d_law_lets
  refine okd_of F T.g_law_lets sc_law_lets (fun _ _ _ _ _ _ us hl => match us, hl with | [_, _], _ => rfl) ?_ ?_
  · rintro vs H Q E ⟨l, h, rs, S, rfl, _⟩; rfl
  · rintro cdv A outer s H vs Q E hr ⟨l, h, rs, S, rfl, hl0, hw, h60, hh, q⟩
    refine ⟨_, (pss_one (ps_ret (pe_callB (cr_allK (K := K) rfl rfl) (by rfl) T.b_all bt_all (pa_cons (pe_lc (own := [("_law_rope", 2)]) (g := gName 2) rfl (sc_law_lets).nd (pi_listK (K := K) rfl (pv 0)) (blkOk_by (N := N_law_lets) (sc := defScope s_law_lets) (own := [("_law_rope", 2)]) (by decide +kernel)) (fun _ _ _ _ _ => (pg_name (i := 2) (sc_law_lets).nd rfl (.inl rfl))) (fun _ _ _ _ _ => pts_nil) (fun _ _ _ _ _ => (pe_cmpR op_le (pe_op op_sub (pe_ix (ix_listK (K := K) rfl) (pv 1) (pe_ix (ix_tupK (K := K) rfl) (pv 2) pe_int (fun _ _ => rfl)) (fun _ _ => rfl)) (pe_ix (ix_listK (K := K) rfl) (pv 1) (pe_ix (ix_tupK (K := K) rfl) (pv 2) pe_int (fun _ _ => rfl)) (fun _ _ => rfl))) (pe_ix (ix_tupK (K := K) rfl) (pv 2) pe_int (fun _ _ => rfl)) (nomark _)))) pa_nil)))), ?_⟩
    obtain ⟨as, hal, hl, hat⟩ := hl0.get
    refine ⟨_, rfl, l, rfl, ⟨_, SqL.of hl⟩, fun B hB => ?_⟩
    refine lc_gen (n := rs.length) (fun i => (rs[i]?).map fun r => V.bl (letsB S r)) (Nat.le_trans h60 (by decide)) hB (fun i H' hi sm => ⟨_, _, SqL.of (sm _ _ hl), get_map2 (List.getElem?_eq_getElem (by rw [hal]; exact hi))⟩) (fun H' sm => ⟨_, SqL.of (sm _ _ hl), by rw [List.length_map, hal]; exact Nat.le_refl _⟩) (fun i x H1 H2 Qt Qf hi sm y k1 k2 => ?_) (fun H1 sm hd => ?_)
    · obtain ⟨rfl, y⟩ := y
      obtain ⟨b, hb, rfl⟩ := get_map (y _ (SqL.of (sm _ _ hl)))
      obtain ⟨r, hri, hb2⟩ := hat _ _ hb
      obtain ⟨h1, h2, _⟩ := hw r (List.mem_of_getElem? hri)
      have hb3 := sm _ _ hb2
      have hh3 := sm _ _ hh
      have hri' : (rs[i]?).map (fun r => V.bl (letsB S r)) = some (.bl (letsB S r)) := by rw [hri]; rfl
      obtain ⟨u, lo, m⟩ := r
      refine ⟨rfl, _, rfl, _, rfl, b, _, 0, .int u, rfl, rfl, SqT.of hb3, rfl, h, _, u, .int (hAt S u), rfl, rfl, SqL.of hh3, atI_int h1.1 (hAt_get h1.1 h1.2), ?_⟩
      refine ⟨_, rfl, _, rfl, b, _, 1, .int lo, rfl, rfl, SqT.of hb3, rfl, h, _, lo, .int (hAt S lo), rfl, rfl, SqL.of hh3, atI_int h2.1 (hAt_get h2.1 h2.2), ?_⟩
      refine ⟨_, _, rfl, rfl, _, rfl, b, _, 2, .int m, rfl, rfl, SqT.of hb3, rfl, _, _, rfl, rfl, k1 _ _ ?_ (Same.refl _)⟩
      rw [hri']
      congr 2
    · rw [range_map] at hd
      refine ⟨B, rs.map (letsB S), rfl, SqL.of (by rw [hd, List.map_map]; rfl), q H1 _ sm ?_⟩
      rw [List.all_map, List.all_eq_true]
      exact ⟨fun z r hr => letsB_iff.mp (z r hr), fun z r hr => letsB_iff.mpr (z r hr)⟩
def sp_law_stand (K : PySem.W.Frag) : Sp := fun vs H Q _ => ∃ (l h : Addr) (rs : List Rp) (S : List Int) (n : Nat), vs = [.ref l, .int n, .ref h] ∧ RowsAt H l rs ∧ WfR n rs ∧ rs.length ≤ 60 ∧ n ≤ 8 ∧ S.length = n ∧ H h = some (.lst (S.map V.int)) ∧
  ∀ H' b, Same H H' → (b = true ↔ Lets rs S) → Q (.bl b) H'
abbrev N_law_stand : List Str := ["_law_ropes_here", "_law_many", "_law_thing", "_law_one"]
theorem sc_law_stand : FnScope N_law_stand ["_law_ropes_here", "_law_many", "_law_thing"] (defScope s_law_stand) := ⟨rfl, rfl, rfl, by decide +kernel, rfl, by decide +kernel, by decide +kernel⟩
theorem ok_law_stand (T : TX K mg) : Okd P w K mg base 2 "_law_stand" ["_law_ropes_here", "_law_many", "_law_thing"] (sp_law_stand K) := by
  obtain ⟨fd, F⟩ := T.d_law_stand
  refine okd_of F T.g_law_stand sc_law_stand (fun _ _ _ _ _ _ us hl => match us, hl with | [_, _, _], _ => rfl) ?_ ?_
  · rintro vs H Q E ⟨l, h, rs, S, n, rfl, _⟩; rfl
  · rintro cdv A outer s H vs Q E hr ⟨l, h, rs, S, n, rfl, hl, hw, h60, h8, hSl, hh, q⟩
    refine ⟨_, (pss_cons (ps_if (PW.pt (pw_or (pt_not (pt_val (pe_callB (call_isiK2 (K := K) rfl) (by rfl) T.b_isinstance bt_isinstance (pa_cons (pv 2) (pa_cons (pe_bltn (v := .ty "list") (by rfl) T.b_list bt_list rfl) pa_nil))))) (pw_or (pt_cmpR op_ne (pe_callB (call_len_seqK (K := K) rfl) (by rfl) T.b_len bt_len (pa_cons (pv 2) pa_nil)) (pv 1) (nomark _)) (pw_or1 (pt_not (pt_val (pe_callB (cr_allK (K := K) rfl rfl) (by rfl) T.b_all bt_all (pa_cons (pe_lc (own := [("_law_one", 3)]) (g := gName 3) rfl (sc_law_stand).nd (pi_listK (K := K) rfl (pv 2)) (blkOk_by (N := N_law_stand) (sc := defScope s_law_stand) (own := [("_law_one", 3)]) (by decide +kernel)) (fun _ _ _ _ _ => (pg_name (i := 3) (sc_law_stand).nd rfl (.inl rfl))) (fun _ _ _ _ _ => pts_nil) (fun _ _ _ _ _ => (pe_callD (ok_law_whole T) hr (by decide) (by rfl) (pa_cons (pv 3) pa_nil)))) pa_nil)))))))) (pss_one (ps_ret pe_bl)) pss_nil)
  (pss_one (ps_ret (pe_callD (ok_law_lets T) hr (by decide) (by rfl) (pa_cons (pv 0) (pa_cons (pe_op op_cat (pe_lst (pa_cons pe_int pa_nil)) (pv 2)) pa_nil)))))), ?_⟩
    refine ⟨_, rfl, _, .ty "list", .type "list", .type "list", _, rfl, .ty _, .base (.lst (hh)), kt_ll, true, rfl, iteF ?_⟩
    refine ⟨_, rfl, h, _, rfl, .inl (SqL.of hh), _, rfl, rfl, _, rfl, ?_⟩
    rw [List.length_map, hSl, decide_eq_true rfl]
    refine iteF ?_
    refine ⟨_, rfl, h, rfl, ⟨_, SqL.of hh⟩, fun B hB => ?_⟩
    refine lc_gen (n := n) (fun _ => some (V.bl true)) (Nat.le_trans h8 (by decide)) hB (fun i H' hi sm => ⟨_, _, SqL.of (sm _ _ hh), get_map2 (hAt_i (by omega))⟩) (fun H' sm => ⟨_, SqL.of (sm _ _ hh), by rw [List.length_map, hSl]; exact Nat.le_refl _⟩) (fun i x H1 H2 Qt Qf hi sm y k1 k2 => ?_) (fun H1 sm hd => ?_)
    · obtain ⟨rfl, y⟩ := y
      obtain ⟨z, hz, rfl⟩ := get_map (y _ (SqL.of (sm _ _ hh)))
      exact ⟨rfl, _, rfl, z, rfl, k1 _ _ rfl (Same.refl _)⟩
    · rw [fm_bools (p := fun _ => true) _ (fun i _ => rfl)] at hd
      have ea : ((List.range n).map fun _ => true).all id = true := (all_range _ _).mpr fun _ _ => rfl
      refine ⟨B, _, rfl, SqL.of hd, _, rfl, ?_⟩
      rw [ea]
      refine iteF ?_
      refine ⟨_, rfl, by decide, fun z hz => ⟨_, rfl, z, h, _, _, rfl, rfl, upd_same, (by rw [upd_ne (ne_of_none (sm _ _ hh) hz)]; exact sm _ _ hh), (by rw [List.length_map]; exact Nat.le_trans (Nat.add_le_add_left (show S.length ≤ 8 by omega) _) (by decide)), fun p hp => ?_⟩⟩
      have s1 : Same H (upd (upd H1 z (.lst [.int 0])) p (.lst ([V.int 0] ++ S.map V.int))) := (sm.trans (same_upd hz)).trans (same_upd hp)
      have e : ([V.int 0] ++ S.map V.int) = (0 :: S).map V.int := rfl
      rw [e] at s1 ⊢
      exact ⟨l, p, rs, S, rfl, hl.same s1, by rw [hSl]; exact hw, h60, upd_same, fun H' b s2 hb => q H' b (s1.trans s2) hb⟩
/-- the knots of a chain, or nothing -/
def KnG (rs : List Rp) (cs ks : List Int) : Prop := (ks = [] ∧ (cs = [] ∨ ∀ u l, ¬ ChOk rs u cs l)) ∨ ∃ u l m, ks = u :: m ∧ atI (ks.map V.int) (-1) = some (.int l) ∧ cs ≠ [] ∧ ChOk rs u cs l
theorem ch_det {rs : List Rp} : ∀ {c : List Int} {u l l' : Int}, ChOk rs u c l → ChOk rs u c l' → l = l'
  | [], u, l, l', h, h' => by
    have h : u = l := h
    have h' : u = l' := h'
    rw [← h, ← h']
  | k :: c, u, l, l', h, h' => by
    obtain ⟨r, h0, hk, _, h⟩ := h
    obtain ⟨r', _, hk', _, h'⟩ := h'
    rw [hk] at hk'
    cases hk'
    exact ch_det h h'
theorem ch_head {rs : List Rp} {k : Int} {c : List Int} {u l : Int} (h : ChOk rs u (k :: c) l) : u = (rowOf rs k).1 := by
  obtain ⟨r, _, hk, e, _⟩ := h
  unfold rowOf
  rw [hk]
  exact e.symm
theorem ch_snoc {rs : List Rp} {c : List Int} {u m k : Int} {r : Rp} (h : ChOk rs u c m) (h0 : 0 ≤ k) (hk : rs[k.toNat]? = some r) (e : r.1 = m) : ChOk rs u (c ++ [k]) r.2.1 :=
  ch_append h (by rw [← e]; exact ch_cons h0 hk ch_nil)
def sp_law_knots (K : PySem.W.Frag) : Sp := fun vs H Q _ => ∃ (l c : Addr) (rs : List Rp) (cs : List Int), vs = [.ref l, .ref c] ∧ RowsAt H l rs ∧ rs.length ≤ 60 ∧ H c = some (.lst (cs.map V.int)) ∧ cs.length ≤ 1000 ∧
  ∀ H' p ks, Same H H' → H' p = some (.lst (ks.map V.int)) → KnG rs cs ks → Q (.ref p) H'
abbrev N_law_knots : List Str := ["_law_ropes_here", "_law_thing", "_law_number_here", "_law_knots_here"]
theorem sc_law_knots : FnScope N_law_knots ["_law_ropes_here", "_law_thing"] (defScope s_law_knots) := ⟨rfl, rfl, rfl, by decide +kernel, rfl, by decide +kernel, by decide +kernel⟩
theorem ok_law_knots (T : TX K mg) : Okd P w K mg base 2 "_law_knots" ["_law_ropes_here", "_law_thing"] (sp_law_knots K) := by
  obtain ⟨fd, F⟩ := T.d_law_knots
  refine okd_of F T.g_law_knots sc_law_knots (fun _ _ _ _ _ _ us hl => match us, hl with | [_, _], _ => rfl) ?_ ?_
  · rintro vs H Q E ⟨l, c, rs, cs, rfl, _⟩; rfl
  · rintro cdv A outer s H vs Q E hr ⟨l, c, rs, cs, rfl, hl, h60, hc, hcl, q⟩
    refine ⟨_, (pss_cons (ps_if (PW.pt (pw_or (pt_not (pt_val (pe_callB (call_isiK2 (K := K) rfl) (by rfl) T.b_isinstance bt_isinstance (pa_cons (pv 1) (pa_cons (pe_bltn (v := .ty "list") (by rfl) T.b_list bt_list rfl) pa_nil))))) (pw_or1 (pt_cmpR (op_eqIK (K := K) rfl hr.units) (pv 1) (pe_lst pa_nil) (nomark _))))) (pss_one (ps_ret (pe_lst pa_nil))) pss_nil)
  (pss_cons (ps_if (pt_not (pt_val (pe_callB (cr_allK (K := K) rfl rfl) (by rfl) T.b_all bt_all (pa_cons (pe_lc (own := [("_law_number_here", 2)]) (g := gName 2) rfl (sc_law_knots).nd (pi_listK (K := K) rfl (pv 1)) (blkOk_by (N := N_law_knots) (sc := defScope s_law_knots) (own := [("_law_number_here", 2)]) (by decide +kernel)) (fun _ _ _ _ _ => (pg_name (i := 2) (sc_law_knots).nd rfl (.inl rfl))) (fun _ _ _ _ _ => pts_nil) (fun _ _ _ _ _ => (pe_and (pe_callD (ok_law_whole T) hr (by decide) (by rfl) (pa_cons (pv 2) pa_nil)) (pe_one (pe_chain op_le op_lt pe_int (pv 2) (pe_callB (call_len_seqK (K := K) rfl) (by rfl) T.b_len bt_len (pa_cons (pv 0) pa_nil))))))) pa_nil)))) (pss_one (ps_ret (pe_lst pa_nil))) pss_nil)
  (pss_cons (ps_set (i := 3) (sc_law_knots).nd rfl (.inl rfl) (pe_lst (pa_cons (pe_ix (ix_tupK (K := K) rfl) (pe_ix (ix_listK (K := K) rfl) (pv 0) (pe_ix (ix_listK (K := K) rfl) (pv 1) pe_int (fun _ _ => rfl)) (fun _ _ => rfl)) pe_int (fun _ _ => rfl)) pa_nil)))
  (pss_cons (ps_for PassesOwn.never rfl (pi_listK (K := K) rfl (pv 1)) (pg_name (i := 2) (sc_law_knots).nd rfl (.inl rfl)) (pss_cons (ps_if (pt_cmpR op_ne (pe_ix (ix_tupK (K := K) rfl) (pe_ix (ix_listK (K := K) rfl) (pv 0) (pv 2) (fun _ _ => rfl)) pe_int (fun _ _ => rfl)) (pe_ix (ix_listK (K := K) rfl) (pv 3) (pe_un un_neg pe_int) (fun _ _ => rfl)) (nomark _)) (pss_one (ps_ret (pe_lst pa_nil))) pss_nil)
  (pss_one (ps_expr (pe_bm PySem.F.plainAttrs_list PySem.F.slot_list_append PySem.F.type_list_append mt_append (pv 3) (pa_cons (pe_ix (ix_tupK (K := K) rfl) (pe_ix (ix_listK (K := K) rfl) (pv 0) (pv 2) (fun _ _ => rfl)) pe_int (fun _ _ => rfl)) pa_nil))))))
  (pss_one (ps_ret (pv 3))))))), ?_⟩
    have bad : ∀ H1, Same H H1 → (cs = [] ∨ ∀ u l, ¬ ChOk rs u cs l) → ∀ p, H1 p = none → Q (.ref p) (upd H1 p (.lst [])) := fun H1 s1 hb p hp =>
      q _ p [] (s1.trans (same_upd hp)) upd_same (.inl ⟨rfl, hb⟩)
    obtain ⟨as, hal, hl1, hat⟩ := hl.get
    refine ⟨_, rfl, _, .ty "list", .type "list", .type "list", _, rfl, .ty _, .base (.lst (hc)), kt_ll, true, rfl, iteF ?_⟩
    refine ⟨_, rfl, Nat.zero_le _, fun z hz => ⟨c, z, cs, [], rfl, rfl, SqL.of (same_upd hz _ _ hc), SqL.of upd_same, _, rfl, ?_⟩⟩
    have s1 : Same H (upd H z (.lst [])) := same_upd hz
    revert s1
    generalize upd H z (.lst []) = H1
    intro s1
    refine ite2 (fun e => ?_) (fun e => ?_)
    · have e : cs = [] := of_decide_eq_true e
      exact ⟨Nat.zero_le _, fun p hp => bad H1 s1 (.inl e) p hp⟩
    have hne : cs ≠ [] := fun z => e (decide_eq_true z)
    have hc1 := s1 _ _ hc
    -- all in range
    refine ⟨_, rfl, c, rfl, ⟨_, SqL.of hc1⟩, fun D hD => ?_⟩
    refine lc_gen (n := cs.length) (fun i => (cs[i]?).map fun k => V.bl (decide (0 ≤ k ∧ k < (rs.length : Int)))) (Nat.le_trans hcl (by decide)) hD (fun i H' hi sm => ⟨_, _, SqL.of (sm _ _ hc1), get_map2 (List.getElem?_eq_getElem hi)⟩) (fun H' sm => ⟨_, SqL.of (sm _ _ hc1), by rw [List.length_map]; exact Nat.le_refl _⟩) (fun i x H2 H3 Qt Qf hi sm y k1 k2 => ?_) (fun H2 sm hd => ?_)
    · obtain ⟨rfl, y⟩ := y
      obtain ⟨k, hk, rfl⟩ := get_map (y _ (SqL.of (sm _ _ hc1)))
      have e1 : (cs[i]?).map (fun k => V.bl (decide (0 ≤ k ∧ k < (rs.length : Int)))) = some (.bl (decide (0 ≤ k ∧ k < (rs.length : Int)))) := by rw [hk]; rfl
      refine ⟨rfl, _, rfl, k, rfl, true, rfl, iteT ?_⟩
      refine ⟨_, rfl, _, _, rfl, rfl, _, rfl, ?_⟩
      refine ite2 (fun h1 => ?_) (fun h1 => ?_)
      · have h1 : 0 ≤ k := of_decide_eq_true h1
        refine ⟨_, rfl, l, _, rfl, .inl (SqL.of (sm _ _ (s1 _ _ hl1))), _, _, rfl, rfl, k1 _ _ ?_ (Same.refl _)⟩
        rw [e1, List.length_map, hal]
        simp [h1]
      · have h1 : ¬ 0 ≤ k := fun z => h1 (decide_eq_true z)
        refine k1 _ _ ?_ (Same.refl _)
        rw [e1, decide_eq_false (fun z => h1 z.1)]
    rw [range_map] at hd
    refine ⟨D, cs.map fun k => decide (0 ≤ k ∧ k < (rs.length : Int)), rfl, SqL.of (by rw [hd, List.map_map]; rfl), ?_⟩
    have s2 : Same H H2 := s1.trans sm
    refine ⟨_, rfl, ?_⟩
    have hall : (cs.map fun k => decide (0 ≤ k ∧ k < (rs.length : Int))).all id = true ↔ ∀ k ∈ cs, 0 ≤ k ∧ k < (rs.length : Int) := by
      rw [List.all_map, List.all_eq_true]
      exact ⟨fun h k hk => of_decide_eq_true (h k hk), fun h k hk => decide_eq_true (h k hk)⟩
    by_cases hR : ∀ k ∈ cs, 0 ≤ k ∧ k < (rs.length : Int)
    · rw [hall.mpr hR]
      refine iteF ?_
      have row : ∀ k ∈ cs, rs[k.toNat]? = some (rowOf rs k) := fun k hk => row_get (hR k hk).1 (by have := (hR k hk).2; omega)
      have hc2 := s2 _ _ hc
      cases hcs : cs with
      | nil => exact absurd hcs hne
      | cons k0 t0 =>
        have hk0 : k0 ∈ cs := by rw [hcs]; simp
        obtain ⟨as2, b, hl2, hb1, hb2⟩ := (hl.same s2).at_ (hR k0 hk0).1 (row k0 hk0)
        have hrow0 : H2 b = some (.tup [.int (rowOf rs k0).1, .int (rowOf rs k0).2.1, .int (rowOf rs k0).2.2]) := hb2
        refine ⟨_, rfl, _, rfl, c, _, 0, .int k0, rfl, rfl, SqL.of hc2, atI_nat (j := 0) (by rw [hcs]; rfl), l, _, k0, .ref b, rfl, rfl, SqL.of hl2, hb1, b, _, 0, .int (rowOf rs k0).1, rfl, rfl, SqT.of hrow0, rfl, ?_⟩
        refine ⟨(by show 1 ≤ sizeLine; decide), fun p hp => ?_⟩
        have hp0 : H p = none := s2.free hp
        have s3 : Same H (upd H2 p (.lst [.int (rowOf rs k0).1])) := same_upd2 hp0 s2
        have hp3 : (upd H2 p (.lst [.int (rowOf rs k0).1])) p = some (.lst (((rowOf rs k0).1 :: (cs.take 0).map fun k => (rowOf rs k).2.1).map V.int)) := upd_same
        revert s3 hp3
        generalize upd H2 p (.lst [.int (rowOf rs k0).1]) = H3
        intro s3 hp3
        refine ⟨_, rfl, c, rfl, ⟨_, SqL.of (s3 _ _ hc)⟩, ?_⟩
        refine for_gen (n := cs.length) (fun i σ H4 => ∃ v2, σ = [some (.ref l), some (.ref c), v2, some (.ref p)] ∧ Same H H4 ∧ H4 p = some (.lst (((rowOf rs k0).1 :: (cs.take i).map fun k => (rowOf rs k).2.1).map V.int)) ∧ ∃ m, atI (((rowOf rs k0).1 :: (cs.take i).map fun k => (rowOf rs k).2.1).map V.int) (-1) = some (.int m) ∧ ChOk rs (rowOf rs k0).1 (cs.take i) m)
          ⟨_, rfl, s3, hp3, _, atI_last [] _, ch_nil⟩ (fun i σ H4 hi pv => ?_) (fun i x σ H4 H5 hi pv y => ?_) (fun σ H4 pv => ?_)
        · obtain ⟨_, _, s4, _⟩ := pv
          exact ⟨_, _, SqL.of (s4 _ _ hc), get_map2 (List.getElem?_eq_getElem hi)⟩
        · obtain ⟨v2, rfl, s4, hp4, m, hm, hch⟩ := pv
          obtain ⟨rfl, y⟩ := y
          obtain ⟨k, hk, rfl⟩ := get_map (y _ (SqL.of (s4 _ _ hc)))
          have hkm := List.mem_of_getElem? hk
          obtain ⟨as4, b4, hl4, hb41, hb42⟩ := (hl.same s4).at_ (hR k hkm).1 (row k hkm)
          have hrow : H5 b4 = some (.tup [.int (rowOf rs k).1, .int (rowOf rs k).2.1, .int (rowOf rs k).2.2]) := hb42
          refine ⟨_, rfl, _, rfl, l, _, k, .ref b4, rfl, rfl, SqL.of hl4, hb41, b4, _, 0, .int (rowOf rs k).1, rfl, rfl, SqT.of hrow, rfl, ?_⟩
          refine ⟨_, rfl, 1, rfl, p, _, -1, _, rfl, rfl, SqL.of hp4, hm, rfl, _, rfl, ?_⟩
          by_cases he : (rowOf rs k).1 = m
          · rw [decide_eq_true (show V.int (rowOf rs k).1 = V.int m by rw [he])]
            refine iteF ?_
            refine ⟨_, rfl, .inl ⟨rfl, _, SqL.of hp4⟩, _, rfl, _, rfl, l, _, k, .ref b4, rfl, rfl, SqL.of hl4, hb41, b4, _, 1, .int (rowOf rs k).2.1, rfl, rfl, SqT.of hrow, rfl, p, _, _, rfl, rfl, hp4, ?_, ?_⟩
            · rw [List.length_map, List.length_cons, List.length_map, List.length_take]
              exact Nat.lt_of_le_of_lt (show min i cs.length + 1 ≤ 1001 by omega) (by decide)
            · have htk : cs.take (i + 1) = cs.take i ++ [k] := by rw [List.take_add_one, hk]; rfl
              refine ⟨_, rfl, same_upd2 hp0 s4, ?_, (rowOf rs k).2.1, ?_, ?_⟩
              · rw [upd_same, htk, List.map_append, List.map_cons, List.map_cons, List.map_append]; rfl
              · rw [htk, List.map_append]
                show atI ((((rowOf rs k0).1 :: (cs.take i).map fun k => (rowOf rs k).2.1) ++ [(rowOf rs k).2.1]).map V.int) (-1) = _
                rw [List.map_append]
                exact atI_last _ _
              · rw [htk]
                exact ch_snoc hch (hR k hkm).1 (row k hkm) he
          · rw [decide_eq_false (fun z => he (V.int.inj z))]
            refine iteT ⟨Nat.zero_le _, fun p2 hp2 => bad H5 s4 (.inr fun u l' hx => he ?_) p2 hp2⟩
            obtain ⟨hx1, hx2⟩ := ch_split i hx
            have hu0 : u = (rowOf rs k0).1 := by rw [hcs] at hx; exact ch_head hx
            rw [hu0] at hx1 hx2
            have hxm := ch_det hx1 hch
            have hdr : cs.drop i = k :: cs.drop (i + 1) := by
              rw [List.drop_eq_getElem_cons hi]
              rw [List.getElem?_eq_getElem hi] at hk
              rw [Option.some.inj hk]
            rw [hxm, hdr] at hx2
            exact (ch_head hx2).symm
        · obtain ⟨v2, rfl, s4, hp4, m, hm, hch⟩ := pv
          rw [List.take_length] at hch hp4 hm
          refine ⟨⟨_, SqL.of (s4 _ _ hc), by rw [List.length_map]; exact Nat.le_refl _⟩, _, rfl, q H4 p _ s4 hp4 (.inr ⟨_, m, _, rfl, hm, hne, hch⟩)⟩
    · have : (cs.map fun k => decide (0 ≤ k ∧ k < (rs.length : Int))).all id = false := by
        cases z : (cs.map fun k => decide (0 ≤ k ∧ k < (rs.length : Int))).all id with
        | false => rfl
        | true => exact absurd (hall.mp z) hR
      rw [this]
      refine iteT ⟨Nat.zero_le _, fun p hp => bad H2 s2 (.inr fun u l' hx => hR fun k hk => ?_) p hp⟩
      have := (ch_rows cs u l').mp hx
      have h2 := this.1 k hk
      omega
end
end RF
/-! ## A23 -/
set_option Elab.async false
set_option linter.all false
set_option maxRecDepth 100000
set_option maxHeartbeats 4000000
namespace RF
open PySem PySem.Spec PyProof.Rows L2
section
variable {P : Program} {w : World} {K : PySem.W.Frag} {mg : Str → Option Value} {base : Heap}
def mapV (n : Nat) (B : Int → Option Int) : List V := (List.range (n + 1)).map fun k : Nat => optV (B (k : Int))
theorem mapV_len (n : Nat) (B : Int → Option Int) : (mapV n B).length = n + 1 := by unfold mapV; rw [List.length_map, List.length_range]
theorem mapV_get {n : Nat} {B : Int → Option Int} {i : Nat} (h : i < n + 1) : (mapV n B)[i]? = some (optV (B (i : Int))) := by
  unfold mapV
  rw [List.getElem?_map, List.getElem?_range h]
  rfl
theorem mapV_at {n : Nat} {B : Int → Option Int} {k : Int} (h : Kn n k) : atI (mapV n B) k = some (optV (B k)) := by
  refine atI_int h.1 ?_
  rw [mapV_get (by have := h.2; omega), Int.toNat_of_nonneg h.1]
theorem mapV_set {n : Nat} {B : Int → Option Int} {u d : Int} (h : Kn n u) : (mapV n B).set u.toNat (.int d) = mapV n (setB B u d) := by
  refine List.ext_getElem? fun i => ?_
  by_cases hi : i < n + 1
  · rw [mapV_get hi]
    by_cases q : u.toNat = i
    · subst q
      rw [List.getElem?_set_self (by rw [mapV_len]; exact hi), Int.toNat_of_nonneg h.1]
      unfold setB
      rw [if_pos rfl]
      rfl
    · rw [List.getElem?_set_ne q, mapV_get hi]
      unfold setB
      rw [if_neg (by have := h.1; omega)]
  · rw [List.getElem?_eq_none (by rw [List.length_set, mapV_len]; omega), List.getElem?_eq_none (by rw [mapV_len]; omega)]
theorem mapV_ix {n : Nat} {B : Int → Option Int} {u : Int} (h : Kn n u) : ixN (mapV n B).length u = some u.toNat := by
  unfold ixN
  rw [if_pos h.1, if_pos (by rw [mapV_len]; have := h.2; omega)]
theorem mapV_ext {n : Nat} {B B' : Int → Option Int} (h : ∀ k, Kn n k → B k = B' k) : mapV n B = mapV n B' := by
  unfold mapV
  refine List.map_congr_left fun i hi => ?_
  rw [h (i : Int) ⟨by omega, by have := List.mem_range.mp hi; omega⟩]
def sp_law_sums (K : PySem.W.Frag) : Sp := fun vs H Q _ => ∃ (l : Addr) (rs : List Rp) (S : List Int) (n : Nat) (g : Int), vs = [.ref l, .int n, .int g] ∧ RowsAt H l rs ∧ WfR n rs ∧ Lets rs S ∧ rs.length ≤ 60 ∧ n ≤ 8 ∧ Kn n g ∧
  ∀ H' p, Same H H' → nw H H' p = some (.lst (mapV n fun u => dst rs u g)) → (∀ u, IsD rs u g (dst rs u g)) → Q (.ref p) H'
abbrev N_law_sums : List Str := ["_law_ropes_here", "_law_many", "_law_goal", "_law_best", "_law_turn", "_law_rope", "_law_least"]
theorem sc_law_sums : FnScope N_law_sums ["_law_ropes_here", "_law_many", "_law_goal"] (defScope s_law_sums) := ⟨rfl, rfl, rfl, by decide +kernel, rfl, by decide +kernel, by decide +kernel⟩
theorem ok_law_sums (T : TX K mg) : Okd P w K mg base 1 "_law_sums" ["_law_ropes_here", "_law_many", "_law_goal"] (sp_law_sums K) := by
  obtain ⟨fd, F⟩ := T.d_law_sums
  refine okd_of F T.g_law_sums sc_law_sums (fun _ _ _ _ _ _ us hl => match us, hl with | [_, _, _], _ => rfl) ?_ ?_
  · rintro vs H Q E ⟨l, rs, S, n, g, rfl, _⟩; rfl
  · rintro cdv A outer s H vs Q E hr ⟨l, rs, S, n, g, rfl, hl0, hw, hL, h60, h8, hg, q⟩
    refine ⟨_, (pss_cons (ps_set (i := 3) (sc_law_sums).nd rfl (.inl rfl) (pe_op op_rep (pe_lst (pa_cons pe_non pa_nil)) (pe_op op_add (pv 1) pe_int)))
  (pss_cons (ps_asg pe_int (pg_sub (pv 3) (pv 2) set_list))
  (pss_cons (ps_for PassesOwn.never rfl (pi_range1 (by rfl) T.b_range (pa_cons (pv 1) pa_nil)) (pg_name (i := 4) (sc_law_sums).nd rfl (.inl rfl)) (pss_one (ps_for PassesOwn.never rfl (pi_listK (K := K) rfl (pv 0)) (pg_name (i := 5) (sc_law_sums).nd rfl (.inl rfl)) (pss_one (ps_if (pt_cmpR op_notN (pe_ix (ix_listK (K := K) rfl) (pv 3) (pe_ix (ix_tupK (K := K) rfl) (pv 5) pe_int (fun _ _ => rfl)) (fun _ _ => rfl)) pe_non (nomark _)) (pss_cons (ps_set (i := 6) (sc_law_sums).nd rfl (.inl rfl) (pe_op op_add (pe_ix (ix_listK (K := K) rfl) (pv 3) (pe_ix (ix_tupK (K := K) rfl) (pv 5) pe_int (fun _ _ => rfl)) (fun _ _ => rfl)) (pe_ix (ix_tupK (K := K) rfl) (pv 5) pe_int (fun _ _ => rfl))))
  (pss_one (ps_if (PW.pt (pw_or (pt_cmpR op_isN (pe_ix (ix_listK (K := K) rfl) (pv 3) (pe_ix (ix_tupK (K := K) rfl) (pv 5) pe_int (fun _ _ => rfl)) (fun _ _ => rfl)) pe_non (nomark _)) (pw_or1 (pt_cmpR op_lt (pv 6) (pe_ix (ix_listK (K := K) rfl) (pv 3) (pe_ix (ix_tupK (K := K) rfl) (pv 5) pe_int (fun _ _ => rfl)) (fun _ _ => rfl)) (nomark _))))) (pss_one (ps_asg (pv 6) (pg_sub (pv 3) (pe_ix (ix_tupK (K := K) rfl) (pv 5) pe_int (fun _ _ => rfl)) set_list))) pss_nil))) pss_nil)))))
  (pss_one (ps_ret (pv 3)))))), ?_⟩
    obtain ⟨as, hal, hl, hat⟩ := hl0.get
    refine ⟨(by show 1 ≤ sizeLine; decide), fun z hz => ⟨_, rfl, _, _, rfl, rfl, z, (n : Int) + 1, _, rfl, rfl, upd_same, by omega, by omega, ?_, fun p hp => ?_⟩⟩
    · show 1 * ((n : Int) + 1).toNat ≤ sizeLine
      exact Nat.le_trans (show 1 * ((n : Int) + 1).toNat ≤ 100 by omega) (by decide)
    have s1 : Same H (upd (upd H z (.lst [.non])) p (.lst (List.replicate ((n : Int) + 1).toNat [V.non]).flatten)) := (same_upd hz).trans (same_upd hp)
    have hp1 : (upd (upd H z (.lst [.non])) p (.lst (List.replicate ((n : Int) + 1).toNat [V.non]).flatten)) p = some (.lst (mapV n fun _ => none)) := by
      rw [upd_same]
      congr 2
      rw [show ((n : Int) + 1).toNat = n + 1 by omega]
      refine List.ext_getElem? fun i => ?_
      have e : (List.replicate (n + 1) [V.non]).flatten = List.replicate (n + 1) V.non := by
        generalize n + 1 = m
        induction m with
        | zero => rfl
        | succ m ih => rw [List.replicate_succ, List.flatten_cons, ih]; rfl
      rw [e]
      by_cases hi : i < n + 1
      · rw [mapV_get hi, List.getElem?_replicate, if_pos hi]; rfl
      · rw [List.getElem?_eq_none (by rw [List.length_replicate]; omega), List.getElem?_eq_none (by rw [mapV_len]; omega)]
    have hp0 : H p = none := (same_upd hz).free hp
    revert s1 hp1
    generalize upd (upd H z (.lst [.non])) p (.lst (List.replicate ((n : Int) + 1).toNat [V.non]).flatten) = H1
    intro s1 hp1
    refine ⟨_, rfl, _, rfl, p, _, g, g.toNat, rfl, rfl, hp1, mapV_ix hg, ?_⟩
    have s2 : Same H (upd H1 p (.lst ((mapV n fun _ => none).set g.toNat (.int 0)))) := same_upd2 hp0 s1
    have hp2 : (upd H1 p (.lst ((mapV n fun _ => none).set g.toNat (.int 0)))) p = some (.lst (mapV n (setB (fun _ => none) g 0))) := by rw [upd_same, mapV_set hg]
    revert s2 hp2
    generalize upd H1 p (.lst ((mapV n fun _ => none).set g.toNat (.int 0))) = H2
    intro s2 hp2
    refine ⟨_, rfl, n, rfl, by omega, by omega, ?_⟩
    rw [show ((n : Nat) : Int).toNat = n from Int.toNat_natCast _]
    have hlp : ∀ (b : Addr) (o : HO), H b = some o → b ≠ p := fun b o e => ne_of_none e hp0
    refine for_range (n := n) (fun t σ H3 => ∃ v4 v5 v6 B, σ = [some (.ref l), some (.int n), some (.int g), some (.ref p), v4, v5, v6] ∧ Same H H3 ∧ H3 p = some (.lst (mapV n B)) ∧ Sound rs (· = g) B ∧ (∃ d, B g = some d ∧ d ≤ 0) ∧ Upto rs (· = g) t B)
      ⟨_, _, _, setB (fun _ => none) g 0, rfl, s2, hp2, fun u d e => ?_, ⟨0, ?_, Int.le_refl _⟩, upto_zero fun g' e => ?_⟩ ?_ (fun σ H3 pv => ?_)
    · unfold setB at e
      split at e
      · rename_i h
        cases e
        exact ⟨[], g, rfl, h, rfl⟩
      · cases e
    · unfold setB; rw [if_pos rfl]
    · have e : g' = g := e
      subst e
      exact ⟨0, by unfold setB; rw [if_pos rfl], Int.le_refl _⟩
    · rintro t σ H3 ht ⟨v4, v5, v6, B, rfl, s3, hp3, hSo, hZ, hU⟩
      refine ⟨_, rfl, l, rfl, ⟨_, SqL.of (s3 _ _ hl)⟩, ?_⟩
      refine for_gen (n := rs.length) (fun i σ H4 => ∃ v4 v5 v6 B, σ = [some (.ref l), some (.int n), some (.int g), some (.ref p), v4, v5, v6] ∧ Same H H4 ∧ H4 p = some (.lst (mapV n B)) ∧ Sound rs (· = g) B ∧ (∃ d, B g = some d ∧ d ≤ 0) ∧ Mid rs (· = g) t i B)
        ⟨_, _, _, B, rfl, s3, hp3, hSo, hZ, mid_start hU⟩ (fun i σ H4 hi pv => ?_) (fun i x σ H4 H5 hi pv y => ?_) (fun σ H4 pv => ?_)
      · obtain ⟨_, _, _, _, _, s4, _⟩ := pv
        exact ⟨_, _, SqL.of (s4 _ _ hl), get_map2 (List.getElem?_eq_getElem (by rw [hal]; exact hi))⟩
      · obtain ⟨v4, v5, v6, B, rfl, s4, hp4, hSo, hZ, hM⟩ := pv
        obtain ⟨rfl, y⟩ := y
        obtain ⟨b, hb, rfl⟩ := get_map (y _ (SqL.of (s4 _ _ hl)))
        obtain ⟨r, hri, hb2⟩ := hat _ _ hb
        obtain ⟨h1, h2, _⟩ := hw r (List.mem_of_getElem? hri)
        have hb4 := s4 _ _ hb2
        obtain ⟨u, lo, m⟩ := r
        refine ⟨_, rfl, _, rfl, b, _, 1, .int lo, rfl, rfl, SqT.of hb4, rfl, p, _, lo, _, rfl, rfl, SqL.of hp4, mapV_at h2, rfl, _, rfl, ?_⟩
        cases hBl : B lo with
        | none =>
          refine iteF ⟨_, _, _, B, rfl, s4, hp4, hSo, hZ, mid_keep hM hri fun dv e => ?_⟩
          rw [show (u, lo, m).2.1 = lo from rfl, hBl] at e
          cases e
        | some dv =>
          refine iteT ?_
          refine ⟨_, rfl, _, rfl, b, _, 1, .int lo, rfl, rfl, SqT.of hb4, rfl, p, _, lo, .int dv, rfl, rfl, SqL.of hp4, (by rw [mapV_at h2, hBl]; rfl), _, rfl, b, _, 2, .int m, rfl, rfl, SqT.of hb4, rfl, _, _, rfl, rfl, ?_⟩
          have relax : (∀ du, B u = some du → dv + m < du) → ∃ (v4 v5 v6 : Option V) (B' : Int → Option Int), [some (V.ref l), some (.int n), some (.int g), some (.ref p), some (.int (0 + (t : Nat))), some (.ref b), some (.int (dv + m))] = [some (V.ref l), some (.int n), some (.int g), some (.ref p), v4, v5, v6] ∧
              Same H (upd H5 p (.lst ((mapV n B).set u.toNat (.int (dv + m))))) ∧ (upd H5 p (.lst ((mapV n B).set u.toNat (.int (dv + m))))) p = some (.lst (mapV n B')) ∧ Sound rs (· = g) B' ∧ (∃ d, B' g = some d ∧ d ≤ 0) ∧ Mid rs (· = g) t (i + 1) B' := fun hless => by
            refine ⟨_, _, _, setB B u (dv + m), rfl, same_upd2 hp0 s4, by rw [upd_same, mapV_set h1], sound_set hSo hri hBl, ?_, mid_set hM hri hBl fun du e => by have := hless du e; show dv + m ≤ du; omega⟩
            obtain ⟨d0, e0, l0⟩ := hZ
            obtain ⟨d', e', l'⟩ := set_dn (B := B) (u := u) (d := dv + m) (fun d0 e => by have := hless d0 e; omega) g d0 e0
            exact ⟨d', e', by omega⟩
          refine ⟨_, rfl, _, rfl, b, _, 0, .int u, rfl, rfl, SqT.of hb4, rfl, p, _, u, _, rfl, rfl, SqL.of hp4, mapV_at h1, rfl, _, rfl, ?_⟩
          cases hBu : B u with
          | none =>
            refine iteT ⟨_, rfl, _, rfl, _, rfl, b, _, 0, .int u, rfl, rfl, SqT.of hb4, rfl, p, _, u, u.toNat, rfl, rfl, hp4, mapV_ix h1, ?_⟩
            obtain ⟨v4', v5', v6', B', e, r⟩ := relax fun du e => by rw [hBu] at e; cases e
            exact ⟨_, _, _, B', rfl, r⟩
          | some du =>
            refine iteF ⟨_, rfl, _, rfl, _, rfl, b, _, 0, .int u, rfl, rfl, SqT.of hb4, rfl, p, _, u, .int du, rfl, rfl, SqL.of hp4, (by rw [mapV_at h1, hBu]; rfl), _, _, rfl, rfl, _, rfl, ?_⟩
            refine ite2 (fun e => ?_) (fun e => ?_)
            · have e : dv + m < du := of_decide_eq_true e
              refine ⟨_, rfl, _, rfl, _, rfl, b, _, 0, .int u, rfl, rfl, SqT.of hb4, rfl, p, _, u, u.toNat, rfl, rfl, hp4, mapV_ix h1, ?_⟩
              obtain ⟨v4', v5', v6', B', e, r⟩ := relax fun du' e' => by rw [hBu] at e'; cases e'; exact e
              exact ⟨_, _, _, B', rfl, r⟩
            · have e : ¬ dv + m < du := fun z => e (decide_eq_true z)
              refine ⟨_, _, _, B, rfl, s4, hp4, hSo, hZ, mid_keep hM hri fun dv' e' => ?_⟩
              rw [show (u, lo, m).2.1 = lo from rfl, hBl] at e'
              cases e'
              exact ⟨du, hBu, by show du ≤ dv + m; omega⟩
      · obtain ⟨v4, v5, v6, B, rfl, s4, hp4, hSo, hZ, hM⟩ := pv
        exact ⟨⟨_, SqL.of (s4 _ _ hl), by rw [List.length_map, hal]; exact Nat.le_refl _⟩, _, _, _, B, rfl, s4, hp4, hSo, hZ, mid_end hM⟩
    · obtain ⟨v4, v5, v6, B, rfl, s3, hp3, hSo, hZ, hU⟩ := pv
      have hst := still_of hw hL hSo hU
      have hD : ∀ u, IsD rs u g (B u) := fun u => isD_of hSo hst hZ u
      refine ⟨_, rfl, q H3 p s3 (nw_of hp0 ?_) fun u => dst_is (hD u)⟩
      rw [hp3]
      exact congrArg (fun x => some (HO.lst x)) (mapV_ext fun k _ => (dst_eq (hD k)).symm)
/-- a square of sums -/
def MatAt (H : Hp) (d : Addr) (n m : Nat) (f : Int → Int → Option Int) : Prop := ∃ rows : List Addr, H d = some (.lst (rows.map V.ref)) ∧ rows.length = m ∧ ∀ (i : Nat) (a : Addr), rows[i]? = some a → H a = some (.lst (mapV n (f (i : Int))))
theorem MatAt.same {H H' : Hp} {d : Addr} {n m : Nat} {f : Int → Int → Option Int} (h : MatAt H d n m f) (s : Same H H') : MatAt H' d n m f := by
  obtain ⟨rows, h1, h2, h3⟩ := h
  exact ⟨rows, s _ _ h1, h2, fun i a e => s _ _ (h3 i a e)⟩
theorem MatAt.at_ {H : Hp} {d : Addr} {n : Nat} {f : Int → Int → Option Int} (h : MatAt H d n (n + 1) f) {k : Int} (hk : Kn n k) : ∃ (rows : List Addr) (a : Addr), H d = some (.lst (rows.map V.ref)) ∧ atI (rows.map V.ref) k = some (.ref a) ∧ H a = some (.lst (mapV n (f k))) := by
  obtain ⟨rows, h1, h2, h3⟩ := h
  have hlt : k.toNat < rows.length := by have := hk.1; have := hk.2; omega
  have e := List.getElem?_eq_getElem hlt
  refine ⟨rows, _, h1, atI_int hk.1 (get_map2 e), ?_⟩
  have := h3 _ _ e
  rw [Int.toNat_of_nonneg hk.1] at this
  exact this
theorem nw_out {H0 H : Hp} {d : Addr} {o x : HO} (h : H0 d = some x) : Same (nw H0 H) (nw H0 (upd H d o)) := fun b z e => by
  have hb : b ≠ d := fun q => by
    rw [q] at e
    have := nw_new e
    rw [h] at this
    cases this
  exact nw_of (nw_new e) (by rw [upd_ne hb]; exact nw_sub _ _ e)
/-- the rows so far, new since Hb -/
def RowsB (Hb H : Hp) (d : Addr) (n m : Nat) (f : Int → Int → Option Int) : Prop := ∃ rows : List Addr, H d = some (.lst (rows.map V.ref)) ∧ rows.length = m ∧ ∀ (i : Nat) (a : Addr), rows[i]? = some a → nw Hb H a = some (.lst (mapV n (f (i : Int))))
theorem RowsB.same {Hb H H' : Hp} {d : Addr} {n m : Nat} {f : Int → Int → Option Int} (h : RowsB Hb H d n m f) (s : Same H H') : RowsB Hb H' d n m f := by
  obtain ⟨rows, h1, h2, h3⟩ := h
  exact ⟨rows, s _ _ h1, h2, fun i a e => nw_mono s _ _ (h3 i a e)⟩
theorem RowsB.put {Hb H : Hp} {d a : Addr} {x : HO} {n m : Nat} {f : Int → Int → Option Int} (h : RowsB Hb H d n m f) (hb : Hb d = some x) (ha : nw Hb H a = some (.lst (mapV n (f (m : Int))))) :
    ∃ acc, H d = some (.lst acc) ∧ acc.length = m ∧ RowsB Hb (upd H d (.lst (acc ++ [.ref a]))) d n (m + 1) f := by
  obtain ⟨rows, h1, h2, h3⟩ := h
  refine ⟨_, h1, by rw [List.length_map, h2], rows ++ [a], by rw [upd_same, List.map_append]; rfl, by rw [List.length_append, h2]; rfl, fun i b e => nw_out hb _ _ ?_⟩
  by_cases hi : i < rows.length
  · rw [List.getElem?_append_left hi] at e
    exact h3 i b e
  · have hi' := (List.getElem?_eq_some_iff.mp e).1
    rw [List.length_append] at hi'
    have hi' : i < rows.length + 1 := hi'
    obtain rfl : i = rows.length := by omega
    rw [List.getElem?_append_right (Nat.le_refl _), Nat.sub_self] at e
    have e : a = b := by simpa using e
    rw [← e, h2]
    exact ha
def sp_law_dist (K : PySem.W.Frag) : Sp := fun vs H Q _ => ∃ (l : Addr) (rs : List Rp) (S : List Int) (n : Nat), vs = [.ref l, .int n] ∧ RowsAt H l rs ∧ WfR n rs ∧ Lets rs S ∧ rs.length ≤ 60 ∧ n ≤ 8 ∧
  ∀ H' d, Same H H' → MatAt (nw H H') d n (n + 1) (fun k g => dst rs k g) → AllD rs n → Q (.ref d) H'
abbrev N_law_dist : List Str := ["_law_ropes_here", "_law_many", "_law_table", "_law_goal", "_law_knot"]
theorem sc_law_dist : FnScope N_law_dist ["_law_ropes_here", "_law_many"] (defScope s_law_dist) := ⟨rfl, rfl, rfl, by decide +kernel, rfl, by decide +kernel, by decide +kernel⟩
theorem ok_law_dist (T : TX K mg) : Okd P w K mg base 2 "_law_dist" ["_law_ropes_here", "_law_many"] (sp_law_dist K) := by
  obtain ⟨fd, F⟩ := T.d_law_dist
  refine okd_of F T.g_law_dist sc_law_dist (fun _ _ _ _ _ _ us hl => match us, hl with | [_, _], _ => rfl) ?_ ?_
  · rintro vs H Q E ⟨l, rs, S, n, rfl, _⟩; rfl
  · rintro cdv A outer s H vs Q E hr ⟨l, rs, S, n, rfl, hl, hw, hL, h60, h8, q⟩
    refine ⟨_, (pss_cons (ps_set (i := 2) (sc_law_dist).nd rfl (.inr rfl) (pe_lc (own := [("_law_goal", 3)]) (g := gName 3) rfl (sc_law_dist).nd (pi_range1 (by rfl) T.b_range (pa_cons (pe_op op_add (pv 1) pe_int) pa_nil)) (blkOk_by (N := N_law_dist) (sc := defScope s_law_dist) (own := [("_law_goal", 3)]) (by decide +kernel)) (fun _ _ _ _ _ => (pg_name (i := 3) (sc_law_dist).nd rfl (.inl rfl))) (fun _ _ _ _ _ => pts_nil) (fun _ _ _ _ _ => (pe_callD (ok_law_sums T) hr (by decide) (by rfl) (pa_cons (pv 0) (pa_cons (pv 1) (pa_cons (pv 3) pa_nil)))))))
  (pss_one (ps_ret (pe_lc (own := [("_law_knot", 4)]) (g := gName 4) rfl (sc_law_dist).nd (pi_range1 (by rfl) T.b_range (pa_cons (pe_op op_add (pv 1) pe_int) pa_nil)) (blkOk_by (N := N_law_dist) (sc := defScope s_law_dist) (own := [("_law_knot", 4)]) (by decide +kernel)) (fun _ _ _ _ _ => (pg_name (i := 4) (sc_law_dist).nd rfl (.inr rfl))) (fun _ _ _ _ _ => pts_nil) (fun _ _ _ _ _ => (pe_lc (own := [("_law_goal", 3)]) (g := gName 3) rfl (sc_law_dist).nd (pi_range1 (by rfl) T.b_range (pa_cons (pe_op op_add (pv 1) pe_int) pa_nil)) (blkOk_by (N := N_law_dist) (sc := relS _ (defScope s_law_dist)) (own := [("_law_goal", 3)]) (by decide +kernel)) (fun _ _ _ _ _ => (pg_name (i := 3) (sc_law_dist).nd rfl (.inl rfl))) (fun _ _ _ _ _ => pts_nil) (fun _ _ _ _ _ => (pe_ix (ix_listK (K := K) rfl) (pe_ix (ix_listK (K := K) rfl) (pv 2) (pv 3) (fun _ _ => rfl)) (pv 4) (fun _ _ => rfl))))))))), ?_⟩
    have e1 : ((n : Int) + 1).toNat = n + 1 := by omega
    refine ⟨_, rfl, _, _, rfl, rfl, (n : Int) + 1, rfl, by omega, by omega, fun T0 hT0 => ?_⟩
    rw [e1]
    obtain ⟨Hb, hHb⟩ : ∃ x, upd H T0 (.lst []) = x := ⟨_, rfl⟩
    have sB : Same H Hb := by rw [← hHb]; exact same_upd hT0
    have hTB : Hb T0 = some (.lst []) := by rw [← hHb]; exact upd_same
    refine lc_pv (n := n + 1) (fun i H' => Same H H' ∧ (∀ g : Nat, g < i → ∀ u, IsD rs u g (dst rs u g)) ∧ (∀ b, Hb b ≠ none → H' b ≠ none) ∧ RowsB Hb H' T0 n i (fun g u => dst rs u g)) ⟨by rw [hHb]; exact sB, fun g h => by omega, by rw [hHb]; exact fun b h => h, by rw [hHb]; exact ⟨[], hTB, rfl, fun i a e => by simp at e⟩⟩
      (fun i H' hi p => by exact hi) (fun i x H1 H2 hi p y => ?_) (fun H1 p => ⟨by exact Nat.le_refl _, ?_⟩)
    · obtain ⟨rfl, rfl⟩ := y
      obtain ⟨s1, hA, hk, hR⟩ := p
      refine ⟨rfl, _, rfl, _, rfl, _, rfl, l, rs, S, n, 0 + (i : Int), rfl, hl.same s1, hw, hL, h60, h8, ⟨by omega, by omega⟩, fun H3 p s3 hp hD => ?_⟩
      have hpb : Hb p = none := by
        cases z : Hb p with
        | none => rfl
        | some o => exact absurd (nw_new hp) (hk p (by rw [z]; exact fun z => by cases z))
      have hpp : nw Hb H3 p = some (.lst (mapV n fun u => dst rs u (i : Int))) := by
        rw [Int.zero_add] at hp
        exact nw_of hpb (nw_sub _ _ hp)
      obtain ⟨acc, a1, a2, a3⟩ := (hR.same s3).put hTB hpp
      refine ⟨acc, a1, by rw [a2]; exact Nat.lt_of_le_of_lt (show i ≤ 100 by omega) (by decide), same_upd2 hT0 (s1.trans s3), fun g hg u => ?_, fun b hb z => ?_, a3⟩
      · by_cases hgi : g < i
        · exact hA g hgi u
        · obtain rfl : g = i := by omega
          rw [Int.zero_add] at hD
          exact hD u
      · have h1 := hk b hb
        by_cases q : b = T0
        · rw [q, upd_same] at z; cases z
        · rw [upd_ne q] at z
          exact h1 (s3.free z)
    · obtain ⟨s1, hA, hk, hR⟩ := p
      have hT : MatAt H1 T0 n (n + 1) (fun g u => dst rs u g) := by
        obtain ⟨rows, r1, r2, r3⟩ := hR
        exact ⟨rows, r1, r2, fun i a e => nw_sub _ _ (r3 i a e)⟩
      have hAll : AllD rs n := fun u g hg => by
        have := hA g.toNat (by have := hg.2; omega) u
        rw [Int.toNat_of_nonneg hg.1] at this
        exact this
      refine ⟨_, rfl, _, _, rfl, rfl, (n : Int) + 1, rfl, by omega, by omega, fun D hD => ?_⟩
      rw [e1]
      obtain ⟨Hc, hHc⟩ : ∃ x, upd H1 D (.lst []) = x := ⟨_, rfl⟩
      have sC : Same H1 Hc := by rw [← hHc]; exact same_upd hD
      have hDC : Hc D = some (.lst []) := by rw [← hHc]; exact upd_same
      refine lc_pv (n := n + 1) (fun i H' => Same H1 H' ∧ (∀ b, Hc b ≠ none → H' b ≠ none) ∧ RowsB Hc H' D n i (fun k g => dst rs k g)) ⟨by rw [hHc]; exact sC, by rw [hHc]; exact fun b h => h, by rw [hHc]; exact ⟨[], hDC, rfl, fun i a e => by simp at e⟩⟩
        (fun i H' hi p => by exact hi) (fun i x H2 H3 hi p y => ?_) (fun H2 p => ⟨by exact Nat.le_refl _, ?_⟩)
      · obtain ⟨rfl, rfl⟩ := y
        obtain ⟨s2, hk2, hR2⟩ := p
        refine ⟨rfl, ?_⟩
        refine ⟨_, rfl, _, _, rfl, rfl, (n : Int) + 1, rfl, by omega, by omega, fun D3 hD3 => ?_⟩
        rw [e1]
        refine lc_gen (n := n + 1) (fun g => some (optV (dst rs (i : Int) (g : Int)))) (Nat.le_trans (Nat.succ_le_succ h8) (by decide)) hD3 (fun g H' hg sm => hg) (fun H' sm => Nat.le_refl _) (fun g x H4 H5 Qt Qf hg sm y k1 k2 => ?_) (fun H4 sm hd4 => ?_)
        · obtain ⟨rfl, rfl⟩ := y
          have hkg : Kn n (0 + (g : Int)) := ⟨by omega, by omega⟩
          have hki : Kn n (0 + (i : Int)) := ⟨by omega, by omega⟩
          obtain ⟨rows, a, m1, m2, m3⟩ := ((hT.same s2).same sm).at_ hkg
          refine ⟨rfl, _, rfl, _, rfl, T0, _, 0 + (g : Int), .ref a, rfl, rfl, SqL.of m1, m2, _, rfl, a, _, 0 + (i : Int), _, rfl, rfl, SqL.of m3, mapV_at hki, k1 _ _ ?_ (Same.refl _)⟩
          rw [Int.zero_add, Int.zero_add]
        · have hrow : H4 D3 = some (.lst (mapV n fun g => dst rs (i : Int) g)) := by
            rw [hd4]
            congr 2
            unfold mapV
            generalize List.range (n + 1) = L
            induction L with
            | nil => rfl
            | cons x L ih => rw [List.filterMap_cons, List.map_cons, ih]
          have hpb : Hc D3 = none := by
            cases z : Hc D3 with
            | none => rfl
            | some o => exact absurd hD3 (hk2 D3 (by rw [z]; exact fun z => by cases z))
          obtain ⟨acc, a1, a2, a3⟩ := (hR2.same sm).put hDC (nw_of hpb hrow)
          refine ⟨acc, a1, by rw [a2]; exact Nat.lt_of_le_of_lt (show i ≤ 100 by omega) (by decide), same_upd2 hD (s2.trans sm), fun b hb z => ?_, a3⟩
          have h1 := hk2 b hb
          by_cases q : b = D
          · rw [q, upd_same] at z; cases z
          · rw [upd_ne q] at z
            exact h1 (sm.free z)
      · obtain ⟨s2, hk2, rows, r1, r2, r3⟩ := p
        have hcH : Same H Hc := s1.trans sC
        refine q H2 D (s1.trans s2) ⟨rows, nw_of (s1.free hD) r1, r2, fun i a e => nw_anti hcH _ _ (r3 i a e)⟩ hAll
end
end RF
/-! ## A24 -/
set_option Elab.async false
set_option linter.all false
set_option maxRecDepth 100000
set_option maxHeartbeats 4000000
namespace RF
open PySem PySem.Spec PyProof.Rows L2
section
variable {P : Program} {w : World} {K : PySem.W.Frag} {mg : Str → Option Value} {base : Heap}
noncomputable def limF (rs : List Rp) (ss : List (Int × Int)) (c : Int) : Option Int := match lkp ss c with
  | none => none
  | some to => match dst rs 0 c with
    | none => some to
    | some d => some (if 0 - d > to then 0 - d else to)
noncomputable def limV (rs : List Rp) (s : Int × Int) : Int := match dst rs 0 s.1 with
  | none => s.2
  | some d => if 0 - d > s.2 then 0 - d else s.2
theorem lim_take {rs : List Rp} {n : Nat} {ss : List (Int × Int)} (hw : WfS n ss) {i : Nat} {s : Int × Int} (h : ss[i]? = some s) : limF rs (ss.take (i + 1)) = setB (limF rs (ss.take i)) s.1 (limV rs s) := by
  funext c
  obtain ⟨k, to⟩ := s
  unfold limF setB
  rw [List.take_add_one, h]
  show (match lkp (List.take i ss ++ [(k, to)]) c with
    | none => none
    | some to => match dst rs 0 c with
      | none => some to
      | some d => some (if 0 - d > to then 0 - d else to)) = _
  rw [lkp_snoc (fresh_key hw h)]
  by_cases q : c = k
  · rw [if_pos q, if_pos q]
    show (match dst rs 0 c with
      | none => some to
      | some d => some (if 0 - d > to then 0 - d else to)) = some (limV rs (k, to))
    rw [q]
    unfold limV
    show _ = some (match dst rs 0 k with
      | none => to
      | some d => if 0 - d > to then 0 - d else to)
    cases dst rs 0 k <;> rfl
  · rw [if_neg q, if_neg q]
theorem rep_none (n : Nat) : (List.replicate (n + 1) [V.non]).flatten = mapV n fun _ => none := by
  refine List.ext_getElem? fun i => ?_
  have e : (List.replicate (n + 1) [V.non]).flatten = List.replicate (n + 1) V.non := by
    generalize n + 1 = m
    induction m with
    | zero => rfl
    | succ m ih => rw [List.replicate_succ, List.flatten_cons, ih]; rfl
  rw [e]
  by_cases hi : i < n + 1
  · rw [mapV_get hi, List.getElem?_replicate, if_pos hi]; rfl
  · rw [List.getElem?_eq_none (by rw [List.length_replicate]; omega), List.getElem?_eq_none (by rw [mapV_len]; omega)]
def sp_law_limits (K : PySem.W.Frag) : Sp := fun vs H Q _ => ∃ (d l : Addr) (rs : List Rp) (n : Nat) (ss : List (Int × Int)), vs = [.ref d, .ref l] ∧ MatAt H d n (n + 1) (fun k g => dst rs k g) ∧ SlipsAt H l ss ∧ WfS n ss ∧ n ≤ 8 ∧
  ∀ H' p, Same H H' → nw H H' p = some (.lst (mapV n (limF rs ss))) → Q (.ref p) H'
abbrev N_law_limits : List Str := ["_law_dist_here", "_law_slips_here", "_law_limits_here", "_law_slip", "_law_low"]
theorem sc_law_limits : FnScope N_law_limits ["_law_dist_here", "_law_slips_here"] (defScope s_law_limits) := ⟨rfl, rfl, rfl, by decide +kernel, rfl, by decide +kernel, by decide +kernel⟩
theorem ok_law_limits (T : TX K mg) : Okd P w K mg base 1 "_law_limits" ["_law_dist_here", "_law_slips_here"] (sp_law_limits K) := by
  obtain ⟨fd, F⟩ := T.d_law_limits
  refine okd_of F T.g_law_limits sc_law_limits (fun _ _ _ _ _ _ us hl => match us, hl with | [_, _], _ => rfl) ?_ ?_
  · rintro vs H Q E ⟨d, l, rs, n, ss, rfl, _⟩; rfl
  · rintro cdv A outer s H vs Q E hr ⟨d, l, rs, n, ss, rfl, hd, hs, hw, h8, q⟩
    refine ⟨_, (pss_cons (ps_set (i := 2) (sc_law_limits).nd rfl (.inl rfl) (pe_op op_rep (pe_lst (pa_cons pe_non pa_nil)) (pe_callB (call_len_seqK (K := K) rfl) (by rfl) T.b_len bt_len (pa_cons (pv 0) pa_nil))))
  (pss_cons (ps_for PassesOwn.never rfl (pi_listK (K := K) rfl (pv 1)) (pg_name (i := 3) (sc_law_limits).nd rfl (.inl rfl)) (pss_cons (ps_set (i := 4) (sc_law_limits).nd rfl (.inl rfl) (pe_ix (ix_listK (K := K) rfl) (pe_ix (ix_listK (K := K) rfl) (pv 0) pe_int (fun _ _ => rfl)) (pe_ix (ix_tupK (K := K) rfl) (pv 3) pe_int (fun _ _ => rfl)) (fun _ _ => rfl)))
  (pss_one (ps_asg (pe_ifExp (pt_cmpR op_isN (pv 4) pe_non (nomark _)) (pe_ix (ix_tupK (K := K) rfl) (pv 3) pe_int (fun _ _ => rfl)) (pe_callB (call_max2 rfl) (by rfl) T.b_max bt_max (pa_cons (pe_ix (ix_tupK (K := K) rfl) (pv 3) pe_int (fun _ _ => rfl)) (pa_cons (pe_op op_sub pe_int (pv 4)) pa_nil)))) (pg_sub (pv 2) (pe_ix (ix_tupK (K := K) rfl) (pv 3) pe_int (fun _ _ => rfl)) set_list)))))
  (pss_one (ps_ret (pv 2))))), ?_⟩
    obtain ⟨as, hal, hl, hat⟩ := hs.get
    obtain ⟨rows, hd1, hd2, hd3⟩ := id hd
    refine ⟨(by show 1 ≤ sizeLine; decide), fun z hz => ⟨_, rfl, d, _, rfl, .inl (SqL.of (same_upd hz _ _ hd1)), z, ((rows.map V.ref).length : Nat), _, rfl, rfl, upd_same, by omega, by rw [List.length_map, hd2]; omega, ?_, fun p hp => ?_⟩⟩
    · rw [List.length_map, hd2]
      exact Nat.le_trans (show 1 * (((n + 1 : Nat) : Int)).toNat ≤ 100 by omega) (by decide)
    have s1 : Same H (upd (upd H z (.lst [.non])) p (.lst (List.replicate (((rows.map V.ref).length : Nat) : Int).toNat [V.non]).flatten)) := (same_upd hz).trans (same_upd hp)
    have hp1 : (upd (upd H z (.lst [.non])) p (.lst (List.replicate (((rows.map V.ref).length : Nat) : Int).toNat [V.non]).flatten)) p = some (.lst (mapV n (limF rs (ss.take 0)))) := by
      rw [upd_same, Int.toNat_natCast, List.length_map, hd2, rep_none]
      rfl
    have hp0 : H p = none := (same_upd hz).free hp
    revert s1 hp1
    generalize upd (upd H z (.lst [.non])) p (.lst (List.replicate (((rows.map V.ref).length : Nat) : Int).toNat [V.non]).flatten) = H1
    intro s1 hp1
    have hsl := hw.len
    refine ⟨_, rfl, l, rfl, ⟨_, SqL.of (s1 _ _ hl)⟩, ?_⟩
    refine for_gen (n := ss.length) (fun i σ H2 => ∃ v3 v4, σ = [some (.ref d), some (.ref l), some (.ref p), v3, v4] ∧ Same H H2 ∧ H2 p = some (.lst (mapV n (limF rs (ss.take i)))))
      ⟨_, _, rfl, s1, hp1⟩ (fun i σ H2 hi pv => ?_) (fun i x σ H2 H3 hi pv y => ?_) (fun σ H2 pv => ?_)
    · obtain ⟨_, _, _, s2, _⟩ := pv
      exact ⟨_, _, SqL.of (s2 _ _ hl), get_map2 (List.getElem?_eq_getElem (by rw [hal]; exact hi))⟩
    · obtain ⟨v3, v4, rfl, s2, hp2⟩ := pv
      obtain ⟨rfl, y⟩ := y
      obtain ⟨b, hb, rfl⟩ := get_map (y _ (SqL.of (s2 _ _ hl)))
      obtain ⟨⟨c, to⟩, hsi, hb2⟩ := hat _ _ hb
      have hcm := hw.2 _ (List.mem_of_getElem? hsi)
      have hkc : Kn n c := ⟨by have := hcm.1; show 0 ≤ c; omega, hcm.2⟩
      have hb3 := s2 _ _ hb2
      obtain ⟨rows2, a, m1, m2, m3⟩ := (hd.same s2).at_ (k := 0) ⟨by omega, by omega⟩
      have htk := lim_take (rs := rs) hw hsi
      refine ⟨_, rfl, d, _, 0, .ref a, rfl, rfl, SqL.of m1, m2, _, rfl, b, _, 0, .int c, rfl, rfl, SqT.of hb3, rfl, a, _, c, _, rfl, rfl, SqL.of m3, mapV_at hkc, ?_⟩
      have fin : ∀ v, v = limV rs (c, to) → ∃ v3' v4', [some (V.ref d), some (.ref l), some (.ref p), some (.ref b), some (optV (dst rs 0 c))] = [some (V.ref d), some (.ref l), some (.ref p), v3', v4'] ∧
          Same H (upd H3 p (.lst ((mapV n (limF rs (ss.take i))).set c.toNat (.int v)))) ∧ (upd H3 p (.lst ((mapV n (limF rs (ss.take i))).set c.toNat (.int v)))) p = some (.lst (mapV n (limF rs (ss.take (i + 1))))) := fun v hv => by
        refine ⟨_, _, rfl, same_upd2 hp0 s2, ?_⟩
        rw [upd_same, mapV_set hkc, htk, hv]
      cases hdc : dst rs 0 c with
      | none =>
        rw [hdc] at fin
        refine ⟨_, rfl, rfl, _, rfl, iteT ?_⟩
        refine ⟨_, rfl, b, _, 1, .int to, rfl, rfl, SqT.of hb3, rfl, _, rfl, _, rfl, b, _, 0, .int c, rfl, rfl, SqT.of hb3, rfl, p, _, c, c.toNat, rfl, rfl, hp2, mapV_ix hkc, ?_⟩
        obtain ⟨v3', v4', _, r⟩ := fin to (by unfold limV; show to = match dst rs 0 c with | none => to | some d => if 0 - d > to then 0 - d else to; rw [hdc])
        exact ⟨_, _, rfl, r⟩
      | some dd =>
        rw [hdc] at fin
        refine ⟨_, rfl, rfl, _, rfl, iteF ?_⟩
        refine ⟨_, rfl, b, _, 1, .int to, rfl, rfl, SqT.of hb3, rfl, _, rfl, _, _, rfl, rfl, to, 0 - dd, rfl, _, rfl, _, rfl, b, _, 0, .int c, rfl, rfl, SqT.of hb3, rfl, p, _, c, c.toNat, rfl, rfl, hp2, mapV_ix hkc, ?_⟩
        obtain ⟨v3', v4', _, r⟩ := fin (if 0 - dd > to then 0 - dd else to) (by unfold limV; show _ = match dst rs 0 c with | none => to | some d => if 0 - d > to then 0 - d else to; rw [hdc])
        exact ⟨_, _, rfl, r⟩
    · obtain ⟨v3, v4, rfl, s2, hp2⟩ := pv
      rw [List.take_length] at hp2
      exact ⟨⟨_, SqL.of (s2 _ _ hl), by rw [List.length_map, hal]; exact Nat.le_refl _⟩, _, rfl, q H2 p s2 (nw_of hp0 hp2)⟩
end
end RF
/-! ## A25 -/
set_option Elab.async false
set_option linter.all false
set_option maxRecDepth 100000
set_option maxHeartbeats 4000000
namespace RF
open PySem PySem.Spec PyProof.Rows L2
section
variable {P : Program} {w : World} {K : PySem.W.Frag} {mg : Str → Option Value} {base : Heap}
theorem cap_eq {S : List Int} {E : Int → Option Int} (h : E 0 = none) (k : Int) : capF S E k = match E k with
    | none => hAt S k
    | some e => if e < hAt S k then e else hAt S k := by
  unfold capF
  by_cases q : k = 0
  · rw [if_pos q, q, h]
    rfl
  · exact (if_neg q).trans (by cases E k <;> rfl)
def intL (n : Nat) (f : Int → Int) : List Int := (List.range (n + 1)).map fun k : Nat => f (k : Int)
theorem intL_at {n : Nat} {f : Int → Int} {k : Int} (h : Kn n k) : atI ((intL n f).map V.int) k = some (.int (f k)) := by
  refine atI_int h.1 ?_
  unfold intL
  rw [List.map_map, List.getElem?_map, List.getElem?_range (by have := h.2; omega)]
  show some (V.int (f ((k.toNat : Nat) : Int))) = _
  rw [Int.toNat_of_nonneg h.1]
theorem fm_some {α : Type} (f : Nat → α) (l : List Nat) : l.filterMap (fun i => some (f i)) = l.map f := by
  induction l with
  | nil => rfl
  | cons x l ih => rw [List.filterMap_cons, List.map_cons, ih]
def MinP (rs : List Rp) (n : Nat) (cap : Int → Int) (c v : Int) : Prop := (∃ k d, Kn n k ∧ dst rs c k = some d ∧ v = cap k + d) ∧ ∀ k d, Kn n k → dst rs c k = some d → v ≤ cap k + d
theorem fal_of {rs : List Rp} {n : Nat} {cap : Int → Int} {G : List Int} (hl : G.length = n + 1) (h : ∀ c : Nat, c < n + 1 → ∃ v, G[c]? = some v ∧ MinP rs n cap c v) : ∃ f0 F, G = f0 :: F ∧ IsFal rs n cap F := by
  cases G with
  | nil => simp at hl
  | cons f0 F =>
    refine ⟨f0, F, rfl, by simpa using hl, fun c h1 h2 => ?_⟩
    obtain ⟨v, e, m⟩ := h c.toNat (by omega)
    rw [Int.toNat_of_nonneg (by omega)] at m
    have ev : hAt F c = v := by
      have : (f0 :: F)[c.toNat]? = (0 :: F)[c.toNat]? := by
        rw [show c.toNat = (c.toNat - 1) + 1 by omega, List.getElem?_cons_succ, List.getElem?_cons_succ]
      unfold hAt
      rw [← this, e]
      rfl
    rw [ev]
    exact m
def sp_law_fallen (K : PySem.W.Frag) : Sp := fun vs H Q _ => ∃ (d h lm : Addr) (rs : List Rp) (S : List Int) (n : Nat) (E : Int → Option Int), vs = [.ref d, .ref h, .ref lm] ∧ MatAt H d n (n + 1) (fun k g => dst rs k g) ∧ AllD rs n ∧ H h = some (.lst ((0 :: S).map V.int)) ∧ S.length = n ∧ n ≤ 8 ∧ H lm = some (.lst (mapV n E)) ∧ E 0 = none ∧
  ∀ H' p f0 F, Same H H' → H' p = some (.lst ((f0 :: F).map V.int)) → IsFal rs n (capF S E) F → Q (.ref p) H'
abbrev N_law_fallen : List Str := ["_law_dist_here", "_law_high", "_law_limits_here", "_law_caps", "_law_knot", "_law_found", "_law_some", "_law_at"]
theorem sc_law_fallen : FnScope N_law_fallen ["_law_dist_here", "_law_high", "_law_limits_here"] (defScope s_law_fallen) := ⟨rfl, rfl, rfl, by decide +kernel, rfl, by decide +kernel, by decide +kernel⟩
theorem ok_law_fallen (T : TX K mg) : Okd P w K mg base 1 "_law_fallen" ["_law_dist_here", "_law_high", "_law_limits_here"] (sp_law_fallen K) := by
  obtain ⟨fd, F⟩ := T.d_law_fallen
  refine okd_of F T.g_law_fallen sc_law_fallen (fun _ _ _ _ _ _ us hl => match us, hl with | [_, _, _], _ => rfl) ?_ ?_
  · rintro vs H Q E ⟨d, h, lm, rs, S, n, E0, rfl, _⟩; rfl
  · rintro cdv A outer s H vs Q E' hr ⟨d, h, lm, rs, S, n, E, rfl, hd, hA, hh, hSl, h8, hlm, hE0, q⟩
    refine ⟨_, (pss_cons (ps_set (i := 3) (sc_law_fallen).nd rfl (.inr rfl) (pe_lc (own := [("_law_knot", 4)]) (g := gName 4) rfl (sc_law_fallen).nd (pi_range1 (by rfl) T.b_range (pa_cons (pe_callB (call_len_seqK (K := K) rfl) (by rfl) T.b_len bt_len (pa_cons (pv 1) pa_nil)) pa_nil)) (blkOk_by (N := N_law_fallen) (sc := defScope s_law_fallen) (own := [("_law_knot", 4)]) (by decide +kernel)) (fun _ _ _ _ _ => (pg_name (i := 4) (sc_law_fallen).nd rfl (.inl rfl))) (fun _ _ _ _ _ => pts_nil) (fun _ _ _ _ _ => (pe_ifExp (pt_cmpR op_isN (pe_ix (ix_listK (K := K) rfl) (pv 2) (pv 4) (fun _ _ => rfl)) pe_non (nomark _)) (pe_ix (ix_listK (K := K) rfl) (pv 1) (pv 4) (fun _ _ => rfl)) (pe_callB (call_min2 rfl) (by rfl) T.b_min bt_min (pa_cons (pe_ix (ix_listK (K := K) rfl) (pv 1) (pv 4) (fun _ _ => rfl)) (pa_cons (pe_ix (ix_listK (K := K) rfl) (pv 2) (pv 4) (fun _ _ => rfl)) pa_nil)))))))
  (pss_cons (ps_set (i := 5) (sc_law_fallen).nd rfl (.inl rfl) (pe_lst pa_nil))
  (pss_cons (ps_for PassesOwn.never rfl (pi_range1 (by rfl) T.b_range (pa_cons (pe_callB (call_len_seqK (K := K) rfl) (by rfl) T.b_len bt_len (pa_cons (pv 1) pa_nil)) pa_nil)) (pg_name (i := 4) (sc_law_fallen).nd rfl (.inr rfl)) (pss_cons (ps_setLc (i := 6) (own := [("_law_at", 7)]) (g := gName 7) rfl (sc_law_fallen).nd rfl rfl (sw_true rfl rfl rfl (by decide +kernel)) (pi_range1 (by rfl) T.b_range (pa_cons (pe_callB (call_len_seqK (K := K) rfl) (by rfl) T.b_len bt_len (pa_cons (pv 1) pa_nil)) pa_nil)) (blkOk_by (N := N_law_fallen) (sc := defScope s_law_fallen) (own := [("_law_at", 7)]) (by decide +kernel)) (fun _ _ _ _ _ => (pg_name (i := 7) (sc_law_fallen).nd rfl (.inl rfl))) (fun _ _ _ _ _ => (pts_one (pt_cmpR op_notN (pe_ix (ix_listK (K := K) rfl) (pe_ix (ix_listK (K := K) rfl) (pv 0) (pv 4) (fun _ _ => rfl)) (pv 7) (fun _ _ => rfl)) pe_non (nomark _)))) (fun _ _ _ _ _ => (pe_op op_add (pe_ix (ix_listK (K := K) rfl) (pv 3) (pv 7) (fun _ _ => rfl)) (pe_ix (ix_listK (K := K) rfl) (pe_ix (ix_listK (K := K) rfl) (pv 0) (pv 4) (fun _ _ => rfl)) (pv 7) (fun _ _ => rfl)))))
  (pss_one (ps_expr (pe_bm PySem.F.plainAttrs_list PySem.F.slot_list_append PySem.F.type_list_append mt_append (pv 5) (pa_cons (pe_callB (cr_minK2 (K := K) rfl rfl) (by rfl) T.b_min bt_min (pa_cons (pv 6) pa_nil)) pa_nil))))))
  (pss_one (ps_ret (pv 5)))))), ?_⟩
    have e1 : ((((0 :: S).map V.int).length : Nat) : Int).toNat = n + 1 := by rw [List.length_map, List.length_cons, hSl]; omega
    have e2 : ((((0 :: S).map V.int).length : Nat) : Int) = (n : Int) + 1 := by rw [List.length_map, List.length_cons, hSl]; omega
    refine ⟨_, rfl, h, _, rfl, .inl (SqL.of hh), _, rfl, by omega, by omega, fun C hC => ?_⟩
    rw [e1]
    refine lc_gen (n := n + 1) (fun i => some (.int (capF S E (i : Int)))) (Nat.le_trans (Nat.succ_le_succ h8) (by decide)) hC (fun i H' hi sm => hi) (fun H' sm => Nat.le_refl _) (fun i x H1 H2 Qt Qf hi sm y k1 k2 => ?_) (fun H1 sm hd1 => ?_)
    · obtain ⟨rfl, rfl⟩ := y
      have hki : Kn n (0 + (i : Int)) := ⟨by omega, by omega⟩
      have hlm1 := sm _ _ hlm
      have hh1 := sm _ _ hh
      have hk : ((0 :: S).map V.int)[(0 + (i : Int)).toNat]? = some (.int (hAt S (0 + (i : Int)))) := hAt_get hki.1 (by rw [hSl]; exact hki.2)
      have ec := cap_eq (S := S) hE0 (0 + (i : Int))
      refine ⟨rfl, _, rfl, _, rfl, lm, _, 0 + (i : Int), _, rfl, rfl, SqL.of hlm1, mapV_at hki, rfl, _, rfl, ?_⟩
      cases hEi : E (0 + (i : Int)) with
      | none =>
        rw [hEi] at ec
        refine iteT ⟨_, rfl, _, rfl, h, _, 0 + (i : Int), _, rfl, rfl, SqL.of hh1, atI_int hki.1 hk, k1 _ _ ?_ (Same.refl _)⟩
        rw [Int.zero_add] at ec ⊢
        exact congrArg (fun z => some (V.int z)) ec
      | some e =>
        rw [hEi] at ec
        refine iteF ⟨_, rfl, _, rfl, h, _, 0 + (i : Int), _, rfl, rfl, SqL.of hh1, atI_int hki.1 hk, _, rfl, _, rfl, lm, _, 0 + (i : Int), .int e, rfl, rfl, SqL.of hlm1, (by rw [mapV_at hki, hEi]; rfl), hAt S (0 + (i : Int)), e, rfl, k1 _ _ ?_ (Same.refl _)⟩
        rw [Int.zero_add] at ec ⊢
        exact congrArg (fun z => some (V.int z)) ec
    · rw [fm_some] at hd1
      have hC1 : H1 C = some (.lst ((intL n (capF S E)).map V.int)) := by rw [hd1]; unfold intL; rw [List.map_map]; rfl
      refine ⟨Nat.zero_le _, fun fo hfo => ?_⟩
      have hfo0 : H fo = none := sm.free hfo
      have s2 : Same H1 (upd H1 fo (.lst [])) := same_upd hfo
      have hfo2 : (upd H1 fo (.lst [])) fo = some (.lst (([] : List Int).map V.int)) := upd_same
      have hfoC : C ≠ fo := ne_of_none hC1 hfo
      revert s2 hfo2
      generalize upd H1 fo (.lst []) = H2
      intro s2 hfo2
      have s02 := sm.trans s2
      refine ⟨_, rfl, h, _, rfl, .inl (SqL.of (s02 _ _ hh)), _, rfl, by omega, by omega, ?_⟩
      rw [e1]
      refine for_range (n := n + 1) (fun j σ H3 => ∃ v4 v6 v7 G, σ = [some (.ref d), some (.ref h), some (.ref lm), some (.ref C), v4, some (.ref fo), v6, v7] ∧ Same H H3 ∧ H3 C = some (.lst ((intL n (capF S E)).map V.int)) ∧ H3 fo = some (.lst (G.map V.int)) ∧ G.length = j ∧ ∀ c : Nat, c < j → ∃ v, G[c]? = some v ∧ MinP rs n (capF S E) c v)
        ⟨_, _, _, [], rfl, s02, s2 _ _ hC1, hfo2, rfl, fun c hc => by omega⟩ ?_ (fun σ H3 pv => ?_)
      · rintro j σ H3 hj ⟨v4, v6, v7, G, rfl, s3, hC3, hfo3, hGl, hG⟩
        have hkj : Kn n (0 + (j : Int)) := ⟨by omega, by omega⟩
        refine ⟨_, rfl, h, _, rfl, .inl (SqL.of (s3 _ _ hh)), _, rfl, by omega, by omega, fun D hD => ?_⟩
        rw [e1]
        obtain ⟨rows, a, m1, m2, m3⟩ := (hd.same s3).at_ hkj
        refine lc_gen (n := n + 1) (fun i => (reach rs (capF S E) (0 + (j : Int)) i).map V.int) (Nat.le_trans (Nat.succ_le_succ h8) (by decide)) hD (fun i H' hi sm => hi) (fun H' sm => Nat.le_refl _) (fun i x H4 H5 Qt Qf hi sm4 y k1 k2 => ?_) (fun H4 sm4 hd4 => ?_)
        · obtain ⟨rfl, rfl⟩ := y
          have hki : Kn n (0 + (i : Int)) := ⟨by omega, by omega⟩
          have er : reach rs (capF S E) (0 + (j : Int)) i = (dst rs (0 + (j : Int)) (0 + (i : Int))).map fun dd => capF S E (0 + (i : Int)) + dd := by rw [Int.zero_add (i : Int)]; rfl
          have hgo : atI (mapV n fun g => dst rs (0 + (j : Int)) g) (0 + (i : Int)) = some (optV (dst rs (0 + (j : Int)) (0 + (i : Int)))) := mapV_at hki
          refine ⟨rfl, _, rfl, _, rfl, d, _, 0 + (j : Int), .ref a, rfl, rfl, SqL.of (sm4 _ _ m1), m2, _, rfl, a, _, 0 + (i : Int), _, rfl, rfl, SqL.of (sm4 _ _ m3), hgo, rfl, _, rfl, ?_⟩
          cases hdd : dst rs (0 + (j : Int)) (0 + (i : Int)) with
          | none =>
            rw [hdd] at er
            exact k2 _ (by rw [er]; rfl) (Same.refl _)
          | some dd =>
            rw [hdd] at er hgo
            exact ⟨_, rfl, _, rfl, C, _, 0 + (i : Int), _, rfl, rfl, SqL.of (sm4 _ _ hC3), intL_at hki, _, rfl, _, rfl, d, _, 0 + (j : Int), .ref a, rfl, rfl, SqL.of (sm4 _ _ m1), m2, _, rfl, a, _, 0 + (i : Int), .int dd, rfl, rfl, SqL.of (sm4 _ _ m3), hgo, _, _, rfl, rfl, k1 _ _ (by rw [er]; rfl) (Same.refl _)⟩
        · rw [fm_ints] at hd4
          obtain ⟨hpos, hmin⟩ := reach_min (cap := capF S E) hkj (dst_self (hA _ _ hkj))
          have hfo4 := sm4 _ _ hfo3
          refine ⟨_, rfl, .inl ⟨rfl, _, SqL.of hfo4⟩, _, rfl, D, _, rfl, SqL.of hd4, hpos, fun m hm hle => ?_⟩
          have hmp := hmin m hm hle
          refine ⟨fo, _, _, rfl, rfl, hfo4, ?_, ?_⟩
          · rw [List.length_map, hGl]
            exact Nat.lt_of_le_of_lt (show j ≤ 100 by omega) (by decide)
          · refine ⟨_, _, _, G ++ [m], rfl, same_upd2 hfo0 (s3.trans sm4), ?_, ?_, by rw [List.length_append, hGl]; rfl, fun c hc => ?_⟩
            · rw [upd_ne hfoC]; exact sm4 _ _ hC3
            · rw [upd_same, List.map_append]; rfl
            · by_cases hcj : c < j
              · rw [List.getElem?_append_left (by omega)]
                exact hG c hcj
              · obtain rfl : c = j := by omega
                rw [List.getElem?_append_right (by omega), hGl, Nat.sub_self]
                rw [Int.zero_add] at hmp
                exact ⟨m, rfl, hmp⟩
      · obtain ⟨v4, v6, v7, G, rfl, s3, hC3, hfo3, hGl, hG⟩ := pv
        obtain ⟨f0, F, e, hF⟩ := fal_of hGl hG
        rw [e] at hfo3
        exact ⟨_, rfl, q H3 fo f0 F s3 hfo3 hF⟩
end
end RF
/-! ## A26 -/
set_option Elab.async false
set_option linter.all false
set_option maxRecDepth 100000
set_option maxHeartbeats 4000000
namespace RF
open PySem PySem.Spec PyProof.Rows L2
section
variable {P : Program} {w : World} {K : PySem.W.Frag} {mg : Str → Option Value} {base : Heap}
def LPullG (rs : List Rp) (S F : List Int) (E : Int → Option Int) (c : Int) : Option Int → Prop
  | none => ∃ e, E c = some e ∧ hAt F c = e
  | some k => (0 ≤ k ∧ k ≤ (rs.length : Int) - 1) ∧ (rowOf rs k).1 = c ∧ hAt F c - hAt F (rowOf rs k).2.1 = (rowOf rs k).2.2 ∧ hAt F (rowOf rs k).2.1 < hAt S (rowOf rs k).2.1
theorem hAt0_at {S : List Int} {n : Nat} (hS : S.length = n) {k : Int} (h : Kn n k) : atI ((0 :: S).map V.int) k = some (.int (hAt S k)) := atI_int h.1 (hAt_get h.1 (by rw [hS]; exact h.2))
def sp_law_pull (K : PySem.W.Frag) : Sp := fun vs H Q _ => ∃ (l h t lm : Addr) (n : Nat) (rs : List Rp) (S F : List Int) (E : Int → Option Int) (c : Int) (x : Option Int), vs = [.ref l, .ref h, .ref t, .ref lm, .int c, optV x] ∧ RowsAt H l rs ∧ WfR n rs ∧
  H h = some (.lst ((0 :: S).map V.int)) ∧ S.length = n ∧ H t = some (.lst ((0 :: F).map V.int)) ∧ F.length = n ∧ H lm = some (.lst (mapV n E)) ∧ Kn n c ∧ ∀ H' b, Same H H' → (b = true ↔ LPullG rs S F E c x) → Q (.bl b) H'
abbrev N_law_pull : List Str := ["_law_ropes_here", "_law_high", "_law_then", "_law_limits_here", "_law_climber", "_law_number_here", "_law_lower"]
theorem sc_law_pull : FnScope N_law_pull ["_law_ropes_here", "_law_high", "_law_then", "_law_limits_here", "_law_climber", "_law_number_here"] (defScope s_law_pull) := ⟨rfl, rfl, rfl, by decide +kernel, rfl, by decide +kernel, by decide +kernel⟩
theorem ok_law_pull (T : TX K mg) : Okd P w K mg base 2 "_law_pull" ["_law_ropes_here", "_law_high", "_law_then", "_law_limits_here", "_law_climber", "_law_number_here"] (sp_law_pull K) := by
  obtain ⟨fd, F⟩ := T.d_law_pull
  refine okd_of F T.g_law_pull sc_law_pull (fun _ _ _ _ _ _ us hl => match us, hl with | [_, _, _, _, _, _], _ => rfl) ?_ ?_
  · rintro vs H Q E ⟨l, h, t, lm, n, rs, S, F, E, c, x, rfl, _⟩; rfl
  · rintro cdv A outer s H vs Q E' hr ⟨l, h, t, lm, n, rs, S, F, E, c, x, rfl, hl, hw, hh, hSl, ht, hFl, hlm, hc, q⟩
    refine ⟨_, (pss_cons (ps_if (pt_cmpR op_isN (pv 5) pe_non (nomark _)) (pss_one (ps_ret (pe_and (pe_cmpR op_notN (pe_ix (ix_listK (K := K) rfl) (pv 3) (pv 4) (fun _ _ => rfl)) pe_non (nomark _)) (pe_one (pe_cmpR op_eq (pe_ix (ix_listK (K := K) rfl) (pv 2) (pv 4) (fun _ _ => rfl)) (pe_ix (ix_listK (K := K) rfl) (pv 3) (pv 4) (fun _ _ => rfl)) (nomark _)))))) pss_nil)
  (pss_cons (ps_if (PW.pt (pw_or (pt_not (pt_val (pe_callD (ok_law_whole T) hr (by decide) (by rfl) (pa_cons (pv 5) pa_nil)))) (pw_or (pt_not (pt_chain op_le op_lt pe_int (pv 5) (pe_callB (call_len_seqK (K := K) rfl) (by rfl) T.b_len bt_len (pa_cons (pv 0) pa_nil)))) (pw_or1 (pt_cmpR op_ne (pe_ix (ix_tupK (K := K) rfl) (pe_ix (ix_listK (K := K) rfl) (pv 0) (pv 5) (fun _ _ => rfl)) pe_int (fun _ _ => rfl)) (pv 4) (nomark _)))))) (pss_one (ps_ret pe_bl)) pss_nil)
  (pss_cons (ps_set (i := 6) (sc_law_pull).nd rfl (.inl rfl) (pe_ix (ix_tupK (K := K) rfl) (pe_ix (ix_listK (K := K) rfl) (pv 0) (pv 5) (fun _ _ => rfl)) pe_int (fun _ _ => rfl)))
  (pss_one (ps_ret (pe_and (pe_cmpR op_eq (pe_op op_sub (pe_ix (ix_listK (K := K) rfl) (pv 2) (pv 4) (fun _ _ => rfl)) (pe_ix (ix_listK (K := K) rfl) (pv 2) (pv 6) (fun _ _ => rfl))) (pe_ix (ix_tupK (K := K) rfl) (pe_ix (ix_listK (K := K) rfl) (pv 0) (pv 5) (fun _ _ => rfl)) pe_int (fun _ _ => rfl)) (nomark _)) (pe_one (pe_cmpR op_lt (pe_ix (ix_listK (K := K) rfl) (pv 2) (pv 6) (fun _ _ => rfl)) (pe_ix (ix_listK (K := K) rfl) (pv 1) (pv 6) (fun _ _ => rfl)) (nomark _))))))))), ?_⟩
    cases x with
    | none =>
      refine ⟨_, rfl, rfl, _, rfl, iteT ?_⟩
      refine ⟨_, rfl, _, rfl, lm, _, c, _, rfl, rfl, SqL.of hlm, mapV_at hc, rfl, _, rfl, ?_⟩
      cases hE : E c with
      | none => exact iteF (q H _ (Same.refl _) ⟨fun z => (by cases z), fun ⟨e', z, _⟩ => by rw [hE] at z; cases z⟩)
      | some e =>
        refine iteT ?_
        refine ⟨_, rfl, _, rfl, t, _, c, _, rfl, rfl, SqL.of ht, hAt0_at hFl hc, _, rfl, _, rfl, lm, _, c, .int e, rfl, rfl, SqL.of hlm, (by rw [mapV_at hc, hE]; rfl), rfl, ?_⟩
        refine q H _ (Same.refl _) ⟨fun z => ⟨e, hE, V.int.inj (of_decide_eq_true z)⟩, fun ⟨e2, z, h⟩ => ?_⟩
        rw [hE] at z
        cases z
        exact decide_eq_true (by rw [h])
    | some k =>
      refine ⟨_, rfl, rfl, _, rfl, iteF ?_⟩
      obtain ⟨as, hal, hl1, hat⟩ := hl.get
      refine ⟨_, rfl, k, rfl, true, rfl, iteF ?_⟩
      have bad : ¬ ((0 ≤ k ∧ k ≤ (rs.length : Int) - 1) ∧ (rowOf rs k).1 = c) → Q (.bl false) H := fun hn => q H false (Same.refl _) ⟨fun z => (by cases z), fun z => absurd ⟨z.1, z.2.1⟩ hn⟩
      refine ⟨_, rfl, _, _, rfl, rfl, _, rfl, ?_⟩
      refine ite2 (fun e1 => ?_) (fun e1 => ?_)
      · have e1 : 0 ≤ k := of_decide_eq_true e1
        refine ⟨_, rfl, l, _, rfl, .inl (SqL.of hl1), _, _, rfl, rfl, _, rfl, ?_⟩
        have e2 : (((as.map V.ref).length : Nat) : Int) = rs.length := by rw [List.length_map, hal]
        rw [e2]
        by_cases hk : k < (rs.length : Int)
        · rw [decide_eq_true hk]
          refine iteF ?_
          have hrow := row_get (rs := rs) e1 (by omega)
          obtain ⟨as2, b, m1, m2, m3⟩ := hl.at_ e1 hrow
          obtain ⟨hk1, hk2, _⟩ := hw _ (List.mem_of_getElem? hrow)
          have hP : LPullG rs S F E c (some k) ↔ (rowOf rs k).1 = c ∧ hAt F c - hAt F (rowOf rs k).2.1 = (rowOf rs k).2.2 ∧ hAt F (rowOf rs k).2.1 < hAt S (rowOf rs k).2.1 := ⟨fun z => z.2, fun z => ⟨⟨e1, by omega⟩, z⟩⟩
          have bad2 : ¬ (rowOf rs k).1 = c → Q (.bl false) H := fun hn => bad fun z => hn z.2
          revert m3 hk1 hk2 hP bad2
          generalize rowOf rs k = r
          obtain ⟨u, lo, m⟩ := r
          intro m3 hk1 hk2 hP bad2
          refine ⟨_, rfl, _, rfl, l, _, k, .ref b, rfl, rfl, SqL.of m1, m2, b, _, 0, .int u, rfl, rfl, SqT.of m3, rfl, _, rfl, rfl, _, rfl, ?_⟩
          by_cases hu1 : u = c
          · rw [decide_eq_true (by rw [hu1])]
            refine iteF ?_
            refine ⟨_, rfl, _, rfl, l, _, k, .ref b, rfl, rfl, SqL.of m1, m2, b, _, 1, .int lo, rfl, rfl, SqT.of m3, rfl, ?_⟩
            refine ⟨_, rfl, _, rfl, t, _, c, _, rfl, rfl, SqL.of ht, hAt0_at hFl hc, _, rfl, _, rfl, t, _, lo, _, rfl, rfl, SqL.of ht, hAt0_at hFl hk2, _, _, rfl, rfl, ?_⟩
            refine ⟨_, rfl, _, rfl, l, _, k, .ref b, rfl, rfl, SqL.of m1, m2, b, _, 2, .int m, rfl, rfl, SqT.of m3, rfl, rfl, _, rfl, ?_⟩
            by_cases hm : hAt F c - hAt F lo = m
            · rw [decide_eq_true (show V.int (hAt F c - hAt F lo) = V.int m by rw [hm])]
              refine iteT ?_
              refine ⟨_, rfl, _, rfl, t, _, lo, _, rfl, rfl, SqL.of ht, hAt0_at hFl hk2, _, rfl, _, rfl, h, _, lo, _, rfl, rfl, SqL.of hh, hAt0_at hSl hk2, _, _, rfl, rfl, ?_⟩
              exact q H _ (Same.refl _) (Iff.trans ⟨fun z => ⟨hu1, hm, of_decide_eq_true z⟩, fun z => decide_eq_true z.2.2⟩ hP.symm)
            · rw [decide_eq_false (fun z => hm (V.int.inj z))]
              exact iteF (q H _ (Same.refl _) (Iff.trans ⟨fun z => (by cases z), fun z => absurd z.2.1 hm⟩ hP.symm))
          · rw [decide_eq_false (fun z => hu1 (V.int.inj z))]
            exact iteT (bad2 hu1)
        · rw [decide_eq_false hk]
          exact iteT (bad fun z => hk (by have := z.1.2; omega))
      · have e1 : ¬ 0 ≤ k := fun z => e1 (decide_eq_true z)
        exact ⟨false, rfl, bad fun z => e1 z.1.1⟩
end
end RF
/-! ## A27 -/
set_option Elab.async false
set_option linter.all false
set_option maxRecDepth 100000
set_option maxHeartbeats 4000000
namespace RF
open PySem PySem.Spec PyProof.Rows L2
section
variable {P : Program} {w : World} {K : PySem.W.Frag} {mg : Str → Option Value} {base : Heap}
open Classical in
noncomputable def lpullB (rs : List Rp) (S F : List Int) (E : Int → Option Int) (p : Int × Option Int) : Bool := decide (LPullG rs S F E p.1 p.2)
open Classical in
theorem lpullB_iff {rs : List Rp} {S F : List Int} {E : Int → Option Int} {p : Int × Option Int} : lpullB rs S F E p = true ↔ LPullG rs S F E p.1 p.2 := by
  unfold lpullB
  exact decide_eq_true_iff
def LPullsG (rs : List Rp) (S F : List Int) (n : Nat) (E : Int → Option Int) (pls : List (Int × Option Int)) : Prop := (∀ p ∈ pls, LPullG rs S F E p.1 p.2) ∧ ∀ c ∈ downL S F n, lkp pls (iterP rs pls (downL S F n).length c) = some none
theorem down_low {rs : List Rp} {S F : List Int} {n : Nat} {k : Int} (hw : WfR n rs) (hk : 0 ≤ k ∧ k ≤ (rs.length : Int) - 1) (h : hAt F (rowOf rs k).2.1 < hAt S (rowOf rs k).2.1) : (rowOf rs k).2.1 ∈ downL S F n := by
  obtain ⟨_, ⟨a, b⟩, _⟩ := hw _ (List.mem_of_getElem? (row_get hk.1 hk.2))
  refine down_mem.mpr ⟨?_, b, h⟩
  rcases Int.lt_or_le 0 (rowOf rs k).2.1 with z | z
  · omega
  · have e : (rowOf rs k).2.1 = 0 := by omega
    rw [e, hAt_zero, hAt_zero] at h
    omega
def sp_law_pulls (K : PySem.W.Frag) : Sp := fun vs H Q _ => ∃ (l h t lm pd : Addr) (n : Nat) (rs : List Rp) (S F : List Int) (E : Int → Option Int) (pls : List (Int × Option Int)), vs = [.ref l, .ref h, .ref t, .ref lm, .ref pd] ∧ RowsAt H l rs ∧ WfR n rs ∧ n ≤ 8 ∧
  H h = some (.lst ((0 :: S).map V.int)) ∧ S.length = n ∧ H t = some (.lst ((0 :: F).map V.int)) ∧ F.length = n ∧ H lm = some (.lst (mapV n E)) ∧ H pd = some (.dK (gkv optV pls)) ∧ pls.map Prod.fst = downL S F n ∧
  ∀ H' b, Same H H' → (b = true ↔ LPullsG rs S F n E pls) → Q (.bl b) H'
abbrev N_law_pulls : List Str := ["_law_ropes_here", "_law_high", "_law_then", "_law_limits_here", "_law_pulls_here", "_law_down", "_law_knot", "_law_now", "_law_turn"]
theorem sc_law_pulls : FnScope N_law_pulls ["_law_ropes_here", "_law_high", "_law_then", "_law_limits_here", "_law_pulls_here"] (defScope s_law_pulls) := ⟨rfl, rfl, rfl, by decide +kernel, rfl, by decide +kernel, by decide +kernel⟩
theorem ok_law_pulls (T : TX K mg) : Okd P w K mg base 3 "_law_pulls" ["_law_ropes_here", "_law_high", "_law_then", "_law_limits_here", "_law_pulls_here"] (sp_law_pulls K) := by
  obtain ⟨fd, F⟩ := T.d_law_pulls
  refine okd_of F T.g_law_pulls sc_law_pulls (fun _ _ _ _ _ _ us hl => match us, hl with | [_, _, _, _, _], _ => rfl) ?_ ?_
  · rintro vs H Q E ⟨l, h, t, lm, pd, n, rs, S, F, E, pls, rfl, _⟩; rfl
  · rintro cdv A outer s H vs Q E' hr ⟨l, h, t, lm, pd, n, rs, S, F, E, pls, rfl, hl, hw, h8, hh, hSl, ht, hFl, hlm, hpd, hks, q⟩
    have hu := hu_of hr
    refine ⟨_, (pss_cons (ps_setLc (i := 5) (own := [("_law_knot", 6)]) (g := gName 6) rfl (sc_law_pulls).nd rfl rfl (sw_true rfl rfl rfl (by decide +kernel)) (pi_range2 (by rfl) T.b_range (pa_cons pe_int (pa_cons (pe_callB (call_len_seqK (K := K) rfl) (by rfl) T.b_len bt_len (pa_cons (pv 1) pa_nil)) pa_nil))) (blkOk_by (N := N_law_pulls) (sc := defScope s_law_pulls) (own := [("_law_knot", 6)]) (by decide +kernel)) (fun _ _ _ _ _ => (pg_name (i := 6) (sc_law_pulls).nd rfl (.inl rfl))) (fun _ _ _ _ _ => (pts_one (pt_cmpR op_lt (pe_ix (ix_listK (K := K) rfl) (pv 2) (pv 6) (fun _ _ => rfl)) (pe_ix (ix_listK (K := K) rfl) (pv 1) (pv 6) (fun _ _ => rfl)) (nomark _)))) (fun _ _ _ _ _ => (pv 6)))
  (pss_cons (ps_if (PW.pt (pw_or (pt_not (pt_val (pe_callB (call_isiK2 (K := K) rfl) (by rfl) T.b_isinstance bt_isinstance (pa_cons (pv 4) (pa_cons (pe_bltn (v := .ty "dict") (by rfl) T.b_dict bt_dict rfl) pa_nil))))) (pw_or (pt_not (pt_val (pe_callB (cr_allK (K := K) rfl rfl) (by rfl) T.b_all bt_all (pa_cons (pe_lock (pe_lc (own := [("_law_knot", 6)]) (g := gName 6) rfl (sc_law_pulls).nd (pi_keys (pv 4)) (blkOk_by (N := N_law_pulls) (sc := defScope s_law_pulls) (own := [("_law_knot", 6)]) (by decide +kernel)) (fun _ _ _ _ _ => (pg_name (i := 6) (sc_law_pulls).nd rfl (.inl rfl))) (fun _ _ _ _ _ => pts_nil) (fun _ _ _ _ _ => (pe_callD (ok_law_whole T) hr (by decide) (by rfl) (pa_cons (pv 6) pa_nil))))) pa_nil)))) (pw_or1 (pt_cmpR (op_neIK (K := K) rfl hr.units) (pe_callB (call_sortedDI rfl) (by rfl) T.b_sorted bt_sorted (pa_cons (pv 4) pa_nil)) (pv 5) (nomark _)))))) (pss_one (ps_ret pe_bl)) pss_nil)
  (pss_cons (ps_if (pt_not (pt_val (pe_callB (cr_allK (K := K) rfl rfl) (by rfl) T.b_all bt_all (pa_cons (pe_lc (own := [("_law_knot", 6)]) (g := gName 6) rfl (sc_law_pulls).nd (pi_listK (K := K) rfl (pv 5)) (blkOk_by (N := N_law_pulls) (sc := defScope s_law_pulls) (own := [("_law_knot", 6)]) (by decide +kernel)) (fun _ _ _ _ _ => (pg_name (i := 6) (sc_law_pulls).nd rfl (.inl rfl))) (fun _ _ _ _ _ => pts_nil) (fun _ _ _ _ _ => (pe_callD (ok_law_pull T) hr (by decide) (by rfl) (pa_cons (pv 0) (pa_cons (pv 1) (pa_cons (pv 2) (pa_cons (pv 3) (pa_cons (pv 6) (pa_cons (pe_dget hu (pv 4) (pv 6) (fun _ _ => rfl)) pa_nil))))))))) pa_nil)))) (pss_one (ps_ret pe_bl)) pss_nil)
  (pss_cons (ps_for PassesOwn.never rfl (pi_listK (K := K) rfl (pv 5)) (pg_name (i := 6) (sc_law_pulls).nd rfl (.inl rfl)) (pss_cons (ps_set (i := 7) (sc_law_pulls).nd rfl (.inl rfl) (pv 6))
  (pss_cons (ps_for PassesOwn.never rfl (pi_range1 (by rfl) T.b_range (pa_cons (pe_callB (call_len_seqK (K := K) rfl) (by rfl) T.b_len bt_len (pa_cons (pv 5) pa_nil)) pa_nil)) (pg_name (i := 8) (sc_law_pulls).nd rfl (.inl rfl)) (pss_one (ps_set (i := 7) (sc_law_pulls).nd rfl (.inl rfl) (pe_ifExp (pt_cmpR op_isN (pe_dget hu (pv 4) (pv 7) (fun _ _ => rfl)) pe_non (nomark _)) (pv 7) (pe_ix (ix_tupK (K := K) rfl) (pe_ix (ix_listK (K := K) rfl) (pv 0) (pe_dget hu (pv 4) (pv 7) (fun _ _ => rfl)) (fun _ _ => rfl)) pe_int (fun _ _ => rfl))))))
  (pss_one (ps_if (pt_cmpR op_notN (pe_dget hu (pv 4) (pv 7) (fun _ _ => rfl)) pe_non (nomark _)) (pss_one (ps_ret pe_bl)) pss_nil)))))
  (pss_one (ps_ret pe_bl)))))), ?_⟩
    refine ⟨_, rfl, h, _, rfl, .inl (SqL.of hh), 1, _, rfl, ⟨by omega, by omega, by rw [List.length_map, List.length_cons, hSl]; omega, by rw [List.length_map, List.length_cons, hSl]; omega⟩, fun D hD => ?_⟩
    rw [show ((((0 :: S).map V.int).length : Nat) - 1 : Int).toNat = n by rw [List.length_map, List.length_cons, hSl]; omega]
    refine lc_gen (n := n) (fun i => (dnF S F i).map V.int) (Nat.le_trans h8 (by decide)) hD (fun i H' hi sm => hi) (fun H' sm => Nat.le_refl _) (fun i x H1 H2 Qt Qf hi sm y k1 k2 => ?_) (fun H1 sm hd1 => ?_)
    · obtain ⟨rfl, rfl⟩ := y
      have hki : Kn n (1 + (i : Int)) := ⟨by omega, by omega⟩
      refine ⟨rfl, _, rfl, _, rfl, t, _, _, .int (hAt F (1 + (i : Int))), rfl, rfl, SqL.of (sm _ _ ht), hAt0_at hFl hki, _, rfl, _, rfl, h, _, _, .int (hAt S (1 + (i : Int))), rfl, rfl, SqL.of (sm _ _ hh), hAt0_at hSl hki, _, _, rfl, rfl, _, rfl, ?_⟩
      by_cases hlt : hAt F (1 + (i : Int)) < hAt S (1 + (i : Int))
      · rw [decide_eq_true hlt]
        exact ⟨_, rfl, k1 _ _ (by unfold dnF; rw [if_pos hlt]; rfl) (Same.refl _)⟩
      · rw [decide_eq_false hlt]
        exact k2 _ (by unfold dnF; rw [if_neg hlt]; rfl) (Same.refl _)
    · rw [fm_ints] at hd1
      have hD1 : H1 D = some (.lst ((downL S F n).map V.int)) := hd1
      have hdl := down_len S F n
      have hsrt := down_sorted S F n
      have hlowd : ∀ k, LPullG rs S F E 0 (some k) → True := fun _ _ => trivial
      have hpl : pls.length = (downL S F n).length := by rw [← hks, List.length_map]
      have hget : ∀ {i : Nat}, i < pls.length → ∃ p, pls[i]? = some p ∧ p.1 ∈ downL S F n := fun {i} hi => ⟨pls[i], List.getElem?_eq_getElem hi, by rw [← hks]; exact List.mem_map.mpr ⟨_, List.getElem_mem hi, rfl⟩⟩
      have hpd1 := sm _ _ hpd
      refine ⟨_, rfl, _, .ty "dict", .type "dict", .type "dict", _, rfl, .ty _, .base (.dK (hpd1)), kt_dd, true, rfl, iteF ?_⟩
      refine ⟨pd, _, hpd1, trivial, fun od => ?_⟩
      generalize hHf : upd H1 pd (.frz od (.dK (gkv optV pls))) = Hf
      have hpf : Hf pd = some (.frz od (.dK (gkv optV pls))) := by rw [← hHf]; exact upd_same
      refine ⟨_, rfl, pd, od, rfl, .inl ⟨_, hpf, fun B hB => ?_⟩⟩
      refine lc_gen (n := pls.length) (fun _ => some (V.bl true)) (Nat.le_trans (show pls.length ≤ 100 by omega) (by decide)) hB (fun i H' hi sm => ⟨sm _ _ hpf, by rw [gkv_len]; exact hi⟩) (fun H' sm => ⟨sm _ _ hpf, by rw [gkv_len]; exact Nat.le_refl _⟩) (fun i x H2 H3 Qt Qf hi sm y k1 k2 => ?_) (fun H2 sm2 hd2 => ?_)
      · obtain ⟨rfl, k, v, hkv, rfl⟩ := y
        obtain ⟨⟨c, x⟩, hp, e1⟩ := gkv_get hkv
        cases e1
        exact ⟨rfl, _, rfl, c, rfl, k1 _ _ rfl (Same.refl _)⟩
      · rw [fm_bools (p := fun _ => true) _ (fun i _ => rfl)] at hd2
        have ea : ((List.range pls.length).map fun _ => true).all id = true := (all_range _ _).mpr fun _ _ => rfl
        refine ⟨sm2 _ _ hpf, ?_⟩
        have hBp : B ≠ pd := (ne_of_none hpf hB).symm
        have s2 : Same H1 (upd H2 pd (.dK (gkv optV pls))) := same_frz hpd1 (by rw [hHf]; exact sm2)
        have hB1 : (upd H2 pd (.dK (gkv optV pls))) B = some (.lst (((List.range pls.length).map fun _ => true).map V.bl)) := by rw [upd_ne hBp]; exact hd2
        revert s2 hB1
        generalize upd H2 pd (.dK (gkv optV pls)) = H3
        intro s2 hB1
        refine ⟨B, _, rfl, SqL.of hB1, _, rfl, ?_⟩
        rw [ea]
        refine iteF ?_
        refine ⟨_, rfl, pd, _, downL S F n, rfl, .inl (s2 _ _ hpd1), ?_, by omega, fun ys p hperm hys hp => ?_⟩
        · rw [← hks]
          unfold gkv
          rw [List.map_map, List.map_map]
          rfl
        have s3 : Same H1 (upd H3 p (.lst (ys.map V.int))) := s2.trans (same_upd hp)
        refine ⟨_, rfl, p, D, ys, downL S F n, rfl, rfl, SqL.of upd_same, SqL.of (s3 _ _ hD1), _, rfl, ?_⟩
        rw [decide_eq_true (sorted_eq hperm hys hsrt)]
        refine iteF ?_
        revert s3
        generalize upd H3 p (.lst (ys.map V.int)) = H4
        intro s3
        have s4 := sm.trans s3
        have hD4 := s3 _ _ hD1
        -- all the reasons
        refine ⟨_, rfl, D, rfl, ⟨_, SqL.of hD4⟩, fun B2 hB2 => ?_⟩
        refine lc_gen (n := (downL S F n).length) (fun i => (pls[i]?).map fun p => V.bl (lpullB rs S F E p)) (Nat.le_trans (show (downL S F n).length ≤ 100 by omega) (by decide)) hB2 (fun i H' hi sm => ⟨_, _, SqL.of (sm _ _ hD4), get_map2 (List.getElem?_eq_getElem hi)⟩) (fun H' sm => ⟨_, SqL.of (sm _ _ hD4), by rw [List.length_map]; exact Nat.le_refl _⟩) (fun i x H5 H6 Qt Qf hi sm5 y k1 k2 => ?_) (fun H5 sm5 hd5 => ?_)
        · obtain ⟨rfl, y⟩ := y
          obtain ⟨c, hc, rfl⟩ := get_map (y _ (SqL.of (sm5 _ _ hD4)))
          have hcm := down_mem.mp (List.mem_of_getElem? hc)
          obtain ⟨⟨c', x⟩, hp, _⟩ := hget (by rw [hpl]; exact hi)
          have ecc : c' = c := by
            have h1 : (pls.map Prod.fst)[i]? = some c' := get_map2 hp
            rw [hks, hc] at h1
            exact (Option.some.inj h1).symm
          subst ecc
          have hnd : (pls.map Prod.fst).Nodup := by rw [hks]; exact down_nodup S F n
          have hlk := lkp_of hnd (List.mem_of_getElem? hp)
          have s5 := s4.trans sm5
          refine ⟨rfl, _, rfl, _, rfl, _, rfl, _, rfl, _, rfl, _, rfl, _, rfl, pd, _, rfl, (by
            rw [show some (optV x) = valV (gkv optV pls) (Sum.inl c' : Key) by rw [gkv_val, hlk]; rfl]
            exact DGet.k (k := Sum.inl c') (s5 _ _ hpd)), l, h, t, lm, n, rs, S, F, E, c', x, rfl, hl.same s5, hw, s5 _ _ hh, hSl, s5 _ _ ht, hFl, s5 _ _ hlm, ⟨by have := hcm.1; omega, hcm.2.1⟩, fun H7 b s7 hb => ?_⟩
          refine k1 _ _ ?_ s7
          rw [hp]
          show some (V.bl (lpullB rs S F E (c', x))) = some (V.bl b)
          congr 2
          rw [Bool.eq_iff_iff]
          exact Iff.trans lpullB_iff hb.symm
        · rw [← hpl, range_map] at hd5
          have hd5 : H5 B2 = some (.lst ((pls.map (lpullB rs S F E)).map V.bl)) := by rw [hd5, List.map_map]; rfl
          have s5 := s4.trans sm5
          refine ⟨B2, _, rfl, SqL.of hd5, _, rfl, ?_⟩
          have hall : (pls.map (lpullB rs S F E)).all id = true ↔ ∀ p ∈ pls, LPullG rs S F E p.1 p.2 := by
            rw [List.all_map, List.all_eq_true]
            exact ⟨fun h p hp => lpullB_iff.mp (h p hp), fun h p hp => lpullB_iff.mpr (h p hp)⟩
          refine ite2 (fun e2 => ?_) (fun e2 => ?_)
          · refine q H5 _ s5 ⟨fun z => (by cases z), fun z => ?_⟩
            rw [hall.mpr z.1] at e2
            cases e2
          have hP := hall.mp (by
            cases z : (pls.map (lpullB rs S F E)).all id with
            | true => rfl
            | false => rw [z] at e2; exact absurd rfl e2)
          have hlow : ∀ p ∈ pls, ∀ k, p.2 = some k → (rowOf rs k).2.1 ∈ downL S F n := fun p hp k hk => by
            have := hP p hp
            rw [hk] at this
            exact down_low hw this.1 this.2.2.2
          have hDv : ∀ Hx, Same H5 Hx → Hx D = some (.lst ((downL S F n).map V.int)) := fun Hx sx => sx _ _ (sm5 _ _ hD4)
          refine ⟨_, rfl, D, rfl, ⟨_, SqL.of (hDv _ (Same.refl _))⟩, ?_⟩
          refine for_gen (n := (downL S F n).length) (fun i σ H6 => ∃ v6 v7 v8, σ = [some (.ref l), some (.ref h), some (.ref t), some (.ref lm), some (.ref pd), some (.ref D), v6, v7, v8] ∧ Same H5 H6 ∧ ∀ c ∈ (downL S F n).take i, lkp pls (iterP rs pls (downL S F n).length c) = some none)
            ⟨_, _, _, rfl, Same.refl _, fun c z => by simp at z⟩ (fun i σ H6 hi p => ?_) (fun i x σ H6 H7 hi p y => ?_) (fun σ H6 p => ?_)
          · obtain ⟨_, _, _, _, s6, _⟩ := p
            exact ⟨_, _, SqL.of (hDv _ s6), get_map2 (List.getElem?_eq_getElem hi)⟩
          · obtain ⟨v6, v7, v8, rfl, s6, hgd⟩ := p
            obtain ⟨rfl, y⟩ := y
            obtain ⟨c, hc, rfl⟩ := get_map (y _ (SqL.of (hDv _ s6)))
            have hcm := List.mem_of_getElem? hc
            have hnn : (((downL S F n).map V.int).length : Int) = (downL S F n).length := by rw [List.length_map]
            refine ⟨_, rfl, _, rfl, D, _, rfl, .inl (SqL.of (hDv _ s6)), (downL S F n).length, by rw [List.length_map], by omega, by omega, ?_⟩
            rw [show (((downL S F n).length : Nat) : Int).toNat = (downL S F n).length from Int.toNat_natCast _]
            refine for_range (n := (downL S F n).length) (fun tt σ H8 => ∃ v8, σ = [some (.ref l), some (.ref h), some (.ref t), some (.ref lm), some (.ref pd), some (.ref D), some (.int c), some (.int (iterP rs pls tt c)), v8] ∧ Same H5 H8)
              ⟨_, rfl, s6⟩ ?_ (fun σ H8 p => ?_)
            · rintro tt σ H8 ht8 ⟨v8, rfl, s8⟩
              obtain ⟨x, hx⟩ := key_of hks (iter_in hlow hcm tt)
              have hgv : DGet H8 pd (.int (iterP rs pls tt c)) (some (optV x)) := by
                rw [show some (optV x) = valV (gkv optV pls) (Sum.inl (iterP rs pls tt c) : Key) by rw [gkv_val, hx]; rfl]
                exact DGet.k (k := Sum.inl (iterP rs pls tt c)) (s8 _ _ (s5 _ _ hpd))
              refine ⟨_, rfl, _, rfl, pd, _, rfl, hgv, rfl, _, rfl, ?_⟩
              have hst : iterP rs pls (tt + 1) c = stepP rs pls (iterP rs pls tt c) := rfl
              cases x with
              | none =>
                refine iteT ⟨_, rfl, some (.int (0 + (tt : Nat))), ?_, s8⟩
                have hs2 : iterP rs pls (tt + 1) c = iterP rs pls tt c := by rw [hst]; unfold stepP; rw [hx]
                rw [hs2]; rfl
              | some k =>
                have hPk : LPullG rs S F E (iterP rs pls tt c) (some k) := hP _ (lkp_mem hx)
                obtain ⟨as8, b8, m1, m2, m3⟩ := (hl.same (s5.trans s8)).at_ hPk.1.1 (row_get hPk.1.1 hPk.1.2)
                have m3 : H8 b8 = some (.tup [.int (rowOf rs k).1, .int (rowOf rs k).2.1, .int (rowOf rs k).2.2]) := m3
                refine iteF ⟨_, rfl, _, rfl, _, rfl, pd, _, rfl, hgv, l, _, k, .ref b8, rfl, rfl, SqL.of m1, m2, b8, _, 1, .int (rowOf rs k).2.1, rfl, rfl, SqT.of m3, rfl, some (.int (0 + (tt : Nat))), ?_, s8⟩
                have hs2 : iterP rs pls (tt + 1) c = (rowOf rs k).2.1 := by rw [hst]; unfold stepP; rw [hx]
                rw [hs2]; rfl
            · obtain ⟨v8, rfl, s8⟩ := p
              obtain ⟨x, hx⟩ := key_of hks (iter_in hlow hcm (downL S F n).length)
              refine ⟨_, rfl, _, rfl, pd, _, rfl, (by
                rw [show some (optV x) = valV (gkv optV pls) (Sum.inl (iterP rs pls (downL S F n).length c) : Key) by rw [gkv_val, hx]; rfl]
                exact DGet.k (k := Sum.inl (iterP rs pls (downL S F n).length c)) (s8 _ _ (s5 _ _ hpd))), rfl, _, rfl, ?_⟩
              cases x with
              | none =>
                refine iteF ⟨_, _, _, rfl, s8, fun c' hc' => ?_⟩
                rw [List.take_add_one, hc] at hc'
                rcases List.mem_append.mp hc' with z | z
                · exact hgd c' z
                · have z : c' = c := by simpa using z
                  rw [z]; exact hx
              | some k =>
                refine iteT (q H8 false (s5.trans s8) ⟨fun z => (by cases z), fun z => ?_⟩)
                have := z.2 c hcm
                rw [hx] at this
                cases this
          · obtain ⟨v6, v7, v8, rfl, s6, hgd⟩ := p
            rw [List.take_length] at hgd
            exact ⟨⟨_, SqL.of (hDv _ s6), by rw [List.length_map]; exact Nat.le_refl _⟩, q H6 true (s5.trans s6) ⟨fun _ => ⟨hP, hgd⟩, fun _ => rfl⟩⟩
end
end RF
/-! ## A28 -/
set_option Elab.async false
set_option linter.all false
set_option maxRecDepth 100000
set_option maxHeartbeats 4000000
namespace RF
open PySem PySem.Spec PyProof.Rows L2
section
variable {P : Program} {w : World} {K : PySem.W.Frag} {mg : Str → Option Value} {base : Heap}
def LStopsG (rs : List Rp) (ss : List (Int × Int)) (sts : List (Int × List Int)) : Prop := (sts.map Prod.fst).Perm (dueL rs ss) ∧ ∀ c ∈ dueL rs ss, ∀ cs, lkp sts c = some cs → (cs ≠ [] ∧ ChOk rs 0 cs c) ∧ dst rs 0 c = some (chSum rs cs)
noncomputable def dueF (rs : List Rp) (s : Int × Int) : Option V := if isDue rs s = true then some (.int s.1) else none
theorem due_fm (rs : List Rp) : ∀ ss : List (Int × Int), ss.filterMap (dueF rs) = (dueL rs ss).map V.int
  | [] => rfl
  | s :: ss => by
    have ih := due_fm rs ss
    unfold dueL at ih ⊢
    rw [List.filterMap_cons, List.filter_cons]
    unfold dueF at ih ⊢
    by_cases h : isDue rs s = true
    · rw [if_pos h, if_pos h, List.map_cons, List.map_cons, ← ih]
    · rw [if_neg h, if_neg h]; exact ih
theorem sort_iff {xs ys as bs : List Int} (h1 : as.Perm xs) (s1 : as.Pairwise (· ≤ ·)) (h2 : bs.Perm ys) (s2 : bs.Pairwise (· ≤ ·)) : as = bs ↔ xs.Perm ys :=
  ⟨fun e => h1.symm.trans (by rw [e]; exact h2), fun h => ((h1.trans h).trans h2.symm).eq_of_pairwise (le := (· ≤ ·)) (fun a b _ _ h1 h2 => Int.le_antisymm h1 h2) s1 s2⟩
def sp_law_stops (K : PySem.W.Frag) : Sp := fun vs H Q _ => ∃ (l d sl sd : Addr) (n : Nat) (rs : List Rp) (ss : List (Int × Int)) (sts : List (Int × List Int)), vs = [.ref l, .ref d, .ref sl, .ref sd] ∧ RowsAt H l rs ∧ WfR n rs ∧ rs.length ≤ 60 ∧ n ≤ 8 ∧ MatAt H d n (n + 1) (fun k g => dst rs k g) ∧ SlipsAt H sl ss ∧ WfS n ss ∧ StopsAt H sd sts ∧ sts.length ≤ 40 ∧
  ∀ H' b, Same H H' → (b = true ↔ LStopsG rs ss sts) → Q (.bl b) H'
abbrev N_law_stops : List Str := ["_law_ropes_here", "_law_dist_here", "_law_slips_here", "_law_stops_here", "_law_knot", "_law_due", "_law_slip", "_law_knots_here", "_law_number_here"]
theorem sc_law_stops : FnScope N_law_stops ["_law_ropes_here", "_law_dist_here", "_law_slips_here", "_law_stops_here"] (defScope s_law_stops) := ⟨rfl, rfl, rfl, by decide +kernel, rfl, by decide +kernel, by decide +kernel⟩
theorem ok_law_stops (T : TX K mg) : Okd P w K mg base 3 "_law_stops" ["_law_ropes_here", "_law_dist_here", "_law_slips_here", "_law_stops_here"] (sp_law_stops K) := by
  obtain ⟨fd, F⟩ := T.d_law_stops
  refine okd_of F T.g_law_stops sc_law_stops (fun _ _ _ _ _ _ us hl => match us, hl with | [_, _, _, _], _ => rfl) ?_ ?_
  · rintro vs H Q E ⟨l, d, sl, sd, n, rs, ss, sts, rfl, _⟩; rfl
  · rintro cdv A outer s H vs Q E' hr ⟨l, d, sl, sd, n, rs, ss, sts, rfl, hl, hw, h60, h8, hd, hs, hws, hst, h40, q⟩
    have hu := hu_of hr
    refine ⟨_, (pss_cons (ps_if (PW.pt (pw_or (pt_not (pt_val (pe_callB (call_isiK2 (K := K) rfl) (by rfl) T.b_isinstance bt_isinstance (pa_cons (pv 3) (pa_cons (pe_bltn (v := .ty "dict") (by rfl) T.b_dict bt_dict rfl) pa_nil))))) (pw_or1 (pt_not (pt_val (pe_callB (cr_allK (K := K) rfl rfl) (by rfl) T.b_all bt_all (pa_cons (pe_lock (pe_lc (own := [("_law_knot", 4)]) (g := gName 4) rfl (sc_law_stops).nd (pi_keys (pv 3)) (blkOk_by (N := N_law_stops) (sc := defScope s_law_stops) (own := [("_law_knot", 4)]) (by decide +kernel)) (fun _ _ _ _ _ => (pg_name (i := 4) (sc_law_stops).nd rfl (.inl rfl))) (fun _ _ _ _ _ => pts_nil) (fun _ _ _ _ _ => (pe_callD (ok_law_whole T) hr (by decide) (by rfl) (pa_cons (pv 4) pa_nil))))) pa_nil))))))) (pss_one (ps_ret pe_bl)) pss_nil)
  (pss_cons (ps_setLc (i := 5) (own := [("_law_slip", 6)]) (g := gName 6) rfl (sc_law_stops).nd rfl rfl (sw_true rfl rfl rfl (by decide +kernel)) (pi_listK (K := K) rfl (pv 2)) (blkOk_by (N := N_law_stops) (sc := defScope s_law_stops) (own := [("_law_slip", 6)]) (by decide +kernel)) (fun _ _ _ _ _ => (pg_name (i := 6) (sc_law_stops).nd rfl (.inl rfl))) (fun _ _ _ _ _ => (pts_one (PW.pt (pw_and (pt_cmpR op_notN (pe_ix (ix_listK (K := K) rfl) (pe_ix (ix_listK (K := K) rfl) (pv 1) pe_int (fun _ _ => rfl)) (pe_ix (ix_tupK (K := K) rfl) (pv 6) pe_int (fun _ _ => rfl)) (fun _ _ => rfl)) pe_non (nomark _)) (pw_and1 (pt_cmpR op_lt (pe_ix (ix_tupK (K := K) rfl) (pv 6) pe_int (fun _ _ => rfl)) (pe_op op_sub pe_int (pe_ix (ix_listK (K := K) rfl) (pe_ix (ix_listK (K := K) rfl) (pv 1) pe_int (fun _ _ => rfl)) (pe_ix (ix_tupK (K := K) rfl) (pv 6) pe_int (fun _ _ => rfl)) (fun _ _ => rfl))) (nomark _))))))) (fun _ _ _ _ _ => (pe_ix (ix_tupK (K := K) rfl) (pv 6) pe_int (fun _ _ => rfl))))
  (pss_cons (ps_if (pt_cmpR (op_neIK (K := K) rfl hr.units) (pe_callB (call_sortedDI rfl) (by rfl) T.b_sorted bt_sorted (pa_cons (pv 3) pa_nil)) (pe_callB (cr_sortedK (K := K) rfl) (by rfl) T.b_sorted bt_sorted (pa_cons (pv 5) pa_nil)) (nomark _)) (pss_one (ps_ret pe_bl)) pss_nil)
  (pss_cons (ps_for PassesOwn.never rfl (pi_listK (K := K) rfl (pv 5)) (pg_name (i := 4) (sc_law_stops).nd rfl (.inl rfl)) (pss_cons (ps_set (i := 7) (sc_law_stops).nd rfl (.inl rfl) (pe_callD (ok_law_knots T) hr (by decide) (by rfl) (pa_cons (pv 0) (pa_cons (pe_dget hu (pv 3) (pv 4) (fun _ _ => rfl)) pa_nil))))
  (pss_cons (ps_if (PW.pt (pw_or (pt_cmpR (op_eqIK (K := K) rfl hr.units) (pv 7) (pe_lst pa_nil) (nomark _)) (pw_or (pt_cmpR op_ne (pe_ix (ix_listK (K := K) rfl) (pv 7) pe_int (fun _ _ => rfl)) pe_int (nomark _)) (pw_or1 (pt_cmpR op_ne (pe_ix (ix_listK (K := K) rfl) (pv 7) (pe_un un_neg pe_int) (fun _ _ => rfl)) (pv 4) (nomark _)))))) (pss_one (ps_ret pe_bl)) pss_nil)
  (pss_one (ps_if (pt_cmpR op_ne (pe_callB (cr_sumK (K := K) rfl rfl) (by rfl) T.b_sum bt_sum (pa_cons (pe_lc (own := [("_law_number_here", 8)]) (g := gName 8) rfl (sc_law_stops).nd (pi_listK (K := K) rfl (pe_dget hu (pv 3) (pv 4) (fun _ _ => rfl))) (blkOk_by (N := N_law_stops) (sc := defScope s_law_stops) (own := [("_law_number_here", 8)]) (by decide +kernel)) (fun _ _ _ _ _ => (pg_name (i := 8) (sc_law_stops).nd rfl (.inl rfl))) (fun _ _ _ _ _ => pts_nil) (fun _ _ _ _ _ => (pe_ix (ix_tupK (K := K) rfl) (pe_ix (ix_listK (K := K) rfl) (pv 0) (pv 8) (fun _ _ => rfl)) pe_int (fun _ _ => rfl)))) pa_nil)) (pe_ix (ix_listK (K := K) rfl) (pe_ix (ix_listK (K := K) rfl) (pv 1) pe_int (fun _ _ => rfl)) (pv 4) (fun _ _ => rfl)) (nomark _)) (pss_one (ps_ret pe_bl)) pss_nil)))))
  (pss_one (ps_ret pe_bl)))))), ?_⟩
    obtain ⟨es, hsd, hps⟩ := id hst
    have hsl := hws.len
    have hel : es.length = sts.length := hps.length
    obtain ⟨as, hal, hsl1, hat⟩ := hs.get
    refine ⟨_, rfl, _, .ty "dict", .type "dict", .type "dict", _, rfl, .ty _, .base (.dK (hsd)), kt_dd, true, rfl, iteF ?_⟩
    refine ⟨sd, _, hsd, trivial, fun od => ?_⟩
    generalize hHf : upd H sd (.frz od (.dK (gkv V.ref es))) = Hf
    have hpf : Hf sd = some (.frz od (.dK (gkv V.ref es))) := by rw [← hHf]; exact upd_same
    refine ⟨_, rfl, sd, od, rfl, .inl ⟨_, hpf, fun B hB => ?_⟩⟩
    refine lc_gen (n := es.length) (fun _ => some (V.bl true)) (Nat.le_trans (show es.length ≤ 100 by omega) (by decide)) hB (fun i H' hi sm => ⟨sm _ _ hpf, by rw [gkv_len]; exact hi⟩) (fun H' sm => ⟨sm _ _ hpf, by rw [gkv_len]; exact Nat.le_refl _⟩) (fun i x H2 H3 Qt Qf hi sm y k1 k2 => ?_) (fun H2 sm2 hd2 => ?_)
    · obtain ⟨rfl, k, v, hkv, rfl⟩ := y
      obtain ⟨⟨c, x⟩, hp, e1⟩ := gkv_get hkv
      cases e1
      exact ⟨rfl, _, rfl, c, rfl, k1 _ _ rfl (Same.refl _)⟩
    · rw [fm_bools (p := fun _ => true) _ (fun i _ => rfl)] at hd2
      have ea : ((List.range es.length).map fun _ => true).all id = true := (all_range _ _).mpr fun _ _ => rfl
      refine ⟨sm2 _ _ hpf, ?_⟩
      have hBp : B ≠ sd := (ne_of_none hpf hB).symm
      have s1 : Same H (upd H2 sd (.dK (gkv V.ref es))) := same_frz hsd (by rw [hHf]; exact sm2)
      have hB1 : (upd H2 sd (.dK (gkv V.ref es))) B = some (.lst (((List.range es.length).map fun _ => true).map V.bl)) := by rw [upd_ne hBp]; exact hd2
      revert s1 hB1
      generalize upd H2 sd (.dK (gkv V.ref es)) = H1
      intro s1 hB1
      refine ⟨B, _, rfl, SqL.of hB1, _, rfl, ?_⟩
      rw [ea]
      refine iteF ?_
      -- due
      have hl1 := s1 _ _ hsl1
      obtain ⟨rows, a, m1, m2, m3⟩ := (hd.same s1).at_ (k := 0) ⟨by omega, by omega⟩
      refine ⟨_, rfl, sl, rfl, ⟨_, SqL.of hl1⟩, fun D hD => ?_⟩
      refine lc_gen (n := ss.length) (fun i => (ss[i]?).bind (dueF rs)) (Nat.le_trans (show ss.length ≤ 100 by omega) (by decide)) hD (fun i H' hi sm => ⟨_, _, SqL.of (sm _ _ hl1), get_map2 (List.getElem?_eq_getElem (by rw [hal]; exact hi))⟩) (fun H' sm => ⟨_, SqL.of (sm _ _ hl1), by rw [List.length_map, hal]; exact Nat.le_refl _⟩) (fun i x H3 H4 Qt Qf hi sm y k1 k2 => ?_) (fun H3 sm3 hd3 => ?_)
      · obtain ⟨rfl, y⟩ := y
        obtain ⟨b, hb, rfl⟩ := get_map (y _ (SqL.of (sm _ _ hl1)))
        obtain ⟨⟨c, to⟩, hsi, hb2⟩ := hat _ _ hb
        have hcm := hws.2 _ (List.mem_of_getElem? hsi)
        have hkc : Kn n c := ⟨by have := hcm.1; show 0 ≤ c; omega, hcm.2⟩
        have hb3 := sm _ _ (s1 _ _ hb2)
        have hm1 := sm _ _ m1
        have hm3 := sm _ _ m3
        have ef : (ss[i]?).bind (dueF rs) = dueF rs (c, to) := by rw [hsi]; rfl
        have hfd : isDue rs (c, to) = match dst rs 0 c with
          | none => false
          | some dd => decide (to < 0 - dd) := rfl
        refine ⟨rfl, _, rfl, d, _, 0, .ref a, rfl, rfl, SqL.of hm1, m2, _, rfl, b, _, 0, .int c, rfl, rfl, SqT.of hb3, rfl, a, _, c, _, rfl, rfl, SqL.of hm3, mapV_at hkc, rfl, _, rfl, ?_⟩
        have hat2 : atI (mapV n fun g => dst rs 0 g) c = some (optV (dst rs 0 c)) := mapV_at hkc
        cases hdc : dst rs 0 c with
        | none =>
          refine iteF (k2 _ ?_ (Same.refl _))
          rw [ef]
          unfold dueF
          rw [if_neg (by rw [hfd, hdc]; exact Bool.false_ne_true)]
        | some dd =>
          rw [hdc] at hat2
          refine iteT ?_
          refine ⟨_, rfl, b, _, 1, .int to, rfl, rfl, SqT.of hb3, rfl, _, rfl, d, _, 0, .ref a, rfl, rfl, SqL.of hm1, m2, _, rfl, b, _, 0, .int c, rfl, rfl, SqT.of hb3, rfl, a, _, c, .int dd, rfl, rfl, SqL.of hm3, hat2, _, _, rfl, rfl, _, _, rfl, rfl, _, rfl, ?_⟩
          by_cases hlt : to < 0 - dd
          · rw [decide_eq_true hlt]
            refine iteT ⟨_, rfl, b, _, 0, .int c, rfl, rfl, SqT.of hb3, rfl, k1 _ _ ?_ (Same.refl _)⟩
            rw [ef]
            unfold dueF
            rw [if_pos (by rw [hfd, hdc]; exact decide_eq_true hlt)]
          · rw [decide_eq_false hlt]
            refine iteF (k2 _ ?_ (Same.refl _))
            rw [ef]
            unfold dueF
            rw [if_neg (by rw [hfd, hdc]; exact fun z => hlt (of_decide_eq_true z))]
      · rw [range_fm, due_fm] at hd3
        have s3 := s1.trans sm3
        have hdul : (dueL rs ss).length ≤ 8 := by
          unfold dueL
          rw [List.length_map]
          exact Nat.le_trans (List.length_filter_le ..) (by omega)
        -- sorted
        refine ⟨_, rfl, sd, _, sts.map Prod.fst, rfl, .inl (s3 _ _ hsd), ?_, by rw [List.length_map]; omega, fun ys p hperm hys hp => ?_⟩
        · rw [← st_keys hps]
          unfold gkv
          rw [List.map_map, List.map_map]
          rfl
        have s4 : Same H3 (upd H3 p (.lst (ys.map V.int))) := same_upd hp
        refine ⟨_, rfl, D, dueL rs ss, rfl, SqL.of (s4 _ _ hd3), by omega, fun zs p2 hperm2 hzs hp2 => ?_⟩
        have s5 : Same (upd H3 p (.lst (ys.map V.int))) (upd (upd H3 p (.lst (ys.map V.int))) p2 (.lst (zs.map V.int))) := same_upd hp2
        refine ⟨p, p2, ys, zs, rfl, rfl, SqL.of (s5 _ _ upd_same), SqL.of upd_same, _, rfl, ?_⟩
        have s6 := s3.trans (s4.trans s5)
        have hD6 := s5 _ _ (s4 _ _ hd3)
        revert s6 hD6
        generalize upd (upd H3 p (.lst (ys.map V.int))) p2 (.lst (zs.map V.int)) = H6
        intro s6 hD6
        have hsrt := sort_iff hperm hys hperm2 hzs
        by_cases heq : ys = zs
        · rw [decide_eq_true heq]
          refine iteF ?_
          have hpm := hsrt.mp heq
          refine ⟨_, rfl, D, rfl, ⟨_, SqL.of hD6⟩, ?_⟩
          refine for_gen (n := (dueL rs ss).length) (fun i σ H7 => ∃ v4 v6 v7 v8, σ = [some (.ref l), some (.ref d), some (.ref sl), some (.ref sd), v4, some (.ref D), v6, v7, v8] ∧ Same H6 H7 ∧ ∀ c ∈ (dueL rs ss).take i, ∀ cs, lkp sts c = some cs → (cs ≠ [] ∧ ChOk rs 0 cs c) ∧ dst rs 0 c = some (chSum rs cs))
            ⟨_, _, _, _, rfl, Same.refl _, fun c z => by simp at z⟩ (fun i σ H7 hi p => ?_) (fun i x σ H7 H8 hi p y => ?_) (fun σ H7 p => ?_)
          · obtain ⟨_, _, _, _, _, s7, _⟩ := p
            exact ⟨_, _, SqL.of (s7 _ _ hD6), get_map2 (List.getElem?_eq_getElem hi)⟩
          · obtain ⟨v4, v6, v7, v8, rfl, s7, hgd⟩ := p
            obtain ⟨rfl, y⟩ := y
            obtain ⟨c, hc, rfl⟩ := get_map (y _ (SqL.of (s7 _ _ hD6)))
            have hcm := List.mem_of_getElem? hc
            have hkc : Kn n c := by
              have := key_pos hws (due_sub hcm)
              exact ⟨by omega, this.2⟩
            have s07 := s6.trans s7
            rcases st_lkp (c := c) hps with ⟨_, hn⟩ | ⟨a2, cs, hea, hcs, ha2, hlen⟩
            · exact absurd (hpm.mem_iff.mpr hcm) (lkp_none.mp hn)
            have hgv : ∀ Hx, Same H Hx → DGet Hx sd (.int c) (some (.ref a2)) := fun Hx sx => by
              rw [show some (V.ref a2) = valV (gkv V.ref es) (Sum.inl c : Key) by rw [gkv_val, hea]; rfl]
              exact DGet.k (k := Sum.inl c) (sx _ _ hsd)
            obtain ⟨to, hto⟩ : ∃ to, (c, to) ∈ ss := by
              obtain ⟨s, h1, h2⟩ := List.mem_map.mp (due_sub hcm)
              exact ⟨s.2, by rw [← h2]; exact h1⟩
            obtain ⟨dd, hdd, _⟩ := (due_iff hws hto).mp hcm
            have bad : ∀ Hx, Same H Hx → ¬ ((cs ≠ [] ∧ ChOk rs 0 cs c) ∧ dst rs 0 c = some (chSum rs cs)) → Q (.bl false) Hx := fun Hx sx hn => q Hx false sx ⟨fun z => (by cases z), fun z => absurd (z.2 c hcm cs hcs) hn⟩
            refine ⟨_, rfl, _, rfl, _, rfl, sd, _, rfl, hgv _ s07, l, a2, rs, cs, rfl, hl.same s07, h60, s07 _ _ ha2, Nat.le_trans hlen (by decide), fun H9 p ks s9 hp hkn => ?_⟩
            have s09 := s07.trans s9
            refine ⟨_, rfl, Nat.zero_le _, fun z hz => ⟨p, z, ks, [], rfl, rfl, SqL.of (same_upd hz _ _ hp), SqL.of upd_same, _, rfl, ?_⟩⟩
            have s10 : Same H9 (upd H9 z (.lst [])) := same_upd hz
            revert s10
            generalize upd H9 z (.lst []) = H10
            intro s10
            have s010 := s09.trans s10
            have hp10 := s10 _ _ hp
            rcases hkn with ⟨rfl, hno⟩ | ⟨u, lz, m, rfl, hlast, hne, hch⟩
            · rw [decide_eq_true rfl]
              exact iteT (bad _ s010 fun z => hno.elim (fun e => z.1.1 e) fun h => h 0 c z.1.2)
            · rw [decide_eq_false (fun z => by cases z)]
              refine iteF ?_
              refine ⟨_, rfl, p, _, 0, .int u, rfl, rfl, SqL.of hp10, atI_nat (j := 0) rfl, rfl, _, rfl, ?_⟩
              by_cases hu0 : u = 0
              · rw [decide_eq_true (by rw [hu0])]
                refine iteF ?_
                subst hu0
                refine ⟨_, rfl, 1, rfl, p, _, -1, _, rfl, rfl, SqL.of hp10, hlast, _, rfl, rfl, _, rfl, ?_⟩
                by_cases hlc : lz = c
                · rw [decide_eq_true (by rw [hlc])]
                  refine iteF ?_
                  subst hlc
                  have ha10 := s010 _ _ ha2
                  refine ⟨_, rfl, _, rfl, sd, _, rfl, hgv _ s010, a2, rfl, ⟨_, SqL.of ha10⟩, fun D2 hD2 => ?_⟩
                  refine lc_gen (n := cs.length) (fun i => (cs[i]?).map fun k => V.int (rowOf rs k).2.2) (Nat.le_trans (show cs.length ≤ 900 from hlen) (by decide)) hD2 (fun i H' hi sm => ⟨_, _, SqL.of (sm _ _ ha10), get_map2 (List.getElem?_eq_getElem hi)⟩) (fun H' sm => ⟨_, SqL.of (sm _ _ ha10), by rw [List.length_map]; exact Nat.le_refl _⟩) (fun j x H11 H12 Qt Qf hj sm y k1 k2 => ?_) (fun H11 sm11 hd11 => ?_)
                  · obtain ⟨rfl, y⟩ := y
                    obtain ⟨k, hk, rfl⟩ := get_map (y _ (SqL.of (sm _ _ ha10)))
                    have hin := ((ch_rows cs 0 lz).mp hch).1 k (List.mem_of_getElem? hk)
                    obtain ⟨as2, b, n1, n2, n3⟩ := (hl.same (s010.trans sm)).at_ hin.1 (row_get hin.1 hin.2)
                    have n3 : H12 b = some (.tup [.int (rowOf rs k).1, .int (rowOf rs k).2.1, .int (rowOf rs k).2.2]) := n3
                    refine ⟨rfl, _, rfl, _, rfl, l, _, k, .ref b, rfl, rfl, SqL.of n1, n2, b, _, 2, .int (rowOf rs k).2.2, rfl, rfl, SqT.of n3, rfl, k1 _ _ ?_ (Same.refl _)⟩
                    rw [hk]; rfl
                  · rw [range_map] at hd11
                    have hd11 : H11 D2 = some (.lst ((cs.map fun k => (rowOf rs k).2.2).map V.int)) := by rw [hd11, List.map_map]; rfl
                    refine ⟨D2, _, rfl, SqL.of hd11, ?_⟩
                    rw [← chSum_rows]
                    have s011 := s010.trans sm11
                    obtain ⟨rows2, a3, o1, o2, o3⟩ := (hd.same s011).at_ (k := 0) ⟨by omega, by omega⟩
                    have hat2 : atI (mapV n fun g => dst rs 0 g) lz = some (.int dd) := by rw [mapV_at hkc, hdd]; rfl
                    refine ⟨_, rfl, d, _, 0, .ref a3, rfl, rfl, SqL.of o1, o2, _, rfl, a3, _, lz, .int dd, rfl, rfl, SqL.of o3, hat2, rfl, _, rfl, ?_⟩
                    by_cases hsum : chSum rs cs = dd
                    · rw [decide_eq_true (by rw [hsum])]
                      refine iteF ⟨_, _, _, _, rfl, (s7.trans s9).trans (s10.trans sm11), fun c' hc' cs' hcs' => ?_⟩
                      rw [List.take_add_one, hc] at hc'
                      rcases List.mem_append.mp hc' with z | z
                      · exact hgd c' z cs' hcs'
                      · have z : c' = lz := by simpa using z
                        subst z
                        rw [hcs] at hcs'
                        cases hcs'
                        exact ⟨⟨hne, hch⟩, by rw [hdd, hsum]⟩
                    · rw [decide_eq_false (fun z => hsum (V.int.inj z))]
                      refine iteT (bad _ s011 fun z => hsum ?_)
                      have := z.2
                      rw [hdd] at this
                      exact (Option.some.inj this).symm
                · rw [decide_eq_false (fun z => hlc (V.int.inj z))]
                  exact iteT (bad _ s010 fun z => hlc (ch_det hch z.1.2))
              · rw [decide_eq_false (fun z => hu0 (V.int.inj z))]
                refine iteT (bad _ s010 fun z => hu0 ?_)
                cases hcs0 : cs with
                | nil => exact absurd hcs0 hne
                | cons k t =>
                  rw [hcs0] at hch z
                  rw [ch_head hch, ← ch_head z.1.2]
          · obtain ⟨v4, v6, v7, v8, rfl, s7, hgd⟩ := p
            rw [List.take_length] at hgd
            exact ⟨⟨_, SqL.of (s7 _ _ hD6), by rw [List.length_map]; exact Nat.le_refl _⟩, q H7 true (s6.trans s7) ⟨fun _ => ⟨hpm, hgd⟩, fun _ => rfl⟩⟩
        · rw [decide_eq_false heq]
          exact iteT (q H6 false s6 ⟨fun z => (by cases z), fun z => absurd (hsrt.mpr z.1) heq⟩)
end
end RF
/-! ## A29 -/
set_option Elab.async false
set_option linter.all false
set_option maxRecDepth 100000
set_option maxHeartbeats 4000000
namespace RF
open PySem PySem.Spec PyProof.Rows L2
section
variable {P : Program} {w : World} {K : PySem.W.Frag} {mg : Str → Option Value} {base : Heap}
def LFallG (rs : List Rp) (n : Nat) (S : List Int) (ss : List (Int × Int)) (F : List Int) (sts : List (Int × List Int)) (pls : List (Int × Option Int)) : Prop :=
  Lets rs F ∧ IsFal rs n (capF S (limF rs ss)) F ∧ LStopsG rs ss sts ∧ LPullsG rs S F n (limF rs ss) pls
theorem lim_zero {rs : List Rp} {n : Nat} {ss : List (Int × Int)} (hw : WfS n ss) : limF rs ss 0 = none := by
  have : lkp ss 0 = none := lkp_none.mpr fun z => by have := (key_pos hw z).1; omega
  unfold limF
  rw [this]
def sp_law_fall (K : PySem.W.Frag) : Sp := fun vs H Q _ => ∃ (l d h sl t : Addr) (n : Nat) (rs : List Rp) (S F : List Int) (ss : List (Int × Int)) (pls : List (Int × Option Int)) (sts : List (Int × List Int)), vs = [.ref l, .ref d, .ref h, .ref sl, .ref t] ∧ RowsAt H l rs ∧ WfR n rs ∧ rs.length ≤ 60 ∧ n ≤ 8 ∧
  MatAt H d n (n + 1) (fun k g => dst rs k g) ∧ AllD rs n ∧ H h = some (.lst ((0 :: S).map V.int)) ∧ S.length = n ∧ SlipsAt H sl ss ∧ WfS n ss ∧ PaperAt H t F pls sts ∧ F.length = n ∧ pls.map Prod.fst = downL S F n ∧ sts.length ≤ 40 ∧
  ∀ H' b, Same H H' → (b = true ↔ LFallG rs n S ss F sts pls) → Q (.bl b) H'
abbrev N_law_fall : List Str := ["_law_ropes_here", "_law_dist_here", "_law_high", "_law_slips_here", "_law_thing", "_law_many", "_law_limits_here"]
theorem sc_law_fall : FnScope N_law_fall ["_law_ropes_here", "_law_dist_here", "_law_high", "_law_slips_here", "_law_thing"] (defScope s_law_fall) := ⟨rfl, rfl, rfl, by decide +kernel, rfl, by decide +kernel, by decide +kernel⟩
theorem ok_law_fall (T : TX K mg) : Okd P w K mg base 4 "_law_fall" ["_law_ropes_here", "_law_dist_here", "_law_high", "_law_slips_here", "_law_thing"] (sp_law_fall K) := by
  obtain ⟨fd, F⟩ := T.d_law_fall
  refine okd_of F T.g_law_fall sc_law_fall (fun _ _ _ _ _ _ us hl => match us, hl with | [_, _, _, _, _], _ => rfl) ?_ ?_
  · rintro vs H Q E ⟨l, d, h, sl, t, n, rs, S, F, ss, pls, sts, rfl, _⟩; rfl
  · rintro cdv A outer s H vs Q E' hr ⟨l, d, h, sl, t, n, rs, S, F, ss, pls, sts, rfl, hl, hw, h60, h8, hd, hA, hh, hSl, hs, hws, hP, hFl, hks, h40, q⟩
    refine ⟨_, (pss_cons (ps_set (i := 5) (sc_law_fall).nd rfl (.inl rfl) (pe_op op_sub (pe_callB (call_len_seqK (K := K) rfl) (by rfl) T.b_len bt_len (pa_cons (pv 2) pa_nil)) pe_int))
  (pss_cons (ps_if (PW.pt (pw_or (pt_not (pt_val (pe_callB (call_isiK2 (K := K) rfl) (by rfl) T.b_isinstance bt_isinstance (pa_cons (pv 4) (pa_cons (pe_bltn (v := .ty "tuple") (by rfl) T.b_tuple bt_tuple rfl) pa_nil))))) (pw_or (pt_cmpR op_ne (pe_callB (call_len_seqK (K := K) rfl) (by rfl) T.b_len bt_len (pa_cons (pv 4) pa_nil)) pe_int (nomark _)) (pw_or1 (pt_not (pt_val (pe_callD (ok_law_stand T) hr (by decide) (by rfl) (pa_cons (pv 0) (pa_cons (pv 5) (pa_cons (pe_ix (ix_tupK (K := K) rfl) (pv 4) pe_int (fun _ _ => rfl)) pa_nil)))))))))) (pss_one (ps_ret pe_bl)) pss_nil)
  (pss_cons (ps_set (i := 6) (sc_law_fall).nd rfl (.inl rfl) (pe_callD (ok_law_limits T) hr (by decide) (by rfl) (pa_cons (pv 1) (pa_cons (pv 3) pa_nil))))
  (pss_cons (ps_if (PW.pt (pw_or (pt_cmpR (op_neIK (K := K) rfl hr.units) (pe_ix (ix_tupK (K := K) rfl) (pv 4) pe_int (fun _ _ => rfl)) (pe_slice (sl_listK (K := K) rfl) (pe_callD (ok_law_fallen T) hr (by decide) (by rfl) (pa_cons (pv 1) (pa_cons (pv 2) (pa_cons (pv 6) pa_nil)))) (po_some pe_int) po_none) (nomark _)) (pw_or1 (pt_not (pt_val (pe_callD (ok_law_stops T) hr (by decide) (by rfl) (pa_cons (pv 0) (pa_cons (pv 1) (pa_cons (pv 3) (pa_cons (pe_ix (ix_tupK (K := K) rfl) (pv 4) pe_int (fun _ _ => rfl)) pa_nil)))))))))) (pss_one (ps_ret pe_bl)) pss_nil)
  (pss_one (ps_ret (pe_callD (ok_law_pulls T) hr (by decide) (by rfl) (pa_cons (pv 0) (pa_cons (pv 2) (pa_cons (pe_op op_cat (pe_lst (pa_cons pe_int pa_nil)) (pe_ix (ix_tupK (K := K) rfl) (pv 4) pe_int (fun _ _ => rfl))) (pa_cons (pv 6) (pa_cons (pe_ix (ix_tupK (K := K) rfl) (pv 4) pe_int (fun _ _ => rfl)) pa_nil)))))))))))), ?_⟩
    obtain ⟨hf, pd, sd, ht, hF, hpd, hst⟩ := hP
    refine ⟨_, rfl, h, _, rfl, .inl (SqL.of hh), (n : Int) + 1, 1, by rw [List.length_map, List.length_cons, hSl]; rfl, rfl, ?_⟩
    have e1 : (n : Int) + 1 - 1 = n := by omega
    refine ⟨_, rfl, _, .ty "tuple", .type "tuple", .type "tuple", _, rfl, .ty _, .base (.tup (ht)), kt_tt, true, rfl, iteF ?_⟩
    refine ⟨_, rfl, t, _, rfl, .inr (SqT.of ht), rfl, false, rfl, iteF ?_⟩
    refine ⟨_, rfl, _, rfl, _, rfl, t, _, 0, .ref hf, rfl, rfl, SqT.of ht, rfl, l, hf, rs, F, n, congrArg (fun z => [V.ref l, V.int z, V.ref hf]) e1, hl, hw, h60, h8, hFl, hF, fun H1 b s1 hb => ?_⟩
    refine ⟨_, rfl, ?_⟩
    cases b with
    | false => exact iteT (q H1 false s1 ⟨fun z => (by cases z), fun z => by have := hb.mpr z.1; cases this⟩)
    | true =>
      have hLF := hb.mp rfl
      refine iteF ?_
      refine ⟨_, rfl, _, rfl, d, sl, rs, n, ss, rfl, hd.same s1, hs.same s1, hws, h8, fun H2 lm s2 hlm => ?_⟩
      have s02 := s1.trans s2
      have ht2 := s02 _ _ ht
      have hlm2 := nw_sub _ _ hlm
      refine ⟨_, rfl, t, _, 0, .ref hf, rfl, rfl, SqT.of ht2, rfl, ?_⟩
      refine ⟨_, rfl, _, rfl, _, rfl, d, h, lm, rs, S, n, limF rs ss, rfl, hd.same s02, hA, s02 _ _ hh, hSl, h8, hlm2, lim_zero hws, fun H3 p f0 G s3 hp hG => ?_⟩
      refine ⟨1, rfl, p, _, rfl, SqL.of hp, fun p2 hp2 => ?_⟩
      rw [slice1]
      have s4 : Same H3 (upd H3 p2 (.lst (((f0 :: G).map V.int).drop 1))) := same_upd hp2
      have hp4 : (upd H3 p2 (.lst (((f0 :: G).map V.int).drop 1))) p2 = some (.lst (G.map V.int)) := upd_same
      revert s4 hp4
      generalize upd H3 p2 (.lst (((f0 :: G).map V.int).drop 1)) = H4
      intro s4 hp4
      have s04 := s02.trans (s3.trans s4)
      refine ⟨hf, p2, F, G, rfl, rfl, SqL.of (s04 _ _ hF), SqL.of hp4, _, rfl, ?_⟩
      by_cases hFG : F = G
      · rw [decide_eq_true hFG]
        refine iteF ?_
        have hG : IsFal rs n (capF S (limF rs ss)) F := by rw [hFG]; exact hG
        have ht4 := s04 _ _ ht
        refine ⟨_, rfl, _, rfl, _, rfl, _, rfl, t, _, 2, .ref sd, rfl, rfl, SqT.of ht4, rfl, l, d, sl, sd, n, rs, ss, sts, rfl, hl.same s04, hw, h60, h8, hd.same s04, hs.same s04, hws, hst.same s04, h40, fun H5 b s5 hb => ?_⟩
        have s05 := s04.trans s5
        refine ⟨_, rfl, ?_⟩
        cases b with
        | false => exact iteT (q H5 false s05 ⟨fun z => (by cases z), fun z => by have := hb.mpr z.2.2.1; cases this⟩)
        | true =>
          have hLS := hb.mp rfl
          refine iteF ?_
          have ht5 := s05 _ _ ht
          refine ⟨_, rfl, _, rfl, by decide, fun z hz => ⟨_, rfl, t, _, 0, .ref hf, rfl, rfl, SqT.of (same_upd hz _ _ ht5), rfl, z, hf, _, _, rfl, rfl, upd_same, same_upd hz _ _ (s05 _ _ hF), (by rw [List.length_map]; exact Nat.le_trans (Nat.add_le_add_left (show F.length ≤ 8 by omega) _) (by decide)), fun p5 hp5 => ?_⟩⟩
          have s6 : Same H5 (upd (upd H5 z (.lst [.int 0])) p5 (.lst ([V.int 0] ++ F.map V.int))) := (same_upd hz).trans (same_upd hp5)
          have hp6 : (upd (upd H5 z (.lst [.int 0])) p5 (.lst ([V.int 0] ++ F.map V.int))) p5 = some (.lst ((0 :: F).map V.int)) := upd_same
          revert s6 hp6
          generalize upd (upd H5 z (.lst [.int 0])) p5 (.lst ([V.int 0] ++ F.map V.int)) = H6
          intro s6 hp6
          have s06 := s05.trans s6
          have ht6 := s06 _ _ ht
          refine ⟨_, rfl, _, rfl, t, _, 1, .ref pd, rfl, rfl, SqT.of ht6, rfl, l, h, p5, lm, pd, n, rs, S, F, limF rs ss, pls, rfl, hl.same s06, hw, h8, s06 _ _ hh, hSl, hp6, hFl, s6 _ _ (s5 _ _ (s4 _ _ (s3 _ _ hlm2))), s06 _ _ hpd, hks, fun H7 b s7 hb7 => ?_⟩
          exact q H7 b (s06.trans s7) (hb7.trans ⟨fun z => ⟨hLF, hG, hLS, z⟩, fun z => z.2.2.2⟩)
      · rw [decide_eq_false hFG]
        exact iteT (q H4 false s04 ⟨fun z => (by cases z), fun z => absurd (fal_ext z.2.1 hG fun _ _ => rfl) hFG⟩)
end
end RF
/-! ## MthE -/
set_option Elab.async false
set_option linter.all false
set_option maxRecDepth 100000
set_option maxHeartbeats 4000000
namespace RF
open PySem PySem.Spec PyProof.Rows L2
section
variable {P : Program} {w : World} {K : PySem.W.Frag} {mg : Str → Option Value} {base : Heap}
theorem end_lim {rs : List Rp} {n : Nat} {ss : List (Int × Int)} {sts : List (Int × List Int)} (hw : WfS n ss) (hk : ∀ c, c ∈ sts.map Prod.fst ↔ c ∈ dueL rs ss) (hd : ∀ c cs, lkp sts c = some cs → dst rs 0 c = some (chSum rs cs)) : endOf rs ss sts = limF rs ss := by
  funext c
  unfold endOf limF
  cases q : lkp sts c with
  | some cs =>
    have hm : c ∈ sts.map Prod.fst := List.mem_map.mpr ⟨_, lkp_mem q, rfl⟩
    have hdu := (hk c).mp hm
    have hc := hd c cs q
    obtain ⟨s, h1, h2⟩ := List.mem_map.mp (due_sub hdu)
    obtain ⟨c', to⟩ := s
    have h2 : c' = c := h2
    subst h2
    obtain ⟨d, e, lt⟩ := (due_iff hw h1).mp hdu
    rw [lkp_of hw.1 h1]
    show some (0 - chSum rs cs) = match dst rs 0 c' with
      | none => some to
      | some d => some (if 0 - d > to then 0 - d else to)
    rw [hc] at e
    cases e
    rw [hc]
    show some (0 - chSum rs cs) = some (if 0 - chSum rs cs > to then 0 - chSum rs cs else to)
    rw [if_pos lt]
  | none =>
    show lkp ss c = _
    cases h : lkp ss c with
    | none => rfl
    | some to =>
      show some to = match dst rs 0 c with
        | none => some to
        | some d => some (if 0 - d > to then 0 - d else to)
      cases e : dst rs 0 c with
      | none => rfl
      | some d =>
        show some to = some (if 0 - d > to then 0 - d else to)
        rw [if_neg]
        intro lt
        have : c ∈ dueL rs ss := (due_iff hw (lkp_mem h)).mpr ⟨d, e, lt⟩
        exact lkp_none.mp q ((hk c).mpr this)
/-- the way of the pulls: tight ropes -/
theorem way {rs : List Rp} {F dn : List Int} {E : Int → Option Int} {pls : List (Int × Option Int)} (hP : ∀ p ∈ pls, PullG rs F dn E p.1 p.2) (c : Int) : ∀ t, ∃ ch, ChOk rs c ch (iterP rs pls t c) ∧ chSum rs ch = hAt F c - hAt F (iterP rs pls t c)
  | 0 => ⟨[], rfl, by show 0 = hAt F c - hAt F c; omega⟩
  | t + 1 => by
    obtain ⟨ch, h1, h2⟩ := way hP c t
    have e : iterP rs pls (t + 1) c = stepP rs pls (iterP rs pls t c) := rfl
    rw [e]
    unfold stepP
    split
    · rename_i k hk
      have hp : PullG rs F dn E (iterP rs pls t c) (some k) := hP _ (lkp_mem hk)
      obtain ⟨hr, hu, _, ht⟩ := hp
      have hrow := row_get hr.1 hr.2
      refine ⟨ch ++ [k], ch_snoc h1 hr.1 hrow hu, ?_⟩
      rw [sum_append, sum_cons hrow, h2]
      have h0 : chSum rs [] = 0 := rfl
      rw [hu] at ht
      omega
    · exact ⟨ch, h1, h2⟩
section
variable {rs : List Rp} {n : Nat} {S F : List Int} {ss : List (Int × Int)} {sts : List (Int × List Int)} {pls : List (Int × Option Int)}
theorem perm_of : ∀ {xs ys : List Int}, xs.Nodup → ys.Nodup → (∀ c, c ∈ xs ↔ c ∈ ys) → xs.Perm ys
  | [], ys, _, _, h => by
    cases ys with
    | nil => exact .nil
    | cons y r => exact absurd ((h y).mpr (by simp)) (by simp)
  | x :: xs, ys, hx, hy, h => by
    obtain ⟨h1, h2⟩ := List.nodup_cons.mp hx
    have hm : x ∈ ys := (h x).mp (by simp)
    refine ((perm_of h2 (hy.erase x) fun c => ?_).cons x).trans (List.perm_cons_erase hm).symm
    rw [hy.mem_erase_iff]
    constructor
    · intro z
      exact ⟨fun e => h1 (by rw [← e]; exact z), (h c).mp (List.mem_cons_of_mem _ z)⟩
    · rintro ⟨z1, z2⟩
      exact (List.mem_cons.mp ((h c).mpr z2)).elim (fun z => absurd z z1) id
theorem fall_iff (A : AllD rs n) (W : WfR n rs) (LS : Lets rs S) (LF : Lets rs F) (hw : WfS n ss) (hn : (sts.map Prod.fst).Nodup) (hFl : F.length = n) (hks : pls.map Prod.fst = downL S F n) : FallG rs n S ss F sts pls ↔ LFallG rs n S ss F sts pls := by
  have k0 : Kn n 0 := ⟨Int.le_refl _, by omega⟩
  have low : ∀ c d, Kn n c → dst rs 0 c = some d → 0 - d ≤ hAt F c := fun c d hc hd => by
    have := pot_dst A LF hc hd
    rw [hAt_zero] at this
    omega
  constructor
  · rintro ⟨ha, hb, hc, hd, hit⟩
    -- the stops are the due ones, by least sums
    have st : ∀ c cs, lkp sts c = some cs → dst rs 0 c = some (chSum rs cs) ∧ c ∈ dueL rs ss ∧ cs ≠ [] ∧ ChOk rs 0 cs c := fun c cs h => by
      obtain ⟨hr, ⟨hne, hch⟩, to, hto, hlt, hF⟩ := hb _ (lkp_mem h)
      have hkc : Kn n c := ⟨by have := hr.1; show 0 ≤ c; omega, hr.2⟩
      obtain ⟨d, hdd, hle⟩ := dst_chain A hkc hch
      have h1 := low c d hkc hdd
      have hF : hAt F c = 0 - chSum rs cs := hF
      have hlt : ¬ 0 - chSum rs cs ≤ to := hlt
      have hle : d ≤ chSum rs cs := hle
      have e : d = chSum rs cs := by omega
      refine ⟨by rw [hdd, e], (due_iff hw (lkp_mem hto)).mpr ⟨d, hdd, by omega⟩, hne, hch⟩
    have hk : ∀ c, c ∈ sts.map Prod.fst ↔ c ∈ dueL rs ss := fun c => by
      constructor
      · intro z
        obtain ⟨⟨c', cs⟩, h1, h2⟩ := List.mem_map.mp z
        have h2 : c' = c := h2
        subst h2
        exact (st c' cs (lkp_of hn h1)).2.1
      · intro z
        cases q : lkp sts c with
        | some cs => exact List.mem_map.mpr ⟨_, lkp_mem q, rfl⟩
        | none =>
          obtain ⟨⟨c', to⟩, h1, h2⟩ := List.mem_map.mp (due_sub z)
          have h2 : c' = c := h2
          subst h2
          obtain ⟨d, hdd, hlt⟩ := (due_iff hw h1).mp z
          have hr := key_pos hw (due_sub z)
          have h3 := low c' d ⟨by omega, hr.2⟩ hdd
          have h4 := hc c' to (by unfold endOf; rw [q]; exact lkp_of hw.1 h1)
          omega
    have hE := end_lim hw hk fun c cs h => (st c cs h).1
    rw [hE] at hc hd
    have hcap : ∀ k, Kn n k → hAt F k ≤ capF S (limF rs ss) k := fun k hkk => by
      by_cases h0 : k = 0
      · rw [h0, hAt_zero, cap_zero]; exact Int.le_refl _
      · rcases cap_cases S (limF rs ss) k with q | ⟨e, _, he, q, _⟩
        · rw [q]; exact ha k (by have := hkk.1; omega) hkk.2
        · rw [q]; exact hc k e he
    have up : ∀ c k d, Kn n k → dst rs c k = some d → hAt F c ≤ capF S (limF rs ss) k + d := fun c k d hkk hdd => by
      have h1 := pot_dst A LF hkk hdd
      have h2 := hcap k hkk
      omega
    refine ⟨LF, ⟨hFl, fun c h1 h2 => ⟨?_, fun k d => up c k d⟩⟩, ⟨perm_of hn (due_nodup hw) hk, fun c hcd cs h => ⟨⟨(st c cs h).2.2.1, (st c cs h).2.2.2⟩, (st c cs h).1⟩⟩, fun p hp => ?_, hit⟩
    · have hkc : Kn n c := ⟨by omega, h2⟩
      by_cases hlt : hAt F c < hAt S c
      · have hcd : c ∈ downL S F n := down_mem.mpr ⟨h1, h2, hlt⟩
        have hlow : ∀ p ∈ pls, ∀ k, p.2 = some k → (rowOf rs k).2.1 ∈ downL S F n := fun p hp k hk => by
          have := hd p hp
          rw [hk] at this
          exact this.2.2.1
        have hin := iter_in hlow hcd (downL S F n).length
        have hend := hit c hcd
        obtain ⟨ch, w1, w2⟩ := way hd c (downL S F n).length
        generalize iterP rs pls (downL S F n).length c = z at hin hend w1 w2
        obtain ⟨z1, z2, z3⟩ := down_mem.mp hin
        have hkz : Kn n z := ⟨by omega, z2⟩
        obtain ⟨e, he, hFe⟩ : PullG rs F (downL S F n) (limF rs ss) z none := hd _ (lkp_mem hend)
        obtain ⟨d, hdd, hle⟩ := dst_chain A hkz w1
        have h3 := up c z d hkz hdd
        have h4 := cap_end (S := S) (k := z) (by omega) he
        exact ⟨z, d, hkz, hdd, by omega⟩
      · obtain ⟨d, hdd, hle⟩ := dst_chain A hkc (ch_nil (rs := rs) (u := c))
        have h0 : chSum rs [] = 0 := rfl
        have h3 := up c c d hkc hdd
        have h4 := cap_le S (limF rs ss) c
        have h5 := hcap c hkc
        exact ⟨c, d, hkc, hdd, by omega⟩
    · have h := hd p hp
      obtain ⟨c, x⟩ := p
      cases x with
      | none => exact h
      | some k =>
        obtain ⟨hr, hu, hdn, ht⟩ := h
        have hu : (rowOf rs k).1 = c := hu
        rw [hu] at ht
        exact ⟨hr, hu, by show hAt F c - _ = _; omega, (down_mem.mp hdn).2.2⟩
  · rintro ⟨_, hF, ⟨hpm, hst⟩, hp, hit⟩
    have hk : ∀ c, c ∈ sts.map Prod.fst ↔ c ∈ dueL rs ss := fun c => hpm.mem_iff
    have hkd : ∀ c cs, lkp sts c = some cs → dst rs 0 c = some (chSum rs cs) := fun c cs h => (hst c ((hk c).mp (List.mem_map.mpr ⟨_, lkp_mem h, rfl⟩)) cs h).2
    have hE := end_lim hw hk hkd
    have hz := lim_zero (rs := rs) hw
    have hend : ∀ c e, limF rs ss c = some e → hAt F c ≤ e := fun c e he => by
      have hc0 : c ≠ 0 := fun z => by rw [z, hz] at he; cases he
      have hm : c ∈ ss.map Prod.fst := by
        cases q : lkp ss c with
        | none => unfold limF at he; rw [q] at he; cases he
        | some to => exact List.mem_map.mpr ⟨_, lkp_mem q, rfl⟩
      have hr := key_pos hw hm
      have := fal_cap A hF ⟨by omega, hr.2⟩
      have h2 := cap_end (S := S) hc0 he
      omega
    refine ⟨fun c h1 h2 => ?_, fun st hstm => ?_, ?_, ?_, hit⟩
    · have h3 := fal_cap A hF (k := c) ⟨by omega, h2⟩
      have h4 := cap_le S (limF rs ss) c
      omega
    · obtain ⟨c, cs⟩ := st
      have hlk := lkp_of hn hstm
      have hdu := (hk c).mp (List.mem_map.mpr ⟨_, hstm, rfl⟩)
      obtain ⟨⟨hne, hch⟩, hdd⟩ := hst c hdu cs hlk
      obtain ⟨⟨c', to⟩, h1, h2⟩ := List.mem_map.mp (due_sub hdu)
      have h2 : c' = c := h2
      subst h2
      obtain ⟨d, hd2, hlt⟩ := (due_iff hw h1).mp hdu
      rw [hdd] at hd2
      cases hd2
      have hr := key_pos hw (due_sub hdu)
      have h3 := low c' _ ⟨by omega, hr.2⟩ hdd
      have hlim : limF rs ss c' = some (0 - chSum rs cs) := by
        rw [← hE]
        unfold endOf
        rw [hlk]
      have h4 := hend c' _ hlim
      exact ⟨hr, ⟨hne, hch⟩, to, lkp_of hw.1 h1, by show ¬ 0 - chSum rs cs ≤ to; omega, by show hAt F c' = 0 - chSum rs cs; omega⟩
    · rw [hE]; exact hend
    · rw [hE]
      intro p hpm2
      have h := hp p hpm2
      obtain ⟨c, x⟩ := p
      cases x with
      | none => exact h
      | some k =>
        obtain ⟨hr, hu, ht, hlt⟩ := h
        have hu : (rowOf rs k).1 = c := hu
        have ht : hAt F c - hAt F (rowOf rs k).2.1 = (rowOf rs k).2.2 := ht
        exact ⟨hr, hu, down_low W hr hlt, by rw [hu]; omega⟩
end
end
end RF
/-! ## A30 -/
set_option Elab.async false
set_option linter.all false
set_option maxRecDepth 100000
set_option maxHeartbeats 4000000
namespace RF
open PySem PySem.Spec PyProof.Rows L2
section
variable {P : Program} {w : World} {K : PySem.W.Frag} {mg : Str → Option Value} {base : Heap}
/-- all but what M names stays -/
def MS (M : List Addr) (H H' : Hp) : Prop := Same (msk M H) (msk M H')
theorem MS.rfl_ {M : List Addr} {H : Hp} : MS M H H := Same.refl _
theorem MS.trans {M : List Addr} {H H' H2 : Hp} (h : MS M H H') (h2 : MS M H' H2) : MS M H H2 := Same.trans h h2
theorem MS.of {M : List Addr} {H H' : Hp} (h : Same H H') : MS M H H' := msk_same h
theorem MS.put {M : List Addr} {H H' : Hp} {a : Addr} {o : HO} (h : MS M H H') (ha : a ∈ M) : MS M H (upd H' a o) := by
  unfold MS at h ⊢
  rw [msk_in ha]
  exact h
/-- the pool: a number, the cells left, two numbers -/
def Pool (H : Hp) (p q : Addr) : Prop := p ≠ q ∧ ∃ (a b c : Int) (cells : List Int), H p = some (.lst [.int a, .ref q, .int b, .int c]) ∧ H q = some (.lst (cells.map V.int))
theorem Pool.same {H H' : Hp} {p q : Addr} (h : Pool H p q) (s : Same H H') : Pool H' p q := by
  obtain ⟨hne, a, b, c, cells, h1, h2⟩ := h
  exact ⟨hne, a, b, c, cells, s _ _ h1, s _ _ h2⟩
theorem Pool.trk {H : Hp} {p q : Addr} (h : Pool H p q) : Trk [p, q] H := fun b hb => by
  obtain ⟨_, a, x, c, cells, h1, h2⟩ := h
  rcases List.mem_cons.mp hb with e | e
  · exact ⟨_, by rw [e]; exact h1⟩
  · have e : b = q := by simpa using e
    exact ⟨_, by rw [e]; exact h2⟩
def sp_law_draw (K : PySem.W.Frag) : Sp := fun vs H Q _ => ∃ (p q : Addr) (m : Int), vs = [.ref p, .int m] ∧ Pool H p q ∧ 0 < m ∧ m < 1073741824 ∧ ∀ H' r, MS [p, q] H H' → Pool H' p q → 0 ≤ r → r < m → Q (.int r) H'
abbrev N_law_draw : List Str := ["_law_pool_here", "_law_many", "_law_cell", "_law_told", "_law_mixed"]
theorem sc_law_draw : FnScope N_law_draw ["_law_pool_here", "_law_many"] (defScope s_law_draw) := ⟨rfl, rfl, rfl, by decide +kernel, rfl, by decide +kernel, by decide +kernel⟩
theorem ok_law_draw (T : TX K mg) : Okd P w K mg base 1 "_law_draw" ["_law_pool_here", "_law_many"] (sp_law_draw K) := by
  obtain ⟨fd, F⟩ := T.d_law_draw
  refine okd_of F T.g_law_draw sc_law_draw (fun _ _ _ _ _ _ us hl => match us, hl with | [_, _], _ => rfl) ?_ ?_
  · rintro vs H Q E ⟨p, q, m, rfl, _⟩; rfl
  · rintro cdv A outer s H vs Q E hr ⟨p, q, m, rfl, ⟨hne, a, b, c, cells, hp, hq⟩, hm0, hm1, k⟩
    refine ⟨_, (pss_cons (ps_if (PW.pt (pw_and (pt_cmpR op_eq (pe_ix (ix_listK (K := K) rfl) (pv 0) pe_int (fun _ _ => rfl)) pe_int (nomark _)) (pw_and1 (pt_cmpR (op_neIK (K := K) rfl hr.units) (pe_ix (ix_listK (K := K) rfl) (pv 0) pe_int (fun _ _ => rfl)) (pe_lst pa_nil) (nomark _))))) (pss_cons (ps_set (i := 2) (sc_law_draw).nd rfl (.inl rfl) (pe_bm PySem.F.plainAttrs_list PySem.F.slot_list_pop PySem.F.type_list_pop mt_popAt (pe_ix (ix_listK (K := K) rfl) (pv 0) pe_int (fun _ _ => rfl)) (pa_cons pe_int pa_nil)))
  (pss_cons (ps_if (pt_cmpR op_ge (pv 2) (pe_op op_pow pe_int pe_int) (nomark _)) (pss_one (ps_asg (pv 2) (pg_sub (pv 0) pe_int set_list))) pss_nil)
  (pss_one (ps_asg (pe_op op_mod (pe_op op_add (pe_op op_add (pe_op op_mul (pe_ix (ix_listK (K := K) rfl) (pv 0) pe_int (fun _ _ => rfl)) pe_int) (pe_op op_mod (pv 2) pe_int)) pe_int) pe_int) (pg_sub (pv 0) pe_int set_list))))) pss_nil)
  (pss_cons (ps_if (pt_cmpR op_gt (pe_ix (ix_listK (K := K) rfl) (pv 0) pe_int (fun _ _ => rfl)) pe_int (nomark _)) (pss_cons (ps_set (i := 3) (sc_law_draw).nd rfl (.inl rfl) (pe_op op_mod (pe_ix (ix_listK (K := K) rfl) (pv 0) pe_int (fun _ _ => rfl)) (pv 1)))
  (pss_cons (ps_asg (pe_op op_fdiv (pe_ix (ix_listK (K := K) rfl) (pv 0) pe_int (fun _ _ => rfl)) (pv 1)) (pg_sub (pv 0) pe_int set_list))
  (pss_one (ps_ret (pv 3))))) pss_nil)
  (pss_cons (ps_asg (pe_op op_add (pe_ix (ix_listK (K := K) rfl) (pv 0) pe_int (fun _ _ => rfl)) pe_int) (pg_sub (pv 0) pe_int set_list))
  (pss_cons (ps_set (i := 4) (sc_law_draw).nd rfl (.inl rfl) (pe_op op_mod (pe_op op_add (pe_ix (ix_listK (K := K) rfl) (pv 0) pe_int (fun _ _ => rfl)) (pe_op op_mul (pe_ix (ix_listK (K := K) rfl) (pv 0) pe_int (fun _ _ => rfl)) pe_int)) pe_int))
  (pss_cons (ps_set (i := 4) (sc_law_draw).nd rfl (.inl rfl) (pe_op op_mod (pe_op op_mul (pe_op op_mod (pe_op op_pow (pv 4) pe_int) pe_int) pe_int) pe_int))
  (pss_one (ps_ret (pe_op op_mod (pe_op op_fdiv (pv 4) pe_int) (pv 1))))))))), ?_⟩
    have inp : p ∈ [p, q] := by simp
    have inq : q ∈ [p, q] := by simp
    have bnd : ∀ x : Int, (x % 2147483629).natAbs < 2 ^ 64 := fun x => by
      have h1 := Int.emod_nonneg x (show (2147483629 : Int) ≠ 0 by decide)
      have h2 := Int.emod_lt_of_pos x (show (0 : Int) < 2147483629 by decide)
      omega
    have fin : ∀ (H2 : Hp) (x a2 b2 c2 : Int) (cs2 : List Int), MS [p, q] H H2 → H2 p = some (.lst [.int a2, .ref q, .int b2, .int c2]) → H2 q = some (.lst (cs2.map V.int)) → Q (.int (x % m)) H2 := fun H2 x a2 b2 c2 cs2 h1 h2 h3 =>
      k H2 _ h1 ⟨hne, a2, b2, c2, cs2, h2, h3⟩ (Int.emod_nonneg x (by omega)) (Int.emod_lt_of_pos x hm0)
    have nqp : q ≠ p := hne.symm
    have M1 : (0 : Int) < 2147483629 := by decide
    have M2 : (0 : Int) < 2147483647 := by decide
    refine ⟨_, rfl, p, _, 0, .int a, rfl, rfl, SqL.of hp, rfl, rfl, _, rfl, ?_⟩
    have rest : (¬ (a = 0 ∧ cells ≠ [])) → True := fun _ => trivial
    by_cases ha : a = 0
    · rw [decide_eq_true (show V.int a = V.int 0 by rw [ha])]
      refine iteT ?_
      refine ⟨_, rfl, p, _, 1, .ref q, rfl, rfl, SqL.of hp, rfl, Nat.zero_le _, fun z hz => ⟨q, z, cells, [], rfl, rfl, SqL.of (same_upd hz _ _ hq), SqL.of upd_same, _, rfl, ?_⟩⟩
      have s1 : Same H (upd H z (.lst [])) := same_upd hz
      revert s1
      generalize upd H z (.lst []) = H1
      intro s1
      have hp1 := s1 _ _ hp
      have hq1 := s1 _ _ hq
      have ms1 : MS [p, q] H H1 := MS.of s1
      cases hcs : cells with
      | nil =>
        rw [decide_eq_true rfl]
        refine iteF ?_
        have hpos : ¬ (0 : Int) < a := by omega
        refine ⟨_, rfl, p, _, 0, .int a, rfl, rfl, SqL.of hp1, rfl, _, _, rfl, rfl, _, rfl, ?_⟩
        rw [decide_eq_false (show ¬ (0 : Int) < a from hpos)]
        refine iteF ?_
        refine ⟨_, rfl, p, _, 3, .int c, rfl, rfl, SqL.of hp1, rfl, _, _, rfl, rfl, _, rfl, p, _, 3, 3, rfl, rfl, hp1, rfl, ?_⟩
        have hp8 : (upd H1 p (.lst [.int a, .ref q, .int b, .int (c + 1)])) p = some (.lst [.int a, .ref q, .int b, .int (c + 1)]) := upd_same
        have hq8 : (upd H1 p (.lst [.int a, .ref q, .int b, .int (c + 1)])) q = some (.lst (cells.map V.int)) := by rw [upd_ne nqp]; exact hq1
        have ms8 := MS.put (a := p) (o := .lst [.int a, .ref q, .int b, .int (c + 1)]) ms1 inp
        refine ⟨_, rfl, p, _, 2, .int b, rfl, rfl, SqL.of hp8, rfl, _, rfl, p, _, 3, .int (c + 1), rfl, rfl, SqL.of hp8, rfl, _, _, rfl, rfl, .inr ⟨by decide, by decide⟩, _, _, rfl, rfl, _, _, rfl, rfl, M1, ?_⟩
        refine ⟨_, rfl, _, _, rfl, rfl, ⟨by decide, by decide, bnd _⟩, _, _, rfl, rfl, M2, _, _, rfl, rfl, .inr ⟨by decide, by decide⟩, _, _, rfl, rfl, M1, ?_⟩
        exact ⟨_, rfl, _, _, rfl, rfl, ⟨by decide, by decide⟩, _, rfl, _, _, rfl, rfl, hm0, fin _ _ _ _ _ _ ms8 hp8 hq8⟩
      | cons x t =>
        rw [decide_eq_false (fun z => by cases z)]
        refine iteT ?_
        rw [hcs] at hq1
        refine ⟨_, rfl, p, _, 1, .ref q, rfl, rfl, SqL.of hp1, rfl, .inl ⟨rfl, _, SqL.of hq1⟩, q, _, 0, 0, .int x, rfl, rfl, hq1, by omega, by omega, by simp [seqIndex?], rfl, ?_⟩
        have hp2 : (upd H1 q (.lst (((x :: t).map V.int).eraseIdx 0))) p = some (.lst [.int a, .ref q, .int b, .int c]) := by rw [upd_ne hne]; exact hp1
        have hq2 : (upd H1 q (.lst (((x :: t).map V.int).eraseIdx 0))) q = some (.lst (t.map V.int)) := upd_same
        have ms2 : MS [p, q] H (upd H1 q (.lst (((x :: t).map V.int).eraseIdx 0))) := ms1.put inq
        revert hp2 hq2 ms2
        generalize upd H1 q (.lst (((x :: t).map V.int).eraseIdx 0)) = H2
        intro hp2 hq2 ms2
        refine ⟨_, rfl, _, _, rfl, rfl, ⟨by decide, by decide, by decide⟩, _, _, rfl, rfl, _, rfl, ?_⟩
        refine ite2 (fun e => ?_) (fun e => ?_)
        · have e : (10 : Int) ^ 18 ≤ x := of_decide_eq_true e
          refine ⟨_, rfl, _, rfl, p, _, 0, 0, rfl, rfl, hp2, rfl, ?_⟩
          have hp3 : (upd H2 p (.lst ([V.int a, .ref q, .int b, .int c].set 0 (.int x)))) p = some (.lst [.int x, .ref q, .int b, .int c]) := upd_same
          have hq3 : (upd H2 p (.lst ([V.int a, .ref q, .int b, .int c].set 0 (.int x)))) q = some (.lst (t.map V.int)) := by rw [upd_ne nqp]; exact hq2
          have ms3 : MS [p, q] H (upd H2 p (.lst ([V.int a, .ref q, .int b, .int c].set 0 (.int x)))) := ms2.put inp
          revert hp3 hq3 ms3
          generalize upd H2 p (.lst ([V.int a, .ref q, .int b, .int c].set 0 (.int x))) = H3
          intro hp3 hq3 ms3
          refine ⟨_, rfl, p, _, 2, .int b, rfl, rfl, SqL.of hp3, rfl, _, _, rfl, rfl, .inr ⟨by decide, by decide⟩, _, rfl, _, _, rfl, rfl, M1, _, _, rfl, rfl, _, _, rfl, rfl, _, _, rfl, rfl, M2, _, rfl, p, _, 2, 2, rfl, rfl, hp3, rfl, ?_⟩
          have hp4 : (upd H3 p (.lst ([V.int x, .ref q, .int b, .int c].set 2 (.int ((b * 48271 + x % 2147483629 + 7) % 2147483647))))) p = some (.lst [.int x, .ref q, .int ((b * 48271 + x % 2147483629 + 7) % 2147483647), .int c]) := upd_same
          have hq4 : (upd H3 p (.lst ([V.int x, .ref q, .int b, .int c].set 2 (.int ((b * 48271 + x % 2147483629 + 7) % 2147483647))))) q = some (.lst (t.map V.int)) := by rw [upd_ne nqp]; exact hq3
          have ms4 : MS [p, q] H (upd H3 p (.lst ([V.int x, .ref q, .int b, .int c].set 2 (.int ((b * 48271 + x % 2147483629 + 7) % 2147483647))))) := ms3.put inp
          revert hp4 hq4 ms4
          generalize upd H3 p (.lst ([V.int x, .ref q, .int b, .int c].set 2 (.int ((b * 48271 + x % 2147483629 + 7) % 2147483647)))) = H4
          generalize (b * 48271 + x % 2147483629 + 7) % 2147483647 = b4
          intro hp4 hq4 ms4
          have hpos : (0 : Int) < x := Int.lt_of_lt_of_le (by decide) e
          refine ⟨_, rfl, p, _, 0, .int x, rfl, rfl, SqL.of hp4, rfl, _, _, rfl, rfl, _, rfl, ?_⟩
          rw [decide_eq_true (show (0 : Int) < x from hpos)]
          refine iteT ?_
          refine ⟨_, rfl, p, _, 0, .int x, rfl, rfl, SqL.of hp4, rfl, _, rfl, _, _, rfl, rfl, hm0, ?_⟩
          refine ⟨_, rfl, p, _, 0, .int x, rfl, rfl, SqL.of hp4, rfl, _, rfl, _, _, rfl, rfl, ⟨hm0, hm1⟩, _, rfl, p, _, 0, 0, rfl, rfl, hp4, rfl, ?_⟩
          exact ⟨_, rfl, fin _ x _ _ _ _ (MS.put ms4 inp) upd_same (by rw [upd_ne nqp]; exact hq4)⟩
        · refine ⟨_, rfl, p, _, 2, .int b, rfl, rfl, SqL.of hp2, rfl, _, _, rfl, rfl, .inr ⟨by decide, by decide⟩, _, rfl, _, _, rfl, rfl, M1, _, _, rfl, rfl, _, _, rfl, rfl, _, _, rfl, rfl, M2, _, rfl, p, _, 2, 2, rfl, rfl, hp2, rfl, ?_⟩
          have hp4 : (upd H2 p (.lst ([V.int a, .ref q, .int b, .int c].set 2 (.int ((b * 48271 + x % 2147483629 + 7) % 2147483647))))) p = some (.lst [.int a, .ref q, .int ((b * 48271 + x % 2147483629 + 7) % 2147483647), .int c]) := upd_same
          have hq4 : (upd H2 p (.lst ([V.int a, .ref q, .int b, .int c].set 2 (.int ((b * 48271 + x % 2147483629 + 7) % 2147483647))))) q = some (.lst (t.map V.int)) := by rw [upd_ne nqp]; exact hq2
          have ms4 : MS [p, q] H (upd H2 p (.lst ([V.int a, .ref q, .int b, .int c].set 2 (.int ((b * 48271 + x % 2147483629 + 7) % 2147483647))))) := ms2.put inp
          revert hp4 hq4 ms4
          generalize upd H2 p (.lst ([V.int a, .ref q, .int b, .int c].set 2 (.int ((b * 48271 + x % 2147483629 + 7) % 2147483647)))) = H4
          generalize (b * 48271 + x % 2147483629 + 7) % 2147483647 = b4
          intro hp4 hq4 ms4
          have hpos : ¬ (0 : Int) < a := by omega
          refine ⟨_, rfl, p, _, 0, .int a, rfl, rfl, SqL.of hp4, rfl, _, _, rfl, rfl, _, rfl, ?_⟩
          rw [decide_eq_false (show ¬ (0 : Int) < a from hpos)]
          refine iteF ?_
          refine ⟨_, rfl, p, _, 3, .int c, rfl, rfl, SqL.of hp4, rfl, _, _, rfl, rfl, _, rfl, p, _, 3, 3, rfl, rfl, hp4, rfl, ?_⟩
          have hp8 : (upd H4 p (.lst [.int a, .ref q, .int b4, .int (c + 1)])) p = some (.lst [.int a, .ref q, .int b4, .int (c + 1)]) := upd_same
          have hq8 : (upd H4 p (.lst [.int a, .ref q, .int b4, .int (c + 1)])) q = some (.lst (t.map V.int)) := by rw [upd_ne nqp]; exact hq4
          have ms8 := MS.put (a := p) (o := .lst [.int a, .ref q, .int b4, .int (c + 1)]) ms4 inp
          refine ⟨_, rfl, p, _, 2, .int b4, rfl, rfl, SqL.of hp8, rfl, _, rfl, p, _, 3, .int (c + 1), rfl, rfl, SqL.of hp8, rfl, _, _, rfl, rfl, .inr ⟨by decide, by decide⟩, _, _, rfl, rfl, _, _, rfl, rfl, M1, ?_⟩
          refine ⟨_, rfl, _, _, rfl, rfl, ⟨by decide, by decide, bnd _⟩, _, _, rfl, rfl, M2, _, _, rfl, rfl, .inr ⟨by decide, by decide⟩, _, _, rfl, rfl, M1, ?_⟩
          exact ⟨_, rfl, _, _, rfl, rfl, ⟨by decide, by decide⟩, _, rfl, _, _, rfl, rfl, hm0, fin _ _ _ _ _ _ ms8 hp8 hq8⟩
    · rw [decide_eq_false (fun z => ha (V.int.inj z))]
      refine iteF ?_
      by_cases hpos : (0 : Int) < a
      · refine ⟨_, rfl, p, _, 0, .int a, rfl, rfl, SqL.of hp, rfl, _, _, rfl, rfl, _, rfl, ?_⟩
        rw [decide_eq_true (show (0 : Int) < a from hpos)]
        refine iteT ?_
        refine ⟨_, rfl, p, _, 0, .int a, rfl, rfl, SqL.of hp, rfl, _, rfl, _, _, rfl, rfl, hm0, ?_⟩
        refine ⟨_, rfl, p, _, 0, .int a, rfl, rfl, SqL.of hp, rfl, _, rfl, _, _, rfl, rfl, ⟨hm0, hm1⟩, _, rfl, p, _, 0, 0, rfl, rfl, hp, rfl, ?_⟩
        exact ⟨_, rfl, fin _ a _ _ _ _ (MS.put (MS.rfl_) inp) upd_same (by rw [upd_ne nqp]; exact hq)⟩
      · refine ⟨_, rfl, p, _, 0, .int a, rfl, rfl, SqL.of hp, rfl, _, _, rfl, rfl, _, rfl, ?_⟩
        rw [decide_eq_false (show ¬ (0 : Int) < a from hpos)]
        refine iteF ?_
        refine ⟨_, rfl, p, _, 3, .int c, rfl, rfl, SqL.of hp, rfl, _, _, rfl, rfl, _, rfl, p, _, 3, 3, rfl, rfl, hp, rfl, ?_⟩
        have hp8 : (upd H p (.lst [.int a, .ref q, .int b, .int (c + 1)])) p = some (.lst [.int a, .ref q, .int b, .int (c + 1)]) := upd_same
        have hq8 : (upd H p (.lst [.int a, .ref q, .int b, .int (c + 1)])) q = some (.lst (cells.map V.int)) := by rw [upd_ne nqp]; exact hq
        have ms8 := MS.put (a := p) (o := .lst [.int a, .ref q, .int b, .int (c + 1)]) (MS.rfl_ (H := H)) inp
        refine ⟨_, rfl, p, _, 2, .int b, rfl, rfl, SqL.of hp8, rfl, _, rfl, p, _, 3, .int (c + 1), rfl, rfl, SqL.of hp8, rfl, _, _, rfl, rfl, .inr ⟨by decide, by decide⟩, _, _, rfl, rfl, _, _, rfl, rfl, M1, ?_⟩
        refine ⟨_, rfl, _, _, rfl, rfl, ⟨by decide, by decide, bnd _⟩, _, _, rfl, rfl, M2, _, _, rfl, rfl, .inr ⟨by decide, by decide⟩, _, _, rfl, rfl, M1, ?_⟩
        exact ⟨_, rfl, _, _, rfl, rfl, ⟨by decide, by decide⟩, _, rfl, _, _, rfl, rfl, hm0, fin _ _ _ _ _ _ ms8 hp8 hq8⟩
end
end RF
/-! ## A31 -/
set_option Elab.async false
set_option linter.all false
set_option maxRecDepth 100000
set_option maxHeartbeats 4000000
namespace RF
open PySem PySem.Spec PyProof.Rows L2
section
variable {P : Program} {w : World} {K : PySem.W.Frag} {mg : Str → Option Value} {base : Heap}
theorem MS.get {M : List Addr} {H H' : Hp} {b : Addr} {o : HO} (h : MS M H H') (hb : b ∉ M) (e : H b = some o) : H' b = some o := msk_sub _ _ (h _ _ (msk_of hb e))
theorem MS.new {M : List Addr} {H H' : Hp} {a : Addr} {o : HO} (h : MS M H H') (ha : H a = none) : MS M H (upd H' a o) := fun b x e => by
  have hb : b ≠ a := fun z => by rw [z] at e; rw [msk_sub _ _ e] at ha; cases ha
  have := h _ _ e
  exact msk_of (msk_out this) (by rw [upd_ne hb]; exact msk_sub _ _ this)
theorem MS.same {M : List Addr} {H H' H2 : Hp} (h : MS M H H') (s : Same H' H2) : MS M H H2 := h.trans (MS.of s)
theorem MS.free {M : List Addr} {H H' : Hp} {a : Addr} (h : MS M H H') (ha : a ∉ M) (e : H' a = none) : H a = none := by
  cases q : H a with
  | none => rfl
  | some o => rw [h.get ha q] at e; cases e
theorem Pool.out {H : Hp} {p q a : Addr} (h : Pool H p q) (ha : H a = none) : a ∉ [p, q] := h.trk.fresh ha
theorem Pool.upd {H : Hp} {p q a : Addr} {o : HO} (h : Pool H p q) (ha : a ∉ [p, q]) : Pool (upd H a o) p q := by
  obtain ⟨hne, x, b, c, cells, h1, h2⟩ := h
  have n1 : p ≠ a := fun z => ha (by rw [← z]; simp)
  have n2 : q ≠ a := fun z => ha (by rw [← z]; simp)
  exact ⟨hne, x, b, c, cells, by rw [upd_ne n1]; exact h1, by rw [upd_ne n2]; exact h2⟩
def sp_law_pool (K : PySem.W.Frag) : Sp := fun vs H Q _ => ∃ (a : Addr) (ns : List Int), vs = [.ref a] ∧ SqL K H a (ns.map V.int) ∧ ∀ H' p q, Same H H' → Pool H' p q → Q (.ref p) H'
theorem cut_ints (ns : List Int) (hi : Option Int) : ∃ ms : List Int, cutV (ns.map V.int) none hi = ms.map V.int := by
  unfold cutV
  rw [List.length_map]
  exact ⟨_, by rw [← List.map_drop, ← List.map_take]⟩
abbrev N_law_pool : List Str := ["_law_script"]
theorem sc_law_pool : FnScope N_law_pool ["_law_script"] (defScope s_law_pool) := ⟨rfl, rfl, rfl, by decide +kernel, rfl, by decide +kernel, by decide +kernel⟩
theorem ok_law_pool (T : TX K mg) : Okd P w K mg base 1 "_law_pool" ["_law_script"] (sp_law_pool K) := by
  obtain ⟨fd, F⟩ := T.d_law_pool
  refine okd_of F T.g_law_pool sc_law_pool (fun _ _ _ _ _ _ us hl => match us, hl with | [_], _ => rfl) ?_ ?_
  · rintro vs H Q E ⟨a, ns, rfl, _⟩; rfl
  · rintro cdv A outer s H vs Q E hr ⟨a, ns, rfl, ha, k⟩
    refine ⟨_, (pss_one (ps_ret (pe_lst (pa_cons pe_int (pa_cons (pe_callTy (call_list_ofK (K := K) rfl) (by rfl) T.b_list bt_list (pa_cons (pe_slice (sl_listK (K := K) rfl) (pv 0) po_none (po_some pe_int)) pa_nil)) (pa_cons pe_int (pa_cons pe_int pa_nil))))))), ?_⟩
    obtain ⟨ms, hms⟩ := cut_ints ns (some 63)
    refine ⟨_, rfl, 63, rfl, a, _, rfl, ha, fun z hz => ?_⟩
    rw [hms]
    refine ⟨z, _, rfl, .inl (SqL.of upd_same), fun q hq => ?_⟩
    refine ⟨(by show 4 ≤ sizeLine; decide), fun p hp => ?_⟩
    have hqp : q ≠ p := ne_of_none upd_same hp
    exact k _ p q (((same_upd hz).trans (same_upd hq)).trans (same_upd hp)) ⟨hqp.symm, 0, 12345, 0, ms, upd_same, by rw [upd_ne hqp, upd_same]⟩
def sp_law_number (K : PySem.W.Frag) : Sp := fun vs H Q _ => ∃ (p q : Addr) (b : Bool), vs = [.ref p, .bl b] ∧ Pool H p q ∧ ∀ H' r, MS [p, q] H H' → Pool H' p q → Q (.int r) H'
abbrev N_law_number : List Str := ["_law_pool_here", "_law_wide", "_law_found"]
theorem sc_law_number : FnScope N_law_number ["_law_pool_here", "_law_wide"] (defScope s_law_number) := ⟨rfl, rfl, rfl, by decide +kernel, rfl, by decide +kernel, by decide +kernel⟩
theorem ok_law_number (T : TX K mg) : Okd P w K mg base 2 "_law_number" ["_law_pool_here", "_law_wide"] (sp_law_number K) := by
  obtain ⟨fd, F⟩ := T.d_law_number
  refine okd_of F T.g_law_number sc_law_number (fun _ _ _ _ _ _ us hl => match us, hl with | [_, _], _ => rfl) ?_ ?_
  · rintro vs H Q E ⟨p, q, b, rfl, _⟩; rfl
  · rintro cdv A outer s H vs Q E hr ⟨p, q, b, rfl, hP, k⟩
    refine ⟨_, (pss_cons (ps_if (pt_not (pt_val (pv 1))) (pss_one (ps_ret (pe_op op_sub (pe_callD (ok_law_draw T) hr (by decide) (by rfl) (pa_cons (pv 0) (pa_cons pe_int pa_nil))) pe_int))) pss_nil)
  (pss_cons (ps_set (i := 2) (sc_law_number).nd rfl (.inl rfl) (pe_op op_add (pe_op op_mul (pe_callD (ok_law_draw T) hr (by decide) (by rfl) (pa_cons (pv 0) (pa_cons (pe_op op_pow pe_int pe_int) pa_nil))) (pe_op op_pow pe_int pe_int)) (pe_op op_mul (pe_callD (ok_law_draw T) hr (by decide) (by rfl) (pa_cons (pv 0) (pa_cons (pe_op op_pow pe_int pe_int) pa_nil))) (pe_op op_pow pe_int pe_int))))
  (pss_one (ps_ret (pe_op op_sub (pe_op op_add (pv 2) (pe_callD (ok_law_draw T) hr (by decide) (by rfl) (pa_cons (pv 0) (pa_cons (pe_op op_pow pe_int pe_int) pa_nil)))) (pe_op op_mul pe_int (pe_op op_pow pe_int pe_int))))))), ?_⟩
    cases b with
    | false =>
      refine ⟨_, rfl, _, rfl, iteT ?_⟩
      exact ⟨_, rfl, p, q, 9, rfl, hP, by decide, by decide, fun H1 r m1 P1 _ _ => ⟨_, _, rfl, rfl, k H1 _ m1 P1⟩⟩
    | true =>
      refine ⟨_, rfl, _, rfl, iteF ?_⟩
      refine ⟨_, rfl, _, _, rfl, rfl, ⟨by decide, by decide, by decide⟩, p, q, _, rfl, hP, by decide, by decide, fun H1 r1 m1 P1 _ _ => ?_⟩
      refine ⟨_, _, rfl, rfl, ⟨by decide, by decide, by decide⟩, _, _, rfl, rfl, .inr ⟨by decide, by decide⟩, ?_⟩
      refine ⟨_, rfl, _, _, rfl, rfl, ⟨by decide, by decide, by decide⟩, p, q, _, rfl, P1, by decide, by decide, fun H2 r2 m2 P2 _ _ => ?_⟩
      refine ⟨_, _, rfl, rfl, ⟨by decide, by decide, by decide⟩, _, _, rfl, rfl, .inr ⟨by decide, by decide⟩, _, _, rfl, rfl, ?_⟩
      refine ⟨_, rfl, _, rfl, _, _, rfl, rfl, ⟨by decide, by decide, by decide⟩, p, q, _, rfl, P2, by decide, by decide, fun H3 r3 m3 P3 _ _ => ?_⟩
      exact ⟨_, _, rfl, rfl, _, _, rfl, rfl, ⟨by decide, by decide, by decide⟩, _, _, rfl, rfl, .inl ⟨by decide, by decide⟩, _, _, rfl, rfl, k H3 _ ((m1.trans m2).trans m3) P3⟩
/-- two heights, each with the wall ahead -/
def HighsAt (H : Hp) (h : Addr) (S S2 : List Int) : Prop := ∃ a b : Addr, H h = some (.lst [.ref a, .ref b]) ∧ H a = some (.lst ((0 :: S).map V.int)) ∧ H b = some (.lst ((0 :: S2).map V.int))
theorem HighsAt.same {H H' : Hp} {h : Addr} {S S2 : List Int} (g : HighsAt H h S S2) (s : Same H H') : HighsAt H' h S S2 := by
  obtain ⟨a, b, h1, h2, h3⟩ := g
  exact ⟨a, b, s _ _ h1, s _ _ h2, s _ _ h3⟩
def sp_law_highs (K : PySem.W.Frag) : Sp := fun vs H Q _ => ∃ (p q : Addr) (n : Nat) (b : Bool), vs = [.ref p, .int n, .bl b] ∧ Pool H p q ∧ n ≤ 8 ∧ ∀ H' h S S2, MS [p, q] H H' → Pool H' p q → HighsAt (msk [p, q] H') h S S2 → S.length = n → S2.length = n → Q (.ref h) H'
abbrev N_law_highs : List Str := ["_law_pool_here", "_law_many", "_law_wide", "_law_one", "_law_other", "_law_shifts", "_law_turn"]
theorem sc_law_highs : FnScope N_law_highs ["_law_pool_here", "_law_many", "_law_wide"] (defScope s_law_highs) := ⟨rfl, rfl, rfl, by decide +kernel, rfl, by decide +kernel, by decide +kernel⟩
theorem ok_law_highs (T : TX K mg) : Okd P w K mg base 3 "_law_highs" ["_law_pool_here", "_law_many", "_law_wide"] (sp_law_highs K) := by
  obtain ⟨fd, F⟩ := T.d_law_highs
  refine okd_of F T.g_law_highs sc_law_highs (fun _ _ _ _ _ _ us hl => match us, hl with | [_, _, _], _ => rfl) ?_ ?_
  · rintro vs H Q E ⟨p, q, n, b, rfl, _⟩; rfl
  · rintro cdv A outer s H vs Q E hr ⟨p, q, n, b, rfl, hP, h8, k⟩
    refine ⟨_, (pss_cons (ps_set (i := 3) (sc_law_highs).nd rfl (.inl rfl) (pe_lst (pa_cons pe_int pa_nil)))
  (pss_cons (ps_set (i := 4) (sc_law_highs).nd rfl (.inl rfl) (pe_lst (pa_cons pe_int pa_nil)))
  (pss_cons (ps_set (i := 5) (sc_law_highs).nd rfl (.inl rfl) (pe_lst (pa_cons pe_int (pa_cons (pe_callD (ok_law_number T) hr (by decide) (by rfl) (pa_cons (pv 0) (pa_cons (pv 2) pa_nil))) (pa_cons (pe_callD (ok_law_number T) hr (by decide) (by rfl) (pa_cons (pv 0) (pa_cons pe_bl pa_nil))) pa_nil)))))
  (pss_cons (ps_for PassesOwn.never rfl (pi_range1 (by rfl) T.b_range (pa_cons (pv 1) pa_nil)) (pg_name (i := 6) (sc_law_highs).nd rfl (.inl rfl)) (pss_cons (ps_expr (pe_bm PySem.F.plainAttrs_list PySem.F.slot_list_append PySem.F.type_list_append mt_append (pv 3) (pa_cons (pe_callD (ok_law_number T) hr (by decide) (by rfl) (pa_cons (pv 0) (pa_cons (pv 2) pa_nil))) pa_nil)))
  (pss_one (ps_expr (pe_bm PySem.F.plainAttrs_list PySem.F.slot_list_append PySem.F.type_list_append mt_append (pv 4) (pa_cons (pe_op op_add (pe_ix (ix_listK (K := K) rfl) (pv 3) (pe_un un_neg pe_int) (fun _ _ => rfl)) (pe_ix (ix_listK (K := K) rfl) (pv 5) (pe_callD (ok_law_draw T) hr (by decide) (by rfl) (pa_cons (pv 0) (pa_cons pe_int pa_nil))) (fun _ _ => rfl))) pa_nil))))))
  (pss_one (ps_ret (pe_lst (pa_cons (pv 3) (pa_cons (pv 4) pa_nil))))))))), ?_⟩
    refine ⟨by decide, fun o1 ho1 => ?_⟩
    refine ⟨by decide, fun o2 ho2 => ?_⟩
    have n12 : o1 ≠ o2 := ne_of_none upd_same ho2
    have s1 : Same H (upd (upd H o1 (.lst [.int 0])) o2 (.lst [.int 0])) := (same_upd ho1).trans (same_upd ho2)
    have a1 : (upd (upd H o1 (.lst [.int 0])) o2 (.lst [.int 0])) o1 = some (.lst ((0 :: ([] : List Int)).map V.int)) := by rw [upd_ne n12, upd_same]; rfl
    have a2 : (upd (upd H o1 (.lst [.int 0])) o2 (.lst [.int 0])) o2 = some (.lst ((0 :: ([] : List Int)).map V.int)) := upd_same
    have ho20 : H o2 = none := (same_upd ho1).free ho2
    have x1 : o1 ∉ [p, q] := hP.out ho1
    have x2 : o2 ∉ [p, q] := hP.out ho20
    have P1 := hP.same s1
    have m1 : MS [p, q] H _ := MS.of s1
    revert a1 a2 P1 m1
    generalize upd (upd H o1 (.lst [.int 0])) o2 (.lst [.int 0]) = H1
    intro a1 a2 P1 m1
    refine ⟨_, rfl, _, rfl, p, q, b, rfl, P1, fun H2 r1 m2 P2 => ?_⟩
    refine ⟨_, rfl, p, q, false, rfl, P2, fun H3 r2 m3 P3 => ?_⟩
    refine ⟨(by show 3 ≤ sizeLine; decide), fun sh hsh => ?_⟩
    have b1 := m3.get x1 (m2.get x1 a1)
    have b2 := m3.get x2 (m2.get x2 a2)
    have x3 : sh ∉ [p, q] := P3.out hsh
    have n1 : o1 ≠ sh := ne_of_none b1 hsh
    have n2 : o2 ≠ sh := ne_of_none b2 hsh
    have s4 : Same H3 (upd H3 sh (.lst [.int 0, .int r1, .int r2])) := same_upd hsh
    have c1 := s4 _ _ b1
    have c2 := s4 _ _ b2
    have c3 : (upd H3 sh (.lst [.int 0, .int r1, .int r2])) sh = some (.lst [.int 0, .int r1, .int r2]) := upd_same
    have P4 := P3.same s4
    have m4 : MS [p, q] H _ := ((m1.trans m2).trans m3).same s4
    revert c1 c2 c3 P4 m4
    generalize upd H3 sh (.lst [.int 0, .int r1, .int r2]) = H4
    intro c1 c2 c3 P4 m4
    refine ⟨_, rfl, n, rfl, by omega, by omega, ?_⟩
    rw [show ((n : Nat) : Int).toNat = n from Int.toNat_natCast _]
    refine for_range (n := n) (fun i σ H5 => ∃ v6 S S2, σ = [some (.ref p), some (.int n), some (.bl b), some (.ref o1), some (.ref o2), some (.ref sh), v6] ∧ MS [p, q] H H5 ∧ Pool H5 p q ∧ H5 o1 = some (.lst ((0 :: S).map V.int)) ∧ H5 o2 = some (.lst ((0 :: S2).map V.int)) ∧ H5 sh = some (.lst [.int 0, .int r1, .int r2]) ∧ S.length = i ∧ S2.length = i)
      ⟨_, [], [], rfl, m4, P4, c1, c2, c3, rfl, rfl⟩ ?_ (fun σ H5 pv => ?_)
    · rintro i σ H5 hi ⟨v6, S, S2, rfl, m5, P5, d1, d2, d3, l1, l2⟩
      refine ⟨_, rfl, .inl ⟨rfl, _, SqL.of d1⟩, _, rfl, _, rfl, p, q, b, rfl, P5, fun H6 r6 m6 P6 => ?_⟩
      have e1 := m6.get x1 d1
      refine ⟨o1, _, .int r6, rfl, rfl, e1, ?_, ?_⟩
      · rw [List.length_map, List.length_cons, l1]
        exact Nat.lt_of_le_of_lt (show i + 1 ≤ 100 by omega) (by decide)
      have f1 : (upd H6 o1 (.lst ((0 :: S).map V.int ++ [.int r6]))) o1 = some (.lst ((0 :: (S ++ [r6])).map V.int)) := by rw [upd_same]; simp
      have f2 : (upd H6 o1 (.lst ((0 :: S).map V.int ++ [.int r6]))) o2 = some (.lst ((0 :: S2).map V.int)) := by rw [upd_ne n12.symm]; exact m6.get x2 d2
      have f3 : (upd H6 o1 (.lst ((0 :: S).map V.int ++ [.int r6]))) sh = some (.lst [.int 0, .int r1, .int r2]) := by rw [upd_ne n1.symm]; exact m6.get x3 d3
      have P7 : Pool (upd H6 o1 (.lst ((0 :: S).map V.int ++ [.int r6]))) p q := P6.upd x1
      have m7 : MS [p, q] H (upd H6 o1 (.lst ((0 :: S).map V.int ++ [.int r6]))) := (m5.trans m6).new ho1
      revert f1 f2 f3 P7 m7
      generalize upd H6 o1 (.lst ((0 :: S).map V.int ++ [.int r6])) = H7
      intro f1 f2 f3 P7 m7
      have hlast : atI ((0 :: (S ++ [r6])).map V.int) (-1) = some (.int r6) := by
        rw [show (0 :: (S ++ [r6])).map V.int = (0 :: S).map V.int ++ [.int r6] by simp]
        exact atI_last _ _
      refine ⟨_, rfl, .inl ⟨rfl, _, SqL.of f2⟩, _, rfl, 1, rfl, o1, _, -1, _, rfl, rfl, SqL.of f1, hlast, ?_⟩
      refine ⟨_, rfl, _, rfl, p, q, 3, rfl, P7, by decide, by decide, fun H8 r8 m8 P8 h0 h3 => ?_⟩
      have g3 := m8.get x3 f3
      obtain ⟨w, hw⟩ : ∃ w, atI [V.int 0, .int r1, .int r2] r8 = some (.int w) := by
        have : r8 = 0 ∨ r8 = 1 ∨ r8 = 2 := by omega
        rcases this with e | e | e <;> rw [e] <;> exact ⟨_, rfl⟩
      refine ⟨sh, _, r8, .int w, rfl, rfl, SqL.of g3, hw, _, _, rfl, rfl, ?_⟩
      have g2 := m8.get x2 f2
      refine ⟨o2, _, .int (r6 + w), rfl, rfl, g2, ?_, ?_⟩
      · rw [List.length_map, List.length_cons, l2]
        exact Nat.lt_of_le_of_lt (show i + 1 ≤ 100 by omega) (by decide)
      refine ⟨_, S ++ [r6], S2 ++ [r6 + w], rfl, (m7.trans m8).new ho20, P8.upd x2, ?_, ?_, ?_, by rw [List.length_append, l1]; rfl, by rw [List.length_append, l2]; rfl⟩
      · rw [upd_ne n12]; exact m8.get x1 f1
      · rw [upd_same]; simp
      · rw [upd_ne n2.symm]; exact g3
    · obtain ⟨v6, S, S2, rfl, m5, P5, d1, d2, d3, l1, l2⟩ := pv
      refine ⟨_, rfl, _, rfl, (by show 2 ≤ sizeLine; decide), fun h hh => ?_⟩
      have xh : h ∉ [p, q] := P5.out hh
      have s6 : Same H5 (upd H5 h (.lst [.ref o1, .ref o2])) := same_upd hh
      exact k _ h S S2 (m5.same s6) (P5.same s6) ⟨o1, o2, msk_of xh upd_same, msk_of x1 (s6 _ _ d1), msk_of x2 (s6 _ _ d2)⟩ l1 l2
end
end RF
/-! ## A32 -/
set_option Elab.async false
set_option linter.all false
set_option maxRecDepth 100000
set_option maxHeartbeats 4000000
namespace RF
open PySem PySem.Spec PyProof.Rows L2
section
variable {P : Program} {w : World} {K : PySem.W.Frag} {mg : Str → Option Value} {base : Heap}
/-- rope tuples in a list that grows, apart from the pool -/
def RB (M : List Addr) (H : Hp) (l : Addr) (rs : List Rp) : Prop := ∃ as : List Addr, H l = some (.lst (as.map V.ref)) ∧ TupsAt (msk M H) as (rs.map rV)
theorem RB.ms {M : List Addr} {H H' : Hp} {l : Addr} {rs : List Rp} (h : RB M H l rs) (m : MS M H H') (hl : l ∉ M) : RB M H' l rs := by
  obtain ⟨as, h1, h2⟩ := h
  exact ⟨as, m.get hl h1, h2.same m⟩
theorem RB.put {M : List Addr} {H : Hp} {l t : Addr} {rs : List Rp} {r : Rp} (h : RB M H l rs) (hl : l ∉ M) (ht : msk M H t = some (.tup (rV r))) : ∃ acc, H l = some (.lst acc) ∧ acc.length = rs.length ∧ RB M (upd H l (.lst (acc ++ [.ref t]))) l (rs ++ [r]) := by
  obtain ⟨as, h1, h2⟩ := h
  refine ⟨_, h1, by rw [List.length_map, h2.1, List.length_map], as ++ [t], by rw [upd_same, List.map_append]; rfl, ?_⟩
  rw [msk_upd hl, List.map_append]
  have kp : ∀ b xs, msk M H b = some (.tup xs) → (upd (msk M H) l (.lst (as.map V.ref ++ [.ref t]))) b = some (.tup xs) := fun b xs e => by
    rw [upd_ne (ne_of (msk_sub _ _ e) h1 (by intro z; cases z))]; exact e
  exact TupsAt.snoc ⟨h2.1, fun i b x e1 e2 => kp b x (h2.2 i b x e1 e2)⟩ (kp _ _ ht)
theorem lower_ok {n : Nat} {u d : Int} (hu : 0 ≤ u) (hu2 : u < (n : Int) + 1) (hd : 0 ≤ d) (hd2 : d < n) : Kn n ((u + 1 + d) % ((n : Int) + 1)) ∧ u ≠ (u + 1 + d) % ((n : Int) + 1) := by
  have h1 := Int.emod_nonneg (u + 1 + d) (show (n : Int) + 1 ≠ 0 by omega)
  have h2 := Int.emod_lt_of_pos (u + 1 + d) (show (0 : Int) < (n : Int) + 1 by omega)
  refine ⟨⟨h1, by omega⟩, ?_⟩
  by_cases q : u + 1 + d < (n : Int) + 1
  · rw [Int.emod_eq_of_lt (by omega) q]; omega
  · have e : (u + 1 + d) % ((n : Int) + 1) = (u + 1 + d - ((n : Int) + 1)) % ((n : Int) + 1) := (Int.sub_emod_right ..).symm
    rw [e, Int.emod_eq_of_lt (by omega) (by omega)]
    omega
theorem lets_snoc {rs : List Rp} {S : List Int} {r : Rp} (h : Lets rs S) (hr : hAt S r.1 - hAt S r.2.1 ≤ r.2.2) : Lets (rs ++ [r]) S := fun x hx => by
  rcases List.mem_append.mp hx with z | z
  · exact h x z
  · have : x = r := by simpa using z
    rw [this]; exact hr
theorem wfr_snoc {rs : List Rp} {n : Nat} {r : Rp} (h : WfR n rs) (hr : Kn n r.1 ∧ Kn n r.2.1 ∧ r.1 ≠ r.2.1) : WfR n (rs ++ [r]) := fun x hx => by
  rcases List.mem_append.mp hx with z | z
  · exact h x z
  · have : x = r := by simpa using z
    rw [this]; exact hr
def sp_law_ropes (K : PySem.W.Frag) : Sp := fun vs H Q _ => ∃ (p q h : Addr) (n : Nat) (S S2 : List Int), vs = [.ref p, .ref h, .int 11] ∧ Pool H p q ∧ HighsAt (msk [p, q] H) h S S2 ∧ S.length = n ∧ S2.length = n ∧ 1 ≤ n ∧ n ≤ 8 ∧
  ∀ H' l rs, MS [p, q] H H' → Pool H' p q → RowsAt (msk [p, q] H') l rs → WfR n rs → Lets rs S → Lets rs S2 → rs.length ≤ 20 → Q (.ref l) H'
abbrev N_law_ropes : List Str := ["_law_pool_here", "_law_highs_here", "_law_most", "_law_ropes_here", "_law_many", "_law_turn", "_law_upper", "_law_lower", "_law_room", "_law_high"]
theorem sc_law_ropes : FnScope N_law_ropes ["_law_pool_here", "_law_highs_here", "_law_most"] (defScope s_law_ropes) := ⟨rfl, rfl, rfl, by decide +kernel, rfl, by decide +kernel, by decide +kernel⟩
theorem ok_law_ropes (T : TX K mg) : Okd P w K mg base 2 "_law_ropes" ["_law_pool_here", "_law_highs_here", "_law_most"] (sp_law_ropes K) := by
  obtain ⟨fd, F⟩ := T.d_law_ropes
  refine okd_of F T.g_law_ropes sc_law_ropes (fun _ _ _ _ _ _ us hl => match us, hl with | [_, _, _], _ => rfl) ?_ ?_
  · rintro vs H Q E ⟨p, q, h, n, S, S2, rfl, _⟩; rfl
  · rintro cdv A outer s H vs Q E hr ⟨p, q, h, n, S, S2, rfl, hP, hHi, l1, l2, hn1, h8, k⟩
    refine ⟨_, (pss_cons (ps_set (i := 3) (sc_law_ropes).nd rfl (.inl rfl) (pe_lst pa_nil))
  (pss_cons (ps_set (i := 4) (sc_law_ropes).nd rfl (.inl rfl) (pe_op op_sub (pe_callB (call_len_seqK (K := K) rfl) (by rfl) T.b_len bt_len (pa_cons (pe_ix (ix_listK (K := K) rfl) (pv 1) pe_int (fun _ _ => rfl)) pa_nil)) pe_int))
  (pss_cons (ps_for PassesOwn.never rfl (pi_range1 (by rfl) T.b_range (pa_cons (pe_callD (ok_law_draw T) hr (by decide) (by rfl) (pa_cons (pv 0) (pa_cons (pv 2) pa_nil))) pa_nil)) (pg_name (i := 5) (sc_law_ropes).nd rfl (.inl rfl)) (pss_cons (ps_set (i := 6) (sc_law_ropes).nd rfl (.inr rfl) (pe_callD (ok_law_draw T) hr (by decide) (by rfl) (pa_cons (pv 0) (pa_cons (pe_op op_add (pv 4) pe_int) pa_nil))))
  (pss_cons (ps_set (i := 7) (sc_law_ropes).nd rfl (.inr rfl) (pe_op op_mod (pe_op op_add (pe_op op_add (pv 6) pe_int) (pe_callD (ok_law_draw T) hr (by decide) (by rfl) (pa_cons (pv 0) (pa_cons (pv 4) pa_nil)))) (pe_op op_add (pv 4) pe_int)))
  (pss_cons (ps_set (i := 8) (sc_law_ropes).nd rfl (.inl rfl) (pe_ix (ix_listK (K := K) rfl) (pe_lst (pa_cons pe_int (pa_cons pe_int (pa_cons pe_int (pa_cons pe_int (pa_cons pe_int (pa_cons (pe_op op_pow pe_int pe_int) pa_nil))))))) (pe_callD (ok_law_draw T) hr (by decide) (by rfl) (pa_cons (pv 0) (pa_cons pe_int pa_nil))) (fun _ _ => rfl)))
  (pss_cons (ps_expr (pe_bm PySem.F.plainAttrs_list PySem.F.slot_list_append PySem.F.type_list_append mt_append (pv 3) (pa_cons (pe_tup (pa_cons (pv 6) (pa_cons (pv 7) (pa_cons (pe_op op_add (pe_callB (cr_maxK (K := K) rfl rfl) (by rfl) T.b_max bt_max (pa_cons (pe_lc (own := [("_law_high", 9)]) (g := gName 9) rfl (sc_law_ropes).nd (pi_listK (K := K) rfl (pv 1)) (blkOk_by (N := N_law_ropes) (sc := defScope s_law_ropes) (own := [("_law_high", 9)]) (by decide +kernel)) (fun _ _ _ _ _ => (pg_name (i := 9) (sc_law_ropes).nd rfl (.inl rfl))) (fun _ _ _ _ _ => pts_nil) (fun _ _ _ _ _ => (pe_op op_sub (pe_ix (ix_listK (K := K) rfl) (pv 9) (pv 6) (fun _ _ => rfl)) (pe_ix (ix_listK (K := K) rfl) (pv 9) (pv 7) (fun _ _ => rfl))))) pa_nil)) (pv 8)) pa_nil)))) pa_nil)))
  (pss_one (ps_if (pt_cmpR op_eq (pe_callD (ok_law_draw T) hr (by decide) (by rfl) (pa_cons (pv 0) (pa_cons pe_int pa_nil))) pe_int (nomark _)) (pss_one (ps_expr (pe_bm PySem.F.plainAttrs_list PySem.F.slot_list_append PySem.F.type_list_append mt_append (pv 3) (pa_cons (pe_tup (pa_cons (pv 7) (pa_cons (pv 6) (pa_cons (pe_callB (cr_maxK (K := K) rfl rfl) (by rfl) T.b_max bt_max (pa_cons (pe_lc (own := [("_law_high", 9)]) (g := gName 9) rfl (sc_law_ropes).nd (pi_listK (K := K) rfl (pv 1)) (blkOk_by (N := N_law_ropes) (sc := defScope s_law_ropes) (own := [("_law_high", 9)]) (by decide +kernel)) (fun _ _ _ _ _ => (pg_name (i := 9) (sc_law_ropes).nd rfl (.inl rfl))) (fun _ _ _ _ _ => pts_nil) (fun _ _ _ _ _ => (pe_op op_sub (pe_ix (ix_listK (K := K) rfl) (pv 9) (pv 7) (fun _ _ => rfl)) (pe_ix (ix_listK (K := K) rfl) (pv 9) (pv 6) (fun _ _ => rfl))))) pa_nil)) pa_nil)))) pa_nil)))) pss_nil)))))))
  (pss_one (ps_ret (pv 3)))))), ?_⟩
    refine ⟨Nat.zero_le _, fun l hl => ?_⟩
    have xl : l ∉ [p, q] := hP.out hl
    have s1 : Same H (upd H l (.lst [])) := same_upd hl
    have hl1 : (upd H l (.lst [])) l = some (.lst []) := upd_same
    have P1 := hP.same s1
    have m1 : MS [p, q] H _ := MS.of s1
    revert hl1 P1 m1
    generalize upd H l (.lst []) = H1
    intro hl1 P1 m1
    obtain ⟨ha, hb, hi1, hi2, hi3⟩ := hHi.same m1
    refine ⟨_, rfl, h, _, 0, .ref ha, rfl, rfl, SqL.of (msk_sub _ _ hi1), rfl, ha, _, rfl, .inl (SqL.of (msk_sub _ _ hi2)), (n : Int) + 1, 1, by rw [List.length_map, List.length_cons, l1]; rfl, rfl, ?_⟩
    simp only [Int.add_sub_cancel]
    refine ⟨_, rfl, _, rfl, p, q, 11, rfl, P1, by decide, by decide, fun H2 r2 m2 P2 r0 r1 => ?_⟩
    refine ⟨r2, rfl, by omega, by omega, ?_⟩
    refine for_range (n := r2.toNat) (fun i σ H3 => ∃ v5 v6 v7 v8 v9 rs, σ = [some (.ref p), some (.ref h), some (.int 11), some (.ref l), some (.int n), v5, v6, v7, v8, v9] ∧ MS [p, q] H H3 ∧ Pool H3 p q ∧ RB [p, q] H3 l rs ∧ WfR n rs ∧ Lets rs S ∧ Lets rs S2 ∧ rs.length ≤ 2 * i)
      ⟨_, _, _, _, _, [], rfl, m1.trans m2, P2, RB.ms ⟨[], hl1, TupsAt.nil⟩ m2 xl, fun r hr => by simp at hr, fun r hr => by simp at hr, fun r hr => by simp at hr, Nat.zero_le _⟩ ?_ (fun σ H3 pv => ?_)
    · rintro i σ H3 hi ⟨v5, v6, v7, v8, v9, rs, rfl, m3, P3, hR, hW, hL1, hL2, hlen⟩
      refine ⟨_, rfl, _, rfl, _, _, rfl, rfl, p, q, _, rfl, P3, by omega, by omega, fun H4 u m4 P4 u0 u1 => ?_⟩
      refine ⟨_, rfl, _, _, rfl, rfl, _, rfl, _, rfl, p, q, n, rfl, P4, by omega, by omega, fun H5 d m5 P5 d0 d1 => ?_⟩
      refine ⟨_, _, rfl, rfl, _, rfl, _, _, rfl, rfl, _, _, rfl, rfl, (by show (0 : Int) < (n : Int) + 1; omega), ?_⟩
      obtain ⟨hkulo, hul⟩ := lower_ok u0 u1 d0 d1
      have hkuu : Kn n u := ⟨u0, by omega⟩
      obtain ⟨lo, hlo⟩ : ∃ lo, (u + 1 + d) % ((n : Int) + 1) = lo := ⟨_, rfl⟩
      rw [hlo] at hkulo hul
      simp only [hlo]
      refine ⟨_, _, rfl, rfl, ⟨by decide, by decide, by decide⟩, (by show 6 ≤ sizeLine; decide), fun z hz => ?_⟩
      have hz5 : z ∉ [p, q] := P5.out hz
      have s6 : Same H5 (upd H5 z (.lst [.int 0, .int 0, .int 0, .int 1, .int 2, .int (10 ^ (17 : Int).toNat)])) := same_upd hz
      have hz6 : (upd H5 z (.lst [.int 0, .int 0, .int 0, .int 1, .int 2, .int (10 ^ (17 : Int).toNat)])) z = some (.lst [.int 0, .int 0, .int 0, .int 1, .int 2, .int (10 ^ (17 : Int).toNat)]) := upd_same
      have P6 := P5.same s6
      have m6 : MS [p, q] H5 _ := MS.of s6
      revert hz6 P6 m6
      generalize upd H5 z (.lst [.int 0, .int 0, .int 0, .int 1, .int 2, .int (10 ^ (17 : Int).toNat)]) = H6
      intro hz6 P6 m6
      refine ⟨_, rfl, p, q, 6, rfl, P6, by decide, by decide, fun H7 w m7 P7 w0 w1 => ?_⟩
      obtain ⟨room, hroom, hw⟩ : ∃ room : Int, 0 ≤ room ∧ atI [V.int 0, .int 0, .int 0, .int 1, .int 2, .int (10 ^ (17 : Int).toNat)] w = some (.int room) := by
        have : w = 0 ∨ w = 1 ∨ w = 2 ∨ w = 3 ∨ w = 4 ∨ w = 5 := by omega
        rcases this with e | e | e | e | e | e <;> rw [e] <;> exact ⟨_, by decide, rfl⟩
      refine ⟨z, _, w, _, rfl, rfl, SqL.of (m7.get hz5 hz6), hw, ?_⟩
      have m37 := ((m4.trans m5).trans m6).trans m7
      have R7 := hR.ms m37 xl
      have mm7 := m3.trans m37
      obtain ⟨acc7, ac7, _, _⟩ : ∃ acc, H7 l = some (.lst acc) ∧ True ∧ True := by
        obtain ⟨as, e1, _⟩ := R7
        exact ⟨_, e1, trivial, trivial⟩
      refine ⟨_, rfl, .inl ⟨rfl, _, SqL.of ac7⟩, _, rfl, _, rfl, ?_⟩
      obtain ⟨ha, hb, hi1, hi2, hi3⟩ := hHi.same (mm7)
      have j1 := msk_sub _ _ hi1
      have j2 := msk_sub _ _ hi2
      have j3 := msk_sub _ _ hi3
      refine ⟨_, rfl, h, rfl, ⟨_, SqL.of j1⟩, fun D hD => ?_⟩
      refine lc_gen (n := 2) (fun i => some (.int (if i = 0 then hAt S u - hAt S lo else hAt S2 u - hAt S2 lo))) (by decide) hD (fun i H' hi sm => ⟨_, _, SqL.of (sm _ _ j1), List.getElem?_eq_getElem hi⟩) (fun H' sm => ⟨_, SqL.of (sm _ _ j1), Nat.le_refl _⟩) (fun i x HA HB Qt Qf hi sm y g1 g2 => ?_) (fun HA smA hdA => ?_)
      · obtain ⟨rfl, y⟩ := y
        have hx := y _ (SqL.of (sm _ _ j1))
        have hi : i = 0 ∨ i = 1 := by omega
        rcases hi with rfl | rfl
        · cases hx
          exact ⟨rfl, _, rfl, _, rfl, ha, _, u, _, rfl, rfl, SqL.of (sm _ _ j2), hAt0_at l1 hkuu, _, rfl, _, rfl, ha, _, lo, _, rfl, rfl, SqL.of (sm _ _ j2), hAt0_at l1 hkulo, _, _, rfl, rfl, g1 _ _ rfl (Same.refl _)⟩
        · cases hx
          exact ⟨rfl, _, rfl, _, rfl, hb, _, u, _, rfl, rfl, SqL.of (sm _ _ j3), hAt0_at l2 hkuu, _, rfl, _, rfl, hb, _, lo, _, rfl, rfl, SqL.of (sm _ _ j3), hAt0_at l2 hkulo, _, _, rfl, rfl, g1 _ _ rfl (Same.refl _)⟩
      have hdA : HA D = some (.lst ([hAt S u - hAt S lo, hAt S2 u - hAt S2 lo].map V.int)) := hdA
      refine ⟨D, _, rfl, SqL.of hdA, (by show 0 < 2; decide), fun mx hmx hle => ?_⟩
      have hm1 := hle (hAt S u - hAt S lo) (by simp)
      have hm2 := hle (hAt S2 u - hAt S2 lo) (by simp)
      refine ⟨_, rfl, _, _, rfl, rfl, (by show 3 ≤ sizeLine; decide), fun t ht => ?_⟩
      simp only []
      have s8 : Same H7 (upd HA t (.tup [.int u, .int lo, .int (mx + room)])) := smA.trans (same_upd ht)
      have P8 := P7.same s8
      have m8 : MS [p, q] H7 _ := MS.of s8
      have ht8 : (upd HA t (.tup [.int u, .int lo, .int (mx + room)])) t = some (.tup (rV (u, lo, mx + room))) := upd_same
      have xt : t ∉ [p, q] := (P7.same smA).out ht
      have R8 := R7.ms m8 xl
      revert P8 m8 ht8 R8
      generalize upd HA t (.tup [.int u, .int lo, .int (mx + room)]) = H8
      intro P8 m8 ht8 R8
      obtain ⟨acc8, e8, c8, R9⟩ := R8.put xl (msk_of xt ht8)
      refine ⟨l, acc8, _, rfl, rfl, e8, by rw [c8]; exact Nat.lt_of_le_of_lt (show rs.length ≤ 100 by omega) (by decide), ?_⟩
      have P9 := P8.upd (o := .lst (acc8 ++ [.ref t])) xl
      have m9 : MS [p, q] H (upd H8 l (.lst (acc8 ++ [.ref t]))) := (mm7.trans m8).new hl
      have hW9 := wfr_snoc hW (r := (u, lo, mx + room)) ⟨hkuu, hkulo, hul⟩
      have hL19 := lets_snoc hL1 (r := (u, lo, mx + room)) (by show hAt S u - hAt S lo ≤ mx + room; omega)
      have hL29 := lets_snoc hL2 (r := (u, lo, mx + room)) (by show hAt S2 u - hAt S2 lo ≤ mx + room; omega)
      revert R9 P9 m9
      generalize upd H8 l (.lst (acc8 ++ [.ref t])) = H9
      intro R9 P9 m9
      clear hdA hD j1 j2 j3 hi1 hi2 hi3
      refine ⟨_, rfl, p, q, 3, rfl, P9, by decide, by decide, fun H10 e m10 P10 e0 e1 => ?_⟩
      have R10 := R9.ms m10 xl
      have mm10 := m9.trans m10
      refine ⟨rfl, _, rfl, ?_⟩
      refine ite2 (fun ee => ?_) (fun ee => ?_)
      · obtain ⟨acc10, ac10, _, _⟩ : ∃ acc, H10 l = some (.lst acc) ∧ True ∧ True := by
          obtain ⟨as, e1, _⟩ := R10
          exact ⟨_, e1, trivial, trivial⟩
        refine ⟨_, rfl, .inl ⟨rfl, _, SqL.of ac10⟩, _, rfl, _, rfl, ?_⟩
        obtain ⟨ha, hb, hi1, hi2, hi3⟩ := hHi.same (mm10)
        have j1 := msk_sub _ _ hi1
        have j2 := msk_sub _ _ hi2
        have j3 := msk_sub _ _ hi3
        refine ⟨_, rfl, h, rfl, ⟨_, SqL.of j1⟩, fun D hD => ?_⟩
        refine lc_gen (n := 2) (fun i => some (.int (if i = 0 then hAt S lo - hAt S u else hAt S2 lo - hAt S2 u))) (by decide) hD (fun i H' hi sm => ⟨_, _, SqL.of (sm _ _ j1), List.getElem?_eq_getElem hi⟩) (fun H' sm => ⟨_, SqL.of (sm _ _ j1), Nat.le_refl _⟩) (fun i x HA HB Qt Qf hi sm y g1 g2 => ?_) (fun HA smA hdA => ?_)
        · obtain ⟨rfl, y⟩ := y
          have hx := y _ (SqL.of (sm _ _ j1))
          have hi : i = 0 ∨ i = 1 := by omega
          rcases hi with rfl | rfl
          · cases hx
            exact ⟨rfl, _, rfl, _, rfl, ha, _, lo, _, rfl, rfl, SqL.of (sm _ _ j2), hAt0_at l1 hkulo, _, rfl, _, rfl, ha, _, u, _, rfl, rfl, SqL.of (sm _ _ j2), hAt0_at l1 hkuu, _, _, rfl, rfl, g1 _ _ rfl (Same.refl _)⟩
          · cases hx
            exact ⟨rfl, _, rfl, _, rfl, hb, _, lo, _, rfl, rfl, SqL.of (sm _ _ j3), hAt0_at l2 hkulo, _, rfl, _, rfl, hb, _, u, _, rfl, rfl, SqL.of (sm _ _ j3), hAt0_at l2 hkuu, _, _, rfl, rfl, g1 _ _ rfl (Same.refl _)⟩
        have hdA : HA D = some (.lst ([hAt S lo - hAt S u, hAt S2 lo - hAt S2 u].map V.int)) := hdA
        refine ⟨D, _, rfl, SqL.of hdA, (by show 0 < 2; decide), fun my hmy hle => ?_⟩
        have hm3 := hle (hAt S lo - hAt S u) (by simp)
        have hm4 := hle (hAt S2 lo - hAt S2 u) (by simp)
        refine ⟨(by show 3 ≤ sizeLine; decide), fun t2 ht2 => ?_⟩
        have s11 : Same H10 (upd HA t2 (.tup [.int lo, .int u, .int my])) := smA.trans (same_upd ht2)
        have P11 := P10.same s11
        have m11 : MS [p, q] H10 _ := MS.of s11
        have ht11 : (upd HA t2 (.tup [.int lo, .int u, .int my])) t2 = some (.tup (rV (lo, u, my))) := upd_same
        have xt2 : t2 ∉ [p, q] := (P10.same smA).out ht2
        have R11 := R10.ms m11 xl
        revert P11 m11 ht11 R11
        generalize upd HA t2 (.tup [.int lo, .int u, .int my]) = H11
        intro P11 m11 ht11 R11
        obtain ⟨acc11, e11, c11, R12⟩ := R11.put xl (msk_of xt2 ht11)
        refine ⟨l, acc11, _, rfl, rfl, e11, by rw [c11, List.length_append]; exact Nat.lt_of_le_of_lt (show rs.length + 1 ≤ 100 by omega) (by decide), ?_⟩
        refine ⟨_, _, _, _, _, _, rfl, (mm10.trans m11).new hl, P11.upd xl, R12, wfr_snoc hW9 ⟨hkulo, hkuu, hul.symm⟩, lets_snoc hL19 (by show hAt S lo - hAt S u ≤ my; omega), lets_snoc hL29 (by show hAt S2 lo - hAt S2 u ≤ my; omega), ?_⟩
        rw [List.length_append, List.length_append]
        show rs.length + 1 + 1 ≤ _
        omega
      · refine ⟨_, _, _, _, _, _, rfl, mm10, P10, R10, hW9, hL19, hL29, ?_⟩
        rw [List.length_append]
        show rs.length + 1 ≤ _
        omega
    · obtain ⟨v5, v6, v7, v8, v9, rs, rfl, m3, P3, ⟨as, hl3, hR⟩, hW, hL1, hL2, hlen⟩ := pv
      exact ⟨_, rfl, k H3 l rs m3 P3 ⟨as, msk_of xl hl3, hR⟩ hW hL1 hL2 (by omega)⟩
end
end RF
/-! ## A33 -/
set_option Elab.async false
set_option linter.all false
set_option maxRecDepth 100000
set_option maxHeartbeats 4000000
namespace RF
open PySem PySem.Spec PyProof.Rows L2
section
variable {P : Program} {w : World} {K : PySem.W.Frag} {mg : Str → Option Value} {base : Heap}
/-- tuples in a list that grows, apart from the pool -/
def TB (M : List Addr) (H : Hp) (l : Addr) (xs : List (List V)) : Prop := ∃ as : List Addr, H l = some (.lst (as.map V.ref)) ∧ TupsAt (msk M H) as xs
theorem TB.ms {M : List Addr} {H H' : Hp} {l : Addr} {xs : List (List V)} (h : TB M H l xs) (m : MS M H H') (hl : l ∉ M) : TB M H' l xs := by
  obtain ⟨as, h1, h2⟩ := h
  exact ⟨as, m.get hl h1, h2.same m⟩
theorem TB.put {M : List Addr} {H : Hp} {l t : Addr} {xs : List (List V)} {x : List V} (h : TB M H l xs) (hl : l ∉ M) (ht : msk M H t = some (.tup x)) : ∃ acc, H l = some (.lst acc) ∧ acc.length = xs.length ∧ TB M (upd H l (.lst (acc ++ [.ref t]))) l (xs ++ [x]) := by
  obtain ⟨as, h1, h2⟩ := h
  refine ⟨_, h1, by rw [List.length_map, h2.1], as ++ [t], by rw [upd_same, List.map_append]; rfl, ?_⟩
  rw [msk_upd hl]
  have kp : ∀ b xs, msk M H b = some (.tup xs) → (upd (msk M H) l (.lst (as.map V.ref ++ [.ref t]))) b = some (.tup xs) := fun b xs e => by
    rw [upd_ne (ne_of (msk_sub _ _ e) h1 (by intro z; cases z))]; exact e
  exact TupsAt.snoc ⟨h2.1, fun i b x e1 e2 => kp b x (h2.2 i b x e1 e2)⟩ (kp _ _ ht)
theorem TB.look {M : List Addr} {H : Hp} {l : Addr} {xs : List (List V)} (h : TB M H l xs) : ∃ acc, H l = some (.lst acc) := by
  obtain ⟨as, h1, _⟩ := h
  exact ⟨_, h1⟩
theorem TB.upd {M : List Addr} {H : Hp} {l a : Addr} {o : HO} {ys : List V} {xs : List (List V)} (h : TB M H l xs) (ha : H a = some (.lst ys)) (hl : l ≠ a) (hm : a ∉ M) : TB M (upd H a o) l xs := by
  obtain ⟨as, h1, h2⟩ := h
  refine ⟨as, by rw [upd_ne hl]; exact h1, ?_⟩
  rw [msk_upd hm]
  exact ⟨h2.1, fun i b x e1 e2 => by
    have e := h2.2 i b x e1 e2
    rw [upd_ne (ne_of (msk_sub _ _ e) ha (by intro z; cases z))]; exact e⟩
theorem map_erase {α β : Type} (f : α → β) : ∀ (l : List α) (k : Nat), (l.map f).eraseIdx k = (l.eraseIdx k).map f
  | [], k => by cases k <;> rfl
  | x :: l, 0 => rfl
  | x :: l, k + 1 => congrArg (f x :: ·) (map_erase f l k)
theorem seq_nn {r : Int} {n : Nat} (h0 : 0 ≤ r) (h1 : r < n) : seqIndex? r n = some r.toNat := by
  unfold seqIndex?
  have e0 : ¬ r < 0 := by omega
  simp [e0, h0, h1]
def sp_law_slips (K : PySem.W.Frag) : Sp := fun vs H Q _ => ∃ (p q a : Addr) (n : Nat) (S : List Int) (b : Bool), vs = [.ref p, .ref a, .bl b] ∧ Pool H p q ∧ msk [p, q] H a = some (.lst ((0 :: S).map V.int)) ∧ S.length = n ∧ n ≤ 8 ∧
  ∀ H' l ss, MS [p, q] H H' → Pool H' p q → SlipsAt (msk [p, q] H') l ss → WfS n ss → Q (.ref l) H'
abbrev N_law_slips : List Str := ["_law_pool_here", "_law_high", "_law_wide", "_law_rest", "_law_slips_here", "_law_turn", "_law_climber", "_law_to"]
theorem sc_law_slips : FnScope N_law_slips ["_law_pool_here", "_law_high", "_law_wide"] (defScope s_law_slips) := ⟨rfl, rfl, rfl, by decide +kernel, rfl, by decide +kernel, by decide +kernel⟩
theorem ok_law_slips (T : TX K mg) : Okd P w K mg base 3 "_law_slips" ["_law_pool_here", "_law_high", "_law_wide"] (sp_law_slips K) := by
  obtain ⟨fd, F⟩ := T.d_law_slips
  refine okd_of F T.g_law_slips sc_law_slips (fun _ _ _ _ _ _ us hl => match us, hl with | [_, _, _], _ => rfl) ?_ ?_
  · rintro vs H Q E ⟨p, q, a, n, S, b, rfl, _⟩; rfl
  · rintro cdv A outer s H vs Q E hr ⟨p, q, a, n, S, b, rfl, hP, ha, l1, h8, k⟩
    refine ⟨_, (pss_cons (ps_set (i := 3) (sc_law_slips).nd rfl (.inl rfl) (pe_listRg rfl (by rfl) T.b_list (prg_2 (by rfl) T.b_range pe_int (pe_callB (call_len_seqK (K := K) rfl) (by rfl) T.b_len bt_len (pa_cons (pv 1) pa_nil)))))
  (pss_cons (ps_set (i := 4) (sc_law_slips).nd rfl (.inl rfl) (pe_lst pa_nil))
  (pss_cons (ps_for PassesOwn.never rfl (pi_range1 (by rfl) T.b_range (pa_cons (pe_callD (ok_law_draw T) hr (by decide) (by rfl) (pa_cons (pv 0) (pa_cons (pe_callB (call_len_seqK (K := K) rfl) (by rfl) T.b_len bt_len (pa_cons (pv 1) pa_nil)) pa_nil))) pa_nil)) (pg_name (i := 5) (sc_law_slips).nd rfl (.inl rfl)) (pss_cons (ps_set (i := 6) (sc_law_slips).nd rfl (.inl rfl) (pe_bm PySem.F.plainAttrs_list PySem.F.slot_list_pop PySem.F.type_list_pop mt_popAt (pv 3) (pa_cons (pe_callD (ok_law_draw T) hr (by decide) (by rfl) (pa_cons (pv 0) (pa_cons (pe_callB (call_len_seqK (K := K) rfl) (by rfl) T.b_len bt_len (pa_cons (pv 3) pa_nil)) pa_nil))) pa_nil)))
  (pss_cons (ps_set (i := 7) (sc_law_slips).nd rfl (.inl rfl) (pe_op op_sub (pe_op op_add (pe_ix (ix_listK (K := K) rfl) (pv 1) (pv 6) (fun _ _ => rfl)) pe_int) (pe_callD (ok_law_draw T) hr (by decide) (by rfl) (pa_cons (pv 0) (pa_cons pe_int pa_nil)))))
  (pss_cons (ps_if (pt_val (pv 2)) (pss_one (ps_set (i := 7) (sc_law_slips).nd rfl (.inl rfl) (pe_callD (ok_law_number T) hr (by decide) (by rfl) (pa_cons (pv 0) (pa_cons pe_bl pa_nil))))) pss_nil)
  (pss_one (ps_expr (pe_bm PySem.F.plainAttrs_list PySem.F.slot_list_append PySem.F.type_list_append mt_append (pv 4) (pa_cons (pe_tup (pa_cons (pv 6) (pa_cons (pv 7) pa_nil))) pa_nil))))))))
  (pss_one (ps_ret (pv 4)))))), ?_⟩
    have el : ((((0 :: S).map V.int).length : Nat) : Int) = (n : Int) + 1 := by rw [List.length_map, List.length_cons, l1]; omega
    refine ⟨_, rfl, a, _, rfl, .inl (SqL.of (msk_sub _ _ ha)), 1, (n : Int) + 1, rfl, by rw [el], RgOk.of_le (by omega) (by omega) (by omega) (by omega), fun z hz => ?_⟩
    have xz : z ∉ [p, q] := hP.out hz
    have s1 : Same H (upd H z (.lst (rgV 1 ((n : Int) + 1)))) := same_upd hz
    obtain ⟨rr0, hrr0, hl0, hm0⟩ : ∃ rr : List Int, rgV 1 ((n : Int) + 1) = rr.map V.int ∧ rr.length = n ∧ rr.Nodup ∧ ∀ c ∈ rr, 1 ≤ c ∧ c ≤ (n : Int) := by
      refine ⟨(List.range n).map fun i : Nat => 1 + (i : Int), ?_, by rw [List.length_map, List.length_range], ?_, fun c hc => ?_⟩
      · unfold rgV
        rw [show ((n : Int) + 1 - 1).toNat = n by omega, List.map_map]
        rfl
      · rw [List.nodup_iff_pairwise_ne, List.pairwise_map]
        exact List.nodup_range.imp fun h z => h (by omega)
      · obtain ⟨i, hi, rfl⟩ := List.mem_map.mp hc
        have := List.mem_range.mp hi
        omega
    have hz1 : (upd H z (.lst (rgV 1 ((n : Int) + 1)))) z = some (.lst (rr0.map V.int)) := by rw [upd_same, hrr0]
    have P1 := hP.same s1
    have m1 : MS [p, q] H _ := MS.of s1
    revert hz1 P1 m1
    generalize upd H z (.lst (rgV 1 ((n : Int) + 1))) = H1
    intro hz1 P1 m1
    refine ⟨Nat.zero_le _, fun l hl => ?_⟩
    have xl : l ∉ [p, q] := P1.out hl
    have hlz : l ≠ z := (ne_of_none hz1 hl).symm
    have hl0' : H l = none := m1.free xl hl
    have s2 : Same H1 (upd H1 l (.lst [])) := same_upd hl
    have hl2 : (upd H1 l (.lst [])) l = some (.lst []) := upd_same
    have hz2 := s2 _ _ hz1
    have P2 := P1.same s2
    have m2 : MS [p, q] H _ := m1.same s2
    revert hl2 hz2 P2 m2
    generalize upd H1 l (.lst []) = H2
    intro hl2 hz2 P2 m2
    refine ⟨_, rfl, _, rfl, a, _, rfl, .inl (SqL.of (msk_sub _ _ (m2 _ _ ha))), p, q, (n : Int) + 1, by rw [el]; rfl, P2, by omega, by omega, fun H3 r3 m3 P3 r0 r1 => ?_⟩
    refine ⟨r3, rfl, by omega, by omega, ?_⟩
    refine for_range (n := r3.toNat) (fun i σ H4 => ∃ v5 v6 v7 rr ss, σ = [some (.ref p), some (.ref a), some (.bl b), some (.ref z), some (.ref l), v5, v6, v7] ∧ MS [p, q] H H4 ∧ Pool H4 p q ∧ H4 z = some (.lst (rr.map V.int)) ∧ rr.length = n - i ∧ ss.length ≤ i ∧ TB [p, q] H4 l (ss.map sV) ∧ (ss.map Prod.fst ++ rr).Nodup ∧ ∀ c ∈ ss.map Prod.fst ++ rr, 1 ≤ c ∧ c ≤ (n : Int))
      ⟨_, _, _, rr0, [], rfl, m2.trans m3, P3, m3.get xz hz2, hl0, Nat.zero_le _, TB.ms ⟨[], hl2, TupsAt.nil⟩ m3 xl, hm0.1, hm0.2⟩ ?_ (fun σ H4 pv => ?_)
    · rintro i σ H4 hi ⟨v5, v6, v7, rr, ss, rfl, m4, P4, hz4, hrl, hsl, hT, hnd, hrg⟩
      have erl : ((((rr.map V.int).length : Nat)) : Int) = ((n - i : Nat) : Int) := by rw [List.length_map, hrl]
      refine ⟨_, rfl, .inl ⟨rfl, _, SqL.of hz4⟩, _, rfl, _, rfl, z, _, rfl, .inl (SqL.of hz4), p, q, ((n - i : Nat) : Int), by rw [erl]; rfl, P4, by omega, by omega, fun H5 r5 m5 P5 w0 w1 => ?_⟩
      have hlt : r5.toNat < rr.length := by omega
      have hy : rr[r5.toNat]? = some rr[r5.toNat] := List.getElem?_eq_getElem hlt
      generalize rr[r5.toNat] = c at hy
      have hperm := L2.erase_perm rr r5.toNat c hy
      have hz5 := m5.get xz hz4
      refine ⟨z, _, r5, r5.toNat, .int c, rfl, rfl, hz5, by omega, by omega, seq_nn w0 (by rw [List.length_map]; omega), get_map2 hy, ?_⟩
      have hz6 : (upd H5 z (.lst ((rr.map V.int).eraseIdx r5.toNat))) z = some (.lst ((rr.eraseIdx r5.toNat).map V.int)) := by
        rw [upd_same, map_erase]
      have P6 : Pool (upd H5 z (.lst ((rr.map V.int).eraseIdx r5.toNat))) p q := P5.upd xz
      have m6 : MS [p, q] H (upd H5 z (.lst ((rr.map V.int).eraseIdx r5.toNat))) := (m4.trans m5).new hz
      have T6 : TB [p, q] (upd H5 z (.lst ((rr.map V.int).eraseIdx r5.toNat))) l (ss.map sV) := (hT.ms m5 xl).upd hz5 hlz xz
      revert hz6 P6 m6 T6
      generalize upd H5 z (.lst ((rr.map V.int).eraseIdx r5.toNat)) = H6
      intro hz6 P6 m6 T6
      have hcr := hrg c (List.mem_append_right _ (List.mem_of_getElem? hy))
      have hkc : Kn n c := ⟨by omega, hcr.2⟩
      have ha6 := msk_sub _ _ (m6 _ _ ha)
      refine ⟨_, rfl, _, rfl, a, _, c, _, rfl, rfl, SqL.of ha6, hAt0_at l1 hkc, _, _, rfl, rfl, _, rfl, p, q, 12, rfl, P6, by decide, by decide, fun H7 r7 m7 P7 _ _ => ?_⟩
      refine ⟨_, _, rfl, rfl, ?_⟩
      have fin : ∀ H8 to, MS [p, q] H7 H8 → Pool H8 p q → ∀ t, H8 t = none → ∃ acc, (upd H8 t (.tup [.int c, .int to])) l = some (.lst acc) ∧ acc.length < sizeLine ∧
          ∃ (v5 v6 v7 : Option V) (rr' : List Int) (ss' : List (Int × Int)), [some (V.ref p), some (.ref a), some (.bl b), some (.ref z), some (.ref l), some (.int (0 + (i : Nat))), some (.int c), some (.int to)] = [some (.ref p), some (.ref a), some (.bl b), some (.ref z), some (.ref l), v5, v6, v7] ∧ MS [p, q] H (upd (upd H8 t (.tup [.int c, .int to])) l (.lst (acc ++ [.ref t]))) ∧ Pool (upd (upd H8 t (.tup [.int c, .int to])) l (.lst (acc ++ [.ref t]))) p q ∧
            (upd (upd H8 t (.tup [.int c, .int to])) l (.lst (acc ++ [.ref t]))) z = some (.lst (rr'.map V.int)) ∧ rr'.length = n - (i + 1) ∧ ss'.length ≤ i + 1 ∧ TB [p, q] (upd (upd H8 t (.tup [.int c, .int to])) l (.lst (acc ++ [.ref t]))) l (ss'.map sV) ∧ (ss'.map Prod.fst ++ rr').Nodup ∧ ∀ c ∈ ss'.map Prod.fst ++ rr', 1 ≤ c ∧ c ≤ (n : Int) := fun H8 to m8 P8 t ht => by
        have xt : t ∉ [p, q] := P8.out ht
        have m78 := m7.trans m8
        have s9 : Same H8 (upd H8 t (.tup [.int c, .int to])) := same_upd ht
        have T9 := (T6.ms m78 xl).ms (MS.of s9) xl
        obtain ⟨acc, e9, c9, T10⟩ := T9.put xl (x := [.int c, .int to]) (msk_of xt upd_same)
        have hz9 := s9 _ _ (m78.get xz hz6)
        have hpm : ((ss.map Prod.fst ++ [c]) ++ rr.eraseIdx r5.toNat).Perm (ss.map Prod.fst ++ rr) := by
          rw [List.append_assoc]
          exact hperm.append_left _
        refine ⟨acc, e9, by rw [c9, List.length_map]; exact Nat.lt_of_le_of_lt (show ss.length ≤ 100 by omega) (by decide), _, _, _, rr.eraseIdx r5.toNat, ss ++ [(c, to)], rfl, ((m6.trans m78).same s9).new hl0', (P8.same s9).upd xl, by rw [upd_ne hlz.symm]; exact hz9, ?_, by rw [List.length_append]; show ss.length + 1 ≤ _; omega, ?_, ?_, fun x hx => ?_⟩
        · rw [List.length_eraseIdx_of_lt hlt]; omega
        · rw [List.map_append]; exact T10
        · rw [List.map_append]
          exact hpm.nodup_iff.mpr hnd
        · rw [List.map_append] at hx
          exact hrg x (hpm.mem_iff.mp hx)
      cases b with
      | false =>
        refine ⟨_, rfl, _, rfl, iteF ?_⟩
        obtain ⟨accx, ax⟩ := (T6.ms m7 xl).look
        refine ⟨_, rfl, .inl ⟨rfl, _, SqL.of ax⟩, _, rfl, _, rfl, (by show 2 ≤ sizeLine; decide), fun t ht => ?_⟩
        obtain ⟨acc, e1, e2, e3⟩ := fin H7 _ MS.rfl_ P7 t ht
        exact ⟨l, acc, _, rfl, rfl, e1, e2, e3⟩
      | true =>
        refine ⟨_, rfl, _, rfl, iteT ?_⟩
        refine ⟨_, rfl, p, q, true, rfl, P7, fun H8 r8 m8 P8 => ?_⟩
        obtain ⟨accx, ax⟩ := ((T6.ms m7 xl).ms m8 xl).look
        refine ⟨_, rfl, .inl ⟨rfl, _, SqL.of ax⟩, _, rfl, _, rfl, (by show 2 ≤ sizeLine; decide), fun t ht => ?_⟩
        obtain ⟨acc, e1, e2, e3⟩ := fin H8 _ m8 P8 t ht
        exact ⟨l, acc, _, rfl, rfl, e1, e2, e3⟩
    · obtain ⟨v5, v6, v7, rr, ss, rfl, m4, P4, hz4, hrl, hsl, ⟨as, hl4, hT⟩, hnd, hrg⟩ := pv
      refine ⟨_, rfl, k H4 l ss m4 P4 ⟨as, msk_of xl hl4, hT⟩ ⟨?_, fun s hs => hrg s.1 (List.mem_append_left _ (List.mem_map.mpr ⟨s, hs, rfl⟩))⟩⟩
      rw [List.nodup_append] at hnd
      exact hnd.1
end
end RF
/-! ## A34 -/
set_option Elab.async false
set_option linter.all false
set_option maxRecDepth 100000
set_option maxHeartbeats 4000000
namespace RF
open PySem PySem.Spec PyProof.Rows L2
section
variable {P : Program} {w : World} {K : PySem.W.Frag} {mg : Str → Option Value} {base : Heap}
def sp_law_some_pulls (K : PySem.W.Frag) : Sp := fun vs H Q _ => ∃ (p q l a t : Addr) (n : Nat) (rs : List Rp) (S F : List Int), vs = [.ref p, .ref l, .ref a, .ref t] ∧ Pool H p q ∧ RowsAt (msk [p, q] H) l rs ∧ WfR n rs ∧ rs.length ≤ 60 ∧ n ≤ 8 ∧
  msk [p, q] H a = some (.lst ((0 :: S).map V.int)) ∧ S.length = n ∧ msk [p, q] H t = some (.lst ((0 :: F).map V.int)) ∧ F.length = n ∧
  ∀ H' d pls, MS [p, q] H H' → Pool H' p q → msk [p, q] H' d = some (.dK (gkv optV pls)) → pls.map Prod.fst = downL S F n → Q (.ref d) H'
abbrev N_law_some_pulls : List Str := ["_law_pool_here", "_law_ropes_here", "_law_high", "_law_then", "_law_pulls_here", "_law_knot", "_law_menu", "_law_number_here", "_law_rope"]
theorem sc_law_some_pulls : FnScope N_law_some_pulls ["_law_pool_here", "_law_ropes_here", "_law_high", "_law_then"] (defScope s_law_some_pulls) := ⟨rfl, rfl, rfl, by decide +kernel, rfl, by decide +kernel, by decide +kernel⟩
theorem ok_law_some_pulls (T : TX K mg) : Okd P w K mg base 2 "_law_some_pulls" ["_law_pool_here", "_law_ropes_here", "_law_high", "_law_then"] (sp_law_some_pulls K) := by
  obtain ⟨fd, F⟩ := T.d_law_some_pulls
  refine okd_of F T.g_law_some_pulls sc_law_some_pulls (fun _ _ _ _ _ _ us hl => match us, hl with | [_, _, _, _], _ => rfl) ?_ ?_
  · rintro vs H Q E ⟨p, q, l, a, t, n, rs, S, F, rfl, _⟩; rfl
  · rintro cdv A outer s H vs Q E hr ⟨p, q, l, a, t, n, rs, S, F, rfl, hP, hl, hw, h60, h8, ha, hSl, ht, hFl, k⟩
    have hu := hu_of hr
    refine ⟨_, (pss_cons (ps_set (i := 4) (sc_law_some_pulls).nd rfl (.inl rfl) pe_dnewK)
  (pss_cons (ps_for PassesOwn.never rfl (pi_listK (K := K) rfl (pe_lc (own := [("_law_knot", 5)]) (g := gName 5) rfl (sc_law_some_pulls).nd (pi_range2 (by rfl) T.b_range (pa_cons pe_int (pa_cons (pe_callB (call_len_seqK (K := K) rfl) (by rfl) T.b_len bt_len (pa_cons (pv 2) pa_nil)) pa_nil))) (blkOk_by (N := N_law_some_pulls) (sc := defScope s_law_some_pulls) (own := [("_law_knot", 5)]) (by decide +kernel)) (fun _ _ _ _ _ => (pg_name (i := 5) (sc_law_some_pulls).nd rfl (.inl rfl))) (fun _ _ _ _ _ => (pts_one (pt_cmpR op_lt (pe_ix (ix_listK (K := K) rfl) (pv 3) (pv 5) (fun _ _ => rfl)) (pe_ix (ix_listK (K := K) rfl) (pv 2) (pv 5) (fun _ _ => rfl)) (nomark _)))) (fun _ _ _ _ _ => (pv 5)))) (pg_name (i := 5) (sc_law_some_pulls).nd rfl (.inl rfl)) (pss_cons (ps_set (i := 6) (sc_law_some_pulls).nd rfl (.inl rfl) (pe_lst (pa_cons pe_non pa_nil)))
  (pss_cons (ps_for PassesOwn.never rfl (pi_range1 (by rfl) T.b_range (pa_cons (pe_callB (call_len_seqK (K := K) rfl) (by rfl) T.b_len bt_len (pa_cons (pv 1) pa_nil)) pa_nil)) (pg_name (i := 7) (sc_law_some_pulls).nd rfl (.inl rfl)) (pss_cons (ps_set (i := 8) (sc_law_some_pulls).nd rfl (.inl rfl) (pe_ix (ix_listK (K := K) rfl) (pv 1) (pv 7) (fun _ _ => rfl)))
  (pss_one (ps_if (PW.pt (pw_and (pt_cmpR op_eq (pe_ix (ix_tupK (K := K) rfl) (pv 8) pe_int (fun _ _ => rfl)) (pv 5) (nomark _)) (pw_and1 (pt_cmpR op_eq (pe_op op_sub (pe_ix (ix_listK (K := K) rfl) (pv 3) (pv 5) (fun _ _ => rfl)) (pe_ix (ix_listK (K := K) rfl) (pv 3) (pe_ix (ix_tupK (K := K) rfl) (pv 8) pe_int (fun _ _ => rfl)) (fun _ _ => rfl))) (pe_ix (ix_tupK (K := K) rfl) (pv 8) pe_int (fun _ _ => rfl)) (nomark _))))) (pss_one (ps_set (i := 6) (sc_law_some_pulls).nd rfl (.inl rfl) (pe_op op_cat (pv 6) (pe_lst (pa_cons (pv 7) (pa_cons (pv 7) pa_nil)))))) pss_nil))))
  (pss_one (ps_dput hu (pv 4) (pv 5) (pe_ix (ix_listK (K := K) rfl) (pv 6) (pe_callD (ok_law_draw T) hr (by decide) (by rfl) (pa_cons (pv 0) (pa_cons (pe_callB (call_len_seqK (K := K) rfl) (by rfl) T.b_len bt_len (pa_cons (pv 6) pa_nil)) pa_nil))) (fun _ _ => rfl)) rfl)))))
  (pss_one (ps_ret (pv 4))))), ?_⟩
    intro d hd
    have xd : d ∉ [p, q] := hP.out hd
    have s1 : Same H (upd H d (.dK [])) := same_upd hd
    have hd1 : (upd H d (.dK [])) d = some (.dK (gkv optV [])) := upd_same
    have P1 := hP.same s1
    have m1 : MS [p, q] H _ := MS.of s1
    revert hd1 P1 m1
    generalize upd H d (.dK []) = H1
    intro hd1 P1 m1
    have ha1 := msk_sub _ _ (m1 _ _ ha)
    have ht1 := msk_sub _ _ (m1 _ _ ht)
    have el : ((((0 :: S).map V.int).length : Nat) : Int) = (n : Int) + 1 := by rw [List.length_map, List.length_cons, hSl]; omega
    refine ⟨_, rfl, a, _, rfl, .inl (SqL.of ha1), 1, (n : Int) + 1, by rw [el], ⟨by omega, by omega, by omega, by omega⟩, fun D hD => ?_⟩
    rw [show ((n : Int) + 1 - 1).toNat = n by omega]
    refine lc_gen (n := n) (fun i => (dnF S F i).map V.int) (Nat.le_trans h8 (by decide)) hD (fun i H' hi sm => hi) (fun H' sm => Nat.le_refl _) (fun i x H2 H3 Qt Qf hi sm y k1 k2 => ?_) (fun H2 sm hd2 => ?_)
    · obtain ⟨rfl, rfl⟩ := y
      have hki : Kn n (1 + (i : Int)) := ⟨by omega, by omega⟩
      refine ⟨rfl, _, rfl, _, rfl, t, _, _, .int (hAt F (1 + (i : Int))), rfl, rfl, SqL.of (sm _ _ ht1), hAt0_at hFl hki, _, rfl, _, rfl, a, _, _, .int (hAt S (1 + (i : Int))), rfl, rfl, SqL.of (sm _ _ ha1), hAt0_at hSl hki, _, _, rfl, rfl, _, rfl, ?_⟩
      by_cases hlt : hAt F (1 + (i : Int)) < hAt S (1 + (i : Int))
      · rw [decide_eq_true hlt]
        exact ⟨_, rfl, k1 _ _ (by unfold dnF; rw [if_pos hlt]; rfl) (Same.refl _)⟩
      · rw [decide_eq_false hlt]
        exact k2 _ (by unfold dnF; rw [if_neg hlt]; rfl) (Same.refl _)
    · rw [fm_ints] at hd2
      have hD2 : H2 D = some (.lst ((downL S F n).map V.int)) := hd2
      have xD : D ∉ [p, q] := P1.out hD
      have m2 := m1.same sm
      have P2 := P1.same sm
      have hdd : d ≠ D := ne_of_none hd1 hD
      have hdl := down_len S F n
      have hnd := down_nodup S F n
      refine ⟨D, rfl, ⟨_, SqL.of hD2⟩, ?_⟩
      refine for_gen (n := (downL S F n).length) (fun i σ H3 => ∃ v5 v6 v7 v8 pls, σ = [some (.ref p), some (.ref l), some (.ref a), some (.ref t), some (.ref d), v5, v6, v7, v8] ∧ MS [p, q] H H3 ∧ Pool H3 p q ∧ H3 D = some (.lst ((downL S F n).map V.int)) ∧ H3 d = some (.dK (gkv optV pls)) ∧ pls.map Prod.fst = (downL S F n).take i)
        ⟨_, _, _, _, [], rfl, m2, P2, hD2, sm _ _ hd1, rfl⟩ (fun i σ H3 hi pv => ?_) (fun i x σ H3 H4 hi pv y => ?_) (fun σ H3 pv => ?_)
      · obtain ⟨_, _, _, _, _, _, _, _, hD3, _⟩ := pv
        exact ⟨_, _, SqL.of hD3, get_map2 (List.getElem?_eq_getElem hi)⟩
      · obtain ⟨v5, v6, v7, v8, pls, rfl, m3, P3, hD3, hd3, hks⟩ := pv
        obtain ⟨rfl, y⟩ := y
        obtain ⟨c, hc, rfl⟩ := get_map (y _ (SqL.of hD3))
        have hcm := down_mem.mp (List.mem_of_getElem? hc)
        have hkc : Kn n c := ⟨by have := hcm.1; omega, hcm.2.1⟩
        refine ⟨(by show 1 ≤ sizeLine; decide), fun me hme => ?_⟩
        have s4 : Same H4 (upd H4 me (.lst [.non])) := same_upd hme
        have hme4 : (upd H4 me (.lst [.non])) me = some (.lst (([none] : List (Option Int)).map optV)) := upd_same
        revert s4 hme4
        generalize upd H4 me (.lst [.non]) = H5
        intro s4 hme4
        have hl5 : ∀ Hx, Same H5 Hx → RowsAt Hx l rs := fun Hx sx => ((hl.same m3).same msk_sub).same (s4.trans sx)
        have ht5 : ∀ Hx, Same H5 Hx → Hx t = some (.lst ((0 :: F).map V.int)) := fun Hx sx => sx _ _ (s4 _ _ (msk_sub _ _ (m3 _ _ ht)))
        obtain ⟨as, hal, hlx, _⟩ := (hl5 H5 (Same.refl _)).get
        have ell : ((((as.map V.ref).length) : Nat) : Int) = (rs.length : Int) := by rw [List.length_map, hal]
        refine ⟨_, rfl, l, _, rfl, .inl (SqL.of hlx), (rs.length : Int), by rw [ell], by omega, by omega, ?_⟩
        rw [show ((rs.length : Nat) : Int).toNat = rs.length from Int.toNat_natCast _]
        refine for_range (n := rs.length) (fun j σ H6 => ∃ v7 v8 me ms, σ = [some (.ref p), some (.ref l), some (.ref a), some (.ref t), some (.ref d), some (.int c), some (.ref me), v7, v8] ∧ Same H5 H6 ∧ me ∉ [p, q] ∧ H6 me = some (.lst ((ms : List (Option Int)).map optV)) ∧ 1 ≤ ms.length ∧ ms.length ≤ 1 + 2 * j)
          ⟨_, _, me, [none], rfl, Same.refl _, P3.out hme, hme4, Nat.le_refl _, Nat.le_refl _⟩ ?_ (fun σ H6 pv => ?_)
        · rintro j σ H6 hj ⟨v7, v8, me6, ms, rfl, s6, xm, hme6, ml1, ml2⟩
          have hrow : rs[(0 + (j : Int)).toNat]? = some rs[j] := by rw [Int.zero_add, Int.toNat_natCast]; exact List.getElem?_eq_getElem hj
          obtain ⟨as6, b, b1, b2, b3⟩ := (hl5 H6 s6).at_ (by omega) hrow
          obtain ⟨k1, k2, _⟩ := hw _ (List.mem_of_getElem? hrow)
          revert b3 k1 k2
          generalize rs[j] = r
          obtain ⟨u, lo, m⟩ := r
          intro b3 k1 k2
          have ht6 := ht5 H6 s6
          refine ⟨_, rfl, _, rfl, l, _, 0 + (j : Int), .ref b, rfl, rfl, SqL.of b1, b2, ?_⟩
          refine ⟨_, rfl, b, _, 0, .int u, rfl, rfl, SqT.of b3, rfl, _, rfl, rfl, _, rfl, ?_⟩
          have skip : ∃ v7' v8' me' ms', [some (V.ref p), some (.ref l), some (.ref a), some (.ref t), some (.ref d), some (.int c), some (.ref me6), some (.int (0 + (j : Nat))), some (.ref b)] = [some (V.ref p), some (.ref l), some (.ref a), some (.ref t), some (.ref d), some (.int c), some (.ref me'), v7', v8'] ∧ Same H5 H6 ∧ me' ∉ [p, q] ∧ H6 me' = some (.lst ((ms' : List (Option Int)).map optV)) ∧ 1 ≤ ms'.length ∧ ms'.length ≤ 1 + 2 * (j + 1) :=
            ⟨_, _, me6, ms, rfl, s6, xm, hme6, ml1, by omega⟩
          refine ite2 (fun e1 => ?_) (fun e1 => skip)
          refine ⟨_, rfl, _, rfl, t, _, c, _, rfl, rfl, SqL.of ht6, hAt0_at hFl hkc, _, rfl, _, rfl, b, _, 1, .int lo, rfl, rfl, SqT.of b3, rfl, t, _, lo, _, rfl, rfl, SqL.of ht6, hAt0_at hFl k2, _, _, rfl, rfl, _, rfl, b, _, 2, .int m, rfl, rfl, SqT.of b3, rfl, rfl, _, rfl, ?_⟩
          refine ite2 (fun e2 => ?_) (fun e2 => skip)
          refine ⟨_, rfl, _, rfl, _, rfl, (by show 2 ≤ sizeLine; decide), fun z hz => ?_⟩
          have nz : me6 ≠ z := ne_of_none hme6 hz
          refine ⟨me6, z, _, _, rfl, rfl, by rw [upd_ne nz]; exact hme6, upd_same, ?_, fun m2 hm2 => ?_⟩
          · rw [List.length_map]
            exact Nat.le_trans (show ms.length + 2 ≤ 200 by omega) (by decide)
          · refine ⟨_, _, m2, ms ++ [some (j : Int), some (j : Int)], rfl, s6.trans ((same_upd hz).trans (same_upd hm2)), (P3.same (s4.trans s6)).out ((same_upd hz).free hm2), ?_, by rw [List.length_append]; omega, by rw [List.length_append]; show ms.length + 2 ≤ _; omega⟩
            rw [upd_same, List.map_append, Int.zero_add]
            rfl
        · obtain ⟨v7, v8, me6, ms, rfl, s6, xm, hme6, ml1, ml2⟩ := pv
          have s36 := s4.trans s6
          have P6 := P3.same s36
          have em : ((((ms.map optV).length) : Nat) : Int) = (ms.length : Int) := by rw [List.length_map]
          refine ⟨_, rfl, _, rfl, _, rfl, me6, _, rfl, .inl (SqL.of hme6), p, q, (ms.length : Int), by rw [em]; rfl, P6, by omega, by omega, fun H7 r m7 P7 r0 r1 => ?_⟩
          have hrl : r.toNat < ms.length := by omega
          have hx := List.getElem?_eq_getElem hrl
          generalize ms[r.toNat] = x at hx
          have hd7 := m7.get xd (s36 _ _ hd3)
          have hkn : (pls.map Prod.fst).Nodup := by rw [hks]; exact hnd.sublist (List.take_sublist ..)
          have hpl : pls.length ≤ 8 := by
            have := congrArg List.length hks
            rw [List.length_map, List.length_take] at this
            omega
          refine ⟨me6, _, r, optV x, rfl, rfl, SqL.of (m7.get xm hme6), atI_int r0 (get_map2 hx), _, rfl, _, rfl, d, _, rfl, DPut.k (k := Sum.inl c) hd7 (by rw [gkv_len]; exact Nat.lt_of_le_of_lt (show pls.length ≤ 100 by omega) (by decide)), ?_⟩
          have hcn : c ∉ pls.map Prod.fst := fun z => by
            rw [hks] at z
            have e := List.take_append_drop i (downL S F n)
            rw [← e, List.nodup_append] at hnd
            refine hnd.2.2 _ z c ?_ rfl
            have hgd : ((downL S F n).drop i)[0]? = some c := by rw [List.getElem?_drop]; exact hc
            exact List.mem_of_getElem? hgd
          refine ⟨_, _, _, _, putL pls c x, rfl, ((m3.same s36).trans m7).new hd, P7.upd xd, by rw [upd_ne hdd.symm]; exact m7.get xD (s36 _ _ hD3), ?_, ?_⟩
          · rw [upd_same, gkv_put optV c x hkn]
          · rw [putL_keys, if_neg hcn, hks, List.take_add_one, hc]; rfl
      · obtain ⟨v5, v6, v7, v8, pls, rfl, m3, P3, hD3, hd3, hks⟩ := pv
        rw [List.take_length] at hks
        exact ⟨⟨_, SqL.of hD3, by rw [List.length_map]; exact Nat.le_refl _⟩, _, rfl, k H3 d pls m3 P3 (msk_of xd hd3) hks⟩
end
end RF
/-! ## A35 -/
set_option Elab.async false
set_option linter.all false
set_option maxRecDepth 100000
set_option maxHeartbeats 4000000
namespace RF
open PySem PySem.Spec PyProof.Rows L2
section
variable {P : Program} {w : World} {K : PySem.W.Frag} {mg : Str → Option Value} {base : Heap}
def mn (i j : Int) : Int := if j < i then j else i
theorem mn_le1 (i j : Int) : mn i j ≤ i := by unfold mn; split <;> omega
theorem mn_le2 (i j : Int) : mn i j ≤ j := by unfold mn; split <;> omega
theorem mn_or (i j : Int) : mn i j = i ∨ mn i j = j := by
  unfold mn
  split
  · exact .inr rfl
  · exact .inl rfl
/-- the least of two heights -/
def leastL (n : Nat) (S S2 : List Int) : List Int := (List.range n).map fun i : Nat => mn (hAt S (1 + (i : Int))) (hAt S2 (1 + (i : Int)))
theorem least_len (n : Nat) (S S2 : List Int) : (leastL n S S2).length = n := by unfold leastL; rw [List.length_map, List.length_range]
theorem least_at {n : Nat} {S S2 : List Int} {c : Int} (h : Kn n c) : hAt (leastL n S S2) c = mn (hAt S c) (hAt S2 c) := by
  by_cases h0 : c = 0
  · rw [h0, hAt_zero, hAt_zero, hAt_zero]; rfl
  · have e : c = 1 + (((c - 1).toNat : Nat) : Int) := by have := h.1; omega
    rw [e]
    refine hAt_idx ?_
    unfold leastL
    rw [List.getElem?_map, List.getElem?_range (by have := h.2; have := h.1; omega)]
    rfl
theorem least_lets {n : Nat} {rs : List Rp} {S S2 : List Int} (W : WfR n rs) (h1 : Lets rs S) (h2 : Lets rs S2) : Lets rs (leastL n S S2) := fun r hr => by
  obtain ⟨hu, hl, _⟩ := W r hr
  have a := h1 r hr
  have b := h2 r hr
  rw [least_at hu, least_at hl]
  have c1 := mn_le1 (hAt S r.1) (hAt S2 r.1)
  have c2 := mn_le2 (hAt S r.1) (hAt S2 r.1)
  rcases mn_or (hAt S r.2.1) (hAt S2 r.2.1) with e | e <;> rw [e] <;> omega
/-- what was told, apart from the pool -/
def ToldAt (H : Hp) (t : Addr) (F : List Int) (sts : List (Int × List Int)) : Prop := ∃ (hf sd : Addr) (v : V), H t = some (.tup [.ref hf, v, .ref sd]) ∧ H hf = some (.lst (F.map V.int)) ∧ StopsAt H sd sts
theorem ToldAt.same {H H' : Hp} {t : Addr} {F : List Int} {sts : List (Int × List Int)} (h : ToldAt H t F sts) (s : Same H H') : ToldAt H' t F sts := by
  obtain ⟨hf, sd, v, h1, h2, h3⟩ := h
  exact ⟨hf, sd, v, s _ _ h1, s _ _ h2, h3.same s⟩
def sp_law_paper (K : PySem.W.Frag) : Sp := fun vs H Q _ => ∃ (p q l h t : Addr) (n : Nat) (rs : List Rp) (S S2 F0 : List Int) (sts0 : List (Int × List Int)), vs = [.ref p, .ref l, .ref h, .ref t] ∧ Pool H p q ∧ RowsAt (msk [p, q] H) l rs ∧ WfR n rs ∧ rs.length ≤ 60 ∧ 1 ≤ n ∧ n ≤ 8 ∧
  HighsAt (msk [p, q] H) h S S2 ∧ S.length = n ∧ S2.length = n ∧ Lets rs S ∧ Lets rs S2 ∧ ToldAt (msk [p, q] H) t F0 sts0 ∧ F0.length = n ∧ Lets rs F0 ∧ (sts0.map Prod.fst).Nodup ∧ sts0.length ≤ 20 ∧
  ∀ H' t' F pls sts, MS [p, q] H H' → Pool H' p q → PaperAt (msk [p, q] H') t' F pls sts → F.length = n → Lets rs F → pls.map Prod.fst = downL S F n → (sts.map Prod.fst).Nodup → sts.length ≤ 40 → Q (.ref t') H'
abbrev N_law_paper : List Str := ["_law_pool_here", "_law_ropes_here", "_law_highs_here", "_law_told", "_law_least", "_law_knot", "_law_heights", "_law_pulls_here", "_law_sort", "_law_stops_here"]
theorem sc_law_paper : FnScope N_law_paper ["_law_pool_here", "_law_ropes_here", "_law_highs_here", "_law_told"] (defScope s_law_paper) := ⟨rfl, rfl, rfl, by decide +kernel, rfl, by decide +kernel, by decide +kernel⟩
theorem ok_law_paper (T : TX K mg) : Okd P w K mg base 3 "_law_paper" ["_law_pool_here", "_law_ropes_here", "_law_highs_here", "_law_told"] (sp_law_paper K) := by
  obtain ⟨fd, F⟩ := T.d_law_paper
  refine okd_of F T.g_law_paper sc_law_paper (fun _ _ _ _ _ _ us hl => match us, hl with | [_, _, _, _], _ => rfl) ?_ ?_
  · rintro vs H Q E ⟨p, q, l, h, t, n, rs, S, S2, F0, sts0, rfl, _⟩; rfl
  · rintro cdv A outer s H vs Q E hr ⟨p, q, l, h, t, n, rs, S, S2, F0, sts0, rfl, hP, hl, hw, h60, hn1, h8, hHi, l1, l2, hL1, hL2, hTo, hF0, hLF, hnd0, h20, k⟩
    have hu := hu_of hr
    refine ⟨_, (pss_cons (ps_setLc (i := 4) (own := [("_law_knot", 5)]) (g := gName 5) rfl (sc_law_paper).nd rfl rfl (sw_true rfl rfl rfl (by decide +kernel)) (pi_range2 (by rfl) T.b_range (pa_cons pe_int (pa_cons (pe_callB (call_len_seqK (K := K) rfl) (by rfl) T.b_len bt_len (pa_cons (pe_ix (ix_listK (K := K) rfl) (pv 2) pe_int (fun _ _ => rfl)) pa_nil)) pa_nil))) (blkOk_by (N := N_law_paper) (sc := defScope s_law_paper) (own := [("_law_knot", 5)]) (by decide +kernel)) (fun _ _ _ _ _ => (pg_name (i := 5) (sc_law_paper).nd rfl (.inl rfl))) (fun _ _ _ _ _ => pts_nil) (fun _ _ _ _ _ => (pe_callB (call_min2 rfl) (by rfl) T.b_min bt_min (pa_cons (pe_ix (ix_listK (K := K) rfl) (pe_ix (ix_listK (K := K) rfl) (pv 2) pe_int (fun _ _ => rfl)) (pv 5) (fun _ _ => rfl)) (pa_cons (pe_ix (ix_listK (K := K) rfl) (pe_ix (ix_listK (K := K) rfl) (pv 2) pe_int (fun _ _ => rfl)) (pv 5) (fun _ _ => rfl)) pa_nil)))))
  (pss_cons (ps_set (i := 6) (sc_law_paper).nd rfl (.inl rfl) (pe_ix (ix_listK (K := K) rfl) (pe_lst (pa_cons (pe_ix (ix_tupK (K := K) rfl) (pv 3) pe_int (fun _ _ => rfl)) (pa_cons (pe_ix (ix_tupK (K := K) rfl) (pv 3) pe_int (fun _ _ => rfl)) (pa_cons (pe_ix (ix_tupK (K := K) rfl) (pv 3) pe_int (fun _ _ => rfl)) (pa_cons (pe_ix (ix_tupK (K := K) rfl) (pv 3) pe_int (fun _ _ => rfl)) (pa_cons (pe_slice (sl_listK (K := K) rfl) (pe_ix (ix_listK (K := K) rfl) (pv 2) pe_int (fun _ _ => rfl)) (po_some pe_int) po_none) (pa_cons (pv 4) pa_nil))))))) (pe_callD (ok_law_draw T) hr (by decide) (by rfl) (pa_cons (pv 0) (pa_cons pe_int pa_nil))) (fun _ _ => rfl)))
  (pss_cons (ps_set (i := 7) (sc_law_paper).nd rfl (.inl rfl) (pe_callD (ok_law_some_pulls T) hr (by decide) (by rfl) (pa_cons (pv 0) (pa_cons (pv 1) (pa_cons (pe_ix (ix_listK (K := K) rfl) (pv 2) pe_int (fun _ _ => rfl)) (pa_cons (pe_op op_cat (pe_lst (pa_cons pe_int pa_nil)) (pv 6)) pa_nil))))))
  (pss_cons (ps_set (i := 8) (sc_law_paper).nd rfl (.inl rfl) (pe_callD (ok_law_draw T) hr (by decide) (by rfl) (pa_cons (pv 0) (pa_cons pe_int pa_nil))))
  (pss_cons (ps_set (i := 9) (sc_law_paper).nd rfl (.inl rfl) (pe_callTy call_dictD (by rfl) T.b_dict bt_dict (pa_cons (pe_ix (ix_tupK (K := K) rfl) (pv 3) pe_int (fun _ _ => rfl)) pa_nil)))
  (pss_cons (ps_if (pt_cmpR op_eq (pv 8) pe_int (nomark _)) (pss_one (ps_set (i := 9) (sc_law_paper).nd rfl (.inl rfl) pe_dnewK)) pss_nil)
  (pss_cons (ps_if (PW.pt (pw_and (pt_cmpR op_eq (pv 8) pe_int (nomark _)) (pw_and1 (pt_cmpR (op_neTK (K := K) rfl hr.units) (pv 1) (pe_lst pa_nil) (nomark _))))) (pss_one (ps_dput hu (pv 9) (pe_op op_add pe_int (pe_callD (ok_law_draw T) hr (by decide) (by rfl) (pa_cons (pv 0) (pa_cons (pe_callB (call_len_seqK (K := K) rfl) (by rfl) T.b_len bt_len (pa_cons (pv 4) pa_nil)) pa_nil)))) (pe_lst (pa_cons (pe_callD (ok_law_draw T) hr (by decide) (by rfl) (pa_cons (pv 0) (pa_cons (pe_callB (call_len_seqK (K := K) rfl) (by rfl) T.b_len bt_len (pa_cons (pv 1) pa_nil)) pa_nil))) pa_nil)) rfl)) pss_nil)
  (pss_one (ps_ret (pe_tup (pa_cons (pv 6) (pa_cons (pv 7) (pa_cons (pv 9) pa_nil))))))))))))), ?_⟩
    obtain ⟨a, b, hi1, hi2, hi3⟩ := hHi
    obtain ⟨hf, sd, v, ht, hhf, hst⟩ := hTo
    have get : ∀ {H' : Hp} {x : Addr} {o : HO}, MS [p, q] H H' → msk [p, q] H x = some o → H' x = some o := fun m e => msk_sub _ _ (m _ _ e)
    have el : ((((0 :: S).map V.int).length : Nat) : Int) = (n : Int) + 1 := by rw [List.length_map, List.length_cons, l1]; omega
    -- least
    refine ⟨_, rfl, h, _, 0, .ref a, rfl, rfl, SqL.of (msk_sub _ _ hi1), rfl, a, _, rfl, .inl (SqL.of (msk_sub _ _ hi2)), 1, (n : Int) + 1, by rw [el], ⟨by omega, by omega, by omega, by omega⟩, fun le hle => ?_⟩
    rw [show ((n : Int) + 1 - 1).toNat = n by omega]
    refine lc_gen (n := n) (fun i => some (.int (mn (hAt S (1 + (i : Int))) (hAt S2 (1 + (i : Int)))))) (Nat.le_trans h8 (by decide)) hle (fun i H' hi sm => hi) (fun H' sm => Nat.le_refl _) (fun i x H1 H2 Qt Qf hi sm y k1 k2 => ?_) (fun H1 sm hd1 => ?_)
    · obtain ⟨rfl, rfl⟩ := y
      have hki : Kn n (1 + (i : Int)) := ⟨by omega, by omega⟩
      refine ⟨rfl, _, rfl, h, _, 0, .ref a, rfl, rfl, SqL.of (get (MS.of sm) hi1), rfl, _, rfl, a, _, 1 + (i : Int), _, rfl, rfl, SqL.of (get (MS.of sm) hi2), hAt0_at l1 hki, ?_⟩
      refine ⟨_, rfl, h, _, 1, .ref b, rfl, rfl, SqL.of (get (MS.of sm) hi1), rfl, _, rfl, b, _, 1 + (i : Int), _, rfl, rfl, SqL.of (get (MS.of sm) hi3), hAt0_at l2 hki, ?_⟩
      exact ⟨_, _, rfl, k1 _ _ rfl (Same.refl _)⟩
    rw [fm_some] at hd1
    have hle1 : H1 le = some (.lst ((leastL n S S2).map V.int)) := by rw [hd1]; unfold leastL; rw [List.map_map]; rfl
    have xle : le ∉ [p, q] := hP.out hle
    have m1 : MS [p, q] H H1 := MS.of sm
    have P1 := hP.same sm
    -- heights
    have ht1 := get m1 ht
    refine ⟨_, rfl, t, _, 0, .ref hf, rfl, rfl, SqT.of ht1, rfl, _, rfl, t, _, 0, .ref hf, rfl, rfl, SqT.of ht1, rfl, _, rfl, t, _, 0, .ref hf, rfl, rfl, SqT.of ht1, rfl, _, rfl, t, _, 0, .ref hf, rfl, rfl, SqT.of ht1, rfl, ?_⟩
    refine ⟨_, rfl, h, _, 0, .ref a, rfl, rfl, SqL.of (get m1 hi1), rfl, 1, rfl, a, _, rfl, SqL.of (get m1 hi2), fun hs hhs => ?_⟩
    rw [slice1]
    have xhs : hs ∉ [p, q] := P1.out hhs
    have s2 : Same H1 (upd H1 hs (.lst (((0 :: S).map V.int).drop 1))) := same_upd hhs
    have hhs2 : (upd H1 hs (.lst (((0 :: S).map V.int).drop 1))) hs = some (.lst (S.map V.int)) := upd_same
    have hle2 := s2 _ _ hle1
    have m2 := m1.same s2
    have P2 := P1.same s2
    revert s2 hhs2 hle2 m2 P2
    generalize upd H1 hs (.lst (((0 :: S).map V.int).drop 1)) = H2
    intro s2 hhs2 hle2 m2 P2
    refine ⟨_, rfl, (by show 6 ≤ sizeLine; decide), fun z hz => ?_⟩
    have xz : z ∉ [p, q] := P2.out hz
    have s3 : Same H2 (upd H2 z (.lst [.ref hf, .ref hf, .ref hf, .ref hf, .ref hs, .ref le])) := same_upd hz
    have hz3 : (upd H2 z (.lst [.ref hf, .ref hf, .ref hf, .ref hf, .ref hs, .ref le])) z = some (.lst [.ref hf, .ref hf, .ref hf, .ref hf, .ref hs, .ref le]) := upd_same
    have hle3 := s3 _ _ hle2
    have hhs3 := s3 _ _ hhs2
    have m3 := m2.same s3
    have P3 := P2.same s3
    revert s3 hz3 hle3 hhs3 m3 P3
    generalize upd H2 z (.lst [.ref hf, .ref hf, .ref hf, .ref hf, .ref hs, .ref le]) = H3
    intro s3 hz3 hle3 hhs3 m3 P3
    refine ⟨_, rfl, p, q, 6, rfl, P3, by decide, by decide, fun H4 r4 m4 P4 r0 r1 => ?_⟩
    have m04 := m3.trans m4
    obtain ⟨x, F, hx, hxF, hFl, hLFx⟩ : ∃ (x : Addr) (F : List Int), atI [V.ref hf, .ref hf, .ref hf, .ref hf, .ref hs, .ref le] r4 = some (.ref x) ∧ msk [p, q] H4 x = some (.lst (F.map V.int)) ∧ F.length = n ∧ Lets rs F := by
      have h1 : msk [p, q] H4 hf = some (.lst (F0.map V.int)) := m04 _ _ hhf
      have h2 : msk [p, q] H4 hs = some (.lst (S.map V.int)) := msk_of xhs (m4.get xhs hhs3)
      have h3 : msk [p, q] H4 le = some (.lst ((leastL n S S2).map V.int)) := msk_of xle (m4.get xle hle3)
      have : r4 = 0 ∨ r4 = 1 ∨ r4 = 2 ∨ r4 = 3 ∨ r4 = 4 ∨ r4 = 5 := by omega
      rcases this with e | e | e | e | e | e <;> rw [e]
      · exact ⟨hf, F0, rfl, h1, hF0, hLF⟩
      · exact ⟨hf, F0, rfl, h1, hF0, hLF⟩
      · exact ⟨hf, F0, rfl, h1, hF0, hLF⟩
      · exact ⟨hf, F0, rfl, h1, hF0, hLF⟩
      · exact ⟨hs, S, rfl, h2, l1, hL1⟩
      · exact ⟨le, leastL n S S2, rfl, h3, least_len n S S2, least_lets hw hL1 hL2⟩
    refine ⟨z, _, r4, .ref x, rfl, rfl, SqL.of (m4.get xz hz3), hx, ?_⟩
    have hle4 : msk [p, q] H4 le = some (.lst ((leastL n S S2).map V.int)) := msk_of xle (m4.get xle hle3)
    -- pulls
    refine ⟨_, rfl, _, rfl, _, rfl, h, _, 0, .ref a, rfl, rfl, SqL.of (get m04 hi1), rfl, by decide, fun z0 hz0 => ⟨_, rfl, z0, x, _, _, rfl, rfl, upd_same, same_upd hz0 _ _ (msk_sub _ _ hxF), (by rw [List.length_map]; exact Nat.le_trans (Nat.add_le_add_left (show F.length ≤ 8 by omega) _) (by decide)), fun y hy => ?_⟩⟩
    have s5 : Same H4 (upd (upd H4 z0 (.lst [.int 0])) y (.lst ([V.int 0] ++ F.map V.int))) := (same_upd hz0).trans (same_upd hy)
    have hy5 : (upd (upd H4 z0 (.lst [.int 0])) y (.lst ([V.int 0] ++ F.map V.int))) y = some (.lst ((0 :: F).map V.int)) := upd_same
    have xy : y ∉ [p, q] := P4.out ((same_upd hz0).free hy)
    have m5 := MS.of (M := [p, q]) s5
    have P5 := P4.same s5
    revert s5 hy5 m5 P5
    generalize upd (upd H4 z0 (.lst [.int 0])) y (.lst ([V.int 0] ++ F.map V.int)) = H5
    intro s5 hy5 m5 P5
    have m05 := m04.trans m5
    refine ⟨p, q, l, a, y, n, rs, S, F, rfl, P5, hl.same m05, hw, h60, h8, m05 _ _ hi2, l1, msk_of xy hy5, hFl, fun H6 d pls m6 P6 hd6 hks => ?_⟩
    have m06 := m05.trans m6
    have hxF6 : msk [p, q] H6 x = some (.lst (F.map V.int)) := m6 _ _ (m5 _ _ hxF)
    have hle6 : msk [p, q] H6 le = some (.lst ((leastL n S S2).map V.int)) := m6 _ _ (m5 _ _ hle4)
    refine ⟨_, rfl, p, q, 6, rfl, P6, by decide, by decide, fun H7 srt m7 P7 _ _ => ?_⟩
    have m07 := m06.trans m7
    obtain ⟨es, hsd, hps⟩ := hst
    have hnde : (es.map Prod.fst).Nodup := by rw [st_keys hps]; exact hnd0
    have hel : es.length ≤ 20 := by have := hps.length; omega
    refine ⟨_, rfl, t, _, 2, .ref sd, rfl, rfl, SqT.of (get m07 ht), rfl, sd, _, rfl, .inl (get m07 hsd), fun D hD => ?_⟩
    have xD : D ∉ [p, q] := P7.out hD
    have s8 : Same H7 (upd H7 D (.dK (gkv V.ref es))) := same_upd hD
    have hD8 : (upd H7 D (.dK (gkv V.ref es))) D = some (.dK (gkv V.ref es)) := upd_same
    have m8 := MS.of (M := [p, q]) s8
    have P8 := P7.same s8
    revert s8 hD8 m8 P8
    generalize upd H7 D (.dK (gkv V.ref es)) = H8
    intro s8 hD8 m8 P8
    have m08 := m07.trans m8
    have m68 := m7.trans m8
    -- the end
    have fin : ∀ (H9 : Hp) (D9 : Addr) (es9 : List (Int × Addr)) (sts9 : List (Int × List Int)), MS [p, q] H H9 → MS [p, q] H6 H9 → Pool H9 p q → msk [p, q] H9 D9 = some (.dK (gkv V.ref es9)) → Paired (StE (msk [p, q] H9)) es9 sts9 → (sts9.map Prod.fst).Nodup → sts9.length ≤ 40 →
        ∀ t', H9 t' = none → Q (.ref t') (upd H9 t' (.tup [.ref x, .ref d, .ref D9])) := fun H9 D9 es9 sts9 mm m69 P9 hD9 hp9 hn9 hl9 t' ht' => by
      have s9 : Same H9 (upd H9 t' (.tup [.ref x, .ref d, .ref D9])) := same_upd ht'
      have ms9 := MS.of (M := [p, q]) s9
      exact k _ t' F pls sts9 (mm.trans ms9) (P9.same s9) ⟨x, d, D9, msk_of (P9.out ht') upd_same, ms9 _ _ (m69 _ _ hxF6), ms9 _ _ (m69 _ _ hd6), es9, ms9 _ _ hD9, paired_mono (fun _ _ => ste_same ms9) hp9⟩ hFl hLFx hks hn9 hl9
    refine ⟨_, rfl, rfl, _, rfl, ?_⟩
    refine ite2 (fun e0 => ?_) (fun e0 => ?_)
    · -- {}
      have e0 : srt = 0 := V.int.inj (of_decide_eq_true e0)
      intro D2 hD2
      have s9 : Same H8 (upd H8 D2 (.dK [])) := same_upd hD2
      have hD9 : (upd H8 D2 (.dK [])) D2 = some (.dK (gkv V.ref [])) := upd_same
      have P9 := P8.same s9
      have m9 := MS.of (M := [p, q]) s9
      have xD2 : D2 ∉ [p, q] := P8.out hD2
      revert hD9 P9 m9
      generalize upd H8 D2 (.dK []) = H9
      intro hD9 P9 m9
      refine ⟨_, rfl, rfl, _, rfl, ?_⟩
      rw [decide_eq_false (show ¬ V.int srt = V.int 1 from fun z => by rw [e0] at z; cases z)]
      refine iteF ⟨_, rfl, _, rfl, _, rfl, (by show 3 ≤ sizeLine; decide), fun t' ht' => ?_⟩
      exact fin H9 D2 [] [] (m08.trans m9) (m68.trans m9) P9 (msk_of xD2 hD9) .nil .nil (Nat.zero_le _) t' ht'
    · have hps8 : Paired (StE (msk [p, q] H8)) es sts0 := paired_mono (fun _ _ => ste_same m08) hps
      refine ⟨_, rfl, rfl, _, rfl, ?_⟩
      refine ite2 (fun e1 => ?_) (fun e1 => ?_)
      · obtain ⟨as, hl8, hts8⟩ := (hl.same m08).same msk_sub
        refine ⟨_, rfl, Nat.zero_le _, fun z8 hz8 => ⟨l, z8, as, rs, rfl, rfl, SqL.of (same_upd hz8 _ _ hl8), hts8.same (same_upd hz8), SqL.of upd_same, _, rfl, ?_⟩⟩
        have s9 : Same H8 (upd H8 z8 (.lst [])) := same_upd hz8
        have P9 := P8.same s9
        have m9 := MS.of (M := [p, q]) s9
        have hD9 := s9 _ _ hD8
        have hl9 := s9 _ _ hl8
        revert P9 m9 hD9 hl9
        generalize upd H8 z8 (.lst []) = H9
        intro P9 m9 hD9 hl9
        by_cases hrs : rs = []
        · rw [decide_eq_true hrs]
          refine iteF ⟨_, rfl, _, rfl, _, rfl, (by show 3 ≤ sizeLine; decide), fun t' ht' => ?_⟩
          exact fin H9 D es sts0 (m08.trans m9) (m68.trans m9) P9 (msk_of xD hD9) (paired_mono (fun _ _ => ste_same m9) hps8) hnd0 (by omega) t' ht'
        · rw [decide_eq_false hrs]
          refine iteT ?_
          have hal : as.length = rs.length := by rw [hts8.1, List.length_map]
          have hrl : 0 < rs.length := List.length_pos_iff.mpr hrs
          have ell : ((((as.map V.ref).length) : Nat) : Int) = (rs.length : Int) := by rw [List.length_map, hal]
          refine ⟨_, rfl, _, rfl, l, _, rfl, .inl (SqL.of hl9), p, q, (rs.length : Int), by rw [ell]; rfl, P9, by omega, by omega, fun H10 r10 m10 P10 _ _ => ?_⟩
          refine ⟨(by show 1 ≤ sizeLine; decide), fun c10 hc10 => ?_⟩
          have xc : c10 ∉ [p, q] := P10.out hc10
          have s11 : Same H10 (upd H10 c10 (.lst [.int r10])) := same_upd hc10
          have hc11 : (upd H10 c10 (.lst [.int r10])) c10 = some (.lst (([r10] : List Int).map V.int)) := upd_same
          have P11 := P10.same s11
          have m11 := MS.of (M := [p, q]) s11
          revert hc11 P11 m11
          generalize upd H10 c10 (.lst [.int r10]) = H11
          intro hc11 P11 m11
          have mm11 := (m9.trans m10).trans m11
          have m011 := m08.trans mm11
          have hle11 : H11 le = some (.lst ((leastL n S S2).map V.int)) := msk_sub _ _ ((m68.trans mm11) _ _ hle6)
          have elle : (((((leastL n S S2).map V.int).length) : Nat) : Int) = (n : Int) := by rw [List.length_map, least_len]
          refine ⟨_, rfl, _, rfl, _, rfl, le, _, rfl, .inl (SqL.of hle11), p, q, (n : Int), by rw [elle]; rfl, P11, by omega, by omega, fun H12 r12 m12 P12 _ _ => ?_⟩
          have mm12 := mm11.trans m12
          have hD12 : H12 D = some (.dK (gkv V.ref es)) := mm12.get xD hD8
          refine ⟨_, _, rfl, rfl, D, _, rfl, DPut.k (k := Sum.inl (1 + r12)) hD12 (by rw [gkv_len]; exact Nat.lt_of_le_of_lt (show es.length ≤ 100 by omega) (by decide)), ?_⟩
          have ht12 : H8 D = some (.dK (gkv V.ref es)) := hD8
          refine ⟨_, rfl, _, rfl, _, rfl, (by show 3 ≤ sizeLine; decide), fun t' ht' => ?_⟩
          have hput := gkv_put V.ref (1 + r12) c10 hnde
          have hc12 : msk [p, q] H12 c10 = some (.lst (([r10] : List Int).map V.int)) := msk_of xc (m12.get xc hc11)
          have hps12 : Paired (StE (msk [p, q] H12)) (putL es (1 + r12) c10) (putL sts0 (1 + r12) [r10]) := st_put hc12 (show 1 ≤ 900 by omega) (paired_mono (fun _ _ => ste_same mm12) hps8)
          have hD0 : H7 D = none := hD
          have hps13 : Paired (StE (msk [p, q] (upd H12 D (.dK (putK (gkv V.ref es) (Sum.inl (1 + r12)) (.ref c10)))))) (putL es (1 + r12) c10) (putL sts0 (1 + r12) [r10]) := paired_mono (fun e st hh => ⟨hh.1, by
            rw [msk_upd xD, upd_ne (ne_of (msk_sub _ _ hh.2.1) hD12 (by intro z; cases z))]
            exact hh.2.1, hh.2.2⟩) hps12
          have hkeys := putL_nodup (c := 1 + r12) (x := [r10]) hnd0
          have hlen := putL_len (1 + r12) [r10] sts0
          refine fin (upd H12 D (.dK (putK (gkv V.ref es) (Sum.inl (1 + r12)) (.ref c10)))) D (putL es (1 + r12) c10) (putL sts0 (1 + r12) [r10]) ((m07.trans (m8.trans mm12)).new (m07.free xD hD0)) ?_ (P12.upd xD) (msk_of xD (by rw [upd_same, hput])) hps13 hkeys (by omega) t' ht'
          exact (m7.trans (m8.trans mm12)).new (m7.free xD hD0)
      · refine ⟨_, rfl, _, rfl, _, rfl, (by show 3 ≤ sizeLine; decide), fun t' ht' => ?_⟩
        exact fin H8 D es sts0 m08 m68 P8 (msk_of xD hD8) hps8 hnd0 (by omega) t' ht'
end
end RF
/-! ## A36 -/
set_option Elab.async false
set_option linter.all false
set_option maxRecDepth 100000
set_option maxHeartbeats 4000000
namespace RF
open PySem PySem.Spec PyProof.Rows L2
section
variable {P : Program} {w : World} {K : PySem.W.Frag} {mg : Str → Option Value} {base : Heap}
def sp_law_under (K : PySem.W.Frag) : Sp := fun vs H Q _ => ∃ (h lm : Addr) (n : Nat) (S S2 : List Int) (E : Int → Option Int), vs = [.ref h, .ref lm] ∧ HighsAt H h S S2 ∧ S.length = n ∧ S2.length = n ∧ n ≤ 8 ∧ H lm = some (.lst (mapV n E)) ∧
  ∀ H' b, Same H H' → (b = true ↔ ∀ k, Kn n k → ∀ e, E k = some e → mn (hAt S k) (hAt S2 k) ≤ e) → Q (.bl b) H'
abbrev N_law_under : List Str := ["_law_highs_here", "_law_limits_here", "_law_knot"]
theorem sc_law_under : FnScope N_law_under ["_law_highs_here", "_law_limits_here"] (defScope s_law_under) := ⟨rfl, rfl, rfl, by decide +kernel, rfl, by decide +kernel, by decide +kernel⟩
theorem ok_law_under (T : TX K mg) : Okd P w K mg base 1 "_law_under" ["_law_highs_here", "_law_limits_here"] (sp_law_under K) := by
  obtain ⟨fd, F⟩ := T.d_law_under
  refine okd_of F T.g_law_under sc_law_under (fun _ _ _ _ _ _ us hl => match us, hl with | [_, _], _ => rfl) ?_ ?_
  · rintro vs H Q E ⟨h, lm, n, S, S2, E, rfl, _⟩; rfl
  · rintro cdv A outer s H vs Q E' hr ⟨h, lm, n, S, S2, E, rfl, hHi, l1, l2, h8, hlm, q⟩
    refine ⟨_, (pss_cons (ps_for PassesOwn.never rfl (pi_range1 (by rfl) T.b_range (pa_cons (pe_callB (call_len_seqK (K := K) rfl) (by rfl) T.b_len bt_len (pa_cons (pv 1) pa_nil)) pa_nil)) (pg_name (i := 2) (sc_law_under).nd rfl (.inl rfl)) (pss_one (ps_if (PW.pt (pw_and (pt_cmpR op_notN (pe_ix (ix_listK (K := K) rfl) (pv 1) (pv 2) (fun _ _ => rfl)) pe_non (nomark _)) (pw_and1 (pt_cmpR op_gt (pe_callB (call_min2 rfl) (by rfl) T.b_min bt_min (pa_cons (pe_ix (ix_listK (K := K) rfl) (pe_ix (ix_listK (K := K) rfl) (pv 0) pe_int (fun _ _ => rfl)) (pv 2) (fun _ _ => rfl)) (pa_cons (pe_ix (ix_listK (K := K) rfl) (pe_ix (ix_listK (K := K) rfl) (pv 0) pe_int (fun _ _ => rfl)) (pv 2) (fun _ _ => rfl)) pa_nil))) (pe_ix (ix_listK (K := K) rfl) (pv 1) (pv 2) (fun _ _ => rfl)) (nomark _))))) (pss_one (ps_ret pe_bl)) pss_nil)))
  (pss_one (ps_ret pe_bl))), ?_⟩
    obtain ⟨a, b, hi1, hi2, hi3⟩ := hHi
    have el : ((((mapV n E).length) : Nat) : Int) = ((n + 1 : Nat) : Int) := by rw [mapV_len]
    refine ⟨_, rfl, lm, _, rfl, .inl (SqL.of hlm), ((n + 1 : Nat) : Int), by rw [el], by omega, by omega, ?_⟩
    rw [show (((n + 1 : Nat)) : Int).toNat = n + 1 from Int.toNat_natCast _]
    refine for_range (n := n + 1) (fun i σ H1 => ∃ v2, σ = [some (.ref h), some (.ref lm), v2] ∧ H1 = H ∧ ∀ k : Nat, k < i → ∀ e, E (k : Int) = some e → mn (hAt S k) (hAt S2 k) ≤ e)
      ⟨_, rfl, rfl, fun k hk => by omega⟩ ?_ (fun σ H1 p => ?_)
    · rintro i σ H1 hi ⟨v2, rfl, rfl, hg⟩
      have hki : Kn n (0 + (i : Int)) := ⟨by omega, by omega⟩
      have ei : (0 : Int) + (i : Int) = (i : Int) := Int.zero_add _
      refine ⟨_, rfl, _, rfl, lm, _, 0 + (i : Int), _, rfl, rfl, SqL.of hlm, mapV_at hki, rfl, _, rfl, ?_⟩
      cases hE : E (0 + (i : Int)) with
      | none =>
        refine iteF ⟨_, rfl, rfl, fun k hk e he => ?_⟩
        by_cases hki2 : k < i
        · exact hg k hki2 e he
        · obtain rfl : k = i := by omega
          rw [ei] at hE
          rw [hE] at he
          cases he
      | some e =>
        refine iteT ⟨_, rfl, h, _, 0, .ref a, rfl, rfl, SqL.of hi1, rfl, _, rfl, a, _, 0 + (i : Int), _, rfl, rfl, SqL.of hi2, hAt0_at l1 hki, ?_⟩
        refine ⟨_, rfl, h, _, 1, .ref b, rfl, rfl, SqL.of hi1, rfl, _, rfl, b, _, 0 + (i : Int), _, rfl, rfl, SqL.of hi3, hAt0_at l2 hki, ?_⟩
        refine ⟨_, _, rfl, _, rfl, _, rfl, lm, _, 0 + (i : Int), .int e, rfl, rfl, SqL.of hlm, (by rw [mapV_at hki, hE]; rfl), _, _, rfl, rfl, _, rfl, ?_⟩
        refine ite2 (fun e1 => ?_) (fun e1 => ?_)
        · have e1 : e < mn (hAt S (0 + (i : Int))) (hAt S2 (0 + (i : Int))) := of_decide_eq_true e1
          exact q H1 false (Same.refl _) ⟨fun z => (by cases z), fun z => by have := z _ hki e hE; omega⟩
        · have e1 : ¬ e < mn (hAt S (0 + (i : Int))) (hAt S2 (0 + (i : Int))) := fun z => e1 (decide_eq_true z)
          refine ⟨_, rfl, rfl, fun k hk e' he => ?_⟩
          by_cases hki2 : k < i
          · exact hg k hki2 e' he
          · obtain rfl : k = i := by omega
            rw [ei] at hE e1
            rw [hE] at he
            cases he
            omega
    · obtain ⟨v2, rfl, rfl, hg⟩ := p
      refine q H1 true (Same.refl _) ⟨fun _ k hk e he => ?_, fun _ => rfl⟩
      have := hg k.toNat (by have := hk.1; have := hk.2; omega) e (by rw [Int.toNat_of_nonneg hk.1]; exact he)
      rw [Int.toNat_of_nonneg hk.1] at this
      exact this
def sp_law_above (K : PySem.W.Frag) : Sp := fun vs H Q _ => ∃ (h x : Addr) (n : Nat) (S S2 F : List Int), vs = [.ref h, .ref x] ∧ HighsAt H h S S2 ∧ S.length = n ∧ S2.length = n ∧ n ≤ 8 ∧ H x = some (.lst (F.map V.int)) ∧ F.length = n ∧
  ∀ H' b, Same H H' → (b = true ↔ ∃ k : Int, 1 ≤ k ∧ k ≤ n ∧ hAt F k < mn (hAt S k) (hAt S2 k)) → Q (.bl b) H'
abbrev N_law_above : List Str := ["_law_highs_here", "_law_heights", "_law_knot"]
theorem sc_law_above : FnScope N_law_above ["_law_highs_here", "_law_heights"] (defScope s_law_above) := ⟨rfl, rfl, rfl, by decide +kernel, rfl, by decide +kernel, by decide +kernel⟩
theorem ok_law_above (T : TX K mg) : Okd P w K mg base 1 "_law_above" ["_law_highs_here", "_law_heights"] (sp_law_above K) := by
  obtain ⟨fd, F⟩ := T.d_law_above
  refine okd_of F T.g_law_above sc_law_above (fun _ _ _ _ _ _ us hl => match us, hl with | [_, _], _ => rfl) ?_ ?_
  · rintro vs H Q E ⟨h, x, n, S, S2, F, rfl, _⟩; rfl
  · rintro cdv A outer s H vs Q E' hr ⟨h, x, n, S, S2, F, rfl, hHi, l1, l2, h8, hx, hFl, q⟩
    refine ⟨_, (pss_cons (ps_for PassesOwn.never rfl (pi_range2 (by rfl) T.b_range (pa_cons pe_int (pa_cons (pe_callB (call_len_seqK (K := K) rfl) (by rfl) T.b_len bt_len (pa_cons (pe_ix (ix_listK (K := K) rfl) (pv 0) pe_int (fun _ _ => rfl)) pa_nil)) pa_nil))) (pg_name (i := 2) (sc_law_above).nd rfl (.inl rfl)) (pss_one (ps_if (pt_cmpR op_gt (pe_callB (call_min2 rfl) (by rfl) T.b_min bt_min (pa_cons (pe_ix (ix_listK (K := K) rfl) (pe_ix (ix_listK (K := K) rfl) (pv 0) pe_int (fun _ _ => rfl)) (pv 2) (fun _ _ => rfl)) (pa_cons (pe_ix (ix_listK (K := K) rfl) (pe_ix (ix_listK (K := K) rfl) (pv 0) pe_int (fun _ _ => rfl)) (pv 2) (fun _ _ => rfl)) pa_nil))) (pe_ix (ix_listK (K := K) rfl) (pv 1) (pe_op op_sub (pv 2) pe_int) (fun _ _ => rfl)) (nomark _)) (pss_one (ps_ret pe_bl)) pss_nil)))
  (pss_one (ps_ret pe_bl))), ?_⟩
    obtain ⟨a, b, hi1, hi2, hi3⟩ := hHi
    have el : ((((0 :: S).map V.int).length : Nat) : Int) = (n : Int) + 1 := by rw [List.length_map, List.length_cons, l1]; omega
    refine ⟨_, rfl, h, _, 0, .ref a, rfl, rfl, SqL.of hi1, rfl, a, _, rfl, .inl (SqL.of hi2), 1, (n : Int) + 1, by rw [el], ⟨by omega, by omega, by omega, by omega⟩, ?_⟩
    rw [show ((n : Int) + 1 - 1).toNat = n by omega]
    refine for_range (n := n) (fun i σ H1 => ∃ v2, σ = [some (.ref h), some (.ref x), v2] ∧ H1 = H ∧ ∀ k : Int, 1 ≤ k → k < 1 + (i : Int) → ¬ hAt F k < mn (hAt S k) (hAt S2 k))
      ⟨_, rfl, rfl, fun k h1 h2 => by omega⟩ ?_ (fun σ H1 p => ?_)
    · rintro i σ H1 hi ⟨v2, rfl, rfl, hg⟩
      have hki : Kn n (1 + (i : Int)) := ⟨by omega, by omega⟩
      refine ⟨_, rfl, h, _, 0, .ref a, rfl, rfl, SqL.of hi1, rfl, _, rfl, a, _, 1 + (i : Int), _, rfl, rfl, SqL.of hi2, hAt0_at l1 hki, ?_⟩
      refine ⟨_, rfl, h, _, 1, .ref b, rfl, rfl, SqL.of hi1, rfl, _, rfl, b, _, 1 + (i : Int), _, rfl, rfl, SqL.of hi3, hAt0_at l2 hki, ?_⟩
      refine ⟨_, _, rfl, _, rfl, _, rfl, _, _, rfl, rfl, x, _, _, .int (hAt F (1 + (i : Int))), rfl, rfl, SqL.of hx, hAt_at hFl (by omega) (by omega), _, _, rfl, rfl, _, rfl, ?_⟩
      refine ite2 (fun e1 => ?_) (fun e1 => ?_)
      · exact q H1 true (Same.refl _) ⟨fun _ => ⟨1 + (i : Int), by omega, by omega, of_decide_eq_true e1⟩, fun _ => rfl⟩
      · refine ⟨_, rfl, rfl, fun k h1 h2 => ?_⟩
        by_cases hk : k < 1 + (i : Int)
        · exact hg k h1 hk
        · obtain rfl : k = 1 + (i : Int) := by omega
          exact fun z => e1 (decide_eq_true z)
    · obtain ⟨v2, rfl, rfl, hg⟩ := p
      exact q H1 false (Same.refl _) ⟨fun z => (by cases z), fun ⟨k, h1, h2, h3⟩ => absurd h3 (hg k h1 (by omega))⟩
end
end RF
/-! ## A37 -/
set_option Elab.async false
set_option linter.all false
set_option maxRecDepth 100000
set_option maxHeartbeats 4000000
namespace RF
open PySem PySem.Spec PyProof.Rows L2
section
variable {P : Program} {w : World} {K : PySem.W.Frag} {mg : Str → Option Value} {base : Heap}
theorem RigA.msk {H : Hp} {p q g : Addr} {n : Nat} {rs : List Rp} (P : Pool H p q) (h : RigA K H g n rs) : RigA K (RF.msk [p, q] H) g n rs := by
  obtain ⟨dx, t, as, h1, h2, h3⟩ := h
  have out : ∀ {b : Addr} {o : HO}, H b = some o → (∀ xs, o ≠ .lst xs) → b ∉ [p, q] := fun {b o} e hn z => by
    obtain ⟨_, a, x, c, cells, z1, z2⟩ := P
    rcases List.mem_cons.mp z with e2 | e2
    · rw [e2, z1] at e
      exact hn _ (Option.some.inj e).symm
    · have e2 : b = q := by simpa using e2
      rw [e2, z2] at e
      exact hn _ (Option.some.inj e).symm
  exact ⟨dx, t, as, msk_of (out h1 fun _ z => by cases z) h1, msk_of (out h2 fun _ z => by cases z) h2, h3.1, fun i a x e1 e2 => msk_of (out (h3.2 i a x e1 e2) fun _ z => by cases z) (h3.2 i a x e1 e2)⟩
theorem SlipsAt.copy {H : Hp} {l : Addr} {ss : List (Int × Int)} (h : SlipsAt H l ss) : ∃ as : List Addr, H l = some (.lst (as.map V.ref)) ∧ ∀ H' l2, Same H H' → H' l2 = some (.lst (as.map V.ref)) → SlipsAt H' l2 ss := by
  obtain ⟨as, h1, h2⟩ := h
  exact ⟨as, h1, fun H' l2 s e => ⟨as, e, h2.same s⟩⟩
def spLaw (K : PySem.W.Frag) : Sp := fun vs H Q _ => ∃ (a : Addr) (ns : List Int), vs = [.ref a] ∧ SqL K H a (ns.map V.int) ∧ ns.length ≤ 63 ∧ ∀ H', Q (.bl true) H'
abbrev N_law : List Str := ["_law_script", "_law_pool_here", "_law_many", "_law_wide", "_law_highs_here", "_law_ropes_here", "_law_rig", "_law_dist_here", "_law_slips_here", "_law_limits_here", "_law_told", "_law_turn", "_law_paper_here", "_law_found", "_law_due"]
theorem sc_law : FnScope N_law ["_law_script"] (defScope s_law) := ⟨rfl, rfl, rfl, by decide +kernel, rfl, by decide +kernel, by decide +kernel⟩
theorem ok_lawF {f : Addr} {fd : FuncData} (T : TX K mg) (F : FunD K "law" "law" (defArgs s_law) (defBody s_law) (defScope s_law) [] [] f fd) : FnOk P w K mg base CX0 10 f fd ["_law_script"] (spLaw K) := by
  refine F.ok sc_law (k := 9) ?_ ?_
  · rintro vs H Q E ⟨a, ns, rfl, _⟩; rfl
  · rintro cdv A outer s H vs Q E hr ⟨sc, ns, rfl, hsc, _, k⟩
    refine ⟨_, PSs.nox (pss_cons (ps_set (i := 1) (sc_law).nd rfl (.inl rfl) (pe_callD (ok_law_pool T) hr (by decide) (by rfl) (pa_cons (pv 0) pa_nil)))
  (pss_cons (ps_set (i := 2) (sc_law).nd rfl (.inl rfl) (pe_op op_add pe_int (pe_callD (ok_law_draw T) hr (by decide) (by rfl) (pa_cons (pv 1) (pa_cons pe_int pa_nil)))))
  (pss_cons (ps_set (i := 3) (sc_law).nd rfl (.inl rfl) (pe_cmpR op_eq (pe_callD (ok_law_draw T) hr (by decide) (by rfl) (pa_cons (pv 1) (pa_cons pe_int pa_nil))) pe_int (nomark _)))
  (pss_cons (ps_set (i := 4) (sc_law).nd rfl (.inl rfl) (pe_callD (ok_law_highs T) hr (by decide) (by rfl) (pa_cons (pv 1) (pa_cons (pv 2) (pa_cons (pv 3) pa_nil)))))
  (pss_cons (ps_set (i := 5) (sc_law).nd rfl (.inl rfl) (pe_callD (ok_law_ropes T) hr (by decide) (by rfl) (pa_cons (pv 1) (pa_cons (pv 4) (pa_cons pe_int pa_nil)))))
  (pss_cons (ps_set (i := 6) (sc_law).nd rfl (.inl rfl) (pe_makeD (ok_Rig_init T) hr (by decide) (by rfl) (pa_cons (pv 2) (pa_cons (pe_callTy (call_list_ofK (K := K) rfl) (by rfl) T.b_list bt_list (pa_cons (pv 5) pa_nil)) pa_nil))))
  (pss_cons (ps_set (i := 7) (sc_law).nd rfl (.inl rfl) (pe_callD (ok_law_dist T) hr (by decide) (by rfl) (pa_cons (pv 5) (pa_cons (pv 2) pa_nil))))
  (pss_cons (ps_set (i := 8) (sc_law).nd rfl (.inl rfl) (pe_callD (ok_law_slips T) hr (by decide) (by rfl) (pa_cons (pv 1) (pa_cons (pe_ix (ix_listK (K := K) rfl) (pv 4) pe_int (fun _ _ => rfl)) (pa_cons (pv 3) pa_nil)))))
  (pss_cons (ps_set (i := 9) (sc_law).nd rfl (.inl rfl) (pe_callD (ok_law_limits T) hr (by decide) (by rfl) (pa_cons (pv 7) (pa_cons (pv 8) pa_nil))))
  (pss_cons (ps_set (i := 10) (sc_law).nd rfl (.inl rfl) (pe_callD (ok_fall T) hr (by decide) (by rfl) (pa_cons (pv 6) (pa_cons (pe_slice (sl_listK (K := K) rfl) (pe_ix (ix_listK (K := K) rfl) (pv 4) pe_int (fun _ _ => rfl)) (po_some pe_int) po_none) (pa_cons (pe_callTy (call_list_ofK (K := K) rfl) (by rfl) T.b_list bt_list (pa_cons (pv 8) pa_nil)) pa_nil)))))
  (pss_cons (ps_for PassesOwn.never rfl (pi_range1 (by rfl) T.b_range (pa_cons pe_int pa_nil)) (pg_name (i := 11) (sc_law).nd rfl (.inl rfl)) (pss_cons (ps_set (i := 12) (sc_law).nd rfl (.inl rfl) (pe_callD (ok_law_paper T) hr (by decide) (by rfl) (pa_cons (pv 1) (pa_cons (pv 5) (pa_cons (pv 4) (pa_cons (pv 10) pa_nil))))))
  (pss_cons (ps_set (i := 13) (sc_law).nd rfl (.inl rfl) (pe_callD (ok_is_fall T) hr (by decide) (by rfl) (pa_cons (pv 6) (pa_cons (pe_slice (sl_listK (K := K) rfl) (pe_ix (ix_listK (K := K) rfl) (pv 4) pe_int (fun _ _ => rfl)) (po_some pe_int) po_none) (pa_cons (pe_callTy (call_list_ofK (K := K) rfl) (by rfl) T.b_list bt_list (pa_cons (pv 8) pa_nil)) (pa_cons (pv 12) pa_nil))))))
  (pss_cons (ps_set (i := 14) (sc_law).nd rfl (.inl rfl) (pe_callD (ok_law_fall T) hr (by decide) (by rfl) (pa_cons (pv 5) (pa_cons (pv 7) (pa_cons (pe_ix (ix_listK (K := K) rfl) (pv 4) pe_int (fun _ _ => rfl)) (pa_cons (pv 8) (pa_cons (pv 12) pa_nil)))))))
  (pss_cons (ps_if (PW.pt (pw_or (pt_not (pt_val (pe_callB (call_isiK2 (K := K) rfl) (by rfl) T.b_isinstance bt_isinstance (pa_cons (pv 13) (pa_cons (pe_bltn (v := .ty "bool") (by rfl) T.b_bool bt_bool rfl) pa_nil))))) (pw_or (pt_cmpR op_ne (pv 13) (pv 14) (nomark _)) (pw_or1 (PW.pt (pw_and (pt_val (pv 14)) (pw_and1 (pt_cmpR (op_neIK (K := K) rfl hr.units) (pe_ix (ix_tupK (K := K) rfl) (pv 12) pe_int (fun _ _ => rfl)) (pe_ix (ix_tupK (K := K) rfl) (pv 10) pe_int (fun _ _ => rfl)) (nomark _))))))))) (pss_one (ps_ret pe_bl)) pss_nil)
  (pss_one (ps_if (PW.pt (pw_and (pt_val (pv 14)) (pw_and (pt_val (pe_callD (ok_law_under T) hr (by decide) (by rfl) (pa_cons (pv 4) (pa_cons (pv 9) pa_nil)))) (pw_and1 (pt_val (pe_callD (ok_law_above T) hr (by decide) (by rfl) (pa_cons (pv 4) (pa_cons (pe_ix (ix_tupK (K := K) rfl) (pv 12) pe_int (fun _ _ => rfl)) pa_nil)))))))) (pss_one (ps_ret pe_bl)) pss_nil)))))))
  (pss_one (ps_ret pe_bl))))))))))))), ?_⟩
    refine ⟨_, rfl, sc, ns, rfl, hsc, fun H1 p q s1 P1 => ?_⟩
    refine ⟨_, rfl, p, q, 8, rfl, P1, by decide, by decide, fun H2 r m2 P2 r0 r1 => ⟨_, _, rfl, rfl, ?_⟩⟩
    obtain ⟨n, hn, hn1, h8⟩ : ∃ n : Nat, 1 + r = (n : Int) ∧ 1 ≤ n ∧ n ≤ 8 := ⟨(1 + r).toNat, by omega, by omega, by omega⟩
    simp only [hn]
    refine ⟨_, rfl, p, q, 3, rfl, P2, by decide, by decide, fun H3 r3 m3 P3 _ _ => ⟨rfl, ?_⟩⟩
    generalize decide (V.int r3 = V.int 0) = b
    refine ⟨_, rfl, _, rfl, _, rfl, p, q, n, b, rfl, P3, h8, fun H4 h S S2 m4 P4 hHi4 l1 l2 => ?_⟩
    refine ⟨_, rfl, _, rfl, p, q, h, n, S, S2, rfl, P4, hHi4, l1, l2, hn1, h8, fun H5 l rs m5 P5 hl5 hW hL1 hL2 hlen => ?_⟩
    have h60 : rs.length ≤ 60 := by omega
    have hHi5 := hHi4.same m5
    -- the rig
    obtain ⟨as, hla, hts⟩ := id hl5
    have hla5 := msk_sub _ _ hla
    refine ⟨_, rfl, _, rfl, l, _, rfl, .inl (SqL.of hla5), fun l2' hl2 => ?_⟩
    intro x dx hx hdx hne
    have sA : Same H5 (upd H5 l2' (.lst (as.map V.ref))) := same_upd hl2
    have sB : Same (upd H5 l2' (.lst (as.map V.ref))) (upd (upd H5 l2' (.lst (as.map V.ref))) dx (.own x)) := same_upd hdx
    have hxx : (upd (upd H5 l2' (.lst (as.map V.ref))) dx (.own x)) x = none := by rw [upd_ne hne.symm]; exact hx
    have sC : Same (upd (upd H5 l2' (.lst (as.map V.ref))) dx (.own x)) (upd (upd (upd H5 l2' (.lst (as.map V.ref))) dx (.own x)) x (.ins (He.ga K "Rig") dx [])) := same_upd hxx
    have hx5 : H5 x = none := sA.free hx
    refine ⟨x, dx, l2', as, rs, n, rfl, upd_same, sC _ _ (sB _ _ upd_same), ((hts.same msk_sub).same sA).same (sB.trans sC), hW, h60, hn1, h8, fun H6 k6 hg6 => ⟨rfl, ?_⟩⟩
    have s6 : Same H5 H6 := fun c o e => k6 c o (ne_of_none e hx5) (sC _ _ (sB _ _ (sA _ _ e)))
    have P6 := P5.same s6
    have m6 := MS.of (M := [p, q]) s6
    have hg6' := RigA.msk P6 hg6
    have hl6 := hl5.same m6
    have hHi6 := hHi5.same m6
    clear sA sB sC hxx hx5 k6 hg6 hx hdx hl2
    -- dist
    refine ⟨_, rfl, _, rfl, l, rs, S, n, rfl, hl6.same msk_sub, hW, hL1, h60, h8, fun H7 d s7 hd7 hA => ?_⟩
    have P7 := P6.same s7
    have m7 := MS.of (M := [p, q]) s7
    have hd7' := hd7.same (nw_msk P6.trk)
    have hg7 := hg6'.same m7
    have hl7 := hl6.same m7
    have hHi7 := hHi6.same m7
    obtain ⟨a, b2, j1, j2, j3⟩ := id hHi7
    refine ⟨_, rfl, _, rfl, h, _, 0, .ref a, rfl, rfl, SqL.of (msk_sub _ _ j1), rfl, _, rfl, p, q, a, n, S, b, rfl, P7, j2, l1, h8, fun H8 sl ss m8 P8 hs8 hws => ?_⟩
    have hd8 := hd7'.same m8
    have hg8 := hg7.same m8
    have hl8 := hl7.same m8
    have hHi8 := hHi7.same m8
    refine ⟨_, rfl, _, rfl, d, sl, rs, n, ss, rfl, hd8.same msk_sub, hs8.same msk_sub, hws, h8, fun H9 lm s9 hlm9 => ?_⟩
    have P9 := P8.same s9
    have m9 := MS.of (M := [p, q]) s9
    have hlm9' := nw_msk P8.trk _ _ hlm9
    have hd9 := hd8.same m9
    have hg9 := hg8.same m9
    have hl9 := hl8.same m9
    have hHi9 := hHi8.same m9
    have hs9 := hs8.same m9
    have a1 := m9 _ _ (m8 _ _ j1)
    have a2 := m9 _ _ (m8 _ _ j2)
    clear hg6' hl6 hHi6 hd7' hg7 hl7 hHi7 hd8 hg8 hl8 hHi8 hs8 hd7 hlm9 j1 j2 j3
    -- told
    refine ⟨_, rfl, _, rfl, h, _, 0, .ref a, rfl, rfl, SqL.of (msk_sub _ _ a1), rfl, 1, rfl, a, _, rfl, SqL.of (msk_sub _ _ a2), fun h1 hh1 => ?_⟩
    rw [slice1]
    have s10 : Same H9 (upd H9 h1 (.lst (((0 :: S).map V.int).drop 1))) := same_upd hh1
    have hh10 : (upd H9 h1 (.lst (((0 :: S).map V.int).drop 1))) h1 = some (.lst (S.map V.int)) := upd_same
    have P10 := P9.same s10
    have m10 := MS.of (M := [p, q]) s10
    revert s10 hh10 P10 m10
    generalize upd H9 h1 (.lst (((0 :: S).map V.int).drop 1)) = H10
    intro s10 hh10 P10 m10
    obtain ⟨as3, e3, cp3⟩ := SlipsAt.copy (H := H10) (l := sl) (ss := ss) (hs9.same (Same.trans m10 msk_sub))
    refine ⟨_, rfl, sl, _, rfl, .inl (SqL.of (e3)), fun sl2 hsl2 => ?_⟩
    have s11 : Same H10 (upd H10 sl2 (.lst (as3.map V.ref))) := same_upd hsl2
    have hsl11 := cp3 _ sl2 s11 upd_same
    have P11 := P10.same s11
    have m11 := MS.of (M := [p, q]) s11
    have hh11 := s11 _ _ hh10
    revert hsl11 P11 m11 hh11
    generalize upd H10 sl2 (.lst (as3.map V.ref)) = H11
    intro hsl11 P11 m11 hh11
    have m911 := m10.trans m11
    refine ⟨x, h1, sl2, n, rs, S, ss, rfl, (hg9.same m911).same msk_sub, hW, h60, h8, hh11, l1, hL1, hsl11, hws, fun H12 t hf v sd F0 sts0 s12 ht hhf hst hk0 ho0 hF0 _ => ?_⟩
    have P12 := P11.same s12
    have m12 := MS.of (M := [p, q]) s12
    have m912 := m911.trans m12
    have hto : ToldAt (RF.msk [p, q] H12) t F0 sts0 := ⟨hf, sd, v, nw_msk P11.trk _ _ ht, nw_msk P11.trk _ _ hhf, hst.same (nw_msk P11.trk)⟩
    have hE0 := ends_ok hws hk0 ho0
    have hLF0 := fal_lets hA hW hL1 hE0 hF0
    have hnd0 : (sts0.map Prod.fst).Nodup := by rw [hk0]; exact due_nodup hws
    have h20 : sts0.length ≤ 20 := by
      have h1 := congrArg List.length hk0
      rw [List.length_map] at h1
      have h2 : (dueL rs ss).length ≤ ss.length := by unfold dueL; rw [List.length_map]; exact List.length_filter_le ..
      have h3 := hws.len
      omega
    have hlim0 : endOf rs ss sts0 = limF rs ss := end_lim hws (fun c => by rw [hk0]) fun c cs e => by
      obtain ⟨d', z1, _, z2⟩ := ho0 _ (lkp_mem e)
      have z2 : chSum rs cs = d' := z2
      rw [z2]; exact z1
    have hl12 := hl9.same m912
    have hHi12 := hHi9.same m912
    have hg12 := hg9.same m912
    have hd12 := hd9.same m912
    have hs12 := hs9.same m912
    have hlm12 := m912 _ _ hlm9'
    have b1 := m912 _ _ a1
    have b2' := m912 _ _ a2
    clear hl9 hHi9 hg9 hd9 hs9 hlm9' a1 a2 hh11 hsl11 cp3 hst ht hhf
    -- the papers
    refine ⟨5, rfl, by decide, by decide, ?_⟩
    refine for_range (n := 5) (fun i σ H' => ∃ v11 v12 v13 v14, σ = [some (.ref sc), some (.ref p), some (.int n), some (.bl b), some (.ref h), some (.ref l), some (.ref x), some (.ref d), some (.ref sl), some (.ref lm), some (.ref t), v11, v12, v13, v14] ∧ MS [p, q] H12 H' ∧ Pool H' p q)
      ⟨_, _, _, _, rfl, MS.rfl_, P12⟩ ?_ (fun σ H' pv => ?_)
    · rintro i σ H13 hi ⟨v11, v12, v13, v14, rfl, m13, P13⟩
      refine ⟨_, rfl, _, rfl, _, rfl, _, rfl, p, q, l, h, t, n, rs, S, S2, F0, sts0, rfl, P13, hl12.same m13, hW, h60, hn1, h8, hHi12.same m13, l1, l2, hL1, hL2, hto.same m13, hF0.1, hLF0, hnd0, h20, fun H14 t' F pls sts m14 P14 hPa hFl hLF hks hnd h40 => ?_⟩
      have mm14 := m13.trans m14
      -- found
      refine ⟨_, rfl, _, rfl, h, _, 0, .ref a, rfl, rfl, SqL.of (msk_sub _ _ (mm14 _ _ b1)), rfl, 1, rfl, a, _, rfl, SqL.of (msk_sub _ _ (mm14 _ _ b2')), fun h2 hh2 => ?_⟩
      rw [slice1]
      have s15 : Same H14 (upd H14 h2 (.lst (((0 :: S).map V.int).drop 1))) := same_upd hh2
      have hh15 : (upd H14 h2 (.lst (((0 :: S).map V.int).drop 1))) h2 = some (.lst (S.map V.int)) := upd_same
      have P15 := P14.same s15
      have m15 := MS.of (M := [p, q]) s15
      revert s15 hh15 P15 m15
      generalize upd H14 h2 (.lst (((0 :: S).map V.int).drop 1)) = H15
      intro s15 hh15 P15 m15
      have mm15 := mm14.trans m15
      obtain ⟨as4, e4, cp4⟩ := SlipsAt.copy (H := H15) (l := sl) (ss := ss) ((hs12.same mm15).same msk_sub)
      refine ⟨_, rfl, sl, _, rfl, .inl (SqL.of (e4)), fun sl3 hsl3 => ?_⟩
      have s16 : Same H15 (upd H15 sl3 (.lst (as4.map V.ref))) := same_upd hsl3
      have hsl16 := cp4 _ sl3 s16 upd_same
      have P16 := P15.same s16
      have m16 := MS.of (M := [p, q]) s16
      have hh16 := s16 _ _ hh15
      revert hsl16 P16 m16 hh16
      generalize upd H15 sl3 (.lst (as4.map V.ref)) = H16
      intro hsl16 P16 m16 hh16
      have mm16 := mm15.trans m16
      have hPa16 := (hPa.same m15).same m16
      refine ⟨_, rfl, x, h2, sl3, t', n, rs, S, F, ss, pls, sts, rfl, (hg12.same mm16).same msk_sub, hW, h60, h8, hh16, l1, hL1, hsl16, hws, hPa16.same msk_sub, hFl, hLF, hks, hnd, fun H17 f1 s17 hf1 => ?_⟩
      have P17 := P16.same s17
      have m17 := MS.of (M := [p, q]) s17
      have mm17 := mm16.trans m17
      have hPa17 := hPa16.same m17
      -- due
      refine ⟨_, rfl, _, rfl, _, rfl, h, _, 0, .ref a, rfl, rfl, SqL.of (msk_sub _ _ (mm17 _ _ b1)), rfl, _, rfl, _, rfl, l, d, a, sl, t', n, rs, S, F, ss, pls, sts, rfl, (hl12.same mm17).same msk_sub, hW, h60, h8, (hd12.same mm17).same msk_sub, hA, msk_sub _ _ (mm17 _ _ b2'), l1, (hs12.same mm17).same msk_sub, hws, hPa17.same msk_sub, hFl, hks, h40, fun H18 f2 s18 hf2 => ?_⟩
      have P18 := P17.same s18
      have m18 := MS.of (M := [p, q]) s18
      have mm18 := mm17.trans m18
      have hPa18 := hPa17.same m18
      obtain ⟨hf', pd', sd', c1, c2, _⟩ := id hPa18
      have c1 := msk_sub _ _ c1
      have c2 := msk_sub _ _ c2
      have hiff := fall_iff (sts := sts) (pls := pls) hA hW hL1 hLF hws hnd hFl hks
      have hff : f1 = f2 := by
        rw [Bool.eq_iff_iff]
        exact hf1.trans (hiff.trans hf2.symm)
      subst hff
      refine ⟨_, rfl, _, .ty "bool", .type "bool", .type "bool", _, rfl, .ty _, .base (.bl _), kt_bb, true, rfl, iteF ?_⟩
      refine ⟨_, rfl, _, rfl, rfl, _, rfl, ?_⟩
      rw [decide_eq_true rfl]
      refine iteF ?_
      have next : ∀ H', MS [p, q] H18 H' → Pool H' p q → ∃ v11 v12 v13 v14, [some (V.ref sc), some (.ref p), some (.int n), some (.bl b), some (.ref h), some (.ref l), some (.ref x), some (.ref d), some (.ref sl), some (.ref lm), some (.ref t), some (.int (0 + (i : Nat))), some (.ref t'), some (.bl f1), some (.bl f1)] = [some (V.ref sc), some (.ref p), some (.int n), some (.bl b), some (.ref h), some (.ref l), some (.ref x), some (.ref d), some (.ref sl), some (.ref lm), some (.ref t), v11, v12, v13, v14] ∧ MS [p, q] H12 H' ∧ Pool H' p q :=
        fun H' mz Pz => ⟨_, _, _, _, rfl, mm18.trans mz, Pz⟩
      cases f1 with
      | false =>
        refine ⟨_, rfl, _, rfl, iteF ?_⟩
        refine ⟨_, rfl, _, rfl, iteF ?_⟩
        exact next H18 MS.rfl_ P18
      | true =>
        obtain ⟨_, hIF, _, _⟩ := hf2.mp rfl
        have hFF : F = F0 := fal_ext hIF hF0 fun k _ => by rw [hlim0]
        refine ⟨_, rfl, _, rfl, iteT ?_⟩
        obtain ⟨hf0, sd0, v0, d1, d2, _⟩ := hto.same mm18
        have d1 := msk_sub _ _ d1
        have d2 := msk_sub _ _ d2
        refine ⟨_, rfl, t', _, 0, .ref hf', rfl, rfl, SqT.of c1, rfl, _, rfl, t, _, 0, .ref hf0, rfl, rfl, SqT.of d1, rfl, hf', hf0, F, F0, rfl, rfl, SqL.of c2, SqL.of d2, _, rfl, ?_⟩
        rw [decide_eq_true hFF]
        refine iteF ?_
        refine ⟨_, rfl, _, rfl, iteT ?_⟩
        refine ⟨_, rfl, _, rfl, h, lm, n, S, S2, limF rs ss, rfl, (hHi12.same mm18).same msk_sub, l1, l2, h8, msk_sub _ _ (mm18 _ _ hlm12), fun H19 f3 s19 hf3 => ⟨_, rfl, ?_⟩⟩
        have P19 := P18.same s19
        have m19 := MS.of (M := [p, q]) s19
        cases f3 with
        | false => exact iteF (next H19 m19 P19)
        | true =>
          have hund := hf3.mp rfl
          refine iteT ?_
          refine ⟨_, rfl, _, rfl, t', _, 0, .ref hf', rfl, rfl, SqT.of (s19 _ _ c1), rfl, h, hf', n, S, S2, F, rfl, ((hHi12.same mm18).same m19).same msk_sub, l1, l2, h8, s19 _ _ c2, hFl, fun H20 f4 s20 hf4 => ⟨_, rfl, ?_⟩⟩
          have P20 := P19.same s20
          have m20 := m19.trans (MS.of (M := [p, q]) s20)
          cases f4 with
          | false => exact iteF (next H20 m20 P20)
          | true =>
            exfalso
            obtain ⟨c, z1, z2, z3⟩ := hf4.mp rfl
            have hkc : Kn n c := ⟨by omega, z2⟩
            have htop := fal_top hA (least_lets hW hL1 hL2) hIF (fun c hc => by
              rw [least_at hc]
              rcases cap_cases S (limF rs ss) c with e | ⟨e', _, he', e, _⟩
              · rw [e]; exact mn_le1 _ _
              · rw [e]; exact hund c hc e' he') hkc
            rw [least_at hkc] at htop
            omega
    · obtain ⟨v11, v12, v13, v14, rfl, m13, P13⟩ := pv
      exact k H'
end
end RF
/-! ## HeadK -/
set_option Elab.async false
set_option linter.all false
set_option maxRecDepth 100000
set_option maxHeartbeats 0
namespace RF
open PySem PySem.Spec PyProof.Rows L2
abbrev R : PySem.W.OpenRow := PySem.W.OpenLaw.row PySem.Challenge.rw_ropedclimbers_k44_whole_falls_whoever_wr
/-- what the module's names reachG in n steps, step by step -/
def reachG (g : Addr → Option Obj) : Nat → List Addr → List Addr
  | 0, as => as
  | n + 1, as => as ++ reachG g n (as.flatMap fun a => match g a with
    | some o => He.refsD o
    | none => [])
def obsG (n : Nat) (g : Addr → Option Obj) : He.AlD := He.obsD fa fn (He.frG g (reachG g n [mainGlobals]))
def hookR (n : Nat) : PySem.W.Hook where
  α := He.AlD
  obs := fun s => obsG n s.heap.get?
  val := fun _ => He.valD fn
  says := fun _ h => ∃ K : PySem.W.Frag, K.In h ∧ He.SaysD fa fn K
  of := fun _ _ e => ⟨_, He.frG_in, e⟩
  keeps := fun _ _ _ ⟨K, hK, c⟩ k => ⟨K, PySem.W.Frag.In.keeps hK k, c⟩
theorem obsG_eq {n : Nat} {g : Addr → Option Obj} {s : Shared} (h : ∀ a, g a = s.heap.get? a) : obsG n g = (hookR n).obs s := by
  have e : g = s.heap.get? := funext h
  rw [e] <;> rfl
abbrev hk : PySem.W.Hook := hookR 4
def ob (s : PySem.W.SharedT) : He.AlD := obsG 4 (HandSHeadRun.getT s)
theorem ob_eq (s : PySem.W.SharedT) : ob s = hk.obs s.abs := obsG_eq (HandSHeadRun.getT_eq s)
def names : List PySem.Str := (["_wall", "RopeError", "NoMany", "NoRope", "NoHeights", "NoKnot", "NoChain", "NoSlips", "NoNumber", "NotLet", "NoStand", "TooMany"] : List PySem.Str) ++
  (["MOST_CLIMBERS", "MOST_ROPES", "is_whole", "is_within", "are_wholes", "is_rope", "look_at_ropes", "Rig", "is_chain", "look_at_chain", "knots_of", "sum_of"] : List PySem.Str) ++
  (["leads", "is_heights", "look_at_heights", "room_by", "broken", "is_stand", "look_at_stand", "ring_in", "spread", "solved", "stand_or_ring", "look_at_rig"] : List PySem.Str) ++
  (["look_at_knot", "Table", "is_slip", "look_at_slips", "stops_by", "ends_by", "fallen", "pulls_by", "fall", "are_stops", "is_pull", "are_pulls"] : List PySem.Str) ++
  (["is_fall", "_law_pool", "_law_draw", "_law_number", "_law_highs", "_law_ropes", "_law_whole", "_law_lets", "_law_stand", "_law_knots", "_law_sums", "_law_dist"] : List PySem.Str) ++
  (["_law_limits", "_law_fallen", "_law_slips", "_law_pull", "_law_pulls", "_law_stops", "_law_fall", "_law_some_pulls", "_law_paper", "_law_under", "_law_above"] : List PySem.Str)
theorem run (w : World) : HandSHeadRun.RunEq R (PySem.W.view R.prog [78]) hk ob 6000 names w := by
  intro os
  kernel_rfl
end RF
/-! ## EndT -/
set_option Elab.async false
set_option linter.all false
set_option maxRecDepth 100000
set_option maxHeartbeats 0
namespace RF
open PySem PySem.Spec PyProof.Rows L2
theorem facts {P : Program} {w : World} {K : PySem.W.Frag} {h : Heap} {mg : Str → Option Value} {f : Addr} (X : K.In h) (G : h.Ns mainGlobals mg) (hfa : mg ("law" : Str) = some (.ref f)) (c : He.SaysD fa fn K) :
    ∃ fd : FuncData, (∀ (s : Shared) (v : Value), BindsTo s fd ⟨[v], []⟩ [("_law_script", v)]) ∧ ∀ base : Heap, K.In base → base.Ns mainGlobals mg → FnOk P w K mg base CX0 30 f fd ["_law_script"] (spLaw K) := by
  have T : TX K mg := ⟨c, h, X, G⟩
  obtain ⟨fd, F⟩ := T.d_law
  have e := hfa.symm.trans T.g_law
  cases e
  have b := FunD.bindsA (ps := ["_law_script"]) F fun _ _ _ _ _ _ us hl => match us, hl with | [_], _ => rfl
  exact ⟨fd, fun s v => b s [v] rfl, fun base _ _ => (ok_lawF T F).mono (by decide)⟩
end RF
open PySem PySem.W PySem.Calls PyProof.Rows
theorem PySem.Challenge.cw_ropedclimbers_k44_whole_falls_whoever_wr_holds : PySem.Challenge.rw_ropedclimbers_k44_whole_falls_whoever_wr.Holds := by
  w_on; o_law
  refine HandSHeadRun.head_any (r := OpenLaw.row PySem.Challenge.rw_ropedclimbers_k44_whole_falls_whoever_wr) (q := view (OpenLaw.row PySem.Challenge.rw_ropedclimbers_k44_whole_falls_whoever_wr).prog [78]) (H := RF.hk) (ob := RF.ob) (M := 6000) (loose := RF.names) (d := HandSHeadRun.topDef (OpenLaw.row PySem.Challenge.rw_ropedclimbers_k44_whole_falls_whoever_wr).prog 78) (kwd := []) RF.ob_eq
    (by kernel_rfl) (fun s => by kernel_rfl) RF.run (by kernel_rfl) (by kernel_rfl) (by kernel_rfl) (by rfl) (by first | assumption | decide +kernel) (by decide +kernel) ⟨rfl, rfl, rfl, rfl, rfl, by decide +kernel⟩ ?hw ?hc
  case hw => w_witness2
  case hc =>
    refine L2.walk_ofE (l := PySem.Challenge.rw_ropedclimbers_k44_whole_falls_whoever_wr) (n := 63) (k := 30) (x := "_law_script") (CX := L2.CX0) rfl (by decide) (by kernel_rfl) ⟨rfl, by decide, by decide⟩ ?F (fun _ _ _ _ z => z)
    intro w mg fa h Y G hmg0
    obtain ⟨K, KX, c⟩ := Y
    have hmg : mg ("law" : PySem.Str) = some (.ref fa) := by
      have e : (HandSHeadRun.topDef (OpenLaw.row PySem.Challenge.rw_ropedclimbers_k44_whole_falls_whoever_wr).prog 78).name = ("law" : PySem.Str) := by kernel_rfl
      rw [← e]
      exact hmg0
    obtain ⟨fd, hb, hF⟩ := RF.facts (P := (PySem.Challenge.rw_ropedclimbers_k44_whole_falls_whoever_wr).prog) (w := w) KX G hmg c
    exact ⟨K, fd, RF.spLaw K, KX, hb, fun H a ns hl _ hS => ⟨a, ns, rfl, hS, hl, fun _ => rfl⟩, hF⟩
