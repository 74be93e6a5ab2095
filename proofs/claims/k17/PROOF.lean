import PyProof.Rows.All
import Wide.All
import OpenK.AllK
import Wide.FinOn
import HandS.ForMost
import HandS.SortKw
import HandS.Property
import HandS.MakeKwOnly
import HandS.NoneIn
import HandS.Walk
import KE.DatumOrd
import KE.SortKeyHeap
import KE.GoesMore
import PySem.Challenge.RW_waypapers_k17_whole_more_freedom

set_option Elab.async false
set_option linter.all false
/-! Plain mathematics of the law: roads, charts, when one enters and arrives, what can be come to, the search's state, and the law. Nothing of Python stands here. -/
namespace WP

structure Road (N : Type) where
  name : N
  start : N
  stop : N
  mins : Int
  kinds : List N
  hours : Option (List (Int × Int))

structure Chart (N : Type) where
  day : Int
  places : List N
  kinds : List N
  roads : List (Road N)
  bars : List (N × N)

/-- the first pair that closes behind x: the later of x and its opening -/
def firstOpen (x : Int) : List (Int × Int) → Option Int
  | [] => none
  | p :: r => if x < p.2 then some (if p.1 > x then p.1 else x) else firstOpen x r

def enter (day : Int) (hs : Option (List (Int × Int))) (m : Int) : Option Int :=
  match hs with
  | none => some m
  | some [] => none
  | some (p :: ps) =>
    match firstOpen (m % day) (p :: ps) with
    | some y => some (m - m % day + y)
    | none => some (m - m % day + day + p.1)

/-- opening hours, behind the minute b -/
def HoursOk (day : Int) (b : Int) : List (Int × Int) → Prop
  | [] => True
  | p :: r => b < p.1 ∧ p.1 < p.2 ∧ p.2 ≤ day ∧ HoursOk day p.2 r

def HoursOk' (day : Int) : Option (List (Int × Int)) → Prop
  | none => True
  | some ps => HoursOk day (-1) ps

theorem firstOpen_ge {x y : Int} : ∀ {ps : List (Int × Int)}, firstOpen x ps = some y → x ≤ y
  | [], h => by cases h
  | p :: r, h => by
    unfold firstOpen at h
    split at h
    · cases h
      split <;> omega
    · exact firstOpen_ge h
theorem firstOpen_lt {day b x y : Int} : ∀ {ps : List (Int × Int)}, HoursOk day b ps → firstOpen x ps = some y → b < y ∧ y < day
  | [], _, h => by cases h
  | p :: r, ok, h => by
    obtain ⟨h1, h2, h3, h4⟩ := ok
    unfold firstOpen at h
    split at h
    · cases h
      split <;> omega
    · have := firstOpen_lt h4 h
      omega
theorem firstOpen_first {day b x y : Int} {p : Int × Int} {r : List (Int × Int)} (ok : HoursOk day b (p :: r)) (h : firstOpen x (p :: r) = some y) : p.1 ≤ y := by
  obtain ⟨h1, h2, h3, h4⟩ := ok
  unfold firstOpen at h
  split at h
  · cases h
    split <;> omega
  · have := firstOpen_lt h4 h
    omega
theorem firstOpen_mono {day b x y x' y' : Int} (hx : x ≤ x') : ∀ {ps : List (Int × Int)}, HoursOk day b ps → firstOpen x ps = some y → firstOpen x' ps = some y' → y ≤ y'
  | [], _, h, _ => by cases h
  | p :: r, ok, h, h' => by
    obtain ⟨h1, h2, h3, h4⟩ := ok
    unfold firstOpen at h h'
    split at h
    · rename_i c
      cases h
      split at h'
      · rename_i c'
        cases h'
        split <;> split <;> omega
      · have := firstOpen_lt h4 h'
        have := firstOpen_ge h'
        split <;> omega
    · rename_i c
      split at h'
      · omega
      · exact firstOpen_mono hx h4 h h'
theorem firstOpen_none {x x' : Int} (hx : x ≤ x') : ∀ {ps : List (Int × Int)}, firstOpen x ps = none → firstOpen x' ps = none
  | [], _ => rfl
  | p :: r, h => by
    unfold firstOpen at h ⊢
    split at h
    · cases h
    · rename_i c
      rw [if_neg (by omega)]
      exact firstOpen_none hx h

theorem day_split {day m : Int} (hd : 0 < day) : 0 ≤ m % day ∧ m % day < day := ⟨Int.emod_nonneg _ (by omega), Int.emod_lt_of_pos _ hd⟩
/-- two moments: of one day, or the second a day or more later -/
theorem two_days {day m m' : Int} (hd : 0 < day) (h : m ≤ m') : (m - m % day = m' - m' % day ∧ m % day ≤ m' % day) ∨ m - m % day + day ≤ m' - m' % day := by
  have e1 := Int.emod_add_mul_ediv m day
  have e2 := Int.emod_add_mul_ediv m' day
  have hq : m / day ≤ m' / day := Int.ediv_le_ediv hd h
  rcases Int.lt_or_eq_of_le hq with lt | eq
  · right
    have h1 : day * (m / day + 1) ≤ day * (m' / day) := Int.mul_le_mul_of_nonneg_left (by omega) (by omega)
    rw [Int.mul_add, Int.mul_one] at h1
    omega
  · left
    rw [eq] at e1
    omega

theorem enter_ge {day : Int} (hd : 0 < day) {hs : Option (List (Int × Int))} (ok : HoursOk' day hs) {m t : Int} (h : enter day hs m = some t) : m ≤ t := by
  obtain ⟨d1, d2⟩ := day_split (m := m) hd
  unfold enter at h
  split at h
  · cases h
    exact Int.le_refl _
  · cases h
  · rename_i p ps
    obtain ⟨k1, k2, k3, k4⟩ := ok
    split at h
    · rename_i y hy
      cases h
      have := firstOpen_ge hy
      omega
    · cases h
      omega
theorem enter_mono {day : Int} (hd : 0 < day) {hs : Option (List (Int × Int))} (ok : HoursOk' day hs) {m m' t : Int} (hm : m ≤ m') (h : enter day hs m' = some t) : ∃ u, enter day hs m = some u ∧ u ≤ t := by
  obtain ⟨d1, d2⟩ := day_split (m := m) hd
  obtain ⟨d3, d4⟩ := day_split (m := m') hd
  have two := two_days hd hm
  unfold enter at h ⊢
  split at h
  · cases h
    exact ⟨m, rfl, hm⟩
  · cases h
  · rename_i p ps
    have ok' : HoursOk day (-1) (p :: ps) := ok
    obtain ⟨k1, k2, k3, k4⟩ := ok
    split at h
    · rename_i y' hy'
      cases h
      cases hy : firstOpen (m % day) (p :: ps) with
      | some y =>
        refine ⟨_, rfl, ?_⟩
        have l1 := firstOpen_lt ok' hy
        have l2 := firstOpen_ge hy'
        rcases two with ⟨e, le⟩ | lt
        · have := firstOpen_mono le ok' hy hy'
          omega
        · omega
      | none =>
        refine ⟨_, rfl, ?_⟩
        have l2 := firstOpen_first ok' hy'
        rcases two with ⟨e, le⟩ | lt
        · rw [firstOpen_none le hy] at hy'
          cases hy'
        · omega
    · rename_i hy'
      cases h
      cases hy : firstOpen (m % day) (p :: ps) with
      | some y =>
        refine ⟨_, rfl, ?_⟩
        have l1 := firstOpen_lt ok' hy
        rcases two with ⟨e, le⟩ | lt <;> omega
      | none =>
        refine ⟨_, rfl, ?_⟩
        rcases two with ⟨e, le⟩ | lt <;> omega
/-- a road without hours is entered at once -/
theorem enter_free {day : Int} (hd : 0 < day) {hs : Option (List (Int × Int))} (ok : HoursOk' day hs) {m m' t : Int} (hm : m ≤ m') (h : enter day hs m' = some t) : ∃ u, enter day none m = some u ∧ u ≤ t :=
  ⟨m, rfl, Int.le_trans hm (enter_ge hd ok h)⟩

section
variable {N : Type}

def arrive (day : Int) (r : Road N) (m : Int) : Option Int :=
  match enter day r.hours m with
  | none => none
  | some x => some (x + r.mins)

structure RoadOk (day : Int) (r : Road N) : Prop where
  mins : 1 ≤ r.mins
  hours : HoursOk' day r.hours
structure ChartOk (c : Chart N) : Prop where
  day : 0 < c.day
  roads : ∀ r ∈ c.roads, RoadOk c.day r
  same : ∀ r ∈ c.roads, ∀ r' ∈ c.roads, r.name = r'.name → r = r'
  ends : ∀ r ∈ c.roads, r.stop ∈ c.places

theorem arrive_gt {day : Int} (hd : 0 < day) {r : Road N} (ok : RoadOk day r) {m t : Int} (h : arrive day r m = some t) : m < t := by
  unfold arrive at h
  cases e : enter day r.hours m with
  | none => rw [e] at h; cases h
  | some x =>
    rw [e] at h
    have h2 := Option.some.inj h
    have := enter_ge hd ok.hours e
    have := ok.mins
    omega

/-- a road r' that is as free as r -/
structure Mate (r r' : Road N) : Prop where
  name : r'.name = r.name
  start : r'.start = r.start
  stop : r'.stop = r.stop
  mins : r'.mins ≤ r.mins
  kinds : ∀ k ∈ r.kinds, k ∈ r'.kinds
  hours : r'.hours = r.hours ∨ r'.hours = none

theorem arrive_mate {day : Int} (hd : 0 < day) {r r' : Road N} (ok : RoadOk day r) (ma : Mate r r') {m m' t : Int} (hm : m ≤ m') (h : arrive day r m' = some t) : ∃ u, arrive day r' m = some u ∧ u ≤ t := by
  unfold arrive at h ⊢
  cases e : enter day r.hours m' with
  | none => rw [e] at h; cases h
  | some x =>
    rw [e] at h
    have h2 := Option.some.inj h
    have hq : ∃ u, enter day r'.hours m = some u ∧ u ≤ x := by
      rcases ma.hours with q | q
      · rw [q]; exact enter_mono hd ok.hours hm e
      · rw [q]; exact enter_free hd ok.hours hm e
    obtain ⟨u, hu, hle⟩ := hq
    rw [hu]
    refine ⟨_, rfl, ?_⟩
    have := ma.mins
    omega
theorem arrive_mono {day : Int} (hd : 0 < day) {r : Road N} (ok : RoadOk day r) {m m' t : Int} (hm : m ≤ m') (h : arrive day r m' = some t) : ∃ u, arrive day r m = some u ∧ u ≤ t :=
  arrive_mate hd ok ⟨rfl, rfl, rfl, Int.le_refl _, fun _ k => k, .inl rfl⟩ hm h

/-- a trip of the kind comes over the road, at this arrival, where each road is entered as early as can be -/
inductive Reach (c : Chart N) (kind start : N) (m : Int) : Road N → Int → Prop
  | first {r : Road N} {t : Int} : r ∈ c.roads → r.start = start → kind ∈ r.kinds → arrive c.day r m = some t → Reach c kind start m r t
  | next {a r : Road N} {ta t : Int} : Reach c kind start m a ta → r ∈ c.roads → r.start = a.stop → (a.name, r.name) ∉ c.bars → kind ∈ r.kinds → arrive c.day r ta = some t → Reach c kind start m r t

theorem Reach.road {c : Chart N} {kind start : N} {m : Int} {r : Road N} {t : Int} (h : Reach c kind start m r t) : r ∈ c.roads := by
  cases h <;> assumption

/-- a chart c' that is as free as c -/
structure Freer (c c' : Chart N) : Prop where
  day : c'.day = c.day
  places : ∀ x ∈ c.places, x ∈ c'.places
  roads : ∀ r ∈ c.roads, ∃ r' ∈ c'.roads, Mate r r'
  bars : ∀ b ∈ c'.bars, b ∈ c.bars

theorem Reach.freer {c c' : Chart N} {kind start : N} {m : Int} (ok : ChartOk c) (f : Freer c c') {r : Road N} {t : Int} (h : Reach c kind start m r t) :
    ∃ r' t', Mate r r' ∧ t' ≤ t ∧ Reach c' kind start m r' t' := by
  induction h with
  | first hr hs hk ha =>
    obtain ⟨r', hr', ma⟩ := f.roads _ hr
    obtain ⟨u, hu, le⟩ := arrive_mate ok.day (ok.roads _ hr) ma (Int.le_refl _) ha
    exact ⟨r', u, ma, le, .first hr' (ma.start.trans hs) (ma.kinds _ hk) (by rw [f.day]; exact hu)⟩
  | next ha' hr hs hb hk ha ih =>
    obtain ⟨a', ta', mb, leb, hra⟩ := ih
    obtain ⟨r', hr', ma⟩ := f.roads _ hr
    obtain ⟨u, hu, le⟩ := arrive_mate ok.day (ok.roads _ hr) ma leb ha
    refine ⟨r', u, ma, le, .next hra hr' (by rw [ma.start, hs, mb.stop]) (fun z => hb ?_) (ma.kinds _ hk) (by rw [f.day]; exact hu)⟩
    have := f.bars _ z
    rwa [mb.name, ma.name] at this

/-- what the search finds: the earliest arrivals by the roads' names -/
structure Labels (c : Chart N) (kind start : N) (m : Int) (L : N → Option Int) : Prop where
  sound : ∀ n t, L n = some t → ∃ r, r.name = n ∧ Reach c kind start m r t
  first : ∀ r ∈ c.roads, r.start = start → kind ∈ r.kinds → ∀ v, arrive c.day r m = some v → ∃ t, t ≤ v ∧ L r.name = some t
  next : ∀ a ∈ c.roads, ∀ ta, L a.name = some ta → ∀ r ∈ c.roads, r.start = a.stop → (a.name, r.name) ∉ c.bars → kind ∈ r.kinds → ∀ v, arrive c.day r ta = some v → ∃ t, t ≤ v ∧ L r.name = some t

theorem Labels.complete {c : Chart N} {kind start : N} {m : Int} {L : N → Option Int} (ok : ChartOk c) (l : Labels c kind start m L) {r : Road N} {t : Int} (h : Reach c kind start m r t) :
    ∃ t', t' ≤ t ∧ L r.name = some t' := by
  induction h with
  | first hr hs hk ha => exact l.first _ hr hs hk _ ha
  | next ha' hr hs hb hk ha ih =>
    obtain ⟨ta', le, hl⟩ := ih
    obtain ⟨u, hu, leu⟩ := arrive_mono ok.day (ok.roads _ hr) le ha
    obtain ⟨t', le', hl'⟩ := l.next _ ha'.road _ hl _ hr hs hb hk _ hu
    exact ⟨t', Int.le_trans le' leu, hl'⟩

theorem Labels.law {c c' : Chart N} {kind start : N} {m : Int} {L L' : N → Option Int} (ok : ChartOk c) (ok' : ChartOk c') (f : Freer c c') (l : Labels c kind start m L) (l' : Labels c' kind start m L')
    {n : N} {t : Int} (h : L n = some t) : ∃ t', t' ≤ t ∧ L' n = some t' := by
  obtain ⟨r, rfl, hr⟩ := l.sound n t h
  obtain ⟨r', t', ma, le, hr'⟩ := hr.freer ok f
  obtain ⟨t'', le', hl⟩ := l'.complete ok' hr'
  exact ⟨t'', Int.le_trans le' le, by rw [← ma.name]; exact hl⟩

/-- what places_from finds -/
structure Places (c : Chart N) (start : N) (m : Int) (L F : N → Option Int) : Prop where
  sound : ∀ p t, F p = some t → (p = start ∧ t = m) ∨ ∃ r ∈ c.roads, r.stop = p ∧ L r.name = some t
  here : ∃ t, t ≤ m ∧ F start = some t
  ends : ∀ r ∈ c.roads, ∀ v, L r.name = some v → ∃ t, t ≤ v ∧ F r.stop = some t

theorem Places.law {c c' : Chart N} {kind start : N} {m : Int} {L L' F F' : N → Option Int} (ok : ChartOk c) (ok' : ChartOk c') (f : Freer c c') (l : Labels c kind start m L) (l' : Labels c' kind start m L')
    (p : Places c start m L F) (p' : Places c' start m L' F') {x : N} {t : Int} (h : F x = some t) : ∃ t', t' ≤ t ∧ F' x = some t' := by
  rcases p.sound x t h with ⟨rfl, rfl⟩ | ⟨r, hr, rfl, hl⟩
  · exact p'.here
  · obtain ⟨t', le, hl'⟩ := l.law ok ok' f l' hl
    obtain ⟨r', hr', ma⟩ := f.roads r hr
    obtain ⟨t'', le', hf⟩ := p'.ends r' hr' t' (by rw [ma.name]; exact hl')
    exact ⟨t'', Int.le_trans le' le, by rw [← ma.stop]; exact hf⟩

/-! ### the search's state -/
variable [DecidableEq N]
def put (f : N → Option Int) (n : N) (v : Option Int) : N → Option Int := fun x => if x = n then v else f x
theorem put_same {f : N → Option Int} {n : N} {v : Option Int} : put f n v n = v := if_pos rfl
theorem put_ne {f : N → Option Int} {n x : N} {v : Option Int} (h : x ≠ n) : put f n v x = f x := if_neg h

/-- A: settled; W: waiting -/
structure DInv (c : Chart N) (kind start : N) (m : Int) (A W : N → Option Int) : Prop where
  disj : ∀ n t, A n = some t → W n = none
  soundA : ∀ n t, A n = some t → ∃ r, r.name = n ∧ Reach c kind start m r t
  soundW : ∀ n t, W n = some t → ∃ r, r.name = n ∧ Reach c kind start m r t
  le : ∀ a ta w tw, A a = some ta → W w = some tw → ta ≤ tw
  first : ∀ r ∈ c.roads, r.start = start → kind ∈ r.kinds → ∀ v, arrive c.day r m = some v → ∃ t, t ≤ v ∧ (A r.name = some t ∨ W r.name = some t)
  next : ∀ a ∈ c.roads, ∀ ta, A a.name = some ta → ∀ r ∈ c.roads, r.start = a.stop → (a.name, r.name) ∉ c.bars → kind ∈ r.kinds → ∀ v, arrive c.day r ta = some v →
    ∃ t, t ≤ v ∧ (A r.name = some t ∨ W r.name = some t)

/-- what an offer of the roads ns at the moment m makes of W -/
structure Offered (c : Chart N) (kind : N) (A W : N → Option Int) (ns : List N) (m : Int) (W' : N → Option Int) : Prop where
  new : ∀ n t, W' n = some t → W n = some t ∨ (n ∈ ns ∧ A n = none ∧ ∃ r ∈ c.roads, r.name = n ∧ kind ∈ r.kinds ∧ arrive c.day r m = some t)
  old : ∀ n t, W n = some t → ∃ t', t' ≤ t ∧ W' n = some t'
  all : ∀ n ∈ ns, A n = none → ∀ r ∈ c.roads, r.name = n → kind ∈ r.kinds → ∀ v, arrive c.day r m = some v → ∃ t, t ≤ v ∧ W' n = some t

theorem Offered.nil {c : Chart N} {kind : N} {A W : N → Option Int} {m : Int} : Offered c kind A W [] m W :=
  ⟨fun _ _ h => .inl h, fun _ t h => ⟨t, Int.le_refl _, h⟩, fun _ h => by cases h⟩
/-- the next road is passed by -/
theorem Offered.skip {c : Chart N} {kind : N} {A W W' : N → Option Int} {ns : List N} {m : Int} {n : N} (o : Offered c kind A W ns m W')
    (h : A n = none → ∀ r ∈ c.roads, r.name = n → kind ∈ r.kinds → ∀ v, arrive c.day r m = some v → ∃ t, t ≤ v ∧ W' n = some t) : Offered c kind A W (ns ++ [n]) m W' :=
  ⟨fun x t hx => (o.new x t hx).imp id fun ⟨a, b⟩ => ⟨List.mem_append_left _ a, b⟩, o.old, fun x hx => by
    rcases List.mem_append.mp hx with hx | hx
    · exact o.all x hx
    · have e : x = n := by simpa using hx
      subst e
      exact h⟩
/-- the next road is noted -/
theorem Offered.note {c : Chart N} {kind : N} {A W W' : N → Option Int} {ns : List N} {m : Int} {r : Road N} {t : Int} (same : ∀ r ∈ c.roads, ∀ r' ∈ c.roads, r.name = r'.name → r = r') (o : Offered c kind A W ns m W')
    (hr : r ∈ c.roads) (ha : A r.name = none) (hk : kind ∈ r.kinds) (hv : arrive c.day r m = some t) (less : ∀ t', W' r.name = some t' → t < t') : Offered c kind A W (ns ++ [r.name]) m (put W' r.name (some t)) := by
  refine ⟨fun x u hx => ?_, fun x u hx => ?_, fun x hx hA r' hr' hn' hk' v hv' => ?_⟩
  · by_cases e : x = r.name
    · subst e
      rw [put_same] at hx
      cases hx
      exact .inr ⟨by simp, ha, r, hr, rfl, hk, hv⟩
    · rw [put_ne e] at hx
      exact (o.new x u hx).imp id fun ⟨a, b⟩ => ⟨List.mem_append_left _ a, b⟩
  · obtain ⟨u', le, hu⟩ := o.old x u hx
    by_cases e : x = r.name
    · subst e
      exact ⟨t, by have := less _ hu; omega, put_same⟩
    · exact ⟨u', le, by rw [put_ne e]; exact hu⟩
  · by_cases e : x = r.name
    · have e2 := same r' hr' r hr (hn'.trans e)
      subst e2
      rw [hv] at hv'
      cases hv'
      subst e
      exact ⟨t, Int.le_refl _, put_same⟩
    · rcases List.mem_append.mp hx with hx | hx
      · obtain ⟨u, le, hu⟩ := o.all x hx hA r' hr' hn' hk' v hv'
        exact ⟨u, le, by rw [put_ne e]; exact hu⟩
      · exact absurd (by simpa using hx) e

theorem DInv.begin {c : Chart N} {kind start : N} {m : Int} {W' : N → Option Int} {ns : List N} (hns : ∀ r ∈ c.roads, r.start = start → r.name ∈ ns) (hn2 : ∀ r ∈ c.roads, r.name ∈ ns → r.start = start)
    (o : Offered c kind (fun _ => none) (fun _ => none) ns m W') : DInv c kind start m (fun _ => none) W' where
  disj := fun _ _ h => by cases h
  soundA := fun _ _ h => by cases h
  soundW := fun n t h => by
    rcases o.new n t h with z | ⟨hn, _, r, hr, rfl, hk, hv⟩
    · cases z
    · exact ⟨r, rfl, .first hr (hn2 r hr hn) hk hv⟩
  le := fun _ _ _ _ h => by cases h
  first := fun r hr hs hk v hv => by
    obtain ⟨t, le, h⟩ := o.all r.name (hns r hr hs) rfl r hr rfl hk v hv
    exact ⟨t, le, .inr h⟩
  next := fun _ _ _ h => by cases h

/-- one settle: the road a, waiting with the least arrival, is settled and its followers are offered -/
theorem DInv.settle {c : Chart N} {kind start : N} {m : Int} {A W W' : N → Option Int} {a : Road N} {ta : Int} {ns : List N} (ok : ChartOk c) (d : DInv c kind start m A W) (ha : a ∈ c.roads) (hw : W a.name = some ta)
    (least : ∀ w tw, W w = some tw → ta ≤ tw) (hns : ∀ r ∈ c.roads, (r.name ∈ ns ↔ (r.start = a.stop ∧ (a.name, r.name) ∉ c.bars)))
    (o : Offered c kind (put A a.name (some ta)) (put W a.name none) ns ta W') : DInv c kind start m (put A a.name (some ta)) W' := by
  have reach : Reach c kind start m a ta := by
    obtain ⟨r, hn, hr⟩ := d.soundW _ _ hw
    have e := ok.same r hr.road a ha hn
    subst e
    exact hr
  have leA : ∀ x t, put A a.name (some ta) x = some t → t ≤ ta := fun x t h => by
    by_cases e : x = a.name
    · subst e
      rw [put_same] at h
      cases h
      exact Int.le_refl _
    · rw [put_ne e] at h
      exact d.le _ _ _ _ h hw
  have keep : ∀ x t, (A x = some t ∨ W x = some t) → ∃ t', t' ≤ t ∧ (put A a.name (some ta) x = some t' ∨ W' x = some t') := fun x t h => by
    by_cases e : x = a.name
    · subst e
      refine ⟨ta, ?_, .inl put_same⟩
      rcases h with h | h
      · rw [d.disj _ _ h] at hw
        cases hw
      · exact least _ _ h
    · rcases h with h | h
      · exact ⟨t, Int.le_refl _, .inl (by rw [put_ne e]; exact h)⟩
      · obtain ⟨t', le, h'⟩ := o.old x t (by rw [put_ne e]; exact h)
        exact ⟨t', le, .inr h'⟩
  refine ⟨fun n t h => ?_, fun n t h => ?_, fun n t h => ?_, fun x tx w tw h1 h2 => ?_, fun r hr hs hk v hv => ?_, fun b hb tb h r hr hs hbar hk v hv => ?_⟩
  · cases q : W' n with
    | none => rfl
    | some u =>
      rcases o.new n u q with z | ⟨_, z, _⟩
      · by_cases e : n = a.name
        · subst e
          rw [put_same] at z
          cases z
        · rw [put_ne e] at z h
          rw [d.disj _ _ h] at z
          cases z
      · rw [z] at h
        cases h
  · by_cases e : n = a.name
    · subst e
      rw [put_same] at h
      cases h
      exact ⟨a, rfl, reach⟩
    · rw [put_ne e] at h
      exact d.soundA n t h
  · rcases o.new n t h with z | ⟨hn, _, r, hr, rfl, hk, hv⟩
    · by_cases e : n = a.name
      · subst e
        rw [put_same] at z
        cases z
      · rw [put_ne e] at z
        exact d.soundW n t z
    · obtain ⟨hs, hb⟩ := (hns r hr).mp hn
      exact ⟨r, rfl, .next reach hr hs hb hk hv⟩
  · have h3 := leA x tx h1
    have h4 : ta ≤ tw := by
      rcases o.new w tw h2 with z | ⟨_, _, r, hr, rfl, _, hv⟩
      · by_cases e : w = a.name
        · subst e
          rw [put_same] at z
          cases z
        · rw [put_ne e] at z
          exact least _ _ z
      · exact Int.le_of_lt (arrive_gt ok.day (ok.roads r hr) hv)
    omega
  · obtain ⟨t, le, h⟩ := d.first r hr hs hk v hv
    obtain ⟨t', le', h'⟩ := keep _ _ h
    exact ⟨t', Int.le_trans le' le, h'⟩
  · by_cases e : b.name = a.name
    · have e2 := ok.same b hb a ha e
      subst e2
      rw [put_same] at h
      cases h
      cases q : put A b.name (some ta) r.name with
      | some u =>
        have h1 := leA _ _ q
        have h2 := arrive_gt ok.day (ok.roads r hr) hv
        exact ⟨u, by omega, .inl rfl⟩
      | none =>
        obtain ⟨t, le, h'⟩ := o.all r.name ((hns r hr).mpr ⟨hs, hbar⟩) q r hr rfl hk v hv
        exact ⟨t, le, .inr h'⟩
    · rw [put_ne e] at h
      obtain ⟨t, le, h'⟩ := d.next b hb tb h r hr hs hbar hk v hv
      obtain ⟨t', le', h''⟩ := keep _ _ h'
      exact ⟨t', Int.le_trans le' le, h''⟩

theorem DInv.done {c : Chart N} {kind start : N} {m : Int} {A W : N → Option Int} (d : DInv c kind start m A W) (h : ∀ n, W n = none) : Labels c kind start m A where
  sound := d.soundA
  first := fun r hr hs hk v hv => by
    obtain ⟨t, le, q⟩ := d.first r hr hs hk v hv
    rcases q with q | q
    · exact ⟨t, le, q⟩
    · rw [h] at q
      cases q
  next := fun a ha ta hA r hr hs hb hk v hv => by
    obtain ⟨t, le, q⟩ := d.next a ha ta hA r hr hs hb hk v hv
    rcases q with q | q
    · exact ⟨t, le, q⟩
    · rw [h] at q
      cases q

/-- how many of the names are not settled yet -/
def left (ns : List N) (A : N → Option Int) : Nat := (ns.filter fun n => (A n).isNone).length
theorem left_le (ns : List N) (A : N → Option Int) (n : N) (t : Int) : left ns (put A n (some t)) ≤ left ns A := by
  unfold left
  induction ns with
  | nil => exact Nat.le_refl _
  | cons x r ih =>
    by_cases e : x = n
    · subst e
      rw [List.filter_cons_of_neg (by rw [put_same]; simp)]
      by_cases q : (A x).isNone
      · rw [List.filter_cons_of_pos (by simpa using q), List.length_cons]
        omega
      · rw [List.filter_cons_of_neg (by simpa using q)]
        exact ih
    · by_cases q : (A x).isNone
      · rw [List.filter_cons_of_pos (by rw [put_ne e]; exact q), List.filter_cons_of_pos (by exact q)]
        simpa using ih
      · rw [List.filter_cons_of_neg (by rw [put_ne e]; exact q), List.filter_cons_of_neg (by exact q)]
        exact ih
theorem left_lt {ns : List N} {A : N → Option Int} {n : N} {t : Int} (hn : n ∈ ns) (h : A n = none) : left ns (put A n (some t)) < left ns A := by
  induction ns with
  | nil => cases hn
  | cons x r ih =>
    by_cases e : x = n
    · subst e
      have h1 := left_le r A x t
      unfold left at h1 ⊢
      rw [List.filter_cons_of_neg (by rw [put_same]; simp), List.filter_cons_of_pos (by rw [h]; rfl), List.length_cons]
      omega
    · have hr : n ∈ r := by
        rcases List.mem_cons.mp hn with z | z
        · exact absurd z.symm e
        · exact z
      have h1 := ih hr
      unfold left at h1 ⊢
      by_cases q : (A x).isNone
      · rw [List.filter_cons_of_pos (by rw [put_ne e]; exact q), List.filter_cons_of_pos (by exact q), List.length_cons, List.length_cons]
        omega
      · rw [List.filter_cons_of_neg (by rw [put_ne e]; exact q), List.filter_cons_of_neg (by exact q)]
        exact h1
/-- a list without repeats within another is no longer -/
theorem nodup_len {α : Type} [DecidableEq α] : ∀ {l l' : List α}, l.Nodup → (∀ x ∈ l, x ∈ l') → l.length ≤ l'.length
  | [], _, _, _ => Nat.zero_le _
  | x :: r, l', nd, h => by
    have nd' := List.nodup_cons.mp nd
    have hx : x ∈ l' := h x (by simp)
    have h1 : r.length ≤ (l'.erase x).length := nodup_len nd'.2 fun y hy => by
      have hne : y ≠ x := fun e => nd'.1 (e ▸ hy)
      exact (List.mem_erase_of_ne hne).mpr (h y (by simp [hy]))
    have h2 := List.length_erase_of_mem hx
    have h3 : 0 < l'.length := List.length_pos_of_mem hx
    rw [List.length_cons]
    omega
end
end WP

set_option Elab.async false
set_option linter.all false
set_option maxRecDepth 100000
set_option maxHeartbeats 4000000
/-! Rules of our own that the layer lacks: a chain of three comparisons, enumerate of a tuple, in, min, sorted over data with a Lean type, sorted by a key. -/
namespace WR
open PySem PySem.Spec PyProof.Rows L2

/-! ### data with a Lean type, in the abstract heap -/
/-- the tuples stay -/
def Tups (H H' : Hp) : Prop := ∀ b xs, H b = some (.tup xs) → H' b = some (.tup xs)
theorem Tups.refl (H : Hp) : Tups H H := fun _ _ h => h
theorem Tups.trans {H H1 H2 : Hp} (a : Tups H H1) (b : Tups H1 H2) : Tups H H2 := fun c o h => b c o (a c o h)
theorem Tups.of {H H' : Hp} (s : Same H H') : Tups H H' := fun b xs h => s b _ h
/-- a new object, or one that is no tuple, is laid -/
theorem Tups.new {H : Hp} {a : Addr} {o : HO} (h : H a = none) : Tups H (upd H a o) := fun b xs e => by
  rw [upd_ne (ne_of_none e h)]
  exact e
theorem Tups.set {H : Hp} {a : Addr} {o u : HO} (h : H a = some u) (hu : ∀ xs, u ≠ .tup xs) : Tups H (upd H a o) := fun b xs e => by
  rw [upd_ne (ne_of e h fun z => hu xs z.symm)]
  exact e
theorem Same.new {H : Hp} {a : Addr} {o : HO} (h : H a = none) : Same H (upd H a o) := fun b u e => by
  rw [upd_ne (ne_of_none e h)]
  exact e

class HV (α : Type) [DecidableEq α] [PySem.W.Datum α] where
  hv : Hp → V → α → Prop
  up : ∀ {H H' : Hp} {v : V} {x : α}, Tups H H' → hv H v x → hv H' v x
  sound : ∀ {X : Cx} {pins : List (Addr × Obj)} {σ : L2.St} {H : Hp} {s : Shared} {v : V} {u : Value} {x : α}, Inv X pins σ H s → RelV v u → hv H v x → PySem.W.Holds s.heap u x
instance : HV Int where
  hv := fun _ v x => v = .int x
  up := fun _ h => h
  sound := fun I r h => by
    subst h
    obtain ⟨t, rfl⟩ := r
    exact PySem.W.holds_int _ _
instance : HV Str where
  hv := fun _ v x => v = .str x
  up := fun _ h => h
  sound := fun I r h => by
    subst h
    obtain ⟨t, rfl⟩ := r
    exact PySem.W.holds_str _ _
instance {α β : Type} [DecidableEq α] [PySem.W.Datum α] [HV α] [DecidableEq β] [PySem.W.Datum β] [HV β] : HV (α × β) where
  hv := fun H v x => ∃ a p q, v = .ref a ∧ H a = some (.tup [p, q]) ∧ HV.hv H p x.1 ∧ HV.hv H q x.2
  up := fun t h => by
    obtain ⟨a, p, q, e, ha, h1, h2⟩ := h
    exact ⟨a, p, q, e, t _ _ ha, HV.up t h1, HV.up t h2⟩
  sound := fun I r h => by
    obtain ⟨a, p, q, rfl, ha, h1, h2⟩ := h
    cases r
    obtain ⟨_, its, rv, ht⟩ := I.hok a _ ha
    obtain ⟨u1, u2, rfl, r1, r2⟩ := vals2 rv
    exact PySem.W.holds_pair ht (HV.sound I r1 h1) (HV.sound I r2 h2)

section
variable {α : Type} [DecidableEq α] [PySem.W.Datum α] [HV α]
theorem hvs_up {H H' : Hp} (t : Tups H H') {vs : List V} {xs : List α} (h : Paired (HV.hv H) vs xs) : Paired (HV.hv H') vs xs := Paired.mapP h fun _ _ z => HV.up t z
theorem holdAll {X : Cx} {pins : List (Addr × Obj)} {σ : L2.St} {H : Hp} {s : Shared} (I : Inv X pins σ H s) : ∀ {vs : List V} {us : List Value} {xs : List α}, Vals vs us → Paired (HV.hv H) vs xs → PySem.W.HoldAll s.heap us xs
  | _, _, _, .nil, .nil => PySem.W.HoldAll.nil
  | _, _, _, .cons r t, .cons h k => PySem.W.HoldAll.cons (HV.sound I r h) (holdAll I t k)
theorem toD_inj {x y : α} (h : PySem.W.Datum.toD x = PySem.W.Datum.toD y) : x = y := by
  have e := PySem.W.Datum.eqv x y
  rw [← h, PySem.W.Datum.eqv x x] at e
  simpa using e.symm
theorem holds_inj {h : Heap} {v : Value} {x y : α} (hx : PySem.W.Holds h v x) (hy : PySem.W.Holds h v y) : x = y := by
  obtain ⟨as, r⟩ := hx
  obtain ⟨bs, q⟩ := hy
  exact toD_inj (PySem.Reads.unique r _ _ q).1
theorem paired_strs {H : Hp} : ∀ ss : List Str, Paired (HV.hv H) (ss.map V.str) ss
  | [] => .nil
  | s :: ss => .cons rfl (paired_strs ss)
theorem of_paired_strs {H : Hp} : ∀ {vs : List V} {ss : List Str}, Paired (HV.hv H) vs ss → vs = ss.map V.str
  | _, _, .nil => rfl
  | _, _, .cons h t => by
    have h' := of_paired_strs t
    rw [List.map_cons, ← h']
    exact congrArg (· :: _) h
end
theorem Paired.mem {α β : Type} {F : α → β → Prop} : ∀ {xs : List α} {ys : List β} {x : α}, Paired F xs ys → x ∈ xs → ∃ y, y ∈ ys ∧ F x y
  | _, _, _, .cons r t, h => by
    rcases List.mem_cons.mp h with rfl | h
    · exact ⟨_, by simp, r⟩
    · obtain ⟨y, hy, q⟩ := Paired.mem t h
      exact ⟨y, by simp [hy], q⟩
theorem Paired.mem' {α β : Type} {F : α → β → Prop} : ∀ {xs : List α} {ys : List β} {y : β}, Paired F xs ys → y ∈ ys → ∃ x, x ∈ xs ∧ F x y
  | _, _, _, .cons r t, h => by
    rcases List.mem_cons.mp h with rfl | h
    · exact ⟨_, by simp, r⟩
    · obtain ⟨y, hy, q⟩ := Paired.mem' t h
      exact ⟨y, by simp [hy], q⟩
theorem Paired.app {α β : Type} {F : α → β → Prop} : ∀ {xs : List α} {ys : List β} {xs' : List α} {ys' : List β}, Paired F xs ys → Paired F xs' ys' → Paired F (xs ++ xs') (ys ++ ys')
  | _, _, _, _, .nil, s => s
  | _, _, _, _, .cons r t, s => .cons r (Paired.app t s)
theorem Paired.one {α β : Type} {F : α → β → Prop} {x : α} {y : β} (h : F x y) : Paired F [x] [y] := .cons h .nil
theorem Paired.tk {α β : Type} {F : α → β → Prop} : ∀ {xs : List α} {ys : List β} (n : Nat), Paired F xs ys → Paired F (xs.take n) (ys.take n)
  | _, _, 0, _ => .nil
  | _, _, _ + 1, .nil => .nil
  | _, _, n + 1, .cons r t => .cons r (Paired.tk n t)
theorem Paired.dp {α β : Type} {F : α → β → Prop} : ∀ {xs : List α} {ys : List β} (n : Nat), Paired F xs ys → Paired F (xs.drop n) (ys.drop n)
  | _, _, 0, r => r
  | _, _, _ + 1, .nil => .nil
  | _, _, n + 1, .cons _ t => Paired.dp n t
theorem Paired.at {α β : Type} {F : α → β → Prop} : ∀ {xs : List α} {ys : List β} {i : Nat} {x : α}, Paired F xs ys → xs[i]? = some x → ∃ y, ys[i]? = some y ∧ F x y
  | _, _, _, _, .nil, e => by simp at e
  | _, _, 0, _, .cons r _, e => by simp at e; subst e; exact ⟨_, rfl, r⟩
  | _, _, i + 1, x, .cons _ t, e => by
    obtain ⟨u, h1, h2⟩ := Paired.at (i := i) (x := x) t (by simpa using e)
    exact ⟨u, by simpa using h1, h2⟩
theorem Paired.at' {α β : Type} {F : α → β → Prop} : ∀ {xs : List α} {ys : List β} {i : Nat} {y : β}, Paired F xs ys → ys[i]? = some y → ∃ x, xs[i]? = some x ∧ F x y
  | _, _, _, _, .nil, e => by simp at e
  | _, _, 0, _, .cons r _, e => by simp at e; subst e; exact ⟨_, rfl, r⟩
  | _, _, i + 1, x, .cons _ t, e => by
    obtain ⟨u, h1, h2⟩ := Paired.at' (i := i) (y := x) t (by simpa using e)
    exact ⟨u, by simpa using h1, h2⟩

/-! ### x in l, x not in l -/
section
variable {X : Cx}
def rInH (α : Type) [DecidableEq α] [PySem.W.Datum α] [HV α] (K : PySem.W.Frag) (neg : Bool) : R2 := fun v y H Q => ∃ (p : Addr) (vs : List V) (xs : List α) (x : α), y = .ref p ∧ (SqL K H p vs ∨ SqT K H p vs) ∧ Paired (HV.hv H) vs xs ∧ HV.hv H v x ∧
  Q (.bl (if neg then decide (x ∉ xs) else decide (x ∈ xs))) H
theorem op_inH {α : Type} [DecidableEq α] [PySem.W.Datum α] [HV α] (hu : X.A.units + 1 + PySem.W.Datum.depth α < cLine) : OpR X (compareOp .In) (rInH α X.K false) := by
  intro pins s σ H v y u w Q I rx ry h
  obtain ⟨p, vs, xs, x, rfl, hs, hp, hx, q⟩ := h
  cases ry
  have fin : EP X pins σ Q (.bool (decide (x ∈ xs))) s := ⟨.bl _, H, I, rfl, q⟩
  rcases hs with hs | hs
  · obtain ⟨its, rv, pl, _⟩ := I.list hs
    exact PySem.W.in_list_datum pl.isList (holdAll I rv hp) (HV.sound I rx hx) hu fin
  · obtain ⟨its, rv, pl, _⟩ := I.tuple hs
    exact PySem.W.in_tuple_datum pl (holdAll I rv hp) (HV.sound I rx hx) hu fin
theorem op_notInH {α : Type} [DecidableEq α] [PySem.W.Datum α] [HV α] (hu : X.A.units + 1 + PySem.W.Datum.depth α < cLine) : OpR X (compareOp .NotIn) (rInH α X.K true) := by
  intro pins s σ H v y u w Q I rx ry h
  obtain ⟨p, vs, xs, x, rfl, hs, hp, hx, q⟩ := h
  cases ry
  have fin : EP X pins σ Q (.bool (decide (x ∉ xs))) s := ⟨.bl _, H, I, rfl, q⟩
  rcases hs with hs | hs
  · obtain ⟨its, rv, pl, _⟩ := I.list hs
    exact PySem.W.notIn_list_datum pl.isList (holdAll I rv hp) (HV.sound I rx hx) hu fin
  · obtain ⟨its, rv, pl, _⟩ := I.tuple hs
    exact PySem.W.notIn_tuple_datum pl (holdAll I rv hp) (HV.sound I rx hx) hu fin

/-! ### min of a list of pairs (int, text) -/
theorem minOf_le : ∀ (xs : List (Int × Str)) (x : Int × Str), (PySem.W.minOf x xs ∈ x :: xs) ∧ ∀ y ∈ x :: xs, (PySem.W.minOf x xs).1 ≤ y.1
  | [], x => ⟨by simp [PySem.W.minOf], fun y hy => by simp at hy; subst hy; exact Int.le_refl _⟩
  | z :: xs, x => by
    have e : PySem.W.minOf x (z :: xs) = PySem.W.minOf (if PySem.W.DatumOrd.lt z x = true then z else x) xs := rfl
    obtain ⟨h1, h2⟩ := minOf_le xs (if PySem.W.DatumOrd.lt z x = true then z else x)
    rw [e]
    have h3 := h2 _ (by simp : (if PySem.W.DatumOrd.lt z x = true then z else x) ∈ _ :: xs)
    have hlt : (PySem.W.DatumOrd.lt z x = true → z.1 ≤ x.1) ∧ (¬ PySem.W.DatumOrd.lt z x = true → x.1 ≤ z.1) := by
      have ed : PySem.W.DatumOrd.lt z x = (if z.1 = x.1 then PySem.W.DatumOrd.lt z.2 x.2 else decide (z.1 < x.1)) := rfl
      rw [ed]
      by_cases q : z.1 = x.1
      · rw [if_pos q]
        exact ⟨fun _ => by omega, fun _ => by omega⟩
      · rw [if_neg q, decide_eq_true_eq]
        exact ⟨fun _ => by omega, fun _ => by omega⟩
    refine ⟨?_, fun y hy => ?_⟩
    · rcases List.mem_cons.mp h1 with h | h
      · rw [h]
        split <;> simp
      · simp [h]
    · by_cases c : PySem.W.DatumOrd.lt z x = true
      · rw [if_pos c] at h2 h3 ⊢
        have := hlt.1 c
        rcases List.mem_cons.mp hy with rfl | hy
        · omega
        · exact h2 y hy
      · rw [if_neg c] at h2 h3 ⊢
        have := hlt.2 c
        rcases List.mem_cons.mp hy with rfl | hy
        · exact h3
        · rcases List.mem_cons.mp hy with rfl | hy
          · omega
          · exact h2 y (by simp [hy])
def rMinP (K : PySem.W.Frag) : List V → Hp → VK → Prop := fun vs H Q => ∃ (a : Addr) (us : List V) (xs : List (Int × Str)), vs = [V.ref a] ∧ SqL K H a us ∧ Paired (HV.hv H) us xs ∧ xs ≠ [] ∧
  ∀ v x, v ∈ us → x ∈ xs → HV.hv H v x → (∀ y ∈ xs, x.1 ≤ y.1) → Q v H
theorem cr_minP (hc : X.calm = true) (hu : X.A.units + 1 + PySem.W.Datum.depth (Int × Str) < cLine) : CallR X (.builtin "min") (rMinP X.K) := by
  intro pins s σ H vs us Q I r h
  obtain ⟨a, ws, xs, rfl, hs, hp, hne, q⟩ := h
  obtain ⟨its, rv, hl, _⟩ := I.list hs
  rw [Vals.ref1 r]
  cases xs with
  | nil => exact absurd rfl hne
  | cons y ys =>
    refine PySem.W.min_list_datum (I.ok.hd hc) hl.isList (holdAll I rv hp) hu fun i v h' tk hi hm hk => ?_
    have hi' : its[i]? = some v := by simpa using hi
    obtain ⟨w, hw, rw'⟩ : ∃ w, ws[i]? = some w ∧ RelV w v := Paired.at' rv hi'
    obtain ⟨x, hx, hv⟩ := Paired.at hp hw
    have e : x = PySem.W.minOf y ys := holds_inj ((HV.sound I rw' hv).keeps hk) hm
    obtain ⟨m1, m2⟩ := minOf_le ys y
    exact ⟨w, H, I.kept hk, rw', q w x (List.mem_of_getElem? hw) (List.mem_of_getElem? hx) hv (by rw [e]; exact m2)⟩

/-! ### sorted of data -/
/-- the items that came out, by their values -/
theorem each_out {β : Type} {P : V → β → Prop} : ∀ {out : List Value} {bs : List β}, PySem.W.EachIs (fun v b => ∃ z, RelV z v ∧ P z b) out bs → ∃ us, Vals us out ∧ Paired P us bs
  | _, _, .nil => ⟨[], .nil, .nil⟩
  | _, _, .cons h t => by
    obtain ⟨z, r, p⟩ := h
    obtain ⟨us, r', p'⟩ := each_out t
    exact ⟨z :: us, .cons r r', .cons p p'⟩
theorem each_in {β : Type} {P : V → β → Prop} : ∀ {us : List V} {vs : List Value} {bs : List β}, Vals us vs → Paired P us bs → PySem.W.EachIs (fun v b => ∃ z, RelV z v ∧ P z b) vs bs
  | _, _, _, .nil, .nil => .nil
  | _, _, _, .cons r t, .cons p q => .cons ⟨_, r, p⟩ (each_in t q)
def rSortedH (α : Type) [DecidableEq α] [PySem.W.Datum α] [HV α] (K : PySem.W.Frag) : List V → Hp → VK → Prop := fun vs H Q => ∃ (a : Addr) (us : List V) (xs : List α), vs = [V.ref a] ∧ SqL K H a us ∧ Paired (HV.hv H) us xs ∧
  ∀ (us' : List V) (xs' : List α) (p : Addr), Paired (HV.hv H) us' xs' → xs'.Perm xs → H p = none → Q (.ref p) (upd H p (.lst us'))
theorem cr_sortedH {α : Type} [DecidableEq α] [PySem.W.DatumOrd α] [HV α] (hk : ∀ xs : List α, PySem.W.Sortable (xs.map PySem.W.Datum.toD)) (hu : X.A.units + 2 + PySem.W.Datum.depth α < cLine) : CallR X (.builtin "sorted") (rSortedH α X.K) := by
  intro pins s σ H vs us Q I r h
  obtain ⟨a, ws, xs, rfl, hs, hp, q⟩ := h
  obtain ⟨its, rv, hl, hz⟩ := I.list hs
  rw [Vals.ref1 r]
  have e1 := each_in rv hp
  have hlen : its.length = xs.length := e1.length
  have hrl := rv.length
  refine PySem.W.sorted_data (enc := PySem.W.Datum.toD) hl.isList e1 (e1.mono fun v b ⟨z, rz, hz⟩ => HV.sound I rz hz) (fun x hx y hy => ?_) (hk xs) (by omega) (fun b _ => ?_) fun out hol ho => ?_
  · obtain ⟨x', _, rfl⟩ := List.mem_map.mp hx
    obtain ⟨y', _, rfl⟩ := List.mem_map.mp hy
    exact PySem.W.DatumOrd.alike x' y'
  · have := PySem.W.Datum.depth_le b
    omega
  · obtain ⟨us', r', p'⟩ := each_out ho
    obtain ⟨ep, he'⟩ := PyProof.Rows.sortedAll_at s.heap its out.toArray
    have hul : us'.length ≤ sizeLine := by
      rw [r'.length, hol, ← hlen, ← hrl]
      exact hz
    exact ⟨.ref _, upd H (s.heap.objs.size + 1) (.lst us'), I.laid (t' := s.toks) (fun _ _ => PyProof.Rows.sortedAll_old) (Nat.le_succ _) ⟨hul, out, ep, r', he'⟩, rfl, q us' _ _ p' (List.mergeSort_perm _ _) (I.hok.fresh (Nat.le_succ _))⟩
theorem sortable_strs (xs : List Str) : PySem.W.Sortable (xs.map PySem.W.Datum.toD) := PySem.W.Sortable.others (enc := fun b : Str => PySem.W.Datum.toD b) fun b => ⟨fun e => (by cases e), fun ys e => (by cases e)⟩
theorem sortable_pairs {α β : Type} [DecidableEq α] [PySem.W.Datum α] [DecidableEq β] [PySem.W.Datum β] (xs : List (α × β)) : PySem.W.Sortable (xs.map PySem.W.Datum.toD) := PySem.W.Sortable.tuples (enc := fun b : α × β => PySem.W.Datum.toD b) fun b => ⟨_, _, rfl⟩
end
end WR

set_option Elab.async false
set_option linter.all false
set_option maxRecDepth 100000
set_option maxHeartbeats 4000000
/-! More rules of our own. -/
namespace PySem
open Sem (wp)
open AutoSeq1 (wpAny_loadPart')
theorem WR_meets_enumerate_newT (l : Addr) (items : Array Value) (n : Nat) (dct : Option Addr) (sl : Array (Option Value)) :
    Meets (Builtin.«enumerate.__new__» ⟨[.type "enumerate", .ref l], []⟩) (fun _ R s => s.heap.get? l = some { cls := .type "tuple", dict := dct, data := .seq items n, slots := sl } ∧
      R (.ok (.ret (.ref (s.heap.push { cls := .type "tuple_iterator", data := .fields #[.ref l, .int 0 0] }).objs.size)))
        { s with heap := (s.heap.push { cls := .type "tuple_iterator", data := .fields #[.ref l, .int 0 0] }).push { cls := .type "enumerate", data := .fields #[.none, .bool false, .ref s.heap.objs.size, rawInt 0, .none, .none] } }) :=
  .of_wp fun prog w A R s h => by
    obtain ⟨hp, g, d, tk, os⟩ := s; obtain ⟨hl, h⟩ := h
    have hsub := sub_enumerate
    have hL : Heap.IsTuple (Shared.heap ⟨hp, g, d, tk, os⟩) l items := ⟨_, hl, rfl, n, rfl⟩
    wp_walk using wpAny_loadPart' hl
    refine wpAny_stack_any fun st => wpAny_pure ?_
    split
    · rename_i c _ _ _ _ _
      cases (c == Value.type "enumerate")
      · wp_walk using wpAny_loadPart' hl, wpAny_pyIter_tuple hL
        exact ⟨_, rfl, h⟩
      · wp_walk using wpAny_loadPart' hl, wpAny_pyIter_tuple hL
        exact ⟨_, rfl, h⟩
    · wp_walk using wpAny_loadPart' hl, wpAny_pyIter_tuple hL
      exact ⟨_, rfl, h⟩
section
variable {prog : Program} {w : World} {A : Around} {E : Value → Shared → Prop} {s : Shared}
theorem WR_call_enumerate_tuple {l : Addr} {items : Array Value} {Q : Value → Shared → Prop} (hL : s.heap.IsTuple l items)
    (h : ∀ h', IsEnum h' (s.heap.objs.size + 1) s.heap.objs.size 0 .none → h'.IsTupleIter s.heap.objs.size l 0 → h'.objs.size = s.heap.objs.size + 2 →
      (∀ b o, s.heap.get? b = some o → h'.get? b = some o) → Q (.ref (s.heap.objs.size + 1)) { s with heap := h' }) :
    wpAny (model prog w) A (call (.type "enumerate") [.ref l]) Q E s := by
  obtain ⟨⟨c, dct, dt, sl⟩, hl, hc, n, hd⟩ := hL
  replace hc : c = .type "tuple" := hc
  replace hd : dt = .seq items n := hd
  subst hc hd
  refine callType_new F.called_enumerate (by decide) (F.typeCall_enumerate_1 _) (F.newCall_enumerate_1 _) (fun obj => F.args_object_init_2 obj _) F.entry_enumerate_new
    (WR_meets_enumerate_newT l items n dct sl) ⟨hl, ?_⟩
  have hz : (s.heap.push { cls := .type "tuple_iterator", data := .fields #[.ref l, .int 0 0] }).objs.size = s.heap.objs.size + 1 := Heap.size_push ..
  show _ ∧ _
  rw [hz]
  have he : IsEnum ((s.heap.push { cls := .type "tuple_iterator", data := .fields #[.ref l, .int 0 0] }).push
      { cls := .type "enumerate", data := .fields #[.none, .bool false, .ref s.heap.objs.size, rawInt 0, .none, .none] }) (s.heap.objs.size + 1) s.heap.objs.size 0 .none := by
    have := Heap.get?_push_size (s.heap.push { cls := .type "tuple_iterator", data := .fields #[.ref l, .int 0 0] })
      (o := { cls := .type "enumerate", data := .fields #[.none, .bool false, .ref s.heap.objs.size, rawInt 0, .none, .none] }) rfl
    rw [hz] at this; exact this
  refine ⟨⟨_, he, rfl⟩, h _ he ⟨_, Heap.get?_push_of_some _ (Heap.get?_push_size _ rfl), rfl, rfl⟩ (by rw [Heap.size_push, hz]) fun b o x => Heap.get?_push_of_some _ (Heap.get?_push_of_some _ x)⟩
end
end PySem

namespace WR
open PySem PySem.Spec PyProof.Rows L2

/-! ### a op1 b op2 c op3 d -/
def tChain3 (r1 r2 r3 : R2) (ta tb tc td : TE) : TE := fun σ H Q => ta σ H fun x H1 => tb σ H1 fun y H2 => r1 x y H2 fun z H3 => ∃ k, z = .bl k ∧
  (if k = true then tc σ H3 fun w H4 => r2 y w H4 fun z2 H5 => ∃ k2, z2 = .bl k2 ∧ (if k2 = true then td σ H5 fun v H6 => r3 w v H6 Q else Q (.bl false) H5) else Q (.bl false) H3)
theorem pt_chain3 {X : Cx} {a b c d : Expr} {pos : Pos} {ta tb tc td : TE} {op op' op'' : CmpOp} {r r' r'' : R2} (ho : OpR X (compareOp op) r) (ho' : OpR X (compareOp op') r') (ho'' : OpR X (compareOp op'') r'') (ha : PE X a ta) (hb : PE X b tb) (hc : PE X c tc) (hd : PE X d td)
    (hm : lastMarks [op, op', op''] [b, c, d] = false := by with_unfolding_all rfl) : PT X (.Compare a [op, op', op''] [b, c, d] pos) (tTest (tChain3 r r' r'' ta tb tc td)) := by
  refine ⟨fun pins s σ H Q I h => ?_⟩
  refine isTrue_chain (thn (ha.run pins s σ H _ I h) fun v s1 ⟨x, H1, I1, r1, q1⟩ => test_link (thn (hb.run pins s1 σ H1 _ I1 q1) fun u s2 ⟨y, H2, I2, r2, q2⟩ =>
    thn (ho pins s2 σ H2 x y v u _ I2 r1 r2 q2) fun d1 s3 ⟨z, H3, I3, r3, k, e, q3⟩ => ?_)) hm
  subst e
  cases r3
  refine wpAny_truthy_bool ?_
  cases k with
  | false =>
    obtain ⟨k', e', q'⟩ := q3
    cases e'
    exact ite_ff ⟨H3, I3, q'⟩
  | true =>
    refine ite_tt ?_
    show wpAny _ _ (testChain pos u (op' :: op'' :: []) (eval c X.env :: eval d X.env :: [])) _ _ _
    refine test_link (thn (hc.run pins s3 σ H3 _ I3 q3) fun w' s4 ⟨z', H4, I4, r4, q4⟩ => thn (ho' pins s4 σ H4 y z' u w' _ I4 r2 r4 q4) fun d' s5 ⟨z2, H5, I5, r5, k2, e2, q5⟩ => ?_)
    subst e2
    cases r5
    refine wpAny_truthy_bool ?_
    cases k2 with
    | false =>
      obtain ⟨k', e', q'⟩ := q5
      cases e'
      exact ite_ff ⟨H5, I5, q'⟩
    | true =>
      refine ite_tt (test_last (thn (hd.run pins s5 σ H5 _ I5 q5) fun w6 s6 ⟨z6, H6, I6, r6, q6⟩ => thn (ho'' pins s6 σ H6 z' z6 w' w6 _ I6 r4 r6 q6) fun d7 s7 ⟨z7, H7, I7, r7, k7, e7, q7⟩ => ?_))
      subst e7
      cases r7
      exact wpAny_truthy_bool ⟨H7, I7, q7⟩

/-! ### enumerate(tuple) -/
def IteT (K : PySem.W.Frag) (a : Addr) : It :=
  ⟨fun i H => ∃ (xs : List V) (x : V), SqT K H a xs ∧ xs[i]? = some x, fun i H v H' => ∃ T x, v = .ref T ∧ H T = none ∧ H' = upd H T (.tup [.int (i : Nat), x]) ∧ ∀ xs, SqT K H a xs → xs[i]? = some x, fun i H => ∃ xs : List V, SqT K H a xs ∧ xs.length = i⟩
theorem turn_enumT {P : Program} {w : World} {K : PySem.W.Frag} {elts : List Expr} {kk : Nat} {tpos : Pos} (a e it : Addr) (hea : e ≠ a) (hai : a ≠ it) :
    Turn P w K (.Tuple elts kk tpos) (IteT K a) [e, it] e (fun i h => (∃ old, IsEnum h e it ((i : Nat) : Int) old) ∧ h.IsTupleIter it a i ∧ e ≠ it) where
  mem := by simp
  obj := fun i h st b hb => by
    obtain ⟨⟨old, he⟩, ⟨o, ho, hc, hd⟩, _⟩ := st
    have e' : b = e ∨ b = it := by simpa using hb
    rcases e' with z | z
    · rw [z]; exact ⟨_, he, fun v q => nomatch q⟩
    · rw [z]; exact ⟨o, ho, fun v q => by rw [hd] at q; cases q⟩
  keep := fun i h h' st k => let ⟨⟨old, he⟩, hi, hne⟩ := st; ⟨⟨old, k e (by simp) _ he⟩, hi.at fun o q => k it (by simp) o q, hne⟩
  item := by
    intro X hP hw hK hc i pins s σ H E I hf st hg
    subst hP hw hK
    obtain ⟨⟨old, he⟩, hit, hne⟩ := st
    obtain ⟨xs, x, hq, hx⟩ := hg
    obtain ⟨its, rv, p, hz⟩ := I.tuple hq
    obtain ⟨u, hu, ru⟩ := rv.get hx
    have hel : e < s.heap.objs.size := Heap.lt_size he
    have hil : it < s.heap.objs.size := by obtain ⟨_, q, _⟩ := hit; exact Heap.lt_size q
    have hlt : i < its.toArray.size := by
      have := (List.getElem?_eq_some_iff.mp hu).1
      simpa using this
    have D := Draws.tuple (prog := X.prog) (w := X.w) (A := X.A.in1) (I.ok.hd hc) it a hai its.toArray
    refine wpAny_pyNext_enum_itemD D he ⟨hit, p⟩ hlt hne (by simp only [List.mem_cons, List.not_mem_nil, or_false, not_or]; exact ⟨hne, hea⟩) fun x' h' tk hx' ho hit' hT hsz hk => ?_
    have ex : x' = u := by
      have h1 : its.toArray[i]? = some x' := hx'
      rw [List.getElem?_toArray, hu] at h1
      exact (Option.some.inj h1).symm
    subst ex
    refine ⟨_, rfl, wpAny_letOwnedTupleGo_enum (s := { s with heap := h', toks := tk + 1 }) ho fun h'' he' sb => ?_⟩
    have hT2 : h''.get? s.heap.objs.size = some { cls := .type "tuple", data := .seq #[.int i tk, x'] } := (sb.2 _ (Nat.ne_of_gt hel)).trans hT
    have new : ObjOk X.prog X.w (upd H s.heap.objs.size (.tup [.int (i : Nat), x])) h'' s.heap.objs.size (.tup [.int (i : Nat), x]) :=
      ⟨by show 2 ≤ sizeLine; decide, [.int i tk, x'], .cons ⟨_, rfl⟩ (.cons ru .nil), ⟨_, hT2, rfl, _, rfl⟩⟩
    have I1 : Inv X pins σ (upd H s.heap.objs.size (.tup [.int (i : Nat), x])) { s with heap := h'', toks := tk + 1 } :=
      I.turnedNew (ch := [e, it]) (fun b ob hb q => (sb.2 b (fun z => hb (by simp [z]))).trans (hk b ob (fun z => hb (by simp [z])) (fun z => hb (by simp [z])) q)) hf (Nat.le_refl _) new
    refine ⟨.ref s.heap.objs.size, _, I1, rfl, ⟨_, x, rfl, I.hok.fresh (Nat.le_refl _), rfl, fun ys hy => by rw [I.tuple_inj hy hq]; exact hx⟩, ⟨⟨x', ?_⟩, hit'.1.at fun o q => (sb.2 it (Ne.symm hne)).trans q, hne⟩, fun b hb => ?_⟩
    · have e1 : ((i + 1 : Nat) : Int) = (i : Int) + 1 := by omega
      rw [e1]; exact he'
    · have hb' : b < s.heap.objs.size := by
        have e' : b = e ∨ b = it := by simpa using hb
        rcases e' with z | z
        · rw [z]; exact hel
        · rw [z]; exact hil
      rw [upd_ne (Nat.ne_of_lt hb')]
      exact (hf b hb).1
  done := by
    intro X hP hw hK hc i pins s σ H E I hf st hg
    subst hP hw hK
    obtain ⟨⟨old, he⟩, hit, hne⟩ := st
    obtain ⟨xs, hq, hx⟩ := hg
    obtain ⟨its, rv, p, hz⟩ := I.tuple hq
    obtain ⟨f0, f1, f2, f3, f4, f5⟩ := hf it (by simp)
    have hl := rv.length
    have D := Draws.tuple (prog := X.prog) (w := X.w) (A := X.A.in1) (I.ok.hd hc) it a hai its.toArray
    have e2 : i = its.toArray.size := by rw [List.size_toArray]; omega
    subst e2
    exact wpAny_pyNext_enum_endD D he ⟨hit, p⟩ fun h' eb => ⟨rfl, I.turned (t' := s.toks) (fun b o hb q => eb b o hb q) f0 f1 f3 f4 f5⟩
  self := fun A i s Q E st h => let ⟨⟨_, he⟩, _⟩ := st; wpAny_pyIter_enum he h
def iEnumT (K : PySem.W.Frag) (ta : TA) : TI := fun σ H R => ta σ H fun vs H1 => ∃ a xs, vs = [.ref a] ∧ SqT K H1 a xs ∧ R (IteT K a) H1
theorem pi_enumT {X : Cx} {e : Expr} {ta : TA} {p pos tpos : Pos} {elts : List Expr} {kk : Nat} (hg : Gl X "enumerate") (hm : X.mg "enumerate" = none) (ha : PA X [e] ta) (hs : starEach [e] X.env = [(false, eval e X.env)] := by rfl) :
    PI X (.Tuple elts kk tpos) (.Call (.Name "enumerate" p) [e] [] pos) (iEnumT X.K ta) := by
  refine ⟨fun pins s σ H R I h => ?_⟩
  refine Call_ (ld_blt I hg hm boot_enumerate (PyProof.Rows.callWith_type1 (thn (ha.run pos pins s σ H _ I h) fun us s1 ⟨vs, H1, I1, r1, q1⟩ => ?_) hs rfl))
  obtain ⟨a, xs, ex, hq, q⟩ := q1
  subst ex
  cases r1 with
  | cons r rr =>
    cases rr
    cases r
    obtain ⟨its, rv, p', hz⟩ := I1.tuple hq
    have hal : a < s1.heap.objs.size := p'.lt
    refine WR_call_enumerate_tuple p' fun h' he hit hsz hk => wpAny_pyIter_enum he ?_
    have I2 : Inv X pins σ H1 { s1 with heap := h' } := I1.kept (t' := s1.toks) hk
    refine ⟨s1.heap.objs.size + 1, [s1.heap.objs.size + 1, s1.heap.objs.size], _, _, H1, rfl, I2, turn_enumT a (s1.heap.objs.size + 1) s1.heap.objs.size (Nat.ne_of_gt (Nat.lt_succ_of_lt hal)) (Nat.ne_of_lt hal), ⟨⟨.none, he⟩, hit, Nat.succ_ne_self _⟩, fun b hb => ?_, q⟩
    have e' : b = s1.heap.objs.size + 1 ∨ b = s1.heap.objs.size := by simpa using hb
    have hle : s1.heap.objs.size ≤ b := by
      rcases e' with z | z
      · rw [z]; exact Nat.le_add_right _ _
      · rw [z]; exact Nat.le_refl _
    exact I1.fpOk hle (I1.hok.fresh hle)
theorem walk_enumT {K : PySem.W.Frag} {a : Addr} {xs : List V} : Walk (IteT K a) xs.length (fun H => SqT K H a xs) (YPair (fun i => some (.int (i : Nat))) (fun i => xs[i]?)) := by
  refine ⟨fun i _ hi q => ⟨xs, xs[i], q, by simp [hi]⟩, fun _ q => ⟨xs, q, rfl⟩, fun i H v H' _ q y => ?_⟩
  obtain ⟨T, x, h1, h2, h3, h4⟩ := y
  exact ⟨T, .int (i : Nat), x, h1, h2, h3, rfl, h4 xs q⟩

/-! ### a def of the text that gives its argument's first item, called from the machine -/
theorem call_first {P : Program} {w : World} {K : PySem.W.Frag} {f : Addr} {x qual p : Str} {st : Stmt} {fd : FuncData} {pos1 pos2 pos3 pos4 : Pos} {kk : Nat} (F : Fun K x qual st f fd) (S : FnScope [p] [p] (defScope st)) (hl : (defScope st).names.lookup p = some .local)
    (hb : defBody st = [.Return (some (.Subscript (.Name p pos1) (.Constant (.int 0) kk pos2) pos3)) pos4]) (bd : Binds K fd [p] []) (hd1 : (p == ("__debug__" : Str)) = false) {A : Around} {s : Shared} {a : Addr} {its : List Value} {n : Str} {t : Tok}
    (KX : K.In s.heap) (lim : s.heap.NoLimit) (dep : A.depth < recursionLimit) (hd : A.handled = none) (ht : IsTup s.heap a its.toArray) (h0 : its[0]? = some (.str n t)) (hz : its.length < 2 ^ 63) :
    wpAny (model P w) A (call (.ref f) [.ref a]) (PySem.W.KeyPure (.str n) s) (fun _ _ => False) s := by
  obtain ⟨oc, od, kV, doc, pm, an, cdv, ct, osl, rfl, lk, hcd⟩ := F.ex
  have hkind : ∀ y ∈ [p].zip [Value.ref a], (defScope st).names.lookup y.1 = some .local ∨ ((defScope st).names.lookup y.1 = some .cell ∧ ((cellsFrom (s.heap.objs.size + 1) (defScope st).names []).lookup y.1).isSome = true) := fun y hy => by
    have e : y = (p, Value.ref a) := by simpa using hy
    subst e
    exact .inl hl
  refine wpAny_call (codeAny_call_function dep (KX _ _ lk) rfl S.co S.gen rfl (PySem.W.codeRec_of KX hcd) ?_)
  refine bd s [.ref a] KX rfl _ _ _ _ ?_
  show wpAny _ _ _ _ _ _
  refine wpAny_newFunctionEnv_cells S.kind hkind fun env he s1 x => ?_
  subst he
  refine ⟨lim.keeps x.toInCall.keep, codeAny_func ?_⟩
  obtain ⟨h1, tk, rfl, hk⟩ := x.done
  have hm : bindL (envOfC qual (defScope st) s.heap.objs.size f cdv).kindOf ([p].zip [Value.ref a]) (fun _ => none) p = some (.ref a) := by
    exact bindL_get (i := 0) (by simp) rfl rfl hl
  have ht1 : IsTup h1 a its.toArray := by
    obtain ⟨o, e, c, m, d⟩ := ht
    exact ⟨o, hk _ _ e, c, m, d⟩
  show wpAny _ _ (execs (defBody st) _) _ _ _
  rw [hb]
  refine wpAny_execs_cons (wpAny_Return_some (Subscript_ (wpAny_Name (wpAny_loadName_local S.kind hl x.toInCall.ns hm ?_) hd1)))
  refine wpAny_Constant_int ?_
  have fin : PySem.W.KeyPure (.str n) s (.str n t) { s with heap := h1, toks := tk + 1 } := ⟨h1, tk + 1, rfl, hk, .str n t⟩
  refine subscriptTail_builtinR (x := .str n t) (IsTup.typeIs (s := { s with heap := h1, toks := tk + 1 }) ht1) slot_tuple_getitem.lookup ?_ rfl
  have hpos : 0 < its.length := by
    have := (List.getElem?_eq_some_iff.mp h0).1
    omega
  exact getItem_tuple (s := { s with heap := h1, toks := tk + 1 }) (j := 0) ht1 (by omega) (by omega) (by rw [List.size_toArray]; exact seqIndex_of (by omega) (by omega)) (by simpa using h0) ⟨rfl, fin⟩

/-! ### sorted(xs, key=f), f such a def -/
def rSortedK (K : PySem.W.Frag) (f : Addr) : List V → List V → Hp → VK → Prop := fun vs zs H Q => ∃ (a : Addr) (us : List V) (β : Type) (xs : List β) (Pr : V → β → Prop) (key : β → Str), vs = [V.ref a] ∧ zs = [V.ref f] ∧ SqL K H a us ∧ Paired Pr us xs ∧
  (∀ v x, Pr v x → ∃ b r, v = V.ref b ∧ H b = some (.tup (V.str (key x) :: r))) ∧ ∀ (us' : List V) (xs' : List β) (p : Addr), Paired Pr us' xs' → xs'.Perm xs → H p = none → Q (.ref p) (upd H p (.lst us'))
theorem cr_sortedK {X : Cx} {f : Addr} {x qual p : Str} {st : Stmt} {fd : FuncData} {pos1 pos2 pos3 pos4 : Pos} {kk : Nat} (F : Fun X.K x qual st f fd) (S : FnScope [p] [p] (defScope st)) (hl : (defScope st).names.lookup p = some .local)
    (hb : defBody st = [.Return (some (.Subscript (.Name p pos1) (.Constant (.int 0) kk pos2) pos3)) pos4]) (bd : Binds X.K fd [p] []) (hd1 : (p == ("__debug__" : Str)) = false) (hr : Room 3 X.A) : CallRK X (.builtin "sorted") [Str.ofString "key"] (rSortedK X.K f) := by
  intro pins s σ H vs zs us ws Q I r rz h
  obtain ⟨a, ys, β, xs, Pr, key, rfl, rfl, hs, hp, hkey, q⟩ := h
  obtain ⟨its, rv, pl, hz⟩ := I.list hs
  rw [Vals.ref1 r, Vals.ref1 rz]
  have e1 := each_in rv hp
  have hlen : its.length = xs.length := e1.length
  have hrl := rv.length
  refine PySem.W.sorted_key_data (b := false) (fun b => PyData.str (key b)) pl.isList e1 (fun d hd d' hd' => ?_) (.inr fun d hd => ?_) (by omega) (fun b _ => ?_) (PyProof.Rows.ksk_s1 _ _) (fun _ => PyProof.Rows.ksk_l1 _ _) (fun b => PyProof.Rows.ksk_t1 f b) (fun v b hv hb' h tk hk => ?_) fun out c h' tk hk hn ho hol heq => ?_
  · obtain ⟨b, _, rfl⟩ := List.mem_map.mp hd
    obtain ⟨b', _, rfl⟩ := List.mem_map.mp hd'
    exact PySem.W.DatumOrd.alike (key b) (key b')
  · obtain ⟨b, _, rfl⟩ := List.mem_map.mp hd
    exact ⟨fun e => (by cases e), fun ys e => (by cases e)⟩
  · have := hr.units
    show X.A.units + 2 + 0 < cLine
    omega
  · obtain ⟨z, rz', pz⟩ := hv
    obtain ⟨b0, r0, rfl, hb0⟩ := hkey z b pz
    cases rz'
    obtain ⟨zl, its0, rv0, ht0⟩ := I.hok _ _ hb0
    obtain ⟨u0, hu0, ru0⟩ := rv0.get (i := 0) rfl
    obtain ⟨t0, rfl⟩ := ru0
    have hr1 := hr.in1.in1
    have hl0 := rv0.length
    have hln := line63
    exact call_first (s := { s with heap := h, toks := tk }) F S hl hb bd hd1 (I.ok.mod.kin.keeps fun b o e => hk b o (I.bk b o e)) (I.ok.mod.nolimit.keeps fun b o e => hk b o (I.bk b o e)) hr1.depth hr1.hd (by
      obtain ⟨o, e, c, m, d⟩ := ht0
      exact ⟨o, hk _ _ e, c, m, d⟩) hu0 (by omega)
  · obtain ⟨us', r', p'⟩ := each_out heq
    have hul : us'.length ≤ sizeLine := by
      rw [r'.length, hol, ← hlen, ← hrl]
      exact hz
    exact ⟨.ref _, upd H (s.heap.objs.size + 1) (.lst us'), I.laid (t' := tk) hk (Nat.le_succ _) ⟨hul, out, c, r', ho⟩, rfl, q us' _ _ p' (List.mergeSort_perm _ _) (I.hok.fresh (Nat.le_succ _))⟩
end WR

set_option Elab.async false
set_option linter.all false
set_option maxRecDepth 100000
set_option maxHeartbeats 4000000
/-! The text by places, its scopes, the addresses and the facts of its top. Printed by gen_text.py. -/
namespace K17
open PySem L2 WR
def top (i : Nat) : Stmt := PySem.Challenge.pw_waypapers_k17_whole_more_freedom.main.body.getD i (.Pass ⟨0, 0, 0, 0⟩)
abbrev st_checkKind : Stmt := top 6
abbrev st_checkTrip : Stmt := top 7
abbrev st_enter : Stmt := top 8
abbrev st_arrive : Stmt := top 9
abbrev st_sInit : Stmt := inClass (top 11) 0
abbrev st_sOffer : Stmt := inClass (top 11) 1
abbrev st_sSettle : Stmt := inClass (top 11) 2
abbrev st_labels : Stmt := top 12
abbrev st_placesFrom : Stmt := top 13
abbrev st_isName : Stmt := top 25
abbrev st_areDiff : Stmt := top 26
abbrev st_areHours : Stmt := top 27
abbrev st_nameOf : Stmt := top 28
abbrev st_require : Stmt := top 29
abbrev st_mInit : Stmt := inClass (top 30) 0
abbrev st_checked : Stmt := inClass (top 30) 1
abbrev st_checkedBar : Stmt := inClass (top 30) 2
abbrev st_roadNames : Stmt := inClass (top 30) 3
abbrev st_road : Stmt := inClass (top 30) 4
abbrev st_checkPlace : Stmt := inClass (top 30) 5
abbrev st_roadsFrom : Stmt := inClass (top 30) 6
abbrev st_followers : Stmt := inClass (top 30) 10
abbrev st_mCheckKind : Stmt := inClass (top 30) 11
abbrev st_mayUse : Stmt := inClass (top 30) 12
abbrev st_lRow : Stmt := top 32
abbrev st_lNumbers : Stmt := top 33
abbrev st_lNames : Stmt := top 34
abbrev st_lSome : Stmt := top 35
abbrev st_lHours : Stmt := top 36
abbrev st_lMap : Stmt := top 37
abbrev st_lMade : Stmt := top 38
abbrev st_lTrip : Stmt := top 39
abbrev st_lFreer : Stmt := top 40
abbrev st_lNoLater : Stmt := top 41
abbrev st_law : Stmt := top 42
theorem sc_checkKind : FnScope ["chart", "kind"] ["chart", "kind"] (defScope st_checkKind) := ⟨rfl, rfl, rfl, by decide +kernel, rfl, by decide +kernel, by decide +kernel⟩
theorem sc_checkTrip : FnScope ["chart", "kind", "start"] ["chart", "kind", "start"] (defScope st_checkTrip) := ⟨rfl, rfl, rfl, by decide +kernel, rfl, by decide +kernel, by decide +kernel⟩
theorem sc_enter : FnScope ["chart", "name", "moment", "hours", "minute", "opened", "closed"] ["chart", "name", "moment"] (defScope st_enter) := ⟨rfl, rfl, rfl, by decide +kernel, rfl, by decide +kernel, by decide +kernel⟩
theorem sc_arrive : FnScope ["chart", "name", "moment", "entered"] ["chart", "name", "moment"] (defScope st_arrive) := ⟨rfl, rfl, rfl, by decide +kernel, rfl, by decide +kernel, by decide +kernel⟩
theorem sc_sInit : FnScope ["self", "chart", "kind", "start", "moment"] ["self", "chart", "kind", "start", "moment"] (defScope st_sInit) := ⟨rfl, rfl, rfl, by decide +kernel, rfl, by decide +kernel, by decide +kernel⟩
theorem sc_sOffer : FnScope ["self", "names", "moment", "source", "name", "arrival"] ["self", "names", "moment", "source"] (defScope st_sOffer) := ⟨rfl, rfl, rfl, by decide +kernel, rfl, by decide +kernel, by decide +kernel⟩
theorem sc_sSettle : FnScope ["self", "name", "arrival"] ["self"] (defScope st_sSettle) := ⟨rfl, rfl, rfl, by decide +kernel, rfl, by decide +kernel, by decide +kernel⟩
theorem sc_labels : FnScope ["chart", "kind", "start", "moment", "arrivals", "name"] ["chart", "kind", "start", "moment"] (defScope st_labels) := ⟨rfl, rfl, rfl, by decide +kernel, rfl, by decide +kernel, by decide +kernel⟩
theorem sc_placesFrom : FnScope ["chart", "kind", "start", "moment", "found", "name", "arrival", "end", "place"] ["chart", "kind", "start", "moment"] (defScope st_placesFrom) := ⟨rfl, rfl, rfl, by decide +kernel, rfl, by decide +kernel, by decide +kernel⟩
theorem sc_isName : FnScope ["text", "char"] ["text"] (defScope st_isName) := ⟨rfl, rfl, rfl, by decide +kernel, rfl, by decide +kernel, by decide +kernel⟩
theorem sc_areDiff : FnScope ["parts", "number", "part"] ["parts"] (defScope st_areDiff) := ⟨rfl, rfl, rfl, by decide +kernel, rfl, by decide +kernel, by decide +kernel⟩
theorem sc_areHours : FnScope ["hours", "day", "before", "opened", "closed"] ["hours", "day"] (defScope st_areHours) := ⟨rfl, rfl, rfl, by decide +kernel, rfl, by decide +kernel, by decide +kernel⟩
theorem sc_nameOf : FnScope ["road"] ["road"] (defScope st_nameOf) := ⟨rfl, rfl, rfl, by decide +kernel, rfl, by decide +kernel, by decide +kernel⟩
theorem sc_require : FnScope ["holds"] ["holds"] (defScope st_require) := ⟨rfl, rfl, rfl, by decide +kernel, rfl, by decide +kernel, by decide +kernel⟩
theorem sc_mInit : FnScope ["self", "day", "kinds", "places", "roads", "bars", "place", "kind", "road", "bar"] ["self", "day", "kinds", "places", "roads", "bars"] (defScope st_mInit) := ⟨rfl, rfl, rfl, by decide +kernel, rfl, by decide +kernel, by decide +kernel⟩
theorem sc_checked : FnScope ["self", "road", "name", "start", "end", "minutes", "kinds", "hours", "ordered", "kind", "pair"] ["self", "road"] (defScope st_checked) := ⟨rfl, rfl, rfl, by decide +kernel, rfl, by decide +kernel, by decide +kernel⟩
theorem sc_checkedBar : FnScope ["self", "bar"] ["self", "bar"] (defScope st_checkedBar) := ⟨rfl, rfl, rfl, by decide +kernel, rfl, by decide +kernel, by decide +kernel⟩
theorem sc_roadNames : FnScope ["self", "road"] ["self"] (defScope st_roadNames) := ⟨rfl, rfl, rfl, by decide +kernel, rfl, by decide +kernel, by decide +kernel⟩
theorem sc_road : FnScope ["self", "name", "road"] ["self", "name"] (defScope st_road) := ⟨rfl, rfl, rfl, by decide +kernel, rfl, by decide +kernel, by decide +kernel⟩
theorem sc_checkPlace : FnScope ["self", "place"] ["self", "place"] (defScope st_checkPlace) := ⟨rfl, rfl, rfl, by decide +kernel, rfl, by decide +kernel, by decide +kernel⟩
theorem sc_roadsFrom : FnScope ["self", "place", "road"] ["self", "place"] (defScope st_roadsFrom) := ⟨rfl, rfl, rfl, by decide +kernel, rfl, by decide +kernel, by decide +kernel⟩
theorem sc_followers : FnScope ["self", "name", "end", "other"] ["self", "name"] (defScope st_followers) := ⟨rfl, rfl, rfl, by decide +kernel, rfl, by decide +kernel, by decide +kernel⟩
theorem sc_mCheckKind : FnScope ["self", "kind"] ["self", "kind"] (defScope st_mCheckKind) := ⟨rfl, rfl, rfl, by decide +kernel, rfl, by decide +kernel, by decide +kernel⟩
theorem sc_mayUse : FnScope ["self", "kind", "name"] ["self", "kind", "name"] (defScope st_mayUse) := ⟨rfl, rfl, rfl, by decide +kernel, rfl, by decide +kernel, by decide +kernel⟩
theorem sc_lRow : FnScope ["_law_cell", "_law_many", "_law_row_here", "_law_rest", "_law_mixed", "_law_k"] ["_law_cell", "_law_many"] (defScope st_lRow) := ⟨rfl, rfl, rfl, by decide +kernel, rfl, by decide +kernel, by decide +kernel⟩
theorem sc_lNumbers : FnScope ["_law_script", "_law_many", "_law_cells", "_law_each", "_law_numbers_here", "_law_cell", "_law_number"] ["_law_script", "_law_many"] (defScope st_lNumbers) := ⟨rfl, rfl, rfl, by decide +kernel, rfl, by decide +kernel, by decide +kernel⟩
theorem sc_lNames : FnScope ["_law_number", "_law_many", "_law_letters", "_law_size", "_law_k", "_law_rest", "_law_place", "_law_names_here", "_law_own", "_law_spot", "_law_step"] ["_law_number", "_law_many"] (defScope st_lNames) := ⟨rfl, rfl, rfl, by decide +kernel, rfl, by decide +kernel, by decide +kernel⟩
theorem sc_lSome : FnScope ["_law_number", "_law_rights", "_law_found", "_law_rest", "_law_right"] ["_law_number", "_law_rights"] (defScope st_lSome) := ⟨rfl, rfl, rfl, by decide +kernel, rfl, by decide +kernel, by decide +kernel⟩
theorem sc_lHours : FnScope ["_law_numbers_here", "_law_at", "_law_day", "_law_kind", "_law_pairs", "_law_last", "_law_k", "_law_opened", "_law_closed"] ["_law_numbers_here", "_law_at", "_law_day"] (defScope st_lHours) := ⟨rfl, rfl, rfl, by decide +kernel, rfl, by decide +kernel, by decide +kernel⟩
theorem sc_lMap : FnScope ["_law_numbers_here", "_law_at", "_law_day", "_law_places", "_law_kinds", "_law_names_here", "_law_roads", "_law_k", "_law_spot", "_law_start", "_law_end", "_law_minutes", "_law_used", "_law_bars", "_law_rest", "_law_one", "_law_other"] ["_law_numbers_here", "_law_at"] (defScope st_lMap) := ⟨rfl, rfl, rfl, by decide +kernel, rfl, by decide +kernel, by decide +kernel⟩
theorem sc_lMade : FnScope ["_law_parts", "_law_day", "_law_places", "_law_kinds", "_law_roads", "_law_bars"] ["_law_parts"] (defScope st_lMade) := ⟨rfl, rfl, rfl, by decide +kernel, rfl, by decide +kernel, by decide +kernel⟩
theorem sc_lTrip : FnScope ["_law_parts", "_law_numbers_here", "_law_at", "_law_moment"] ["_law_parts", "_law_numbers_here", "_law_at"] (defScope st_lTrip) := ⟨rfl, rfl, rfl, by decide +kernel, rfl, by decide +kernel, by decide +kernel⟩
theorem sc_lFreer : FnScope ["_law_parts", "_law_numbers_here", "_law_at", "_law_day", "_law_places", "_law_kinds", "_law_roads", "_law_bars", "_law_which", "_law_place", "_law_name", "_law_start", "_law_end", "_law_minutes", "_law_used", "_law_hours_here", "_law_spot", "_law_changed"] ["_law_parts", "_law_numbers_here", "_law_at"] (defScope st_lFreer) := ⟨rfl, rfl, rfl, by decide +kernel, rfl, by decide +kernel, by decide +kernel⟩
theorem sc_lNoLater : FnScope ["_law_one", "_law_other", "_law_known", "_law_name", "_law_arrival"] ["_law_one", "_law_other"] (defScope st_lNoLater) := ⟨rfl, rfl, rfl, by decide +kernel, rfl, by decide +kernel, by decide +kernel⟩
theorem sc_law : FnScope ["_law_script", "_law_numbers_here", "_law_parts", "_law_chart", "_law_kind", "_law_start", "_law_moment", "_law_freer_here", "_law_other", "_law_road"] ["_law_script"] (defScope st_law) := ⟨rfl, rfl, rfl, by decide +kernel, rfl, by decide +kernel, by decide +kernel⟩
/-- a def: where it stands, its data -/
structure Df where
  f : Addr
  fd : FuncData
structure Adr where
  cM : Addr
  cS : Addr
  pN : Addr
  checkKind : Df
  checkTrip : Df
  enter : Df
  arrive : Df
  sInit : Df
  sOffer : Df
  sSettle : Df
  labels : Df
  placesFrom : Df
  isName : Df
  areDiff : Df
  areHours : Df
  nameOf : Df
  require : Df
  mInit : Df
  checked : Df
  checkedBar : Df
  roadNames : Df
  road : Df
  checkPlace : Df
  roadsFrom : Df
  followers : Df
  mCheckKind : Df
  mayUse : Df
  lRow : Df
  lNumbers : Df
  lNames : Df
  lSome : Df
  lHours : Df
  lMap : Df
  lMade : Df
  lTrip : Df
  lFreer : Df
  lNoLater : Df
  law : Df
/-- a name of the module holds the value -/
def GV (mg : Str → Option Value) (x : Str) (v : V) : Prop := ∃ u, mg x = some u ∧ RelV v u
theorem pe_gv {X : Cx} {x : Str} {v : V} {pos : Pos} (h : GV X.mg x v) (hg : Gl X x := by rfl) (hd : (x == ("__debug__" : Str)) = false := by decide) : PE X (.Name x pos) (tC v) := by
  obtain ⟨u, hm, r⟩ := h
  exact pe_glob hg hm r hd
/-- a def of the text as it stands, how its arguments bind -/
structure DefOk (K : PySem.W.Frag) (x qual : Str) (st : Stmt) (d : Df) (ps : List Str) : Prop where
  fn : Fun K x qual st d.f d.fd
  bd : Binds K d.fd ps []
/-- what the walk asks of the top -/
structure Txt (K : PySem.W.Frag) (mg : Str → Option Value) (a : Adr) : Prop where
  checkKind : DefOk K "check_kind" "check_kind" st_checkKind a.checkKind ["chart", "kind"]
  checkTrip : DefOk K "check_trip" "check_trip" st_checkTrip a.checkTrip ["chart", "kind", "start"]
  enter : DefOk K "enter" "enter" st_enter a.enter ["chart", "name", "moment"]
  arrive : DefOk K "arrive" "arrive" st_arrive a.arrive ["chart", "name", "moment"]
  sInit : DefOk K "__init__" "Search.__init__" st_sInit a.sInit ["self", "chart", "kind", "start", "moment"]
  sOffer : DefOk K "offer" "Search.offer" st_sOffer a.sOffer ["self", "names", "moment", "source"]
  sSettle : DefOk K "settle" "Search.settle" st_sSettle a.sSettle ["self"]
  labels : DefOk K "labels" "labels" st_labels a.labels ["chart", "kind", "start", "moment"]
  placesFrom : DefOk K "places_from" "places_from" st_placesFrom a.placesFrom ["chart", "kind", "start", "moment"]
  isName : DefOk K "is_name" "is_name" st_isName a.isName ["text"]
  areDiff : DefOk K "are_different" "are_different" st_areDiff a.areDiff ["parts"]
  areHours : DefOk K "are_hours" "are_hours" st_areHours a.areHours ["hours", "day"]
  nameOf : DefOk K "name_of" "name_of" st_nameOf a.nameOf ["road"]
  require : DefOk K "require" "require" st_require a.require ["holds"]
  mInit : Fun K "__init__" "Map.__init__" st_mInit a.mInit.f a.mInit.fd
  checked : DefOk K "checked" "Map.checked" st_checked a.checked ["self", "road"]
  checkedBar : DefOk K "checked_bar" "Map.checked_bar" st_checkedBar a.checkedBar ["self", "bar"]
  roadNames : DefOk K "road_names" "Map.road_names" st_roadNames a.roadNames ["self"]
  road : DefOk K "road" "Map.road" st_road a.road ["self", "name"]
  checkPlace : DefOk K "check_place" "Map.check_place" st_checkPlace a.checkPlace ["self", "place"]
  roadsFrom : DefOk K "roads_from" "Map.roads_from" st_roadsFrom a.roadsFrom ["self", "place"]
  followers : DefOk K "followers" "Map.followers" st_followers a.followers ["self", "name"]
  mCheckKind : DefOk K "check_kind" "Map.check_kind" st_mCheckKind a.mCheckKind ["self", "kind"]
  mayUse : DefOk K "may_use" "Map.may_use" st_mayUse a.mayUse ["self", "kind", "name"]
  lRow : DefOk K "_law_row" "_law_row" st_lRow a.lRow ["_law_cell", "_law_many"]
  lNumbers : DefOk K "_law_numbers" "_law_numbers" st_lNumbers a.lNumbers ["_law_script", "_law_many"]
  lNames : DefOk K "_law_names" "_law_names" st_lNames a.lNames ["_law_number", "_law_many"]
  lSome : DefOk K "_law_some" "_law_some" st_lSome a.lSome ["_law_number", "_law_rights"]
  lHours : DefOk K "_law_hours" "_law_hours" st_lHours a.lHours ["_law_numbers_here", "_law_at", "_law_day"]
  lMap : DefOk K "_law_map" "_law_map" st_lMap a.lMap ["_law_numbers_here", "_law_at"]
  lMade : DefOk K "_law_made" "_law_made" st_lMade a.lMade ["_law_parts"]
  lTrip : DefOk K "_law_trip" "_law_trip" st_lTrip a.lTrip ["_law_parts", "_law_numbers_here", "_law_at"]
  lFreer : DefOk K "_law_freer" "_law_freer" st_lFreer a.lFreer ["_law_parts", "_law_numbers_here", "_law_at"]
  lNoLater : DefOk K "_law_no_later" "_law_no_later" st_lNoLater a.lNoLater ["_law_one", "_law_other"]
  law : DefOk K "law" "law" st_law a.law ["_law_script"]
  clM : Cls K a.cM
  clS : Cls K a.cS
  mkM : Mk K a.cM a.mInit.f
  mkS : Mk K a.cS a.sInit.f
  nM_day : NoAttr K a.cM "day"
  nM_places : NoAttr K a.cM "places"
  nM_kinds : NoAttr K a.cM "kinds"
  nM_roads : NoAttr K a.cM "roads"
  nM_bars : NoAttr K a.cM "bars"
  nS_chart : NoAttr K a.cS "chart"
  nS_kind : NoAttr K a.cS "kind"
  nS_arrivals : NoAttr K a.cS "arrivals"
  nS_sources : NoAttr K a.cS "sources"
  nS_waiting : NoAttr K a.cS "waiting"
  m_checked : Meth K a.cM "checked" a.checked.f
  m_checkedBar : Meth K a.cM "checked_bar" a.checkedBar.f
  m_road : Meth K a.cM "road" a.road.f
  m_checkPlace : Meth K a.cM "check_place" a.checkPlace.f
  m_roadsFrom : Meth K a.cM "roads_from" a.roadsFrom.f
  m_followers : Meth K a.cM "followers" a.followers.f
  m_mCheckKind : Meth K a.cM "check_kind" a.mCheckKind.f
  m_mayUse : Meth K a.cM "may_use" a.mayUse.f
  m_sOffer : Meth K a.cS "offer" a.sOffer.f
  m_sSettle : Meth K a.cS "settle" a.sSettle.f
  prop : PropOf K a.cM "road_names" a.pN a.roadNames.f
  gMap : mg "Map" = some (.ref a.cM)
  gSearch : mg "Search" = some (.ref a.cS)
  g_checkKind : mg "check_kind" = some (.ref a.checkKind.f)
  g_checkTrip : mg "check_trip" = some (.ref a.checkTrip.f)
  g_enter : mg "enter" = some (.ref a.enter.f)
  g_arrive : mg "arrive" = some (.ref a.arrive.f)
  g_labels : mg "labels" = some (.ref a.labels.f)
  g_placesFrom : mg "places_from" = some (.ref a.placesFrom.f)
  g_isName : mg "is_name" = some (.ref a.isName.f)
  g_areDiff : mg "are_different" = some (.ref a.areDiff.f)
  g_areHours : mg "are_hours" = some (.ref a.areHours.f)
  g_nameOf : mg "name_of" = some (.ref a.nameOf.f)
  g_require : mg "require" = some (.ref a.require.f)
  g_lRow : mg "_law_row" = some (.ref a.lRow.f)
  g_lNumbers : mg "_law_numbers" = some (.ref a.lNumbers.f)
  g_lNames : mg "_law_names" = some (.ref a.lNames.f)
  g_lSome : mg "_law_some" = some (.ref a.lSome.f)
  g_lHours : mg "_law_hours" = some (.ref a.lHours.f)
  g_lMap : mg "_law_map" = some (.ref a.lMap.f)
  g_lMade : mg "_law_made" = some (.ref a.lMade.f)
  g_lTrip : mg "_law_trip" = some (.ref a.lTrip.f)
  g_lFreer : mg "_law_freer" = some (.ref a.lFreer.f)
  g_lNoLater : mg "_law_no_later" = some (.ref a.lNoLater.f)
  g_law : mg "law" = some (.ref a.law.f)
  c_NAME_CHARS : GV mg "NAME_CHARS" (.str "abcdefghijklmnopqrstuvwxyz0123456789")
  c_MOST_NAME_CHARS : GV mg "MOST_NAME_CHARS" (.int 12)
  c_MOST_DAY : GV mg "MOST_DAY" (.int 1440)
  c_MOST_PLACES : GV mg "MOST_PLACES" (.int 30)
  c_MOST_KINDS : GV mg "MOST_KINDS" (.int 4)
  c_MOST_ROADS : GV mg "MOST_ROADS" (.int 60)
  c_MOST_BARS : GV mg "MOST_BARS" (.int 40)
  c_MOST_MINUTES : GV mg "MOST_MINUTES" (.int 1000)
  c_MOST_HOURS : GV mg "MOST_HOURS" (.int 4)
  c_ROAD_PARTS : GV mg "ROAD_PARTS" (.int 6)
  b_max : mg "max" = none
  b_min : mg "min" = none
  b_len : mg "len" = none
  b_all : mg "all" = none
  b_tuple : mg "tuple" = none
  b_sorted : mg "sorted" = none
  b_list : mg "list" = none
  b_abs : mg "abs" = none
  b_int : mg "int" = none
  b_range : mg "range" = none
  b_enumerate : mg "enumerate" = none
end K17

set_option Elab.async false
set_option linter.all false
set_option maxRecDepth 100000
set_option maxHeartbeats 4000000
/-! A map as it stands in the heap; the promises of Map's readers. -/
namespace K17
open PySem L2 WR

abbrev Road := WP.Road Str
abbrev Chart := WP.Chart Str

def HoursV (H : Hp) (v : V) : Option (List (Int × Int)) → Prop
  | none => v = .non
  | some ps => ∃ (a : Addr) (us : List V), v = .ref a ∧ H a = some (.tup us) ∧ Paired (HV.hv H) us ps
theorem HoursV.up {H H' : Hp} (t : Tups H H') {v : V} {o : Option (List (Int × Int))} (h : HoursV H v o) : HoursV H' v o := by
  cases o with
  | none => exact h
  | some ps =>
    obtain ⟨a, us, e, ha, hp⟩ := h
    exact ⟨a, us, e, t _ _ ha, hvs_up t hp⟩
/-- a road: a tuple of six -/
def RoadV (H : Hp) (v : V) (r : Road) : Prop := ∃ (a k : Addr) (hv : V), v = .ref a ∧ H a = some (.tup [.str r.name, .str r.start, .str r.stop, .int r.mins, .ref k, hv]) ∧ H k = some (.tup (r.kinds.map V.str)) ∧ HoursV H hv r.hours
theorem RoadV.up {H H' : Hp} (t : Tups H H') {v : V} {r : Road} (h : RoadV H v r) : RoadV H' v r := by
  obtain ⟨a, k, hv, e, ha, hk, hh⟩ := h
  exact ⟨a, k, hv, e, t _ _ ha, t _ _ hk, hh.up t⟩
theorem roads_up {H H' : Hp} (t : Tups H H') {us : List V} {rs : List Road} (h : Paired (RoadV H) us rs) : Paired (RoadV H') us rs := Paired.mapP h fun _ _ z => z.up t
/-- an attribute that is a tuple -/
def TupFld (H : Hp) (fs : List (Str × V)) (f : Str) (us : List V) : Prop := ∃ a, fs.lookup f = some (.ref a) ∧ H a = some (.tup us)
theorem TupFld.up {H H' : Hp} (t : Tups H H') {fs : List (Str × V)} {f : Str} {us : List V} (h : TupFld H fs f us) : TupFld H' fs f us := by
  obtain ⟨a, e, ha⟩ := h
  exact ⟨a, e, t _ _ ha⟩
def mapMeths : List Str := ["checked", "checked_bar", "road", "check_place", "roads_from", "followers", "check_kind", "may_use"]
structure ChartF (H : Hp) (fs : List (Str × V)) (c : Chart) : Prop where
  day : fs.lookup ("day" : Str) = some (.int c.day)
  places : TupFld H fs "places" (c.places.map V.str)
  kinds : TupFld H fs "kinds" (c.kinds.map V.str)
  roads : ∃ us, TupFld H fs "roads" us ∧ Paired (RoadV H) us c.roads
  bars : ∃ us, TupFld H fs "bars" us ∧ Paired (HV.hv H) us c.bars
  meth : ∀ m ∈ mapMeths, fs.lookup m = none
  few : c.roads.length ≤ 60 ∧ c.places.length ≤ 30 ∧ c.kinds.length ≤ 4 ∧ c.bars.length ≤ 40
/-- a map stands at p -/
def ChartAt (C : Addr) (H : Hp) (p : Addr) (c : Chart) : Prop := ∃ dx fs, H p = some (.ins C dx fs) ∧ ChartF H fs c
theorem ChartF.up {H H' : Hp} (t : Tups H H') {fs : List (Str × V)} {c : Chart} (h : ChartF H fs c) : ChartF H' fs c := by
  obtain ⟨us, h1, h2⟩ := h.roads
  obtain ⟨bs, h3, h4⟩ := h.bars
  exact ⟨h.day, h.places.up t, h.kinds.up t, ⟨us, h1.up t, roads_up t h2⟩, ⟨bs, h3.up t, hvs_up t h4⟩, h.meth, h.few⟩
theorem ChartAt.same {C : Addr} {H H' : Hp} {p : Addr} {c : Chart} (s : Same H H') (h : ChartAt C H p c) : ChartAt C H' p c := by
  obtain ⟨dx, fs, hp, hc⟩ := h
  exact ⟨dx, fs, s _ _ hp, hc.up (.of s)⟩
def find (rs : List Road) (n : Str) : Option Road := rs.find? fun r => decide (r.name = n)

/-! ### promises -/
/-- road(name) -/
def spRoad (C : Addr) : Sp := fun vs H Q _ => ∃ (p dx : Addr) (fs : List (Str × V)) (us : List V) (rs : List Road) (n : Str) (r : Road), vs = [.ref p, .str n] ∧ H p = some (.ins C dx fs) ∧ TupFld H fs "roads" us ∧ Paired (RoadV H) us rs ∧
  find rs n = some r ∧ ∀ v, RoadV H v r → Q v H
/-- check_place(place), check_kind(kind) -/
def spCheck (C : Addr) (f : Str) : Sp := fun vs H Q _ => ∃ (p dx : Addr) (fs : List (Str × V)) (ps : List Str) (x : Str), vs = [.ref p, .str x] ∧ H p = some (.ins C dx fs) ∧ TupFld H fs f (ps.map V.str) ∧ x ∈ ps ∧ Q .non H
def spTrip (C : Addr) : Sp := fun vs H Q _ => ∃ (p : Addr) (c : Chart) (k x : Str), vs = [.ref p, .str k, .str x] ∧ ChartAt C H p c ∧ k ∈ c.kinds ∧ x ∈ c.places ∧ Q .non H
def spMayUse (C : Addr) : Sp := fun vs H Q _ => ∃ (p : Addr) (c : Chart) (k n : Str) (r : Road), vs = [.ref p, .str k, .str n] ∧ ChartAt C H p c ∧ k ∈ c.kinds ∧ find c.roads n = some r ∧ Q (.bl (decide (k ∈ r.kinds))) H
def spRoadNames (C : Addr) : Sp := fun vs H Q _ => ∃ (p dx : Addr) (fs : List (Str × V)) (us : List V) (rs : List Road), vs = [.ref p] ∧ H p = some (.ins C dx fs) ∧ TupFld H fs "roads" us ∧ Paired (RoadV H) us rs ∧ rs.length ≤ 60 ∧
  ∀ (H' : Hp) (a : Addr), Same H H' → H a = none → H' a = some (.tup ((rs.map (·.name)).map V.str)) → Q (.ref a) H'
def fromNames (rs : List Road) (x : Str) : List Str := (rs.filter fun r => decide (r.start = x)).map (·.name)
def spRoadsFrom (C : Addr) : Sp := fun vs H Q _ => ∃ (p : Addr) (c : Chart) (x : Str), vs = [.ref p, .str x] ∧ ChartAt C H p c ∧ x ∈ c.places ∧
  ∀ (H' : Hp) (a : Addr), Same H H' → H a = none → H' a = some (.lst ((fromNames c.roads x).map V.str)) → Q (.ref a) H'
def folNames (c : Chart) (r : Road) : List Str := (fromNames c.roads r.stop).filter fun o => decide ((r.name, o) ∉ c.bars)
def spFollowers (C : Addr) : Sp := fun vs H Q _ => ∃ (p : Addr) (c : Chart) (n : Str) (r : Road), vs = [.ref p, .str n] ∧ ChartAt C H p c ∧ find c.roads n = some r ∧ r.stop ∈ c.places ∧
  ∀ (H' : Hp) (a : Addr), Same H H' → H a = none → H' a = some (.lst ((folNames c r).map V.str)) → Q (.ref a) H'

theorem find_name {rs : List Road} {n : Str} {r : Road} (h : find rs n = some r) : r ∈ rs ∧ r.name = n := by
  have h1 := List.mem_of_find?_eq_some h
  have h2 := List.find?_some h
  exact ⟨h1, by simpa using h2⟩
theorem find_at {n : Str} {r : Road} : ∀ {rs : List Road} {i : Nat}, rs[i]? = some r → (∀ r' ∈ rs.take i, r'.name ≠ n) → r.name = n → find rs n = some r
  | [], _, h, _, _ => by simp at h
  | r0 :: rs, 0, h, _, e => by
    have e0 : r0 = r := Option.some.inj h
    subst e0
    unfold find
    rw [List.find?_cons_of_pos (by simpa using e)]
  | r0 :: rs, i + 1, h, hn, e => by
    unfold find
    rw [List.find?_cons_of_neg (by simpa using hn r0 (by simp))]
    exact find_at (i := i) (by simpa using h) (fun r' hr' => hn r' (by simp [hr'])) e
theorem find_none {n : Str} {rs : List Road} (h : ∀ r' ∈ rs, r'.name ≠ n) : find rs n = none := by
  unfold find
  rw [List.find?_eq_none]
  intro r hr
  simpa using h r hr
theorem take_snoc {α : Type} {xs : List α} {i : Nat} {x : α} (h : xs[i]? = some x) : xs.take (i + 1) = xs.take i ++ [x] := by
  rw [List.take_add_one, h]
  rfl

theorem hu2 {A : Around} {k d : Nat} (hr : Room k A) (h : d ≤ 60 := by decide) : A.units + 1 + d < cLine := by
  have := hr.units
  omega
theorem hu3 {A : Around} {k d : Nat} (hr : Room k A) (h : d ≤ 60 := by decide) : A.units + 2 + d < cLine := by
  have := hr.units
  omega

section
variable {P : Program} {w : World} {K : PySem.W.Frag} {mg : Str → Option Value} {base : Heap} {a : Adr}
theorem ok_road (T : Txt K mg a) : FnOk P w K mg base CX0 1 a.road.f a.road.fd ["self", "name"] (spRoad a.cM) := by
  refine T.road.fn.ok sc_road (fun vs H Q E h => ?_) (fun cdv A outer s H vs Q E hr h => ?_)
  · obtain ⟨p, dx, fs, us, rs, n, r, rfl, _⟩ := h
    rfl
  · obtain ⟨p, dx, fs, us, rs, n, r, rfl, hp, ⟨ar, lk, har⟩, hR, hf, k⟩ := h
    refine ⟨_, pss_cons (ps_for PassesOwn.never rfl (pi_tup (pe_fld (pv 0) rfl)) (pg_name (i := 2) sc_road.nd rfl (Or.inl rfl))
      (pss_one (ps_if (pt_cmpR op_eq (pe_ix ix_tup (pv 2) pe_int (fun _ _ => rfl)) (pv 1) (nomark _)) (pss_one (ps_ret (pv 2))) pss_nil))) (pss_one ps_never), ?_⟩
    refine ⟨_, rfl, p, a.cM, dx, fs, _, rfl, hp, T.clM, T.nM_roads, lk, ar, rfl, ⟨us, SqT.of har⟩, for_tup (K := K) (a := ar) (xs := us)
      (fun i σ H2 => ∃ z, σ = [some (.ref p), some (.str n), z] ∧ H2 = H ∧ ∀ r' ∈ rs.take i, r'.name ≠ n) ⟨none, rfl, rfl, fun r' hr' => by simp at hr'⟩ (fun i σ H2 _ ⟨_, _, e, _⟩ => by rw [e]; exact SqT.of har) ?_ ?_⟩
    · rintro i x σ H2 hx ⟨z, rfl, rfl, hn⟩
      obtain ⟨ri, hri, hv⟩ := Paired.at hR hx
      obtain ⟨b, kk, hv', rfl, hb, _⟩ := id hv
      refine ⟨_, rfl, b, _, 0, _, rfl, rfl, SqT.of hb, atI_nat (j := 0) rfl, _, rfl, rfl, _, rfl, ?_⟩
      refine ite2 (fun hc => ?_) (fun hc => ?_)
      · have e : ri.name = n := by simpa using hc
        have e2 := find_at hri hn e
        rw [hf] at e2
        have e3 : r = ri := Option.some.inj e2
        subst e3
        exact ⟨_, rfl, k _ hv⟩
      · refine ⟨_, rfl, rfl, fun r' hr' => ?_⟩
        rw [take_snoc hri] at hr'
        rcases List.mem_append.mp hr' with h | h
        · exact hn r' h
        · have e : r' = ri := by simpa using h
          subst e
          simpa using hc
    · rintro σ H2 ⟨z, rfl, rfl, hn⟩
      rw [hR.length, List.take_length, ] at hn
      rw [find_none hn] at hf
      cases hf
theorem ok_checkPlace (T : Txt K mg a) : FnOk P w K mg base CX0 1 a.checkPlace.f a.checkPlace.fd ["self", "place"] (spCheck a.cM "places") := by
  refine T.checkPlace.fn.ok sc_checkPlace (fun vs H Q E h => ?_) (fun cdv A outer s H vs Q E hr h => ?_)
  · obtain ⟨p, dx, fs, ps, x, rfl, _⟩ := h
    rfl
  · obtain ⟨p, dx, fs, ps, x, rfl, hp, ⟨ar, lk, har⟩, hx, k⟩ := h
    refine ⟨_, pss_one (ps_if (pt_cmpR (op_notInH (α := Str) (hu2 hr)) (pv 1) (pe_fld (pv 0) rfl) (by with_unfolding_all rfl)) (pss_one ps_never) pss_nil), ?_⟩
    refine ⟨_, rfl, _, rfl, p, a.cM, dx, fs, _, rfl, hp, T.clM, T.nM_places, lk, ar, _, ps, x, rfl, .inr (SqT.of har), paired_strs ps, rfl, _, rfl, ?_⟩
    rw [if_pos rfl, decide_eq_false (fun z => z hx)]
    exact iteF k
theorem ok_mCheckKind (T : Txt K mg a) : FnOk P w K mg base CX0 1 a.mCheckKind.f a.mCheckKind.fd ["self", "kind"] (spCheck a.cM "kinds") := by
  refine T.mCheckKind.fn.ok sc_mCheckKind (fun vs H Q E h => ?_) (fun cdv A outer s H vs Q E hr h => ?_)
  · obtain ⟨p, dx, fs, ps, x, rfl, _⟩ := h
    rfl
  · obtain ⟨p, dx, fs, ps, x, rfl, hp, ⟨ar, lk, har⟩, hx, k⟩ := h
    refine ⟨_, pss_one (ps_if (pt_cmpR (op_notInH (α := Str) (hu2 hr)) (pv 1) (pe_fld (pv 0) rfl) (by with_unfolding_all rfl)) (pss_one ps_never) pss_nil), ?_⟩
    refine ⟨_, rfl, _, rfl, p, a.cM, dx, fs, _, rfl, hp, T.clM, T.nM_kinds, lk, ar, _, ps, x, rfl, .inr (SqT.of har), paired_strs ps, rfl, _, rfl, ?_⟩
    rw [if_pos rfl, decide_eq_false (fun z => z hx)]
    exact iteF k
theorem ok_checkKind (T : Txt K mg a) : FnOk P w K mg base CX0 1 a.checkKind.f a.checkKind.fd ["chart", "kind"] (spCheck a.cM "kinds") := by
  refine T.checkKind.fn.ok sc_checkKind (fun vs H Q E h => ?_) (fun cdv A outer s H vs Q E hr h => ?_)
  · obtain ⟨p, dx, fs, ps, x, rfl, _⟩ := h
    rfl
  · obtain ⟨p, dx, fs, ps, x, rfl, hp, ⟨ar, lk, har⟩, hx, k⟩ := h
    refine ⟨_, pss_one (ps_if (pt_cmpR (op_notInH (α := Str) (hu2 hr)) (pv 1) (pe_fld (pv 0) rfl) (by with_unfolding_all rfl)) (pss_one ps_never) pss_nil), ?_⟩
    refine ⟨_, rfl, _, rfl, p, a.cM, dx, fs, _, rfl, hp, T.clM, T.nM_kinds, lk, ar, _, ps, x, rfl, .inr (SqT.of har), paired_strs ps, rfl, _, rfl, ?_⟩
    rw [if_pos rfl, decide_eq_false (fun z => z hx)]
    exact iteF k
theorem ok_checkTrip (T : Txt K mg a) : FnOk P w K mg base CX0 2 a.checkTrip.f a.checkTrip.fd ["chart", "kind", "start"] (spTrip a.cM) := by
  refine T.checkTrip.fn.ok sc_checkTrip (fun vs H Q E h => ?_) (fun cdv A outer s H vs Q E hr h => ?_)
  · obtain ⟨p, c, kd, x, rfl, _⟩ := h
    rfl
  · obtain ⟨p, c, kd, x, rfl, ⟨dx, fs, hp, hc⟩, hk, hx, k⟩ := h
    refine ⟨_, pss_cons (ps_expr (pe_call (ok_checkKind T) hr (by rfl) T.g_checkKind T.checkKind.fn.kp T.checkKind.bd .nil pass0 (pa_cons (pv 0) (pa_cons (pv 1) pa_nil))))
      (pss_one (ps_expr (pe_meth (pv 0) T.clM T.m_checkPlace (ok_checkPlace T) hr T.checkPlace.bd .nil pass0 (pa_cons (pv 2) pa_nil)))), ?_⟩
    refine ⟨_, rfl, _, rfl, p, dx, fs, c.kinds, kd, rfl, hp, hc.kinds, hk, ?_⟩
    exact ⟨_, rfl, p, dx, fs, rfl, hp, hc.meth _ (by decide +kernel), _, rfl, p, dx, fs, c.places, x, rfl, hp, hc.places, hx, k⟩
theorem ok_mayUse (T : Txt K mg a) : FnOk P w K mg base CX0 2 a.mayUse.f a.mayUse.fd ["self", "kind", "name"] (spMayUse a.cM) := by
  refine T.mayUse.fn.ok sc_mayUse (fun vs H Q E h => ?_) (fun cdv A outer s H vs Q E hr h => ?_)
  · obtain ⟨p, c, kd, n, r, rfl, _⟩ := h
    rfl
  · obtain ⟨p, c, kd, n, r, rfl, ⟨dx, fs, hp, hc⟩, hk, hf, k⟩ := h
    obtain ⟨us, hus, hR⟩ := hc.roads
    refine ⟨_, pss_cons (ps_expr (pe_meth (pv 0) T.clM T.m_mCheckKind (ok_mCheckKind T) hr T.mCheckKind.bd .nil pass0 (pa_cons (pv 1) pa_nil)))
      (pss_one (ps_ret (pe_cmpR (op_inH (α := Str) (hu2 hr)) (pv 1) (pe_ix ix_tup (pe_meth (pv 0) T.clM T.m_road (ok_road T) hr T.road.bd .nil pass0 (pa_cons (pv 2) pa_nil)) pe_int (fun _ _ => rfl)) (by with_unfolding_all rfl)))), ?_⟩
    refine ⟨_, rfl, p, dx, fs, rfl, hp, hc.meth _ (by decide +kernel), _, rfl, p, dx, fs, c.kinds, kd, rfl, hp, hc.kinds, hk, ?_⟩
    refine ⟨_, rfl, _, rfl, p, dx, fs, rfl, hp, hc.meth _ (by decide +kernel), _, rfl, p, dx, fs, us, c.roads, n, r, rfl, hp, hus, hR, hf, fun v hv => ?_⟩
    obtain ⟨b, kk, hh, rfl, hb, hkk, _⟩ := hv
    refine ⟨b, _, 4, _, rfl, rfl, SqT.of hb, atI_nat (j := 4) rfl, kk, _, r.kinds, kd, rfl, .inr (SqT.of hkk), paired_strs _, rfl, ?_⟩
    rw [if_neg Bool.false_ne_true]
    exact k
end
end K17

set_option Elab.async false
set_option linter.all false
set_option maxRecDepth 100000
set_option maxHeartbeats 4000000
/-! road_names, roads_from, followers, enter, arrive. -/
namespace K17
open PySem L2 WR

theorem free_upd {H : Hp} {D l : Addr} {o : HO} (h : upd H D o l = none) : l ≠ D ∧ H l = none := by
  by_cases e : l = D
  · subst e
    rw [upd_same] at h
    cases h
  · rw [upd_ne e] at h
    exact ⟨e, h⟩
theorem Same.put {H H1 : Hp} {D : Addr} {o : HO} (s : Same H H1) (hD : H D = none) : Same H (upd H1 D o) := fun b u e => by
  rw [upd_ne (ne_of_none e hD)]
  exact s b u e
theorem size60 {n : Nat} (h : n ≤ 1000) : n < sizeLine := small1000 h

theorem tYes_if {σ : L2.St} {H : Hp} {A B : Hp → Prop} (h : A H) : tYes σ H (fun b H3 => if b = true then A H3 else B H3) := by
  unfold tYes
  exact iteT h
theorem fromNames_snoc (rs : List Road) (r : Road) (x : Str) : fromNames (rs ++ [r]) x = fromNames rs x ++ (if r.start = x then [r.name] else []) := by
  unfold fromNames
  rw [List.filter_append, List.map_append]
  by_cases h : r.start = x
  · rw [if_pos h, List.filter_cons_of_pos (by simpa using h)]
    rfl
  · rw [if_neg h, List.filter_cons_of_neg (by simpa using h)]
    rfl
theorem fromNames_len (rs : List Road) (x : Str) : (fromNames rs x).length ≤ rs.length := by
  unfold fromNames
  rw [List.length_map]
  exact List.length_filter_le _ _

/-- a number or None -/
def optV : Option Int → V
  | none => .non
  | some t => .int t
def spEnter (C : Addr) : Sp := fun vs H Q _ => ∃ (p : Addr) (c : Chart) (n : Str) (r : Road) (m : Int), vs = [.ref p, .str n, .int m] ∧ ChartAt C H p c ∧ find c.roads n = some r ∧ 0 < c.day ∧ Q (optV (WP.enter c.day r.hours m)) H
def spArrive (C : Addr) : Sp := fun vs H Q _ => ∃ (p : Addr) (c : Chart) (n : Str) (r : Road) (m : Int), vs = [.ref p, .str n, .int m] ∧ ChartAt C H p c ∧ find c.roads n = some r ∧ 0 < c.day ∧ Q (optV (WP.arrive c.day r m)) H

section
variable {P : Program} {w : World} {K : PySem.W.Frag} {mg : Str → Option Value} {base : Heap} {a : Adr}
theorem ok_roadNames (T : Txt K mg a) : FnOk P w K mg base CX0 1 a.roadNames.f a.roadNames.fd ["self"] (spRoadNames a.cM) := by
  refine T.roadNames.fn.ok sc_roadNames (fun vs H Q E h => ?_) (fun cdv A outer s H vs Q E hr h => ?_)
  · obtain ⟨p, dx, fs, us, rs, rfl, _⟩ := h
    rfl
  · obtain ⟨p, dx, fs, us, rs, rfl, hp, ⟨ar, lk, har⟩, hR, hl, k⟩ := h
    refine ⟨_, pss_one (ps_ret (pe_callTy call_tuple_of (by rfl) T.b_tuple (by decide +kernel) (pa_cons
      (pe_lc (own := [("road", 1)]) (g := gName 1) (tt := tYes) (te := tOp (rIxT K) (tVar 1) (tC (.int 0))) rfl sc_roadNames.nd (pi_tup (pe_fld (pv 0) rfl)) (blkOk_by (own := [("road", 1)]) (N := ["self", "road"]) (sc := defScope st_roadNames) (by decide +kernel))
        (fun _ _ _ _ _ => pg_name (i := 1) sc_roadNames.nd rfl (Or.inl rfl)) (fun _ _ _ _ _ => pts_nil) (fun _ _ _ _ _ => pe_ix ix_tup (pv 1) pe_int (fun _ _ => rfl))) pa_nil))), ?_⟩
    refine ⟨_, rfl, p, a.cM, dx, fs, _, rfl, hp, T.clM, T.nM_roads, lk, ar, rfl, ⟨us, SqT.of har⟩, fun D hD => lc_tup (K := K) (a := ar) (xs := us)
      (fun i H2 => Same H H2 ∧ H2 D = some (.lst (((rs.take i).map (·.name)).map V.str))) ⟨Same.new hD, upd_same⟩ (fun i H2 _ ⟨s2, _⟩ => SqT.of (s2 _ _ har)) ?_ ?_⟩
    · rintro i x H2 hx ⟨s2, hD2⟩
      obtain ⟨ri, hri, hv⟩ := Paired.at hR hx
      obtain ⟨b, kk, hv', rfl, hb, _⟩ := id hv
      have hil : i < rs.length := (List.getElem?_eq_some_iff.mp hri).1
      refine ⟨rfl, tYes_if ?_⟩
      refine ⟨_, rfl, b, _, 0, _, rfl, rfl, SqT.of (s2 _ _ hb), atI_nat (j := 0) rfl, _, hD2, size60 (by simp; omega), Same.put s2 hD, ?_⟩
      rw [upd_same, take_snoc hri]
      simp
    · rintro H2 ⟨s2, hD2⟩
      rw [hR.length, List.take_length] at hD2
      refine ⟨D, _, rfl, .inl ⟨SqL.of hD2, fun l hl => k _ l (Same.trans s2 (Same.new hl)) (Same.free s2 hl) upd_same⟩⟩
theorem ok_roadsFrom (T : Txt K mg a) : FnOk P w K mg base CX0 2 a.roadsFrom.f a.roadsFrom.fd ["self", "place"] (spRoadsFrom a.cM) := by
  refine T.roadsFrom.fn.ok sc_roadsFrom (fun vs H Q E h => ?_) (fun cdv A outer s H vs Q E hr h => ?_)
  · obtain ⟨p, c, x, rfl, _⟩ := h
    rfl
  · obtain ⟨p, c, x, rfl, ⟨dx, fs, hp, hc⟩, hx, k⟩ := h
    obtain ⟨us, ⟨ar, lk, har⟩, hR⟩ := hc.roads
    have few := hc.few
    refine ⟨_, pss_cons (ps_expr (pe_meth (pv 0) T.clM T.m_checkPlace (ok_checkPlace T) hr T.checkPlace.bd .nil pass0 (pa_cons (pv 1) pa_nil)))
      (pss_one (ps_ret (pe_lc (own := [("road", 2)]) (g := gName 2) (tt := tTest (tOp rEq (tOp (rIxT K) (tVar 2) (tC (.int 1))) (tVar 1))) (te := tOp (rIxT K) (tVar 2) (tC (.int 0))) rfl sc_roadsFrom.nd (pi_tup (pe_fld (pv 0) rfl)) (blkOk_by (own := [("road", 2)]) (N := ["self", "place", "road"]) (sc := defScope st_roadsFrom) (by decide +kernel))
        (fun _ _ _ _ _ => pg_name (i := 2) sc_roadsFrom.nd rfl (Or.inl rfl)) (fun _ _ _ _ _ => pts_one (pt_cmpR op_eq (pe_ix ix_tup (pv 2) pe_int (fun _ _ => rfl)) (pv 1) (nomark _))) (fun _ _ _ _ _ => pe_ix ix_tup (pv 2) pe_int (fun _ _ => rfl))))), ?_⟩
    refine ⟨_, rfl, p, dx, fs, rfl, hp, hc.meth _ (by decide +kernel), _, rfl, p, dx, fs, c.places, x, rfl, hp, hc.places, hx, ?_⟩
    refine ⟨_, rfl, p, a.cM, dx, fs, _, rfl, hp, T.clM, T.nM_roads, lk, ar, rfl, ⟨us, SqT.of har⟩, fun D hD => lc_tup (K := K) (a := ar) (xs := us)
      (fun i H2 => Same H H2 ∧ H2 D = some (.lst ((fromNames (c.roads.take i) x).map V.str))) ⟨Same.new hD, upd_same⟩ (fun i H2 _ ⟨s2, _⟩ => SqT.of (s2 _ _ har)) ?_ ?_⟩
    · rintro i z H2 hz ⟨s2, hD2⟩
      obtain ⟨ri, hri, hv⟩ := Paired.at hR hz
      obtain ⟨b, kk, hv', rfl, hb, _⟩ := id hv
      have hil : i < c.roads.length := (List.getElem?_eq_some_iff.mp hri).1
      have hfl := fromNames_len (c.roads.take i) x
      rw [List.length_take] at hfl
      refine ⟨rfl, _, rfl, b, _, 1, _, rfl, rfl, SqT.of (s2 _ _ hb), atI_nat (j := 1) rfl, _, rfl, rfl, _, rfl, ?_⟩
      refine ite2 (fun hcx => ?_) (fun hcx => ?_)
      · have e : ri.start = x := by simpa using hcx
        refine ⟨_, rfl, b, _, 0, _, rfl, rfl, SqT.of (s2 _ _ hb), atI_nat (j := 0) rfl, _, hD2, size60 (by rw [List.length_map]; omega), Same.put s2 hD, ?_⟩
        rw [upd_same, take_snoc hri, fromNames_snoc, if_pos e]
        simp
      · have e : ¬ ri.start = x := by simpa using hcx
        refine ⟨s2, ?_⟩
        rw [hD2, take_snoc hri, fromNames_snoc, if_neg e]
        simp
    · rintro H2 ⟨s2, hD2⟩
      rw [hR.length, List.take_length] at hD2
      exact k _ D s2 hD hD2
theorem ok_followers (T : Txt K mg a) : FnOk P w K mg base CX0 3 a.followers.f a.followers.fd ["self", "name"] (spFollowers a.cM) := by
  refine T.followers.fn.ok sc_followers (fun vs H Q E h => ?_) (fun cdv A outer s H vs Q E hr h => ?_)
  · obtain ⟨p, c, n, r, rfl, _⟩ := h
    rfl
  · obtain ⟨p, c, n, r, rfl, ⟨dx, fs, hp, hc⟩, hf, hst, k⟩ := h
    obtain ⟨us, hus, hR⟩ := hc.roads
    obtain ⟨bs, ⟨ab, lb, hab⟩, hB⟩ := hc.bars
    have few := hc.few
    have hn := (find_name hf).2
    refine ⟨_, pss_cons (ps_set (i := 2) sc_followers.nd rfl (Or.inl rfl) (pe_ix ix_tup (pe_meth (pv 0) T.clM T.m_road (ok_road T) (hr.mono (by decide)) T.road.bd .nil pass0 (pa_cons (pv 1) pa_nil)) pe_int (fun _ _ => rfl)))
      (pss_one (ps_ret (pe_lc (own := [("other", 3)]) (g := gName 3) (tt := tTest (tOp (rInH (Str × Str) K true) (tTup (tCons (tVar 1) (tCons (tVar 3) tNil))) (tFld K (tVar 0) "bars"))) (te := tVar 3) rfl sc_followers.nd (pi_list (pe_meth (pv 0) T.clM T.m_roadsFrom (ok_roadsFrom T) hr T.roadsFrom.bd .nil pass0 (pa_cons (pv 2) pa_nil)))
        (blkOk_by (own := [("other", 3)]) (N := ["self", "name", "end", "other"]) (sc := defScope st_followers) (by decide +kernel))
        (fun _ _ _ _ _ => pg_name (i := 3) sc_followers.nd rfl (Or.inl rfl)) (fun _ _ _ _ _ => pts_one (pt_cmpR (op_notInH (α := Str × Str) (hu2 hr)) (pe_tup (pa_cons (pv 1) (pa_cons (pv 3) pa_nil))) (pe_fld (pv 0) rfl) (by with_unfolding_all rfl))) (fun _ _ _ _ _ => pv 3)))), ?_⟩
    refine ⟨_, rfl, p, dx, fs, rfl, hp, hc.meth _ (by decide +kernel), _, rfl, p, dx, fs, us, c.roads, n, r, rfl, hp, hus, hR, hf, fun v hv => ?_⟩
    obtain ⟨b, kk, hh, rfl, hb, _⟩ := hv
    refine ⟨b, _, 2, _, rfl, rfl, SqT.of hb, atI_nat (j := 2) rfl, ?_⟩
    refine ⟨_, rfl, p, dx, fs, rfl, hp, hc.meth _ (by decide +kernel), _, rfl, p, c, r.stop, rfl, ⟨dx, fs, hp, hc⟩, hst, fun H1 l s1 hl hl1 => ?_⟩
    refine ⟨l, rfl, ⟨_, SqL.of hl1⟩, fun D hD => lc_list (K := K) (a := l) (xs := (fromNames c.roads r.stop).map V.str)
      (fun i H2 => Same H1 H2 ∧ H2 D = some (.lst ((((fromNames c.roads r.stop).take i).filter fun o => decide ((n, o) ∉ c.bars)).map V.str))) ⟨Same.new hD, upd_same⟩ (fun i H2 _ ⟨s2, _⟩ => SqL.of (s2 _ _ hl1)) ?_ ?_⟩
    · rintro i z H2 hz ⟨s2, hD2⟩
      rw [List.getElem?_map] at hz
      obtain ⟨o, ho, rfl⟩ : ∃ o, (fromNames c.roads r.stop)[i]? = some o ∧ V.str o = z := by
        cases q : (fromNames c.roads r.stop)[i]? with
        | none => rw [q] at hz; cases hz
        | some o => rw [q] at hz; exact ⟨o, rfl, Option.some.inj hz⟩
      have hil : i < (fromNames c.roads r.stop).length := (List.getElem?_eq_some_iff.mp ho).1
      have hfl := fromNames_len c.roads r.stop
      have hfl2 : (((fromNames c.roads r.stop).take i).filter fun o => decide ((n, o) ∉ c.bars)).length ≤ i := Nat.le_trans (List.length_filter_le _ _) (by rw [List.length_take]; omega)
      have s12 : Same H H2 := s1.trans s2
      refine ⟨rfl, _, rfl, _, rfl, (by show 2 ≤ sizeLine; decide), fun t ht => ?_⟩
      have tH : Tups H (upd H2 t (.tup [.str n, .str o])) := Tups.trans (.of s12) (.new ht)
      refine ⟨_, rfl, p, a.cM, dx, fs, _, rfl, (by rw [upd_ne (ne_of_none (s12 _ _ hp) ht)]; exact s12 _ _ hp), T.clM, T.nM_bars, lb, ab, bs, c.bars, (n, o), rfl, .inr (SqT.of (tH _ _ hab)), hvs_up tH hB, ⟨t, _, _, rfl, upd_same, rfl, rfl⟩, _, rfl, ?_⟩
      rw [if_pos rfl]
      refine ite2 (fun hcx => ?_) (fun hcx => ?_)
      · refine ⟨_, rfl, _, (by rw [upd_ne (ne_of_none hD2 ht)]; exact hD2), size60 (by rw [List.length_map]; omega), fun b u e => ?_, ?_⟩
        · rw [upd_ne (ne_of_none e hD), upd_ne (ne_of_none (s2 _ _ e) ht)]
          exact s2 _ _ e
        · rw [upd_same, take_snoc ho, List.filter_append, List.filter_cons_of_pos (by simp only [decide_eq_true_eq] at hcx ⊢; exact hcx)]
          simp
      · refine ⟨s2.trans (Same.new ht), ?_⟩
        rw [upd_ne (ne_of_none hD2 ht), hD2, take_snoc ho, List.filter_append, List.filter_cons_of_neg (by simp only [decide_eq_true_eq] at hcx ⊢; exact hcx)]
        simp
    · rintro H2 ⟨s2, hD2⟩
      rw [List.length_map, List.take_length] at hD2
      refine k _ D (s1.trans s2) (Same.free s1 hD) ?_
      unfold folNames
      rw [hn]
      exact hD2
theorem ok_enter (T : Txt K mg a) : FnOk P w K mg base CX0 2 a.enter.f a.enter.fd ["chart", "name", "moment"] (spEnter a.cM) := by
  refine T.enter.fn.ok sc_enter (fun vs H Q E h => ?_) (fun cdv A outer s H vs Q E hr h => ?_)
  · obtain ⟨p, c, n, r, m, rfl, _⟩ := h
    rfl
  · obtain ⟨p, c, n, r, m, rfl, ⟨dx, fs, hp, hc⟩, hf, hday, k⟩ := h
    obtain ⟨us, hus, hR⟩ := hc.roads
    refine ⟨_, pss_cons (ps_set (i := 3) sc_enter.nd rfl (Or.inl rfl) (pe_ix ix_tup (pe_meth (pv 0) T.clM T.m_road (ok_road T) hr T.road.bd .nil pass0 (pa_cons (pv 1) pa_nil)) pe_int (fun _ _ => rfl)))
      (pss_cons (ps_if (pt_cmp (pc_isN (pv 3))) (pss_one (ps_ret (pv 2))) pss_nil)
      (pss_cons (ps_if (pt_not (pt_truth (pv 3) (by intro _; rfl))) (pss_one (ps_ret pe_non)) pss_nil)
      (pss_cons (ps_set (i := 4) sc_enter.nd rfl (Or.inl rfl) (pe_op op_mod (pv 2) (pe_fld (pv 0) rfl)))
      (pss_cons (ps_for PassesOwn.never rfl (pi_tup (pv 3)) (pg_tup rfl (pgs_cons (pg_name (i := 5) sc_enter.nd rfl (Or.inl rfl)) (pgs_cons (pg_name (i := 6) sc_enter.nd rfl (Or.inl rfl)) pgs_nil)))
        (pss_one (ps_if (pt_cmpR op_lt (pv 4) (pv 6) (nomark _)) (pss_one (ps_ret (pe_op op_add (pe_op op_sub (pv 2) (pv 4)) (pe_callB (call_max2 rfl) (by rfl) T.b_max (by decide +kernel) (pa_cons (pv 4) (pa_cons (pv 5) pa_nil)))))) pss_nil)))
      (pss_one (ps_ret (pe_op op_add (pe_op op_add (pe_op op_sub (pv 2) (pv 4)) (pe_fld (pv 0) rfl)) (pe_ix ix_tup (pe_ix ix_tup (pv 3) pe_int (fun _ _ => rfl)) pe_int (fun _ _ => rfl))))))))), ?_⟩
    -- hours = chart.road(name)[5]
    refine ⟨_, rfl, p, dx, fs, rfl, hp, hc.meth _ (by decide +kernel), _, rfl, p, dx, fs, us, c.roads, n, r, rfl, hp, hus, hR, hf, fun v hv => ?_⟩
    obtain ⟨b, kk, hh, rfl, hb, _, hho⟩ := hv
    refine ⟨b, _, 5, _, rfl, rfl, SqT.of hb, atI_nat (j := 5) rfl, ?_⟩
    refine ⟨_, rfl, _, rfl, ?_⟩
    cases hrh : r.hours with
    | none =>
      rw [hrh] at hho k
      obtain rfl : hh = V.non := hho
      refine iteT ?_
      exact ⟨_, rfl, k⟩
    | some ps =>
      rw [hrh] at hho k
      obtain ⟨ah, uh, rfl, hah, hP⟩ := hho
      refine iteF ?_
      refine ⟨_, rfl, _, .inr (.inl ⟨uh, SqT.of hah, rfl⟩), ?_⟩
      cases ps with
      | nil =>
        cases hP
        refine iteT ?_
        exact k
      | cons pr prs =>
        obtain ⟨u0, ur, rfl⟩ : ∃ u0 ur, uh = u0 :: ur := by
          cases hP
          exact ⟨_, _, rfl⟩
        refine iteF ?_
        refine ⟨_, rfl, _, rfl, p, a.cM, dx, fs, _, rfl, hp, T.clM, T.nM_day, hc.day, _, _, rfl, rfl, hday, ?_⟩
        refine ⟨_, rfl, ah, rfl, ⟨_, SqT.of hah⟩, for_tup (K := K) (a := ah) (xs := u0 :: ur) (fun i σ H2 => ∃ z1 z2, σ = [some (.ref p), some (.str n), some (.int m), some (.ref ah), some (.int (m % c.day)), z1, z2] ∧ H2 = H ∧
          WP.firstOpen (m % c.day) (pr :: prs) = WP.firstOpen (m % c.day) ((pr :: prs).drop i)) ⟨none, none, rfl, rfl, rfl⟩ (fun i σ H2 _ ⟨_, _, _, e, _⟩ => by rw [e]; exact SqT.of hah) ?_ ?_⟩
        · rintro i x σ H2 hx ⟨z1, z2, rfl, rfl, he⟩
          obtain ⟨⟨o, cl⟩, hoc, b2, q1, q2, rfl, hb2, e1, e2⟩ := Paired.at hP hx
          obtain rfl : q1 = V.int o := e1
          obtain rfl : q2 = V.int cl := e2
          have hd : (pr :: prs).drop i = (o, cl) :: (pr :: prs).drop (i + 1) := by
            obtain ⟨hi, e⟩ := List.getElem?_eq_some_iff.mp hoc
            rw [← e]
            exact List.drop_eq_getElem_cons hi
          rw [hd] at he
          refine ⟨b2, _, rfl, SqT.of hb2, rfl, _, _, rfl, _, _, rfl, rfl, _, rfl, _, rfl, _, _, rfl, rfl, _, rfl, ?_⟩
          refine ite2 (fun hcx => ?_) (fun hcx => ?_)
          · have hlt : m % c.day < cl := by simpa using hcx
            refine ⟨_, rfl, _, rfl, _, _, rfl, rfl, _, rfl, _, rfl, _, _, rfl, _, _, rfl, rfl, ?_⟩
            have e3 : WP.enter c.day (some (pr :: prs)) m = some (m - m % c.day + (if o > m % c.day then o else m % c.day)) := by
              show (match WP.firstOpen (m % c.day) (pr :: prs) with | some y => some (m - m % c.day + y) | none => some (m - m % c.day + c.day + pr.1)) = _
              rw [he]
              unfold WP.firstOpen
              rw [if_pos (show m % c.day < (o, cl).2 from hlt)]
            rw [e3] at k
            exact k
          · have hlt : ¬ m % c.day < cl := by simpa using hcx
            refine ⟨_, _, rfl, rfl, ?_⟩
            rw [he]
            conv => lhs; unfold WP.firstOpen
            rw [if_neg (show ¬ m % c.day < (o, cl).2 from hlt)]
        · rintro σ H2 ⟨z1, z2, rfl, rfl, he⟩
          have hl := hP.length
          rw [List.drop_of_length_le (by omega)] at he
          obtain ⟨b2, q1, q2, hu0, hb2, e1, e2⟩ : ∃ b2 q1 q2, u0 = V.ref b2 ∧ H2 b2 = some (.tup [q1, q2]) ∧ q1 = V.int pr.1 ∧ q2 = V.int pr.2 := by
            cases hP with
            | cons h _ => exact h
          subst hu0 e1 e2
          refine ⟨_, rfl, _, rfl, _, _, rfl, rfl, _, rfl, p, a.cM, dx, fs, _, rfl, hp, T.clM, T.nM_day, hc.day, _, _, rfl, rfl, ?_⟩
          refine ⟨_, rfl, ah, _, 0, _, rfl, rfl, SqT.of hah, atI_nat (j := 0) rfl, b2, _, 0, _, rfl, rfl, SqT.of hb2, atI_nat (j := 0) rfl, _, _, rfl, rfl, ?_⟩
          have e3 : WP.enter c.day (some (pr :: prs)) m = some (m - m % c.day + c.day + pr.1) := by
            show (match WP.firstOpen (m % c.day) (pr :: prs) with | some y => some (m - m % c.day + y) | none => some (m - m % c.day + c.day + pr.1)) = _
            rw [he]
            rfl
          rw [e3] at k
          exact k
theorem ok_arrive (T : Txt K mg a) : FnOk P w K mg base CX0 3 a.arrive.f a.arrive.fd ["chart", "name", "moment"] (spArrive a.cM) := by
  refine T.arrive.fn.ok sc_arrive (fun vs H Q E h => ?_) (fun cdv A outer s H vs Q E hr h => ?_)
  · obtain ⟨p, c, n, r, m, rfl, _⟩ := h
    rfl
  · obtain ⟨p, c, n, r, m, rfl, hC, hf, hday, k⟩ := h
    obtain ⟨dx, fs, hp, hc⟩ := id hC
    obtain ⟨us, hus, hR⟩ := hc.roads
    refine ⟨_, pss_cons (ps_set (i := 3) sc_arrive.nd rfl (Or.inl rfl) (pe_call (ok_enter T) hr (by rfl) T.g_enter T.enter.fn.kp T.enter.bd .nil pass0 (pa_cons (pv 0) (pa_cons (pv 1) (pa_cons (pv 2) pa_nil)))))
      (pss_cons (ps_if (pt_cmp (pc_isN (pv 3))) (pss_one (ps_ret pe_non)) pss_nil)
      (pss_one (ps_ret (pe_op op_add (pv 3) (pe_ix ix_tup (pe_meth (pv 0) T.clM T.m_road (ok_road T) (hr.mono (by decide)) T.road.bd .nil pass0 (pa_cons (pv 1) pa_nil)) pe_int (fun _ _ => rfl)))))), ?_⟩
    refine ⟨_, rfl, _, rfl, _, rfl, p, c, n, r, m, rfl, hC, hf, hday, ?_⟩
    unfold WP.arrive at k
    refine ⟨_, rfl, _, rfl, ?_⟩
    cases he : WP.enter c.day r.hours m with
    | none =>
      rw [he] at k
      refine iteT ?_
      exact k
    | some t =>
      rw [he] at k
      refine iteF ?_
      refine ⟨_, rfl, _, rfl, p, dx, fs, rfl, hp, hc.meth _ (by decide +kernel), _, rfl, p, dx, fs, us, c.roads, n, r, rfl, hp, hus, hR, hf, fun v hv => ?_⟩
      obtain ⟨b, kk, hh, rfl, hb, _, hho⟩ := hv
      exact ⟨b, _, 3, _, rfl, rfl, SqT.of hb, atI_nat (j := 3) rfl, _, _, rfl, rfl, k⟩
end
end K17

set_option Elab.async false
set_option linter.all false
set_option maxRecDepth 100000
set_option maxHeartbeats 4000000
/-! Dicts from texts to numbers, as functions. -/
namespace K17
open PySem L2 WR

theorem mem_putK {kvs : List (Key × V)} {k : Key} {v : V} {kv : Key × V} (h : kv ∈ putK kvs k v) : kv ∈ kvs ∨ kv = (k, v) := by
  unfold putK at h
  split at h
  · obtain ⟨q, hq, e⟩ := List.mem_map.mp h
    by_cases c : q.1 = k
    · rw [if_pos c] at e
      subst e
      exact .inr (by rw [c])
    · rw [if_neg c] at e
      subst e
      exact .inl hq
  · rcases List.mem_append.mp h with h | h
    · exact .inl h
    · exact .inr (by simpa using h)
theorem nd_put {kvs : List (Key × V)} (k : Key) (v : V) (h : (kvs.map (·.1)).Nodup) : ((putK kvs k v).map (·.1)).Nodup := by
  cases e : valV kvs k with
  | none => exact nd_putK v h e
  | some z =>
    have q : (kvs.any fun kv => decide (kv.1 = k)) = true := by
      rw [valV_any, e]
      rfl
    unfold putK
    rw [if_pos q, List.map_map]
    have e2 : (kvs.map ((·.1) ∘ fun kv => if kv.1 = k then (kv.1, v) else kv)) = kvs.map (·.1) := by
      apply List.map_congr_left
      intro kv _
      show (if kv.1 = k then (kv.1, v) else kv).1 = kv.1
      split <;> rfl
    rw [e2]
    exact h
theorem valV_mem {kvs : List (Key × V)} {k : Key} {v : V} (h : valV kvs k = some v) : (k, v) ∈ kvs := by
  unfold valV at h
  cases e : kvs.find? fun kv => decide (kv.1 = k) with
  | none => rw [e] at h; cases h
  | some kv =>
    rw [e] at h
    have h1 := List.mem_of_find?_eq_some e
    have h2 : kv.1 = k := by simpa using List.find?_some e
    have h3 : kv.2 = v := Option.some.inj h
    rw [← h2, ← h3]
    exact h1
theorem valV_of_mem : ∀ {kvs : List (Key × V)} {k : Key} {v : V}, (kvs.map (·.1)).Nodup → (k, v) ∈ kvs → valV kvs k = some v
  | [], _, _, _, h => by cases h
  | p :: r, k, v, nd, h => by
    have nd : (p.1 :: r.map (·.1)).Nodup := nd
    obtain ⟨h1, h2⟩ := List.nodup_cons.mp nd
    rcases List.mem_cons.mp h with e | h
    · subst e
      exact valV_pos rfl
    · have hne : ¬ p.1 = k := fun e => h1 (by rw [e]; exact List.mem_map.mpr ⟨_, h, rfl⟩)
      rw [valV_neg hne]
      exact valV_of_mem h2 h
theorem valV_drop {k j : Key} : ∀ {kvs : List (Key × V)}, valV (dropK kvs k) j = if j = k then none else valV kvs j
  | [] => by
    split <;> rfl
  | p :: r => by
    by_cases e : p.1 = k
    · rw [dropK_pos e, valV_drop]
      by_cases c : j = k
      · rw [if_pos c, if_pos c]
      · rw [if_neg c, if_neg c, valV_neg (by rw [e]; exact fun z => c z.symm)]
    · rw [dropK_neg e]
      by_cases c : p.1 = j
      · rw [valV_pos c, valV_pos c, if_neg (by rw [← c]; exact e)]
      · rw [valV_neg c, valV_neg c, valV_drop]

/-- a dict from texts, all in ns, to numbers, as the function f -/
structure DRep (kvs : List (Key × V)) (f : Str → Option Int) (ns : List Str) : Prop where
  nd : (kvs.map (·.1)).Nodup
  keys : ∀ kv ∈ kvs, ∃ n t, kv = (Sum.inr n, V.int t) ∧ n ∈ ns
  val : ∀ n, valV kvs (Sum.inr n) = (f n).map V.int
/-- a dict from texts, all in ns, to what you like -/
structure SRep (kvs : List (Key × V)) (ns : List Str) : Prop where
  nd : (kvs.map (·.1)).Nodup
  keys : ∀ kv ∈ kvs, ∃ n, kv.1 = Sum.inr n ∧ n ∈ ns
theorem SRep.empty (ns : List Str) : SRep [] ns := ⟨List.nodup_nil, fun _ h => by cases h⟩
theorem SRep.put {kvs : List (Key × V)} {ns : List Str} (s : SRep kvs ns) {n : Str} (hn : n ∈ ns) (v : V) : SRep (putK kvs (Sum.inr n) v) ns :=
  ⟨nd_put _ _ s.nd, fun kv h => (mem_putK h).elim (s.keys kv) fun e => ⟨n, by rw [e], hn⟩⟩
theorem SRep.len {kvs : List (Key × V)} {ns : List Str} (s : SRep kvs ns) : kvs.length ≤ ns.length := by
  have h := WP.nodup_len (l := kvs.map (·.1)) (l' := ns.map (Sum.inr : Str → Key)) s.nd fun x hx => by
    obtain ⟨kv, hkv, e⟩ := List.mem_map.mp hx
    obtain ⟨n, e2, hn⟩ := s.keys kv hkv
    exact List.mem_map.mpr ⟨n, hn, by rw [← e2, e]⟩
  rw [List.length_map, List.length_map] at h
  exact h
theorem DRep.srep {kvs : List (Key × V)} {f : Str → Option Int} {ns : List Str} (d : DRep kvs f ns) : SRep kvs ns :=
  ⟨d.nd, fun kv h => let ⟨n, _, e, hn⟩ := d.keys kv h; ⟨n, by rw [e], hn⟩⟩
theorem DRep.len {kvs : List (Key × V)} {f : Str → Option Int} {ns : List Str} (d : DRep kvs f ns) : kvs.length ≤ ns.length := d.srep.len
theorem DRep.empty (ns : List Str) : DRep [] (fun _ => none) ns := ⟨List.nodup_nil, fun _ h => (by cases h), fun _ => rfl⟩
theorem inr_iff {a b : Str} : ((Sum.inr a : Key) = Sum.inr b) ↔ a = b := ⟨Sum.inr.inj, congrArg _⟩
theorem DRep.put {kvs : List (Key × V)} {f : Str → Option Int} {ns : List Str} (d : DRep kvs f ns) {n : Str} (hn : n ∈ ns) (t : Int) : DRep (putK kvs (Sum.inr n) (.int t)) (WP.put f n (some t)) ns := by
  refine ⟨nd_put _ _ d.nd, fun kv h => (mem_putK h).elim (d.keys kv) fun e => ⟨n, t, e, hn⟩, fun m => ?_⟩
  rw [valV_put, d.val m]
  by_cases e : m = n
  · subst e
    rw [if_pos rfl, WP.put_same]
    rfl
  · rw [if_neg (fun z => e (Sum.inr.inj z)), WP.put_ne e]
theorem DRep.drop {kvs : List (Key × V)} {f : Str → Option Int} {ns : List Str} (d : DRep kvs f ns) (n : Str) : DRep (dropK kvs (Sum.inr n)) (WP.put f n none) ns := by
  refine ⟨nd_dropK d.nd, fun kv h => d.keys kv (dropK_mem h), fun m => ?_⟩
  rw [valV_drop, d.val m]
  by_cases e : m = n
  · subst e
    rw [if_pos rfl, WP.put_same]
    rfl
  · rw [if_neg (fun z => e (Sum.inr.inj z)), WP.put_ne e]
theorem DRep.key {kvs : List (Key × V)} {f : Str → Option Int} {ns : List Str} (d : DRep kvs f ns) {n : Str} {t : Int} (h : f n = some t) : n ∈ ns := by
  have h1 := d.val n
  rw [h] at h1
  obtain ⟨n', t', e, hn⟩ := d.keys _ (valV_mem h1)
  injection e with e1 e2
  injection e1 with e1
  subst e1
  exact hn
theorem DRep.pairs {kvs : List (Key × V)} {f : Str → Option Int} {ns : List Str} (d : DRep kvs f ns) : ∃ ps : List (Int × Str), kvs = ps.map (fun p => ((Sum.inr p.2 : Key), V.int p.1)) ∧ ∀ t n, (t, n) ∈ ps ↔ f n = some t := by
  obtain ⟨ps, e⟩ : ∃ ps : List (Int × Str), kvs = ps.map (fun p => ((Sum.inr p.2 : Key), V.int p.1)) := by
    have hk := d.keys
    clear d
    induction kvs with
    | nil => exact ⟨[], rfl⟩
    | cons kv r ih =>
      obtain ⟨ps, e⟩ := ih fun q hq => hk q (by simp [hq])
      obtain ⟨n, t, e2, _⟩ := hk kv (by simp)
      exact ⟨(t, n) :: ps, by rw [e2, e]; rfl⟩
  refine ⟨ps, e, fun t n => ⟨fun h => ?_, fun h => ?_⟩⟩
  · have h1 : ((Sum.inr n : Key), V.int t) ∈ kvs := by
      rw [e]
      exact List.mem_map.mpr ⟨_, h, rfl⟩
    have h2 := valV_of_mem d.nd h1
    rw [d.val] at h2
    cases q : f n with
    | none => rw [q] at h2; cases h2
    | some u =>
      rw [q] at h2
      have h3 : V.int u = V.int t := Option.some.inj h2
      injection h3 with h3
      rw [h3]
  · have h1 := d.val n
    rw [h] at h1
    have h2 := valV_mem h1
    rw [e] at h2
    obtain ⟨p, hp, e2⟩ := List.mem_map.mp h2
    injection e2 with e3 e4
    injection e3 with e3
    injection e4 with e4
    have : p = (t, n) := Prod.ext e4 e3
    rw [← this]
    exact hp
theorem DRep.isEmpty {kvs : List (Key × V)} {f : Str → Option Int} {ns : List Str} (d : DRep kvs f ns) (h : kvs = []) (n : Str) : f n = none := by
  have h1 := d.val n
  rw [h] at h1
  cases q : f n with
  | none => rfl
  | some t => rw [q] at h1; cases h1
end K17

set_option Elab.async false
set_option linter.all false
set_option maxRecDepth 100000
set_option maxHeartbeats 4000000
/-! The search: offer. -/
namespace K17
open PySem L2 WR

/-- a search's attributes, as __init__ stores them -/
def srchF (ch : Addr) (k : Str) (da ds dw : Addr) : List (Str × V) := putF "waiting" (.ref dw) (putF "sources" (.ref ds) (putF "arrivals" (.ref da) (putF "kind" (.str k) (putF "chart" (.ref ch) []))))
section
variable {ch da ds dw : Addr} {k : Str}
theorem srch_chart : (srchF ch k da ds dw).lookup ("chart" : Str) = some (.ref ch) := by
  unfold srchF
  rw [lookup_putF, if_neg (by decide +kernel), lookup_putF, if_neg (by decide +kernel), lookup_putF, if_neg (by decide +kernel), lookup_putF, if_neg (by decide +kernel), lookup_putF, if_pos rfl]
theorem srch_kind : (srchF ch k da ds dw).lookup ("kind" : Str) = some (.str k) := by
  unfold srchF
  rw [lookup_putF, if_neg (by decide +kernel), lookup_putF, if_neg (by decide +kernel), lookup_putF, if_neg (by decide +kernel), lookup_putF, if_pos rfl]
theorem srch_arrivals : (srchF ch k da ds dw).lookup ("arrivals" : Str) = some (.ref da) := by
  unfold srchF
  rw [lookup_putF, if_neg (by decide +kernel), lookup_putF, if_neg (by decide +kernel), lookup_putF, if_pos rfl]
theorem srch_sources : (srchF ch k da ds dw).lookup ("sources" : Str) = some (.ref ds) := by
  unfold srchF
  rw [lookup_putF, if_neg (by decide +kernel), lookup_putF, if_pos rfl]
theorem srch_waiting : (srchF ch k da ds dw).lookup ("waiting" : Str) = some (.ref dw) := by
  unfold srchF
  rw [lookup_putF, if_pos rfl]
theorem srch_offer : (srchF ch k da ds dw).lookup ("offer" : Str) = none := by
  unfold srchF
  rw [lookup_putF, if_neg (by decide +kernel), lookup_putF, if_neg (by decide +kernel), lookup_putF, if_neg (by decide +kernel), lookup_putF, if_neg (by decide +kernel), lookup_putF, if_neg (by decide +kernel)]
  rfl
theorem srch_settle : (srchF ch k da ds dw).lookup ("settle" : Str) = none := by
  unfold srchF
  rw [lookup_putF, if_neg (by decide +kernel), lookup_putF, if_neg (by decide +kernel), lookup_putF, if_neg (by decide +kernel), lookup_putF, if_neg (by decide +kernel), lookup_putF, if_neg (by decide +kernel)]
  rfl
end
/-- the search's three dicts -/
structure Dicts (H : Hp) (da ds dw : Addr) (ns : List Str) (A W : Str → Option Int) : Prop where
  a : ∃ kA, H da = some (.dK kA) ∧ DRep kA A ns
  s : ∃ kS, H ds = some (.dK kS) ∧ SRep kS ns
  w : ∃ kW, H dw = some (.dK kW) ∧ DRep kW W ns
  as : da ≠ ds
  aw : da ≠ dw
  sw : ds ≠ dw
/-- all but the three dicts stays -/
def Keep3 (da ds dw : Addr) (H H' : Hp) : Prop := ∀ b o, H b = some o → b ≠ da → b ≠ ds → b ≠ dw → H' b = some o
/-- all but dicts stays -/
def KeepD (H H' : Hp) : Prop := ∀ b o, H b = some o → (∀ kvs, o ≠ .dK kvs) → H' b = some o
theorem Keep3.keepD {H H' : Hp} {da ds dw : Addr} {ns : List Str} {A W : Str → Option Int} (d : Dicts H da ds dw ns A W) (k : Keep3 da ds dw H H') : KeepD H H' := fun b o e hn => by
  obtain ⟨kA, hA, _⟩ := d.a
  obtain ⟨kS, hS, _⟩ := d.s
  obtain ⟨kW, hW, _⟩ := d.w
  exact k b o e (ne_of e hA (hn _)) (ne_of e hS (hn _)) (ne_of e hW (hn _))
theorem KeepD.tups {H H' : Hp} (k : KeepD H H') : Tups H H' := fun b xs e => k b _ e fun kvs z => by cases z
theorem KeepD.chart {H H' : Hp} (k : KeepD H H') {C p : Addr} {c : Chart} (h : ChartAt C H p c) : ChartAt C H' p c := by
  obtain ⟨dx, fs, hp, hc⟩ := h
  exact ⟨dx, fs, k _ _ hp (fun kvs z => by cases z), hc.up k.tups⟩
theorem KeepD.of {H H' : Hp} (s : Same H H') : KeepD H H' := fun b o e _ => s b o e
theorem KeepD.trans {H H1 H2 : Hp} (a : KeepD H H1) (b : KeepD H1 H2) : KeepD H H2 := fun c o e n => b c o (a c o e n) n
theorem Keep3.refl {da ds dw : Addr} (H : Hp) : Keep3 da ds dw H H := fun _ _ e _ _ _ => e
theorem Keep3.trans {da ds dw : Addr} {H H1 H2 : Hp} (a : Keep3 da ds dw H H1) (b : Keep3 da ds dw H1 H2) : Keep3 da ds dw H H2 := fun c o e h1 h2 h3 => b c o (a c o e h1 h2 h3) h1 h2 h3
theorem Keep3.of {da ds dw : Addr} {H H' : Hp} (s : Same H H') : Keep3 da ds dw H H' := fun b o e _ _ _ => s b o e

/-- what a search is asked over -/
structure Asked (c : Chart) (k : Str) : Prop where
  ok : WP.ChartOk c
  kind : k ∈ c.kinds
theorem find_of {c : Chart} (ok : WP.ChartOk c) {r : Road} (h : r ∈ c.roads) : find c.roads r.name = some r := by
  cases e : find c.roads r.name with
  | none =>
    unfold find at e
    rw [List.find?_eq_none] at e
    exact absurd (decide_eq_true (rfl : r.name = r.name)) (e r h)
  | some r' =>
    obtain ⟨h1, h2⟩ := find_name e
    rw [ok.same r' h1 r h h2]

def names (c : Chart) : List Str := c.roads.map (·.name)
theorem name_find {c : Chart} (ok : WP.ChartOk c) {n : Str} (h : n ∈ names c) : ∃ r, find c.roads n = some r := by
  obtain ⟨r, hr, e⟩ := List.mem_map.mp h
  exact ⟨r, by rw [← e]; exact find_of ok hr⟩
theorem names_len (c : Chart) : (names c).length = c.roads.length := List.length_map _

def spOffer (CM CS : Addr) : Sp := fun vs H Q _ => ∃ (p l dx ch da ds dw : Addr) (m : Int) (src : V) (c : Chart) (k : Str) (ns : List Str) (A W : Str → Option Int),
  vs = [.ref p, .ref l, .int m, src] ∧ H p = some (.ins CS dx (srchF ch k da ds dw)) ∧ Dicts H da ds dw (names c) A W ∧ ChartAt CM H ch c ∧ Asked c k ∧ H l = some (.lst (ns.map V.str)) ∧ (∀ n ∈ ns, n ∈ names c) ∧
  ∀ (H' : Hp) (W' : Str → Option Int), Keep3 da ds dw H H' → Dicts H' da ds dw (names c) A W' → WP.Offered c k A W ns m W' → Q .non H'

section
variable {P : Program} {w : World} {K : PySem.W.Frag} {mg : Str → Option Value} {base : Heap} {a : Adr}
theorem ok_offer (T : Txt K mg a) : FnOk P w K mg base CX0 4 a.sOffer.f a.sOffer.fd ["self", "names", "moment", "source"] (spOffer a.cM a.cS) := by
  refine T.sOffer.fn.ok sc_sOffer (fun vs H Q E h => ?_) (fun cdv A outer s H vs Q E hr h => ?_)
  · obtain ⟨p, l, dx, ch, da, ds, dw, m, src, c, k, ns, A, W, rfl, _⟩ := h
    rfl
  · obtain ⟨p, l, dx, ch, da, ds, dw, m, src, c, k, ns, Aa, W, rfl, hp, D0, hC, hk, hl, hns, kq⟩ := h
    have hu := hu_of hr
    refine ⟨_, pss_one (ps_for PassesOwn.never rfl (pi_list (pv 1)) (pg_name (i := 4) sc_sOffer.nd rfl (Or.inl rfl))
      (pss_cons (ps_if (PW.pt (pw_or (pt_cmp (pc_din hu (pv 4) (pe_fld (pv 0) rfl))) (pw_or1 (pt_not (pt_val (pe_meth (pe_fld (pv 0) rfl) T.clM T.m_mayUse (ok_mayUse T) (hr.mono (by decide)) T.mayUse.bd .nil pass0 (pa_cons (pe_fld (pv 0) rfl) (pa_cons (pv 4) pa_nil)))))))) (pss_one ps_continue) pss_nil)
      (pss_cons (ps_set (i := 5) sc_sOffer.nd rfl (Or.inl rfl) (pe_call (ok_arrive T) hr (by rfl) T.g_arrive T.arrive.fn.kp T.arrive.bd .nil pass0 (pa_cons (pe_fld (pv 0) rfl) (pa_cons (pv 4) (pa_cons (pv 2) pa_nil)))))
      (pss_one (ps_if (PW.pt (pw_and (pt_cmp (pc_notN (pv 5))) (pw_and1 (PW.pt (pw_or (pt_cmp (pc_dnotin hu (pv 4) (pe_fld (pv 0) rfl))) (pw_or1 (pt_cmpR op_lt (pv 5) (pe_dget hu (pe_fld (pv 0) rfl) (pv 4) (fun _ _ => rfl)) (nomark _))))))))
        (pss_cons (ps_dput hu (pe_fld (pv 0) rfl) (pv 4) (pv 5) rfl) (pss_one (ps_dput hu (pe_fld (pv 0) rfl) (pv 4) (pv 3) rfl))) pss_nil))))), ?_⟩
    have kl : ∀ {H' : Hp}, Keep3 da ds dw H H' → H' l = some (.lst (ns.map V.str)) := fun {H'} kp => kp.keepD D0 _ _ hl fun kvs z => by cases z
    have kpp : ∀ {H' : Hp}, Keep3 da ds dw H H' → H' p = some (.ins a.cS dx (srchF ch k da ds dw)) := fun {H'} kp => kp.keepD D0 _ _ hp fun kvs z => by cases z
    refine ⟨_, rfl, l, rfl, ⟨_, SqL.of hl⟩, for_list (K := K) (a := l) (xs := ns.map V.str) (fun i σ H2 => ∃ z1 z2 W', σ = [some (.ref p), some (.ref l), some (.int m), some src, z1, z2] ∧ Keep3 da ds dw H H2 ∧
      Dicts H2 da ds dw (names c) Aa W' ∧ WP.Offered c k Aa W (ns.take i) m W') ⟨none, none, W, rfl, Keep3.refl H, D0, WP.Offered.nil⟩ (fun i σ H2 _ ⟨_, _, _, _, kp, _⟩ => SqL.of (kl kp)) ?_ ?_⟩
    · rintro i x σ H2 hx ⟨z1, z2, W', rfl, kp, D2, hO⟩
      rw [List.getElem?_map] at hx
      obtain ⟨n, hn, rfl⟩ : ∃ n, ns[i]? = some n ∧ V.str n = x := by
        cases q : ns[i]? with
        | none => rw [q] at hx; cases hx
        | some o => rw [q] at hx; exact ⟨o, rfl, Option.some.inj hx⟩
      have hnn := hns n (List.mem_of_getElem? hn)
      obtain ⟨r, hf⟩ := name_find hk.ok hnn
      obtain ⟨hrm, hrn⟩ := find_name hf
      have hC2 : ChartAt a.cM H2 ch c := (kp.keepD D0).chart hC
      have hp2 := kpp kp
      obtain ⟨kA, hA, rA⟩ := D2.a
      obtain ⟨kS, hS, rS⟩ := D2.s
      obtain ⟨kW, hW, rW⟩ := D2.w
      obtain ⟨dxm, fsm, hch, hcf⟩ := id hC2
      have eu : ∀ r' ∈ c.roads, r'.name = n → r' = r := fun r' h1 h2 => hk.ok.same r' h1 r hrm (h2.trans hrn.symm)
      have few := hcf.few
      have hlW := rW.len
      have hlS := rS.len
      rw [names_len] at hlW hlS
      rw [take_snoc hn]
      -- name in self.arrivals
      refine ⟨_, rfl, _, rfl, p, a.cS, dx, _, _, rfl, hp2, T.clS, T.nS_arrivals, srch_arrivals, da, _, rfl, DGet.k (k := Sum.inr n) hA, _, rfl, ?_⟩
      rw [rA.val n]
      cases eA : Aa n with
      | some tA =>
        refine iteT ?_
        refine iteT ?_
        exact ⟨_, _, W', rfl, kp, D2, hO.skip fun z => by rw [eA] at z; cases z⟩
      | none =>
        refine iteF ?_
        -- not self.chart.may_use(self.kind, name)
        refine ⟨_, rfl, p, a.cS, dx, _, _, rfl, hp2, T.clS, T.nS_chart, srch_chart, ch, dxm, fsm, rfl, hch, hcf.meth _ (by decide +kernel), _, rfl, p, a.cS, dx, _, _, rfl, hp2, T.clS, T.nS_kind, srch_kind, _, rfl, ?_⟩
        refine ⟨ch, c, k, n, r, rfl, hC2, hk.kind, hf, _, rfl, ?_⟩
        by_cases hkr : k ∈ r.kinds
        · rw [decide_eq_true hkr]
          refine iteF ?_
          -- arrival = arrive(self.chart, name, moment)
          refine ⟨_, rfl, p, a.cS, dx, _, _, rfl, hp2, T.clS, T.nS_chart, srch_chart, _, rfl, _, rfl, ch, c, n, r, m, rfl, hC2, hf, hk.ok.day, ?_⟩
          cases ev : WP.arrive c.day r m with
          | none =>
            refine ⟨_, rfl, _, rfl, ?_⟩
            refine iteF ?_
            refine iteF ?_
            refine ⟨_, _, W', rfl, kp, D2, hO.skip fun _ r' h1 h2 h3 v hv => ?_⟩
            rw [eu r' h1 h2, ev] at hv
            cases hv
          | some v =>
            refine ⟨_, rfl, _, rfl, ?_⟩
            refine iteT ?_
            -- name not in self.waiting
            refine ⟨_, rfl, _, rfl, p, a.cS, dx, _, _, rfl, hp2, T.clS, T.nS_waiting, srch_waiting, dw, _, rfl, DGet.k (k := Sum.inr n) hW, _, rfl, ?_⟩
            -- both stores
            have store : (∀ t', W' n = some t' → v < t') → ∃ z1 z2 W2, [some (V.ref p), some (.ref l), some (.int m), some src, some (.str n), some (.int v)] = [some (V.ref p), some (.ref l), some (.int m), some src, z1, z2] ∧
                Keep3 da ds dw H (upd (upd H2 dw (.dK (putK kW (Sum.inr n) (.int v)))) ds (.dK (putK kS (Sum.inr n) src))) ∧ Dicts (upd (upd H2 dw (.dK (putK kW (Sum.inr n) (.int v)))) ds (.dK (putK kS (Sum.inr n) src))) da ds dw (names c) Aa W2 ∧ WP.Offered c k Aa W (ns.take i ++ [n]) m W2 := fun hless => by
              refine ⟨_, _, WP.put W' n (some v), rfl, fun b o e h1 h2 h3 => ?_, ⟨⟨kA, ?_, rA⟩, ⟨_, upd_same, rS.put hnn src⟩, ⟨_, ?_, rW.put hnn v⟩, D2.as, D2.aw, D2.sw⟩, ?_⟩
              · rw [upd_ne h2, upd_ne h3]
                exact kp b o e h1 h2 h3
              · rw [upd_ne D2.as, upd_ne D2.aw]
                exact hA
              · rw [upd_ne D2.sw.symm, upd_same]
              · have h := hO.note (r := r) (t := v) hk.ok.same hrm (by rw [hrn]; exact eA) hkr ev (by rw [hrn]; exact hless)
                rw [hrn] at h
                exact h
            have puts : (∀ t', W' n = some t' → v < t') → ∃ x, ([some (V.ref p), some (.ref l), some (.int m), some src, some (.str n), some (.int v)] : L2.St)[5]? = some (some x) ∧ True := fun _ => ⟨_, rfl, trivial⟩
            rw [rW.val n]
            cases eW : W' n with
            | none =>
              refine iteT ?_
              refine iteT ?_
              refine ⟨_, rfl, _, rfl, p, a.cS, dx, _, _, rfl, hp2, T.clS, T.nS_waiting, srch_waiting, _, rfl, dw, _, rfl, DPut.k (k := Sum.inr n) hW (size60 (by omega)), ?_⟩
              refine ⟨_, rfl, _, rfl, p, a.cS, dx, _, _, rfl, (by rw [upd_ne (ne_of hp2 hW fun z => by cases z)]; exact hp2), T.clS, T.nS_sources, srch_sources, _, rfl, ds, _, rfl, DPut.k (k := Sum.inr n) (by rw [upd_ne D2.sw]; exact hS) (size60 (by omega)), ?_⟩
              exact store fun t' z => by rw [eW] at z; cases z
            | some tw =>
              refine iteF ?_
              refine ⟨_, rfl, _, rfl, p, a.cS, dx, _, _, rfl, hp2, T.clS, T.nS_waiting, srch_waiting, _, rfl, dw, .int tw, rfl, (by
                have h := DGet.k (k := Sum.inr n) hW
                rw [rW.val n, eW] at h
                exact h), _, _, rfl, rfl, _, rfl, ?_⟩
              refine ite2 (fun hc => ?_) (fun hc => ?_)
              · have hlt : v < tw := by simpa using hc
                refine ⟨_, rfl, _, rfl, p, a.cS, dx, _, _, rfl, hp2, T.clS, T.nS_waiting, srch_waiting, _, rfl, dw, _, rfl, DPut.k (k := Sum.inr n) hW (size60 (by omega)), ?_⟩
                refine ⟨_, rfl, _, rfl, p, a.cS, dx, _, _, rfl, (by rw [upd_ne (ne_of hp2 hW fun z => by cases z)]; exact hp2), T.clS, T.nS_sources, srch_sources, _, rfl, ds, _, rfl, DPut.k (k := Sum.inr n) (by rw [upd_ne D2.sw]; exact hS) (size60 (by omega)), ?_⟩
                exact store fun t' z => by rw [eW] at z; cases z; exact hlt
              · have hle : ¬ v < tw := by simpa using hc
                refine ⟨_, _, W', rfl, kp, D2, hO.skip fun _ r' h1 h2 h3 v' hv => ?_⟩
                rw [eu r' h1 h2, ev] at hv
                cases hv
                exact ⟨tw, by omega, eW⟩
        · rw [decide_eq_false hkr]
          refine iteT ?_
          refine ⟨_, _, W', rfl, kp, D2, hO.skip fun _ r' h1 h2 h3 => ?_⟩
          rw [eu r' h1 h2] at h3
          exact absurd h3 hkr
    · rintro σ H2 ⟨z1, z2, W', rfl, kp, D2, hO⟩
      rw [List.length_map, List.take_length] at hO
      exact kq H2 W' kp D2 hO
end
end K17

set_option Elab.async false
set_option linter.all false
set_option maxRecDepth 100000
set_option maxHeartbeats 4000000
/-! The search: settle, __init__. -/
namespace K17
open PySem L2 WR

theorem fol_iff {c : Chart} (ok : WP.ChartOk c) (r : Road) : ∀ r' ∈ c.roads, (r'.name ∈ folNames c r ↔ (r'.start = r.stop ∧ (r.name, r'.name) ∉ c.bars)) := fun r' hr' => by
  unfold folNames fromNames
  rw [List.mem_filter, List.mem_map]
  constructor
  · rintro ⟨⟨q, hq, e⟩, hb⟩
    obtain ⟨hq1, hq2⟩ := List.mem_filter.mp hq
    have e2 := ok.same q hq1 r' hr' e
    subst e2
    exact ⟨by simpa using hq2, by simpa using hb⟩
  · rintro ⟨h1, h2⟩
    exact ⟨⟨r', List.mem_filter.mpr ⟨hr', by simpa using h1⟩, rfl⟩, by simpa using h2⟩
theorem fol_names {c : Chart} (r : Road) : ∀ n ∈ folNames c r, n ∈ names c := fun n h => by
  obtain ⟨h1, _⟩ := List.mem_filter.mp h
  obtain ⟨q, hq, e⟩ := List.mem_map.mp h1
  exact List.mem_map.mpr ⟨q, (List.mem_filter.mp hq).1, e⟩
theorem from_iff {c : Chart} (ok : WP.ChartOk c) (x : Str) : ∀ r' ∈ c.roads, (r'.name ∈ fromNames c.roads x ↔ r'.start = x) := fun r' hr' => by
  unfold fromNames
  rw [List.mem_map]
  constructor
  · rintro ⟨q, hq, e⟩
    obtain ⟨hq1, hq2⟩ := List.mem_filter.mp hq
    have e2 := ok.same q hq1 r' hr' e
    subst e2
    simpa using hq2
  · intro h1
    exact ⟨r', List.mem_filter.mpr ⟨hr', by simpa using h1⟩, rfl⟩
theorem from_names {c : Chart} (x : Str) : ∀ n ∈ fromNames c.roads x, n ∈ names c := fun n h => by
  obtain ⟨q, hq, e⟩ := List.mem_map.mp h
  exact List.mem_map.mpr ⟨q, (List.mem_filter.mp hq).1, e⟩

def spSettle (CM CS : Addr) : Sp := fun vs H Q _ => ∃ (p dx ch da ds dw : Addr) (c : Chart) (k x : Str) (m : Int) (A W : Str → Option Int),
  vs = [.ref p] ∧ H p = some (.ins CS dx (srchF ch k da ds dw)) ∧ Dicts H da ds dw (names c) A W ∧ ChartAt CM H ch c ∧ Asked c k ∧ WP.DInv c k x m A W ∧ (∃ n t, W n = some t) ∧
  ∀ (H' : Hp) (A' W' : Str → Option Int), Keep3 da ds dw H H' → Dicts H' da ds dw (names c) A' W' → WP.DInv c k x m A' W' → WP.left (names c) A' < WP.left (names c) A → Q .non H'

section
variable {P : Program} {w : World} {K : PySem.W.Frag} {mg : Str → Option Value} {base : Heap} {a : Adr}
theorem ok_settle (T : Txt K mg a) : FnOk P w K mg base CX0 5 a.sSettle.f a.sSettle.fd ["self"] (spSettle a.cM a.cS) := by
  refine T.sSettle.fn.ok sc_sSettle (fun vs H Q E h => ?_) (fun cdv A outer s H vs Q E hr h => ?_)
  · obtain ⟨p, dx, ch, da, ds, dw, c, k, x, m, Aa, W, rfl, _⟩ := h
    rfl
  · obtain ⟨p, dx, ch, da, ds, dw, c, k, x, m, Aa, W, rfl, hp, D0, hC, hk, dI, hne, kq⟩ := h
    have hu := hu_of hr
    obtain ⟨kA, hA, rA⟩ := D0.a
    obtain ⟨kS, hS, rS⟩ := D0.s
    obtain ⟨kW, hW, rW⟩ := D0.w
    obtain ⟨ps, eps, hps⟩ := rW.pairs
    obtain ⟨dxm, fsm, hch, hcf⟩ := id hC
    have few := hcf.few
    have hlW := rW.len
    have hlA := rA.len
    rw [names_len] at hlW hlA
    refine ⟨_, pss_cons (ps_asg (pe_callB (cr_minP rfl (hu2 hr)) (by rfl) T.b_min (by decide +kernel) (pa_cons (pe_lock (pe_lc (own := [("name", 1), ("arrival", 2)]) (g := gTup K 2 (gCons (gName 1) (gCons (gName 2) gNil))) (tt := tYes) (te := tTup (tCons (tVar 2) (tCons (tVar 1) tNil))) rfl sc_sSettle.nd (pi_items (pe_fld (pv 0) rfl))
        (blkOk_by (own := [("name", 1), ("arrival", 2)]) (N := ["self", "name", "arrival"]) (sc := defScope st_sSettle) (by decide +kernel))
        (fun _ _ _ _ _ => pg_tup rfl (pgs_cons (pg_name (i := 1) sc_sSettle.nd rfl (Or.inl rfl)) (pgs_cons (pg_name (i := 2) sc_sSettle.nd rfl (Or.inl rfl)) pgs_nil))) (fun _ _ _ _ _ => pts_nil) (fun _ _ _ _ _ => pe_tup (pa_cons (pv 2) (pa_cons (pv 1) pa_nil))))) pa_nil))
        (pg_tup rfl (pgs_cons (pg_name (i := 2) sc_sSettle.nd rfl (Or.inl rfl)) (pgs_cons (pg_name (i := 1) sc_sSettle.nd rfl (Or.inl rfl)) pgs_nil))))
      (pss_cons (ps_expr (pe_dpop1 (pe_fld (pv 0) rfl) (pv 1) ⟨rfl, rfl, rfl, rfl⟩))
      (pss_cons (ps_dput hu (pe_fld (pv 0) rfl) (pv 1) (pv 2) rfl)
      (pss_one (ps_expr (pe_meth (pv 0) T.clS T.m_sOffer (ok_offer T) hr T.sOffer.bd .nil pass0 (pa_cons (pe_meth (pe_fld (pv 0) rfl) T.clM T.m_followers (ok_followers T) (hr.mono (by decide)) T.followers.bd .nil pass0 (pa_cons (pv 1) pa_nil)) (pa_cons (pv 2) (pa_cons (pv 1) pa_nil)))))))), ?_⟩
    refine ⟨dw, _, hW, trivial, fun od => ?_⟩
    have hpL : ∀ o, (upd H dw o) p = some (.ins a.cS dx (srchF ch k da ds dw)) := fun o => by rw [upd_ne (ne_of hp hW fun z => by cases z)]; exact hp
    refine ⟨_, rfl, p, a.cS, dx, _, _, rfl, hpL _, T.clS, T.nS_waiting, srch_waiting, dw, od, kW, rfl, upd_same, fun D hD => lc_it walk_items
      (fun i H2 => ∃ us, H2 D = some (.lst us) ∧ Paired (HV.hv H2) us (ps.take i) ∧ Same (upd H dw (.frz od (.dK kW))) H2) ⟨[], upd_same, .nil, Same.new hD⟩ (fun i H2 _ ⟨_, _, _, s2⟩ => s2 _ _ upd_same) ?_ ?_⟩
    · rintro i z H2 H' hi ⟨us, hD2, hP, s2⟩ ⟨Tq, x1, y1, rfl, hTq, rfl, e1, e2⟩
      have hips : i < ps.length := by rw [eps, List.length_map] at hi; exact hi
      obtain ⟨⟨t, n⟩, hpi⟩ : ∃ q, ps[i]? = some q := ⟨_, List.getElem?_eq_getElem hips⟩
      have hkw : kW[i]? = some ((Sum.inr n : Key), V.int t) := by rw [eps, List.getElem?_map, hpi]; rfl
      have e1 : (kW[i]?.map fun kv => kV kv.1) = some x1 := e1
      have e2 : (kW[i]?.map Prod.snd) = some y1 := e2
      rw [hkw] at e1 e2
      obtain rfl : V.str n = x1 := Option.some.inj e1
      obtain rfl : V.int t = y1 := Option.some.inj e2
      refine ⟨Tq, _, rfl, SqT.of upd_same, rfl, _, _, rfl, _, _, rfl, rfl, rfl, tYes_if ?_⟩
      refine ⟨_, rfl, _, rfl, (by show 2 ≤ sizeLine; decide), fun u hu => ?_⟩
      obtain ⟨nuT, hu2⟩ := free_upd hu
      have hus := hP.length
      rw [List.length_take] at hus
      have hDu : (upd (upd H2 Tq (.tup [.str n, .int t])) u (.tup [.int t, .str n])) D = some (.lst us) := by
        rw [upd_ne (ne_of_none hD2 hu2), upd_ne (ne_of_none hD2 hTq)]
        exact hD2
      have tup24 : Tups H2 (upd (upd (upd H2 Tq (.tup [.str n, .int t])) u (.tup [.int t, .str n])) D (.lst (us ++ [.ref u]))) :=
        Tups.trans (Tups.trans (Tups.new hTq) (Tups.new hu)) (Tups.set hDu fun xs z => by cases z)
      refine ⟨us, hDu, size60 (by omega), us ++ [.ref u], upd_same, ?_, fun b o e => ?_⟩
      · rw [take_snoc hpi]
        refine Paired.app (hvs_up tup24 hP) (Paired.one ⟨u, _, _, rfl, ?_, rfl, rfl⟩)
        rw [upd_ne (ne_of_none hD2 hu2).symm, upd_same]
      · have h1 := s2 b o e
        rw [upd_ne (ne_of_none e hD), upd_ne (ne_of_none h1 hu2), upd_ne (ne_of_none h1 hTq)]
        exact h1
    · rintro H2 ⟨us, hD2, hP, s2⟩
      refine ⟨s2 _ _ upd_same, ?_⟩
      have ekl : kW.length = ps.length := by rw [eps, List.length_map]
      rw [ekl, List.take_length] at hP
      have hdwD : D ≠ dw := fun e => by
        rw [e, upd_same] at hD
        cases hD
      have s5 : Same H (upd H2 dw (.dK kW)) := fun b o e => by
        by_cases q : b = dw
        · subst q
          rw [hW] at e
          rw [upd_same]
          exact e
        · rw [upd_ne q]
          exact s2 b o (by rw [upd_ne q]; exact e)
      have tup25 : Tups H2 (upd H2 dw (.dK kW)) := Tups.set (s2 _ _ upd_same) fun xs z => by cases z
      have hDn : H D = none := by rw [upd_ne hdwD] at hD; exact hD
      have hpne : ps ≠ [] := fun e => by
        obtain ⟨n, t, h⟩ := hne
        have h2 := (hps t n).mpr h
        rw [e] at h2
        cases h2
      refine ⟨D, us, ps, rfl, SqL.of (by rw [upd_ne hdwD]; exact hD2), hvs_up tup25 hP, hpne, fun v pr hv hx hvx least => ?_⟩
      obtain ⟨t, n⟩ := pr
      obtain ⟨a2, q1, q2, rfl, ha2, eq1, eq2⟩ := hvx
      obtain rfl : q1 = V.int t := eq1
      obtain rfl : q2 = V.str n := eq2
      generalize hH5 : upd H2 dw (.dK kW) = H5 at s5 ha2
      refine ⟨a2, _, rfl, SqT.of ha2, rfl, _, _, rfl, _, _, rfl, rfl, ?_⟩
      have hWn : W n = some t := (hps t n).mp hx
      have hnn : n ∈ names c := rW.key hWn
      obtain ⟨r, hf⟩ := name_find hk.ok hnn
      obtain ⟨hrm, hrn⟩ := find_name hf
      -- self.waiting.pop(name)
      have hvW : valV kW (Sum.inr n) = some (.int t) := by rw [rW.val n, hWn]; rfl
      refine ⟨_, rfl, p, a.cS, dx, _, _, rfl, s5 _ _ hp, T.clS, T.nS_waiting, srch_waiting, dw, rfl, .inl ⟨kW, .inl (s5 _ _ hW)⟩, _, rfl, kW, Sum.inr n, _, s5 _ _ hW, rfl, hvW, ?_⟩
      -- self.arrivals[name] = arrival
      have hA5 := s5 _ _ hA
      have hS5 := s5 _ _ hS
      have hp5 := s5 _ _ hp
      have hpw : p ≠ dw := ne_of hp hW fun z => by cases z
      have hpa : p ≠ da := ne_of hp hA fun z => by cases z
      refine ⟨_, rfl, _, rfl, p, a.cS, dx, _, _, rfl, (by rw [upd_ne hpw]; exact hp5), T.clS, T.nS_arrivals, srch_arrivals, _, rfl, da, _, rfl, DPut.k (k := Sum.inr n) (by rw [upd_ne D0.aw]; exact hA5) (size60 (by omega)), ?_⟩
      -- self.offer(self.chart.followers(name), arrival, name)
      generalize hH6 : upd (upd H5 dw (.dK (dropK kW (Sum.inr n)))) da (.dK (putK kA (Sum.inr n) (.int t))) = H6
      have h6p : H6 p = some (.ins a.cS dx (srchF ch k da ds dw)) := by rw [← hH6, upd_ne hpa, upd_ne hpw]; exact hp5
      have k6 : Keep3 da ds dw H H6 := fun b o e h1 h2 h3 => by
        rw [← hH6, upd_ne h1, upd_ne h3]
        exact s5 b o e
      have hC6 := (k6.keepD D0).chart hC
      obtain ⟨dxm6, fsm6, hch6, hcf6⟩ := id hC6
      have D6 : Dicts H6 da ds dw (names c) (WP.put Aa n (some t)) (WP.put W n none) := by
        refine ⟨⟨_, by rw [← hH6]; exact upd_same, rA.put hnn t⟩, ⟨kS, ?_, rS⟩, ⟨_, ?_, rW.drop n⟩, D0.as, D0.aw, D0.sw⟩
        · rw [← hH6, upd_ne D0.as.symm, upd_ne D0.sw]
          exact hS5
        · rw [← hH6, upd_ne D0.aw.symm, upd_same]
      refine ⟨_, rfl, p, dx, _, rfl, h6p, srch_offer, ?_⟩
      refine ⟨_, rfl, p, a.cS, dx, _, _, rfl, h6p, T.clS, T.nS_chart, srch_chart, ch, dxm6, fsm6, rfl, hch6, hcf6.meth _ (by decide +kernel), _, rfl, ch, c, n, r, rfl, hC6, hf, hk.ok.ends r hrm, fun H7 l s7 hl hl7 => ?_⟩
      have k7 : Keep3 da ds dw H6 H7 := Keep3.of s7
      obtain ⟨kA6, hA6, rA6⟩ := D6.a
      obtain ⟨kS6, hS6, rS6⟩ := D6.s
      obtain ⟨kW6, hW6, rW6⟩ := D6.w
      have D7 : Dicts H7 da ds dw (names c) (WP.put Aa n (some t)) (WP.put W n none) := ⟨⟨kA6, s7 _ _ hA6, rA6⟩, ⟨kS6, s7 _ _ hS6, rS6⟩, ⟨kW6, s7 _ _ hW6, rW6⟩, D0.as, D0.aw, D0.sw⟩
      refine ⟨_, rfl, _, rfl, p, l, dx, ch, da, ds, dw, t, .str n, c, k, folNames c r, WP.put Aa n (some t), WP.put W n none, rfl, s7 _ _ h6p, D7, (KeepD.of s7).chart hC6, hk, hl7, fol_names r, fun H8 W8 k8 D8 hO => ?_⟩
      refine kq H8 (WP.put Aa n (some t)) W8 ((k6.trans k7).trans k8) D8 ?_ (WP.left_lt hnn ?_)
      · have h := dI.settle (a := r) (ta := t) hk.ok hrm (by rw [hrn]; exact hWn) (fun w tw hw => least (tw, w) ((hps tw w).mpr hw)) (fol_iff hk.ok r) (W' := W8) (by rw [hrn]; exact hO)
        rw [hrn] at h
        exact h
      · cases q : Aa n with
        | none => rfl
        | some u =>
          rw [dI.disj n u q] at hWn
          cases hWn
end
end K17

set_option Elab.async false
set_option linter.all false
set_option maxRecDepth 100000
set_option maxHeartbeats 4000000
/-! The search's __init__, labels. -/
namespace K17
open PySem L2 WR

theorem lenF {f : Str} {v : V} {fs : List (Str × V)} {n : Nat} (h : fs.length ≤ n) : (putF f v fs).length ≤ n + 1 := Nat.le_trans (length_putF f v fs) (Nat.succ_le_succ h)

theorem len0 : ([] : List (Str × V)).length ≤ 0 := Nat.le_refl 0

def spSInit (CM CS : Addr) : Sp := fun vs H Q _ => ∃ (p dx ch : Addr) (c : Chart) (k x : Str) (m : Int), vs = [.ref p, .ref ch, .str k, .str x, .int m] ∧ H p = some (.ins CS dx []) ∧ ChartAt CM H ch c ∧ Asked c k ∧ x ∈ c.places ∧
  ∀ (H' : Hp) (da ds dw : Addr) (kA : List (Key × V)) (A : Str → Option Int), (∀ b o, H b = some o → b ≠ p → H' b = some o) → H' p = some (.ins CS dx (srchF ch k da ds dw)) → H da = none → H' da = some (.dK kA) → DRep kA A (names c) →
    WP.Labels c k x m A → Q .non H'

/-- all but one object stays -/
def But (p : Addr) (H H' : Hp) : Prop := ∀ b o, H b = some o → b ≠ p → H' b = some o
theorem But.chart {H H' : Hp} {p : Addr} {C dx : Addr} {fs : List (Str × V)} (s : But p H H') (hp : H p = some (.ins C dx fs)) {CM ch : Addr} {c : Chart} (h : ChartAt CM H ch c) (hne : ch ≠ p) : ChartAt CM H' ch c := by
  obtain ⟨dxm, fsm, hch, hcf⟩ := h
  exact ⟨dxm, fsm, s _ _ hch hne, hcf.up fun b xs e => s b _ e (ne_of e hp fun z => by cases z)⟩

section
variable {P : Program} {w : World} {K : PySem.W.Frag} {mg : Str → Option Value} {base : Heap} {a : Adr}
theorem ok_sInit (T : Txt K mg a) : FnOk P w K mg base CX0 6 a.sInit.f a.sInit.fd ["self", "chart", "kind", "start", "moment"] (spSInit a.cM a.cS) := by
  refine T.sInit.fn.ok sc_sInit (fun vs H Q E h => ?_) (fun cdv A outer s H vs Q E hr h => ?_)
  · obtain ⟨p, dx, ch, c, k, x, m, rfl, _⟩ := h
    rfl
  · obtain ⟨p, dx, ch, c, k, x, m, rfl, hp, hC, hk, hx, kq⟩ := h
    refine ⟨_, pss_cons (ps_expr (pe_call (ok_checkTrip T) (hr.mono (by decide)) (by rfl) T.g_checkTrip T.checkTrip.fn.kp T.checkTrip.bd .nil pass0 (pa_cons (pv 1) (pa_cons (pv 2) (pa_cons (pv 3) pa_nil)))))
      (pss_cons (ps_fld (pv 0) (pv 1) rfl)
      (pss_cons (ps_fld (pv 0) (pv 2) rfl)
      (pss_cons (ps_fld (pv 0) pe_dnewK rfl)
      (pss_cons (ps_fld (pv 0) pe_dnewK rfl)
      (pss_cons (ps_fld (pv 0) pe_dnewK rfl)
      (pss_cons (ps_expr (pe_meth (pv 0) T.clS T.m_sOffer (ok_offer T) (hr.mono (by decide)) T.sOffer.bd .nil pass0 (pa_cons (pe_meth (pv 1) T.clM T.m_roadsFrom (ok_roadsFrom T) (hr.mono (by decide)) T.roadsFrom.bd .nil pass0 (pa_cons (pv 3) pa_nil)) (pa_cons (pv 4) (pa_cons pe_non pa_nil)))))
      (pss_one (ps_while PassesOwn.never (pt_truth (pe_fld (pv 0) rfl) (by intro _; rfl)) (pss_one (ps_expr (pe_meth0 (pv 0) T.clS T.m_sSettle (ok_settle T) hr T.sSettle.bd .nil pass0))))))))))), ?_⟩
    refine ⟨_, rfl, _, rfl, _, rfl, ch, c, k, x, rfl, hC, hk.kind, hx, ?_⟩
    have hchp : ch ≠ p := by
      obtain ⟨dxm, fsm, hch, hcf⟩ := hC
      intro e
      subst e
      rw [hp] at hch
      have e1 := Option.some.inj hch
      injection e1 with e2 e3 e4
      have := hcf.day
      rw [← e4] at this
      cases this
    -- self.chart = chart; self.kind = kind
    refine ⟨_, rfl, _, rfl, p, a.cS, dx, _, rfl, hp, T.clS, T.nS_chart, (by show 0 < 1000; decide), ?_⟩
    refine ⟨_, rfl, _, rfl, p, a.cS, dx, _, rfl, upd_same, T.clS, T.nS_kind, Nat.lt_of_le_of_lt (lenF len0) (by decide), ?_⟩
    rw [upd_upd]
    generalize hH1 : upd H p (.ins a.cS dx (putF "kind" (.str k) (putF "chart" (.ref ch) []))) = H1
    have b1 : But p H H1 := fun b o e hb => by rw [← hH1, upd_ne hb]; exact e
    have p1 : H1 p = some (.ins a.cS dx (putF "kind" (.str k) (putF "chart" (.ref ch) []))) := by rw [← hH1]; exact upd_same
    have n1 : ∀ b, H1 b = none → H b = none := fun b e => by
      by_cases q : b = p
      · subst q; rw [p1] at e; cases e
      · rw [← hH1, upd_ne q] at e; exact e
    clear hH1
    -- self.arrivals = {}
    intro da hda
    have hpda : p ≠ da := ne_of_none p1 hda
    refine ⟨_, rfl, p, a.cS, dx, _, rfl, (by rw [upd_ne hpda]; exact p1), T.clS, T.nS_arrivals, Nat.lt_of_le_of_lt (lenF (lenF len0)) (by decide), ?_⟩
    generalize hH2 : upd (upd H1 da (.dK [])) p (.ins a.cS dx (putF "arrivals" (.ref da) (putF "kind" (.str k) (putF "chart" (.ref ch) [])))) = H2
    have b2 : But p H1 H2 := fun b o e hb => by rw [← hH2, upd_ne hb, upd_ne (ne_of_none e hda)]; exact e
    have p2 : H2 p = some (.ins a.cS dx (putF "arrivals" (.ref da) (putF "kind" (.str k) (putF "chart" (.ref ch) [])))) := by rw [← hH2]; exact upd_same
    have d2 : H2 da = some (.dK []) := by rw [← hH2, upd_ne hpda.symm]; exact upd_same
    clear hH2
    -- self.sources = {}
    intro ds hds
    have hpds : p ≠ ds := ne_of_none p2 hds
    have hdads : da ≠ ds := ne_of_none d2 hds
    refine ⟨_, rfl, p, a.cS, dx, _, rfl, (by rw [upd_ne hpds]; exact p2), T.clS, T.nS_sources, Nat.lt_of_le_of_lt (lenF (lenF (lenF len0))) (by decide), ?_⟩
    generalize hH3 : upd (upd H2 ds (.dK [])) p (.ins a.cS dx (putF "sources" (.ref ds) (putF "arrivals" (.ref da) (putF "kind" (.str k) (putF "chart" (.ref ch) []))))) = H3
    have b3 : But p H2 H3 := fun b o e hb => by rw [← hH3, upd_ne hb, upd_ne (ne_of_none e hds)]; exact e
    have p3 : H3 p = some (.ins a.cS dx (putF "sources" (.ref ds) (putF "arrivals" (.ref da) (putF "kind" (.str k) (putF "chart" (.ref ch) []))))) := by rw [← hH3]; exact upd_same
    have e3 : H3 ds = some (.dK []) := by rw [← hH3, upd_ne hpds.symm]; exact upd_same
    clear hH3
    -- self.waiting = {}
    intro dw hdw
    have d3 := b3 _ _ d2 hpda.symm
    have hpdw : p ≠ dw := ne_of_none p3 hdw
    have hdadw : da ≠ dw := ne_of_none d3 hdw
    have hdsdw : ds ≠ dw := ne_of_none e3 hdw
    refine ⟨_, rfl, p, a.cS, dx, _, rfl, (by rw [upd_ne hpdw]; exact p3), T.clS, T.nS_waiting, Nat.lt_of_le_of_lt (lenF (lenF (lenF (lenF len0)))) (by decide), ?_⟩
    generalize hH4 : upd (upd H3 dw (.dK [])) p (.ins a.cS dx (putF "waiting" (.ref dw) (putF "sources" (.ref ds) (putF "arrivals" (.ref da) (putF "kind" (.str k) (putF "chart" (.ref ch) [])))))) = H4
    have b4 : But p H3 H4 := fun b o e hb => by rw [← hH4, upd_ne hb, upd_ne (ne_of_none e hdw)]; exact e
    have p4 : H4 p = some (.ins a.cS dx (srchF ch k da ds dw)) := by rw [← hH4]; exact upd_same
    have f4 : H4 dw = some (.dK []) := by rw [← hH4, upd_ne hpdw.symm]; exact upd_same
    clear hH4
    have bb : But p H H4 := fun b o e hb => b4 b o (b3 b o (b2 b o (b1 b o e hb) hb) hb) hb
    have hC4 : ChartAt a.cM H4 ch c := bb.chart hp hC hchp
    have D4 : Dicts H4 da ds dw (names c) (fun _ => none) (fun _ => none) := ⟨⟨[], b4 _ _ d3 hpda.symm, DRep.empty _⟩, ⟨[], b4 _ _ e3 hpds.symm, SRep.empty _⟩, ⟨[], f4, DRep.empty _⟩, hdads, hdadw, hdsdw⟩
    have hHda : H da = none := n1 da hda
    have hHds : H ds = none := by
      cases q : H ds with
      | none => rfl
      | some o => rw [b2 _ _ (b1 _ _ q hpds.symm) hpds.symm] at hds; cases hds
    have hHdw : H dw = none := by
      cases q : H dw with
      | none => rfl
      | some o => rw [b3 _ _ (b2 _ _ (b1 _ _ q hpdw.symm) hpdw.symm) hpdw.symm] at hdw; cases hdw
    -- self.offer(chart.roads_from(start), moment, None)
    obtain ⟨dxm, fsm, hch, hcf⟩ := id hC4
    refine ⟨_, rfl, p, dx, _, rfl, p4, srch_offer, ?_⟩
    refine ⟨_, rfl, ch, dxm, fsm, rfl, hch, hcf.meth _ (by decide +kernel), _, rfl, ch, c, x, rfl, hC4, hx, fun H5 l s5 hl hl5 => ?_⟩
    have D5 : Dicts H5 da ds dw (names c) (fun _ => none) (fun _ => none) := by
      obtain ⟨kA, hA, rA⟩ := D4.a
      obtain ⟨kS, hS, rS⟩ := D4.s
      obtain ⟨kW, hW, rW⟩ := D4.w
      exact ⟨⟨kA, s5 _ _ hA, rA⟩, ⟨kS, s5 _ _ hS, rS⟩, ⟨kW, s5 _ _ hW, rW⟩, hdads, hdadw, hdsdw⟩
    have hC5 : ChartAt a.cM H5 ch c := hC4.same s5
    refine ⟨_, rfl, p, l, dx, ch, da, ds, dw, m, .non, c, k, fromNames c.roads x, (fun _ => none), (fun _ => none), rfl, s5 _ _ p4, D5, hC5, hk, hl5, from_names x, fun H6 W6 k6 D6 hO => ?_⟩
    have dI : WP.DInv c k x m (fun _ => none) W6 := WP.DInv.begin (fun r hr hs => (from_iff hk.ok x r hr).mpr hs) (fun r hr hn => (from_iff hk.ok x r hr).mp hn) hO
    have k46 : ∀ b o, H b = some o → b ≠ p → H6 b = some o := fun b o e hb => k6 b o (s5 b o (bb b o e hb)) (ne_of_none e hHda) (ne_of_none e hHds) (ne_of_none e hHdw)
    have p6 : H6 p = some (.ins a.cS dx (srchF ch k da ds dw)) := k6 _ _ (s5 _ _ p4) hpda hpds hpdw
    -- while self.waiting: self.settle()
    refine ⟨fun μ σ H2 => ∃ Aa W, σ = [some (.ref p), some (.ref ch), some (.str k), some (.str x), some (.int m)] ∧ μ = WP.left (names c) Aa ∧ Dicts H2 da ds dw (names c) Aa W ∧ WP.DInv c k x m Aa W ∧ (∀ b o, H b = some o → b ≠ p → H2 b = some o) ∧
      H2 p = some (.ins a.cS dx (srchF ch k da ds dw)), ⟨_, _, _, rfl, rfl, D6, dI, k46, p6⟩, ?_⟩
    rintro μ σ H2 ⟨Aa, W, rfl, rfl, D2, d2, k2, p2⟩
    obtain ⟨kA, hA, rA⟩ := D2.a
    obtain ⟨kW, hW, rW⟩ := D2.w
    have hC2 : ChartAt a.cM H2 ch c := But.chart (H' := H2) (fun b o e hb => k2 b o e hb) hp hC hchp
    refine ⟨_, rfl, p, a.cS, dx, _, _, rfl, p2, T.clS, T.nS_waiting, srch_waiting, _, .inr (.inr ⟨kW, hW, rfl⟩), ?_⟩
    cases kW with
    | nil =>
      refine iteF ?_
      exact kq H2 da ds dw kA Aa k2 p2 hHda hA rA (d2.done fun n => rW.isEmpty rfl n)
    | cons kv kr =>
      refine iteT ?_
      have hex : ∃ n t, W n = some t := by
        obtain ⟨n, t, e, _⟩ := rW.keys kv (by simp)
        have h1 := valV_of_mem rW.nd (k := Sum.inr n) (v := .int t) (by rw [← e]; simp)
        rw [rW.val n] at h1
        cases q : W n with
        | none => rw [q] at h1; cases h1
        | some u => exact ⟨n, u, q⟩
      refine ⟨fun σ' H' => ∃ m', m' < WP.left (names c) Aa ∧ ∃ Aa W, σ' = [some (.ref p), some (.ref ch), some (.str k), some (.str x), some (.int m)] ∧ m' = WP.left (names c) Aa ∧ Dicts H' da ds dw (names c) Aa W ∧ WP.DInv c k x m Aa W ∧ (∀ b o, H b = some o → b ≠ p → H' b = some o) ∧
        H' p = some (.ins a.cS dx (srchF ch k da ds dw)), fun σ' H' h => h, ?_⟩
      refine ⟨_, rfl, p, dx, _, rfl, p2, srch_settle, p, dx, ch, da, ds, dw, c, k, x, m, Aa, W, rfl, p2, D2, hC2, hk, d2, hex, fun H' A' W' k' D' dI' hlt => ?_⟩
      exact ⟨_, hlt, A', W', rfl, rfl, D', dI', fun b o e hb => k' b o (k2 b o e hb) (ne_of_none e hHda) (ne_of_none e hHds) (ne_of_none e hHdw), k' _ _ p2 hpda hpds hpdw⟩
end
end K17

set_option Elab.async false
set_option linter.all false
set_option maxRecDepth 100000
set_option maxHeartbeats 4000000
/-! labels, places_from, _law_no_later. -/
namespace K17
open PySem L2 WR

/-- a list of pairs (text, number) -/
def PairsAt (H : Hp) (p : Addr) (L : List (Str × Int)) : Prop := ∃ us, H p = some (.lst us) ∧ Paired (HV.hv H) us L
theorem PairsAt.same {H H' : Hp} (s : Same H H') {p : Addr} {L : List (Str × Int)} (h : PairsAt H p L) : PairsAt H' p L := by
  obtain ⟨us, h1, h2⟩ := h
  exact ⟨us, s _ _ h1, hvs_up (.of s) h2⟩
/-- the pairs are the graph of a function -/
def Graph (L : List (Str × Int)) (f : Str → Option Int) : Prop := ∀ n t, (n, t) ∈ L ↔ f n = some t

def spLabels (CM : Addr) : Sp := fun vs H Q _ => ∃ (ch : Addr) (c : Chart) (k x : Str) (m : Int), vs = [.ref ch, .str k, .str x, .int m] ∧ ChartAt CM H ch c ∧ Asked c k ∧ x ∈ c.places ∧
  ∀ (H' : Hp) (l : Addr) (L : List (Str × Int)) (A : Str → Option Int), Same H H' → PairsAt H' l L → L.length ≤ 60 → Graph L A → WP.Labels c k x m A → Q (.ref l) H'
def spPlaces (CM : Addr) : Sp := fun vs H Q _ => ∃ (ch : Addr) (c : Chart) (k x : Str) (m : Int), vs = [.ref ch, .str k, .str x, .int m] ∧ ChartAt CM H ch c ∧ Asked c k ∧ x ∈ c.places ∧
  ∀ (H' : Hp) (l : Addr) (L : List (Str × Int)) (A F : Str → Option Int), Same H H' → PairsAt H' l L → L.length ≤ 60 → Graph L F → WP.Labels c k x m A → WP.Places c x m A F → Q (.ref l) H'
def spNoLater : Sp := fun vs H Q _ => ∃ (l l' : Addr) (L L' : List (Str × Int)) (f f' : Str → Option Int), vs = [.ref l, .ref l'] ∧ PairsAt H l L ∧ PairsAt H l' L' ∧ L'.length ≤ 60 ∧ Graph L f ∧ Graph L' f' ∧
  (∀ n t, f n = some t → ∃ t', t' ≤ t ∧ f' n = some t') ∧ ∀ H', Same H H' → Q (.bl true) H'

/-- the pairs of f over a list of texts -/
def graphOf (ns : List Str) (f : Str → Option Int) : List (Str × Int) := ns.filterMap fun n => (f n).map fun t => (n, t)
theorem graphOf_len (ns : List Str) (f : Str → Option Int) : (graphOf ns f).length ≤ ns.length := List.length_filterMap_le _ _
theorem graphOf_snoc (ns : List Str) (n : Str) (f : Str → Option Int) : graphOf (ns ++ [n]) f = graphOf ns f ++ (match f n with | none => [] | some t => [(n, t)]) := by
  unfold graphOf
  rw [List.filterMap_append]
  cases e : f n with
  | none => simp [e]
  | some t => simp [e]
theorem graphOf_graph {ns : List Str} {f : Str → Option Int} (h : ∀ n t, f n = some t → n ∈ ns) : Graph (graphOf ns f) f := fun n t => by
  unfold graphOf
  rw [List.mem_filterMap]
  constructor
  · rintro ⟨n', _, e⟩
    cases q : f n' with
    | none => rw [q] at e; cases e
    | some u =>
      rw [q] at e
      cases e
      exact q
  · intro e
    exact ⟨n, h n t e, by rw [e]; rfl⟩

section
variable {P : Program} {w : World} {K : PySem.W.Frag} {mg : Str → Option Value} {base : Heap} {a : Adr}
theorem ok_labels (T : Txt K mg a) : FnOk P w K mg base CX0 8 a.labels.f a.labels.fd ["chart", "kind", "start", "moment"] (spLabels a.cM) := by
  refine T.labels.fn.ok sc_labels (fun vs H Q E h => ?_) (fun cdv A outer s H vs Q E hr h => ?_)
  · obtain ⟨ch, c, k, x, m, rfl, _⟩ := h
    rfl
  · obtain ⟨ch, c, k, x, m, rfl, hC, hk, hx, kq⟩ := h
    have hu := hu_of hr
    refine ⟨_, pss_cons (ps_set (i := 4) sc_labels.nd rfl (Or.inr rfl) (pe_fld (pe_make T.mkS (ok_sInit T) hr (by rfl) T.gSearch T.sInit.bd .nil pass0 (pa_cons (pv 0) (pa_cons (pv 1) (pa_cons (pv 2) (pa_cons (pv 3) pa_nil))))) rfl))
      (pss_one (ps_ret (pe_lc (own := [("name", 5)]) (g := gName 5) (tt := tB (tDIn (tVar 5) (tVar 4))) (te := tTup (tCons (tVar 5) (tCons (tDGet (tVar 4) (tVar 5)) tNil))) rfl sc_labels.nd (pi_tup (pe_prop (pv 0) T.clM T.prop (ok_roadNames T) (hr.mono (by decide)) T.roadNames.bd .nil pass0 rfl))
        (blkOk_by (own := [("name", 5)]) (N := ["chart", "kind", "start", "moment", "arrivals", "name"]) (sc := defScope st_labels) (by decide +kernel))
        (fun _ _ _ _ _ => pg_name (i := 5) sc_labels.nd rfl (Or.inl rfl)) (fun _ _ _ _ _ => pts_one (pt_cmp (pc_din hu (pv 5) (pv 4)))) (fun _ _ _ _ _ => pe_tup (pa_cons (pv 5) (pa_cons (pe_dget hu (pv 4) (pv 5) (fun _ _ => rfl)) pa_nil)))))), ?_⟩
    refine ⟨_, rfl, _, rfl, _, rfl, _, rfl, fun p dx hp hdx hne => ?_⟩
    have hdp : ∀ o u, Same H (upd (upd H dx o) p u) := fun o u => Same.put (Same.new hdx) hp
    refine ⟨p, dx, ch, c, k, x, m, rfl, upd_same, hC.same (hdp _ _), hk, hx, fun H1 da ds dw kA Aa b1 p1 hda hA rA hL => ⟨rfl, ?_⟩⟩
    have s1 : Same H H1 := fun b o e => b1 b o (hdp _ _ b o e) (ne_of_none e hp)
    -- arrivals = Search(..).arrivals
    refine ⟨p, a.cS, dx, _, _, rfl, p1, T.clS, T.nS_arrivals, srch_arrivals, ?_⟩
    have hC1 := hC.same s1
    obtain ⟨dxm, fsm, hch, hcf⟩ := id hC1
    obtain ⟨us, hus, hR⟩ := hcf.roads
    have few := hcf.few
    refine ⟨_, rfl, ch, dxm, fsm, rfl, hch, ch, dxm, fsm, us, c.roads, rfl, hch, hus, hR, few.1, fun H2 tn s2 htn htn2 => ?_⟩
    refine ⟨tn, rfl, ⟨_, SqT.of htn2⟩, fun D hD => lc_tup (K := K) (a := tn) (xs := (names c).map V.str)
      (fun i H3 => ∃ ws, H3 D = some (.lst ws) ∧ Paired (HV.hv H3) ws (graphOf ((names c).take i) Aa) ∧ Same H2 H3) ⟨[], upd_same, .nil, Same.new hD⟩ (fun i H3 _ ⟨_, _, _, s3⟩ => SqT.of (s3 _ _ htn2)) ?_ ?_⟩
    · rintro i z H3 hz ⟨ws, hD3, hP, s3⟩
      rw [List.getElem?_map] at hz
      obtain ⟨n, hn, rfl⟩ : ∃ n, (names c)[i]? = some n ∧ V.str n = z := by
        cases q : (names c)[i]? with
        | none => rw [q] at hz; cases hz
        | some o => rw [q] at hz; exact ⟨o, rfl, Option.some.inj hz⟩
      have hA3 := s3 _ _ (s2 _ _ hA)
      have hwl := hP.length
      have hgl := graphOf_len ((names c).take i) Aa
      have hil := (List.getElem?_eq_some_iff.mp hn).1
      rw [names_len] at hil
      rw [List.length_take] at hgl
      refine ⟨rfl, _, rfl, _, rfl, da, _, rfl, DGet.k (k := Sum.inr n) hA3, _, rfl, ?_⟩
      rw [rA.val n, take_snoc hn, graphOf_snoc]
      cases ea : Aa n with
      | none =>
        refine iteF ?_
        exact ⟨ws, hD3, by rw [List.append_nil]; exact hP, s3⟩
      | some t =>
        refine iteT ?_
        refine ⟨_, rfl, _, rfl, _, rfl, da, .int t, rfl, (by
          have h := DGet.k (k := Sum.inr n) hA3
          rw [rA.val n, ea] at h
          exact h), (by show 2 ≤ sizeLine; decide), fun u hu => ?_⟩
        have hDu : (upd H3 u (.tup [.str n, .int t])) D = some (.lst ws) := by rw [upd_ne (ne_of_none hD3 hu)]; exact hD3
        have tup : Tups H3 (upd (upd H3 u (.tup [.str n, .int t])) D (.lst (ws ++ [.ref u]))) := Tups.trans (Tups.new hu) (Tups.set hDu fun xs z => by cases z)
        refine ⟨ws, hDu, size60 (by omega), ws ++ [.ref u], upd_same, ?_, fun b o e => ?_⟩
        · refine Paired.app (hvs_up tup hP) (Paired.one ⟨u, _, _, rfl, ?_, rfl, rfl⟩)
          rw [upd_ne (ne_of_none hD3 hu).symm, upd_same]
        · rw [upd_ne (ne_of_none e hD), upd_ne (ne_of_none (s3 b o e) hu)]
          exact s3 b o e
    · rintro H3 ⟨ws, hD3, hP, s3⟩
      rw [List.length_map, List.take_length] at hP
      have hgl := graphOf_len (names c) Aa
      rw [names_len] at hgl
      exact kq H3 D (graphOf (names c) Aa) Aa ((s1.trans s2).trans s3) ⟨ws, hD3, hP⟩ (by omega) (graphOf_graph fun n t h => rA.key h) hL

theorem ok_noLater (T : Txt K mg a) : FnOk P w K mg base CX0 1 a.lNoLater.f a.lNoLater.fd ["_law_one", "_law_other"] spNoLater := by
  refine T.lNoLater.fn.ok sc_lNoLater (fun vs H Q E h => ?_) (fun cdv A outer s H vs Q E hr h => ?_)
  · obtain ⟨l, l', L, L', f, f', rfl, _⟩ := h
    rfl
  · obtain ⟨l, l', L, L', f, f', rfl, ⟨us, hl, hP⟩, ⟨us', hl', hP'⟩, hlen, hG, hG', hle, kq⟩ := h
    have hu := hu_of hr
    refine ⟨_, pss_cons (ps_set (i := 2) sc_lNoLater.nd rfl (Or.inl rfl) pe_dnewK)
      (pss_cons (ps_for PassesOwn.never rfl (pi_list (pv 1)) (pg_tup rfl (pgs_cons (pg_name (i := 3) sc_lNoLater.nd rfl (Or.inl rfl)) (pgs_cons (pg_name (i := 4) sc_lNoLater.nd rfl (Or.inl rfl)) pgs_nil)))
        (pss_one (ps_dput hu (pv 2) (pv 3) (pv 4) rfl)))
      (pss_cons (ps_for PassesOwn.never rfl (pi_list (pv 0)) (pg_tup rfl (pgs_cons (pg_name (i := 3) sc_lNoLater.nd rfl (Or.inl rfl)) (pgs_cons (pg_name (i := 4) sc_lNoLater.nd rfl (Or.inl rfl)) pgs_nil)))
        (pss_one (ps_if (PW.pt (pw_or (pt_cmp (pc_dnotin hu (pv 3) (pv 2))) (pw_or1 (pt_cmpR op_gt (pe_dget hu (pv 2) (pv 3) (fun _ _ => rfl)) (pv 4) (nomark _))))) (pss_one (ps_ret pe_bl)) pss_nil)))
      (pss_one (ps_ret pe_bl)))), ?_⟩
    intro d hd
    have hdl : ∀ {o u}, H l = some o → (upd H d u) l = some o := fun e => by rw [upd_ne (ne_of_none e hd)]; exact e
    refine ⟨_, rfl, l', rfl, ⟨us', SqL.of (by rw [upd_ne (ne_of_none hl' hd)]; exact hl')⟩, for_list (K := K) (a := l') (xs := us') (fun i σ H2 => ∃ z1 z2 kD g, σ = [some (.ref l), some (.ref l'), some (.ref d), z1, z2] ∧ Same H H2 ∧ H2 d = some (.dK kD) ∧
      DRep kD g (L'.map (·.1)) ∧ (∀ n t, g n = some t → f' n = some t) ∧ ∀ n t, (n, t) ∈ L'.take i → ∃ u, g n = some u) ⟨none, none, [], _, rfl, Same.new hd, upd_same, DRep.empty _, fun n t h => (by cases h), fun n t h => (by simp at h)⟩
      (fun i σ H2 _ ⟨_, _, _, _, _, s2, _⟩ => SqL.of (s2 _ _ hl')) ?_ ?_⟩
    · rintro i z σ H2 hz ⟨z1, z2, kD, g, rfl, s2, hd2, rD, hgf, hgi⟩
      obtain ⟨⟨n, t⟩, hnt, b, q1, q2, rfl, hb, e1, e2⟩ := Paired.at hP' hz
      obtain rfl : q1 = V.str n := e1
      obtain rfl : q2 = V.int t := e2
      have hmem := List.mem_of_getElem? hnt
      have hlD := rD.len
      rw [List.length_map] at hlD
      refine ⟨b, _, rfl, SqT.of (s2 _ _ hb), rfl, _, _, rfl, _, _, rfl, rfl, ?_⟩
      refine ⟨_, rfl, _, rfl, _, rfl, d, _, rfl, DPut.k (k := Sum.inr n) hd2 (size60 (by omega)), ?_⟩
      refine ⟨_, _, _, _, rfl, Same.put s2 hd, upd_same, rD.put (List.mem_map.mpr ⟨_, hmem, rfl⟩) t, fun n' t' h => ?_, fun n' t' h => ?_⟩
      · by_cases e : n' = n
        · subst e
          rw [WP.put_same] at h
          cases h
          exact (hG' _ _).mp hmem
        · rw [WP.put_ne e] at h
          exact hgf _ _ h
      · by_cases e : n' = n
        · subst e
          exact ⟨_, WP.put_same⟩
        · rw [take_snoc hnt] at h
          rcases List.mem_append.mp h with h | h
          · obtain ⟨u, hu⟩ := hgi n' t' h
            exact ⟨u, by rw [WP.put_ne e]; exact hu⟩
          · have h2 : (n', t') = (n, t) := by simpa using h
            injection h2 with h3 _
            exact absurd h3 e
    · rintro σ H2 ⟨z1, z2, kD, g, rfl, s2, hd2, rD, hgf, hgi⟩
      have hl2 := hP'.length
      rw [hl2, List.take_length] at hgi
      have hgall : ∀ n t, f' n = some t → g n = some t := fun n t h => by
        obtain ⟨u, hu⟩ := hgi n t ((hG' n t).mpr h)
        have h2 := hgf n u hu
        rw [h] at h2
        rw [hu, h2]
      refine ⟨_, rfl, l, rfl, ⟨us, SqL.of (s2 _ _ hl)⟩, for_list (K := K) (a := l) (xs := us) (fun i σ H3 => ∃ z1 z2, σ = [some (.ref l), some (.ref l'), some (.ref d), z1, z2] ∧ H3 = H2) ⟨z1, z2, rfl, rfl⟩
        (fun i σ H3 _ ⟨_, _, _, e⟩ => by rw [e]; exact SqL.of (s2 _ _ hl)) ?_ ?_⟩
      · rintro i z σ H3 hz ⟨y1, y2, rfl, rfl⟩
        obtain ⟨⟨n, t⟩, hnt, b, q1, q2, rfl, hb, e1, e2⟩ := Paired.at hP hz
        obtain rfl : q1 = V.str n := e1
        obtain rfl : q2 = V.int t := e2
        have hmem := List.mem_of_getElem? hnt
        obtain ⟨t', hle', hf'⟩ := hle n t ((hG n t).mp hmem)
        have hg := hgall n t' hf'
        refine ⟨b, _, rfl, SqT.of (s2 _ _ hb), rfl, _, _, rfl, _, _, rfl, rfl, ?_⟩
        refine ⟨_, rfl, _, rfl, d, _, rfl, DGet.k (k := Sum.inr n) hd2, _, rfl, ?_⟩
        rw [rD.val n, hg]
        refine iteF ?_
        refine ⟨_, rfl, _, rfl, d, .int t', rfl, (by
          have h := DGet.k (k := Sum.inr n) hd2
          rw [rD.val n, hg] at h
          exact h), _, rfl, _, _, rfl, rfl, _, rfl, ?_⟩
        rw [decide_eq_false (show ¬ t < t' by omega)]
        refine iteF ?_
        exact ⟨_, _, rfl, rfl⟩
      · rintro σ H3 ⟨y1, y2, rfl, rfl⟩
        exact kq H3 s2
end
end K17

set_option Elab.async false
set_option linter.all false
set_option maxRecDepth 100000
set_option maxHeartbeats 4000000
/-! places_from. -/
namespace K17
open PySem L2 WR

/-- the places found so far, from the first pairs of the labels -/
structure Found (c : Chart) (x : Str) (m : Int) (L : List (Str × Int)) (F : Str → Option Int) : Prop where
  sound : ∀ p t, F p = some t → (p = x ∧ t = m) ∨ ∃ n, (n, t) ∈ L ∧ ∃ r, find c.roads n = some r ∧ r.stop = p
  here : ∃ t, t ≤ m ∧ F x = some t
  ends : ∀ n v, (n, v) ∈ L → ∀ r, find c.roads n = some r → ∃ t, t ≤ v ∧ F r.stop = some t
theorem Found.start {c : Chart} {x : Str} {m : Int} : Found c x m [] (WP.put (fun _ => none) x (some m)) := by
  refine ⟨fun p t h => ?_, ⟨m, Int.le_refl _, WP.put_same⟩, fun _ _ h => by cases h⟩
  by_cases e : p = x
  · subst e
    rw [WP.put_same] at h
    cases h
    exact .inl ⟨rfl, rfl⟩
  · rw [WP.put_ne e] at h
    cases h
theorem Found.set {c : Chart} {x : Str} {m : Int} {L : List (Str × Int)} {F : Str → Option Int} {n : Str} {v : Int} {r : Road} (f : Found c x m L F) (hr : find c.roads n = some r) (less : ∀ t, F r.stop = some t → v < t) :
    Found c x m (L ++ [(n, v)]) (WP.put F r.stop (some v)) := by
  refine ⟨fun p t h => ?_, ?_, fun n' v' h r' hr' => ?_⟩
  · by_cases e : p = r.stop
    · subst e
      rw [WP.put_same] at h
      cases h
      exact .inr ⟨n, by simp, r, hr, rfl⟩
    · rw [WP.put_ne e] at h
      rcases f.sound p t h with q | ⟨n', h1, r', h2, h3⟩
      · exact .inl q
      · exact .inr ⟨n', by simp [h1], r', h2, h3⟩
  · obtain ⟨t, le, h⟩ := f.here
    by_cases e : x = r.stop
    · refine ⟨v, ?_, by rw [e]; exact WP.put_same⟩
      have := less t (by rw [← e]; exact h)
      omega
    · exact ⟨t, le, by rw [WP.put_ne e]; exact h⟩
  · by_cases e : r'.stop = r.stop
    · rcases List.mem_append.mp h with h | h
      · obtain ⟨t, le, h2⟩ := f.ends n' v' h r' hr'
        have := less t (by rw [← e]; exact h2)
        exact ⟨v, by omega, by rw [e]; exact WP.put_same⟩
      · have h2 : (n', v') = (n, v) := by simpa using h
        injection h2 with h3 h4
        exact ⟨v, by omega, by rw [e]; exact WP.put_same⟩
    · rcases List.mem_append.mp h with h | h
      · obtain ⟨t, le, h2⟩ := f.ends n' v' h r' hr'
        exact ⟨t, le, by rw [WP.put_ne e]; exact h2⟩
      · have h2 : (n', v') = (n, v) := by simpa using h
        injection h2 with h3 h4
        subst h3
        rw [hr] at hr'
        cases hr'
        exact absurd rfl e
theorem Found.keep {c : Chart} {x : Str} {m : Int} {L : List (Str × Int)} {F : Str → Option Int} {n : Str} {v t : Int} {r : Road} (f : Found c x m L F) (hr : find c.roads n = some r) (h : F r.stop = some t) (le : t ≤ v) : Found c x m (L ++ [(n, v)]) F := by
  refine ⟨fun p t h => ?_, f.here, fun n' v' h' r' hr' => ?_⟩
  · rcases f.sound p t h with q | ⟨n', h1, r', h2, h3⟩
    · exact .inl q
    · exact .inr ⟨n', by simp [h1], r', h2, h3⟩
  · rcases List.mem_append.mp h' with h' | h'
    · exact f.ends n' v' h' r' hr'
    · have h2 : (n', v') = (n, v) := by simpa using h'
      injection h2 with h3 h4
      subst h3
      rw [hr] at hr'
      cases hr'
      exact ⟨t, by omega, h⟩
theorem Found.places {c : Chart} {k x : Str} {m : Int} {L : List (Str × Int)} {A F : Str → Option Int} (ok : WP.ChartOk c) (f : Found c x m L F) (g : Graph L A) : WP.Places c x m A F where
  sound := fun p t h => by
    rcases f.sound p t h with q | ⟨n, h1, r, h2, h3⟩
    · exact .inl q
    · obtain ⟨hr, hn⟩ := find_name h2
      exact .inr ⟨r, hr, h3, by rw [hn]; exact (g n t).mp h1⟩
  here := f.here
  ends := fun r hr v h => f.ends r.name v ((g _ _).mpr h) r (find_of ok hr)

section
variable {P : Program} {w : World} {K : PySem.W.Frag} {mg : Str → Option Value} {base : Heap} {a : Adr}
theorem ok_placesFrom (T : Txt K mg a) : FnOk P w K mg base CX0 9 a.placesFrom.f a.placesFrom.fd ["chart", "kind", "start", "moment"] (spPlaces a.cM) := by
  refine T.placesFrom.fn.ok sc_placesFrom (fun vs H Q E h => ?_) (fun cdv A outer s H vs Q E hr h => ?_)
  · obtain ⟨ch, c, k, x, m, rfl, _⟩ := h
    rfl
  · obtain ⟨ch, c, k, x, m, rfl, hC, hk, hx, kq⟩ := h
    have hu := hu_of hr
    refine ⟨_, pss_cons (ps_set (i := 4) sc_placesFrom.nd rfl (Or.inr rfl) (pe_disp (pps_cons (pv 2) (pv 3) pps_nil) (by rfl) (by rfl) (fun z => by cases z) (by decide)))
      (pss_cons (ps_for PassesOwn.never rfl (pi_list (pe_call (ok_labels T) hr (by rfl) T.g_labels T.labels.fn.kp T.labels.bd .nil pass0 (pa_cons (pv 0) (pa_cons (pv 1) (pa_cons (pv 2) (pa_cons (pv 3) pa_nil)))))) (pg_tup rfl (pgs_cons (pg_name (i := 5) sc_placesFrom.nd rfl (Or.inl rfl)) (pgs_cons (pg_name (i := 6) sc_placesFrom.nd rfl (Or.inl rfl)) pgs_nil)))
        (pss_cons (ps_set (i := 7) sc_placesFrom.nd rfl (Or.inl rfl) (pe_ix ix_tup (pe_meth (pv 0) T.clM T.m_road (ok_road T) (hr.mono (by decide)) T.road.bd .nil pass0 (pa_cons (pv 5) pa_nil)) pe_int (fun _ _ => rfl)))
        (pss_one (ps_if (PW.pt (pw_or (pt_cmp (pc_dnotin hu (pv 7) (pv 4))) (pw_or1 (pt_cmpR op_lt (pv 6) (pe_dget hu (pv 4) (pv 7) (fun _ _ => rfl)) (nomark _))))) (pss_one (ps_dput hu (pv 4) (pv 7) (pv 6) rfl)) pss_nil))))
      (pss_one (ps_ret (pe_lc (own := [("place", 8)]) (g := gName 8) (tt := tB (tDIn (tVar 8) (tVar 4))) (te := tTup (tCons (tVar 8) (tCons (tDGet (tVar 4) (tVar 8)) tNil))) rfl sc_placesFrom.nd (pi_tup (pe_fld (pv 0) rfl))
        (blkOk_by (own := [("place", 8)]) (N := ["chart", "kind", "start", "moment", "found", "name", "arrival", "end", "place"]) (sc := defScope st_placesFrom) (by decide +kernel))
        (fun _ _ _ _ _ => pg_name (i := 8) sc_placesFrom.nd rfl (Or.inl rfl)) (fun _ _ _ _ _ => pts_one (pt_cmp (pc_din hu (pv 8) (pv 4)))) (fun _ _ _ _ _ => pe_tup (pa_cons (pv 8) (pa_cons (pe_dget hu (pv 4) (pv 8) (fun _ _ => rfl)) pa_nil))))))), ?_⟩
    -- found = {start: moment}
    intro d hd
    refine ⟨_, rfl, _, rfl, upd_same, [(Sum.inr x, .int m)], rfl, (by show 1 ≤ 15; decide), ?_⟩
    rw [upd_upd]
    have s0 : Same H (upd H d (.dK (mergeK [] [((Sum.inr x : Key), V.int m)]))) := Same.new hd
    have r0 : DRep (mergeK [] [((Sum.inr x : Key), V.int m)]) (WP.put (fun _ => none) x (some m)) c.places := (DRep.empty c.places).put hx m
    have d0 : (upd H d (.dK (mergeK [] [((Sum.inr x : Key), V.int m)]))) d = some (.dK (mergeK [] [((Sum.inr x : Key), V.int m)])) := upd_same
    generalize mergeK [] [((Sum.inr x : Key), V.int m)] = k0 at s0 r0 d0
    generalize upd H d (.dK k0) = H0 at s0 d0
    have hC0 := hC.same s0
    -- for name, arrival in labels(..)
    refine ⟨_, rfl, _, rfl, _, rfl, _, rfl, ch, c, k, x, m, rfl, hC0, hk, hx, fun H1 l L Aa s1 ⟨us, hl, hP⟩ hlen hG hL => ?_⟩
    have d1 := s1 _ _ d0
    have hC1 := hC0.same s1
    obtain ⟨dxm, fsm, hch, hcf⟩ := id hC1
    obtain ⟨rus, hrus, hR⟩ := hcf.roads
    have few := hcf.few
    have s01 : Same H H1 := s0.trans s1
    have hfind : ∀ n t, (n, t) ∈ L → ∃ r, find c.roads n = some r := fun n t h => by
      obtain ⟨r, e, hr⟩ := hL.sound n t ((hG n t).mp h)
      exact ⟨r, by rw [← e]; exact find_of hk.ok hr.road⟩
    refine ⟨l, rfl, ⟨us, SqL.of hl⟩, for_list (K := K) (a := l) (xs := us) (fun i σ H2 => ∃ z1 z2 z3 kD F, σ = [some (.ref ch), some (.str k), some (.str x), some (.int m), some (.ref d), z1, z2, z3, none] ∧ (∀ b o, H1 b = some o → b ≠ d → H2 b = some o) ∧
      H2 d = some (.dK kD) ∧ DRep kD F c.places ∧ Found c x m (L.take i) F) ⟨none, none, none, k0, _, rfl, fun b o e _ => e, d1, r0, Found.start⟩
      (fun i σ H2 _ ⟨_, _, _, _, _, _, b2, _⟩ => SqL.of (b2 _ _ hl (ne_of hl d1 fun z => by cases z))) ?_ ?_⟩
    · rintro i z σ H2 hz ⟨z1, z2, z3, kD, F, rfl, b2, hd2, rD, hF⟩
      obtain ⟨⟨n, t⟩, hnt, b, q1, q2, rfl, hb, e1, e2⟩ := Paired.at hP hz
      obtain rfl : q1 = V.str n := e1
      obtain rfl : q2 = V.int t := e2
      obtain ⟨r, hf⟩ := hfind n t (List.mem_of_getElem? hnt)
      obtain ⟨hrm, hrn⟩ := find_name hf
      have t12 : Tups H1 H2 := fun b xs e => b2 b _ e (ne_of e d1 fun z => by cases z)
      have hch2 := b2 _ _ hch (ne_of hch d1 fun z => by cases z)
      have hlD := rD.len
      rw [take_snoc hnt]
      refine ⟨b, _, rfl, SqT.of (t12 _ _ hb), rfl, _, _, rfl, _, _, rfl, rfl, ?_⟩
      refine ⟨_, rfl, ch, dxm, fsm, rfl, hch2, hcf.meth _ (by decide +kernel), _, rfl, ch, dxm, fsm, rus, c.roads, n, r, rfl, hch2, hrus.up t12, roads_up t12 hR, hf, fun v hv => ?_⟩
      obtain ⟨b3, kk, hh, rfl, hb3, _⟩ := hv
      refine ⟨b3, _, 2, _, rfl, rfl, SqT.of hb3, atI_nat (j := 2) rfl, ?_⟩
      have hst := hk.ok.ends r hrm
      refine ⟨_, rfl, _, rfl, d, _, rfl, DGet.k (k := Sum.inr r.stop) hd2, _, rfl, ?_⟩
      rw [rD.val r.stop]
      cases eF : F r.stop with
      | none =>
        refine iteT ?_
        refine iteT ?_
        refine ⟨_, rfl, _, rfl, _, rfl, d, _, rfl, DPut.k (k := Sum.inr r.stop) hd2 (size60 (by omega)), ?_⟩
        exact ⟨_, _, _, _, _, rfl, fun b o e hb => by rw [upd_ne hb]; exact b2 b o e hb, upd_same, rD.put hst t, hF.set hf fun t' z => by rw [eF] at z; cases z⟩
      | some tw =>
        refine iteF ?_
        refine ⟨_, rfl, _, rfl, _, rfl, d, .int tw, rfl, (by
          have h := DGet.k (k := Sum.inr r.stop) hd2
          rw [rD.val r.stop, eF] at h
          exact h), _, _, rfl, rfl, _, rfl, ?_⟩
        refine ite2 (fun hc => ?_) (fun hc => ?_)
        · have hlt : t < tw := by simpa using hc
          refine ⟨_, rfl, _, rfl, _, rfl, d, _, rfl, DPut.k (k := Sum.inr r.stop) hd2 (size60 (by omega)), ?_⟩
          exact ⟨_, _, _, _, _, rfl, fun b o e hb => by rw [upd_ne hb]; exact b2 b o e hb, upd_same, rD.put hst t, hF.set hf fun t' z => by rw [eF] at z; cases z; exact hlt⟩
        · have hle : ¬ t < tw := by simpa using hc
          exact ⟨_, _, _, _, _, rfl, b2, hd2, rD, hF.keep hf eF (by omega)⟩
    · rintro σ H2 ⟨z1, z2, z3, kD, F, rfl, b2, hd2, rD, hF⟩
      rw [hP.length, List.take_length] at hF
      have hpl := hF.places (k := k) hk.ok hG
      have s2 : Same H H2 := fun b o e => b2 b o (s01 b o e) (ne_of_none e hd)
      have hC2 := hC.same s2
      obtain ⟨dxm2, fsm2, hch2, hcf2⟩ := id hC2
      obtain ⟨ap, lkp, hap⟩ := hcf2.places
      refine ⟨_, rfl, ch, a.cM, dxm2, fsm2, _, rfl, hch2, T.clM, T.nM_places, lkp, ap, rfl, ⟨_, SqT.of hap⟩, fun D hD => lc_tup (K := K) (a := ap) (xs := c.places.map V.str)
        (fun i H3 => ∃ ws, H3 D = some (.lst ws) ∧ Paired (HV.hv H3) ws (graphOf (c.places.take i) F) ∧ Same H2 H3) ⟨[], upd_same, .nil, Same.new hD⟩ (fun i H3 _ ⟨_, _, _, s3⟩ => SqT.of (s3 _ _ hap)) ?_ ?_⟩
      · rintro i z H3 hz ⟨ws, hD3, hPw, s3⟩
        rw [List.getElem?_map] at hz
        obtain ⟨n, hn, rfl⟩ : ∃ n, c.places[i]? = some n ∧ V.str n = z := by
          cases q : c.places[i]? with
          | none => rw [q] at hz; cases hz
          | some o => rw [q] at hz; exact ⟨o, rfl, Option.some.inj hz⟩
        have hA3 := s3 _ _ hd2
        have hwl := hPw.length
        have hgl := graphOf_len (c.places.take i) F
        have hil := (List.getElem?_eq_some_iff.mp hn).1
        rw [List.length_take] at hgl
        refine ⟨rfl, _, rfl, _, rfl, d, _, rfl, DGet.k (k := Sum.inr n) hA3, _, rfl, ?_⟩
        rw [rD.val n, take_snoc hn, graphOf_snoc]
        cases ea : F n with
        | none =>
          refine iteF ?_
          exact ⟨ws, hD3, by rw [List.append_nil]; exact hPw, s3⟩
        | some t =>
          refine iteT ?_
          refine ⟨_, rfl, _, rfl, _, rfl, d, .int t, rfl, (by
            have h := DGet.k (k := Sum.inr n) hA3
            rw [rD.val n, ea] at h
            exact h), (by show 2 ≤ sizeLine; decide), fun u hu => ?_⟩
          have hDu : (upd H3 u (.tup [.str n, .int t])) D = some (.lst ws) := by rw [upd_ne (ne_of_none hD3 hu)]; exact hD3
          have tup : Tups H3 (upd (upd H3 u (.tup [.str n, .int t])) D (.lst (ws ++ [.ref u]))) := Tups.trans (Tups.new hu) (Tups.set hDu fun xs z => by cases z)
          refine ⟨ws, hDu, size60 (by omega), ws ++ [.ref u], upd_same, ?_, fun b o e => ?_⟩
          · refine Paired.app (hvs_up tup hPw) (Paired.one ⟨u, _, _, rfl, ?_, rfl, rfl⟩)
            rw [upd_ne (ne_of_none hD3 hu).symm, upd_same]
          · rw [upd_ne (ne_of_none e hD), upd_ne (ne_of_none (s3 b o e) hu)]
            exact s3 b o e
      · rintro H3 ⟨ws, hD3, hPw, s3⟩
        rw [List.length_map, List.take_length] at hPw
        have hgl := graphOf_len c.places F
        exact kq H3 D (graphOf c.places F) Aa F (s2.trans s3) ⟨ws, hD3, hPw⟩ (by omega) (graphOf_graph fun n t h => rD.key h) hL hpl
end
end K17

set_option Elab.async false
set_option linter.all false
set_option maxRecDepth 100000
set_option maxHeartbeats 4000000
/-! is_name, are_different, are_hours, require. -/
namespace K17
open PySem L2 WR

def nameChars : Str := "abcdefghijklmnopqrstuvwxyz0123456789"
def digits : Str := "0123456789"
structure IsName (s : Str) : Prop where
  least : 1 ≤ s.length
  most : s.length ≤ 12
  first : ∀ c, s.cps.toList[0]? = some c → c ∉ digits.cps.toList
  all : ∀ c ∈ s.cps.toList, c ∈ nameChars.cps.toList
def spIsName : Sp := fun vs H Q _ => ∃ s, vs = [.str s] ∧ IsName s ∧ ∀ H', Same H H' → Q (.bl true) H'
/-- parts: a list or a tuple of things that differ -/
def spDiff (α : Type) [DecidableEq α] [PySem.W.Datum α] [HV α] : Sp := fun vs H Q _ => ∃ (p : Addr) (us : List V) (xs : List α), vs = [.ref p] ∧ (H p = some (.lst us) ∨ H p = some (.tup us)) ∧ Paired (HV.hv H) us xs ∧ xs.Nodup ∧ ∀ H', Same H H' → Q (.bl true) H'
def spHours : Sp := fun vs H Q _ => ∃ (h : Addr) (us : List V) (ps : List (Int × Int)) (day : Int), vs = [.ref h, .int day] ∧ H h = some (.tup us) ∧ Paired (HV.hv H) us ps ∧ ps.length ≤ 4 ∧ WP.HoursOk day (-1) ps ∧ Q (.bl true) H
def spRequire : Sp := fun vs H Q _ => vs = [.bl true] ∧ Q .non H

theorem cut_take (us : List V) (i : Nat) : cutV us none (some (i : Int)) = us.take i := by
  unfold cutV
  rw [HT.sIx_none, HT.sIx_nat, List.drop_zero, Nat.sub_zero]
  by_cases h : i ≤ us.length
  · rw [Nat.min_eq_left h]
  · rw [Nat.min_eq_right (by omega), List.take_length, List.take_of_length_le (by omega)]
theorem nodup_not {α : Type} {xs : List α} (nd : xs.Nodup) {i : Nat} {x : α} (h : xs[i]? = some x) : x ∉ xs.take i := fun hm => by
  have e := List.take_append_drop i xs
  have hi := (List.getElem?_eq_some_iff.mp h).1
  rw [← e] at nd
  have hd : x ∈ xs.drop i := by
    rw [List.drop_eq_getElem_cons hi]
    have := (List.getElem?_eq_some_iff.mp h).2
    rw [this]
    simp
  exact (List.nodup_append.mp nd).2.2 x hm x hd rfl
theorem str_len (s : Str) : s.cps.toList.length = s.length := by
  show s.cps.toList.length = s.cps.size
  simp

section
variable {P : Program} {w : World} {K : PySem.W.Frag} {mg : Str → Option Value} {base : Heap} {a : Adr}
theorem ok_require (T : Txt K mg a) : FnOk P w K mg base CX0 1 a.require.f a.require.fd ["holds"] spRequire := by
  refine T.require.fn.ok sc_require (fun vs H Q E h => ?_) (fun cdv A outer s H vs Q E hr h => ?_)
  · obtain ⟨rfl, _⟩ := h
    rfl
  · obtain ⟨rfl, k⟩ := h
    refine ⟨_, pss_one (ps_if (pt_not (pt_val (pv 0))) (pss_one ps_never) pss_nil), ?_⟩
    refine ⟨_, rfl, _, rfl, ?_⟩
    refine iteF ?_
    exact k
theorem ok_isName (T : Txt K mg a) : FnOk P w K mg base CX0 1 a.isName.f a.isName.fd ["text"] spIsName := by
  refine T.isName.fn.ok sc_isName (fun vs H Q E h => ?_) (fun cdv A outer s H vs Q E hr h => ?_)
  · obtain ⟨z, rfl, _⟩ := h
    rfl
  · obtain ⟨z, rfl, hn, k⟩ := h
    refine ⟨_, pss_cons (ps_if (PW.pt (pw_or (pt_not (pt_chain op_le op_le pe_int (pe_callB call_len_str (by rfl) T.b_len PySem.boot_len (pa_cons (pv 0) pa_nil)) (pe_gv T.c_MOST_NAME_CHARS))) (pw_or1 (pt_cmpR op_in_sign (pe_ix ix_str (pv 0) pe_int (fun _ _ => rfl)) pe_str rfl)))) (pss_one (ps_ret pe_bl)) pss_nil)
      (pss_one (ps_ret (pe_callB (cr_all rfl) (by rfl) T.b_all (by decide +kernel) (pa_cons (pe_lc (own := [("char", 1)]) (g := gName 1) (tt := tYes) (te := tOp (fun x y H Q => ∃ (c : Nat) (z : Str), x = .str ⟨#[c]⟩ ∧ y = .str z ∧ Q (.bl (decide (c ∈ z.cps.toList))) H) (tVar 1) (tC (.str nameChars))) rfl sc_isName.nd (pi_str (pv 0))
        (blkOk_by (own := [("char", 1)]) (N := ["text", "char"]) (sc := defScope st_isName) (by decide +kernel))
        (fun _ _ _ _ _ => pg_name (i := 1) sc_isName.nd rfl (Or.inl rfl)) (fun _ _ _ _ _ => pts_nil) (fun _ _ _ _ _ => pe_cmpR op_in_sign (pv 1) (pe_gv T.c_NAME_CHARS) rfl)) pa_nil)))), ?_⟩
    have hl := hn.least
    have hm := hn.most
    have hz : z.length ≤ sizeLine := by rw [sizeLine_eq]; omega
    refine ⟨_, rfl, z, rfl, hz, _, _, rfl, rfl, _, rfl, ?_⟩
    rw [decide_eq_true (show (1 : Int) ≤ (z.length : Int) by omega)]
    refine iteT ?_
    refine ⟨_, _, rfl, rfl, _, rfl, ?_⟩
    rw [decide_eq_true (show (z.length : Int) ≤ 12 by omega)]
    refine iteF ?_
    obtain ⟨c0, hc0⟩ : ∃ c, z.cps.toList[0]? = some c := by
      have h := str_len z
      exact ⟨_, List.getElem?_eq_getElem (by omega)⟩
    refine ⟨_, rfl, z, 0, c0, rfl, rfl, hz, atI_nat (j := 0) hc0, c0, digits, rfl, rfl, _, rfl, ?_⟩
    rw [decide_eq_false (hn.first c0 hc0)]
    refine iteF ?_
    refine ⟨_, rfl, z, rfl, fun D hD => lc_it walk_str (fun i H2 => Same H H2 ∧ H2 D = some (.lst ((List.replicate i true).map V.bl))) ⟨Same.new hD, upd_same⟩ (fun _ _ _ _ => trivial) ?_ ?_⟩
    · rintro i v H2 H' hi ⟨s2, hD2⟩ ⟨rfl, c, hc, rfl⟩
      have hi : i < z.length := hi
      refine ⟨rfl, tYes_if ?_⟩
      refine ⟨_, rfl, c, nameChars, rfl, rfl, _, hD2, size60 (by rw [List.length_map, List.length_replicate]; omega), Same.put s2 hD, ?_⟩
      have hcm : c ∈ z.cps.toList := by
        rw [← Array.getElem?_toList] at hc
        exact List.mem_of_getElem? hc
      rw [decide_eq_true (hn.all c hcm), upd_same, List.replicate_succ', List.map_append]
      rfl
    · rintro H2 ⟨s2, hD2⟩
      refine ⟨D, _, rfl, SqL.of hD2, ?_⟩
      have e : (List.replicate z.cps.size true).all id = true := by
        rw [List.all_eq_true]
        intro b hb
        exact (List.mem_replicate.mp hb).2
      rw [e]
      exact k H2 s2
theorem ok_areDiff (α : Type) [DecidableEq α] [PySem.W.Datum α] [HV α] (hd : PySem.W.Datum.depth α ≤ 60) (T : Txt K mg a) : FnOk P w K mg base CX0 1 a.areDiff.f a.areDiff.fd ["parts"] (spDiff α) := by
  refine T.areDiff.fn.ok sc_areDiff (fun vs H Q E h => ?_) (fun cdv A outer s H vs Q E hr h => ?_)
  · obtain ⟨p, us, xs, rfl, _⟩ := h
    rfl
  · obtain ⟨p, us, xs, rfl, hp, hP, nd, k⟩ := h
    rcases hp with hp | hp
    · refine ⟨_, pss_cons (ps_for PassesOwn.never rfl (pi_enum (by rfl) T.b_enumerate (pa_cons (pv 0) pa_nil)) (pg_tup rfl (pgs_cons (pg_name (i := 1) sc_areDiff.nd rfl (Or.inl rfl)) (pgs_cons (pg_name (i := 2) sc_areDiff.nd rfl (Or.inl rfl)) pgs_nil)))
        (pss_one (ps_if (pt_cmpR (op_inH (α := α) (hu2 hr hd)) (pv 2) (pe_slice sl_list (pv 0) po_none (po_some (pv 1))) (by with_unfolding_all rfl)) (pss_one (ps_ret pe_bl)) pss_nil))) (pss_one (ps_ret pe_bl)), ?_⟩
      refine ⟨_, rfl, p, us, rfl, SqL.of hp, for_it walk_enum (fun i σ H2 => ∃ z1 z2, σ = [some (.ref p), z1, z2] ∧ Same H H2) ⟨none, none, rfl, Same.refl H⟩ (fun i σ H2 _ ⟨_, _, _, s2⟩ => SqL.of (s2 _ _ hp)) ?_ ?_⟩
      · rintro i v σ H2 H' hi ⟨z1, z2, rfl, s2⟩ ⟨Tq, x1, y1, rfl, hTq, rfl, e1, e2⟩
        have e1 : some (V.int (i : Nat)) = some x1 := e1
        have e2 : us[i]? = some y1 := e2
        cases e1
        obtain ⟨x, hx, hv⟩ := Paired.at hP e2
        have s3 : Same H (upd H2 Tq (.tup [.int (i : Nat), y1])) := s2.trans (Same.new hTq)
        refine ⟨Tq, _, rfl, SqT.of upd_same, rfl, _, _, rfl, _, _, rfl, rfl, ?_⟩
        refine ⟨_, rfl, _, rfl, _, rfl, _, rfl, p, us, rfl, SqL.of (s3 _ _ hp), fun q hq => ?_⟩
        have s4 := s3.trans (Same.new (o := .lst (cutV us none (some (i : Int)))) hq)
        refine ⟨q, _, xs.take i, x, rfl, .inl (SqL.of upd_same), ?_, HV.up (.of s4) hv, _, rfl, ?_⟩
        · have h4 := hvs_up (.of s4) (Paired.tk i hP)
          rw [← cut_take us i] at h4
          exact h4
        · rw [if_neg Bool.false_ne_true, decide_eq_false (nodup_not nd hx)]
          refine iteF ?_
          exact ⟨_, _, rfl, s4⟩
      · rintro σ H2 ⟨z1, z2, rfl, s2⟩
        exact k H2 s2
    · refine ⟨_, pss_cons (ps_for PassesOwn.never rfl (pi_enumT (by rfl) T.b_enumerate (pa_cons (pv 0) pa_nil)) (pg_tup rfl (pgs_cons (pg_name (i := 1) sc_areDiff.nd rfl (Or.inl rfl)) (pgs_cons (pg_name (i := 2) sc_areDiff.nd rfl (Or.inl rfl)) pgs_nil)))
        (pss_one (ps_if (pt_cmpR (op_inH (α := α) (hu2 hr hd)) (pv 2) (pe_slice sl_tup (pv 0) po_none (po_some (pv 1))) (by with_unfolding_all rfl)) (pss_one (ps_ret pe_bl)) pss_nil))) (pss_one (ps_ret pe_bl)), ?_⟩
      refine ⟨_, rfl, p, us, rfl, SqT.of hp, for_it walk_enumT (fun i σ H2 => ∃ z1 z2, σ = [some (.ref p), z1, z2] ∧ Same H H2) ⟨none, none, rfl, Same.refl H⟩ (fun i σ H2 _ ⟨_, _, _, s2⟩ => SqT.of (s2 _ _ hp)) ?_ ?_⟩
      · rintro i v σ H2 H' hi ⟨z1, z2, rfl, s2⟩ ⟨Tq, x1, y1, rfl, hTq, rfl, e1, e2⟩
        have e1 : some (V.int (i : Nat)) = some x1 := e1
        have e2 : us[i]? = some y1 := e2
        cases e1
        obtain ⟨x, hx, hv⟩ := Paired.at hP e2
        have s3 : Same H (upd H2 Tq (.tup [.int (i : Nat), y1])) := s2.trans (Same.new hTq)
        refine ⟨Tq, _, rfl, SqT.of upd_same, rfl, _, _, rfl, _, _, rfl, rfl, ?_⟩
        refine ⟨_, rfl, _, rfl, _, rfl, _, rfl, p, us, rfl, SqT.of (s3 _ _ hp), (by rw [HT.sIx_nat]; omega), fun q hq => ?_⟩
        have s4 := s3.trans (Same.new (o := .tup (cutV us none (some (i : Int)))) hq)
        refine ⟨q, _, xs.take i, x, rfl, .inr (SqT.of upd_same), ?_, HV.up (.of s4) hv, _, rfl, ?_⟩
        · have h4 := hvs_up (.of s4) (Paired.tk i hP)
          rw [← cut_take us i] at h4
          exact h4
        · rw [if_neg Bool.false_ne_true, decide_eq_false (nodup_not nd hx)]
          refine iteF ?_
          exact ⟨_, _, rfl, s4⟩
      · rintro σ H2 ⟨z1, z2, rfl, s2⟩
        exact k H2 s2
theorem ok_areHours (T : Txt K mg a) : FnOk P w K mg base CX0 1 a.areHours.f a.areHours.fd ["hours", "day"] spHours := by
  refine T.areHours.fn.ok sc_areHours (fun vs H Q E h => ?_) (fun cdv A outer s H vs Q E hr h => ?_)
  · obtain ⟨h, us, ps, day, rfl, _⟩ := h
    rfl
  · obtain ⟨h, us, ps, day, rfl, hh, hP, hlen, ok, k⟩ := h
    refine ⟨_, pss_cons (ps_if (pt_cmpR op_gt (pe_callB call_len_seq (by rfl) T.b_len PySem.boot_len (pa_cons (pv 0) pa_nil)) (pe_gv T.c_MOST_HOURS) (nomark _)) (pss_one (ps_ret pe_bl)) pss_nil)
      (pss_cons (ps_set (i := 2) sc_areHours.nd rfl (Or.inl rfl) (pe_un un_neg pe_int))
      (pss_cons (ps_for PassesOwn.never rfl (pi_tup (pv 0)) (pg_tup rfl (pgs_cons (pg_name (i := 3) sc_areHours.nd rfl (Or.inl rfl)) (pgs_cons (pg_name (i := 4) sc_areHours.nd rfl (Or.inl rfl)) pgs_nil)))
        (pss_cons (ps_if (pt_not (pt_chain3 op_lt op_lt op_le (pv 2) (pv 3) (pv 4) (pv 1))) (pss_one (ps_ret pe_bl)) pss_nil) (pss_one (ps_set (i := 2) sc_areHours.nd rfl (Or.inl rfl) (pv 4)))))
      (pss_one (ps_ret pe_bl)))), ?_⟩
    have hul := hP.length
    refine ⟨_, rfl, h, us, rfl, .inr (SqT.of hh), _, _, rfl, rfl, _, rfl, ?_⟩
    rw [decide_eq_false (show ¬ (4 : Int) < (us.length : Int) by omega)]
    refine iteF ?_
    refine ⟨1, rfl, ?_⟩
    refine ⟨_, rfl, h, rfl, ⟨us, SqT.of hh⟩, for_tup (K := K) (a := h) (xs := us) (fun i σ H2 => ∃ b z1 z2, σ = [some (.ref h), some (.int day), some (.int b), z1, z2] ∧ H2 = H ∧ WP.HoursOk day b (ps.drop i)) ⟨-1, none, none, rfl, rfl, ok⟩
      (fun i σ H2 _ ⟨_, _, _, _, e, _⟩ => by rw [e]; exact SqT.of hh) ?_ ?_⟩
    · rintro i x σ H2 hx ⟨b, z1, z2, rfl, rfl, hok⟩
      obtain ⟨⟨o, cl⟩, hoc, b2, q1, q2, rfl, hb2, e1, e2⟩ := Paired.at hP hx
      obtain rfl : q1 = V.int o := e1
      obtain rfl : q2 = V.int cl := e2
      have hd : ps.drop i = (o, cl) :: ps.drop (i + 1) := by
        obtain ⟨hi, e⟩ := List.getElem?_eq_some_iff.mp hoc
        rw [← e]
        exact List.drop_eq_getElem_cons hi
      rw [hd] at hok
      obtain ⟨h1, h2, h3, h4⟩ := hok
      have h1 : b < o := h1
      have h2 : o < cl := h2
      have h3 : cl ≤ day := h3
      refine ⟨b2, _, rfl, SqT.of hb2, rfl, _, _, rfl, _, _, rfl, rfl, ?_⟩
      refine ⟨_, rfl, _, rfl, _, _, rfl, rfl, _, rfl, ?_⟩
      rw [decide_eq_true h1]
      refine iteT ?_
      refine ⟨_, rfl, _, _, rfl, rfl, _, rfl, ?_⟩
      rw [decide_eq_true h2]
      refine iteT ?_
      refine ⟨_, rfl, _, _, rfl, rfl, _, rfl, ?_⟩
      rw [decide_eq_true h3]
      refine iteF ?_
      exact ⟨_, rfl, _, _, _, rfl, rfl, h4⟩
    · rintro σ H2 ⟨b, z1, z2, rfl, rfl, hok⟩
      exact k
end
end K17

set_option Elab.async false
set_option linter.all false
set_option maxRecDepth 100000
set_option maxHeartbeats 4000000
/-! Map.checked, Map.checked_bar. -/
namespace K17
open PySem L2 WR

/-- a road that a map takes -/
structure RoadFit (day : Int) (places kinds : List Str) (r : Road) : Prop where
  name : IsName r.name
  start : r.start ∈ places
  stop : r.stop ∈ places
  mins : 1 ≤ r.mins ∧ r.mins ≤ 1000
  nd : r.kinds.Nodup
  kinds : ∀ k ∈ r.kinds, k ∈ kinds
  hours : WP.HoursOk' day r.hours
  few : ∀ ps, r.hours = some ps → ps.length ≤ 4
/-- the road as the map keeps it -/
def norm (kinds : List Str) (r : Road) : Road := { r with kinds := kinds.filter fun k => decide (k ∈ r.kinds) }

def spChecked (C : Addr) : Sp := fun vs H Q _ => ∃ (p dx : Addr) (fs : List (Str × V)) (v : V) (r : Road) (places kinds : List Str) (day : Int), vs = [.ref p, v] ∧ H p = some (.ins C dx fs) ∧ fs.lookup ("day" : Str) = some (.int day) ∧
  TupFld H fs "places" (places.map V.str) ∧ TupFld H fs "kinds" (kinds.map V.str) ∧ kinds.length ≤ 4 ∧ RoadV H v r ∧ RoadFit day places kinds r ∧ ∀ (H' : Hp) (v' : V), Same H H' → RoadV H' v' (norm kinds r) → Q v' H'
def spCheckedBar (C : Addr) : Sp := fun vs H Q _ => ∃ (p dx : Addr) (fs : List (Str × V)) (us : List V) (rs : List Road) (v : V) (b : Str × Str) (r1 r2 : Road), vs = [.ref p, v] ∧ H p = some (.ins C dx fs) ∧ fs.lookup ("road" : Str) = none ∧
  TupFld H fs "roads" us ∧ Paired (RoadV H) us rs ∧ rs.length ≤ 60 ∧ HV.hv H v b ∧ find rs b.1 = some r1 ∧ find rs b.2 = some r2 ∧ r1.stop = r2.start ∧ ∀ (H' : Hp), Same H H' → Q v H'

theorem all_true (n : Nat) : (List.replicate n true).all id = true := by
  rw [List.all_eq_true]
  intro b hb
  exact (List.mem_replicate.mp hb).2
theorem rep_snoc (n : Nat) : (List.replicate n true).map V.bl ++ [.bl true] = (List.replicate (n + 1) true).map V.bl := by
  rw [List.replicate_succ', List.map_append]
  rfl

section
variable {P : Program} {w : World} {K : PySem.W.Frag} {mg : Str → Option Value} {base : Heap} {a : Adr}
theorem ok_checked (T : Txt K mg a) : FnOk P w K mg base CX0 2 a.checked.f a.checked.fd ["self", "road"] (spChecked a.cM) := by
  refine T.checked.fn.ok sc_checked (fun vs H Q E h => ?_) (fun cdv A outer s H vs Q E hr h => ?_)
  · obtain ⟨p, dx, fs, v, r, pl, kl, day, rfl, _⟩ := h
    rfl
  · obtain ⟨p, dx, fs, v, r, pl, kl, day, rfl, hp, hday, ⟨ap, lp, hap⟩, ⟨ak, lk, hak⟩, hkl, hR, fit, kq⟩ := h
    obtain ⟨b, kk, hh, rfl, hb, hkk, hho⟩ := hR
    have nd := sc_checked.nd
    refine ⟨_, pss_cons (ps_expr (pe_call (ok_require T) hr (by rfl) T.g_require T.require.fn.kp T.require.bd .nil pass0 (pa_cons (pe_cmpR op_eq (pe_callB call_len_seq (by rfl) T.b_len PySem.boot_len (pa_cons (pv 1) pa_nil)) (pe_gv T.c_ROAD_PARTS) (nomark _)) pa_nil)))
      (pss_cons (ps_asg (pv 1) (pg_tup rfl (pgs_cons (pg_name (i := 2) nd rfl (Or.inl rfl)) (pgs_cons (pg_name (i := 3) nd rfl (Or.inl rfl)) (pgs_cons (pg_name (i := 4) nd rfl (Or.inl rfl)) (pgs_cons (pg_name (i := 5) nd rfl (Or.inl rfl)) (pgs_cons (pg_name (i := 6) nd rfl (Or.inr rfl)) (pgs_cons (pg_name (i := 7) nd rfl (Or.inl rfl)) pgs_nil))))))))
      (pss_cons (ps_expr (pe_call (ok_require T) hr (by rfl) T.g_require T.require.fn.kp T.require.bd .nil pass0 (pa_cons (pe_and (pe_call (ok_isName T) hr (by rfl) T.g_isName T.isName.fn.kp T.isName.bd .nil pass0 (pa_cons (pv 2) pa_nil))
          (pe_and (pe_cmpR (op_inH (α := Str) (hu2 hr)) (pv 3) (pe_fld (pv 0) rfl) (by with_unfolding_all rfl)) (pe_and (pe_cmpR (op_inH (α := Str) (hu2 hr)) (pv 4) (pe_fld (pv 0) rfl) (by with_unfolding_all rfl)) (pe_one (pe_chain op_le op_le pe_int (pv 5) (pe_gv T.c_MOST_MINUTES)))))) pa_nil)))
      (pss_cons (ps_expr (pe_call (ok_require T) hr (by rfl) T.g_require T.require.fn.kp T.require.bd .nil pass0 (pa_cons (pe_and (pe_call (ok_areDiff Str (by decide) T) hr (by rfl) T.g_areDiff T.areDiff.fn.kp T.areDiff.bd .nil pass0 (pa_cons (pv 6) pa_nil))
          (pe_one (pe_callB (cr_all rfl) (by rfl) T.b_all (by decide +kernel) (pa_cons (pe_lc (own := [("kind", 9)]) (g := gName 9) (tt := tYes) (te := tOp (rInH Str K false) (tVar 9) (tFld K (tVar 0) "kinds")) rfl nd (pi_tup (pv 6))
            (blkOk_by (own := [("kind", 9)]) (N := ["self", "road", "name", "start", "end", "minutes", "kinds", "hours", "ordered", "kind", "pair"]) (sc := defScope st_checked) (by decide +kernel))
            (fun _ _ _ _ _ => pg_name (i := 9) nd rfl (Or.inl rfl)) (fun _ _ _ _ _ => pts_nil) (fun _ _ _ _ _ => pe_cmpR (op_inH (α := Str) (hu2 hr)) (pv 9) (pe_fld (pv 0) rfl) (by with_unfolding_all rfl))) pa_nil)))) pa_nil)))
      (pss_cons (ps_set (i := 8) nd rfl (Or.inl rfl) (pe_callTy call_tuple_of (by rfl) T.b_tuple (by decide +kernel) (pa_cons (pe_lc (own := [("kind", 9)]) (g := gName 9) (tt := tTest (tOp (rInH Str K false) (tVar 9) (tVar 6))) (te := tVar 9) rfl nd (pi_tup (pe_fld (pv 0) rfl))
            (blkOk_by (own := [("kind", 9)]) (N := ["self", "road", "name", "start", "end", "minutes", "kinds", "hours", "ordered", "kind", "pair"]) (sc := defScope st_checked) (by decide +kernel))
            (fun _ _ _ _ _ => pg_name (i := 9) nd rfl (Or.inl rfl)) (fun _ _ _ _ _ => pts_one (pt_cmpR (op_inH (α := Str) (hu2 hr)) (pv 9) (pv 6) (by with_unfolding_all rfl))) (fun _ _ _ _ _ => pv 9)) pa_nil)))
      (pss_cons (ps_if (pt_cmp (pc_isN (pv 7))) (pss_one (ps_ret (pe_tup (pa_cons (pv 2) (pa_cons (pv 3) (pa_cons (pv 4) (pa_cons (pv 5) (pa_cons (pv 8) (pa_cons pe_non pa_nil))))))))) pss_nil)
      (pss_cons (ps_expr (pe_call (ok_require T) hr (by rfl) T.g_require T.require.fn.kp T.require.bd .nil pass0 (pa_cons (pe_and (pe_callB (cr_all rfl) (by rfl) T.b_all (by decide +kernel) (pa_cons (pe_lc (own := [("pair", 10)]) (g := gName 10) (tt := tYes)
            (te := tOp rEq (tCB (fun xs H Q => ∃ p ys, xs = [.ref p] ∧ (SqL K H p ys ∨ SqT K H p ys) ∧ Q (.int ys.length) H) (tCons (tVar 10) tNil)) (tC (.int 2))) rfl nd (pi_tup (pv 7))
            (blkOk_by (own := [("pair", 10)]) (N := ["self", "road", "name", "start", "end", "minutes", "kinds", "hours", "ordered", "kind", "pair"]) (sc := defScope st_checked) (by decide +kernel))
            (fun _ _ _ _ _ => pg_name (i := 10) nd rfl (Or.inl rfl)) (fun _ _ _ _ _ => pts_nil) (fun _ _ _ _ _ => pe_cmpR op_eq (pe_callB call_len_seq (by rfl) T.b_len PySem.boot_len (pa_cons (pv 10) pa_nil)) pe_int (nomark _))) pa_nil))
          (pe_one (pe_call (ok_areHours T) hr (by rfl) T.g_areHours T.areHours.fn.kp T.areHours.bd .nil pass0 (pa_cons (pv 7) (pa_cons (pe_fld (pv 0) rfl) pa_nil))))) pa_nil)))
      (pss_one (ps_ret (pe_tup (pa_cons (pv 2) (pa_cons (pv 3) (pa_cons (pv 4) (pa_cons (pv 5) (pa_cons (pv 8) (pa_cons (pe_callTy call_tuple_of (by rfl) T.b_tuple (by decide +kernel) (pa_cons (pe_lc (own := [("pair", 10)]) (g := gName 10) (tt := tYes)
            (te := tCB (fun xs H Q => ∃ p ys, xs = [.ref p] ∧ ((SqL K H p ys ∧ ∀ l, H l = none → Q (.ref l) (upd H l (.tup ys))) ∨ (SqT K H p ys ∧ Q (.ref p) H))) (tCons (tVar 10) tNil)) rfl nd (pi_tup (pv 7))
            (blkOk_by (own := [("pair", 10)]) (N := ["self", "road", "name", "start", "end", "minutes", "kinds", "hours", "ordered", "kind", "pair"]) (sc := defScope st_checked) (by decide +kernel))
            (fun _ _ _ _ _ => pg_name (i := 10) nd rfl (Or.inl rfl)) (fun _ _ _ _ _ => pts_nil) (fun _ _ _ _ _ => pe_callTy call_tuple_of (by rfl) T.b_tuple (by decide +kernel) (pa_cons (pv 10) pa_nil))) pa_nil)) pa_nil))))))))))))))), ?_⟩
    -- require(len(road) == ROAD_PARTS)
    refine ⟨_, rfl, b, _, rfl, .inr (SqT.of hb), rfl, rfl, ?_⟩
    -- name, start, end, minutes, kinds, hours = road
    refine ⟨_, rfl, b, _, rfl, SqT.of hb, rfl, _, _, rfl, _, _, rfl, _, _, rfl, _, _, rfl, _, _, rfl, _, _, rfl, rfl, ?_⟩
    -- require(is_name(name) and ..)
    refine ⟨_, rfl, r.name, rfl, fit.name, fun H1 s1 => ⟨true, rfl, ?_⟩⟩
    refine iteT ?_
    refine ⟨_, rfl, _, rfl, p, a.cM, dx, fs, _, rfl, s1 _ _ hp, T.clM, T.nM_places, lp, ap, _, pl, r.start, rfl, .inr (SqT.of (s1 _ _ hap)), paired_strs pl, rfl, true, ?_, ?_⟩
    · rw [if_neg Bool.false_ne_true, decide_eq_true fit.start]
    refine iteT ?_
    refine ⟨_, rfl, _, rfl, p, a.cM, dx, fs, _, rfl, s1 _ _ hp, T.clM, T.nM_places, lp, ap, _, pl, r.stop, rfl, .inr (SqT.of (s1 _ _ hap)), paired_strs pl, rfl, true, ?_, ?_⟩
    · rw [if_neg Bool.false_ne_true, decide_eq_true fit.stop]
    refine iteT ?_
    refine ⟨_, rfl, _, _, rfl, rfl, _, rfl, ?_⟩
    rw [decide_eq_true fit.mins.1]
    refine iteT ?_
    refine ⟨_, _, rfl, rfl, ?_⟩
    refine ⟨(by show [V.bl (decide (r.mins ≤ 1000))] = [V.bl true]; rw [decide_eq_true fit.mins.2]), ?_⟩
    -- require(are_different(kinds) and all(..))
    refine ⟨_, rfl, kk, _, r.kinds, rfl, .inr (s1 _ _ hkk), paired_strs r.kinds, fit.nd, fun H2 s2 => ⟨true, rfl, ?_⟩⟩
    refine iteT ?_
    have s12 := s1.trans s2
    have hkn : r.kinds.length ≤ 4 := Nat.le_trans (WP.nodup_len fit.nd fit.kinds) hkl
    refine ⟨_, rfl, kk, rfl, ⟨_, SqT.of (s12 _ _ hkk)⟩, fun D hD => lc_tup (K := K) (a := kk) (xs := r.kinds.map V.str) (fun i H3 => Same H2 H3 ∧ H3 D = some (.lst ((List.replicate i true).map V.bl)) ∧ i ≤ r.kinds.length) ⟨Same.new hD, upd_same, Nat.zero_le _⟩
      (fun i H3 _ ⟨s3, _⟩ => SqT.of (s3 _ _ (s12 _ _ hkk))) ?_ ?_⟩
    · rintro i z H3 hz ⟨s3, hD3, hi⟩
      rw [List.getElem?_map] at hz
      obtain ⟨n, hn, rfl⟩ : ∃ n, r.kinds[i]? = some n ∧ V.str n = z := by
        cases q : r.kinds[i]? with
        | none => rw [q] at hz; cases hz
        | some o => rw [q] at hz; exact ⟨o, rfl, Option.some.inj hz⟩
      have hil := (List.getElem?_eq_some_iff.mp hn).1
      have s13 := s12.trans s3
      refine ⟨rfl, tYes_if ?_⟩
      refine ⟨_, rfl, _, rfl, p, a.cM, dx, fs, _, rfl, s13 _ _ hp, T.clM, T.nM_kinds, lk, ak, _, kl, n, rfl, .inr (SqT.of (s13 _ _ hak)), paired_strs kl, rfl, _, hD3, size60 (by rw [List.length_map, List.length_replicate]; omega), Same.put s3 hD, ?_, hil⟩
      rw [if_neg Bool.false_ne_true, decide_eq_true (fit.kinds n (List.mem_of_getElem? hn)), upd_same, rep_snoc]
    rintro H3 ⟨s3, hD3, _⟩
    refine ⟨D, _, rfl, SqL.of hD3, (by show [V.bl ((List.replicate _ true).all id)] = [V.bl true]; rw [all_true]), ?_⟩
    have s13 := s12.trans s3
    clear hD3 hD
    -- ordered = tuple([kind for kind in self.kinds if kind in kinds])
    refine ⟨_, rfl, p, a.cM, dx, fs, _, rfl, s13 _ _ hp, T.clM, T.nM_kinds, lk, ak, rfl, ⟨_, SqT.of (s13 _ _ hak)⟩, fun D hD => lc_tup (K := K) (a := ak) (xs := kl.map V.str)
      (fun i H4 => Same H3 H4 ∧ H4 D = some (.lst (((kl.take i).filter fun k => decide (k ∈ r.kinds)).map V.str))) ⟨Same.new hD, upd_same⟩ (fun i H4 _ ⟨s4, _⟩ => SqT.of (s4 _ _ (s13 _ _ hak))) ?_ ?_⟩
    · rintro i z H4 hz ⟨s4, hD4⟩
      rw [List.getElem?_map] at hz
      obtain ⟨n, hn, rfl⟩ : ∃ n, kl[i]? = some n ∧ V.str n = z := by
        cases q : kl[i]? with
        | none => rw [q] at hz; cases hz
        | some o => rw [q] at hz; exact ⟨o, rfl, Option.some.inj hz⟩
      have hil := (List.getElem?_eq_some_iff.mp hn).1
      have s14 := s13.trans s4
      have hfl : ((kl.take i).filter fun k => decide (k ∈ r.kinds)).length ≤ i := Nat.le_trans (List.length_filter_le _ _) (by rw [List.length_take]; omega)
      refine ⟨rfl, _, rfl, _, rfl, kk, _, r.kinds, n, rfl, .inr (SqT.of (s14 _ _ hkk)), paired_strs r.kinds, rfl, _, rfl, ?_⟩
      rw [if_neg Bool.false_ne_true]
      refine ite2 (fun hc => ?_) (fun hc => ?_)
      · refine ⟨_, rfl, _, hD4, size60 (by rw [List.length_map]; omega), Same.put s4 hD, ?_⟩
        rw [upd_same, take_snoc hn, List.filter_append, List.filter_cons_of_pos (by simp only [decide_eq_true_eq] at hc ⊢; exact hc)]
        simp
      · refine ⟨s4, ?_⟩
        rw [hD4, take_snoc hn, List.filter_append, List.filter_cons_of_neg (by simp only [decide_eq_true_eq] at hc ⊢; exact hc)]
        simp
    rintro H4 ⟨s4, hD4⟩
    rw [List.length_map, List.take_length] at hD4
    refine ⟨D, _, rfl, .inl ⟨SqL.of hD4, fun od hod => ?_⟩⟩
    have s14 := s13.trans s4
    have s15 := s14.trans (Same.new (o := .tup ((kl.filter fun k => decide (k ∈ r.kinds)).map V.str)) hod)
    have hod5 : (upd H4 od (.tup ((kl.filter fun k => decide (k ∈ r.kinds)).map V.str))) od = some (.tup ((kl.filter fun k => decide (k ∈ r.kinds)).map V.str)) := upd_same
    generalize upd H4 od (.tup ((kl.filter fun k => decide (k ∈ r.kinds)).map V.str)) = H5 at s15 hod5
    clear hD4 hD hod s14 s4 s3 s2 s1 s12 s13
    -- if hours is None
    refine ⟨_, rfl, _, rfl, ?_⟩
    cases hrh : r.hours with
    | none =>
      rw [hrh] at hho
      obtain rfl : hh = V.non := hho
      refine iteT ?_
      refine ⟨_, rfl, _, rfl, _, rfl, _, rfl, _, rfl, (by show 6 ≤ sizeLine; decide), fun t ht => ?_⟩
      refine kq _ _ (s15.trans (Same.new ht)) ⟨t, od, .non, rfl, upd_same, ?_, ?_⟩
      · rw [upd_ne (ne_of_none hod5 ht)]
        exact hod5
      · show HoursV _ _ r.hours
        rw [hrh]
        exact rfl
    | some ps =>
      rw [hrh] at hho
      obtain ⟨ah, uh, rfl, hah, hP⟩ := hho
      have hps4 := fit.few ps hrh
      have hok : WP.HoursOk day (-1) ps := by
        have := fit.hours
        rw [hrh] at this
        exact this
      have hul := hP.length
      refine iteF ?_
      -- require(all([len(pair) == 2 ..]) and are_hours(hours, self.day))
      refine ⟨_, rfl, ah, rfl, ⟨_, SqT.of (s15 _ _ hah)⟩, fun D hD => lc_tup (K := K) (a := ah) (xs := uh) (fun i H6 => Same H5 H6 ∧ H6 D = some (.lst ((List.replicate i true).map V.bl)) ∧ i ≤ uh.length) ⟨Same.new hD, upd_same, Nat.zero_le _⟩
        (fun i H6 _ ⟨s6, _⟩ => SqT.of (s6 _ _ (s15 _ _ hah))) ?_ ?_⟩
      · rintro i z H6 hz ⟨s6, hD6, hi⟩
        obtain ⟨⟨o, cl⟩, hoc, b2, q1, q2, rfl, hb2, e1, e2⟩ := Paired.at hP hz
        have hil := (List.getElem?_eq_some_iff.mp hz).1
        have s16 := s15.trans s6
        refine ⟨rfl, tYes_if ?_⟩
        refine ⟨_, rfl, b2, _, rfl, .inr (SqT.of (s16 _ _ hb2)), rfl, _, hD6, size60 (by rw [List.length_map, List.length_replicate]; omega), Same.put s6 hD, ?_, hil⟩
        rw [upd_same, ← rep_snoc]
        rfl
      rintro H6 ⟨s6, hD6, _⟩
      refine ⟨D, _, rfl, SqL.of hD6, true, ?_, ?_⟩
      · rw [all_true]
      refine iteT ?_
      have s16 := s15.trans s6
      refine ⟨_, rfl, _, rfl, p, a.cM, dx, fs, _, rfl, s16 _ _ hp, T.clM, T.nM_day, hday, ah, uh, ps, day, rfl, s16 _ _ hah, hvs_up (.of s16) hP, hps4, hok, rfl, ?_⟩
      have hod6 := s6 _ _ hod5
      clear hD6 hD
      -- return (name, .., tuple([tuple(pair) for pair in hours]))
      refine ⟨_, rfl, _, rfl, _, rfl, _, rfl, _, rfl, _, rfl, ah, rfl, ⟨_, SqT.of (s16 _ _ hah)⟩, fun D hD => lc_tup (K := K) (a := ah) (xs := uh) (fun i H7 => Same H6 H7 ∧ H7 D = some (.lst (uh.take i))) ⟨Same.new hD, upd_same⟩
        (fun i H7 _ ⟨s7, _⟩ => SqT.of (s7 _ _ (s16 _ _ hah))) ?_ ?_⟩
      · rintro i z H7 hz ⟨s7, hD7⟩
        obtain ⟨⟨o, cl⟩, hoc, b2, q1, q2, rfl, hb2, e1, e2⟩ := Paired.at hP hz
        have hil := (List.getElem?_eq_some_iff.mp hz).1
        have s17 := s16.trans s7
        refine ⟨rfl, tYes_if ?_⟩
        refine ⟨_, rfl, b2, _, rfl, .inr ⟨SqT.of (s17 _ _ hb2), _, hD7, size60 (by rw [List.length_take]; omega), Same.put s7 hD, ?_⟩⟩
        rw [upd_same, take_snoc hz]
      rintro H7 ⟨s7, hD7⟩
      rw [List.take_length] at hD7
      have s17 := s16.trans s7
      refine ⟨D, _, rfl, .inl ⟨SqL.of hD7, fun hn hhn => ⟨(by show 6 ≤ sizeLine; decide), fun t ht => ?_⟩⟩⟩
      have s18 := (s17.trans (Same.new (o := .tup uh) hhn)).trans (Same.new (o := .tup [.str r.name, .str r.start, .str r.stop, .int r.mins, .ref od, .ref hn]) ht)
      refine kq _ _ s18 ⟨t, od, .ref hn, rfl, upd_same, ?_, ?_⟩
      · have h7 := s7 _ _ hod6
        rw [upd_ne (ne_of_none (by rw [upd_ne (ne_of_none h7 hhn)]; exact h7) ht), upd_ne (ne_of_none h7 hhn)]
        exact h7
      · show HoursV _ _ r.hours
        rw [hrh]
        refine ⟨hn, uh, rfl, ?_, hvs_up (.of s18) hP⟩
        rw [upd_ne (ne_of_none upd_same ht)]
        exact upd_same
end
end K17

set_option Elab.async false
set_option linter.all false
set_option maxRecDepth 100000
set_option maxHeartbeats 4000000
/-! Map.checked_bar. -/
namespace K17
open PySem L2 WR
section
variable {P : Program} {w : World} {K : PySem.W.Frag} {mg : Str → Option Value} {base : Heap} {a : Adr}
theorem ok_checkedBar (T : Txt K mg a) : FnOk P w K mg base CX0 3 a.checkedBar.f a.checkedBar.fd ["self", "bar"] (spCheckedBar a.cM) := by
  refine T.checkedBar.fn.ok sc_checkedBar (fun vs H Q E h => ?_) (fun cdv A outer s H vs Q E hr h => ?_)
  · obtain ⟨p, dx, fs, us, rs, v, b, r1, r2, rfl, _⟩ := h
    rfl
  · obtain ⟨p, dx, fs, us, rs, v, ⟨b1, b2⟩, r1, r2, rfl, hp, hroad, ⟨ar, lr, har⟩, hR, hlen, hv, h1, h2, hst, kq⟩ := h
    obtain ⟨bb, q1, q2, rfl, hb, e1, e2⟩ := hv
    obtain rfl : q1 = V.str b1 := e1
    obtain rfl : q2 = V.str b2 := e2
    have h1 : find rs b1 = some r1 := h1
    have h2 : find rs b2 = some r2 := h2
    have m1 : b1 ∈ rs.map (·.name) := List.mem_map.mpr ⟨r1, (find_name h1).1, (find_name h1).2⟩
    have m2 : b2 ∈ rs.map (·.name) := List.mem_map.mpr ⟨r2, (find_name h2).1, (find_name h2).2⟩
    have hr1 : Room 1 _ := hr.mono (by decide)
    refine ⟨_, pss_cons (ps_expr (pe_call (ok_require T) hr1 (by rfl) T.g_require T.require.fn.kp T.require.bd .nil pass0 (pa_cons (pe_and (pe_cmpR op_eq (pe_callB call_len_seq (by rfl) T.b_len PySem.boot_len (pa_cons (pv 1) pa_nil)) pe_int (nomark _))
          (pe_and (pe_cmpR (op_inH (α := Str) (hu2 hr)) (pe_ix ix_tup (pv 1) pe_int (fun _ _ => rfl)) (pe_prop (pv 0) T.clM T.prop (ok_roadNames T) hr T.roadNames.bd .nil pass0 rfl) (by with_unfolding_all rfl))
            (pe_one (pe_cmpR (op_inH (α := Str) (hu2 hr)) (pe_ix ix_tup (pv 1) pe_int (fun _ _ => rfl)) (pe_prop (pv 0) T.clM T.prop (ok_roadNames T) hr T.roadNames.bd .nil pass0 rfl) (by with_unfolding_all rfl))))) pa_nil)))
      (pss_cons (ps_expr (pe_call (ok_require T) hr1 (by rfl) T.g_require T.require.fn.kp T.require.bd .nil pass0 (pa_cons (pe_cmpR op_eq
          (pe_ix ix_tup (pe_meth (pv 0) T.clM T.m_road (ok_road T) hr1 T.road.bd .nil pass0 (pa_cons (pe_ix ix_tup (pv 1) pe_int (fun _ _ => rfl)) pa_nil)) pe_int (fun _ _ => rfl))
          (pe_ix ix_tup (pe_meth (pv 0) T.clM T.m_road (ok_road T) hr1 T.road.bd .nil pass0 (pa_cons (pe_ix ix_tup (pv 1) pe_int (fun _ _ => rfl)) pa_nil)) pe_int (fun _ _ => rfl)) (nomark _)) pa_nil)))
      (pss_one (ps_ret (pe_callTy call_tuple_of (by rfl) T.b_tuple (by decide +kernel) (pa_cons (pv 1) pa_nil))))), ?_⟩
    -- require(..)
    refine ⟨_, rfl, bb, _, rfl, .inr (SqT.of hb), rfl, true, rfl, ?_⟩
    refine iteT ?_
    refine ⟨_, rfl, bb, _, 0, _, rfl, rfl, SqT.of hb, atI_nat (j := 0) rfl, ?_⟩
    refine ⟨_, rfl, p, dx, fs, rfl, hp, p, dx, fs, us, rs, rfl, hp, ⟨ar, lr, har⟩, hR, hlen, fun H1 t1 s1 ht1 h1t => ?_⟩
    refine ⟨t1, _, rs.map (·.name), b1, rfl, .inr (SqT.of h1t), paired_strs _, rfl, true, ?_, ?_⟩
    · rw [if_neg Bool.false_ne_true, decide_eq_true m1]
    refine iteT ?_
    refine ⟨_, rfl, bb, _, 1, _, rfl, rfl, SqT.of (s1 _ _ hb), atI_nat (j := 1) rfl, ?_⟩
    refine ⟨_, rfl, p, dx, fs, rfl, s1 _ _ hp, p, dx, fs, us, rs, rfl, s1 _ _ hp, ⟨ar, lr, s1 _ _ har⟩, roads_up (.of s1) hR, hlen, fun H2 t2 s2 ht2 h2t => ?_⟩
    have s12 := s1.trans s2
    refine ⟨t2, _, rs.map (·.name), b2, rfl, .inr (SqT.of h2t), paired_strs _, rfl, ?_⟩
    refine ⟨(by show [V.bl (if false = true then _ else _)] = [V.bl true]; rw [if_neg Bool.false_ne_true, decide_eq_true m2]), ?_⟩
    -- require(self.road(bar[0])[2] == self.road(bar[1])[1])
    have hp2 := s12 _ _ hp
    have hR2 := roads_up (.of s12) hR
    refine ⟨_, rfl, p, dx, fs, rfl, hp2, hroad, ?_⟩
    refine ⟨_, rfl, bb, _, 0, _, rfl, rfl, SqT.of (s12 _ _ hb), atI_nat (j := 0) rfl, ?_⟩
    refine ⟨p, dx, fs, us, rs, b1, r1, rfl, hp2, ⟨ar, lr, s12 _ _ har⟩, hR2, h1, fun v1 hv1 => ?_⟩
    obtain ⟨c1, k1, hh1, rfl, hc1, _⟩ := hv1
    refine ⟨c1, _, 2, _, rfl, rfl, SqT.of hc1, atI_nat (j := 2) rfl, ?_⟩
    refine ⟨_, rfl, p, dx, fs, rfl, hp2, hroad, ?_⟩
    refine ⟨_, rfl, bb, _, 1, _, rfl, rfl, SqT.of (s12 _ _ hb), atI_nat (j := 1) rfl, ?_⟩
    refine ⟨p, dx, fs, us, rs, b2, r2, rfl, hp2, ⟨ar, lr, s12 _ _ har⟩, hR2, h2, fun v2 hv2 => ?_⟩
    obtain ⟨c2, k2, hh2, rfl, hc2, _⟩ := hv2
    refine ⟨c2, _, 1, _, rfl, rfl, SqT.of hc2, atI_nat (j := 1) rfl, rfl, ?_⟩
    refine ⟨(by show [V.bl (decide (V.str r1.stop = V.str r2.start))] = [V.bl true]; rw [hst, decide_eq_true rfl]), ?_⟩
    refine ⟨_, rfl, bb, _, rfl, .inr ⟨SqT.of (s12 _ _ hb), ?_⟩⟩
    exact kq H2 s12
end
end K17

set_option Elab.async false
set_option linter.all false
set_option maxRecDepth 100000
set_option maxHeartbeats 8000000
/-! Map.__init__. -/
namespace K17
open PySem L2 WR

/-- parts that a map takes -/
structure Fit (dy : Int) (ks ps : List Str) (rs : List Road) (bars : List (Str × Str)) : Prop where
  day : 1 ≤ dy ∧ dy ≤ 1440
  places : ps.length ≤ 30 ∧ ps.Nodup ∧ ∀ x ∈ ps, IsName x
  kinds : 1 ≤ ks.length ∧ ks.length ≤ 4 ∧ ks.Nodup ∧ ∀ x ∈ ks, IsName x
  roads : rs.length ≤ 60 ∧ ∀ r ∈ rs, RoadFit dy ps ks r
  names : (rs.map (·.name)).Nodup
  bars : bars.length ≤ 40 ∧ bars.Nodup ∧ ∀ b ∈ bars, ∃ r1 ∈ rs, ∃ r2 ∈ rs, r1.name = b.1 ∧ r2.name = b.2 ∧ r1.stop = r2.start
/-- the map that is made of them -/
structure Made (dy : Int) (ks ps : List Str) (rs : List Road) (bars : List (Str × Str)) (c : Chart) : Prop where
  day : c.day = dy
  places : c.places.Perm ps
  kinds : c.kinds.Perm ks
  roads : c.roads.Perm (rs.map (norm c.kinds))
  bars : c.bars.Perm bars

def mapF (day : Int) (pa ka ra ba : Addr) : List (Str × V) := putF "bars" (.ref ba) (putF "roads" (.ref ra) (putF "kinds" (.ref ka) (putF "places" (.ref pa) (putF "day" (.int day) []))))
def mapF4 (day : Int) (pa ka ra : Addr) : List (Str × V) := putF "roads" (.ref ra) (putF "kinds" (.ref ka) (putF "places" (.ref pa) (putF "day" (.int day) [])))
def mapF3 (day : Int) (pa ka : Addr) : List (Str × V) := putF "kinds" (.ref ka) (putF "places" (.ref pa) (putF "day" (.int day) []))
section
variable {day : Int} {pa ka ra ba : Addr}
theorem map3_day : (mapF3 day pa ka).lookup ("day" : Str) = some (.int day) := by
  unfold mapF3
  rw [lookup_putF, if_neg (by decide +kernel), lookup_putF, if_neg (by decide +kernel), lookup_putF, if_pos rfl]
theorem map3_places : (mapF3 day pa ka).lookup ("places" : Str) = some (.ref pa) := by
  unfold mapF3
  rw [lookup_putF, if_neg (by decide +kernel), lookup_putF, if_pos rfl]
theorem map3_kinds : (mapF3 day pa ka).lookup ("kinds" : Str) = some (.ref ka) := by
  unfold mapF3
  rw [lookup_putF, if_pos rfl]
theorem map3_no {m : Str} (h1 : m ≠ "day") (h2 : m ≠ "places") (h3 : m ≠ "kinds") : (mapF3 day pa ka).lookup m = none := by
  unfold mapF3
  rw [lookup_putF, if_neg h3, lookup_putF, if_neg h2, lookup_putF, if_neg h1]
  rfl
theorem map4_3 {m : Str} (h : m ≠ "roads") : (mapF4 day pa ka ra).lookup m = (mapF3 day pa ka).lookup m := by
  unfold mapF4
  rw [lookup_putF, if_neg h]
  rfl
theorem map4_roads : (mapF4 day pa ka ra).lookup ("roads" : Str) = some (.ref ra) := by
  unfold mapF4
  rw [lookup_putF, if_pos rfl]
theorem map5_4 {m : Str} (h : m ≠ "bars") : (mapF day pa ka ra ba).lookup m = (mapF4 day pa ka ra).lookup m := by
  unfold mapF
  rw [lookup_putF, if_neg h]
  rfl
theorem map5_bars : (mapF day pa ka ra ba).lookup ("bars" : Str) = some (.ref ba) := by
  unfold mapF
  rw [lookup_putF, if_pos rfl]
theorem map_meth : ∀ m ∈ mapMeths, (mapF day pa ka ra ba).lookup m = none := by
  intro m hm
  unfold mapMeths at hm
  simp only [List.mem_cons, List.not_mem_nil, or_false] at hm
  rcases hm with rfl | rfl | rfl | rfl | rfl | rfl | rfl | rfl <;>
    rw [map5_4 (by decide +kernel), map4_3 (by decide +kernel), map3_no (by decide +kernel) (by decide +kernel) (by decide +kernel)]
end

def spMInit (C : Addr) : Sp := fun vs H Q _ => ∃ (p dx pk pp pr pb : Addr) (day : Int) (ks ps : List Str) (us : List V) (rs : List Road) (bs : List V) (bars : List (Str × Str)),
  vs = [.ref p, .int day, .ref pk, .ref pp, .ref pr, .ref pb] ∧ H p = some (.ins C dx []) ∧ H pk = some (.lst (ks.map V.str)) ∧ H pp = some (.lst (ps.map V.str)) ∧ H pr = some (.lst us) ∧ Paired (RoadV H) us rs ∧
  H pb = some (.lst bs) ∧ Paired (HV.hv H) bs bars ∧ Fit day ks ps rs bars ∧ ∀ (H' : Hp) (c : Chart), But p H H' → ChartAt C H' p c → Made day ks ps rs bars c → Q .non H'

theorem But.refl (p : Addr) (H : Hp) : But p H H := fun _ _ e _ => e
theorem But.trans {p : Addr} {H H1 H2 : Hp} (a : But p H H1) (b : But p H1 H2) : But p H H2 := fun c o e h => b c o (a c o e h) h
theorem But.of {p : Addr} {H H1 : Hp} (s : Same H H1) : But p H H1 := fun c o e _ => s c o e
theorem But.put {p : Addr} {H : Hp} {o : HO} : But p H (upd H p o) := fun b u e hb => by
  rw [upd_ne hb]
  exact e
theorem But.tups {p : Addr} {H H' : Hp} {C dx : Addr} {fs : List (Str × V)} (b : But p H H') (hp : H p = some (.ins C dx fs)) : Tups H H' := fun q xs e => b q _ e (ne_of e hp fun z => by cases z)
theorem lst_ne {H : Hp} {p q C dx : Addr} {fs : List (Str × V)} {xs : List V} (h : H q = some (.lst xs)) (hp : H p = some (.ins C dx fs)) : q ≠ p := ne_of h hp fun z => by cases z
theorem nodup_perm {α : Type} {l l' : List α} (p : l.Perm l') (h : l'.Nodup) : l.Nodup := p.nodup_iff.mpr h

section
variable {P : Program} {w : World} {K : PySem.W.Frag} {mg : Str → Option Value} {base : Heap} {a : Adr}
theorem ok_mInit (T : Txt K mg a) : FnOk P w K mg base CX0 4 a.mInit.f a.mInit.fd ["self", "day", "kinds", "places", "roads", "bars"] (spMInit a.cM) := by
  refine T.mInit.ok sc_mInit (fun vs H Q E h => ?_) (fun cdv A outer s H vs Q E hr h => ?_)
  · obtain ⟨p, dx, pk, pp, pr, pb, day, ks, ps, us, rs, bs, bars, rfl, _⟩ := h
    rfl
  · obtain ⟨p, dx, pk, pp, pr, pb, day, ks, ps, us, rs, bs, bars, rfl, hp, hpk, hpp, hpr, hR, hpb, hB, fit, kq⟩ := h
    have nd := sc_mInit.nd
    have hr1 : Room 1 _ := hr.mono (by decide)
    refine ⟨_, pss_cons (ps_expr (pe_call (ok_require T) hr1 (by rfl) T.g_require T.require.fn.kp T.require.bd .nil pass0 (pa_cons (pe_chain op_le op_le pe_int (pv 1) (pe_gv T.c_MOST_DAY)) pa_nil)))
      (pss_cons (ps_expr (pe_call (ok_require T) hr1 (by rfl) T.g_require T.require.fn.kp T.require.bd .nil pass0 (pa_cons (pe_and (pe_cmpR op_le (pe_callB call_len_seq (by rfl) T.b_len PySem.boot_len (pa_cons (pv 3) pa_nil)) (pe_gv T.c_MOST_PLACES) (nomark _))
          (pe_and (pe_call (ok_areDiff Str (by decide) T) hr1 (by rfl) T.g_areDiff T.areDiff.fn.kp T.areDiff.bd .nil pass0 (pa_cons (pv 3) pa_nil)) (pe_one (pe_callB (cr_all rfl) (by rfl) T.b_all (by decide +kernel) (pa_cons (pe_lc (own := [("place", 6)]) (g := gName 6) (tt := tYes) (te := tCall spIsName [] E0 (tCons (tVar 6) tNil)) rfl nd (pi_list (pv 3))
            (blkOk_by (own := [("place", 6)]) (N := ["self", "day", "kinds", "places", "roads", "bars", "place", "kind", "road", "bar"]) (sc := defScope st_mInit) (by decide +kernel))
            (fun _ _ _ _ _ => pg_name (i := 6) nd rfl (Or.inl rfl)) (fun _ _ _ _ _ => pts_nil) (fun _ _ _ _ _ => pe_call (ok_isName T) hr1 (by rfl) T.g_isName T.isName.fn.kp T.isName.bd .nil pass0 (pa_cons (pv 6) pa_nil))) pa_nil))))) pa_nil)))
      (pss_cons (ps_expr (pe_call (ok_require T) hr1 (by rfl) T.g_require T.require.fn.kp T.require.bd .nil pass0 (pa_cons (pe_and (pe_chain op_le op_le pe_int (pe_callB call_len_seq (by rfl) T.b_len PySem.boot_len (pa_cons (pv 2) pa_nil)) (pe_gv T.c_MOST_KINDS))
          (pe_and (pe_call (ok_areDiff Str (by decide) T) hr1 (by rfl) T.g_areDiff T.areDiff.fn.kp T.areDiff.bd .nil pass0 (pa_cons (pv 2) pa_nil)) (pe_one (pe_callB (cr_all rfl) (by rfl) T.b_all (by decide +kernel) (pa_cons (pe_lc (own := [("kind", 7)]) (g := gName 7) (tt := tYes) (te := tCall spIsName [] E0 (tCons (tVar 7) tNil)) rfl nd (pi_list (pv 2))
            (blkOk_by (own := [("kind", 7)]) (N := ["self", "day", "kinds", "places", "roads", "bars", "place", "kind", "road", "bar"]) (sc := defScope st_mInit) (by decide +kernel))
            (fun _ _ _ _ _ => pg_name (i := 7) nd rfl (Or.inl rfl)) (fun _ _ _ _ _ => pts_nil) (fun _ _ _ _ _ => pe_call (ok_isName T) hr1 (by rfl) T.g_isName T.isName.fn.kp T.isName.bd .nil pass0 (pa_cons (pv 7) pa_nil))) pa_nil))))) pa_nil)))
      (pss_cons (ps_fld (pv 0) (pv 1) rfl)
      (pss_cons (ps_fld (pv 0) (pe_callTy call_tuple_of (by rfl) T.b_tuple (by decide +kernel) (pa_cons (pe_callB (cr_sortedH (α := Str) sortable_strs (hu3 hr)) (by rfl) T.b_sorted (by decide +kernel) (pa_cons (pv 3) pa_nil)) pa_nil)) rfl)
      (pss_cons (ps_fld (pv 0) (pe_callTy call_tuple_of (by rfl) T.b_tuple (by decide +kernel) (pa_cons (pe_callB (cr_sortedH (α := Str) sortable_strs (hu3 hr)) (by rfl) T.b_sorted (by decide +kernel) (pa_cons (pv 2) pa_nil)) pa_nil)) rfl)
      (pss_cons (ps_expr (pe_call (ok_require T) hr1 (by rfl) T.g_require T.require.fn.kp T.require.bd .nil pass0 (pa_cons (pe_cmpR op_le (pe_callB call_len_seq (by rfl) T.b_len PySem.boot_len (pa_cons (pv 4) pa_nil)) (pe_gv T.c_MOST_ROADS) (nomark _)) pa_nil)))
      (pss_cons (ps_fld (pv 0) (pe_callTy call_tuple_of (by rfl) T.b_tuple (by decide +kernel) (pa_cons (pe_callBK (cr_sortedK T.nameOf.fn sc_nameOf rfl rfl T.nameOf.bd (by decide) hr) (by rfl) T.b_sorted (by decide +kernel)
          (pa_cons (pe_lc (own := [("road", 8)]) (g := gName 8) (tt := tYes) (te := tMeth a.cM "checked" (spChecked a.cM) [] E0 (tVar 0) (tCons (tVar 8) tNil)) rfl nd (pi_list (pv 4))
            (blkOk_by (own := [("road", 8)]) (N := ["self", "day", "kinds", "places", "roads", "bars", "place", "kind", "road", "bar"]) (sc := defScope st_mInit) (by decide +kernel))
            (fun _ _ _ _ _ => pg_name (i := 8) nd rfl (Or.inl rfl)) (fun _ _ _ _ _ => pts_nil) (fun _ _ _ _ _ => pe_meth (pv 0) T.clM T.m_checked (ok_checked T) (hr.mono (by decide)) T.checked.bd .nil pass0 (pa_cons (pv 8) pa_nil))) pa_nil)
          (pk_cons (pe_glob (by rfl) T.g_nameOf (v := .ref a.nameOf.f) rfl) pk_nil)) pa_nil)) rfl)
      (pss_cons (ps_expr (pe_call (ok_require T) hr1 (by rfl) T.g_require T.require.fn.kp T.require.bd .nil pass0 (pa_cons (pe_call (ok_areDiff Str (by decide) T) hr1 (by rfl) T.g_areDiff T.areDiff.fn.kp T.areDiff.bd .nil pass0 (pa_cons (pe_prop (pv 0) T.clM T.prop (ok_roadNames T) (hr.mono (by decide)) T.roadNames.bd .nil pass0 rfl) pa_nil)) pa_nil)))
      (pss_cons (ps_expr (pe_call (ok_require T) hr1 (by rfl) T.g_require T.require.fn.kp T.require.bd .nil pass0 (pa_cons (pe_cmpR op_le (pe_callB call_len_seq (by rfl) T.b_len PySem.boot_len (pa_cons (pv 5) pa_nil)) (pe_gv T.c_MOST_BARS) (nomark _)) pa_nil)))
      (pss_cons (ps_fld (pv 0) (pe_callTy call_tuple_of (by rfl) T.b_tuple (by decide +kernel) (pa_cons (pe_callB (cr_sortedH (α := Str × Str) sortable_pairs (hu3 hr)) (by rfl) T.b_sorted (by decide +kernel)
          (pa_cons (pe_lc (own := [("bar", 9)]) (g := gName 9) (tt := tYes) (te := tMeth a.cM "checked_bar" (spCheckedBar a.cM) [] E0 (tVar 0) (tCons (tVar 9) tNil)) rfl nd (pi_list (pv 5))
            (blkOk_by (own := [("bar", 9)]) (N := ["self", "day", "kinds", "places", "roads", "bars", "place", "kind", "road", "bar"]) (sc := defScope st_mInit) (by decide +kernel))
            (fun _ _ _ _ _ => pg_name (i := 9) nd rfl (Or.inl rfl)) (fun _ _ _ _ _ => pts_nil) (fun _ _ _ _ _ => pe_meth (pv 0) T.clM T.m_checkedBar (ok_checkedBar T) hr T.checkedBar.bd .nil pass0 (pa_cons (pv 9) pa_nil))) pa_nil)) pa_nil)) rfl)
      (pss_one (ps_expr (pe_call (ok_require T) hr1 (by rfl) T.g_require T.require.fn.kp T.require.bd .nil pass0 (pa_cons (pe_call (ok_areDiff (Str × Str) (by decide) T) hr1 (by rfl) T.g_areDiff T.areDiff.fn.kp T.areDiff.bd .nil pass0 (pa_cons (pe_fld (pv 0) rfl) pa_nil)) pa_nil)))))))))))))), ?_⟩
    -- require(1 <= day <= MOST_DAY)
    refine ⟨_, rfl, _, _, rfl, rfl, _, rfl, ?_⟩
    rw [decide_eq_true fit.day.1]
    refine iteT ?_
    refine ⟨_, _, rfl, rfl, (by show [V.bl (decide (day ≤ 1440))] = [V.bl true]; rw [decide_eq_true fit.day.2]), ?_⟩
    -- require(len(places) <= ..)
    have hpl := fit.places
    refine ⟨_, rfl, pp, _, rfl, .inl (SqL.of hpp), _, _, rfl, rfl, true, ?_, ?_⟩
    · show V.bl (decide (((ps.map V.str).length : Int) ≤ 30)) = V.bl true
      rw [decide_eq_true (by rw [List.length_map]; omega)]
    refine iteT ?_
    refine ⟨_, rfl, pp, _, ps, rfl, .inl hpp, paired_strs ps, hpl.2.1, fun H1 s1 => ⟨true, rfl, ?_⟩⟩
    refine iteT ?_
    refine ⟨_, rfl, pp, rfl, ⟨_, SqL.of (s1 _ _ hpp)⟩, fun D hD => lc_list (K := K) (a := pp) (xs := ps.map V.str) (fun i H2 => Same H1 H2 ∧ H2 D = some (.lst ((List.replicate i true).map V.bl)) ∧ i ≤ ps.length) ⟨Same.new hD, upd_same, Nat.zero_le _⟩
      (fun i H2 _ ⟨s2, _⟩ => SqL.of (s2 _ _ (s1 _ _ hpp))) ?_ ?_⟩
    · rintro i z H2 hz ⟨s2, hD2, hi⟩
      rw [List.getElem?_map] at hz
      obtain ⟨n, hn, rfl⟩ : ∃ n, ps[i]? = some n ∧ V.str n = z := by
        cases q : ps[i]? with
        | none => rw [q] at hz; cases hz
        | some o => rw [q] at hz; exact ⟨o, rfl, Option.some.inj hz⟩
      have hil := (List.getElem?_eq_some_iff.mp hn).1
      refine ⟨rfl, tYes_if ?_⟩
      refine ⟨_, rfl, n, rfl, hpl.2.2 n (List.mem_of_getElem? hn), fun H3 s3 => ⟨_, s3 _ _ hD2, size60 (by rw [List.length_map, List.length_replicate]; omega), Same.put (s2.trans s3) hD, ?_, hil⟩⟩
      rw [upd_same, rep_snoc]
    rintro H2 ⟨s2, hD2, _⟩
    refine ⟨D, _, rfl, SqL.of hD2, (by show [V.bl ((List.replicate _ true).all id)] = [V.bl true]; rw [all_true]), ?_⟩
    have sA := s1.trans s2
    clear hD2 hD s1 s2
    -- require(1 <= len(kinds) <= ..)
    have hkl := fit.kinds
    have hpk2 := sA _ _ hpk
    refine ⟨_, rfl, pk, _, rfl, .inl (SqL.of hpk2), _, _, rfl, rfl, _, rfl, ?_⟩
    rw [decide_eq_true (show (1 : Int) ≤ ((ks.map V.str).length : Int) by rw [List.length_map]; omega)]
    refine iteT ?_
    refine ⟨_, _, rfl, rfl, true, ?_, ?_⟩
    · show V.bl (decide (((ks.map V.str).length : Int) ≤ 4)) = V.bl true
      rw [decide_eq_true (by rw [List.length_map]; omega)]
    refine iteT ?_
    refine ⟨_, rfl, pk, _, ks, rfl, .inl hpk2, paired_strs ks, hkl.2.2.1, fun H3 s3 => ⟨true, rfl, ?_⟩⟩
    refine iteT ?_
    refine ⟨_, rfl, pk, rfl, ⟨_, SqL.of (s3 _ _ hpk2)⟩, fun D hD => lc_list (K := K) (a := pk) (xs := ks.map V.str) (fun i H4 => Same H3 H4 ∧ H4 D = some (.lst ((List.replicate i true).map V.bl)) ∧ i ≤ ks.length) ⟨Same.new hD, upd_same, Nat.zero_le _⟩
      (fun i H4 _ ⟨s4, _⟩ => SqL.of (s4 _ _ (s3 _ _ hpk2))) ?_ ?_⟩
    · rintro i z H4 hz ⟨s4, hD4, hi⟩
      rw [List.getElem?_map] at hz
      obtain ⟨n, hn, rfl⟩ : ∃ n, ks[i]? = some n ∧ V.str n = z := by
        cases q : ks[i]? with
        | none => rw [q] at hz; cases hz
        | some o => rw [q] at hz; exact ⟨o, rfl, Option.some.inj hz⟩
      have hil := (List.getElem?_eq_some_iff.mp hn).1
      refine ⟨rfl, tYes_if ?_⟩
      refine ⟨_, rfl, n, rfl, hkl.2.2.2 n (List.mem_of_getElem? hn), fun H5 s5 => ⟨_, s5 _ _ hD4, size60 (by rw [List.length_map, List.length_replicate]; omega), Same.put (s4.trans s5) hD, ?_, hil⟩⟩
      rw [upd_same, rep_snoc]
    rintro H4 ⟨s4, hD4, _⟩
    refine ⟨D, _, rfl, SqL.of hD4, (by show [V.bl ((List.replicate _ true).all id)] = [V.bl true]; rw [all_true]), ?_⟩
    have sB := (sA.trans s3).trans s4
    clear hD4 hD s3 s4 hpk2 sA
    -- self.day = day
    refine ⟨_, rfl, _, rfl, p, a.cM, dx, _, rfl, sB _ _ hp, T.clM, T.nM_day, (by show 0 < 1000; decide), ?_⟩
    have b5 : But p H (upd H4 p (.ins a.cM dx (putF "day" (.int day) []))) := (But.of sB).trans But.put
    have p5 : (upd H4 p (.ins a.cM dx (putF "day" (.int day) []))) p = some (.ins a.cM dx (putF "day" (.int day) [])) := upd_same
    generalize upd H4 p (.ins a.cM dx (putF "day" (.int day) [])) = H5 at b5 p5
    clear sB
    -- self.places = tuple(sorted(places))
    refine ⟨_, rfl, pp, _, ps, rfl, SqL.of (b5 _ _ hpp (lst_ne hpp hp)), paired_strs ps, fun us' ps' q hus' hperm hq => ?_⟩
    obtain rfl := of_paired_strs hus'
    refine ⟨q, _, rfl, .inl ⟨SqL.of upd_same, fun pa hpa => ?_⟩⟩
    obtain ⟨hpaq, hpa5⟩ := free_upd hpa
    have s6 : Same H5 (upd (upd H5 q (.lst (ps'.map V.str))) pa (.tup (ps'.map V.str))) := (Same.new hq).trans (Same.new hpa)
    have hpa6 : (upd (upd H5 q (.lst (ps'.map V.str))) pa (.tup (ps'.map V.str))) pa = some (.tup (ps'.map V.str)) := upd_same
    generalize upd (upd H5 q (.lst (ps'.map V.str))) pa (.tup (ps'.map V.str)) = H6 at s6 hpa6
    refine ⟨_, rfl, p, a.cM, dx, _, rfl, s6 _ _ p5, T.clM, T.nM_places, Nat.lt_of_le_of_lt (lenF len0) (by decide), ?_⟩
    have b7 : But p H (upd H6 p (.ins a.cM dx (putF "places" (.ref pa) (putF "day" (.int day) [])))) := (b5.trans (.of s6)).trans But.put
    have p7 : (upd H6 p (.ins a.cM dx (putF "places" (.ref pa) (putF "day" (.int day) [])))) p = some (.ins a.cM dx (putF "places" (.ref pa) (putF "day" (.int day) []))) := upd_same
    have hpa7 : (upd H6 p (.ins a.cM dx (putF "places" (.ref pa) (putF "day" (.int day) [])))) pa = some (.tup (ps'.map V.str)) := by
      rw [upd_ne (ne_of hpa6 (s6 _ _ p5) fun z => by cases z)]
      exact hpa6
    generalize upd H6 p (.ins a.cM dx (putF "places" (.ref pa) (putF "day" (.int day) []))) = H7 at b7 p7 hpa7
    clear hpa hpaq hpa5 hq hus' b5 p5 s6 hpa6
    -- self.kinds = tuple(sorted(kinds))
    refine ⟨_, rfl, pk, _, ks, rfl, SqL.of (b7 _ _ hpk (lst_ne hpk hp)), paired_strs ks, fun us' ks' q hus' hpermk hq => ?_⟩
    obtain rfl := of_paired_strs hus'
    refine ⟨q, _, rfl, .inl ⟨SqL.of upd_same, fun ka hka => ?_⟩⟩
    have s8 : Same H7 (upd (upd H7 q (.lst (ks'.map V.str))) ka (.tup (ks'.map V.str))) := (Same.new hq).trans (Same.new hka)
    have hka8 : (upd (upd H7 q (.lst (ks'.map V.str))) ka (.tup (ks'.map V.str))) ka = some (.tup (ks'.map V.str)) := upd_same
    generalize upd (upd H7 q (.lst (ks'.map V.str))) ka (.tup (ks'.map V.str)) = H8 at s8 hka8
    refine ⟨_, rfl, p, a.cM, dx, _, rfl, s8 _ _ p7, T.clM, T.nM_kinds, Nat.lt_of_le_of_lt (lenF (lenF len0)) (by decide), ?_⟩
    have b9 : But p H (upd H8 p (.ins a.cM dx (mapF3 day pa ka))) := (b7.trans (.of s8)).trans But.put
    have p9 : (upd H8 p (.ins a.cM dx (mapF3 day pa ka))) p = some (.ins a.cM dx (mapF3 day pa ka)) := upd_same
    have hpa9 : (upd H8 p (.ins a.cM dx (mapF3 day pa ka))) pa = some (.tup (ps'.map V.str)) := by
      rw [upd_ne (ne_of hpa7 p7 fun z => by cases z)]
      exact s8 _ _ hpa7
    have hka9 : (upd H8 p (.ins a.cM dx (mapF3 day pa ka))) ka = some (.tup (ks'.map V.str)) := by
      rw [upd_ne (ne_of hka8 (s8 _ _ p7) fun z => by cases z)]
      exact hka8
    show tSeq _ _ _ _ (upd H8 p (.ins a.cM dx (mapF3 day pa ka)))
    generalize upd H8 p (.ins a.cM dx (mapF3 day pa ka)) = H9 at b9 p9 hpa9 hka9
    clear hq hka hus' b7 p7 s8 hka8 hpa7
    -- require(len(roads) <= MOST_ROADS)
    have hrl := fit.roads
    have hul := hR.length
    have hpr9 := b9 _ _ hpr (lst_ne hpr hp)
    have t9 := b9.tups hp
    refine ⟨_, rfl, pr, _, rfl, .inl (SqL.of hpr9), _, _, rfl, rfl, (by show [V.bl (decide ((us.length : Int) ≤ 60))] = [V.bl true]; rw [decide_eq_true (by omega)]), ?_⟩
    -- self.roads = ..
    have fitK : ∀ r ∈ rs, RoadFit day ps' ks' r := fun r hr' => by
      have f := hrl.2 r hr'
      exact ⟨f.name, hperm.mem_iff.mpr f.start, hperm.mem_iff.mpr f.stop, f.mins, f.nd, fun k hk => hpermk.mem_iff.mpr (f.kinds k hk), f.hours, f.few⟩
    have hkl' : ks'.length ≤ 4 := by rw [hpermk.length_eq]; exact hkl.2.1
    refine ⟨_, rfl, pr, rfl, ⟨_, SqL.of hpr9⟩, fun D hD => lc_list (K := K) (a := pr) (xs := us) (fun i H10 => ∃ ws, H10 D = some (.lst ws) ∧ Paired (RoadV H10) ws ((rs.take i).map (norm ks')) ∧ Same H9 H10) ⟨[], upd_same, .nil, Same.new hD⟩
      (fun i H10 _ ⟨_, _, _, s10⟩ => SqL.of (s10 _ _ hpr9)) ?_ ?_⟩
    · rintro i z H10 hz ⟨ws, hD10, hP, s10⟩
      obtain ⟨r, hri, hv⟩ := Paired.at hR hz
      have hil := (List.getElem?_eq_some_iff.mp hri).1
      have hwl := hP.length
      rw [List.length_map, List.length_take] at hwl
      refine ⟨rfl, tYes_if ?_⟩
      refine ⟨_, rfl, p, dx, _, rfl, s10 _ _ p9, map3_no (by decide +kernel) (by decide +kernel) (by decide +kernel), _, rfl, ?_⟩
      refine ⟨p, dx, _, z, r, ps', ks', day, rfl, s10 _ _ p9, map3_day, ⟨pa, map3_places, s10 _ _ hpa9⟩, ⟨ka, map3_kinds, s10 _ _ hka9⟩, hkl', (hv.up t9).up (.of s10), fitK r (List.mem_of_getElem? hri), fun H11 v' s11 hv' => ?_⟩
      refine ⟨ws, s11 _ _ hD10, size60 (by omega), ws ++ [v'], upd_same, ?_, Same.put (s10.trans s11) hD⟩
      rw [take_snoc hri, List.map_append]
      have t12 : Tups H11 (upd H11 D (.lst (ws ++ [v']))) := Tups.set (s11 _ _ hD10) fun xs z => by cases z
      exact Paired.app (roads_up (Tups.trans (.of s11) t12) hP) (Paired.one (hv'.up t12))
    rintro H10 ⟨ws, hD10, hP, s10⟩
    rw [hul, List.take_length] at hP
    refine ⟨D, ws, Road, _, RoadV H10, fun r => r.name, rfl, rfl, SqL.of hD10, hP, fun v r hv => ?_, fun us' rs' q hP' hpermr hq => ?_⟩
    · obtain ⟨b0, k0, hv0, rfl, hb0, _⟩ := hv
      exact ⟨b0, _, rfl, hb0⟩
    refine ⟨q, us', rfl, .inl ⟨SqL.of upd_same, fun ra hra => ?_⟩⟩
    have s11 : Same H10 (upd (upd H10 q (.lst us')) ra (.tup us')) := (Same.new hq).trans (Same.new hra)
    have hra11 : (upd (upd H10 q (.lst us')) ra (.tup us')) ra = some (.tup us') := upd_same
    generalize upd (upd H10 q (.lst us')) ra (.tup us') = H11 at s11 hra11
    have s9 := s10.trans s11
    refine ⟨_, rfl, p, a.cM, dx, _, rfl, s9 _ _ p9, T.clM, T.nM_roads, Nat.lt_of_le_of_lt (lenF (lenF (lenF len0))) (by decide), ?_⟩
    show tSeq _ _ _ _ (upd H11 p (.ins a.cM dx (mapF4 day pa ka ra)))
    have b12 : But p H (upd H11 p (.ins a.cM dx (mapF4 day pa ka ra))) := (b9.trans (.of s9)).trans But.put
    have p12 : (upd H11 p (.ins a.cM dx (mapF4 day pa ka ra))) p = some (.ins a.cM dx (mapF4 day pa ka ra)) := upd_same
    have b112 : But p H11 (upd H11 p (.ins a.cM dx (mapF4 day pa ka ra))) := But.put
    generalize upd H11 p (.ins a.cM dx (mapF4 day pa ka ra)) = H12 at b12 p12 b112
    have p11 := s9 _ _ p9
    have t12 := b112.tups p11
    have hpa12 := t12 _ _ (s9 _ _ hpa9)
    have hka12 := t12 _ _ (s9 _ _ hka9)
    have hra12 := t12 _ _ hra11
    have hR12 : Paired (RoadV H12) us' rs' := roads_up (Tups.trans (.of s11) t12) hP'
    clear hra hq hP' hP hD10 hD b112 t12 hra11 s11 s10 s9 p11
    -- require(are_different(self.road_names))
    have hrl' : rs'.length ≤ 60 := by rw [hpermr.length_eq, List.length_map]; exact hrl.1
    have hnames : (rs'.map (·.name)).Nodup := by
      have h1 := hpermr.map (·.name)
      refine nodup_perm h1 ?_
      rw [List.map_map]
      exact fit.names
    refine ⟨_, rfl, p, dx, _, rfl, p12, p, dx, _, us', rs', rfl, p12, ⟨ra, map4_roads, hra12⟩, hR12, hrl', fun H13 tn s13 htn htn13 => ?_⟩
    refine ⟨tn, _, rs'.map (·.name), rfl, .inr htn13, paired_strs _, hnames, fun H14 s14 => ⟨rfl, ?_⟩⟩
    have s15 := s13.trans s14
    -- require(len(bars) <= MOST_BARS)
    have hbl := fit.bars
    have hbbl := hB.length
    have hpb12 := b12 _ _ hpb (lst_ne hpb hp)
    have hB12 : Paired (HV.hv H12) bs bars := hvs_up (b12.tups hp) hB
    refine ⟨_, rfl, pb, _, rfl, .inl (SqL.of (s15 _ _ hpb12)), _, _, rfl, rfl, (by show [V.bl (decide ((bs.length : Int) ≤ 40))] = [V.bl true]; rw [decide_eq_true (by omega)]), ?_⟩
    -- self.bars = ..
    have hfindb : ∀ b ∈ bars, ∃ r1 r2, find rs' b.1 = some r1 ∧ find rs' b.2 = some r2 ∧ r1.stop = r2.start := fun b hb => by
      obtain ⟨r1, hr1', r2, hr2', e1, e2, e3⟩ := hbl.2.2 b hb
      have key : ∀ r ∈ rs, find rs' r.name = some (norm ks' r) := fun r hr' => by
        have hm : norm ks' r ∈ rs' := hpermr.mem_iff.mpr (List.mem_map.mpr ⟨r, hr', rfl⟩)
        cases e : find rs' r.name with
        | none =>
          unfold find at e
          rw [List.find?_eq_none] at e
          exact absurd (decide_eq_true (rfl : (norm ks' r).name = r.name)) (e _ hm)
        | some r' =>
          obtain ⟨h1, h2⟩ := find_name e
          obtain ⟨i, hi⟩ := List.getElem?_of_mem h1
          obtain ⟨j, hj⟩ := List.getElem?_of_mem hm
          have hij : i = j := nd_ix hnames (x := r.name) (by rw [List.getElem?_map, hi]; exact congrArg some h2) (by rw [List.getElem?_map, hj]; rfl)
          subst hij
          rw [hi] at hj
          exact hj
      exact ⟨norm ks' r1, norm ks' r2, by rw [← e1]; exact key r1 hr1', by rw [← e2]; exact key r2 hr2', e3⟩
    refine ⟨_, rfl, pb, rfl, ⟨_, SqL.of (s15 _ _ hpb12)⟩, fun D hD => lc_list (K := K) (a := pb) (xs := bs) (fun i H16 => ∃ ws, H16 D = some (.lst ws) ∧ Paired (HV.hv H16) ws (bars.take i) ∧ Same H14 H16) ⟨[], upd_same, .nil, Same.new hD⟩
      (fun i H16 _ ⟨_, _, _, s16⟩ => SqL.of (s16 _ _ (s15 _ _ hpb12))) ?_ ?_⟩
    · rintro i z H16 hz ⟨ws, hD16, hP, s16⟩
      obtain ⟨b, hbi, hv⟩ := Paired.at hB12 hz
      have hil := (List.getElem?_eq_some_iff.mp hbi).1
      have hwl := hP.length
      rw [List.length_take] at hwl
      obtain ⟨r1, r2, f1, f2, f3⟩ := hfindb b (List.mem_of_getElem? hbi)
      have s17 := s15.trans s16
      refine ⟨rfl, tYes_if ?_⟩
      refine ⟨_, rfl, p, dx, _, rfl, s17 _ _ p12, (by rw [map4_3 (by decide +kernel)]; exact map3_no (by decide +kernel) (by decide +kernel) (by decide +kernel)), _, rfl, ?_⟩
      refine ⟨p, dx, _, us', rs', z, b, r1, r2, rfl, s17 _ _ p12, (by rw [map4_3 (by decide +kernel)]; exact map3_no (by decide +kernel) (by decide +kernel) (by decide +kernel)), ⟨ra, map4_roads, s17 _ _ hra12⟩, roads_up (.of s17) hR12, hrl', HV.up (.of s17) hv, f1, f2, f3, fun H18 s18 => ?_⟩
      refine ⟨ws, s18 _ _ hD16, size60 (by omega), ws ++ [z], upd_same, ?_, Same.put (s16.trans s18) hD⟩
      rw [take_snoc hbi]
      have t19 : Tups H18 (upd H18 D (.lst (ws ++ [z]))) := Tups.set (s18 _ _ hD16) fun xs z => by cases z
      exact Paired.app (hvs_up (Tups.trans (.of s18) t19) hP) (Paired.one (HV.up (Tups.trans (.of (s17.trans s18)) t19) hv))
    rintro H16 ⟨ws, hD16, hP, s16⟩
    rw [hbbl, List.take_length] at hP
    refine ⟨D, ws, bars, rfl, SqL.of hD16, hP, fun bs' bars' q hP' hpermb hq => ?_⟩
    refine ⟨q, bs', rfl, .inl ⟨SqL.of upd_same, fun ba hba => ?_⟩⟩
    have s17 : Same H16 (upd (upd H16 q (.lst bs')) ba (.tup bs')) := (Same.new hq).trans (Same.new hba)
    have hba17 : (upd (upd H16 q (.lst bs')) ba (.tup bs')) ba = some (.tup bs') := upd_same
    generalize upd (upd H16 q (.lst bs')) ba (.tup bs') = H17 at s17 hba17
    have s18 := (s15.trans s16).trans s17
    refine ⟨_, rfl, p, a.cM, dx, _, rfl, s18 _ _ p12, T.clM, T.nM_bars, Nat.lt_of_le_of_lt (lenF (lenF (lenF (lenF len0)))) (by decide), ?_⟩
    rw [show putF ("bars" : Str) (V.ref ba) (mapF4 day pa ka ra) = mapF day pa ka ra ba from rfl]
    have b19 : But p H (upd H17 p (.ins a.cM dx (mapF day pa ka ra ba))) := (b12.trans (.of s18)).trans But.put
    have p19 : (upd H17 p (.ins a.cM dx (mapF day pa ka ra ba))) p = some (.ins a.cM dx (mapF day pa ka ra ba)) := upd_same
    have t19 : Tups H17 (upd H17 p (.ins a.cM dx (mapF day pa ka ra ba))) := But.put.tups (s18 _ _ p12)
    generalize upd H17 p (.ins a.cM dx (mapF day pa ka ra ba)) = H19 at b19 p19 t19
    have t20 : Tups H12 H19 := Tups.trans (.of s18) t19
    have hB19 : Paired (HV.hv H19) bs' bars' := hvs_up (Tups.trans (.of s17) t19) hP'
    have nb : bars'.Nodup := nodup_perm hpermb hbl.2.1
    -- require(are_different(self.bars))
    refine ⟨_, rfl, p, a.cM, dx, _, _, rfl, p19, T.clM, T.nM_bars, map5_bars, ba, bs', bars', rfl, .inr (t19 _ _ hba17), hB19, nb, fun H20 s20 => ⟨rfl, ?_⟩⟩
    have t21 : Tups H12 H20 := Tups.trans t20 (.of s20)
    refine kq H20 ⟨day, ps', ks', rs', bars'⟩ (b19.trans (.of s20)) ⟨dx, _, s20 _ _ p19, ⟨?_, ⟨pa, ?_, t21 _ _ hpa12⟩, ⟨ka, ?_, t21 _ _ hka12⟩, ⟨us', ⟨ra, ?_, t21 _ _ hra12⟩, roads_up t21 hR12⟩, ⟨bs', ⟨ba, map5_bars, s20 _ _ (t19 _ _ hba17)⟩, hvs_up (.of s20) hB19⟩, map_meth, hrl', ?_, hkl', ?_⟩⟩ ⟨rfl, hperm, hpermk, hpermr, hpermb⟩
    · rw [map5_4 (by decide +kernel), map4_3 (by decide +kernel)]
      exact map3_day
    · rw [map5_4 (by decide +kernel), map4_3 (by decide +kernel)]
      exact map3_places
    · rw [map5_4 (by decide +kernel), map4_3 (by decide +kernel)]
      exact map3_kinds
    · rw [map5_4 (by decide +kernel)]
      exact map4_roads
    · show ps'.length ≤ 30
      rw [hperm.length_eq]
      exact hpl.1
    · show bars'.length ≤ 40
      rw [hpermb.length_eq]
      exact hbl.1
end
end K17

set_option Elab.async false
set_option linter.all false
set_option maxRecDepth 100000
set_option maxHeartbeats 4000000
/-! The law's numbers. -/
namespace K17
open PySem L2 WR

/-- int(e) -/
theorem pe_intc {X : Cx} {e : Expr} {te : TE} {p pos : Pos} (hm : X.mg "int" = none) (h : PE X e te) (hg : Gl X "int" := by rfl) (hs : starEach (e :: []) X.env = (false, eval e X.env) :: starEach [] X.env := by rfl) :
    PE X (.Call (.Name "int" p) [e] [] pos) (tCB (fun xs H Q => (∃ i, xs = [V.int i] ∧ Q (.int i) H) ∨ ∃ k, xs = [V.bl k] ∧ Q (.int (if k then 1 else 0)) H) (tCons te tNil)) :=
  pe_callTy call_int1 hg hm (by decide +kernel) (pa_cons h pa_nil hs) (by decide) (by decide) hs

/-- numbers of a row: below 1009 -/
def Small (ns : List Int) : Prop := ∀ n ∈ ns, 0 ≤ n ∧ n < 1009
theorem Small.app {ns : List Int} {n : Int} (h : Small ns) (h0 : 0 ≤ n) (h1 : n < 1009) : Small (ns ++ [n]) := fun m hm => by
  rcases List.mem_append.mp hm with hm | hm
  · exact h m hm
  · have e : m = n := by simpa using hm
    subst e
    exact ⟨h0, h1⟩
structure Nums (ns : List Int) : Prop where
  len : ns.length = 120
  rng : Small ns
theorem Nums.at {ns : List Int} (h : Nums ns) {i : Int} (h0 : 0 ≤ i) (h1 : i < 120) : ∃ n, atI (ns.map V.int) i = some (.int n) ∧ 0 ≤ n ∧ n < 1009 := by
  have hl := h.len
  obtain ⟨j, rfl⟩ := Int.eq_ofNat_of_zero_le h0
  have hj : j < ns.length := by omega
  refine ⟨ns[j], atI_nat (by rw [List.getElem?_map, List.getElem?_eq_getElem hj]; rfl), h.rng _ (List.getElem_mem hj)⟩
theorem map_snoc (ns : List Int) (n : Int) : ns.map V.int ++ [V.int n] = (ns ++ [n]).map V.int := by rw [List.map_append]; rfl

def spRow : Sp := fun vs H Q _ => ∃ (c : Int) (m : Nat), vs = [.int c, .int m] ∧ m ≤ 1000 ∧ ∀ (H' : Hp) (l : Addr) (ns : List Int), Same H H' → H l = none → H' l = some (.lst (ns.map V.int)) → ns.length = m → Small ns → Q (.ref l) H'
def spNumbers (K : PySem.W.Frag) : Sp := fun vs H Q _ => ∃ (sc : Addr) (cs : List Int), vs = [.ref sc, .int 120] ∧ SqL K H sc (cs.map V.int) ∧ cs.length ≤ 63 ∧ ∀ (H' : Hp) (l : Addr) (ns : List Int), Same H H' → H' l = some (.lst (ns.map V.int)) → Nums ns → Q (.ref l) H'

section
variable {P : Program} {w : World} {K : PySem.W.Frag} {mg : Str → Option Value} {base : Heap} {a : Adr}
theorem ok_row (T : Txt K mg a) : FnOk P w K mg base CX0 1 a.lRow.f a.lRow.fd ["_law_cell", "_law_many"] spRow := by
  refine T.lRow.fn.ok sc_lRow (fun vs H Q E h => ?_) (fun cdv A outer s H vs Q E hr h => ?_)
  · obtain ⟨c, m, rfl, _⟩ := h
    rfl
  · obtain ⟨c, m, rfl, hm, k⟩ := h
    have nd := sc_lRow.nd
    refine ⟨_, pss_cons (ps_set (i := 2) nd rfl (Or.inl rfl) (pe_lst pa_nil))
      (pss_cons (ps_set (i := 3) nd rfl (Or.inl rfl) (pe_callB call_abs (by rfl) T.b_abs (by decide +kernel) (pa_cons (pv 0) pa_nil)))
      (pss_cons (ps_set (i := 4) nd rfl (Or.inl rfl) (pe_op op_mod (pe_intc T.b_int (pe_op op_add (pe_op op_mul (pv 3) pe_int) pe_int)) pe_int))
      (pss_cons (ps_for PassesOwn.never rfl (pi_range1 (by rfl) T.b_range (pa_cons (pv 1) pa_nil)) (pg_name (i := 5) nd rfl (Or.inl rfl))
        (pss_cons (ps_set (i := 4) nd rfl (Or.inl rfl) (pe_op op_mod (pe_intc T.b_int (pe_op op_add (pe_op op_mul (pv 4) pe_int) (pe_op op_mul pe_int (pe_op op_add (pv 5) pe_int)))) pe_int))
        (pss_one (ps_if (pt_cmpR op_ge (pe_callB call_abs (by rfl) T.b_abs (by decide +kernel) (pa_cons (pv 0) pa_nil)) (pe_op op_pow pe_int pe_int) (nomark _))
          (pss_cons (ps_expr (pe_bm PySem.F.plainAttrs_list PySem.F.slot_list_append PySem.F.type_list_append mt_append (pv 2) (pa_cons (pe_op op_mod (pe_intc T.b_int (pv 3)) pe_int) pa_nil)))
            (pss_one (ps_set (i := 3) nd rfl (Or.inl rfl) (pe_op op_fdiv (pv 3) pe_int))))
          (pss_one (ps_expr (pe_bm PySem.F.plainAttrs_list PySem.F.slot_list_append PySem.F.type_list_append mt_append (pv 2) (pa_cons (pe_op op_mod (pe_intc T.b_int (pe_op op_fdiv (pv 4) pe_int)) pe_int) pa_nil))))))))
      (pss_one (ps_ret (pv 2)))))), ?_⟩
    refine ⟨(by show 0 ≤ sizeLine; decide), fun l hl => ?_⟩
    refine ⟨_, rfl, c, rfl, ?_⟩
    refine ⟨_, rfl, _, _, rfl, rfl, .inr ⟨by decide, by decide⟩, _, _, rfl, rfl, .inl ⟨_, rfl, _, _, rfl, rfl, (by show (0 : Int) < _; decide), ?_⟩⟩
    refine ⟨_, rfl, m, rfl, (by omega), (by omega), for_range (lo := 0) (n := (m : Int).toNat) (fun i σ H2 => ∃ (z : Option V) (rs mx : Int) (ns : List Int), σ = [some (.int c), some (.int m), some (.ref l), some (.int rs), some (.int mx), z] ∧ Same H H2 ∧ H2 l = some (.lst (ns.map V.int)) ∧ ns.length = i ∧ Small ns)
      ⟨none, _, _, [], rfl, Same.new hl, upd_same, rfl, fun n hn => by cases hn⟩ ?_ ?_⟩
    · rintro i σ H2 hi ⟨z, rs, mx, ns, rfl, s2, hl2, hlen, hsm⟩
      have hi' : i < m := by omega
      refine ⟨_, rfl, _, _, rfl, rfl, .inr ⟨by decide, by decide⟩, _, rfl, _, _, rfl, rfl, _, _, rfl, rfl, .inl ⟨by decide, by decide⟩, _, _, rfl, rfl, .inl ⟨_, rfl, _, _, rfl, rfl, (by show (0 : Int) < _; decide), ?_⟩⟩
      refine ⟨_, rfl, c, rfl, _, _, rfl, rfl, ⟨by decide, by decide, by decide⟩, _, _, rfl, rfl, _, rfl, ?_⟩
      have sz : (ns.map V.int).length < sizeLine := size60 (by rw [List.length_map]; omega)
      refine ite2 (fun _ => ?_) (fun _ => ?_)
      · refine ⟨_, rfl, .inl ⟨rfl, _, SqL.of hl2⟩, _, rfl, .inl ⟨_, rfl, _, _, rfl, rfl, (by show (0 : Int) < _; decide), l, _, _, rfl, rfl, hl2, sz, ?_⟩⟩
        refine ⟨_, rfl, _, _, rfl, rfl, ⟨by decide, by decide⟩, ?_⟩
        refine ⟨_, _, _, ns ++ [rs % 1009], rfl, Same.put s2 hl, ?_, (by rw [List.length_append, hlen]; rfl), hsm.app (by omega) (by omega)⟩
        rw [upd_same, map_snoc]
      · refine ⟨_, rfl, .inl ⟨rfl, _, SqL.of hl2⟩, _, rfl, _, _, rfl, rfl, ⟨by decide, by decide⟩, .inl ⟨_, rfl, _, _, rfl, rfl, (by show (0 : Int) < _; decide), l, _, _, rfl, rfl, hl2, sz, ?_⟩⟩
        refine ⟨_, _, _, ns ++ [_], rfl, Same.put s2 hl, (by rw [upd_same, map_snoc]), (by rw [List.length_append, hlen]; rfl), hsm.app (by omega) (by omega)⟩
    · rintro σ H2 ⟨z, rs, mx, ns, rfl, s2, hl2, hlen, hsm⟩
      exact ⟨_, rfl, k H2 l ns s2 hl hl2 (by omega) hsm⟩
end
end K17

set_option Elab.async false
set_option linter.all false
set_option maxRecDepth 100000
set_option maxHeartbeats 4000000
/-! _law_numbers, _law_some. -/
namespace K17
open PySem L2 WR

def spSome : Sp := fun vs H Q _ => ∃ (n : Int) (r : Addr) (ks : List Str), vs = [.int n, .ref r] ∧ H r = some (.lst (ks.map V.str)) ∧ ks.length ≤ 10 ∧
  ∀ (H' : Hp) (t : Addr) (xs : List Str), Same H H' → H' t = some (.tup (xs.map V.str)) → xs.Sublist ks → Q (.ref t) H'

section
variable {P : Program} {w : World} {K : PySem.W.Frag} {mg : Str → Option Value} {base : Heap} {a : Adr}
theorem ok_numbers (T : Txt K mg a) : FnOk P w K mg base CX0 2 a.lNumbers.f a.lNumbers.fd ["_law_script", "_law_many"] (spNumbers K) := by
  refine T.lNumbers.fn.ok sc_lNumbers (fun vs H Q E h => ?_) (fun cdv A outer s H vs Q E hr h => ?_)
  · obtain ⟨sc, cs, rfl, _⟩ := h
    rfl
  · obtain ⟨sc, cs, rfl, hS, hcl, k⟩ := h
    have nd := sc_lNumbers.nd
    refine ⟨_, pss_cons (ps_set (i := 2) nd rfl (Or.inl rfl) (pe_slice sl_list (pv 0) po_none (po_some pe_int)))
      (pss_cons (ps_set (i := 3) nd rfl (Or.inl rfl) (pe_op op_add pe_int (pe_op op_fdiv (pv 1) (pe_callB (call_max2 rfl) (by rfl) T.b_max (by decide +kernel) (pa_cons pe_int (pa_cons (pe_callB call_len_seq (by rfl) T.b_len PySem.boot_len (pa_cons (pv 2) pa_nil)) pa_nil))))))
      (pss_cons (ps_set (i := 4) nd rfl (Or.inl rfl) (pe_lst pa_nil))
      (pss_cons (ps_for PassesOwn.never rfl (pi_list (pv 2)) (pg_name (i := 5) nd rfl (Or.inl rfl))
        (pss_one (ps_for PassesOwn.never rfl (pi_list (pe_call (ok_row T) hr (by rfl) T.g_lRow T.lRow.fn.kp T.lRow.bd .nil pass0 (pa_cons (pv 5) (pa_cons (pv 3) pa_nil)))) (pg_name (i := 6) nd rfl (Or.inl rfl))
          (pss_one (ps_expr (pe_bm PySem.F.plainAttrs_list PySem.F.slot_list_append PySem.F.type_list_append mt_append (pv 4) (pa_cons (pv 6) pa_nil)))))))
      (pss_cons (ps_while PassesOwn.never (pt_cmpR op_lt (pe_callB call_len_seq (by rfl) T.b_len PySem.boot_len (pa_cons (pv 4) pa_nil)) (pv 1) (nomark _))
        (pss_one (ps_expr (pe_bm PySem.F.plainAttrs_list PySem.F.slot_list_append PySem.F.type_list_append mt_append (pv 4) (pa_cons pe_int pa_nil)))))
      (pss_one (ps_ret (pe_slice sl_list (pv 4) po_none (po_some (pv 1))))))))), ?_⟩
    -- _law_cells = _law_script[:63]
    refine ⟨_, rfl, 63, rfl, sc, _, rfl, hS, fun p hp => ?_⟩
    have ecut : cutV (cs.map V.int) none (some (63 : Int)) = cs.map V.int := (cut_take (cs.map V.int) 63).trans (List.take_of_length_le (by rw [List.length_map]; omega))
    rw [ecut]
    have sA : Same H (upd H p (.lst (cs.map V.int))) := Same.new hp
    have hpA : (upd H p (.lst (cs.map V.int))) p = some (.lst (cs.map V.int)) := upd_same
    generalize upd H p (.lst (cs.map V.int)) = H1 at sA hpA
    -- _law_each
    obtain ⟨D, hD, hD1, hD2⟩ : ∃ D : Int, D = (if (((cs.map V.int).length : Nat) : Int) > 1 then (((cs.map V.int).length : Nat) : Int) else 1) ∧ 1 ≤ D ∧ D ≤ 63 := by
      refine ⟨_, rfl, ?_, ?_⟩
      · split <;> omega
      · rw [List.length_map]
        split <;> omega
    refine ⟨_, rfl, _, rfl, p, _, rfl, .inl (SqL.of hpA), _, _, rfl, _, _, rfl, rfl, (by rw [← hD]; exact ⟨by omega, by omega⟩), _, _, rfl, rfl, ?_⟩
    rw [← hD]
    obtain ⟨m, hm, hm2⟩ : ∃ m : Nat, 1 + 120 / D = (m : Int) ∧ m ≤ 121 := by
      have h1 : (0 : Int) ≤ 120 / D := Int.ediv_nonneg (by decide) (by omega)
      have h2 : (120 : Int) / D ≤ 120 := Int.ediv_le_self _ (by decide)
      exact ⟨(1 + 120 / D).toNat, by omega, by omega⟩
    show gName 3 (V.int (1 + 120 / D)) _ _ _
    rw [hm]
    clear hD hD1 hD2 hm
    -- _law_numbers_here = []
    refine ⟨(by show 0 ≤ sizeLine; decide), fun l hl => ?_⟩
    refine ⟨_, rfl, p, rfl, ⟨_, SqL.of ((Same.new hl) _ _ hpA)⟩, for_list (K := K) (a := p) (xs := cs.map V.int) (fun i σ H2 => ∃ (z5 z6 : Option V) (ns : List Int), σ = [some (.ref sc), some (.int 120), some (.ref p), some (.int m), some (.ref l), z5, z6] ∧ Same H1 H2 ∧
      H2 l = some (.lst (ns.map V.int)) ∧ ns.length ≤ 121 * i ∧ Small ns) ⟨none, none, [], rfl, Same.new hl, upd_same, Nat.le_refl _, fun n hn => by cases hn⟩ (fun i σ H2 _ ⟨_, _, _, _, s2, _⟩ => SqL.of (s2 _ _ hpA)) ?_ ?_⟩
    · rintro i z σ H2 hz ⟨z5, z6, ns, rfl, s2, hl2, hlen, hsm⟩
      rw [List.getElem?_map] at hz
      obtain ⟨c, hc, rfl⟩ : ∃ c, cs[i]? = some c ∧ V.int c = z := by
        cases q : cs[i]? with
        | none => rw [q] at hz; cases hz
        | some o => rw [q] at hz; exact ⟨o, rfl, Option.some.inj hz⟩
      have hil := (List.getElem?_eq_some_iff.mp hc).1
      refine ⟨_, rfl, _, rfl, c, m, rfl, (by omega), fun H3 q ns2 s3 hq3 hq hlen2 hsm2 => ?_⟩
      have hlq : l ≠ q := ne_of_none hl2 hq3
      refine ⟨q, rfl, ⟨_, SqL.of hq⟩, for_list (K := K) (a := q) (xs := ns2.map V.int) (fun j σ H4 => ∃ (z5 z6 : Option V) (ns' : List Int), σ = [some (.ref sc), some (.int 120), some (.ref p), some (.int m), some (.ref l), z5, z6] ∧ Same H1 H4 ∧
        H4 l = some (.lst (ns'.map V.int)) ∧ ns'.length ≤ 121 * i + j ∧ Small ns' ∧ H4 q = some (.lst (ns2.map V.int))) ⟨_, _, ns, rfl, s2.trans s3, s3 _ _ hl2, hlen, hsm, hq⟩ (fun j σ H4 _ ⟨_, _, _, _, _, _, _, _, h⟩ => SqL.of h) ?_ ?_⟩
      · rintro j z σ H4 hz ⟨z5, z6, ns', rfl, s4, hl4, hlen4, hsm4, hq4⟩
        rw [List.getElem?_map] at hz
        obtain ⟨n, hn, rfl⟩ : ∃ n, ns2[j]? = some n ∧ V.int n = z := by
          cases q : ns2[j]? with
          | none => rw [q] at hz; cases hz
          | some o => rw [q] at hz; exact ⟨o, rfl, Option.some.inj hz⟩
        have hjl := (List.getElem?_eq_some_iff.mp hn).1
        have hb := hsm2 n (List.mem_of_getElem? hn)
        refine ⟨_, rfl, .inl ⟨rfl, _, SqL.of hl4⟩, _, rfl, l, _, _, rfl, rfl, hl4, (by rw [List.length_map, sizeLine_eq]; omega), ?_⟩
        refine ⟨_, _, ns' ++ [n], rfl, Same.put s4 hl, (by rw [upd_same, map_snoc]), (by rw [List.length_append]; show ns'.length + 1 ≤ _; omega), hsm4.app hb.1 hb.2, (by rw [upd_ne hlq.symm]; exact hq4)⟩
      · rintro σ H4 ⟨z5, z6, ns', rfl, s4, hl4, hlen4, hsm4, hq4⟩
        rw [List.length_map] at hlen4
        exact ⟨_, _, ns', rfl, s4, hl4, by omega, hsm4⟩
    · rintro σ H2 ⟨z5, z6, ns, rfl, s2, hl2, hlen, hsm⟩
      rw [List.length_map] at hlen
      -- while len(..) < _law_many
      refine ⟨fun μ σ H3 => ∃ (ns : List Int), σ = [some (.ref sc), some (.int 120), some (.ref p), some (.int m), some (.ref l), z5, z6] ∧ Same H1 H3 ∧ H3 l = some (.lst (ns.map V.int)) ∧ ns.length ≤ 8000 ∧ Small ns ∧ μ = 120 - ns.length,
        ⟨_, ns, rfl, s2, hl2, by omega, hsm, rfl⟩, ?_⟩
      rintro μ σ H3 ⟨ns, rfl, s3, hl3, hlen3, hsm3, rfl⟩
      refine ⟨_, rfl, l, _, rfl, .inl (SqL.of hl3), _, rfl, _, _, rfl, rfl, _, rfl, ?_⟩
      refine ite2 (fun hc => ?_) (fun hc => ?_)
      · have hlt : ns.length < 120 := by
          have h := of_decide_eq_true hc
          rw [List.length_map] at h
          omega
        refine ⟨fun σ' H' => ∃ m', m' < 120 - ns.length ∧ ∃ (ns : List Int), σ' = [some (.ref sc), some (.int 120), some (.ref p), some (.int m), some (.ref l), z5, z6] ∧ Same H1 H' ∧ H' l = some (.lst (ns.map V.int)) ∧ ns.length ≤ 8000 ∧ Small ns ∧ m' = 120 - ns.length, fun _ _ h => h, ?_⟩
        refine ⟨_, rfl, .inl ⟨rfl, _, SqL.of hl3⟩, l, _, _, rfl, rfl, hl3, (by rw [List.length_map, sizeLine_eq]; omega), ?_⟩
        refine ⟨_, ?_, ns ++ [0], rfl, Same.put s3 hl, (by rw [upd_same, map_snoc]), ?_, hsm3.app (by decide) (by decide), rfl⟩
        · rw [List.length_append]
          show 120 - (ns.length + 1) < 120 - ns.length
          omega
        · rw [List.length_append]
          show ns.length + 1 ≤ 8000
          omega
      · have hge : 120 ≤ ns.length := by
          have h := of_decide_eq_false (by simpa using hc : decide (((ns.map V.int).length : Int) < 120) = false)
          rw [List.length_map] at h
          omega
        refine ⟨_, rfl, _, rfl, 120, rfl, l, _, rfl, SqL.of hl3, fun q hq => ?_⟩
        have ecut2 : cutV (ns.map V.int) none (some (120 : Int)) = (ns.take 120).map V.int := (cut_take (ns.map V.int) 120).trans (by rw [List.map_take])
        rw [ecut2]
        refine k _ q (ns.take 120) ((sA.trans s3).trans (Same.new hq)) upd_same ⟨by rw [List.length_take]; omega, fun n hn => hsm3 n (List.mem_of_mem_take hn)⟩
theorem ok_some (T : Txt K mg a) : FnOk P w K mg base CX0 1 a.lSome.f a.lSome.fd ["_law_number", "_law_rights"] spSome := by
  refine T.lSome.fn.ok sc_lSome (fun vs H Q E h => ?_) (fun cdv A outer s H vs Q E hr h => ?_)
  · obtain ⟨n, r, ks, rfl, _⟩ := h
    rfl
  · obtain ⟨n, r, ks, rfl, hR, hkl, k⟩ := h
    have nd := sc_lSome.nd
    refine ⟨_, pss_cons (ps_set (i := 2) nd rfl (Or.inl rfl) (pe_lst pa_nil))
      (pss_cons (ps_set (i := 3) nd rfl (Or.inl rfl) (pv 0))
      (pss_cons (ps_for PassesOwn.never rfl (pi_list (pv 1)) (pg_name (i := 4) nd rfl (Or.inl rfl))
        (pss_cons (ps_if (pt_cmpR op_eq (pe_op op_mod (pe_intc T.b_int (pv 3)) pe_int) pe_int (nomark _)) (pss_one (ps_expr (pe_bm PySem.F.plainAttrs_list PySem.F.slot_list_append PySem.F.type_list_append mt_append (pv 2) (pa_cons (pv 4) pa_nil)))) pss_nil)
        (pss_one (ps_set (i := 3) nd rfl (Or.inl rfl) (pe_op op_fdiv (pv 3) pe_int)))))
      (pss_one (ps_ret (pe_callTy call_tuple_of (by rfl) T.b_tuple (by decide +kernel) (pa_cons (pv 2) pa_nil)))))), ?_⟩
    refine ⟨(by show 0 ≤ sizeLine; decide), fun l hl => ?_⟩
    refine ⟨_, rfl, ?_⟩
    refine ⟨_, rfl, r, rfl, ⟨_, SqL.of ((Same.new hl) _ _ hR)⟩, for_list (K := K) (a := r) (xs := ks.map V.str) (fun i σ H2 => ∃ (z4 : Option V) (rs : Int) (xs : List Str), σ = [some (.int n), some (.ref r), some (.ref l), some (.int rs), z4] ∧ Same H H2 ∧
      H2 l = some (.lst (xs.map V.str)) ∧ xs.Sublist (ks.take i)) ⟨none, n, [], rfl, Same.new hl, upd_same, List.Sublist.refl _⟩ (fun i σ H2 _ ⟨_, _, _, _, s2, _⟩ => SqL.of (s2 _ _ hR)) ?_ ?_⟩
    · rintro i z σ H2 hz ⟨z4, rs, xs, rfl, s2, hl2, hsub⟩
      rw [List.getElem?_map] at hz
      obtain ⟨c, hc, rfl⟩ : ∃ c, ks[i]? = some c ∧ V.str c = z := by
        cases q : ks[i]? with
        | none => rw [q] at hz; cases hz
        | some o => rw [q] at hz; exact ⟨o, rfl, Option.some.inj hz⟩
      have hxl : xs.length ≤ 10 := by
        have h1 := hsub.length_le
        rw [List.length_take] at h1
        omega
      refine ⟨_, rfl, .inl ⟨_, rfl, _, _, rfl, rfl, (by show (0 : Int) < _; decide), rfl, _, rfl, ?_⟩⟩
      refine ite2 (fun _ => ?_) (fun _ => ?_)
      · refine ⟨_, rfl, .inl ⟨rfl, _, SqL.of hl2⟩, _, rfl, l, _, _, rfl, rfl, hl2, size60 (by rw [List.length_map]; omega), ?_⟩
        refine ⟨_, rfl, _, _, rfl, rfl, ⟨by decide, by decide⟩, ?_⟩
        refine ⟨_, _, xs ++ [c], rfl, Same.put s2 hl, (by rw [upd_same, List.map_append]; rfl), ?_⟩
        rw [take_snoc hc]
        exact hsub.append (List.Sublist.refl _)
      · refine ⟨_, rfl, _, _, rfl, rfl, ⟨by decide, by decide⟩, ?_⟩
        refine ⟨_, _, xs, rfl, s2, hl2, ?_⟩
        rw [take_snoc hc]
        exact hsub.trans (List.sublist_append_left _ _)
    · rintro σ H2 ⟨z4, rs, xs, rfl, s2, hl2, hsub⟩
      rw [List.length_map, List.take_length] at hsub
      exact ⟨_, rfl, l, _, rfl, .inl ⟨SqL.of hl2, fun t ht => k _ t xs (s2.trans (Same.new ht)) upd_same hsub⟩⟩
end
end K17

set_option Elab.async false
set_option linter.all false
set_option maxRecDepth 100000
set_option maxHeartbeats 4000000
/-! _law_hours, _law_names. -/
namespace K17
open PySem L2 WR

/-- where the last pair closes -/
def endOf (b : Int) : List (Int × Int) → Int
  | [] => b
  | p :: r => endOf p.2 r
theorem endOf_snoc (o c : Int) : ∀ (ps : List (Int × Int)) (b : Int), endOf b (ps ++ [(o, c)]) = c
  | [], _ => rfl
  | p :: r, _ => endOf_snoc o c r p.2
theorem hours_snoc {day o c : Int} : ∀ {ps : List (Int × Int)} {b : Int}, WP.HoursOk day b ps → endOf b ps < o → o < c → c ≤ day → WP.HoursOk day b (ps ++ [(o, c)])
  | [], _, _, h1, h2, h3 => ⟨h1, h2, h3, trivial⟩
  | p :: r, _, ok, h1, h2, h3 => ⟨ok.1, ok.2.1, ok.2.2.1, hours_snoc ok.2.2.2 h1 h2 h3⟩

def spLHours : Sp := fun vs H Q _ => ∃ (nl : Addr) (ns : List Int) (at_ day : Int), vs = [.ref nl, .int at_, .int day] ∧ H nl = some (.lst (ns.map V.int)) ∧ Nums ns ∧ 0 ≤ at_ ∧ at_ + 4 < 120 ∧ 1 ≤ day ∧
  ∀ (H' : Hp) (v : V) (ho : Option (List (Int × Int))), Same H H' → HoursV H' v ho → WP.HoursOk' day ho → (∀ ps, ho = some ps → ps.length ≤ 4) → Q v H'

section
variable {P : Program} {w : World} {K : PySem.W.Frag} {mg : Str → Option Value} {base : Heap} {a : Adr}
theorem ok_lHours (T : Txt K mg a) : FnOk P w K mg base CX0 1 a.lHours.f a.lHours.fd ["_law_numbers_here", "_law_at", "_law_day"] spLHours := by
  refine T.lHours.fn.ok sc_lHours (fun vs H Q E h => ?_) (fun cdv A outer s H vs Q E hr h => ?_)
  · obtain ⟨nl, ns, at_, day, rfl, _⟩ := h
    rfl
  · obtain ⟨nl, ns, at_, day, rfl, hn, hN, h0, h1, hd, k⟩ := h
    have nd := sc_lHours.nd
    refine ⟨_, pss_cons (ps_set (i := 3) nd rfl (Or.inl rfl) (pe_op op_mod (pe_intc T.b_int (pe_ix ix_list (pv 0) (pv 1) (fun _ _ => rfl))) pe_int))
      (pss_cons (ps_if (pt_cmpR op_lt (pv 3) pe_int (nomark _)) (pss_one (ps_ret pe_non)) pss_nil)
      (pss_cons (ps_if (pt_cmpR op_eq (pv 3) pe_int (nomark _)) (pss_one (ps_ret (pe_tup pa_nil))) pss_nil)
      (pss_cons (ps_set (i := 4) nd rfl (Or.inl rfl) (pe_lst pa_nil))
      (pss_cons (ps_set (i := 5) nd rfl (Or.inl rfl) (pe_un un_neg pe_int))
      (pss_cons (ps_for PassesOwn.never rfl (pi_range1 (by rfl) T.b_range (pa_cons (pe_op op_add pe_int (pe_op op_mod (pe_intc T.b_int (pe_ix ix_list (pv 0) (pe_op op_add (pv 1) pe_int) (fun _ _ => rfl))) pe_int)) pa_nil)) (pg_name (i := 6) nd rfl (Or.inl rfl))
        (pss_cons (ps_set (i := 7) nd rfl (Or.inl rfl) (pe_op op_add (pe_op op_add (pv 5) pe_int) (pe_op op_mod (pe_intc T.b_int (pe_op op_fdiv (pe_ix ix_list (pv 0) (pe_op op_add (pe_op op_add (pv 1) pe_int) (pv 6)) (fun _ _ => rfl)) pe_int)) (pe_op op_add pe_int (pe_op op_fdiv (pv 2) pe_int)))))
        (pss_cons (ps_set (i := 8) nd rfl (Or.inl rfl) (pe_op op_add (pe_op op_add (pv 7) pe_int) (pe_op op_mod (pe_intc T.b_int (pe_ix ix_list (pv 0) (pe_op op_add (pe_op op_add (pv 1) pe_int) (pv 6)) (fun _ _ => rfl))) (pe_op op_add pe_int (pe_op op_fdiv (pv 2) pe_int)))))
        (pss_one (ps_if (pt_cmpR op_le (pv 8) (pv 2) (nomark _)) (pss_cons (ps_expr (pe_bm PySem.F.plainAttrs_list PySem.F.slot_list_append PySem.F.type_list_append mt_append (pv 4) (pa_cons (pe_tup (pa_cons (pv 7) (pa_cons (pv 8) pa_nil))) pa_nil))) (pss_one (ps_set (i := 5) nd rfl (Or.inl rfl) (pv 8)))) pss_nil)))))
      (pss_one (ps_ret (pe_callTy call_tuple_of (by rfl) T.b_tuple (by decide +kernel) (pa_cons (pv 4) pa_nil))))))))), ?_⟩
    obtain ⟨n0, e0, _⟩ := hN.at h0 (by omega)
    refine ⟨_, rfl, _, rfl, nl, _, _, _, rfl, rfl, SqL.of hn, e0, .inl ⟨_, rfl, _, _, rfl, rfl, (by show (0 : Int) < _; decide), ?_⟩⟩
    refine ⟨_, rfl, _, _, rfl, rfl, _, rfl, ?_⟩
    refine ite2 (fun _ => ?_) (fun _ => ?_)
    · exact k H .non none (Same.refl H) rfl trivial (fun ps e => by cases e)
    refine ⟨_, rfl, rfl, _, rfl, ?_⟩
    refine ite2 (fun _ => ?_) (fun _ => ?_)
    · refine ⟨(by show 0 ≤ sizeLine; decide), fun p hp => ?_⟩
      exact k _ _ (some []) (Same.new hp) ⟨p, [], rfl, upd_same, .nil⟩ trivial (fun ps e => by cases e; exact Nat.zero_le _)
    refine ⟨(by show 0 ≤ sizeLine; decide), fun pl hpl => ?_⟩
    refine ⟨1, rfl, ?_⟩
    obtain ⟨n1, e1, b1⟩ := hN.at (i := at_ + 1) (by omega) (by omega)
    have hn1 : (upd H pl (.lst [])) nl = some (.lst (ns.map V.int)) := (Same.new hpl) _ _ hn
    refine ⟨_, rfl, _, rfl, _, _, rfl, rfl, nl, _, _, _, rfl, rfl, SqL.of hn1, e1, .inl ⟨_, rfl, _, _, rfl, rfl, (by show (0 : Int) < _; decide), _, _, rfl, rfl, _, rfl, (by omega), (by omega), ?_⟩⟩
    have hmx : (1 + n1 % 3).toNat ≤ 3 := by omega
    generalize (1 + n1 % 3).toNat = cnt at hmx
    refine for_range (lo := 0) (n := cnt) (fun i σ H2 => ∃ (z3 z6 z7 z8 : Option V) (last : Int) (us : List V) (ps : List (Int × Int)), σ = [some (.ref nl), some (.int at_), some (.int day), z3, some (.ref pl), some (.int last), z6, z7, z8] ∧ Same H H2 ∧
      H2 pl = some (.lst us) ∧ Paired (HV.hv H2) us ps ∧ WP.HoursOk day (-1) ps ∧ endOf (-1) ps = last ∧ ps.length ≤ i) ⟨_, none, none, none, -1, [], [], rfl, Same.new hpl, upd_same, .nil, trivial, rfl, Nat.le_refl _⟩ ?_ ?_
    · rintro i σ H2 hi ⟨z3, z6, z7, z8, last, us, ps, rfl, s2, hl2, hP, hok, hend, hlen⟩
      obtain ⟨n2, e2, b2⟩ := hN.at (i := at_ + 2 + (0 + (i : Int))) (by omega) (by omega)
      have hn2 := s2 _ _ hn
      have hp4 : (0 : Int) < 1 + day / 4 := by omega
      have hp3 : (0 : Int) < 1 + day / 3 := by omega
      refine ⟨_, rfl, _, _, rfl, rfl, _, rfl, _, rfl, _, _, rfl, rfl, _, rfl, _, _, rfl, rfl, nl, _, _, _, rfl, rfl, SqL.of hn2, e2, _, _, rfl, rfl, ⟨by decide, by decide⟩,
        .inl ⟨_, rfl, _, rfl, _, _, rfl, rfl, ⟨by decide, by decide⟩, _, _, rfl, rfl, _, _, rfl, rfl, hp4, _, _, rfl, rfl, ?_⟩⟩
      refine ⟨_, rfl, _, _, rfl, rfl, _, rfl, _, rfl, _, _, rfl, rfl, _, rfl, _, _, rfl, rfl, nl, _, _, _, rfl, rfl, SqL.of hn2, e2,
        .inl ⟨_, rfl, _, rfl, _, _, rfl, rfl, ⟨by decide, by decide⟩, _, _, rfl, rfl, _, _, rfl, rfl, hp3, _, _, rfl, rfl, ?_⟩⟩
      have m1 : 0 ≤ n2 / 29 % (1 + day / 4) := Int.emod_nonneg _ (by omega)
      have m2 : 0 ≤ n2 % (1 + day / 3) := Int.emod_nonneg _ (by omega)
      obtain ⟨o, ho, ho2⟩ : ∃ o : Int, last + 1 + n2 / 29 % (1 + day / 4) = o ∧ last < o := ⟨_, rfl, by omega⟩
      refine ⟨_, rfl, _, rfl, _, _, rfl, rfl, _, rfl, ?_⟩
      have hpl3 := hP.length
      refine ite2 (fun hc => ?_) (fun hc => ?_)
      · have hle := of_decide_eq_true hc
        refine ⟨_, rfl, .inl ⟨rfl, _, SqL.of hl2⟩, _, rfl, _, rfl, (by show 2 ≤ sizeLine; decide), fun t ht => ?_⟩
        have hl3 : (upd H2 t (.tup [.int (last + 1 + n2 / 29 % (1 + day / 4)), .int (last + 1 + n2 / 29 % (1 + day / 4) + 1 + n2 % (1 + day / 3))])) pl = some (.lst us) := by rw [upd_ne (ne_of_none hl2 ht)]; exact hl2
        refine ⟨pl, _, _, rfl, rfl, hl3, size60 (by omega), ?_⟩
        refine ⟨_, rfl, ?_⟩
        have tup : Tups H2 (upd (upd H2 t (.tup [.int (last + 1 + n2 / 29 % (1 + day / 4)), .int (last + 1 + n2 / 29 % (1 + day / 4) + 1 + n2 % (1 + day / 3))])) pl (.lst (us ++ [.ref t]))) := Tups.trans (Tups.new ht) (Tups.set hl3 fun xs z => by cases z)
        refine ⟨_, _, _, _, _, us ++ [.ref t], ps ++ [(last + 1 + n2 / 29 % (1 + day / 4), last + 1 + n2 / 29 % (1 + day / 4) + 1 + n2 % (1 + day / 3))], rfl, fun b ob e => ?_, upd_same, ?_, ?_, ?_, ?_⟩
        · rw [upd_ne (ne_of_none e hpl), upd_ne (ne_of_none (s2 _ _ e) ht)]
          exact s2 _ _ e
        · refine Paired.app (hvs_up tup hP) (Paired.one ⟨t, _, _, rfl, ?_, rfl, rfl⟩)
          rw [upd_ne (ne_of_none hl2 ht).symm, upd_same]
        · exact hours_snoc hok (by rw [hend]; omega) (by omega) (by omega)
        · exact endOf_snoc _ _ _ _
        · rw [List.length_append]
          show ps.length + 1 ≤ i + 1
          omega
      · exact ⟨_, _, _, _, _, us, ps, rfl, s2, hl2, hP, hok, hend, by omega⟩
    · rintro σ H2 ⟨z3, z6, z7, z8, last, us, ps, rfl, s2, hl2, hP, hok, hend, hlen⟩
      refine ⟨_, rfl, pl, _, rfl, .inl ⟨SqL.of hl2, fun t ht => ?_⟩⟩
      have t3 : Tups H2 (upd H2 t (.tup us)) := Tups.new ht
      exact k _ _ (some ps) (s2.trans (Same.new ht)) ⟨t, us, rfl, upd_same, hvs_up t3 hP⟩ hok (fun ps' e => by cases e; omega)
end
end K17

set_option Elab.async false
set_option linter.all false
set_option maxRecDepth 100000
set_option maxHeartbeats 4000000
/-! _law_names. -/
namespace K17
open PySem L2 WR

/-- a text of at most n signs, all of names -/
structure Chars (s : Str) (n : Nat) : Prop where
  most : s.length ≤ n
  all : ∀ c ∈ s.cps.toList, c ∈ nameChars.cps.toList
theorem app_toList (x y : Str) : (x ++ y).cps.toList = x.cps.toList ++ y.cps.toList := by
  show (x.cps ++ y.cps).toList = _
  rw [Array.toList_append]
theorem app_length (x y : Str) : (x ++ y).length = x.length + y.length := by
  rw [← str_len, app_toList, List.length_append, str_len, str_len]
theorem cut_from (z : Str) (i : Nat) : (cutS z (some (i : Int)) none).cps.toList = z.cps.toList.drop (min i z.length) := by
  show (((z.cps.toList.drop (HT.sIx z.length 0 (some (i : Int)))).take (HT.sIx z.length z.length none - HT.sIx z.length 0 (some (i : Int)))).toArray).toList = _
  rw [HT.sIx_nat, HT.sIx_none, List.toList_toArray]
  refine List.take_of_length_le ?_
  rw [List.length_drop, str_len]
  omega
theorem cut_to (z : Str) (i : Nat) : (cutS z none (some (i : Int))).cps.toList = z.cps.toList.take (min i z.length) := by
  show (((z.cps.toList.drop (HT.sIx z.length 0 none)).take (HT.sIx z.length z.length (some (i : Int)) - HT.sIx z.length 0 none)).toArray).toList = _
  rw [HT.sIx_nat, HT.sIx_none, List.toList_toArray, List.drop_zero, Nat.sub_zero]
theorem Chars.from {z : Str} {n i : Nat} (h : Chars z n) : Chars (cutS z (some (i : Int)) none) n := by
  refine ⟨?_, fun c hc => ?_⟩
  · rw [← str_len, cut_from, List.length_drop, str_len]
    have := h.most
    omega
  · rw [cut_from] at hc
    exact h.all c (List.mem_of_mem_drop hc)
/-- a sign, the first part, another sign, the rest -/
def glue (c1 c2 : Nat) (own : Str) (spot : Nat) : Str := (⟨#[c1]⟩ : Str) ++ cutS own none (some (spot : Int)) ++ (⟨#[c2]⟩ : Str) ++ cutS own (some (spot : Int)) none
theorem glue_toList (c1 c2 : Nat) (own : Str) (spot : Nat) : (glue c1 c2 own spot).cps.toList = c1 :: (own.cps.toList.take (min spot own.length) ++ (c2 :: own.cps.toList.drop (min spot own.length))) := by
  unfold glue
  rw [app_toList, app_toList, app_toList, cut_from, cut_to]
  show (([c1] ++ _) ++ [c2]) ++ _ = _
  rw [List.append_assoc, List.append_assoc]
  rfl
theorem glue_len (c1 c2 : Nat) (own : Str) (spot : Nat) : (glue c1 c2 own spot).length = own.length + 2 := by
  rw [← str_len, glue_toList, List.length_cons, List.length_append, List.length_cons, List.length_take, List.length_drop, str_len]
  omega
theorem glue_name {c1 c2 : Nat} {own : Str} {spot : Nat} (h : Chars own 10) (h1 : c1 ∈ nameChars.cps.toList) (hd : c1 ∉ digits.cps.toList) (h2 : c2 ∈ nameChars.cps.toList) : IsName (glue c1 c2 own spot) := by
  have hl := glue_len c1 c2 own spot
  have hm := h.most
  refine ⟨by omega, by omega, fun c hc => ?_, fun c hc => ?_⟩
  · rw [glue_toList] at hc
    cases hc
    exact hd
  · rw [glue_toList] at hc
    rcases List.mem_cons.mp hc with rfl | hc
    · exact h1
    · rcases List.mem_append.mp hc with hc | hc
      · exact h.all c (List.mem_of_mem_take hc)
      · rcases List.mem_cons.mp hc with rfl | hc
        · exact h2
        · exact h.all c (List.mem_of_mem_drop hc)
theorem chars_len : nameChars.cps.toList.length = 36 := by decide +kernel
theorem chars_nodup : nameChars.cps.toList.Nodup := by decide +kernel
theorem chars_letters : ∀ i, i < 26 → ∀ c, nameChars.cps.toList[i]? = some c → c ∉ digits.cps.toList := by
  have h : ∀ i : Fin 26, ∀ c ∈ nameChars.cps.toList[i.val]?, c ∉ digits.cps.toList := by decide +kernel
  intro i hi c hc
  exact h ⟨i, hi⟩ c hc
theorem char_at {i : Int} (h0 : 0 ≤ i) (h1 : i < 36) : ∃ c, atI nameChars.cps.toList i = some c ∧ nameChars.cps.toList[i.toNat]? = some c ∧ c ∈ nameChars.cps.toList := by
  obtain ⟨j, rfl⟩ := Int.eq_ofNat_of_zero_le h0
  have hj : j < nameChars.cps.toList.length := by rw [chars_len]; omega
  have e := List.getElem?_eq_getElem hj
  exact ⟨_, atI_nat e, by rw [Int.toNat_natCast]; exact e, List.getElem_mem hj⟩
theorem join_chars : ∀ (ys : List Str), (∀ y ∈ ys, Chars y 1) → Chars (PySem.Str.join Str.empty ys) ys.length
  | [], _ => ⟨Nat.le_refl _, fun c hc => by cases hc⟩
  | [x], h => ⟨(h x (by simp)).most, (h x (by simp)).all⟩
  | x :: y :: r, h => by
    have ih := join_chars (y :: r) fun z hz => h z (by simp only [List.mem_cons] at hz ⊢; exact .inr hz)
    have hx := h x (by simp)
    have e : (PySem.Str.join Str.empty (x :: y :: r)).cps.toList = x.cps.toList ++ (PySem.Str.join Str.empty (y :: r)).cps.toList := by
      show (x ++ Str.empty ++ PySem.Str.join Str.empty (y :: r)).cps.toList = _
      rw [app_toList, app_toList]
      show x.cps.toList ++ [] ++ _ = _
      rw [List.append_nil]
    refine ⟨?_, fun c hc => ?_⟩
    · rw [← str_len, e, List.length_append, str_len, str_len]
      have h1 := hx.most
      have h2 := ih.most
      rw [List.length_cons] at h2 ⊢
      rw [List.length_cons]
      omega
    · rw [e] at hc
      rcases List.mem_append.mp hc with hc | hc
      · exact hx.all c hc
      · exact ih.all c hc

/-- how the texts begin -/
def Firsts (n : Int) (ss : List Str) : Prop := ∀ (j : Nat) (s : Str), ss[j]? = some s → s.cps.toList[0]? = nameChars.cps.toList[((n + 3 * (j : Int)) % 26).toNat]?

def spNames : Sp := fun vs H Q _ => ∃ (n m : Int), vs = [.int n, .int m] ∧ 0 ≤ n ∧ n < 1009 ∧ 0 ≤ m ∧ m ≤ 9 ∧
  ∀ (H' : Hp) (l : Addr) (ss : List Str), Same H H' → H l = none → H' l = some (.lst (ss.map V.str)) → (ss.length : Int) = m → (∀ s ∈ ss, IsName s) → ss.Nodup → Q (.ref l) H'

section
variable {P : Program} {w : World} {K : PySem.W.Frag} {mg : Str → Option Value} {base : Heap} {a : Adr}
theorem ok_names (T : Txt K mg a) : FnOk P w K mg base CX0 1 a.lNames.f a.lNames.fd ["_law_number", "_law_many"] spNames := by
  refine T.lNames.fn.ok sc_lNames (fun vs H Q E h => ?_) (fun cdv A outer s H vs Q E hr h => ?_)
  · obtain ⟨n, m, rfl, _⟩ := h
    rfl
  · obtain ⟨n, m, rfl, hn0, hn1, hm0, hm1, k⟩ := h
    have nd := sc_lNames.nd
    refine ⟨_, pss_cons (ps_set (i := 2) nd rfl (Or.inr rfl) pe_str)
      (pss_cons (ps_set (i := 3) nd rfl (Or.inl rfl) (pe_op op_mod (pe_intc T.b_int (pv 0)) pe_int))
      (pss_cons (ps_set (i := 5) nd rfl (Or.inl rfl) (pe_join pe_str (pe_lc (own := [("_law_k", 4)]) (g := gName 4) (tt := tYes) rfl nd (pi_range1 (by rfl) T.b_range (pa_cons (pv 3) pa_nil))
          (blkOk_by (own := [("_law_k", 4)]) (N := ["_law_number", "_law_many", "_law_letters", "_law_size", "_law_k", "_law_rest", "_law_place", "_law_names_here", "_law_own", "_law_spot", "_law_step"]) (sc := defScope st_lNames) (by decide +kernel))
          (fun _ _ _ _ _ => pg_name (i := 4) nd rfl (Or.inl rfl)) (fun _ _ _ _ _ => pts_nil) (fun _ _ _ _ _ => pe_ix ix_str (pv 2) (pe_op op_mod (pe_intc T.b_int (pe_op op_add (pv 0) (pe_op op_mul (pe_op op_mul pe_int (pv 4)) (pv 4)))) pe_int) (fun _ _ => rfl)))))
      (pss_cons (ps_set (i := 6) nd rfl (Or.inl rfl) (pe_op op_mod (pe_intc T.b_int (pe_op op_fdiv (pv 0) pe_int)) (pe_op op_add (pv 3) pe_int)))
      (pss_cons (ps_set (i := 7) nd rfl (Or.inl rfl) (pe_lst pa_nil))
      (pss_cons (ps_for PassesOwn.never rfl (pi_range1 (by rfl) T.b_range (pa_cons (pv 1) pa_nil)) (pg_name (i := 4) nd rfl (Or.inl rfl))
        (pss_cons (ps_set (i := 8) nd rfl (Or.inl rfl) (pv 5))
        (pss_cons (ps_if (pt_cmpR op_eq (pe_op op_mod (pe_intc T.b_int (pe_op op_add (pe_op op_fdiv (pv 0) pe_int) (pv 4))) pe_int) pe_int (nomark _)) (pss_one (ps_set (i := 8) nd rfl (Or.inl rfl) (pe_slice sl_str (pv 5) (po_some pe_int) po_none))) pss_nil)
        (pss_cons (ps_set (i := 9) nd rfl (Or.inl rfl) (pe_callB (call_min2 rfl) (by rfl) T.b_min (by decide +kernel) (pa_cons (pv 6) (pa_cons (pe_callB call_len_str (by rfl) T.b_len PySem.boot_len (pa_cons (pv 8) pa_nil)) pa_nil))))
        (pss_cons (ps_set (i := 10) nd rfl (Or.inl rfl) pe_int)
        (pss_cons (ps_if (pt_cmpR op_eq (pe_op op_mod (pe_intc T.b_int (pe_op op_fdiv (pv 0) pe_int)) pe_int) pe_int (nomark _)) (pss_one (ps_set (i := 10) nd rfl (Or.inl rfl) pe_int)) pss_nil)
        (pss_one (ps_expr (pe_bm PySem.F.plainAttrs_list PySem.F.slot_list_append PySem.F.type_list_append mt_append (pv 7) (pa_cons
          (pe_op op_add_str (pe_op op_add_str (pe_op op_add_str (pe_ix ix_str (pv 2) (pe_op op_mod (pe_intc T.b_int (pe_op op_add (pv 0) (pe_op op_mul pe_int (pv 4)))) pe_int) (fun _ _ => rfl)) (pe_slice sl_str (pv 8) po_none (po_some (pv 9))))
            (pe_ix ix_str (pv 2) (pe_op op_mod (pe_intc T.b_int (pe_op op_add (pv 0) (pe_op op_mul (pv 10) (pv 4)))) pe_int) (fun _ _ => rfl))) (pe_slice sl_str (pv 8) (po_some (pv 9)) po_none)) pa_nil))))))))))
      (pss_one (ps_ret (pv 7)))))))), ?_⟩
    have hcl : nameChars.length ≤ sizeLine := by rw [← str_len, chars_len, sizeLine_eq]; decide
    refine ⟨_, rfl, .inl ⟨_, rfl, _, _, rfl, rfl, (by show (0 : Int) < _; decide), ?_⟩⟩
    -- _law_rest
    refine ⟨⟨_, rfl⟩, _, rfl, n % 11, rfl, (by omega), (by omega), fun D hD => lc_range (lo := 0) (n := (n % 11).toNat) (fun i H2 => ∃ ys : List Str, Same H H2 ∧ H2 D = some (.lst (ys.map V.str)) ∧ ys.length = i ∧ ∀ y ∈ ys, Chars y 1) ⟨[], Same.new hD, upd_same, rfl, fun y hy => by cases hy⟩ ?_ ?_⟩
    · rintro i H2 hi ⟨ys, s2, hD2, hlen, hys⟩
      refine ⟨rfl, tYes_if ?_⟩
      obtain ⟨c, hc, _, hcm⟩ := char_at (i := (n + 7 * (0 + (i : Int)) * (0 + (i : Int))) % 36) (Int.emod_nonneg _ (by decide)) (Int.emod_lt_of_pos _ (by decide))
      refine ⟨_, rfl, _, rfl, _, rfl, _, _, rfl, rfl, .inl ⟨by decide, by decide⟩, _, rfl, _, _, rfl, rfl, .inr ⟨by omega, by omega⟩, _, _, rfl, rfl, .inl ⟨_, rfl, _, _, rfl, rfl, (by show (0 : Int) < _; decide), nameChars, _, c, rfl, rfl, hcl, hc, ?_⟩⟩
      refine ⟨_, hD2, size60 (by rw [List.length_map]; omega), ys ++ [⟨#[c]⟩], Same.put s2 hD, ?_, (by rw [List.length_append, hlen]; rfl), fun y hy => ?_⟩
      · rw [upd_same, List.map_append]
        rfl
      · rcases List.mem_append.mp hy with hy | hy
        · exact hys y hy
        · have e : y = ⟨#[c]⟩ := by simpa using hy
          subst e
          refine ⟨Nat.le_refl _, fun c' hc' => ?_⟩
          have e2 : c' = c := by simpa using hc'
          rw [e2]
          exact hcm
    rintro H2 ⟨ys, s2, hD2, hlen, hys⟩
    have hys10 : ys.length ≤ 10 := by omega
    have hsum : (ys.map (·.length)).sum ≤ ys.length := by
      clear hD2 hlen hys10
      induction ys with
      | nil => exact Nat.le_refl _
      | cons y r ih =>
        have h1 := (hys y (by simp)).most
        have h2 := ih fun z hz => hys z (by simp [hz])
        rw [List.map_cons, List.sum_cons, List.length_cons]
        omega
    refine ⟨_, D, ys, rfl, rfl, .inl (SqL.of hD2), (by
      show (ys.map (·.length)).sum + ys.length * 0 ≤ 16777216
      omega), ?_⟩
    have hrest : Chars (Txt.join Str.empty ys) 10 := by
      have h := join_chars ys hys
      rw [TL.join_eq]
      exact ⟨Nat.le_trans h.most hys10, h.all⟩
    have erest : Txt.join (PySem.Str.ofString "") ys = Txt.join Str.empty ys := by
      rw [show PySem.Str.ofString "" = Str.empty by decide +kernel]
    show gName 5 (V.str (Txt.join (PySem.Str.ofString "") ys)) _ _ _
    rw [erest]
    generalize Txt.join Str.empty ys = rest at hrest
    clear hD2 hD erest hsum
    -- _law_place
    refine ⟨_, rfl, _, _, rfl, rfl, ⟨by decide, by decide⟩, .inl ⟨_, rfl, _, rfl, _, _, rfl, rfl, _, _, rfl, rfl, (show (0 : Int) < n % 11 + 1 by omega), ?_⟩⟩
    have hpl : 0 ≤ n / 11 % (n % 11 + 1) := Int.emod_nonneg _ (by omega)
    show gName 6 (V.int (n / 11 % (n % 11 + 1))) _ _ _
    generalize n / 11 % (n % 11 + 1) = place at hpl
    -- _law_names_here = []
    refine ⟨(by show 0 ≤ sizeLine; decide), fun l hl => ?_⟩
    refine ⟨_, rfl, m, rfl, (by omega), (by omega), for_range (lo := 0) (n := m.toNat) (fun i σ H3 => ∃ (z4 z8 z9 z10 : Option V) (ss : List Str), σ = [some (.int n), some (.int m), some (.str nameChars), some (.int (n % 11)), z4, some (.str rest), some (.int place), some (.ref l), z8, z9, z10] ∧ Same H2 H3 ∧
      H3 l = some (.lst (ss.map V.str)) ∧ ss.length = i ∧ (∀ s ∈ ss, IsName s) ∧ Firsts n ss) ⟨none, none, none, none, [], rfl, Same.new hl, upd_same, rfl, fun y hy => (by cases hy), fun j s h => (by simp at h)⟩ ?_ ?_⟩
    · rintro i σ H3 hi ⟨z4, z8, z9, z10, ss, rfl, s3, hl3, hlen3, hss, hfc⟩
      have hi9 : i < 9 := by omega
      -- _law_own
      refine ⟨_, rfl, ?_⟩
      refine ⟨_, rfl, _, _, rfl, rfl, ⟨by decide, by decide⟩, _, rfl, _, _, rfl, rfl, .inl ⟨_, rfl, _, _, rfl, rfl, (by show (0 : Int) < _; decide), rfl, _, rfl, ?_⟩⟩
      have next : ∀ own : Str, Chars own 10 → tSeq (tAsg (tCB (fun xs H Q => ∃ i j, xs = [.int i, .int j] ∧ Q (.int (if j < i then j else i)) H) (tCons (tVar 6) (tCons (tCB (fun xs H Q => ∃ z, xs = [.str z] ∧ z.length ≤ sizeLine ∧ Q (.int z.length) H) (tCons (tVar 8) tNil)) tNil))) (gName 9))
          (tSeq (tAsg (tC (.int 5)) (gName 10)) (tSeq (tIfS (tTest (tOp rEq (tOp (rI (fun _ j => 0 < j) fun i j => .int (i % j)) (tCB (fun xs H Q => (∃ i, xs = [V.int i] ∧ Q (.int i) H) ∨ ∃ k, xs = [V.bl k] ∧ Q (.int (if k then 1 else 0)) H) (tCons (tOp (rI CDiv fun i j => .int (i / j)) (tVar 0) (tC (.int 363))) tNil)) (tC (.int 2))) (tC (.int 1)))) (tAsg (tC (.int 31)) (gName 10)) tNext)
            (tDrop (tBM K "list" rAppend (tVar 7) (tCons (tOp (fun x y H Q => ∃ i j, x = .str i ∧ y = .str j ∧ i.length + j.length ≤ sizeLine ∧ Q (.str (i ++ j)) H) (tOp (fun x y H Q => ∃ i j, x = .str i ∧ y = .str j ∧ i.length + j.length ≤ sizeLine ∧ Q (.str (i ++ j)) H)
              (tOp (fun x y H Q => ∃ i j, x = .str i ∧ y = .str j ∧ i.length + j.length ≤ sizeLine ∧ Q (.str (i ++ j)) H) (tOp rIxS (tVar 2) (tOp (rI (fun _ j => 0 < j) fun i j => .int (i % j)) (tCB (fun xs H Q => (∃ i, xs = [V.int i] ∧ Q (.int i) H) ∨ ∃ k, xs = [V.bl k] ∧ Q (.int (if k then 1 else 0)) H) (tCons (tOp (rI0 fun i j => .int (i + j)) (tVar 0) (tOp (rI CMul fun i j => .int (i * j)) (tC (.int 3)) (tVar 4))) tNil)) (tC (.int 26)))) (tSl rSlS (tVar 8) tNoPart (tPart (tVar 9))))
              (tOp rIxS (tVar 2) (tOp (rI (fun _ j => 0 < j) fun i j => .int (i % j)) (tCB (fun xs H Q => (∃ i, xs = [V.int i] ∧ Q (.int i) H) ∨ ∃ k, xs = [V.bl k] ∧ Q (.int (if k then 1 else 0)) H) (tCons (tOp (rI0 fun i j => .int (i + j)) (tVar 0) (tOp (rI CMul fun i j => .int (i * j)) (tVar 10) (tVar 4))) tNil)) (tC (.int 36))))) (tSl rSlS (tVar 8) (tPart (tVar 9)) tNoPart)) tNil)))))
          { nx := fun σ H3 => ∃ (z4 z8 z9 z10 : Option V) (ss : List Str), σ = [some (.int n), some (.int m), some (.str nameChars), some (.int (n % 11)), z4, some (.str rest), some (.int place), some (.ref l), z8, z9, z10] ∧ Same H2 H3 ∧
              H3 l = some (.lst (ss.map V.str)) ∧ ss.length = i + 1 ∧ (∀ s ∈ ss, IsName s) ∧ Firsts n ss, rt := Q }
          [some (.int n), some (.int m), some (.str nameChars), some (.int (n % 11)), some (.int (0 + (i : Int))), some (.str rest), some (.int place), some (.ref l), some (.str own), z9, z10] H3 := fun own hown => by
        have hown10 := hown.most
        have hsz : own.length ≤ sizeLine := by rw [sizeLine_eq]; omega
        refine ⟨_, rfl, _, rfl, own, rfl, hsz, _, _, rfl, ?_⟩
        obtain ⟨spot, hspot⟩ : ∃ spot : Nat, (if ((own.length : Nat) : Int) < place then ((own.length : Nat) : Int) else place) = (spot : Int) := ⟨(if ((own.length : Nat) : Int) < place then ((own.length : Nat) : Int) else place).toNat, by split <;> omega⟩
        rw [hspot]
        obtain ⟨c1, hc1, hc1', hc1m⟩ := char_at (i := (n + 3 * (0 + (i : Int))) % 26) (Int.emod_nonneg _ (by decide)) (by omega)
        have hc1d : c1 ∉ digits.cps.toList := chars_letters _ (by omega) c1 hc1'
        have body : ∀ step : Int, 0 ≤ step → step ≤ 31 → (tDrop (tBM K "list" rAppend (tVar 7) (tCons (tOp (fun x y H Q => ∃ i j, x = .str i ∧ y = .str j ∧ i.length + j.length ≤ sizeLine ∧ Q (.str (i ++ j)) H) (tOp (fun x y H Q => ∃ i j, x = .str i ∧ y = .str j ∧ i.length + j.length ≤ sizeLine ∧ Q (.str (i ++ j)) H)
              (tOp (fun x y H Q => ∃ i j, x = .str i ∧ y = .str j ∧ i.length + j.length ≤ sizeLine ∧ Q (.str (i ++ j)) H) (tOp rIxS (tVar 2) (tOp (rI (fun _ j => 0 < j) fun i j => .int (i % j)) (tCB (fun xs H Q => (∃ i, xs = [V.int i] ∧ Q (.int i) H) ∨ ∃ k, xs = [V.bl k] ∧ Q (.int (if k then 1 else 0)) H) (tCons (tOp (rI0 fun i j => .int (i + j)) (tVar 0) (tOp (rI CMul fun i j => .int (i * j)) (tC (.int 3)) (tVar 4))) tNil)) (tC (.int 26)))) (tSl rSlS (tVar 8) tNoPart (tPart (tVar 9))))
              (tOp rIxS (tVar 2) (tOp (rI (fun _ j => 0 < j) fun i j => .int (i % j)) (tCB (fun xs H Q => (∃ i, xs = [V.int i] ∧ Q (.int i) H) ∨ ∃ k, xs = [V.bl k] ∧ Q (.int (if k then 1 else 0)) H) (tCons (tOp (rI0 fun i j => .int (i + j)) (tVar 0) (tOp (rI CMul fun i j => .int (i * j)) (tVar 10) (tVar 4))) tNil)) (tC (.int 36))))) (tSl rSlS (tVar 8) (tPart (tVar 9)) tNoPart)) tNil)))
            { nx := fun σ H3 => ∃ (z4 z8 z9 z10 : Option V) (ss : List Str), σ = [some (.int n), some (.int m), some (.str nameChars), some (.int (n % 11)), z4, some (.str rest), some (.int place), some (.ref l), z8, z9, z10] ∧ Same H2 H3 ∧
              H3 l = some (.lst (ss.map V.str)) ∧ ss.length = i + 1 ∧ (∀ s ∈ ss, IsName s) ∧ Firsts n ss, rt := Q }
            [some (.int n), some (.int m), some (.str nameChars), some (.int (n % 11)), some (.int (0 + (i : Int))), some (.str rest), some (.int place), some (.ref l), some (.str own), some (.int (spot : Int)), some (.int step)] H3 := fun step hst0 hst1 => by
          obtain ⟨c2, hc2, _, hc2m⟩ := char_at (i := (n + step * (0 + (i : Int))) % 36) (Int.emod_nonneg _ (by decide)) (Int.emod_lt_of_pos _ (by decide))
          have l1 : (cutS own none (some (spot : Int))).length ≤ own.length := cutS_length _ _ _
          have l2 : (cutS own (some (spot : Int)) none).length ≤ own.length := cutS_length _ _ _
          refine ⟨_, rfl, .inl ⟨rfl, _, SqL.of hl3⟩, _, rfl, _, rfl, _, rfl, _, _, rfl, rfl, .inl ⟨by decide, by decide⟩, _, _, rfl, rfl, .inl ⟨_, rfl, _, _, rfl, rfl, (by show (0 : Int) < _; decide), nameChars, _, c1, rfl, rfl, hcl, hc1, ?_⟩⟩
          refine ⟨_, rfl, _, rfl, spot, rfl, own, rfl, hsz, _, _, rfl, rfl, ?_, ?_⟩
          · rw [sizeLine_eq]
            show 1 + _ ≤ _
            omega
          refine ⟨_, rfl, _, rfl, _, rfl, _, rfl, _, _, rfl, rfl, .inr ⟨by omega, by omega⟩, _, _, rfl, rfl, .inl ⟨_, rfl, _, _, rfl, rfl, (by show (0 : Int) < _; decide), nameChars, _, c2, rfl, rfl, hcl, hc2, _, _, rfl, rfl, ?_, ?_⟩⟩
          · rw [app_length, sizeLine_eq]
            show (1 + _) + 1 ≤ _
            omega
          refine ⟨_, rfl, _, rfl, spot, rfl, own, rfl, hsz, _, _, rfl, rfl, ?_, ?_⟩
          · rw [app_length, app_length, sizeLine_eq]
            show (1 + _) + 1 + _ ≤ _
            omega
          refine ⟨l, _, _, rfl, rfl, hl3, size60 (by rw [List.length_map]; omega), ?_⟩
          refine ⟨_, _, _, _, ss ++ [glue c1 c2 own spot], rfl, Same.put s3 hl, ?_, (by rw [List.length_append, hlen3]; rfl), fun y hy => ?_, fun j y hj => ?_⟩
          · rw [upd_same, List.map_append]
            rfl
          · rcases List.mem_append.mp hy with hy | hy
            · exact hss y hy
            · have e : y = glue c1 c2 own spot := by simpa using hy
              subst e
              exact glue_name hown hc1m hc1d hc2m
          · by_cases hjl : j < ss.length
            · rw [List.getElem?_append_left hjl] at hj
              exact hfc j y hj
            · have hj2 : j = ss.length := by
                have := (List.getElem?_eq_some_iff.mp hj).1
                rw [List.length_append] at this
                have h1 : [glue c1 c2 own spot].length = 1 := rfl
                omega
              subst hj2
              rw [List.getElem?_append_right (Nat.le_refl _), Nat.sub_self] at hj
              have e : glue c1 c2 own spot = y := Option.some.inj hj
              rw [← e, glue_toList, hlen3]
              have e3 : n + 3 * (i : Int) = n + 3 * (0 + (i : Int)) := by omega
              rw [e3, hc1']
              rfl
        refine ⟨_, rfl, _, _, rfl, rfl, ⟨by decide, by decide⟩, .inl ⟨_, rfl, _, _, rfl, rfl, (by show (0 : Int) < _; decide), rfl, _, rfl, ?_⟩⟩
        refine ite2 (fun _ => ?_) (fun _ => ?_)
        · exact body 31 (by decide) (by decide)
        · exact body 5 (by decide) (by decide)
      refine ite2 (fun _ => ?_) (fun _ => ?_)
      · refine ⟨_, rfl, 1, rfl, rest, rfl, (by have := hrest.most; rw [sizeLine_eq]; omega), ?_⟩
        exact next _ (hrest.from (i := 1))
      · exact next rest hrest
    · rintro σ H3 ⟨z4, z8, z9, z10, ss, rfl, s3, hl3, hlen3, hss, hfc⟩
      refine ⟨_, rfl, k H3 l ss (s2.trans s3) (Same.free s2 hl) hl3 (by omega) hss ?_⟩
      unfold List.Nodup
      rw [List.pairwise_iff_getElem]
      intro i j hi hj hij e
      have h1 := hfc i _ (List.getElem?_eq_getElem hi)
      have h2 := hfc j _ (List.getElem?_eq_getElem hj)
      rw [e, h2] at h1
      have hi26 : ((n + 3 * (i : Int)) % 26).toNat < 26 := by omega
      have hj26 : ((n + 3 * (j : Int)) % 26).toNat < 26 := by omega
      have hlt : ((n + 3 * (i : Int)) % 26).toNat < nameChars.cps.toList.length := by rw [chars_len]; omega
      have e2 := List.getElem?_eq_getElem hlt
      rw [e2] at h1
      have := nd_ix chars_nodup h1 e2
      omega
end
end K17

set_option Elab.async false
set_option linter.all false
set_option maxRecDepth 100000
set_option maxHeartbeats 8000000
/-! _law_map. -/
namespace K17
open PySem L2 WR

/-- the parts of a map, as the law passes them -/
def Parts (H : Hp) (l : Addr) (day : Int) (ps ks : List Str) (rs : List Road) (bars : List (Str × Str)) : Prop := ∃ (pp pk pr pb : Addr) (us bs : List V), H l = some (.lst [.int day, .ref pp, .ref pk, .ref pr, .ref pb]) ∧
  H pp = some (.lst (ps.map V.str)) ∧ H pk = some (.lst (ks.map V.str)) ∧ H pr = some (.lst us) ∧ Paired (RoadV H) us rs ∧ H pb = some (.lst bs) ∧ Paired (HV.hv H) bs bars
theorem Parts.same {H H' : Hp} (s : Same H H') {l : Addr} {day : Int} {ps ks : List Str} {rs : List Road} {bars : List (Str × Str)} (h : Parts H l day ps ks rs bars) : Parts H' l day ps ks rs bars := by
  obtain ⟨pp, pk, pr, pb, us, bs, h1, h2, h3, h4, h5, h6, h7⟩ := h
  exact ⟨pp, pk, pr, pb, us, bs, s _ _ h1, s _ _ h2, s _ _ h3, s _ _ h4, roads_up (.of s) h5, s _ _ h6, hvs_up (.of s) h7⟩

theorem day_at {i : Int} (h0 : 0 ≤ i) (h1 : i < 8) : ∃ d : Int, atI [V.int 30, .int 12, .int 60, .int 1440, .int 7, .int 24, .int 1, .int 100] i = some (.int d) ∧ 1 ≤ d ∧ d ≤ 1440 := by
  have h : i = 0 ∨ i = 1 ∨ i = 2 ∨ i = 3 ∨ i = 4 ∨ i = 5 ∨ i = 6 ∨ i = 7 := by omega
  rcases h with rfl | rfl | rfl | rfl | rfl | rfl | rfl | rfl
  · exact ⟨_, atI_nat (j := 0) rfl, by decide, by decide⟩
  · exact ⟨_, atI_nat (j := 1) rfl, by decide, by decide⟩
  · exact ⟨_, atI_nat (j := 2) rfl, by decide, by decide⟩
  · exact ⟨_, atI_nat (j := 3) rfl, by decide, by decide⟩
  · exact ⟨_, atI_nat (j := 4) rfl, by decide, by decide⟩
  · exact ⟨_, atI_nat (j := 5) rfl, by decide, by decide⟩
  · exact ⟨_, atI_nat (j := 6) rfl, by decide, by decide⟩
  · exact ⟨_, atI_nat (j := 7) rfl, by decide, by decide⟩
theorem str_at {ss : List Str} {i : Int} (h0 : 0 ≤ i) (h1 : i < ss.length) : ∃ s, atI (ss.map V.str) i = some (.str s) ∧ s ∈ ss ∧ ss[i.toNat]? = some s := by
  obtain ⟨j, rfl⟩ := Int.eq_ofNat_of_zero_le h0
  have hj : j < ss.length := by omega
  exact ⟨ss[j], atI_nat (by rw [List.getElem?_map, List.getElem?_eq_getElem hj]; rfl), List.getElem_mem hj, by rw [Int.toNat_natCast]; exact List.getElem?_eq_getElem hj⟩
theorem mod_str {ss : List Str} (h : ss ≠ []) (n : Int) : ∃ s, atI (ss.map V.str) (n % ((ss.map V.str).length : Int)) = some (.str s) ∧ s ∈ ss := by
  have hp : 0 < ss.length := List.length_pos_iff.mpr h
  have e : ((ss.map V.str).length : Int) = (ss.length : Int) := by rw [List.length_map]
  rw [e]
  obtain ⟨s, h1, h2, _⟩ := str_at (ss := ss) (i := n % (ss.length : Int)) (Int.emod_nonneg _ (by omega)) (Int.emod_lt_of_pos _ (by omega))
  exact ⟨s, h1, h2⟩

/-- all pairs -/
def prod2 (xs ys : List Str) : List (Str × Str) := xs.flatMap fun x => ys.map fun y => (x, y)
theorem prod2_snoc (xs ys : List Str) (x : Str) : prod2 (xs ++ [x]) ys = prod2 xs ys ++ ys.map fun y => (x, y) := by
  unfold prod2
  rw [List.flatMap_append]
  simp
theorem prod2_len (xs ys : List Str) : (prod2 xs ys).length = xs.length * ys.length := by
  unfold prod2
  induction xs with
  | nil => simp
  | cons x r ih => rw [List.flatMap_cons, List.length_append, ih, List.length_map, List.length_cons, Nat.succ_mul, Nat.add_comm]
theorem prod2_fst {xs ys : List Str} {b : Str × Str} (h : b ∈ prod2 xs ys) : b.1 ∈ xs := by
  unfold prod2 at h
  obtain ⟨x, hx, hb⟩ := List.mem_flatMap.mp h
  obtain ⟨y, _, e⟩ := List.mem_map.mp hb
  rw [← e]
  exact hx
theorem prod2_nodup {ys : List Str} (hy : ys.Nodup) : ∀ {xs : List Str}, xs.Nodup → (prod2 xs ys).Nodup
  | [], _ => List.nodup_nil
  | x :: r, h => by
    obtain ⟨h1, h2⟩ := List.nodup_cons.mp h
    show ((ys.map fun y => (x, y)) ++ prod2 r ys).Nodup
    rw [List.nodup_append]
    refine ⟨?_, prod2_nodup hy h2, fun a ha b hb e => ?_⟩
    · unfold List.Nodup at hy ⊢
      rw [List.pairwise_map]
      exact hy.imp fun hne e => hne (congrArg Prod.snd e)
    · obtain ⟨y, _, ea⟩ := List.mem_map.mp ha
      have h3 := prod2_fst hb
      rw [← e, ← ea] at h3
      exact h1 h3

def spMap : Sp := fun vs H Q _ => ∃ (nl : Addr) (ns : List Int), vs = [.ref nl, .int 0] ∧ H nl = some (.lst (ns.map V.int)) ∧ Nums ns ∧
  ∀ (H' : Hp) (l : Addr) (day : Int) (ps ks : List Str) (rs : List Road) (bars : List (Str × Str)), Same H H' → Parts H' l day ps ks rs bars → Fit day ks ps rs bars → rs ≠ [] → rs.length ≤ 9 → ps ≠ [] → Q (.ref l) H'

section
variable {P : Program} {w : World} {K : PySem.W.Frag} {mg : Str → Option Value} {base : Heap} {a : Adr}
theorem ok_lMap (T : Txt K mg a) : FnOk P w K mg base CX0 2 a.lMap.f a.lMap.fd ["_law_numbers_here", "_law_at"] spMap := by
  refine T.lMap.fn.ok sc_lMap (fun vs H Q E h => ?_) (fun cdv A outer s H vs Q E hr h => ?_)
  · obtain ⟨nl, ns, rfl, _⟩ := h
    rfl
  · obtain ⟨nl, ns, rfl, hn, hN, k⟩ := h
    have nd := sc_lMap.nd
    refine ⟨_, pss_cons (ps_set (i := 2) nd rfl (Or.inl rfl) (pe_ix ix_list (pe_lst (pa_cons pe_int (pa_cons pe_int (pa_cons pe_int (pa_cons pe_int (pa_cons pe_int (pa_cons pe_int (pa_cons pe_int (pa_cons pe_int pa_nil))))))))) (pe_op op_mod (pe_intc T.b_int (pe_ix ix_list (pv 0) (pv 1) (fun _ _ => rfl))) pe_int) (fun _ _ => rfl)))
      (pss_cons (ps_set (i := 3) nd rfl (Or.inl rfl) (pe_call (ok_names T) (hr.mono (by decide)) (by rfl) T.g_lNames T.lNames.fn.kp T.lNames.bd .nil pass0 (pa_cons (pe_ix ix_list (pv 0) (pe_op op_add (pv 1) pe_int) (fun _ _ => rfl)) (pa_cons (pe_op op_add pe_int (pe_op op_mod (pe_intc T.b_int (pe_ix ix_list (pv 0) (pe_op op_add (pv 1) pe_int) (fun _ _ => rfl))) pe_int)) pa_nil))))
      (pss_cons (ps_set (i := 4) nd rfl (Or.inl rfl) (pe_call (ok_names T) (hr.mono (by decide)) (by rfl) T.g_lNames T.lNames.fn.kp T.lNames.bd .nil pass0 (pa_cons (pe_ix ix_list (pv 0) (pe_op op_add (pv 1) pe_int) (fun _ _ => rfl)) (pa_cons (pe_op op_add pe_int (pe_op op_mod (pe_intc T.b_int (pe_ix ix_list (pv 0) (pe_op op_add (pv 1) pe_int) (fun _ _ => rfl))) pe_int)) pa_nil))))
      (pss_cons (ps_set (i := 5) nd rfl (Or.inl rfl) (pe_call (ok_names T) (hr.mono (by decide)) (by rfl) T.g_lNames T.lNames.fn.kp T.lNames.bd .nil pass0 (pa_cons (pe_ix ix_list (pv 0) (pe_op op_add (pv 1) pe_int) (fun _ _ => rfl)) (pa_cons pe_int pa_nil))))
      (pss_cons (ps_set (i := 6) nd rfl (Or.inl rfl) (pe_lst pa_nil))
      (pss_cons (ps_for PassesOwn.never rfl (pi_range1 (by rfl) T.b_range (pa_cons (pe_op op_add pe_int (pe_op op_mod (pe_intc T.b_int (pe_ix ix_list (pv 0) (pe_op op_add (pv 1) pe_int) (fun _ _ => rfl))) pe_int)) pa_nil)) (pg_name (i := 7) nd rfl (Or.inl rfl))
        (pss_cons (ps_set (i := 8) nd rfl (Or.inl rfl) (pe_op op_add (pe_op op_add (pv 1) pe_int) (pe_op op_mul pe_int (pv 7))))
        (pss_cons (ps_set (i := 9) nd rfl (Or.inl rfl) (pe_ix ix_list (pv 3) (pe_op op_mod (pe_intc T.b_int (pe_ix ix_list (pv 0) (pv 8) (fun _ _ => rfl))) (pe_callB call_len_seq (by rfl) T.b_len PySem.boot_len (pa_cons (pv 3) pa_nil))) (fun _ _ => rfl)))
        (pss_cons (ps_set (i := 10) nd rfl (Or.inl rfl) (pe_ix ix_list (pv 3) (pe_op op_mod (pe_intc T.b_int (pe_ix ix_list (pv 0) (pe_op op_add (pv 8) pe_int) (fun _ _ => rfl))) (pe_callB call_len_seq (by rfl) T.b_len PySem.boot_len (pa_cons (pv 3) pa_nil))) (fun _ _ => rfl)))
        (pss_cons (ps_set (i := 11) nd rfl (Or.inl rfl) (pe_op op_add pe_int (pe_op op_mod (pe_intc T.b_int (pe_ix ix_list (pv 0) (pe_op op_add (pv 8) pe_int) (fun _ _ => rfl))) pe_int)))
        (pss_cons (ps_if (pt_cmpR op_eq (pe_op op_mod (pe_intc T.b_int (pe_ix ix_list (pv 0) (pe_op op_add (pv 8) pe_int) (fun _ _ => rfl))) pe_int) pe_int (nomark _)) (pss_one (ps_set (i := 11) nd rfl (Or.inl rfl) (pe_op op_add pe_int (pe_op op_mod (pe_intc T.b_int (pe_op op_mul (pe_ix ix_list (pv 0) (pe_op op_add (pv 8) pe_int) (fun _ _ => rfl)) pe_int)) pe_int)))) pss_nil)
        (pss_cons (ps_set (i := 12) nd rfl (Or.inl rfl) (pe_call (ok_some T) (hr.mono (by decide)) (by rfl) T.g_lSome T.lSome.fn.kp T.lSome.bd .nil pass0 (pa_cons (pe_ix ix_list (pv 0) (pe_op op_add (pv 8) pe_int) (fun _ _ => rfl)) (pa_cons (pv 4) pa_nil))))
        (pss_cons (ps_if (pt_cmpR op_gt (pe_op op_mod (pe_intc T.b_int (pe_op op_fdiv (pe_ix ix_list (pv 0) (pe_op op_add (pv 8) pe_int) (fun _ _ => rfl)) pe_int)) pe_int) pe_int (nomark _)) (pss_one (ps_set (i := 12) nd rfl (Or.inl rfl) (pe_callTy call_tuple_of (by rfl) T.b_tuple (by decide +kernel) (pa_cons (pv 4) pa_nil)))) pss_nil)
        (pss_one (ps_expr (pe_bm PySem.F.plainAttrs_list PySem.F.slot_list_append PySem.F.type_list_append mt_append (pv 6) (pa_cons (pe_tup (pa_cons (pe_ix ix_list (pv 5) (pv 7) (fun _ _ => rfl)) (pa_cons (pv 9) (pa_cons (pv 10) (pa_cons (pv 11) (pa_cons (pv 12) (pa_cons
          (pe_call (ok_lHours T) (hr.mono (by decide)) (by rfl) T.g_lHours T.lHours.fn.kp T.lHours.bd .nil pass0 (pa_cons (pv 0) (pa_cons (pe_op op_add (pv 8) pe_int) (pa_cons (pv 2) pa_nil)))) pa_nil))))))) pa_nil))))))))))))
      (pss_cons (ps_set (i := 13) nd rfl (Or.inl rfl) (pe_lst pa_nil))
      (pss_cons (ps_set (i := 14) nd rfl (Or.inl rfl) (pe_ix ix_list (pv 0) (pe_op op_add (pv 1) pe_int) (fun _ _ => rfl)))
      (pss_cons (ps_for PassesOwn.never rfl (pi_list (pv 6)) (pg_name (i := 15) nd rfl (Or.inl rfl)) (pss_one (ps_for PassesOwn.never rfl (pi_list (pv 6)) (pg_name (i := 16) nd rfl (Or.inl rfl))
        (pss_one (ps_if (pt_cmpR op_eq (pe_ix ix_tup (pv 15) pe_int (fun _ _ => rfl)) (pe_ix ix_tup (pv 16) pe_int (fun _ _ => rfl)) (nomark _))
          (pss_cons (ps_if (pt_cmpR op_eq (pe_op op_mod (pe_intc T.b_int (pv 14)) pe_int) pe_int (nomark _)) (pss_one (ps_expr (pe_bm PySem.F.plainAttrs_list PySem.F.slot_list_append PySem.F.type_list_append mt_append (pv 13) (pa_cons (pe_tup (pa_cons (pe_ix ix_tup (pv 15) pe_int (fun _ _ => rfl)) (pa_cons (pe_ix ix_tup (pv 16) pe_int (fun _ _ => rfl)) pa_nil))) pa_nil)))) pss_nil)
            (pss_one (ps_set (i := 14) nd rfl (Or.inl rfl) (pe_op op_add (pe_op op_fdiv (pv 14) pe_int) (pe_op op_mul (pe_op op_mod (pe_intc T.b_int (pv 14)) pe_int) pe_int))))) pss_nil)))))
      (pss_one (ps_ret (pe_lst (pa_cons (pv 2) (pa_cons (pv 3) (pa_cons (pv 4) (pa_cons (pv 6) (pa_cons (pe_slice sl_list (pv 13) po_none (po_some pe_int)) pa_nil)))))))))))))))), ?_⟩
    have num : ∀ {H2 : Hp} {i : Int}, Same H H2 → 0 ≤ i → i < 120 → ∃ n, SqL K H2 nl (ns.map V.int) ∧ atI (ns.map V.int) i = some (.int n) ∧ 0 ≤ n ∧ n < 1009 := fun {H2 i} s2 h0 h1 => by
      obtain ⟨n, e, b⟩ := hN.at h0 h1
      exact ⟨n, SqL.of (s2 _ _ hn), e, b⟩
    -- _law_day
    refine ⟨(by show 8 ≤ sizeLine; decide), fun dl hdl => ?_⟩
    have s0 : Same H (upd H dl (.lst [.int 30, .int 12, .int 60, .int 1440, .int 7, .int 24, .int 1, .int 100])) := Same.new hdl
    obtain ⟨n0, q0, e0, b0⟩ := num (i := 0) s0 (by decide) (by decide)
    obtain ⟨day, hday, hd1, hd2⟩ := day_at (i := n0 % 8) (by omega) (by omega)
    refine ⟨_, rfl, _, rfl, nl, _, _, _, rfl, rfl, q0, e0, .inl ⟨_, rfl, _, _, rfl, rfl, (by show (0 : Int) < _; decide), dl, _, _, _, rfl, rfl, SqL.of upd_same, hday, ?_⟩⟩
    generalize upd H dl (.lst [.int 30, .int 12, .int 60, .int 1440, .int 7, .int 24, .int 1, .int 100]) = H0 at s0
    clear hday hdl q0 e0 b0
    -- _law_places
    obtain ⟨n1, q1, e1, b1⟩ := num (i := 0 + 1) s0 (by decide) (by decide)
    obtain ⟨n2, q2, e2, b2⟩ := num (i := 0 + 2) s0 (by decide) (by decide)
    refine ⟨_, rfl, _, rfl, _, _, rfl, rfl, nl, _, _, _, rfl, rfl, q1, e1, _, rfl, _, rfl, _, _, rfl, rfl, nl, _, _, _, rfl, rfl, q2, e2, .inl ⟨_, rfl, _, _, rfl, rfl, (by show (0 : Int) < _; decide), _, _, rfl, rfl, ?_⟩⟩
    refine ⟨n1, 2 + n2 % 4, rfl, b1.1, b1.2, by omega, by omega, fun H1 pp ps s1 hpp0 hpp hpsl hpsn hpsd => ?_⟩
    have sA := s0.trans s1
    clear q1 e1 q2 e2
    -- _law_kinds
    obtain ⟨n3, q3, e3, b3⟩ := num (i := 0 + 3) sA (by decide) (by decide)
    obtain ⟨n4, q4, e4, b4⟩ := num (i := 0 + 4) sA (by decide) (by decide)
    refine ⟨_, rfl, _, rfl, _, _, rfl, rfl, nl, _, _, _, rfl, rfl, q3, e3, _, rfl, _, rfl, _, _, rfl, rfl, nl, _, _, _, rfl, rfl, q4, e4, .inl ⟨_, rfl, _, _, rfl, rfl, (by show (0 : Int) < _; decide), _, _, rfl, rfl, ?_⟩⟩
    refine ⟨n3, 1 + n4 % 3, rfl, b3.1, b3.2, by omega, by omega, fun H2 pk ks s2 hpk0 hpk hksl hksn hksd => ?_⟩
    have sB := sA.trans s2
    have hppB := s2 _ _ hpp
    clear q3 e3 q4 e4
    -- _law_names_here
    obtain ⟨n5, q5, e5, b5⟩ := num (i := 0 + 5) sB (by decide) (by decide)
    refine ⟨_, rfl, _, rfl, _, _, rfl, rfl, nl, _, _, _, rfl, rfl, q5, e5, ?_⟩
    refine ⟨n5, 9, rfl, b5.1, b5.2, by decide, by decide, fun H3 pn ss s3 hpn0 hpn hssl hssn hssd => ?_⟩
    have sC := sB.trans s3
    have hppC := s3 _ _ hppB
    have hpkC := s3 _ _ hpk
    clear q5 e5 hppB hpk hpp
    have hps0 : ps ≠ [] := fun e => by rw [e] at hpsl; change (0 : Int) = _ at hpsl; omega
    -- _law_roads = []
    refine ⟨(by show 0 ≤ sizeLine; decide), fun rl hrl => ?_⟩
    have sD : Same H (upd H3 rl (.lst [])) := sC.trans (Same.new hrl)
    obtain ⟨n6, q6, e6, b6⟩ := num (i := 0 + 6) sD (by decide) (by decide)
    refine ⟨_, rfl, _, rfl, _, _, rfl, rfl, nl, _, _, _, rfl, rfl, q6, e6, .inl ⟨_, rfl, _, _, rfl, rfl, (by show (0 : Int) < _; decide), _, _, rfl, rfl, _, rfl, (by omega), (by omega), ?_⟩⟩
    have hcnt : (1 + n6 % 9).toNat ≤ 9 ∧ 1 ≤ (1 + n6 % 9).toNat := by omega
    generalize (1 + n6 % 9).toNat = cnt at hcnt
    clear q6 e6 sD
    refine for_range (lo := 0) (n := cnt) (fun i σ H4 => ∃ (z7 z8 z9 z10 z11 z12 : Option V) (us : List V) (rs : List Road), σ = [some (.ref nl), some (.int 0), some (.int day), some (.ref pp), some (.ref pk), some (.ref pn), some (.ref rl), z7, z8, z9, z10, z11, z12, none, none, none, none] ∧
      Same H3 H4 ∧ H4 rl = some (.lst us) ∧ Paired (RoadV H4) us rs ∧ rs.length = i ∧ (∀ r ∈ rs, RoadFit day ps ks r) ∧ rs.map (·.name) = ss.take i) ⟨none, none, none, none, none, none, [], [], rfl, Same.new hrl, upd_same, .nil, rfl, fun r hr => (by cases hr), rfl⟩ ?_ ?_
    · rintro i σ H4 hi ⟨z7, z8, z9, z10, z11, z12, us, rs, rfl, s4, hrl4, hR, hlen, hfit, hnm⟩
      have sE := sC.trans s4
      have hi9 : i < 9 := by omega
      have hppE := s4 _ _ hppC
      have hpkE := s4 _ _ hpkC
      have hpnE := s4 _ _ hpn
      obtain ⟨nm, hnm1, hnm2, hnm3⟩ := str_at (ss := ss) (i := 0 + (i : Int)) (by omega) (by omega)
      have hnm3 : ss[i]? = some nm := by
        have : (0 + (i : Int)).toNat = i := by omega
        rw [this] at hnm3
        exact hnm3
      -- _law_spot
      refine ⟨_, rfl, _, _, rfl, rfl, _, rfl, _, _, rfl, rfl, .inl ⟨by decide, by decide⟩, _, _, rfl, rfl, ?_⟩
      obtain ⟨sp, hsp, hsp0, hsp1⟩ : ∃ sp : Int, 0 + 10 + 9 * (0 + (i : Int)) = sp ∧ 10 ≤ sp ∧ sp ≤ 82 := ⟨_, rfl, by omega, by omega⟩
      show gName 8 (V.int (0 + 10 + 9 * (0 + (i : Int)))) _ _ _
      rw [hsp]
      clear hsp
      -- _law_start, _law_end
      obtain ⟨m0, w0, f0, c0⟩ := num (i := sp) sE (by omega) (by omega)
      obtain ⟨m1, w1, f1, c1⟩ := num (i := sp + 1) sE (by omega) (by omega)
      obtain ⟨m2, w2, f2, c2⟩ := num (i := sp + 2) sE (by omega) (by omega)
      obtain ⟨m3, w3, f3, c3⟩ := num (i := sp + 3) sE (by omega) (by omega)
      obtain ⟨st, hst, hstm⟩ := mod_str hps0 m0
      obtain ⟨en, hen, henm⟩ := mod_str hps0 m1
      have hpl0 : (0 : Int) < ((ps.map V.str).length : Int) := by
        have := List.length_pos_iff.mpr hps0
        rw [List.length_map]
        omega
      refine ⟨_, rfl, _, rfl, _, rfl, nl, _, _, _, rfl, rfl, w0, f0, .inl ⟨_, rfl, _, rfl, pp, _, rfl, .inl (SqL.of hppE), _, _, rfl, rfl, hpl0, pp, _, _, _, rfl, rfl, SqL.of hppE, hst, ?_⟩⟩
      refine ⟨_, rfl, _, rfl, _, rfl, _, _, rfl, rfl, nl, _, _, _, rfl, rfl, w1, f1, .inl ⟨_, rfl, _, rfl, pp, _, rfl, .inl (SqL.of hppE), _, _, rfl, rfl, hpl0, pp, _, _, _, rfl, rfl, SqL.of hppE, hen, ?_⟩⟩
      -- _law_minutes
      refine ⟨_, rfl, _, rfl, _, _, rfl, rfl, nl, _, _, _, rfl, rfl, w2, f2, .inl ⟨_, rfl, _, _, rfl, rfl, (by show (0 : Int) < _; decide), _, _, rfl, rfl, ?_⟩⟩
      refine ⟨_, rfl, _, rfl, _, _, rfl, rfl, nl, _, _, _, rfl, rfl, w2, f2, .inl ⟨_, rfl, _, _, rfl, rfl, (by show (0 : Int) < _; decide), rfl, _, rfl, ?_⟩⟩
      have fin : ∀ (H5 : Hp) (t : Addr) (xs : List Str) (mins : Int), Same H4 H5 → H5 t = some (.tup (xs.map V.str)) → xs.Nodup → (∀ x ∈ xs, x ∈ ks) → 1 ≤ mins → mins ≤ 1000 → ∀ (H6 : Hp) (v : V) (ho : Option (List (Int × Int))), Same H5 H6 → HoursV H6 v ho → WP.HoursOk' day ho → (∀ ps, ho = some ps → ps.length ≤ 4) →
          ∀ u, H6 u = none → ∃ (z7 z8 z9 z10 z11 z12 : Option V) (us' : List V) (rs' : List Road), [some (V.ref nl), some (.int 0), some (.int day), some (.ref pp), some (.ref pk), some (.ref pn), some (.ref rl), some (.int (0 + (i : Int))), some (.int sp), some (.str st), some (.str en), some (.int mins), some (.ref t), none, none, none, none] =
            [some (V.ref nl), some (.int 0), some (.int day), some (.ref pp), some (.ref pk), some (.ref pn), some (.ref rl), z7, z8, z9, z10, z11, z12, none, none, none, none] ∧
            Same H3 (upd (upd H6 u (.tup [.str nm, .str st, .str en, .int mins, .ref t, v])) rl (.lst (us ++ [.ref u]))) ∧ (upd (upd H6 u (.tup [.str nm, .str st, .str en, .int mins, .ref t, v])) rl (.lst (us ++ [.ref u]))) rl = some (.lst us') ∧
            Paired (RoadV (upd (upd H6 u (.tup [.str nm, .str st, .str en, .int mins, .ref t, v])) rl (.lst (us ++ [.ref u])))) us' rs' ∧ rs'.length = i + 1 ∧ (∀ r ∈ rs', RoadFit day ps ks r) ∧ rs'.map (·.name) = ss.take (i + 1) :=
        fun H5 t xs mins s5 ht hxn hxk hm1 hm2 H6 v ho s6 hv hho hfew u hu => by
        have s46 := s5.trans s6
        have hrl6 := s46 _ _ hrl4
        have hrl7 : (upd H6 u (.tup [.str nm, .str st, .str en, .int mins, .ref t, v])) rl = some (.lst us) := by rw [upd_ne (ne_of_none hrl6 hu)]; exact hrl6
        have tup : Tups H6 (upd (upd H6 u (.tup [.str nm, .str st, .str en, .int mins, .ref t, v])) rl (.lst (us ++ [.ref u]))) := Tups.trans (Tups.new hu) (Tups.set hrl7 fun xs z => by cases z)
        refine ⟨_, _, _, _, _, _, us ++ [.ref u], rs ++ [⟨nm, st, en, mins, xs, ho⟩], rfl, fun b o e => ?_, upd_same, ?_, (by rw [List.length_append, hlen]; rfl), fun r hr => ?_, ?_⟩
        · have h1 := s46 _ _ (s4 _ _ e)
          rw [upd_ne (ne_of_none e hrl), upd_ne (ne_of_none h1 hu)]
          exact h1
        · refine Paired.app (roads_up (Tups.trans (.of s46) tup) hR) (Paired.one ⟨u, t, v, rfl, ?_, tup _ _ (s6 _ _ ht), hv.up tup⟩)
          rw [upd_ne (ne_of_none hrl6 hu).symm, upd_same]
        · rcases List.mem_append.mp hr with hr | hr
          · exact hfit r hr
          · have e : r = ⟨nm, st, en, mins, xs, ho⟩ := by simpa using hr
            subst e
            exact ⟨hssn nm hnm2, hstm, henm, ⟨hm1, hm2⟩, hxn, hxk, hho, hfew⟩
        · rw [List.map_append, hnm, take_snoc hnm3]
          rfl
      have used : ∀ (H5 : Hp) (t : Addr) (xs : List Str), Same H4 H5 → xs.Sublist ks → xs.Nodup ∧ ∀ x ∈ xs, x ∈ ks := fun H5 t xs _ hsub => ⟨hksd.sublist hsub, fun x hx => hsub.subset hx⟩
      have sz7 : us.length < sizeLine := size60 (by have := hR.length; omega)
      refine ite2 (fun _ => ?_) (fun _ => ?_)
      · refine ⟨_, rfl, _, rfl, _, _, rfl, rfl, nl, _, _, _, rfl, rfl, w2, f2, _, _, rfl, rfl, .inr ⟨by decide, by decide⟩, .inl ⟨_, rfl, _, _, rfl, rfl, (by show (0 : Int) < _; decide), _, _, rfl, rfl, ?_⟩⟩
        refine ⟨_, rfl, _, rfl, _, _, rfl, rfl, nl, _, _, _, rfl, rfl, w3, f3, _, rfl, m3, pk, ks, rfl, hpkE, by omega, fun H5 t xs s5 ht hsub => ?_⟩
        obtain ⟨hx1, hx2⟩ := used H5 t xs s5 hsub
        obtain ⟨m3', w3', f3', c3'⟩ := num (i := sp + 3) (sE.trans s5) (by omega) (by omega)
        refine ⟨_, rfl, _, rfl, _, _, rfl, rfl, nl, _, _, _, rfl, rfl, w3', f3', _, _, rfl, rfl, ⟨by decide, by decide⟩, .inl ⟨_, rfl, _, _, rfl, rfl, (by show (0 : Int) < _; decide), _, _, rfl, rfl, _, rfl, ?_⟩⟩
        refine ite2 (fun _ => ?_) (fun _ => ?_)
        · refine ⟨_, rfl, pk, _, rfl, .inl ⟨SqL.of (s5 _ _ hpkE), fun t2 ht2 => ?_⟩⟩
          have s6 : Same H4 (upd H5 t2 (.tup (ks.map V.str))) := s5.trans (Same.new ht2)
          refine ⟨_, rfl, .inl ⟨rfl, _, SqL.of (s6 _ _ hrl4)⟩, _, rfl, _, rfl, pn, _, _, _, rfl, rfl, SqL.of (s6 _ _ hpnE), hnm1, _, rfl, _, rfl, _, rfl, _, rfl, _, rfl, _, rfl, _, _, rfl, rfl, _, rfl, nl, ns, sp + 4, day, rfl, (sE.trans s6) _ _ hn, hN, by omega, by omega, hd1, fun H7 v ho s7 hv hho hfew => ?_⟩
          refine ⟨(by show 6 ≤ sizeLine; decide), fun u hu => ?_⟩
          refine ⟨rl, _, _, rfl, rfl, (by rw [upd_ne (ne_of_none ((s6.trans s7) _ _ hrl4) hu)]; exact (s6.trans s7) _ _ hrl4), sz7, ?_⟩
          exact fin _ t2 ks _ s6 upd_same hksd (fun x hx => hx) (by omega) (by omega) H7 v ho s7 hv hho hfew u hu
        · refine ⟨_, rfl, .inl ⟨rfl, _, SqL.of (s5 _ _ hrl4)⟩, _, rfl, _, rfl, pn, _, _, _, rfl, rfl, SqL.of (s5 _ _ hpnE), hnm1, _, rfl, _, rfl, _, rfl, _, rfl, _, rfl, _, rfl, _, _, rfl, rfl, _, rfl, nl, ns, sp + 4, day, rfl, (sE.trans s5) _ _ hn, hN, by omega, by omega, hd1, fun H7 v ho s7 hv hho hfew => ?_⟩
          refine ⟨(by show 6 ≤ sizeLine; decide), fun u hu => ?_⟩
          refine ⟨rl, _, _, rfl, rfl, (by rw [upd_ne (ne_of_none ((s5.trans s7) _ _ hrl4) hu)]; exact (s5.trans s7) _ _ hrl4), sz7, ?_⟩
          exact fin _ t xs _ s5 ht hx1 hx2 (by omega) (by omega) H7 v ho s7 hv hho hfew u hu
      · refine ⟨_, rfl, _, rfl, _, _, rfl, rfl, nl, _, _, _, rfl, rfl, w3, f3, _, rfl, m3, pk, ks, rfl, hpkE, by omega, fun H5 t xs s5 ht hsub => ?_⟩
        obtain ⟨hx1, hx2⟩ := used H5 t xs s5 hsub
        obtain ⟨m3', w3', f3', c3'⟩ := num (i := sp + 3) (sE.trans s5) (by omega) (by omega)
        refine ⟨_, rfl, _, rfl, _, _, rfl, rfl, nl, _, _, _, rfl, rfl, w3', f3', _, _, rfl, rfl, ⟨by decide, by decide⟩, .inl ⟨_, rfl, _, _, rfl, rfl, (by show (0 : Int) < _; decide), _, _, rfl, rfl, _, rfl, ?_⟩⟩
        refine ite2 (fun _ => ?_) (fun _ => ?_)
        · refine ⟨_, rfl, pk, _, rfl, .inl ⟨SqL.of (s5 _ _ hpkE), fun t2 ht2 => ?_⟩⟩
          have s6 : Same H4 (upd H5 t2 (.tup (ks.map V.str))) := s5.trans (Same.new ht2)
          refine ⟨_, rfl, .inl ⟨rfl, _, SqL.of (s6 _ _ hrl4)⟩, _, rfl, _, rfl, pn, _, _, _, rfl, rfl, SqL.of (s6 _ _ hpnE), hnm1, _, rfl, _, rfl, _, rfl, _, rfl, _, rfl, _, rfl, _, _, rfl, rfl, _, rfl, nl, ns, sp + 4, day, rfl, (sE.trans s6) _ _ hn, hN, by omega, by omega, hd1, fun H7 v ho s7 hv hho hfew => ?_⟩
          refine ⟨(by show 6 ≤ sizeLine; decide), fun u hu => ?_⟩
          refine ⟨rl, _, _, rfl, rfl, (by rw [upd_ne (ne_of_none ((s6.trans s7) _ _ hrl4) hu)]; exact (s6.trans s7) _ _ hrl4), sz7, ?_⟩
          exact fin _ t2 ks _ s6 upd_same hksd (fun x hx => hx) (by omega) (by omega) H7 v ho s7 hv hho hfew u hu
        · refine ⟨_, rfl, .inl ⟨rfl, _, SqL.of (s5 _ _ hrl4)⟩, _, rfl, _, rfl, pn, _, _, _, rfl, rfl, SqL.of (s5 _ _ hpnE), hnm1, _, rfl, _, rfl, _, rfl, _, rfl, _, rfl, _, rfl, _, _, rfl, rfl, _, rfl, nl, ns, sp + 4, day, rfl, (sE.trans s5) _ _ hn, hN, by omega, by omega, hd1, fun H7 v ho s7 hv hho hfew => ?_⟩
          refine ⟨(by show 6 ≤ sizeLine; decide), fun u hu => ?_⟩
          refine ⟨rl, _, _, rfl, rfl, (by rw [upd_ne (ne_of_none ((s5.trans s7) _ _ hrl4) hu)]; exact (s5.trans s7) _ _ hrl4), sz7, ?_⟩
          exact fin _ t xs _ s5 ht hx1 hx2 (by omega) (by omega) H7 v ho s7 hv hho hfew u hu
    · rintro σ H4 ⟨z7, z8, z9, z10, z11, z12, us, rs, rfl, s4, hrl4, hR, hlen, hfit, hnm⟩
      have sE := sC.trans s4
      have hppE := s4 _ _ hppC
      have hpkE := s4 _ _ hpkC
      have hul := hR.length
      have hnn : (rs.map (·.name)).Nodup := by rw [hnm]; exact hssd.sublist (List.take_sublist _ _)
      -- _law_bars = []; _law_rest
      refine ⟨(by show 0 ≤ sizeLine; decide), fun bl hbl => ?_⟩
      obtain ⟨m7, w7, f7, c7⟩ := num (i := 0 + 7) (sE.trans (Same.new (o := .lst []) hbl)) (by decide) (by decide)
      refine ⟨_, rfl, _, rfl, _, _, rfl, rfl, nl, _, _, _, rfl, rfl, w7, f7, ?_⟩
      have hrlbl : rl ≠ bl := ne_of_none hrl4 hbl
      refine ⟨_, rfl, rl, rfl, ⟨_, SqL.of ((Same.new hbl) _ _ hrl4)⟩, for_list (K := K) (a := rl) (xs := us) (fun i σ H5 => ∃ (z15 z16 : Option V) (rest : Int) (bs : List V) (bars : List (Str × Str)), σ = [some (.ref nl), some (.int 0), some (.int day), some (.ref pp), some (.ref pk), some (.ref pn), some (.ref rl), z7, z8, z9, z10, z11, z12, some (.ref bl), some (.int rest), z15, z16] ∧
        Same H4 H5 ∧ H5 bl = some (.lst bs) ∧ Paired (HV.hv H5) bs bars ∧ bars.Sublist (prod2 ((rs.take i).map (·.name)) (rs.map (·.name))) ∧ ∀ b ∈ bars, ∃ r1 ∈ rs, ∃ r2 ∈ rs, r1.name = b.1 ∧ r2.name = b.2 ∧ r1.stop = r2.start)
        ⟨none, none, _, [], [], rfl, Same.new hbl, upd_same, .nil, List.Sublist.refl _, fun b hb => (by cases hb)⟩ (fun i σ H5 _ ⟨_, _, _, _, _, _, s5, _⟩ => SqL.of (s5 _ _ hrl4)) ?_ ?_⟩
      · rintro i x σ H5 hx ⟨z15, z16, rest, bs, bars, rfl, s5, hbl5, hB, hsub, hok⟩
        obtain ⟨r1, hr1, hv1⟩ := Paired.at hR hx
        obtain ⟨a1, k1, hh1, rfl, ha1, _⟩ := hv1
        have hi9 := (List.getElem?_eq_some_iff.mp hr1).1
        refine ⟨_, rfl, rl, rfl, ⟨_, SqL.of (s5 _ _ hrl4)⟩, for_list (K := K) (a := rl) (xs := us) (fun j σ H6 => ∃ (z16 : Option V) (rest : Int) (bs : List V) (bars : List (Str × Str)), σ = [some (.ref nl), some (.int 0), some (.int day), some (.ref pp), some (.ref pk), some (.ref pn), some (.ref rl), z7, z8, z9, z10, z11, z12, some (.ref bl), some (.int rest), some (.ref a1), z16] ∧
          Same H4 H6 ∧ H6 bl = some (.lst bs) ∧ Paired (HV.hv H6) bs bars ∧ bars.Sublist (prod2 ((rs.take i).map (·.name)) (rs.map (·.name)) ++ ((rs.take j).map (·.name)).map fun y => (r1.name, y)) ∧ ∀ b ∈ bars, ∃ r1 ∈ rs, ∃ r2 ∈ rs, r1.name = b.1 ∧ r2.name = b.2 ∧ r1.stop = r2.start)
          ⟨_, _, bs, bars, rfl, s5, hbl5, hB, (by simpa using hsub), hok⟩ (fun j σ H6 _ ⟨_, _, _, _, _, s6, _⟩ => SqL.of (s6 _ _ hrl4)) ?_ ?_⟩
        · rintro j y σ H6 hy ⟨z16', rest, bs, bars, rfl, s6, hbl6, hB6, hsub6, hok6⟩
          obtain ⟨r2, hr2, hv2⟩ := Paired.at hR hy
          obtain ⟨a2, k2, hh2, rfl, ha2, _⟩ := hv2
          have hj9 := (List.getElem?_eq_some_iff.mp hr2).1
          have hbl81 : bs.length ≤ 200 := by
            have h1 := hB6.length
            have h2 := hsub6.length_le
            rw [List.length_append, prod2_len, List.length_map, List.length_map, List.length_map, List.length_take, List.length_map, List.length_take] at h2
            have h3 : min i rs.length * rs.length ≤ 9 * 9 := Nat.mul_le_mul (by omega) (by omega)
            omega
          have snoc : (rs.take (j + 1)).map (·.name) = (rs.take j).map (·.name) ++ [r2.name] := by rw [take_snoc hr2, List.map_append]; rfl
          have keep : bars.Sublist (prod2 ((rs.take i).map (·.name)) (rs.map (·.name)) ++ ((rs.take (j + 1)).map (·.name)).map fun y => (r1.name, y)) := by
            rw [snoc, List.map_append, ← List.append_assoc]
            exact hsub6.trans (List.sublist_append_left _ _)
          refine ⟨_, rfl, a1, _, 2, _, rfl, rfl, SqT.of (s6 _ _ ha1), atI_nat (j := 2) rfl, _, rfl, a2, _, 1, _, rfl, rfl, SqT.of (s6 _ _ ha2), atI_nat (j := 1) rfl, rfl, _, rfl, ?_⟩
          refine ite2 (fun hc => ?_) (fun hc => ?_)
          · have hst : r1.stop = r2.start := by simpa using hc
            refine ⟨_, rfl, .inl ⟨_, rfl, _, _, rfl, rfl, (by show (0 : Int) < _; decide), rfl, _, rfl, ?_⟩⟩
            refine ite2 (fun _ => ?_) (fun _ => ?_)
            · refine ⟨_, rfl, .inl ⟨rfl, _, SqL.of hbl6⟩, _, rfl, a1, _, 0, _, rfl, rfl, SqT.of (s6 _ _ ha1), atI_nat (j := 0) rfl, _, rfl, a2, _, 0, _, rfl, rfl, SqT.of (s6 _ _ ha2), atI_nat (j := 0) rfl, (by show 2 ≤ sizeLine; decide), fun u hu => ?_⟩
              have hbl7 : (upd H6 u (.tup [.str r1.name, .str r2.name])) bl = some (.lst bs) := by rw [upd_ne (ne_of_none hbl6 hu)]; exact hbl6
              refine ⟨bl, _, _, rfl, rfl, hbl7, size60 (by omega), ?_⟩
              refine ⟨_, rfl, _, _, rfl, rfl, ⟨by decide, by decide⟩, _, rfl, .inl ⟨_, rfl, _, _, rfl, rfl, (by show (0 : Int) < _; decide), _, _, rfl, rfl, .inr ⟨by decide, by decide⟩, _, _, rfl, rfl, ?_⟩⟩
              have tup : Tups H6 (upd (upd H6 u (.tup [.str r1.name, .str r2.name])) bl (.lst (bs ++ [.ref u]))) := Tups.trans (Tups.new hu) (Tups.set hbl7 fun xs z => by cases z)
              refine ⟨_, _, bs ++ [.ref u], bars ++ [(r1.name, r2.name)], rfl, fun b o e => ?_, upd_same, ?_, ?_, fun b hb => ?_⟩
              · have h1 := s6 _ _ e
                rw [upd_ne (ne_of_none e hbl), upd_ne (ne_of_none h1 hu)]
                exact h1
              · refine Paired.app (hvs_up tup hB6) (Paired.one ⟨u, _, _, rfl, ?_, rfl, rfl⟩)
                rw [upd_ne (ne_of_none hbl6 hu).symm, upd_same]
              · rw [snoc, List.map_append, ← List.append_assoc]
                exact hsub6.append (List.Sublist.refl _)
              · rcases List.mem_append.mp hb with hb | hb
                · exact hok6 b hb
                · have e : b = (r1.name, r2.name) := by simpa using hb
                  subst e
                  exact ⟨r1, List.mem_of_getElem? hr1, r2, List.mem_of_getElem? hr2, rfl, rfl, hst⟩
            · refine ⟨_, rfl, _, _, rfl, rfl, ⟨by decide, by decide⟩, _, rfl, .inl ⟨_, rfl, _, _, rfl, rfl, (by show (0 : Int) < _; decide), _, _, rfl, rfl, .inr ⟨by decide, by decide⟩, _, _, rfl, rfl, ?_⟩⟩
              exact ⟨_, _, bs, bars, rfl, s6, hbl6, hB6, keep, hok6⟩
          · exact ⟨_, _, bs, bars, rfl, s6, hbl6, hB6, keep, hok6⟩
        · rintro σ H6 ⟨z16', rest, bs, bars, rfl, s6, hbl6, hB6, hsub6, hok6⟩
          rw [hul, List.take_length] at hsub6
          refine ⟨_, _, _, bs, bars, rfl, s6, hbl6, hB6, ?_, hok6⟩
          rw [take_snoc hr1, List.map_append]
          show bars.Sublist (prod2 (List.map (fun x => x.name) (List.take i rs) ++ [r1.name]) _)
          rw [prod2_snoc]
          exact hsub6
      · rintro σ H5 ⟨z15, z16, rest, bs, bars, rfl, s5, hbl5, hB, hsub, hok⟩
        rw [hul, List.take_length] at hsub
        refine ⟨_, rfl, _, rfl, _, rfl, _, rfl, _, rfl, 40, rfl, bl, _, rfl, SqL.of hbl5, fun cl hcl => ?_⟩
        have ecut : cutV bs none (some (40 : Int)) = bs.take 40 := cut_take bs 40
        rw [ecut]
        refine ⟨(by show 5 ≤ sizeLine; decide), fun l hl => ?_⟩
        have s6 : Same H5 (upd H5 cl (.lst (bs.take 40))) := Same.new hcl
        have s7 : Same (upd H5 cl (.lst (bs.take 40))) (upd (upd H5 cl (.lst (bs.take 40))) l (.lst [.int day, .ref pp, .ref pk, .ref rl, .ref cl])) := Same.new hl
        have s57 := s6.trans s7
        have s47 := s5.trans s57
        refine k _ l day ps ks rs (bars.take 40) (sE.trans s47) ⟨pp, pk, rl, cl, us, bs.take 40, upd_same, s47 _ _ hppE, s47 _ _ hpkE, s47 _ _ hrl4, roads_up (.of s47) hR, s7 _ _ upd_same, hvs_up (.of s57) (Paired.tk 40 hB)⟩
          ⟨⟨hd1, hd2⟩, ⟨by omega, hpsd, hpsn⟩, ⟨by omega, by omega, hksd, hksn⟩, ⟨by omega, hfit⟩, hnn, ?_, ?_, fun b hb => hok b (List.mem_of_mem_take hb)⟩ (fun e => by rw [e] at hlen; change 0 = _ at hlen; omega) (by omega) hps0
        · rw [List.length_take]
          omega
        · exact ((prod2_nodup hnn hnn).sublist hsub).sublist (List.take_sublist _ _)
end
end K17

set_option Elab.async false
set_option linter.all false
set_option maxRecDepth 100000
set_option maxHeartbeats 4000000
/-! _law_made. -/
namespace K17
open PySem L2 WR

def spMade (C : Addr) : Sp := fun vs H Q _ => ∃ (l : Addr) (day : Int) (ps ks : List Str) (rs : List Road) (bars : List (Str × Str)), vs = [.ref l] ∧ Parts H l day ps ks rs bars ∧ Fit day ks ps rs bars ∧
  ∀ (H' : Hp) (p : Addr) (c : Chart), Same H H' → ChartAt C H' p c → Made day ks ps rs bars c → Q (.ref p) H'

theorem five {α : Type} {ws : List α} {n : Nat} (h : ws.length = n) (hn : n = 5) : ∃ a b c d e, ws = [a, b, c, d, e] := by
  subst hn
  match ws, h with
  | [a, b, c, d, e], _ => exact ⟨a, b, c, d, e, rfl⟩
section
variable {P : Program} {w : World} {K : PySem.W.Frag} {mg : Str → Option Value} {base : Heap} {a : Adr}
theorem kb_mInit (T : Txt K mg a) : KBn K a.mInit.fd ["self", "day", "kinds", "places", "roads", "bars"] 1 ["day", "kinds", "places", "roads", "bars"] (fun us ws => us ++ ws) (fun vs zs => vs ++ zs) := by
  obtain ⟨oc, od, kV, doc, pm, an, cdv, ct, osl, e, lk, hcd⟩ := T.mInit.ex
  rw [e]
  refine ⟨fun s us ws X l1 l2 => ?_, fun r1 r2 => r1.append r2⟩
  obtain ⟨b, c, d, e, f, rfl⟩ := five l2 rfl
  match us, l1 with
  | [u], _ => exact BindsTo.of_looks fun M => .of_pure rfl
theorem ok_lMade (T : Txt K mg a) : FnOk P w K mg base CX0 6 a.lMade.f a.lMade.fd ["_law_parts"] (spMade a.cM) := by
  refine T.lMade.fn.ok sc_lMade (fun vs H Q E h => ?_) (fun cdv A outer s H vs Q E hr h => ?_)
  · obtain ⟨l, day, ps, ks, rs, bars, rfl, _⟩ := h
    rfl
  · obtain ⟨l, day, ps, ks, rs, bars, rfl, hP, fit, kq⟩ := h
    have nd := sc_lMade.nd
    refine ⟨_, pss_cons (ps_asg (pv 0) (pg_unl rfl (pgs_cons (pg_name (i := 1) nd rfl (Or.inl rfl)) (pgs_cons (pg_name (i := 2) nd rfl (Or.inl rfl)) (pgs_cons (pg_name (i := 3) nd rfl (Or.inl rfl)) (pgs_cons (pg_name (i := 4) nd rfl (Or.inl rfl)) (pgs_cons (pg_name (i := 5) nd rfl (Or.inl rfl)) pgs_nil)))))))
      (pss_one (ps_ret (pe_makeK0 T.mkM (ok_mInit T) hr (by rfl) T.gMap (kb_mInit T) pass0 (pk_cons (pv 1) (pk_cons (pe_callTy call_list_of (by rfl) T.b_list (by decide +kernel) (pa_cons (pv 3) pa_nil)) (pk_cons (pe_callTy call_list_of (by rfl) T.b_list (by decide +kernel) (pa_cons (pv 2) pa_nil))
        (pk_cons (pe_callTy call_list_of (by rfl) T.b_list (by decide +kernel) (pa_cons (pv 4) pa_nil)) (pk_cons (pe_callTy call_list_of (by rfl) T.b_list (by decide +kernel) (pa_cons (pv 5) pa_nil)) pk_nil)))))))), ?_⟩
    obtain ⟨pp, pk, pr, pb, us, bs, h1, h2, h3, h4, h5, h6, h7⟩ := hP
    refine ⟨_, rfl, l, _, rfl, SqL.of h1, rfl, _, _, rfl, _, _, rfl, _, _, rfl, _, _, rfl, _, _, rfl, rfl, ?_⟩
    refine ⟨_, rfl, ?_⟩
    refine ⟨_, rfl, pk, _, rfl, .inl (SqL.of h3), fun k1 hk1 => ?_⟩
    have s1 : Same H (upd H k1 (.lst (ks.map V.str))) := Same.new hk1
    have e1 : (upd H k1 (.lst (ks.map V.str))) k1 = some (.lst (ks.map V.str)) := upd_same
    generalize upd H k1 (.lst (ks.map V.str)) = H1 at s1 e1
    refine ⟨_, rfl, pp, _, rfl, .inl (SqL.of (s1 _ _ h2)), fun p1 hp1 => ?_⟩
    have s2 : Same H1 (upd H1 p1 (.lst (ps.map V.str))) := Same.new hp1
    have e2 : (upd H1 p1 (.lst (ps.map V.str))) p1 = some (.lst (ps.map V.str)) := upd_same
    generalize upd H1 p1 (.lst (ps.map V.str)) = H2 at s2 e2
    have t2 := s1.trans s2
    refine ⟨_, rfl, pr, _, rfl, .inl (SqL.of (t2 _ _ h4)), fun r1 hr1 => ?_⟩
    have s3 : Same H2 (upd H2 r1 (.lst us)) := Same.new hr1
    have e3 : (upd H2 r1 (.lst us)) r1 = some (.lst us) := upd_same
    generalize upd H2 r1 (.lst us) = H3 at s3 e3
    have t3 := t2.trans s3
    refine ⟨_, rfl, pb, _, rfl, .inl (SqL.of (t3 _ _ h6)), fun b1 hb1 => ?_⟩
    have s4 : Same H3 (upd H3 b1 (.lst bs)) := Same.new hb1
    have e4 : (upd H3 b1 (.lst bs)) b1 = some (.lst bs) := upd_same
    generalize upd H3 b1 (.lst bs) = H4 at s4 e4
    have t4 := t3.trans s4
    refine ⟨rfl, rfl, fun x dx hx hdx hne => ?_⟩
    have sx : Same H4 (upd (upd H4 dx (.own x)) x (.ins a.cM dx [])) := Same.put (Same.new hdx) hx
    have t5 := t4.trans sx
    have s34 := s4.trans sx
    have s24 := s3.trans s34
    refine ⟨x, dx, k1, p1, r1, b1, day, ks, ps, us, rs, bs, bars, rfl, upd_same, (s2.trans s24) _ _ e1, s24 _ _ e2, s34 _ _ e3, roads_up (.of t5) h5, sx _ _ e4, hvs_up (.of t5) h7, fit, fun H' c bt hC made => ⟨rfl, ?_⟩⟩
    exact kq H' x c (fun b o e => bt b o (t5 b o e) (ne_of_none (t4 b o e) hx)) hC made
end
end K17

set_option Elab.async false
set_option linter.all false
set_option maxRecDepth 100000
set_option maxHeartbeats 4000000
/-! _law_trip. -/
namespace K17
open PySem L2 WR

def spTrip3 : Sp := fun vs H Q _ => ∃ (l nl : Addr) (at_ : Int) (ns : List Int) (day : Int) (ps ks : List Str) (rs : List Road) (bars : List (Str × Str)), vs = [.ref l, .ref nl, .int at_] ∧ Parts H l day ps ks rs bars ∧ H nl = some (.lst (ns.map V.int)) ∧ Nums ns ∧
  0 ≤ at_ ∧ at_ + 3 < 120 ∧ 1 ≤ day ∧ day ≤ 1440 ∧ ks ≠ [] ∧ ps ≠ [] ∧ ∀ (H' : Hp) (t : Addr) (k x : Str) (m : Int), Same H H' → H' t = some (.tup [.str k, .str x, .int m]) → k ∈ ks → x ∈ ps → Q (.ref t) H'

theorem map_pos {ss : List Str} (h : ss ≠ []) : (0 : Int) < ((ss.map V.str).length : Int) := by
  have := List.length_pos_iff.mpr h
  rw [List.length_map]
  omega
section
variable {P : Program} {w : World} {K : PySem.W.Frag} {mg : Str → Option Value} {base : Heap} {a : Adr}
theorem ok_lTrip (T : Txt K mg a) : FnOk P w K mg base CX0 1 a.lTrip.f a.lTrip.fd ["_law_parts", "_law_numbers_here", "_law_at"] spTrip3 := by
  refine T.lTrip.fn.ok sc_lTrip (fun vs H Q E h => ?_) (fun cdv A outer s H vs Q E hr h => ?_)
  · obtain ⟨l, nl, at_, ns, day, ps, ks, rs, bars, rfl, _⟩ := h
    rfl
  · obtain ⟨l, nl, at_, ns, day, ps, ks, rs, bars, rfl, hP, hn, hN, h0, h1, hd1, hd2, hk0, hp0, kq⟩ := h
    have nd := sc_lTrip.nd
    refine ⟨_, pss_cons (ps_set (i := 3) nd rfl (Or.inl rfl) (pe_op op_mod (pe_intc T.b_int (pe_ix ix_list (pv 1) (pe_op op_add (pv 2) pe_int) (fun _ _ => rfl))) (pe_op op_add (pe_op op_mul pe_int (pe_ix ix_list (pv 0) pe_int (fun _ _ => rfl))) pe_int)))
      (pss_cons (ps_if (pt_cmpR op_eq (pe_op op_mod (pe_intc T.b_int (pe_ix ix_list (pv 1) (pe_op op_add (pv 2) pe_int) (fun _ _ => rfl))) pe_int) pe_int (nomark _))
        (pss_one (ps_set (i := 3) nd rfl (Or.inl rfl) (pe_op op_mul (pe_ix ix_list (pv 1) (pe_op op_add (pv 2) pe_int) (fun _ _ => rfl)) pe_int))) pss_nil)
      (pss_one (ps_ret (pe_tup (pa_cons (pe_ix ix_list (pe_ix ix_list (pv 0) pe_int (fun _ _ => rfl)) (pe_op op_mod (pe_intc T.b_int (pe_ix ix_list (pv 1) (pv 2) (fun _ _ => rfl))) (pe_callB call_len_seq (by rfl) T.b_len PySem.boot_len (pa_cons (pe_ix ix_list (pv 0) pe_int (fun _ _ => rfl)) pa_nil))) (fun _ _ => rfl))
        (pa_cons (pe_ix ix_list (pe_ix ix_list (pv 0) pe_int (fun _ _ => rfl)) (pe_op op_mod (pe_intc T.b_int (pe_ix ix_list (pv 1) (pe_op op_add (pv 2) pe_int) (fun _ _ => rfl))) (pe_callB call_len_seq (by rfl) T.b_len PySem.boot_len (pa_cons (pe_ix ix_list (pv 0) pe_int (fun _ _ => rfl)) pa_nil))) (fun _ _ => rfl))
        (pa_cons (pv 3) pa_nil))))))), ?_⟩
    obtain ⟨pp, pk, pr, pb, us, bs, g1, g2, g3, g4, g5, g6, g7⟩ := hP
    obtain ⟨m0, e0, b0⟩ := hN.at (i := at_) (by omega) (by omega)
    obtain ⟨m1, e1, b1⟩ := hN.at (i := at_ + 1) (by omega) (by omega)
    obtain ⟨m2, e2, b2⟩ := hN.at (i := at_ + 2) (by omega) (by omega)
    obtain ⟨m3, e3, b3⟩ := hN.at (i := at_ + 3) (by omega) (by omega)
    obtain ⟨k, hk, hkm⟩ := mod_str hk0 m0
    obtain ⟨x, hx, hxm⟩ := mod_str hp0 m1
    refine ⟨_, rfl, _, rfl, _, _, rfl, rfl, nl, _, _, _, rfl, rfl, SqL.of hn, e2, .inl ⟨_, rfl, _, rfl, l, _, 0, _, rfl, rfl, SqL.of g1, atI_nat (j := 0) rfl, _, _, rfl, rfl, .inl ⟨by decide, by decide⟩, _, _, rfl, rfl, _, _, rfl, rfl, (by omega), ?_⟩⟩
    refine ⟨_, rfl, _, rfl, _, _, rfl, rfl, nl, _, _, _, rfl, rfl, SqL.of hn, e3, .inl ⟨_, rfl, _, _, rfl, rfl, (by show (0 : Int) < _; decide), rfl, _, rfl, ?_⟩⟩
    refine ite2 (fun _ => ?_) (fun _ => ?_)
    · refine ⟨_, rfl, _, rfl, _, _, rfl, rfl, nl, _, _, _, rfl, rfl, SqL.of hn, e2, _, _, rfl, rfl, .inr ⟨by decide, by decide⟩, ?_⟩
      refine ⟨_, rfl, l, _, 2, _, rfl, rfl, SqL.of g1, atI_nat (j := 2) rfl, _, rfl, _, rfl, nl, _, _, _, rfl, rfl, SqL.of hn, e0, .inl ⟨_, rfl, _, rfl, l, _, 2, _, rfl, rfl, SqL.of g1, atI_nat (j := 2) rfl, ?_⟩⟩
      refine ⟨pk, _, rfl, .inl (SqL.of g3), _, _, rfl, rfl, map_pos hk0, pk, _, _, _, rfl, rfl, SqL.of g3, hk, ?_⟩
      refine ⟨_, rfl, l, _, 1, _, rfl, rfl, SqL.of g1, atI_nat (j := 1) rfl, _, rfl, _, rfl, _, _, rfl, rfl, nl, _, _, _, rfl, rfl, SqL.of hn, e1, .inl ⟨_, rfl, _, rfl, l, _, 1, _, rfl, rfl, SqL.of g1, atI_nat (j := 1) rfl, ?_⟩⟩
      refine ⟨pp, _, rfl, .inl (SqL.of g2), _, _, rfl, rfl, map_pos hp0, pp, _, _, _, rfl, rfl, SqL.of g2, hx, ?_⟩
      refine ⟨_, rfl, (by show 3 ≤ sizeLine; decide), fun t ht => ?_⟩
      exact kq _ t k x _ (Same.new ht) upd_same hkm hxm
    · skip
      refine ⟨_, rfl, l, _, 2, _, rfl, rfl, SqL.of g1, atI_nat (j := 2) rfl, _, rfl, _, rfl, nl, _, _, _, rfl, rfl, SqL.of hn, e0, .inl ⟨_, rfl, _, rfl, l, _, 2, _, rfl, rfl, SqL.of g1, atI_nat (j := 2) rfl, ?_⟩⟩
      refine ⟨pk, _, rfl, .inl (SqL.of g3), _, _, rfl, rfl, map_pos hk0, pk, _, _, _, rfl, rfl, SqL.of g3, hk, ?_⟩
      refine ⟨_, rfl, l, _, 1, _, rfl, rfl, SqL.of g1, atI_nat (j := 1) rfl, _, rfl, _, rfl, _, _, rfl, rfl, nl, _, _, _, rfl, rfl, SqL.of hn, e1, .inl ⟨_, rfl, _, rfl, l, _, 1, _, rfl, rfl, SqL.of g1, atI_nat (j := 1) rfl, ?_⟩⟩
      refine ⟨pp, _, rfl, .inl (SqL.of g2), _, _, rfl, rfl, map_pos hp0, pp, _, _, _, rfl, rfl, SqL.of g2, hx, ?_⟩
      refine ⟨_, rfl, (by show 3 ≤ sizeLine; decide), fun t ht => ?_⟩
      exact kq _ t k x _ (Same.new ht) upd_same hkm hxm
end
end K17

set_option Elab.async false
set_option linter.all false
set_option maxRecDepth 100000
set_option maxHeartbeats 1000000
/-! _law_freer. -/
namespace K17
open PySem L2 WR

theorem cut_drop (us : List V) (i : Nat) : cutV us (some ((i : Int) + 1)) none = us.drop (i + 1) := by
  have e : (i : Int) + 1 = ((i + 1 : Nat) : Int) := by omega
  rw [e]
  unfold cutV
  rw [HT.sIx_none, HT.sIx_nat]
  by_cases h : i + 1 ≤ us.length
  · rw [Nat.min_eq_left h]
    exact List.take_of_length_le (by rw [List.length_drop]; omega)
  · rw [Nat.min_eq_right (by omega), Nat.sub_self, List.take_zero, List.drop_of_length_le (by omega)]
theorem eqT {A B : Prop} {i j : Int} (h : i = j) (x : A) : if decide (V.int i = V.int j) = true then A else B := by
  rw [h, decide_eq_true rfl]
  exact iteT x
theorem eqF {A B : Prop} {i j : Int} (h : i ≠ j) (x : B) : if decide (V.int i = V.int j) = true then A else B := by
  rw [decide_eq_false fun e => h (V.int.inj e)]
  exact iteF x

theorem reset2 {F : L2.St → Hp → Prop} {σ : L2.St} {H : Hp} (σ' : L2.St) (e : σ = σ') (h : F σ' H) : F σ H := by
  rw [e]
  exact h
/-- parts that are freer -/
structure Freed (day : Int) (ps ks : List Str) (rs : List Road) (bars : List (Str × Str)) (rs' : List Road) (bars' : List (Str × Str)) : Prop where
  mates : ∀ r ∈ rs, ∃ r' ∈ rs', WP.Mate r r'
  names : rs'.map (·.name) = rs.map (·.name) ∨ ∃ n, rs'.map (·.name) = rs.map (·.name) ++ [n]
  fits : ∀ r ∈ rs', RoadFit day ps ks r
  bars : bars'.Sublist bars
  len : rs'.length ≤ 10
  ne : rs' ≠ []
theorem mate_refl (r : Road) : WP.Mate r r := ⟨rfl, rfl, rfl, Int.le_refl _, fun _ k => k, .inl rfl⟩
theorem Freed.bar {day : Int} {ps ks : List Str} {rs : List Road} {bars bars' : List (Str × Str)} (fit : ∀ r ∈ rs, RoadFit day ps ks r) (hl : rs.length ≤ 9) (hn : rs ≠ []) (h : bars'.Sublist bars) : Freed day ps ks rs bars rs bars' :=
  ⟨fun r hr => ⟨r, hr, mate_refl r⟩, .inl rfl, fit, h, by omega, hn⟩
theorem split_at {α : Type} {xs : List α} {j : Nat} {x : α} (h : xs[j]? = some x) : xs = xs.take j ++ x :: xs.drop (j + 1) := by
  obtain ⟨hj, e⟩ := List.getElem?_eq_some_iff.mp h
  rw [← e, ← List.drop_eq_getElem_cons hj, List.take_append_drop]
theorem new_names {rs : List Road} {j : Nat} {r r' : Road} (h : rs[j]? = some r) (m : r'.name = r.name) : (rs.take j ++ [r'] ++ rs.drop (j + 1)).map (·.name) = rs.map (·.name) := by
  rw [List.map_append, List.map_append]
  conv => rhs; rw [split_at h, List.map_append, List.map_cons]
  rw [List.append_assoc]
  show _ ++ ([r'.name] ++ _) = _
  rw [m]
  rfl
theorem Freed.road {day : Int} {ps ks : List Str} {rs : List Road} {bars : List (Str × Str)} {j : Nat} {r r' : Road} (fit : ∀ r ∈ rs, RoadFit day ps ks r) (hl : rs.length ≤ 9) (h : rs[j]? = some r) (m : WP.Mate r r') (f : RoadFit day ps ks r') : Freed day ps ks rs bars (rs.take j ++ [r'] ++ rs.drop (j + 1)) bars := by
  have e := split_at h
  have hj := (List.getElem?_eq_some_iff.mp h).1
  refine ⟨fun q hq => ?_, .inl ?_, fun q hq => ?_, List.Sublist.refl _, ?_, ?_⟩
  · rw [e] at hq
    rcases List.mem_append.mp hq with hq | hq
    · exact ⟨q, List.mem_append_left _ (List.mem_append_left _ hq), mate_refl q⟩
    · rcases List.mem_cons.mp hq with rfl | hq
      · exact ⟨r', List.mem_append_left _ (List.mem_append_right _ (List.mem_singleton.mpr rfl)), m⟩
      · exact ⟨q, List.mem_append_right _ hq, mate_refl q⟩
  · exact new_names h m.name
  · rcases List.mem_append.mp hq with hq | hq
    · rcases List.mem_append.mp hq with hq | hq
      · exact fit q (List.mem_of_mem_take hq)
      · rw [List.mem_singleton.mp hq]
        exact f
    · exact fit q (List.mem_of_mem_drop hq)
  · rw [List.length_append, List.length_append, List.length_take, List.length_drop]
    show min j rs.length + 1 + _ ≤ 10
    omega
  · intro z
    rw [List.append_assoc] at z
    have := (List.append_eq_nil_iff.mp z).2
    cases this
theorem Freed.more {day : Int} {ps ks : List Str} {rs rs' : List Road} {bars bars' : List (Str × Str)} {q : Road} (h : Freed day ps ks rs bars rs' bars') (hl : rs'.length ≤ 9) (hn : rs'.map (·.name) = rs.map (·.name)) (f : RoadFit day ps ks q) : Freed day ps ks rs bars (rs' ++ [q]) bars' := by
  refine ⟨fun r hr => ?_, .inr ⟨q.name, ?_⟩, fun r hr => ?_, h.bars, ?_, ?_⟩
  · obtain ⟨r', h1, h2⟩ := h.mates r hr
    exact ⟨r', List.mem_append_left _ h1, h2⟩
  · rw [List.map_append, hn]
    rfl
  · rcases List.mem_append.mp hr with hr | hr
    · exact h.fits r hr
    · rw [List.mem_singleton.mp hr]
      exact f
  · rw [List.length_append]
    show rs'.length + 1 ≤ 10
    omega
  · intro z
    have := (List.append_eq_nil_iff.mp z).2
    cases this
theorem new_name : IsName (cutS ("newroad000000" : Str) none (some (12 : Int))) := by
  refine ⟨by decide +kernel, by decide +kernel, fun c h => ?_, ?_⟩
  · have e : (cutS ("newroad000000" : Str) none (some (12 : Int))).cps.toList[0]? = some 110 := by decide +kernel
    rw [e] at h
    cases h
    decide +kernel
  · have z : (cutS ("newroad000000" : Str) none (some (12 : Int))).cps.toList.all (fun c => decide (c ∈ nameChars.cps.toList)) = true := by decide +kernel
    exact fun c h => of_decide_eq_true (List.all_eq_true.mp z c h)
theorem take_sub (bars : List (Str × Str)) (i : Nat) : (bars.take i ++ bars.drop (i + 1)).Sublist bars := by
  conv => rhs; rw [← List.take_append_drop i bars]
  refine List.Sublist.append_left ?_ _
  rw [← List.drop_drop]
  exact List.drop_sublist _ _

def spFreer : Sp := fun vs H Q _ => ∃ (l nl : Addr) (at_ : Int) (ns : List Int) (day : Int) (ps ks : List Str) (rs : List Road) (bars : List (Str × Str)), vs = [.ref l, .ref nl, .int at_] ∧ Parts H l day ps ks rs bars ∧ H nl = some (.lst (ns.map V.int)) ∧ Nums ns ∧
  0 ≤ at_ ∧ at_ + 4 < 120 ∧ Fit day ks ps rs bars ∧ rs ≠ [] ∧ rs.length ≤ 9 ∧ ps ≠ [] ∧ ∀ (H' : Hp) (l' : Addr) (rs' : List Road) (bars' : List (Str × Str)), Same H H' → Parts H' l' day ps ks rs' bars' → Freed day ps ks rs bars rs' bars' → Q (.ref l') H'

theorem road_here {H : Hp} {u k' : Addr} {hv' : V} {r' : Road} (hu : H u = some (.tup [.str r'.name, .str r'.start, .str r'.stop, .int r'.mins, .ref k', hv'])) (hk : H k' = some (.tup (r'.kinds.map V.str))) (hh : HoursV H hv' r'.hours) : RoadV H (.ref u) r' := ⟨u, k', hv', rfl, hu, hk, hh⟩
section
variable {P : Program} {w : World} {K : PySem.W.Frag} {mg : Str → Option Value} {base : Heap} {a : Adr}
theorem ok_lFreer (T : Txt K mg a) : FnOk P w K mg base CX0 1 a.lFreer.f a.lFreer.fd ["_law_parts", "_law_numbers_here", "_law_at"] spFreer := by
  refine T.lFreer.fn.ok sc_lFreer (fun vs H Q E h => ?_) (fun cdv A outer s H vs Q E hr h => ?_)
  · obtain ⟨l, nl, at_, ns, day, ps, ks, rs, bars, rfl, _⟩ := h
    rfl
  · obtain ⟨l, nl, at_, ns, day, ps, ks, rs, bars, rfl, hP, hn, hN, h0, h1, fit, hr0, hr9, hp0, kq⟩ := h
    have nd := sc_lFreer.nd
    refine ⟨_, pss_cons (ps_asg (pv 0) (pg_unl rfl (pgs_cons (pg_name (i := 3) nd rfl (Or.inl rfl)) (pgs_cons (pg_name (i := 4) nd rfl (Or.inl rfl)) (pgs_cons (pg_name (i := 5) nd rfl (Or.inl rfl)) (pgs_cons (pg_name (i := 6) nd rfl (Or.inl rfl)) (pgs_cons (pg_name (i := 7) nd rfl (Or.inl rfl)) pgs_nil)))))))
      (pss_cons (ps_set (i := 8) nd rfl (Or.inl rfl) (pe_op op_mod (pe_intc T.b_int (pe_ix ix_list (pv 1) (pv 2) (fun _ _ => rfl))) pe_int))
      (pss_cons (ps_set (i := 9) nd rfl (Or.inl rfl) (pe_op op_mod (pe_intc T.b_int (pe_ix ix_list (pv 1) (pe_op op_add (pv 2) pe_int) (fun _ _ => rfl))) (pe_callB call_len_seq (by rfl) T.b_len PySem.boot_len (pa_cons (pv 6) pa_nil))))
      (pss_cons (ps_asg (pe_ix ix_list (pv 6) (pv 9) (fun _ _ => rfl)) (pg_tup rfl (pgs_cons (pg_name (i := 10) nd rfl (Or.inl rfl)) (pgs_cons (pg_name (i := 11) nd rfl (Or.inl rfl)) (pgs_cons (pg_name (i := 12) nd rfl (Or.inl rfl)) (pgs_cons (pg_name (i := 13) nd rfl (Or.inl rfl)) (pgs_cons (pg_name (i := 14) nd rfl (Or.inl rfl)) (pgs_cons (pg_name (i := 15) nd rfl (Or.inl rfl)) pgs_nil))))))))
      (pss_cons (ps_if (PW.pt (pw_and (pt_cmpR op_eq (pv 8) pe_int (nomark _)) (pw_and1 (pt_cmpR op_gt (pe_callB call_len_seq (by rfl) T.b_len PySem.boot_len (pa_cons (pv 7) pa_nil)) pe_int (nomark _)))))
        (pss_cons (ps_set (i := 16) nd rfl (Or.inl rfl) (pe_op op_mod (pe_intc T.b_int (pe_ix ix_list (pv 1) (pe_op op_add (pv 2) pe_int) (fun _ _ => rfl))) (pe_callB call_len_seq (by rfl) T.b_len PySem.boot_len (pa_cons (pv 7) pa_nil))))
        (pss_one (ps_ret (pe_lst (pa_cons (pv 3) (pa_cons (pv 4) (pa_cons (pv 5) (pa_cons (pv 6) (pa_cons (pe_op op_cat (pe_slice sl_list (pv 7) po_none (po_some (pv 16))) (pe_slice sl_list (pv 7) (po_some (pe_op op_add (pv 16) pe_int)) po_none)) pa_nil))))))))) pss_nil)
      (pss_cons (ps_if (pt_cmpR op_eq (pv 8) pe_int (nomark _)) (pss_one (ps_set (i := 15) nd rfl (Or.inl rfl) pe_non)) pss_nil)
      (pss_cons (ps_if (pt_cmpR op_eq (pv 8) pe_int (nomark _)) (pss_one (ps_set (i := 13) nd rfl (Or.inl rfl) (pe_op op_add pe_int (pe_op op_mod (pe_intc T.b_int (pe_ix ix_list (pv 1) (pe_op op_add (pv 2) pe_int) (fun _ _ => rfl))) (pv 13))))) pss_nil)
      (pss_cons (ps_if (pt_cmpR op_eq (pv 8) pe_int (nomark _)) (pss_one (ps_set (i := 14) nd rfl (Or.inl rfl) (pe_callTy call_tuple_of (by rfl) T.b_tuple (by decide +kernel) (pa_cons (pv 5) pa_nil)))) pss_nil)
      (pss_cons (ps_set (i := 17) nd rfl (Or.inl rfl) (pe_op op_cat (pe_op op_cat (pe_slice sl_list (pv 6) po_none (po_some (pv 9))) (pe_lst (pa_cons (pe_tup (pa_cons (pv 10) (pa_cons (pv 11) (pa_cons (pv 12) (pa_cons (pv 13) (pa_cons (pv 14) (pa_cons (pv 15) pa_nil))))))) pa_nil)))
        (pe_slice sl_list (pv 6) (po_some (pe_op op_add (pv 9) pe_int)) po_none)))
      (pss_cons (ps_if (pt_cmpR op_eq (pv 8) pe_int (nomark _))
        (pss_cons (ps_set (i := 11) nd rfl (Or.inl rfl) (pe_ix ix_list (pv 4) (pe_op op_mod (pe_intc T.b_int (pe_ix ix_list (pv 1) (pe_op op_add (pv 2) pe_int) (fun _ _ => rfl))) (pe_callB call_len_seq (by rfl) T.b_len PySem.boot_len (pa_cons (pv 4) pa_nil))) (fun _ _ => rfl)))
        (pss_cons (ps_set (i := 12) nd rfl (Or.inl rfl) (pe_ix ix_list (pv 4) (pe_op op_mod (pe_intc T.b_int (pe_ix ix_list (pv 1) (pe_op op_add (pv 2) pe_int) (fun _ _ => rfl))) (pe_callB call_len_seq (by rfl) T.b_len PySem.boot_len (pa_cons (pv 4) pa_nil))) (fun _ _ => rfl)))
        (pss_one (ps_set (i := 17) nd rfl (Or.inl rfl) (pe_op op_cat (pv 17) (pe_lst (pa_cons (pe_tup (pa_cons (pe_slice sl_str pe_str po_none (po_some pe_int)) (pa_cons (pv 11) (pa_cons (pv 12) (pa_cons (pe_op op_add pe_int (pe_op op_mod (pe_intc T.b_int (pe_ix ix_list (pv 1) (pe_op op_add (pv 2) pe_int) (fun _ _ => rfl))) pe_int))
          (pa_cons (pe_callTy call_tuple_of (by rfl) T.b_tuple (by decide +kernel) (pa_cons (pv 5) pa_nil)) (pa_cons pe_non pa_nil))))))) pa_nil)))))))
        pss_nil)
      (pss_one (ps_ret (pe_lst (pa_cons (pv 3) (pa_cons (pv 4) (pa_cons (pv 5) (pa_cons (pv 17) (pa_cons (pv 7) pa_nil))))))))))))))))), ?_⟩
    obtain ⟨pp, pk, pr, pb, us, bs, g1, g2, g3, g4, g5, g6, g7⟩ := hP
    obtain ⟨m0, e0, b0⟩ := hN.at (i := at_) (by omega) (by omega)
    obtain ⟨m1, e1, b1⟩ := hN.at (i := at_ + 1) (by omega) (by omega)
    obtain ⟨m2, e2, b2⟩ := hN.at (i := at_ + 2) (by omega) (by omega)
    obtain ⟨m3, e3, b3⟩ := hN.at (i := at_ + 3) (by omega) (by omega)
    obtain ⟨m4, e4, b4⟩ := hN.at (i := at_ + 4) (by omega) (by omega)
    refine ⟨_, rfl, l, _, rfl, SqL.of g1, rfl, _, _, rfl, _, _, rfl, _, _, rfl, _, _, rfl, _, _, rfl, rfl, ?_⟩
    refine reset2 [some (.ref l), some (.ref nl), some (.int at_), some (.int day), some (.ref pp), some (.ref pk), some (.ref pr), some (.ref pb), none, none, none, none, none, none, none, none, none, none] rfl ?_
    refine ⟨_, rfl, _, rfl, nl, _, _, _, rfl, rfl, SqL.of hn, e0, .inl ⟨_, rfl, _, _, rfl, rfl, (by show (0 : Int) < _; decide), ?_⟩⟩
    show gName 8 (V.int (m0 % 5)) _ _ _
    generalize m0 % 5 = wh
    have hul := g5.length
    have hrl : 0 < rs.length := List.length_pos_iff.mpr hr0
    have hbl := g7.length
    have hbl40 := fit.bars.1
    obtain ⟨j, hj, hjl⟩ : ∃ j : Nat, m1 % (us.length : Int) = (j : Int) ∧ j < us.length := by
      have p1 : 0 ≤ m1 % (us.length : Int) := Int.emod_nonneg _ (by omega)
      have p2 : m1 % (us.length : Int) < (us.length : Int) := Int.emod_lt_of_pos _ (by omega)
      exact ⟨(m1 % (us.length : Int)).toNat, by omega, by omega⟩
    refine ⟨_, rfl, _, rfl, _, _, rfl, rfl, nl, _, _, _, rfl, rfl, SqL.of hn, e1, .inl ⟨_, rfl, _, rfl, pr, _, rfl, .inl (SqL.of g4), _, _, rfl, rfl, (by omega), ?_⟩⟩
    show gName 9 (V.int (m1 % (us.length : Int))) _ _ _
    rw [hj]
    obtain ⟨r, hrj, hv1⟩ := Paired.at g5 (List.getElem?_eq_getElem hjl)
    have hrm := List.mem_of_getElem? hrj
    have fr := fit.roads.2 r hrm
    obtain ⟨a1, k1, hh1, ev, ha1, hk1, hho⟩ := hv1
    refine ⟨_, rfl, _, rfl, pr, _, _, _, rfl, rfl, SqL.of g4, atI_nat (j := j) ((List.getElem?_eq_getElem hjl).trans (congrArg some ev)), a1, _, rfl, SqT.of ha1, rfl, _, _, rfl, _, _, rfl, _, _, rfl, _, _, rfl, _, _, rfl, _, _, rfl, rfl, ?_⟩
    refine reset2 [some (.ref l), some (.ref nl), some (.int at_), some (.int day), some (.ref pp), some (.ref pk), some (.ref pr), some (.ref pb), some (.int wh), some (.int j), some (.str r.name), some (.str r.start), some (.str r.stop), some (.int r.mins), some (.ref k1), some hh1, none, none] rfl ?_
    have sH : Same H H := Same.refl H
    refine ⟨_, rfl, rfl, _, rfl, ?_⟩
    by_cases hw0 : wh = 0
    · refine eqT hw0 ?_
      refine ⟨_, rfl, pb, _, rfl, .inl (SqL.of g6), _, _, rfl, rfl, _, rfl, ?_⟩
      refine ite2 (fun hc => ?_) (fun _ => ?_)
      · -- a bar is left out
        have hb0 : (0 : Int) < (bs.length : Int) := of_decide_eq_true hc
        obtain ⟨i, hi, hil⟩ : ∃ i : Nat, m2 % (bs.length : Int) = (i : Int) ∧ i < bs.length := by
          have p1 : 0 ≤ m2 % (bs.length : Int) := Int.emod_nonneg _ (by omega)
          have p2 : m2 % (bs.length : Int) < (bs.length : Int) := Int.emod_lt_of_pos _ (by omega)
          exact ⟨(m2 % (bs.length : Int)).toNat, by omega, by omega⟩
        refine ⟨_, rfl, _, rfl, _, _, rfl, rfl, nl, _, _, _, rfl, rfl, SqL.of hn, e2, .inl ⟨_, rfl, _, rfl, pb, _, rfl, .inl (SqL.of g6), _, _, rfl, rfl, hb0, ?_⟩⟩
        show gName 16 (V.int (m2 % (bs.length : Int))) _ _ _
        rw [hi]
        refine ⟨_, rfl, _, rfl, _, rfl, _, rfl, _, rfl, _, rfl, _, rfl, pb, _, rfl, SqL.of g6, fun q1 hq1 => ?_⟩
        rw [cut_take]
        have s1 : Same H (upd H q1 (.lst (bs.take i))) := Same.new hq1
        have c1 : (upd H q1 (.lst (bs.take i))) q1 = some (.lst (bs.take i)) := upd_same
        generalize upd H q1 (.lst (bs.take i)) = H1 at s1 c1
        refine ⟨_, rfl, _, rfl, _, _, rfl, rfl, _, rfl, pb, _, rfl, SqL.of (s1 _ _ g6), fun q2 hq2 => ?_⟩
        rw [cut_drop]
        have s2 : Same H1 (upd H1 q2 (.lst (bs.drop (i + 1)))) := Same.new hq2
        have c2 : (upd H1 q2 (.lst (bs.drop (i + 1)))) q2 = some (.lst (bs.drop (i + 1))) := upd_same
        generalize upd H1 q2 (.lst (bs.drop (i + 1))) = H2 at s2 c2
        refine ⟨q1, q2, _, _, rfl, rfl, s2 _ _ c1, c2, Nat.le_of_lt (size60 (by rw [List.length_take, List.length_drop]; omega)), fun q3 hq3 => ?_⟩
        have s3 : Same H2 (upd H2 q3 (.lst (bs.take i ++ bs.drop (i + 1)))) := Same.new hq3
        have c3 : (upd H2 q3 (.lst (bs.take i ++ bs.drop (i + 1)))) q3 = some (.lst (bs.take i ++ bs.drop (i + 1))) := upd_same
        generalize upd H2 q3 (.lst (bs.take i ++ bs.drop (i + 1))) = H3 at s3 c3
        refine ⟨(by show 5 ≤ sizeLine; decide), fun l' hl' => ?_⟩
        have s4 : Same H3 (upd H3 l' (.lst [.int day, .ref pp, .ref pk, .ref pr, .ref q3])) := Same.new hl'
        have T4 := ((s1.trans s2).trans s3).trans s4
        exact kq _ l' _ _ T4 ⟨pp, pk, pr, q3, _, _, upd_same, T4 _ _ g2, T4 _ _ g3, T4 _ _ g4, roads_up (.of T4) g5, s4 _ _ c3, Paired.app (Paired.tk i (hvs_up (.of T4) g7)) (Paired.dp (i + 1) (hvs_up (.of T4) g7))⟩ (Freed.bar fit.roads.2 hr9 hr0 (take_sub _ i))
      · -- no bar
        refine ⟨_, rfl, rfl, _, rfl, eqF (by omega) ?_⟩
        refine ⟨_, rfl, rfl, _, rfl, eqF (by omega) ?_⟩
        refine ⟨_, rfl, rfl, _, rfl, eqF (by omega) ?_⟩
        refine ⟨_, rfl, _, rfl, _, rfl, pr, _, rfl, SqL.of (sH _ _ g4), fun q1 hq1 => ?_⟩
        rw [cut_take]
        have s1 : Same H (upd H q1 (.lst (us.take j))) := Same.new hq1
        have c1 : (upd H q1 (.lst (us.take j))) q1 = some (.lst (us.take j)) := upd_same
        generalize upd H q1 (.lst (us.take j)) = H1 at s1 c1
        refine ⟨_, rfl, _, rfl, _, rfl, _, rfl, _, rfl, _, rfl, (by show 6 ≤ sizeLine; decide), fun u hu => ?_⟩
        have s2 : Same H1 (upd H1 u (.tup [.str r.name, .str r.start, .str r.stop, .int (r.mins), .ref k1, hh1])) := Same.new hu
        have c2 : (upd H1 u (.tup [.str r.name, .str r.start, .str r.stop, .int (r.mins), .ref k1, hh1])) u = some (.tup [.str r.name, .str r.start, .str r.stop, .int (r.mins), .ref k1, hh1]) := upd_same
        generalize upd H1 u (.tup [.str r.name, .str r.start, .str r.stop, .int (r.mins), .ref k1, hh1]) = H2 at s2 c2
        refine ⟨(by show 1 ≤ sizeLine; decide), fun q2 hq2 => ?_⟩
        have s3 : Same H2 (upd H2 q2 (.lst [.ref u])) := Same.new hq2
        have c3 : (upd H2 q2 (.lst [.ref u])) q2 = some (.lst [.ref u]) := upd_same
        generalize upd H2 q2 (.lst [.ref u]) = H3 at s3 c3
        refine ⟨q1, q2, _, _, rfl, rfl, (s2.trans s3) _ _ c1, c3, Nat.le_of_lt (size60 (by rw [List.length_take]; show _ + 1 ≤ 1000; omega)), fun q3 hq3 => ?_⟩
        have s4 : Same H3 (upd H3 q3 (.lst (us.take j ++ [.ref u]))) := Same.new hq3
        have c4 : (upd H3 q3 (.lst (us.take j ++ [.ref u]))) q3 = some (.lst (us.take j ++ [.ref u])) := upd_same
        generalize upd H3 q3 (.lst (us.take j ++ [.ref u])) = H4 at s4 c4
        have t04 : Same H H4 := ((s1.trans s2).trans s3).trans s4
        refine ⟨_, rfl, _, rfl, _, _, rfl, rfl, _, rfl, pr, _, rfl, SqL.of (t04 _ _ (sH _ _ g4)), fun q4 hq4 => ?_⟩
        rw [cut_drop]
        have s5 : Same H4 (upd H4 q4 (.lst (us.drop (j + 1)))) := Same.new hq4
        have c5 : (upd H4 q4 (.lst (us.drop (j + 1)))) q4 = some (.lst (us.drop (j + 1))) := upd_same
        generalize upd H4 q4 (.lst (us.drop (j + 1))) = H5 at s5 c5
        refine ⟨q3, q4, _, _, rfl, rfl, s5 _ _ c4, c5, Nat.le_of_lt (size60 (by rw [List.length_append, List.length_take, List.length_drop]; show _ + 1 + _ ≤ 1000; omega)), fun q5 hq5 => ?_⟩
        have s6 : Same H5 (upd H5 q5 (.lst (us.take j ++ [.ref u] ++ us.drop (j + 1)))) := Same.new hq5
        have c6 : (upd H5 q5 (.lst (us.take j ++ [.ref u] ++ us.drop (j + 1)))) q5 = some (.lst (us.take j ++ [.ref u] ++ us.drop (j + 1))) := upd_same
        generalize upd H5 q5 (.lst (us.take j ++ [.ref u] ++ us.drop (j + 1))) = H6 at s6 c6
        have t06 : Same H H6 := (t04.trans s5).trans s6
        have s26 : Same H2 H6 := ((s3.trans s4).trans s5).trans s6
        have T6 : Same H H6 := sH.trans t06
        have P6 : Paired (RoadV H6) (us.take j ++ [.ref u] ++ us.drop (j + 1)) (rs.take j ++ [(⟨r.name, r.start, r.stop, r.mins, r.kinds, r.hours⟩ : Road)] ++ rs.drop (j + 1)) :=
          Paired.app (Paired.app (Paired.tk j (roads_up (.of T6) g5)) (Paired.one (road_here (s26 _ _ c2) (t06 _ _ (hk1)) (HoursV.up (.of t06) (hho))))) (Paired.dp (j + 1) (roads_up (.of T6) g5))
        have F6 : Freed day ps ks rs bars (rs.take j ++ [(⟨r.name, r.start, r.stop, r.mins, r.kinds, r.hours⟩ : Road)] ++ rs.drop (j + 1)) bars := Freed.road fit.roads.2 hr9 hrj (mate_refl r) (fr)
        refine ⟨_, rfl, rfl, _, rfl, eqF (i := _) (by omega) ?_⟩
        refine ⟨_, rfl, _, rfl, _, rfl, _, rfl, _, rfl, (by show 5 ≤ sizeLine; decide), fun l' hl' => ?_⟩
        have s7 : Same H6 (upd H6 l' (.lst [.int day, .ref pp, .ref pk, .ref q5, .ref pb])) := Same.new hl'
        have T7 := T6.trans s7
        exact kq _ l' _ _ T7 ⟨pp, pk, q5, pb, _, _, upd_same, T7 _ _ g2, T7 _ _ g3, s7 _ _ c6, roads_up (.of s7) P6, T7 _ _ g6, hvs_up (.of T7) g7⟩ F6
    · refine eqF hw0 ?_
      refine iteF ?_
      by_cases h1 : wh = 1
      · refine ⟨_, rfl, rfl, _, rfl, eqT h1 ?_⟩
        refine ⟨_, rfl, rfl, _, rfl, eqF (by omega) ?_⟩
        refine ⟨_, rfl, rfl, _, rfl, eqF (by omega) ?_⟩
        refine ⟨_, rfl, _, rfl, _, rfl, pr, _, rfl, SqL.of (sH _ _ g4), fun q1 hq1 => ?_⟩
        rw [cut_take]
        have s1 : Same H (upd H q1 (.lst (us.take j))) := Same.new hq1
        have c1 : (upd H q1 (.lst (us.take j))) q1 = some (.lst (us.take j)) := upd_same
        generalize upd H q1 (.lst (us.take j)) = H1 at s1 c1
        refine ⟨_, rfl, _, rfl, _, rfl, _, rfl, _, rfl, _, rfl, (by show 6 ≤ sizeLine; decide), fun u hu => ?_⟩
        have s2 : Same H1 (upd H1 u (.tup [.str r.name, .str r.start, .str r.stop, .int (r.mins), .ref k1, .non])) := Same.new hu
        have c2 : (upd H1 u (.tup [.str r.name, .str r.start, .str r.stop, .int (r.mins), .ref k1, .non])) u = some (.tup [.str r.name, .str r.start, .str r.stop, .int (r.mins), .ref k1, .non]) := upd_same
        generalize upd H1 u (.tup [.str r.name, .str r.start, .str r.stop, .int (r.mins), .ref k1, .non]) = H2 at s2 c2
        refine ⟨(by show 1 ≤ sizeLine; decide), fun q2 hq2 => ?_⟩
        have s3 : Same H2 (upd H2 q2 (.lst [.ref u])) := Same.new hq2
        have c3 : (upd H2 q2 (.lst [.ref u])) q2 = some (.lst [.ref u]) := upd_same
        generalize upd H2 q2 (.lst [.ref u]) = H3 at s3 c3
        refine ⟨q1, q2, _, _, rfl, rfl, (s2.trans s3) _ _ c1, c3, Nat.le_of_lt (size60 (by rw [List.length_take]; show _ + 1 ≤ 1000; omega)), fun q3 hq3 => ?_⟩
        have s4 : Same H3 (upd H3 q3 (.lst (us.take j ++ [.ref u]))) := Same.new hq3
        have c4 : (upd H3 q3 (.lst (us.take j ++ [.ref u]))) q3 = some (.lst (us.take j ++ [.ref u])) := upd_same
        generalize upd H3 q3 (.lst (us.take j ++ [.ref u])) = H4 at s4 c4
        have t04 : Same H H4 := ((s1.trans s2).trans s3).trans s4
        refine ⟨_, rfl, _, rfl, _, _, rfl, rfl, _, rfl, pr, _, rfl, SqL.of (t04 _ _ (sH _ _ g4)), fun q4 hq4 => ?_⟩
        rw [cut_drop]
        have s5 : Same H4 (upd H4 q4 (.lst (us.drop (j + 1)))) := Same.new hq4
        have c5 : (upd H4 q4 (.lst (us.drop (j + 1)))) q4 = some (.lst (us.drop (j + 1))) := upd_same
        generalize upd H4 q4 (.lst (us.drop (j + 1))) = H5 at s5 c5
        refine ⟨q3, q4, _, _, rfl, rfl, s5 _ _ c4, c5, Nat.le_of_lt (size60 (by rw [List.length_append, List.length_take, List.length_drop]; show _ + 1 + _ ≤ 1000; omega)), fun q5 hq5 => ?_⟩
        have s6 : Same H5 (upd H5 q5 (.lst (us.take j ++ [.ref u] ++ us.drop (j + 1)))) := Same.new hq5
        have c6 : (upd H5 q5 (.lst (us.take j ++ [.ref u] ++ us.drop (j + 1)))) q5 = some (.lst (us.take j ++ [.ref u] ++ us.drop (j + 1))) := upd_same
        generalize upd H5 q5 (.lst (us.take j ++ [.ref u] ++ us.drop (j + 1))) = H6 at s6 c6
        have t06 : Same H H6 := (t04.trans s5).trans s6
        have s26 : Same H2 H6 := ((s3.trans s4).trans s5).trans s6
        have T6 : Same H H6 := sH.trans t06
        have P6 : Paired (RoadV H6) (us.take j ++ [.ref u] ++ us.drop (j + 1)) (rs.take j ++ [(⟨r.name, r.start, r.stop, r.mins, r.kinds, none⟩ : Road)] ++ rs.drop (j + 1)) :=
          Paired.app (Paired.app (Paired.tk j (roads_up (.of T6) g5)) (Paired.one (road_here (s26 _ _ c2) (t06 _ _ (hk1)) (HoursV.up (.of t06) ((rfl : HoursV H .non none)))))) (Paired.dp (j + 1) (roads_up (.of T6) g5))
        have F6 : Freed day ps ks rs bars (rs.take j ++ [(⟨r.name, r.start, r.stop, r.mins, r.kinds, none⟩ : Road)] ++ rs.drop (j + 1)) bars := Freed.road fit.roads.2 hr9 hrj (⟨rfl, rfl, rfl, Int.le_refl _, fun _ k => k, .inr rfl⟩) (⟨fr.name, fr.start, fr.stop, fr.mins, fr.nd, fr.kinds, trivial, fun ps e => (by cases e)⟩)
        refine ⟨_, rfl, rfl, _, rfl, eqF (i := _) (by omega) ?_⟩
        refine ⟨_, rfl, _, rfl, _, rfl, _, rfl, _, rfl, (by show 5 ≤ sizeLine; decide), fun l' hl' => ?_⟩
        have s7 : Same H6 (upd H6 l' (.lst [.int day, .ref pp, .ref pk, .ref q5, .ref pb])) := Same.new hl'
        have T7 := T6.trans s7
        exact kq _ l' _ _ T7 ⟨pp, pk, q5, pb, _, _, upd_same, T7 _ _ g2, T7 _ _ g3, s7 _ _ c6, roads_up (.of s7) P6, T7 _ _ g6, hvs_up (.of T7) g7⟩ F6
      by_cases h2 : wh = 2
      · refine ⟨_, rfl, rfl, _, rfl, eqF (by omega) ?_⟩
        refine ⟨_, rfl, rfl, _, rfl, eqT h2 ?_⟩
        have hm := fr.mins
        have hmp : 0 < r.mins := by omega
        have z1 : 0 ≤ m2 % r.mins := Int.emod_nonneg _ (by omega)
        have z2 : m2 % r.mins < r.mins := Int.emod_lt_of_pos _ (by omega)
        refine ⟨_, rfl, _, rfl, _, _, rfl, rfl, nl, _, _, _, rfl, rfl, SqL.of hn, e2, .inl ⟨_, rfl, _, rfl, _, _, rfl, rfl, hmp, _, _, rfl, rfl, ?_⟩⟩
        refine ⟨_, rfl, rfl, _, rfl, eqF (by omega) ?_⟩
        refine ⟨_, rfl, _, rfl, _, rfl, pr, _, rfl, SqL.of (sH _ _ g4), fun q1 hq1 => ?_⟩
        rw [cut_take]
        have s1 : Same H (upd H q1 (.lst (us.take j))) := Same.new hq1
        have c1 : (upd H q1 (.lst (us.take j))) q1 = some (.lst (us.take j)) := upd_same
        generalize upd H q1 (.lst (us.take j)) = H1 at s1 c1
        refine ⟨_, rfl, _, rfl, _, rfl, _, rfl, _, rfl, _, rfl, (by show 6 ≤ sizeLine; decide), fun u hu => ?_⟩
        have s2 : Same H1 (upd H1 u (.tup [.str r.name, .str r.start, .str r.stop, .int (1 + m2 % r.mins), .ref k1, hh1])) := Same.new hu
        have c2 : (upd H1 u (.tup [.str r.name, .str r.start, .str r.stop, .int (1 + m2 % r.mins), .ref k1, hh1])) u = some (.tup [.str r.name, .str r.start, .str r.stop, .int (1 + m2 % r.mins), .ref k1, hh1]) := upd_same
        generalize upd H1 u (.tup [.str r.name, .str r.start, .str r.stop, .int (1 + m2 % r.mins), .ref k1, hh1]) = H2 at s2 c2
        refine ⟨(by show 1 ≤ sizeLine; decide), fun q2 hq2 => ?_⟩
        have s3 : Same H2 (upd H2 q2 (.lst [.ref u])) := Same.new hq2
        have c3 : (upd H2 q2 (.lst [.ref u])) q2 = some (.lst [.ref u]) := upd_same
        generalize upd H2 q2 (.lst [.ref u]) = H3 at s3 c3
        refine ⟨q1, q2, _, _, rfl, rfl, (s2.trans s3) _ _ c1, c3, Nat.le_of_lt (size60 (by rw [List.length_take]; show _ + 1 ≤ 1000; omega)), fun q3 hq3 => ?_⟩
        have s4 : Same H3 (upd H3 q3 (.lst (us.take j ++ [.ref u]))) := Same.new hq3
        have c4 : (upd H3 q3 (.lst (us.take j ++ [.ref u]))) q3 = some (.lst (us.take j ++ [.ref u])) := upd_same
        generalize upd H3 q3 (.lst (us.take j ++ [.ref u])) = H4 at s4 c4
        have t04 : Same H H4 := ((s1.trans s2).trans s3).trans s4
        refine ⟨_, rfl, _, rfl, _, _, rfl, rfl, _, rfl, pr, _, rfl, SqL.of (t04 _ _ (sH _ _ g4)), fun q4 hq4 => ?_⟩
        rw [cut_drop]
        have s5 : Same H4 (upd H4 q4 (.lst (us.drop (j + 1)))) := Same.new hq4
        have c5 : (upd H4 q4 (.lst (us.drop (j + 1)))) q4 = some (.lst (us.drop (j + 1))) := upd_same
        generalize upd H4 q4 (.lst (us.drop (j + 1))) = H5 at s5 c5
        refine ⟨q3, q4, _, _, rfl, rfl, s5 _ _ c4, c5, Nat.le_of_lt (size60 (by rw [List.length_append, List.length_take, List.length_drop]; show _ + 1 + _ ≤ 1000; omega)), fun q5 hq5 => ?_⟩
        have s6 : Same H5 (upd H5 q5 (.lst (us.take j ++ [.ref u] ++ us.drop (j + 1)))) := Same.new hq5
        have c6 : (upd H5 q5 (.lst (us.take j ++ [.ref u] ++ us.drop (j + 1)))) q5 = some (.lst (us.take j ++ [.ref u] ++ us.drop (j + 1))) := upd_same
        generalize upd H5 q5 (.lst (us.take j ++ [.ref u] ++ us.drop (j + 1))) = H6 at s6 c6
        have t06 : Same H H6 := (t04.trans s5).trans s6
        have s26 : Same H2 H6 := ((s3.trans s4).trans s5).trans s6
        have T6 : Same H H6 := sH.trans t06
        have P6 : Paired (RoadV H6) (us.take j ++ [.ref u] ++ us.drop (j + 1)) (rs.take j ++ [(⟨r.name, r.start, r.stop, 1 + m2 % r.mins, r.kinds, r.hours⟩ : Road)] ++ rs.drop (j + 1)) :=
          Paired.app (Paired.app (Paired.tk j (roads_up (.of T6) g5)) (Paired.one (road_here (s26 _ _ c2) (t06 _ _ (hk1)) (HoursV.up (.of t06) (hho))))) (Paired.dp (j + 1) (roads_up (.of T6) g5))
        have F6 : Freed day ps ks rs bars (rs.take j ++ [(⟨r.name, r.start, r.stop, 1 + m2 % r.mins, r.kinds, r.hours⟩ : Road)] ++ rs.drop (j + 1)) bars := Freed.road fit.roads.2 hr9 hrj (⟨rfl, rfl, rfl, (by show 1 + m2 % r.mins ≤ r.mins; omega), fun _ k => k, .inl rfl⟩) (⟨fr.name, fr.start, fr.stop, ⟨(by show 1 ≤ 1 + m2 % r.mins; omega), (by show 1 + m2 % r.mins ≤ 1000; omega)⟩, fr.nd, fr.kinds, fr.hours, fr.few⟩)
        refine ⟨_, rfl, rfl, _, rfl, eqF (i := _) (by omega) ?_⟩
        refine ⟨_, rfl, _, rfl, _, rfl, _, rfl, _, rfl, (by show 5 ≤ sizeLine; decide), fun l' hl' => ?_⟩
        have s7 : Same H6 (upd H6 l' (.lst [.int day, .ref pp, .ref pk, .ref q5, .ref pb])) := Same.new hl'
        have T7 := T6.trans s7
        exact kq _ l' _ _ T7 ⟨pp, pk, q5, pb, _, _, upd_same, T7 _ _ g2, T7 _ _ g3, s7 _ _ c6, roads_up (.of s7) P6, T7 _ _ g6, hvs_up (.of T7) g7⟩ F6
      by_cases h3 : wh = 3
      · refine ⟨_, rfl, rfl, _, rfl, eqF (by omega) ?_⟩
        refine ⟨_, rfl, rfl, _, rfl, eqF (by omega) ?_⟩
        refine ⟨_, rfl, rfl, _, rfl, eqT h3 ?_⟩
        refine ⟨_, rfl, pk, _, rfl, .inl ⟨SqL.of g3, fun k3 hk3 => ?_⟩⟩
        have s0 : Same H (upd H k3 (.tup (ks.map V.str))) := Same.new hk3
        have c0 : (upd H k3 (.tup (ks.map V.str))) k3 = some (.tup (ks.map V.str)) := upd_same
        generalize upd H k3 (.tup (ks.map V.str)) = H0 at s0 c0
        refine ⟨_, rfl, _, rfl, _, rfl, pr, _, rfl, SqL.of (s0 _ _ g4), fun q1 hq1 => ?_⟩
        rw [cut_take]
        have s1 : Same H0 (upd H0 q1 (.lst (us.take j))) := Same.new hq1
        have c1 : (upd H0 q1 (.lst (us.take j))) q1 = some (.lst (us.take j)) := upd_same
        generalize upd H0 q1 (.lst (us.take j)) = H1 at s1 c1
        refine ⟨_, rfl, _, rfl, _, rfl, _, rfl, _, rfl, _, rfl, (by show 6 ≤ sizeLine; decide), fun u hu => ?_⟩
        have s2 : Same H1 (upd H1 u (.tup [.str r.name, .str r.start, .str r.stop, .int (r.mins), .ref k3, hh1])) := Same.new hu
        have c2 : (upd H1 u (.tup [.str r.name, .str r.start, .str r.stop, .int (r.mins), .ref k3, hh1])) u = some (.tup [.str r.name, .str r.start, .str r.stop, .int (r.mins), .ref k3, hh1]) := upd_same
        generalize upd H1 u (.tup [.str r.name, .str r.start, .str r.stop, .int (r.mins), .ref k3, hh1]) = H2 at s2 c2
        refine ⟨(by show 1 ≤ sizeLine; decide), fun q2 hq2 => ?_⟩
        have s3 : Same H2 (upd H2 q2 (.lst [.ref u])) := Same.new hq2
        have c3 : (upd H2 q2 (.lst [.ref u])) q2 = some (.lst [.ref u]) := upd_same
        generalize upd H2 q2 (.lst [.ref u]) = H3 at s3 c3
        refine ⟨q1, q2, _, _, rfl, rfl, (s2.trans s3) _ _ c1, c3, Nat.le_of_lt (size60 (by rw [List.length_take]; show _ + 1 ≤ 1000; omega)), fun q3 hq3 => ?_⟩
        have s4 : Same H3 (upd H3 q3 (.lst (us.take j ++ [.ref u]))) := Same.new hq3
        have c4 : (upd H3 q3 (.lst (us.take j ++ [.ref u]))) q3 = some (.lst (us.take j ++ [.ref u])) := upd_same
        generalize upd H3 q3 (.lst (us.take j ++ [.ref u])) = H4 at s4 c4
        have t04 : Same H0 H4 := ((s1.trans s2).trans s3).trans s4
        refine ⟨_, rfl, _, rfl, _, _, rfl, rfl, _, rfl, pr, _, rfl, SqL.of (t04 _ _ (s0 _ _ g4)), fun q4 hq4 => ?_⟩
        rw [cut_drop]
        have s5 : Same H4 (upd H4 q4 (.lst (us.drop (j + 1)))) := Same.new hq4
        have c5 : (upd H4 q4 (.lst (us.drop (j + 1)))) q4 = some (.lst (us.drop (j + 1))) := upd_same
        generalize upd H4 q4 (.lst (us.drop (j + 1))) = H5 at s5 c5
        refine ⟨q3, q4, _, _, rfl, rfl, s5 _ _ c4, c5, Nat.le_of_lt (size60 (by rw [List.length_append, List.length_take, List.length_drop]; show _ + 1 + _ ≤ 1000; omega)), fun q5 hq5 => ?_⟩
        have s6 : Same H5 (upd H5 q5 (.lst (us.take j ++ [.ref u] ++ us.drop (j + 1)))) := Same.new hq5
        have c6 : (upd H5 q5 (.lst (us.take j ++ [.ref u] ++ us.drop (j + 1)))) q5 = some (.lst (us.take j ++ [.ref u] ++ us.drop (j + 1))) := upd_same
        generalize upd H5 q5 (.lst (us.take j ++ [.ref u] ++ us.drop (j + 1))) = H6 at s6 c6
        have t06 : Same H0 H6 := (t04.trans s5).trans s6
        have s26 : Same H2 H6 := ((s3.trans s4).trans s5).trans s6
        have T6 : Same H H6 := s0.trans t06
        have P6 : Paired (RoadV H6) (us.take j ++ [.ref u] ++ us.drop (j + 1)) (rs.take j ++ [(⟨r.name, r.start, r.stop, r.mins, ks, r.hours⟩ : Road)] ++ rs.drop (j + 1)) :=
          Paired.app (Paired.app (Paired.tk j (roads_up (.of T6) g5)) (Paired.one (road_here (s26 _ _ c2) (t06 _ _ (c0)) (HoursV.up (.of t06) (hho.up (.of s0)))))) (Paired.dp (j + 1) (roads_up (.of T6) g5))
        have F6 : Freed day ps ks rs bars (rs.take j ++ [(⟨r.name, r.start, r.stop, r.mins, ks, r.hours⟩ : Road)] ++ rs.drop (j + 1)) bars := Freed.road fit.roads.2 hr9 hrj (⟨rfl, rfl, rfl, Int.le_refl _, fr.kinds, .inl rfl⟩) (⟨fr.name, fr.start, fr.stop, fr.mins, fit.kinds.2.2.1, fun k hk => hk, fr.hours, fr.few⟩)
        refine ⟨_, rfl, rfl, _, rfl, eqF (i := _) (by omega) ?_⟩
        refine ⟨_, rfl, _, rfl, _, rfl, _, rfl, _, rfl, (by show 5 ≤ sizeLine; decide), fun l' hl' => ?_⟩
        have s7 : Same H6 (upd H6 l' (.lst [.int day, .ref pp, .ref pk, .ref q5, .ref pb])) := Same.new hl'
        have T7 := T6.trans s7
        exact kq _ l' _ _ T7 ⟨pp, pk, q5, pb, _, _, upd_same, T7 _ _ g2, T7 _ _ g3, s7 _ _ c6, roads_up (.of s7) P6, T7 _ _ g6, hvs_up (.of T7) g7⟩ F6
      refine ⟨_, rfl, rfl, _, rfl, eqF (by omega) ?_⟩
      refine ⟨_, rfl, rfl, _, rfl, eqF (by omega) ?_⟩
      refine ⟨_, rfl, rfl, _, rfl, eqF (by omega) ?_⟩
      by_cases h4 : wh = 4
      · skip
        refine ⟨_, rfl, _, rfl, _, rfl, pr, _, rfl, SqL.of (sH _ _ g4), fun q1 hq1 => ?_⟩
        rw [cut_take]
        have s1 : Same H (upd H q1 (.lst (us.take j))) := Same.new hq1
        have c1 : (upd H q1 (.lst (us.take j))) q1 = some (.lst (us.take j)) := upd_same
        generalize upd H q1 (.lst (us.take j)) = H1 at s1 c1
        refine ⟨_, rfl, _, rfl, _, rfl, _, rfl, _, rfl, _, rfl, (by show 6 ≤ sizeLine; decide), fun u hu => ?_⟩
        have s2 : Same H1 (upd H1 u (.tup [.str r.name, .str r.start, .str r.stop, .int (r.mins), .ref k1, hh1])) := Same.new hu
        have c2 : (upd H1 u (.tup [.str r.name, .str r.start, .str r.stop, .int (r.mins), .ref k1, hh1])) u = some (.tup [.str r.name, .str r.start, .str r.stop, .int (r.mins), .ref k1, hh1]) := upd_same
        generalize upd H1 u (.tup [.str r.name, .str r.start, .str r.stop, .int (r.mins), .ref k1, hh1]) = H2 at s2 c2
        refine ⟨(by show 1 ≤ sizeLine; decide), fun q2 hq2 => ?_⟩
        have s3 : Same H2 (upd H2 q2 (.lst [.ref u])) := Same.new hq2
        have c3 : (upd H2 q2 (.lst [.ref u])) q2 = some (.lst [.ref u]) := upd_same
        generalize upd H2 q2 (.lst [.ref u]) = H3 at s3 c3
        refine ⟨q1, q2, _, _, rfl, rfl, (s2.trans s3) _ _ c1, c3, Nat.le_of_lt (size60 (by rw [List.length_take]; show _ + 1 ≤ 1000; omega)), fun q3 hq3 => ?_⟩
        have s4 : Same H3 (upd H3 q3 (.lst (us.take j ++ [.ref u]))) := Same.new hq3
        have c4 : (upd H3 q3 (.lst (us.take j ++ [.ref u]))) q3 = some (.lst (us.take j ++ [.ref u])) := upd_same
        generalize upd H3 q3 (.lst (us.take j ++ [.ref u])) = H4 at s4 c4
        have t04 : Same H H4 := ((s1.trans s2).trans s3).trans s4
        refine ⟨_, rfl, _, rfl, _, _, rfl, rfl, _, rfl, pr, _, rfl, SqL.of (t04 _ _ (sH _ _ g4)), fun q4 hq4 => ?_⟩
        rw [cut_drop]
        have s5 : Same H4 (upd H4 q4 (.lst (us.drop (j + 1)))) := Same.new hq4
        have c5 : (upd H4 q4 (.lst (us.drop (j + 1)))) q4 = some (.lst (us.drop (j + 1))) := upd_same
        generalize upd H4 q4 (.lst (us.drop (j + 1))) = H5 at s5 c5
        refine ⟨q3, q4, _, _, rfl, rfl, s5 _ _ c4, c5, Nat.le_of_lt (size60 (by rw [List.length_append, List.length_take, List.length_drop]; show _ + 1 + _ ≤ 1000; omega)), fun q5 hq5 => ?_⟩
        have s6 : Same H5 (upd H5 q5 (.lst (us.take j ++ [.ref u] ++ us.drop (j + 1)))) := Same.new hq5
        have c6 : (upd H5 q5 (.lst (us.take j ++ [.ref u] ++ us.drop (j + 1)))) q5 = some (.lst (us.take j ++ [.ref u] ++ us.drop (j + 1))) := upd_same
        generalize upd H5 q5 (.lst (us.take j ++ [.ref u] ++ us.drop (j + 1))) = H6 at s6 c6
        have t06 : Same H H6 := (t04.trans s5).trans s6
        have s26 : Same H2 H6 := ((s3.trans s4).trans s5).trans s6
        have T6 : Same H H6 := sH.trans t06
        have P6 : Paired (RoadV H6) (us.take j ++ [.ref u] ++ us.drop (j + 1)) (rs.take j ++ [(⟨r.name, r.start, r.stop, r.mins, r.kinds, r.hours⟩ : Road)] ++ rs.drop (j + 1)) :=
          Paired.app (Paired.app (Paired.tk j (roads_up (.of T6) g5)) (Paired.one (road_here (s26 _ _ c2) (t06 _ _ (hk1)) (HoursV.up (.of t06) (hho))))) (Paired.dp (j + 1) (roads_up (.of T6) g5))
        have F6 : Freed day ps ks rs bars (rs.take j ++ [(⟨r.name, r.start, r.stop, r.mins, r.kinds, r.hours⟩ : Road)] ++ rs.drop (j + 1)) bars := Freed.road fit.roads.2 hr9 hrj (mate_refl r) (fr)
        refine ⟨_, rfl, rfl, _, rfl, eqT h4 ?_⟩
        obtain ⟨x1, hx1, hx1m⟩ := mod_str hp0 m2
        obtain ⟨x2, hx2, hx2m⟩ := mod_str hp0 m3
        refine ⟨_, rfl, _, rfl, _, rfl, _, _, rfl, rfl, nl, _, _, _, rfl, rfl, SqL.of (T6 _ _ hn), e2, .inl ⟨_, rfl, _, rfl, pp, _, rfl, .inl (SqL.of (T6 _ _ g2)), _, _, rfl, rfl, map_pos hp0, pp, _, _, _, rfl, rfl, SqL.of (T6 _ _ g2), hx1, ?_⟩⟩
        refine ⟨_, rfl, _, rfl, _, rfl, _, _, rfl, rfl, nl, _, _, _, rfl, rfl, SqL.of (T6 _ _ hn), e3, .inl ⟨_, rfl, _, rfl, pp, _, rfl, .inl (SqL.of (T6 _ _ g2)), _, _, rfl, rfl, map_pos hp0, pp, _, _, _, rfl, rfl, SqL.of (T6 _ _ g2), hx2, ?_⟩⟩
        refine ⟨_, rfl, _, rfl, _, rfl, (by decide +kernel), _, rfl, _, rfl, _, rfl, _, rfl, _, _, rfl, rfl, nl, _, _, _, rfl, rfl, SqL.of (T6 _ _ hn), e4, .inl ⟨_, rfl, _, _, rfl, rfl, (by show (0 : Int) < _; decide), _, _, rfl, rfl, _, rfl, pk, _, rfl, .inl ⟨SqL.of (T6 _ _ g3), fun t ht => ?_⟩⟩⟩
        have s7 : Same H6 (upd H6 t (.tup (ks.map V.str))) := Same.new ht
        have c7 : (upd H6 t (.tup (ks.map V.str))) t = some (.tup (ks.map V.str)) := upd_same
        generalize upd H6 t (.tup (ks.map V.str)) = H7 at s7 c7
        refine ⟨(by show 6 ≤ sizeLine; decide), fun u2 hu2 => ?_⟩
        have s8 : Same H7 (upd H7 u2 (.tup [.str (cutS ("newroad000000" : Str) none (some (12 : Int))), .str x1, .str x2, .int (1 + m4 % 9), .ref t, .non])) := Same.new hu2
        have c8 : (upd H7 u2 (.tup [.str (cutS ("newroad000000" : Str) none (some (12 : Int))), .str x1, .str x2, .int (1 + m4 % 9), .ref t, .non])) u2 = some (.tup [.str (cutS ("newroad000000" : Str) none (some (12 : Int))), .str x1, .str x2, .int (1 + m4 % 9), .ref t, .non]) := upd_same
        generalize upd H7 u2 (.tup [.str (cutS ("newroad000000" : Str) none (some (12 : Int))), .str x1, .str x2, .int (1 + m4 % 9), .ref t, .non]) = H8 at s8 c8
        refine ⟨(by show 1 ≤ sizeLine; decide), fun q6 hq6 => ?_⟩
        have s9 : Same H8 (upd H8 q6 (.lst [.ref u2])) := Same.new hq6
        have c9 : (upd H8 q6 (.lst [.ref u2])) q6 = some (.lst [.ref u2]) := upd_same
        generalize upd H8 q6 (.lst [.ref u2]) = H9 at s9 c9
        have t69 : Same H6 H9 := (s7.trans s8).trans s9
        refine ⟨q5, q6, _, _, rfl, rfl, t69 _ _ c6, c9, Nat.le_of_lt (size60 (by rw [List.length_append, List.length_append, List.length_take, List.length_drop]; show _ + 1 + _ + 1 ≤ 1000; omega)), fun q7 hq7 => ?_⟩
        have s10 : Same H9 (upd H9 q7 (.lst (us.take j ++ [.ref u] ++ us.drop (j + 1) ++ [.ref u2]))) := Same.new hq7
        have c10 : (upd H9 q7 (.lst (us.take j ++ [.ref u] ++ us.drop (j + 1) ++ [.ref u2]))) q7 = some (.lst (us.take j ++ [.ref u] ++ us.drop (j + 1) ++ [.ref u2])) := upd_same
        generalize upd H9 q7 (.lst (us.take j ++ [.ref u] ++ us.drop (j + 1) ++ [.ref u2])) = H10 at s10 c10
        have t610 := t69.trans s10
        have T10 := T6.trans t610
        have P10 := Paired.app (roads_up (.of t610) P6) (Paired.one (road_here (r' := (⟨cutS ("newroad000000" : Str) none (some (12 : Int)), x1, x2, 1 + m4 % 9, ks, none⟩ : Road)) (hv' := .non) ((s9.trans s10) _ _ c8) (((s8.trans s9).trans s10) _ _ c7) rfl))
        have hlen : (rs.take j ++ [(⟨r.name, r.start, r.stop, r.mins, r.kinds, r.hours⟩ : Road)] ++ rs.drop (j + 1)).length ≤ 9 := by
          rw [List.length_append, List.length_append, List.length_take, List.length_drop]
          show min j rs.length + 1 + _ ≤ 9
          omega
        have F10 := Freed.more F6 hlen (new_names hrj rfl)
          (q := (⟨cutS ("newroad000000" : Str) none (some (12 : Int)), x1, x2, 1 + m4 % 9, ks, none⟩ : Road)) ⟨new_name, hx1m, hx2m, ⟨(by show 1 ≤ 1 + m4 % 9; omega), (by show 1 + m4 % 9 ≤ 1000; omega)⟩, fit.kinds.2.2.1, fun k hk => hk, trivial, fun ps e => (by cases e)⟩
        refine ⟨_, rfl, _, rfl, _, rfl, _, rfl, _, rfl, (by show 5 ≤ sizeLine; decide), fun l' hl' => ?_⟩
        have s11 : Same H10 (upd H10 l' (.lst [.int day, .ref pp, .ref pk, .ref q7, .ref pb])) := Same.new hl'
        have T11 := T10.trans s11
        exact kq _ l' _ _ T11 ⟨pp, pk, q7, pb, _, _, upd_same, T11 _ _ g2, T11 _ _ g3, s11 _ _ c10, roads_up (.of s11) P10, T11 _ _ g6, hvs_up (.of T11) g7⟩ F10
      · skip
        refine ⟨_, rfl, _, rfl, _, rfl, pr, _, rfl, SqL.of (sH _ _ g4), fun q1 hq1 => ?_⟩
        rw [cut_take]
        have s1 : Same H (upd H q1 (.lst (us.take j))) := Same.new hq1
        have c1 : (upd H q1 (.lst (us.take j))) q1 = some (.lst (us.take j)) := upd_same
        generalize upd H q1 (.lst (us.take j)) = H1 at s1 c1
        refine ⟨_, rfl, _, rfl, _, rfl, _, rfl, _, rfl, _, rfl, (by show 6 ≤ sizeLine; decide), fun u hu => ?_⟩
        have s2 : Same H1 (upd H1 u (.tup [.str r.name, .str r.start, .str r.stop, .int (r.mins), .ref k1, hh1])) := Same.new hu
        have c2 : (upd H1 u (.tup [.str r.name, .str r.start, .str r.stop, .int (r.mins), .ref k1, hh1])) u = some (.tup [.str r.name, .str r.start, .str r.stop, .int (r.mins), .ref k1, hh1]) := upd_same
        generalize upd H1 u (.tup [.str r.name, .str r.start, .str r.stop, .int (r.mins), .ref k1, hh1]) = H2 at s2 c2
        refine ⟨(by show 1 ≤ sizeLine; decide), fun q2 hq2 => ?_⟩
        have s3 : Same H2 (upd H2 q2 (.lst [.ref u])) := Same.new hq2
        have c3 : (upd H2 q2 (.lst [.ref u])) q2 = some (.lst [.ref u]) := upd_same
        generalize upd H2 q2 (.lst [.ref u]) = H3 at s3 c3
        refine ⟨q1, q2, _, _, rfl, rfl, (s2.trans s3) _ _ c1, c3, Nat.le_of_lt (size60 (by rw [List.length_take]; show _ + 1 ≤ 1000; omega)), fun q3 hq3 => ?_⟩
        have s4 : Same H3 (upd H3 q3 (.lst (us.take j ++ [.ref u]))) := Same.new hq3
        have c4 : (upd H3 q3 (.lst (us.take j ++ [.ref u]))) q3 = some (.lst (us.take j ++ [.ref u])) := upd_same
        generalize upd H3 q3 (.lst (us.take j ++ [.ref u])) = H4 at s4 c4
        have t04 : Same H H4 := ((s1.trans s2).trans s3).trans s4
        refine ⟨_, rfl, _, rfl, _, _, rfl, rfl, _, rfl, pr, _, rfl, SqL.of (t04 _ _ (sH _ _ g4)), fun q4 hq4 => ?_⟩
        rw [cut_drop]
        have s5 : Same H4 (upd H4 q4 (.lst (us.drop (j + 1)))) := Same.new hq4
        have c5 : (upd H4 q4 (.lst (us.drop (j + 1)))) q4 = some (.lst (us.drop (j + 1))) := upd_same
        generalize upd H4 q4 (.lst (us.drop (j + 1))) = H5 at s5 c5
        refine ⟨q3, q4, _, _, rfl, rfl, s5 _ _ c4, c5, Nat.le_of_lt (size60 (by rw [List.length_append, List.length_take, List.length_drop]; show _ + 1 + _ ≤ 1000; omega)), fun q5 hq5 => ?_⟩
        have s6 : Same H5 (upd H5 q5 (.lst (us.take j ++ [.ref u] ++ us.drop (j + 1)))) := Same.new hq5
        have c6 : (upd H5 q5 (.lst (us.take j ++ [.ref u] ++ us.drop (j + 1)))) q5 = some (.lst (us.take j ++ [.ref u] ++ us.drop (j + 1))) := upd_same
        generalize upd H5 q5 (.lst (us.take j ++ [.ref u] ++ us.drop (j + 1))) = H6 at s6 c6
        have t06 : Same H H6 := (t04.trans s5).trans s6
        have s26 : Same H2 H6 := ((s3.trans s4).trans s5).trans s6
        have T6 : Same H H6 := sH.trans t06
        have P6 : Paired (RoadV H6) (us.take j ++ [.ref u] ++ us.drop (j + 1)) (rs.take j ++ [(⟨r.name, r.start, r.stop, r.mins, r.kinds, r.hours⟩ : Road)] ++ rs.drop (j + 1)) :=
          Paired.app (Paired.app (Paired.tk j (roads_up (.of T6) g5)) (Paired.one (road_here (s26 _ _ c2) (t06 _ _ (hk1)) (HoursV.up (.of t06) (hho))))) (Paired.dp (j + 1) (roads_up (.of T6) g5))
        have F6 : Freed day ps ks rs bars (rs.take j ++ [(⟨r.name, r.start, r.stop, r.mins, r.kinds, r.hours⟩ : Road)] ++ rs.drop (j + 1)) bars := Freed.road fit.roads.2 hr9 hrj (mate_refl r) (fr)
        refine ⟨_, rfl, rfl, _, rfl, eqF (i := _) (by omega) ?_⟩
        refine ⟨_, rfl, _, rfl, _, rfl, _, rfl, _, rfl, (by show 5 ≤ sizeLine; decide), fun l' hl' => ?_⟩
        have s7 : Same H6 (upd H6 l' (.lst [.int day, .ref pp, .ref pk, .ref q5, .ref pb])) := Same.new hl'
        have T7 := T6.trans s7
        exact kq _ l' _ _ T7 ⟨pp, pk, q5, pb, _, _, upd_same, T7 _ _ g2, T7 _ _ g3, s7 _ _ c6, roads_up (.of s7) P6, T7 _ _ g6, hvs_up (.of T7) g7⟩ F6
end
end K17

set_option Elab.async false
set_option linter.all false
set_option maxRecDepth 100000
set_option maxHeartbeats 2000000
/-! The law's mathematics: charts that are made, one of them freer. -/
namespace K17
open PySem L2 WR

theorem name_inj {rs : List Road} (nd : (rs.map (·.name)).Nodup) : ∀ r ∈ rs, ∀ r' ∈ rs, r.name = r'.name → r = r' := by
  induction rs with
  | nil => intro r hr; cases hr
  | cons q t ih =>
    rw [List.map_cons, List.nodup_cons] at nd
    intro r hr r' hr' e
    rcases List.mem_cons.mp hr with h1 | h1 <;> rcases List.mem_cons.mp hr' with h2 | h2
    · rw [h1, h2]
    · exact absurd (show q.name ∈ t.map (·.name) by rw [← h1, e]; exact List.mem_map.mpr ⟨r', h2, rfl⟩) nd.1
    · exact absurd (show q.name ∈ t.map (·.name) by rw [← h2, ← e]; exact List.mem_map.mpr ⟨r, h1, rfl⟩) nd.1
    · exact ih nd.2 r h1 r' h2 e
theorem Made.road {day : Int} {ks ps : List Str} {rs : List Road} {bars : List (Str × Str)} {c : Chart} (m : Made day ks ps rs bars c) {r : Road} : r ∈ c.roads ↔ ∃ q ∈ rs, norm c.kinds q = r := by
  rw [m.roads.mem_iff, List.mem_map]
theorem Made.ok {day : Int} {ks ps : List Str} {rs : List Road} {bars : List (Str × Str)} {c : Chart} (f : Fit day ks ps rs bars) (m : Made day ks ps rs bars c) : WP.ChartOk c := by
  refine ⟨by rw [m.day]; have := f.day; omega, fun r hr => ?_, ?_, fun r hr => ?_⟩
  · obtain ⟨q, hq, rfl⟩ := m.road.mp hr
    have fq := f.roads.2 q hq
    exact ⟨fq.mins.1, by rw [m.day]; exact fq.hours⟩
  · refine name_inj ?_
    have h1 := m.roads.map (·.name)
    refine nodup_perm h1 ?_
    rw [List.map_map]
    exact f.names
  · obtain ⟨q, hq, rfl⟩ := m.road.mp hr
    exact m.places.mem_iff.mpr (f.roads.2 q hq).stop
theorem Freed.fit {day : Int} {ks ps : List Str} {rs rs' : List Road} {bars bars' : List (Str × Str)} (f : Fit day ks ps rs bars) (d : Freed day ps ks rs bars rs' bars') (nd : (rs'.map (·.name)).Nodup) : Fit day ks ps rs' bars' := by
  refine ⟨f.day, f.places, f.kinds, ⟨by have := d.len; omega, d.fits⟩, nd, Nat.le_trans d.bars.length_le f.bars.1, f.bars.2.1.sublist d.bars, fun b hb => ?_⟩
  obtain ⟨r1, h1, r2, h2, e1, e2, e3⟩ := f.bars.2.2 b (d.bars.subset hb)
  obtain ⟨r1', g1, m1⟩ := d.mates r1 h1
  obtain ⟨r2', g2, m2⟩ := d.mates r2 h2
  exact ⟨r1', g1, r2', g2, m1.name.trans e1, m2.name.trans e2, by rw [m1.stop, m2.start]; exact e3⟩
theorem Freed.freer {day : Int} {ks ps : List Str} {rs rs' : List Road} {bars bars' : List (Str × Str)} {c c' : Chart} (d : Freed day ps ks rs bars rs' bars') (m : Made day ks ps rs bars c) (m' : Made day ks ps rs' bars' c') : WP.Freer c c' := by
  refine ⟨by rw [m.day, m'.day], fun x hx => m'.places.mem_iff.mpr (m.places.mem_iff.mp hx), fun r hr => ?_, fun b hb => m.bars.mem_iff.mpr (d.bars.subset (m'.bars.mem_iff.mp hb))⟩
  obtain ⟨q, hq, rfl⟩ := m.road.mp hr
  obtain ⟨q', hq', ma⟩ := d.mates q hq
  refine ⟨norm c'.kinds q', m'.road.mpr ⟨q', hq', rfl⟩, ma.name, ma.start, ma.stop, ma.mins, fun k hk => ?_, ma.hours⟩
  obtain ⟨h1, h2⟩ := List.mem_filter.mp hk
  exact List.mem_filter.mpr ⟨m'.kinds.mem_iff.mpr (m.kinds.mem_iff.mp h1), decide_eq_true (ma.kinds k (of_decide_eq_true h2))⟩
/-- one road alone has the last road's name -/
theorem Freed.nodup {day : Int} {ks ps : List Str} {rs rs' : List Road} {bars bars' : List (Str × Str)} (f : Fit day ks ps rs bars) (d : Freed day ps ks rs bars rs' bars') {q : Road} {t : List Road} (e : rs' = t ++ [q]) (h : (rs'.filter fun r => decide (r.name = q.name)).length ≤ 1) : (rs'.map (·.name)).Nodup := by
  rcases d.names with z | ⟨n, z⟩
  · rw [z]
    exact f.names
  · have e2 : t.map (·.name) ++ [q.name] = rs.map (·.name) ++ [n] := by rw [← z, e, List.map_append]; rfl
    obtain ⟨h1, h2⟩ := List.append_inj' e2 rfl
    have h2 : q.name = n := by simpa using h2
    rw [e, List.filter_append, List.length_append] at h
    have h3 : ([q].filter fun r => decide (r.name = q.name)).length = 1 := by rw [List.filter_cons_of_pos (by simp)]; rfl
    rw [h3] at h
    have h4 : (t.filter fun r => decide (r.name = q.name)) = [] := List.length_eq_zero_iff.mp (by omega)
    rw [z, List.nodup_append]
    refine ⟨f.names, by simp, fun a ha b hb eq => ?_⟩
    have hb' : b = n := by simpa using hb
    rw [eq, hb', ← h1] at ha
    obtain ⟨r, hr, er⟩ := List.mem_map.mp ha
    have : r ∈ (t.filter fun r => decide (r.name = q.name)) := List.mem_filter.mpr ⟨hr, decide_eq_true (er.trans h2.symm)⟩
    rw [h4] at this
    cases this
end K17

set_option Elab.async false
set_option linter.all false
set_option maxRecDepth 100000
set_option maxHeartbeats 2000000
/-! law. -/
namespace K17
open PySem L2 WR

def spLaw (K : PySem.W.Frag) : Sp := fun vs H Q _ => ∃ (a : Addr) (ns : List Int), vs = [.ref a] ∧ SqL K H a (ns.map V.int) ∧ ns.length ≤ 63 ∧ ∀ H', Q (.bl true) H'

section
variable {P : Program} {w : World} {K : PySem.W.Frag} {mg : Str → Option Value} {base : Heap} {a : Adr}
theorem ok_law (T : Txt K mg a) : FnOk P w K mg base CX0 10 a.law.f a.law.fd ["_law_script"] (spLaw K) := by
  refine T.law.fn.ok sc_law (fun vs H Q E h => ?_) (fun cdv A outer s H vs Q E hr h => ?_)
  · obtain ⟨sc, cs, rfl, _⟩ := h
    rfl
  · obtain ⟨sc, cs, rfl, hS, hcl, kq⟩ := h
    have nd := sc_law.nd
    refine ⟨_, pss_cons (ps_set (i := 1) nd rfl (Or.inl rfl) (pe_call (ok_numbers T) (hr.mono (by decide)) (by rfl) T.g_lNumbers T.lNumbers.fn.kp T.lNumbers.bd .nil pass0 (pa_cons (pv 0) (pa_cons pe_int pa_nil))))
      (pss_cons (ps_set (i := 2) nd rfl (Or.inl rfl) (pe_call (ok_lMap T) (hr.mono (by decide)) (by rfl) T.g_lMap T.lMap.fn.kp T.lMap.bd .nil pass0 (pa_cons (pv 1) (pa_cons pe_int pa_nil))))
      (pss_cons (ps_set (i := 3) nd rfl (Or.inl rfl) (pe_call (ok_lMade T) (hr.mono (by decide)) (by rfl) T.g_lMade T.lMade.fn.kp T.lMade.bd .nil pass0 (pa_cons (pv 2) pa_nil)))
      (pss_cons (ps_asg (pe_call (ok_lTrip T) (hr.mono (by decide)) (by rfl) T.g_lTrip T.lTrip.fn.kp T.lTrip.bd .nil pass0 (pa_cons (pv 2) (pa_cons (pv 1) (pa_cons pe_int pa_nil)))) (pg_tup rfl (pgs_cons (pg_name (i := 4) nd rfl (Or.inl rfl)) (pgs_cons (pg_name (i := 5) nd rfl (Or.inl rfl)) (pgs_cons (pg_name (i := 6) nd rfl (Or.inl rfl)) pgs_nil)))))
      (pss_cons (ps_set (i := 7) nd rfl (Or.inr rfl) (pe_call (ok_lFreer T) (hr.mono (by decide)) (by rfl) T.g_lFreer T.lFreer.fn.kp T.lFreer.bd .nil pass0 (pa_cons (pv 2) (pa_cons (pv 1) (pa_cons pe_int pa_nil)))))
      (pss_cons (ps_if (pt_cmpR op_gt (pe_callB call_len_seq (by rfl) T.b_len PySem.boot_len (pa_cons (pe_lc (own := [("_law_road", 9)]) (g := gName 9)
            (tt := tTest (tOp rEq (tOp (rIxT K) (tVar 9) (tC (.int 0))) (tOp (rIxT K) (tOp (rIxL K) (tOp (rIxL K) (tVar 7) (tC (.int 3))) (tUn (rU fun i => .int (-i)) (tC (.int 1)))) (tC (.int 0))))) (te := tVar 9) rfl nd (pi_list (pe_ix ix_list (pv 7) pe_int (fun _ _ => rfl)))
            (blkOk_by (own := [("_law_road", 9)]) (N := ["_law_script", "_law_numbers_here", "_law_parts", "_law_chart", "_law_kind", "_law_start", "_law_moment", "_law_freer_here", "_law_other", "_law_road"]) (sc := defScope st_law) (by decide +kernel))
            (fun _ _ _ _ _ => pg_name (i := 9) nd rfl (Or.inl rfl)) (fun _ _ _ _ _ => pts_one (pt_cmpR op_eq (pe_ix ix_tup (pv 9) pe_int (fun _ _ => rfl)) (pe_ix ix_tup (pe_ix ix_list (pe_ix ix_list (pv 7) pe_int (fun _ _ => rfl)) (pe_un un_neg pe_int) (fun _ _ => rfl)) pe_int (fun _ _ => rfl)) (nomark _))) (fun _ _ _ _ _ => pv 9)) pa_nil)) pe_int (nomark _))
        (pss_one (ps_ret pe_bl)) pss_nil)
      (pss_cons (ps_set (i := 8) nd rfl (Or.inl rfl) (pe_call (ok_lMade T) (hr.mono (by decide)) (by rfl) T.g_lMade T.lMade.fn.kp T.lMade.bd .nil pass0 (pa_cons (pv 7) pa_nil)))
      (pss_cons (ps_if (pt_not (pt_val (pe_call (ok_noLater T) (hr.mono (by decide)) (by rfl) T.g_lNoLater T.lNoLater.fn.kp T.lNoLater.bd .nil pass0
          (pa_cons (pe_call (ok_placesFrom T) hr (by rfl) T.g_placesFrom T.placesFrom.fn.kp T.placesFrom.bd .nil pass0 (pa_cons (pv 3) (pa_cons (pv 4) (pa_cons (pv 5) (pa_cons (pv 6) pa_nil)))))
          (pa_cons (pe_call (ok_placesFrom T) hr (by rfl) T.g_placesFrom T.placesFrom.fn.kp T.placesFrom.bd .nil pass0 (pa_cons (pv 8) (pa_cons (pv 4) (pa_cons (pv 5) (pa_cons (pv 6) pa_nil))))) pa_nil)))))
        (pss_one (ps_ret pe_bl)) pss_nil)
      (pss_one (ps_ret (pe_call (ok_noLater T) (hr.mono (by decide)) (by rfl) T.g_lNoLater T.lNoLater.fn.kp T.lNoLater.bd .nil pass0
          (pa_cons (pe_call (ok_labels T) (hr.mono (by decide)) (by rfl) T.g_labels T.labels.fn.kp T.labels.bd .nil pass0 (pa_cons (pv 3) (pa_cons (pv 4) (pa_cons (pv 5) (pa_cons (pv 6) pa_nil)))))
          (pa_cons (pe_call (ok_labels T) (hr.mono (by decide)) (by rfl) T.g_labels T.labels.fn.kp T.labels.bd .nil pass0 (pa_cons (pv 8) (pa_cons (pv 4) (pa_cons (pv 5) (pa_cons (pv 6) pa_nil))))) pa_nil)))))))))))), ?_⟩
    -- numbers, parts, chart
    refine ⟨_, rfl, sc, cs, rfl, hS, hcl, fun H1 nl ns s1 hn hN => ?_⟩
    refine ⟨_, rfl, nl, ns, rfl, hn, hN, fun H2 l day ps ks rs bars s2 hP fit hr0 hr9 hp0 => ?_⟩
    have hn2 := s2 _ _ hn
    have hk0 : ks ≠ [] := fun e => by have := fit.kinds.1; rw [e] at this; cases this
    refine ⟨_, rfl, l, day, ps, ks, rs, bars, rfl, hP, fit, fun H3 ch c s3 hC made => ?_⟩
    have hP3 := hP.same s3
    have hn3 := s3 _ _ hn2
    -- trip
    refine ⟨_, rfl, _, rfl, l, nl, 92, ns, day, ps, ks, rs, bars, rfl, hP3, hn3, hN, by decide, by decide, fit.day.1, fit.day.2, hk0, hp0, fun H4 t k x m s4 ht hk hx => ?_⟩
    refine ⟨t, _, rfl, SqT.of ht, rfl, _, _, rfl, _, _, rfl, _, _, rfl, rfl, ?_⟩
    refine reset2 [some (.ref sc), some (.ref nl), some (.ref l), some (.ref ch), some (.str k), some (.str x), some (.int m), none, none, none] rfl ?_
    have hP4 := hP3.same s4
    have hn4 := s4 _ _ hn3
    have hC4 := hC.same s4
    -- freer
    refine ⟨_, rfl, _, rfl, l, nl, 100, ns, day, ps, ks, rs, bars, rfl, hP4, hn4, hN, by decide, by decide, fit, hr0, hr9, hp0, fun H5 l' rs' bars' s5 hP5 fr => ?_⟩
    have hC5 := hC4.same s5
    obtain ⟨pp, pk, pr, pb, us, bs, g1, g2, g3, g4, g5, g6, g7⟩ := id hP5
    obtain ⟨t0, q, ert⟩ : ∃ t0 q, rs' = t0 ++ [q] := by
      rcases List.eq_nil_or_concat rs' with e | ⟨t0, q, e⟩
      · exact absurd e fr.ne
      · exact ⟨t0, q, e.trans (List.concat_eq_append ..)⟩
    have hul := g5.length
    obtain ⟨ut, uv, eut⟩ : ∃ ut uv, us = ut ++ [uv] := by
      rcases List.eq_nil_or_concat us with e | ⟨ut, uv, e⟩
      · exact absurd (show rs' = [] from List.length_eq_zero_iff.mp (by rw [← hul, e]; rfl)) fr.ne
      · exact ⟨ut, uv, e.trans (List.concat_eq_append ..)⟩
    have hlast : atI us (-1) = some uv := by rw [eut]; exact atI_last _ _
    have hq : RoadV H5 uv q := by
      have hl : ut.length = t0.length := by
        rw [eut, ert, List.length_append, List.length_append] at hul
        simpa using hul
      have hu1 : us[ut.length]? = some uv := by rw [eut]; simp
      obtain ⟨q', hq', hv⟩ := Paired.at g5 hu1
      rw [ert, hl] at hq'
      have : q = q' := by simpa using hq'
      rw [this]
      exact hv
    obtain ⟨bq, kq1, hq1, rfl, hbq, _⟩ := hq
    have few := fr.len
    refine ⟨_, rfl, l', _, 3, _, rfl, rfl, SqL.of g1, atI_nat (j := 3) rfl, pr, rfl, ⟨_, SqL.of g4⟩, fun D hD => lc_list (K := K) (a := pr) (xs := us)
      (fun i H6 => Same H5 H6 ∧ ∃ ws, H6 D = some (.lst ws) ∧ ws.length = ((rs'.take i).filter fun r => decide (r.name = q.name)).length) ⟨Same.new hD, [], upd_same, rfl⟩ (fun i H6 _ ⟨s6, _⟩ => SqL.of (s6 _ _ g4)) ?_ ?_⟩
    · rintro i z H6 hz ⟨s6, ws, hD6, hwl⟩
      obtain ⟨r, hri, hv⟩ := Paired.at g5 hz
      obtain ⟨b, kk, hv', rfl, hb, _⟩ := hv
      have hil : i < rs'.length := (List.getElem?_eq_some_iff.mp hri).1
      have hfl := List.length_filter_le (fun r : Road => decide (r.name = q.name)) (rs'.take i)
      rw [List.length_take] at hfl
      refine ⟨rfl, _, rfl, b, _, 0, _, rfl, rfl, SqT.of (s6 _ _ hb), atI_nat (j := 0) rfl, _, rfl, l', _, 3, _, rfl, rfl, SqL.of (s6 _ _ g1), atI_nat (j := 3) rfl, _, rfl, pr, _, -1, _, rfl, rfl, SqL.of (s6 _ _ g4), hlast, bq, _, 0, _, rfl, rfl, SqT.of (s6 _ _ hbq), atI_nat (j := 0) rfl, rfl, _, rfl, ?_⟩
      refine ite2 (fun hcx => ?_) (fun hcx => ?_)
      · have e : r.name = q.name := by simpa using hcx
        refine ⟨_, rfl, _, hD6, size60 (by omega), Same.put s6 hD, ws ++ [.ref b], upd_same, ?_⟩
        rw [take_snoc hri, List.filter_append, List.length_append, List.length_append, hwl, List.filter_cons_of_pos (by simpa using e)]
        rfl
      · have e : ¬ r.name = q.name := by simpa using hcx
        refine ⟨s6, ws, hD6, ?_⟩
        rw [take_snoc hri, List.filter_append, List.length_append, hwl, List.filter_cons_of_neg (by simpa using e)]
        rfl
    rintro H6 ⟨s6, ws, hD6, hwl⟩
    rw [hul, List.take_length] at hwl
    refine ⟨D, _, rfl, .inl (SqL.of hD6), _, _, rfl, rfl, _, rfl, ?_⟩
    refine ite2 (fun _ => kq _) (fun hc => ?_)
    have hc1 : ¬ (1 : Int) < (ws.length : Int) := fun z => hc (decide_eq_true z)
    have fit' := Freed.fit fit fr (Freed.nodup fit fr ert (by omega))
    -- the other chart
    refine ⟨_, rfl, l', day, ps, ks, rs', bars', rfl, hP5.same s6, fit', fun H7 ch' c' s7 hC' made' => ?_⟩
    have hC7 := (hC5.same s6).same s7
    have ok := Made.ok fit made
    have ok' := Made.ok fit' made'
    have fre := Freed.freer fr made made'
    have ask : Asked c k := ⟨ok, made.kinds.mem_iff.mpr hk⟩
    have ask' : Asked c' k := ⟨ok', made'.kinds.mem_iff.mpr hk⟩
    have hx1 := made.places.mem_iff.mpr hx
    have hx2 := made'.places.mem_iff.mpr hx
    -- places
    refine ⟨_, rfl, _, rfl, _, rfl, _, rfl, ch, c, k, x, m, rfl, hC7, ask, hx1, fun H8 p1 L1 A1 F1 s8 hL1 _ hG1 hA1 hF1 => ?_⟩
    refine ⟨_, rfl, _, rfl, _, rfl, _, rfl, ch', c', k, x, m, rfl, hC'.same s8, ask', hx2, fun H9 p2 L2' A2 F2 s9 hL2 hl2 hG2 hA2 hF2 => ?_⟩
    refine ⟨p1, p2, L1, L2', F1, F2, rfl, hL1.same s9, hL2, hl2, hG1, hG2, fun n t h => WP.Places.law ok ok' fre hA1 hA2 hF1 hF2 h, fun H10 s10 => ⟨_, rfl, ?_⟩⟩
    refine iteF ?_
    have hC10 := ((hC7.same s8).same s9).same s10
    have hC10' := ((hC'.same s8).same s9).same s10
    -- labels
    refine ⟨_, rfl, _, rfl, _, rfl, _, rfl, ch, c, k, x, m, rfl, hC10, ask, hx1, fun H11 p3 L3 A3 s11 hL3 _ hG3 hA3 => ?_⟩
    refine ⟨_, rfl, _, rfl, _, rfl, _, rfl, ch', c', k, x, m, rfl, hC10'.same s11, ask', hx2, fun H12 p4 L4 A4 s12 hL4 hl4 hG4 hA4 => ?_⟩
    exact ⟨p3, p4, L3, L4, A3, A4, rfl, hL3.same s12, hL4, hl4, hG3, hG4, fun n t h => WP.Labels.law ok ok' fre hA3 hA4 h, fun H13 _ => kq H13⟩
end
end K17

set_option Elab.async false
set_option linter.all false
set_option maxRecDepth 100000
set_option maxHeartbeats 4000000
/-! The facts of the top put together. Printed by gen_end.py. -/
namespace K17
open PySem L2 WR
theorem all_mk {l : PySem.W.OpenLaw} {w : World} {K : PySem.W.Frag} {h : Heap} {mg : Str → Option Value} {fa cM cS pN f_checkKind f_checkTrip f_enter f_arrive f_sInit f_sOffer f_sSettle f_labels f_placesFrom f_isName f_areDiff f_areHours f_nameOf f_require f_mInit f_checked f_checkedBar f_roadNames f_road f_checkPlace f_roadsFrom f_followers f_mCheckKind f_mayUse f_lRow f_lNumbers f_lNames f_lSome f_lHours f_lMap f_lMade f_lTrip f_lFreer f_lNoLater f_law : Addr} (X : K.In h) (G : h.Ns mainGlobals mg) (hfa : mg "law" = some (.ref fa))
    {od_checkKind an_checkKind od_checkTrip an_checkTrip od_enter an_enter od_arrive an_arrive od_sInit an_sInit od_sOffer an_sOffer od_sSettle an_sSettle od_labels an_labels od_placesFrom an_placesFrom od_isName an_isName od_areDiff an_areDiff od_areHours an_areHours od_nameOf an_nameOf od_require an_require od_mInit an_mInit od_checked an_checked od_checkedBar an_checkedBar od_roadNames an_roadNames od_road an_road od_checkPlace an_checkPlace od_roadsFrom an_roadsFrom od_followers an_followers od_mCheckKind an_mCheckKind od_mayUse an_mayUse od_lRow an_lRow od_lNumbers an_lNumbers od_lNames an_lNames od_lSome an_lSome od_lHours an_lHours od_lMap an_lMap od_lMade an_lMade od_lTrip an_lTrip od_lFreer an_lFreer od_lNoLater an_lNoLater od_law an_law : Option Addr}
    {sl_checkKind sl_checkTrip sl_enter sl_arrive sl_sInit sl_sOffer sl_sSettle sl_labels sl_placesFrom sl_isName sl_areDiff sl_areHours sl_nameOf sl_require sl_mInit sl_checked sl_checkedBar sl_roadNames sl_road sl_checkPlace sl_roadsFrom sl_followers sl_mCheckKind sl_mayUse sl_lRow sl_lNumbers sl_lNames sl_lSome sl_lHours sl_lMap sl_lMade sl_lTrip sl_lFreer sl_lNoLater sl_law : Array (Option Value)}
    {oc_checkKind kV_checkKind dc_checkKind pm_checkKind cd_checkKind ct_checkKind oc_checkTrip kV_checkTrip dc_checkTrip pm_checkTrip cd_checkTrip ct_checkTrip oc_enter kV_enter dc_enter pm_enter cd_enter ct_enter oc_arrive kV_arrive dc_arrive pm_arrive cd_arrive ct_arrive oc_sInit kV_sInit dc_sInit pm_sInit cd_sInit ct_sInit oc_sOffer kV_sOffer dc_sOffer pm_sOffer cd_sOffer ct_sOffer oc_sSettle kV_sSettle dc_sSettle pm_sSettle cd_sSettle ct_sSettle oc_labels kV_labels dc_labels pm_labels cd_labels ct_labels oc_placesFrom kV_placesFrom dc_placesFrom pm_placesFrom cd_placesFrom ct_placesFrom oc_isName kV_isName dc_isName pm_isName cd_isName ct_isName oc_areDiff kV_areDiff dc_areDiff pm_areDiff cd_areDiff ct_areDiff oc_areHours kV_areHours dc_areHours pm_areHours cd_areHours ct_areHours oc_nameOf kV_nameOf dc_nameOf pm_nameOf cd_nameOf ct_nameOf oc_require kV_require dc_require pm_require cd_require ct_require oc_mInit kV_mInit dc_mInit pm_mInit cd_mInit ct_mInit oc_checked kV_checked dc_checked pm_checked cd_checked ct_checked oc_checkedBar kV_checkedBar dc_checkedBar pm_checkedBar cd_checkedBar ct_checkedBar oc_roadNames kV_roadNames dc_roadNames pm_roadNames cd_roadNames ct_roadNames oc_road kV_road dc_road pm_road cd_road ct_road oc_checkPlace kV_checkPlace dc_checkPlace pm_checkPlace cd_checkPlace ct_checkPlace oc_roadsFrom kV_roadsFrom dc_roadsFrom pm_roadsFrom cd_roadsFrom ct_roadsFrom oc_followers kV_followers dc_followers pm_followers cd_followers ct_followers oc_mCheckKind kV_mCheckKind dc_mCheckKind pm_mCheckKind cd_mCheckKind ct_mCheckKind oc_mayUse kV_mayUse dc_mayUse pm_mayUse cd_mayUse ct_mayUse oc_lRow kV_lRow dc_lRow pm_lRow cd_lRow ct_lRow oc_lNumbers kV_lNumbers dc_lNumbers pm_lNumbers cd_lNumbers ct_lNumbers oc_lNames kV_lNames dc_lNames pm_lNames cd_lNames ct_lNames oc_lSome kV_lSome dc_lSome pm_lSome cd_lSome ct_lSome oc_lHours kV_lHours dc_lHours pm_lHours cd_lHours ct_lHours oc_lMap kV_lMap dc_lMap pm_lMap cd_lMap ct_lMap oc_lMade kV_lMade dc_lMade pm_lMade cd_lMade ct_lMade oc_lTrip kV_lTrip dc_lTrip pm_lTrip cd_lTrip ct_lTrip oc_lFreer kV_lFreer dc_lFreer pm_lFreer cd_lFreer ct_lFreer oc_lNoLater kV_lNoLater dc_lNoLater pm_lNoLater cd_lNoLater ct_lNoLater oc_law kV_law dc_law pm_law cd_law ct_law : Value}
    (aM : PySem.W.nsIn K mainGlobals "Map" = some (some (.ref cM)))
    (aS : PySem.W.nsIn K mainGlobals "Search" = some (some (.ref cS)))
    (pA : PySem.W.findIn K (.ref cM) "road_names" = some (some (.ref pN)))
    (pG : PySem.W.specialIn K (.ref pN) "__get__" = some (some (.builtin "property.__get__")))
    (pT : PySem.W.takesIn K (.ref pN) = some true) {rest : List Value}
    (pR : PySem.W.recIn K pN "property" = some (.ref f_roadNames :: rest))
    (a_checkKind : PySem.W.nsIn K mainGlobals "check_kind" = some (some (.ref f_checkKind)))
    (l_checkKind : K.lookup f_checkKind = some ⟨oc_checkKind, od_checkKind, .func (PySem.W.fnOf "check_kind" "check_kind" (defArgs st_checkKind) (defBody st_checkKind) (defScope st_checkKind) .none kV_checkKind dc_checkKind pm_checkKind an_checkKind cd_checkKind ct_checkKind), sl_checkKind⟩)
    (c_checkKind : PySem.W.codeIn K cd_checkKind "check_kind" = true)
    (k_checkKind : PySem.W.keepIn K (.ref f_checkKind) = true)
    (a_checkTrip : PySem.W.nsIn K mainGlobals "check_trip" = some (some (.ref f_checkTrip)))
    (l_checkTrip : K.lookup f_checkTrip = some ⟨oc_checkTrip, od_checkTrip, .func (PySem.W.fnOf "check_trip" "check_trip" (defArgs st_checkTrip) (defBody st_checkTrip) (defScope st_checkTrip) .none kV_checkTrip dc_checkTrip pm_checkTrip an_checkTrip cd_checkTrip ct_checkTrip), sl_checkTrip⟩)
    (c_checkTrip : PySem.W.codeIn K cd_checkTrip "check_trip" = true)
    (k_checkTrip : PySem.W.keepIn K (.ref f_checkTrip) = true)
    (a_enter : PySem.W.nsIn K mainGlobals "enter" = some (some (.ref f_enter)))
    (l_enter : K.lookup f_enter = some ⟨oc_enter, od_enter, .func (PySem.W.fnOf "enter" "enter" (defArgs st_enter) (defBody st_enter) (defScope st_enter) .none kV_enter dc_enter pm_enter an_enter cd_enter ct_enter), sl_enter⟩)
    (c_enter : PySem.W.codeIn K cd_enter "enter" = true)
    (k_enter : PySem.W.keepIn K (.ref f_enter) = true)
    (a_arrive : PySem.W.nsIn K mainGlobals "arrive" = some (some (.ref f_arrive)))
    (l_arrive : K.lookup f_arrive = some ⟨oc_arrive, od_arrive, .func (PySem.W.fnOf "arrive" "arrive" (defArgs st_arrive) (defBody st_arrive) (defScope st_arrive) .none kV_arrive dc_arrive pm_arrive an_arrive cd_arrive ct_arrive), sl_arrive⟩)
    (c_arrive : PySem.W.codeIn K cd_arrive "arrive" = true)
    (k_arrive : PySem.W.keepIn K (.ref f_arrive) = true)
    (a_sInit : PySem.W.findIn K (.ref cS) "__init__" = some (some (.ref f_sInit)))
    (i_sInit : PySem.W.isFn K (.ref f_sInit) = true)
    (l_sInit : K.lookup f_sInit = some ⟨oc_sInit, od_sInit, .func (PySem.W.fnOf "__init__" "Search.__init__" (defArgs st_sInit) (defBody st_sInit) (defScope st_sInit) .none kV_sInit dc_sInit pm_sInit an_sInit cd_sInit ct_sInit), sl_sInit⟩)
    (c_sInit : PySem.W.codeIn K cd_sInit "Search.__init__" = true)
    (k_sInit : PySem.W.keepIn K (.ref f_sInit) = true)
    (a_sOffer : PySem.W.findIn K (.ref cS) "offer" = some (some (.ref f_sOffer)))
    (i_sOffer : PySem.W.isFn K (.ref f_sOffer) = true)
    (l_sOffer : K.lookup f_sOffer = some ⟨oc_sOffer, od_sOffer, .func (PySem.W.fnOf "offer" "Search.offer" (defArgs st_sOffer) (defBody st_sOffer) (defScope st_sOffer) .none kV_sOffer dc_sOffer pm_sOffer an_sOffer cd_sOffer ct_sOffer), sl_sOffer⟩)
    (c_sOffer : PySem.W.codeIn K cd_sOffer "Search.offer" = true)
    (k_sOffer : PySem.W.keepIn K (.ref f_sOffer) = true)
    (a_sSettle : PySem.W.findIn K (.ref cS) "settle" = some (some (.ref f_sSettle)))
    (i_sSettle : PySem.W.isFn K (.ref f_sSettle) = true)
    (l_sSettle : K.lookup f_sSettle = some ⟨oc_sSettle, od_sSettle, .func (PySem.W.fnOf "settle" "Search.settle" (defArgs st_sSettle) (defBody st_sSettle) (defScope st_sSettle) .none kV_sSettle dc_sSettle pm_sSettle an_sSettle cd_sSettle ct_sSettle), sl_sSettle⟩)
    (c_sSettle : PySem.W.codeIn K cd_sSettle "Search.settle" = true)
    (k_sSettle : PySem.W.keepIn K (.ref f_sSettle) = true)
    (a_labels : PySem.W.nsIn K mainGlobals "labels" = some (some (.ref f_labels)))
    (l_labels : K.lookup f_labels = some ⟨oc_labels, od_labels, .func (PySem.W.fnOf "labels" "labels" (defArgs st_labels) (defBody st_labels) (defScope st_labels) .none kV_labels dc_labels pm_labels an_labels cd_labels ct_labels), sl_labels⟩)
    (c_labels : PySem.W.codeIn K cd_labels "labels" = true)
    (k_labels : PySem.W.keepIn K (.ref f_labels) = true)
    (a_placesFrom : PySem.W.nsIn K mainGlobals "places_from" = some (some (.ref f_placesFrom)))
    (l_placesFrom : K.lookup f_placesFrom = some ⟨oc_placesFrom, od_placesFrom, .func (PySem.W.fnOf "places_from" "places_from" (defArgs st_placesFrom) (defBody st_placesFrom) (defScope st_placesFrom) .none kV_placesFrom dc_placesFrom pm_placesFrom an_placesFrom cd_placesFrom ct_placesFrom), sl_placesFrom⟩)
    (c_placesFrom : PySem.W.codeIn K cd_placesFrom "places_from" = true)
    (k_placesFrom : PySem.W.keepIn K (.ref f_placesFrom) = true)
    (a_isName : PySem.W.nsIn K mainGlobals "is_name" = some (some (.ref f_isName)))
    (l_isName : K.lookup f_isName = some ⟨oc_isName, od_isName, .func (PySem.W.fnOf "is_name" "is_name" (defArgs st_isName) (defBody st_isName) (defScope st_isName) .none kV_isName dc_isName pm_isName an_isName cd_isName ct_isName), sl_isName⟩)
    (c_isName : PySem.W.codeIn K cd_isName "is_name" = true)
    (k_isName : PySem.W.keepIn K (.ref f_isName) = true)
    (a_areDiff : PySem.W.nsIn K mainGlobals "are_different" = some (some (.ref f_areDiff)))
    (l_areDiff : K.lookup f_areDiff = some ⟨oc_areDiff, od_areDiff, .func (PySem.W.fnOf "are_different" "are_different" (defArgs st_areDiff) (defBody st_areDiff) (defScope st_areDiff) .none kV_areDiff dc_areDiff pm_areDiff an_areDiff cd_areDiff ct_areDiff), sl_areDiff⟩)
    (c_areDiff : PySem.W.codeIn K cd_areDiff "are_different" = true)
    (k_areDiff : PySem.W.keepIn K (.ref f_areDiff) = true)
    (a_areHours : PySem.W.nsIn K mainGlobals "are_hours" = some (some (.ref f_areHours)))
    (l_areHours : K.lookup f_areHours = some ⟨oc_areHours, od_areHours, .func (PySem.W.fnOf "are_hours" "are_hours" (defArgs st_areHours) (defBody st_areHours) (defScope st_areHours) .none kV_areHours dc_areHours pm_areHours an_areHours cd_areHours ct_areHours), sl_areHours⟩)
    (c_areHours : PySem.W.codeIn K cd_areHours "are_hours" = true)
    (k_areHours : PySem.W.keepIn K (.ref f_areHours) = true)
    (a_nameOf : PySem.W.nsIn K mainGlobals "name_of" = some (some (.ref f_nameOf)))
    (l_nameOf : K.lookup f_nameOf = some ⟨oc_nameOf, od_nameOf, .func (PySem.W.fnOf "name_of" "name_of" (defArgs st_nameOf) (defBody st_nameOf) (defScope st_nameOf) .none kV_nameOf dc_nameOf pm_nameOf an_nameOf cd_nameOf ct_nameOf), sl_nameOf⟩)
    (c_nameOf : PySem.W.codeIn K cd_nameOf "name_of" = true)
    (k_nameOf : PySem.W.keepIn K (.ref f_nameOf) = true)
    (a_require : PySem.W.nsIn K mainGlobals "require" = some (some (.ref f_require)))
    (l_require : K.lookup f_require = some ⟨oc_require, od_require, .func (PySem.W.fnOf "require" "require" (defArgs st_require) (defBody st_require) (defScope st_require) .none kV_require dc_require pm_require an_require cd_require ct_require), sl_require⟩)
    (c_require : PySem.W.codeIn K cd_require "require" = true)
    (k_require : PySem.W.keepIn K (.ref f_require) = true)
    (a_mInit : PySem.W.findIn K (.ref cM) "__init__" = some (some (.ref f_mInit)))
    (i_mInit : PySem.W.isFn K (.ref f_mInit) = true)
    (l_mInit : K.lookup f_mInit = some ⟨oc_mInit, od_mInit, .func (PySem.W.fnOf "__init__" "Map.__init__" (defArgs st_mInit) (defBody st_mInit) (defScope st_mInit) .none kV_mInit dc_mInit pm_mInit an_mInit cd_mInit ct_mInit), sl_mInit⟩)
    (c_mInit : PySem.W.codeIn K cd_mInit "Map.__init__" = true)
    (k_mInit : PySem.W.keepIn K (.ref f_mInit) = true)
    (a_checked : PySem.W.findIn K (.ref cM) "checked" = some (some (.ref f_checked)))
    (i_checked : PySem.W.isFn K (.ref f_checked) = true)
    (l_checked : K.lookup f_checked = some ⟨oc_checked, od_checked, .func (PySem.W.fnOf "checked" "Map.checked" (defArgs st_checked) (defBody st_checked) (defScope st_checked) .none kV_checked dc_checked pm_checked an_checked cd_checked ct_checked), sl_checked⟩)
    (c_checked : PySem.W.codeIn K cd_checked "Map.checked" = true)
    (k_checked : PySem.W.keepIn K (.ref f_checked) = true)
    (a_checkedBar : PySem.W.findIn K (.ref cM) "checked_bar" = some (some (.ref f_checkedBar)))
    (i_checkedBar : PySem.W.isFn K (.ref f_checkedBar) = true)
    (l_checkedBar : K.lookup f_checkedBar = some ⟨oc_checkedBar, od_checkedBar, .func (PySem.W.fnOf "checked_bar" "Map.checked_bar" (defArgs st_checkedBar) (defBody st_checkedBar) (defScope st_checkedBar) .none kV_checkedBar dc_checkedBar pm_checkedBar an_checkedBar cd_checkedBar ct_checkedBar), sl_checkedBar⟩)
    (c_checkedBar : PySem.W.codeIn K cd_checkedBar "Map.checked_bar" = true)
    (k_checkedBar : PySem.W.keepIn K (.ref f_checkedBar) = true)
    (l_roadNames : K.lookup f_roadNames = some ⟨oc_roadNames, od_roadNames, .func (PySem.W.fnOf "road_names" "Map.road_names" (defArgs st_roadNames) (defBody st_roadNames) (defScope st_roadNames) .none kV_roadNames dc_roadNames pm_roadNames an_roadNames cd_roadNames ct_roadNames), sl_roadNames⟩)
    (c_roadNames : PySem.W.codeIn K cd_roadNames "Map.road_names" = true)
    (k_roadNames : PySem.W.keepIn K (.ref f_roadNames) = true)
    (a_road : PySem.W.findIn K (.ref cM) "road" = some (some (.ref f_road)))
    (i_road : PySem.W.isFn K (.ref f_road) = true)
    (l_road : K.lookup f_road = some ⟨oc_road, od_road, .func (PySem.W.fnOf "road" "Map.road" (defArgs st_road) (defBody st_road) (defScope st_road) .none kV_road dc_road pm_road an_road cd_road ct_road), sl_road⟩)
    (c_road : PySem.W.codeIn K cd_road "Map.road" = true)
    (k_road : PySem.W.keepIn K (.ref f_road) = true)
    (a_checkPlace : PySem.W.findIn K (.ref cM) "check_place" = some (some (.ref f_checkPlace)))
    (i_checkPlace : PySem.W.isFn K (.ref f_checkPlace) = true)
    (l_checkPlace : K.lookup f_checkPlace = some ⟨oc_checkPlace, od_checkPlace, .func (PySem.W.fnOf "check_place" "Map.check_place" (defArgs st_checkPlace) (defBody st_checkPlace) (defScope st_checkPlace) .none kV_checkPlace dc_checkPlace pm_checkPlace an_checkPlace cd_checkPlace ct_checkPlace), sl_checkPlace⟩)
    (c_checkPlace : PySem.W.codeIn K cd_checkPlace "Map.check_place" = true)
    (k_checkPlace : PySem.W.keepIn K (.ref f_checkPlace) = true)
    (a_roadsFrom : PySem.W.findIn K (.ref cM) "roads_from" = some (some (.ref f_roadsFrom)))
    (i_roadsFrom : PySem.W.isFn K (.ref f_roadsFrom) = true)
    (l_roadsFrom : K.lookup f_roadsFrom = some ⟨oc_roadsFrom, od_roadsFrom, .func (PySem.W.fnOf "roads_from" "Map.roads_from" (defArgs st_roadsFrom) (defBody st_roadsFrom) (defScope st_roadsFrom) .none kV_roadsFrom dc_roadsFrom pm_roadsFrom an_roadsFrom cd_roadsFrom ct_roadsFrom), sl_roadsFrom⟩)
    (c_roadsFrom : PySem.W.codeIn K cd_roadsFrom "Map.roads_from" = true)
    (k_roadsFrom : PySem.W.keepIn K (.ref f_roadsFrom) = true)
    (a_followers : PySem.W.findIn K (.ref cM) "followers" = some (some (.ref f_followers)))
    (i_followers : PySem.W.isFn K (.ref f_followers) = true)
    (l_followers : K.lookup f_followers = some ⟨oc_followers, od_followers, .func (PySem.W.fnOf "followers" "Map.followers" (defArgs st_followers) (defBody st_followers) (defScope st_followers) .none kV_followers dc_followers pm_followers an_followers cd_followers ct_followers), sl_followers⟩)
    (c_followers : PySem.W.codeIn K cd_followers "Map.followers" = true)
    (k_followers : PySem.W.keepIn K (.ref f_followers) = true)
    (a_mCheckKind : PySem.W.findIn K (.ref cM) "check_kind" = some (some (.ref f_mCheckKind)))
    (i_mCheckKind : PySem.W.isFn K (.ref f_mCheckKind) = true)
    (l_mCheckKind : K.lookup f_mCheckKind = some ⟨oc_mCheckKind, od_mCheckKind, .func (PySem.W.fnOf "check_kind" "Map.check_kind" (defArgs st_mCheckKind) (defBody st_mCheckKind) (defScope st_mCheckKind) .none kV_mCheckKind dc_mCheckKind pm_mCheckKind an_mCheckKind cd_mCheckKind ct_mCheckKind), sl_mCheckKind⟩)
    (c_mCheckKind : PySem.W.codeIn K cd_mCheckKind "Map.check_kind" = true)
    (k_mCheckKind : PySem.W.keepIn K (.ref f_mCheckKind) = true)
    (a_mayUse : PySem.W.findIn K (.ref cM) "may_use" = some (some (.ref f_mayUse)))
    (i_mayUse : PySem.W.isFn K (.ref f_mayUse) = true)
    (l_mayUse : K.lookup f_mayUse = some ⟨oc_mayUse, od_mayUse, .func (PySem.W.fnOf "may_use" "Map.may_use" (defArgs st_mayUse) (defBody st_mayUse) (defScope st_mayUse) .none kV_mayUse dc_mayUse pm_mayUse an_mayUse cd_mayUse ct_mayUse), sl_mayUse⟩)
    (c_mayUse : PySem.W.codeIn K cd_mayUse "Map.may_use" = true)
    (k_mayUse : PySem.W.keepIn K (.ref f_mayUse) = true)
    (a_lRow : PySem.W.nsIn K mainGlobals "_law_row" = some (some (.ref f_lRow)))
    (l_lRow : K.lookup f_lRow = some ⟨oc_lRow, od_lRow, .func (PySem.W.fnOf "_law_row" "_law_row" (defArgs st_lRow) (defBody st_lRow) (defScope st_lRow) .none kV_lRow dc_lRow pm_lRow an_lRow cd_lRow ct_lRow), sl_lRow⟩)
    (c_lRow : PySem.W.codeIn K cd_lRow "_law_row" = true)
    (k_lRow : PySem.W.keepIn K (.ref f_lRow) = true)
    (a_lNumbers : PySem.W.nsIn K mainGlobals "_law_numbers" = some (some (.ref f_lNumbers)))
    (l_lNumbers : K.lookup f_lNumbers = some ⟨oc_lNumbers, od_lNumbers, .func (PySem.W.fnOf "_law_numbers" "_law_numbers" (defArgs st_lNumbers) (defBody st_lNumbers) (defScope st_lNumbers) .none kV_lNumbers dc_lNumbers pm_lNumbers an_lNumbers cd_lNumbers ct_lNumbers), sl_lNumbers⟩)
    (c_lNumbers : PySem.W.codeIn K cd_lNumbers "_law_numbers" = true)
    (k_lNumbers : PySem.W.keepIn K (.ref f_lNumbers) = true)
    (a_lNames : PySem.W.nsIn K mainGlobals "_law_names" = some (some (.ref f_lNames)))
    (l_lNames : K.lookup f_lNames = some ⟨oc_lNames, od_lNames, .func (PySem.W.fnOf "_law_names" "_law_names" (defArgs st_lNames) (defBody st_lNames) (defScope st_lNames) .none kV_lNames dc_lNames pm_lNames an_lNames cd_lNames ct_lNames), sl_lNames⟩)
    (c_lNames : PySem.W.codeIn K cd_lNames "_law_names" = true)
    (k_lNames : PySem.W.keepIn K (.ref f_lNames) = true)
    (a_lSome : PySem.W.nsIn K mainGlobals "_law_some" = some (some (.ref f_lSome)))
    (l_lSome : K.lookup f_lSome = some ⟨oc_lSome, od_lSome, .func (PySem.W.fnOf "_law_some" "_law_some" (defArgs st_lSome) (defBody st_lSome) (defScope st_lSome) .none kV_lSome dc_lSome pm_lSome an_lSome cd_lSome ct_lSome), sl_lSome⟩)
    (c_lSome : PySem.W.codeIn K cd_lSome "_law_some" = true)
    (k_lSome : PySem.W.keepIn K (.ref f_lSome) = true)
    (a_lHours : PySem.W.nsIn K mainGlobals "_law_hours" = some (some (.ref f_lHours)))
    (l_lHours : K.lookup f_lHours = some ⟨oc_lHours, od_lHours, .func (PySem.W.fnOf "_law_hours" "_law_hours" (defArgs st_lHours) (defBody st_lHours) (defScope st_lHours) .none kV_lHours dc_lHours pm_lHours an_lHours cd_lHours ct_lHours), sl_lHours⟩)
    (c_lHours : PySem.W.codeIn K cd_lHours "_law_hours" = true)
    (k_lHours : PySem.W.keepIn K (.ref f_lHours) = true)
    (a_lMap : PySem.W.nsIn K mainGlobals "_law_map" = some (some (.ref f_lMap)))
    (l_lMap : K.lookup f_lMap = some ⟨oc_lMap, od_lMap, .func (PySem.W.fnOf "_law_map" "_law_map" (defArgs st_lMap) (defBody st_lMap) (defScope st_lMap) .none kV_lMap dc_lMap pm_lMap an_lMap cd_lMap ct_lMap), sl_lMap⟩)
    (c_lMap : PySem.W.codeIn K cd_lMap "_law_map" = true)
    (k_lMap : PySem.W.keepIn K (.ref f_lMap) = true)
    (a_lMade : PySem.W.nsIn K mainGlobals "_law_made" = some (some (.ref f_lMade)))
    (l_lMade : K.lookup f_lMade = some ⟨oc_lMade, od_lMade, .func (PySem.W.fnOf "_law_made" "_law_made" (defArgs st_lMade) (defBody st_lMade) (defScope st_lMade) .none kV_lMade dc_lMade pm_lMade an_lMade cd_lMade ct_lMade), sl_lMade⟩)
    (c_lMade : PySem.W.codeIn K cd_lMade "_law_made" = true)
    (k_lMade : PySem.W.keepIn K (.ref f_lMade) = true)
    (a_lTrip : PySem.W.nsIn K mainGlobals "_law_trip" = some (some (.ref f_lTrip)))
    (l_lTrip : K.lookup f_lTrip = some ⟨oc_lTrip, od_lTrip, .func (PySem.W.fnOf "_law_trip" "_law_trip" (defArgs st_lTrip) (defBody st_lTrip) (defScope st_lTrip) .none kV_lTrip dc_lTrip pm_lTrip an_lTrip cd_lTrip ct_lTrip), sl_lTrip⟩)
    (c_lTrip : PySem.W.codeIn K cd_lTrip "_law_trip" = true)
    (k_lTrip : PySem.W.keepIn K (.ref f_lTrip) = true)
    (a_lFreer : PySem.W.nsIn K mainGlobals "_law_freer" = some (some (.ref f_lFreer)))
    (l_lFreer : K.lookup f_lFreer = some ⟨oc_lFreer, od_lFreer, .func (PySem.W.fnOf "_law_freer" "_law_freer" (defArgs st_lFreer) (defBody st_lFreer) (defScope st_lFreer) .none kV_lFreer dc_lFreer pm_lFreer an_lFreer cd_lFreer ct_lFreer), sl_lFreer⟩)
    (c_lFreer : PySem.W.codeIn K cd_lFreer "_law_freer" = true)
    (k_lFreer : PySem.W.keepIn K (.ref f_lFreer) = true)
    (a_lNoLater : PySem.W.nsIn K mainGlobals "_law_no_later" = some (some (.ref f_lNoLater)))
    (l_lNoLater : K.lookup f_lNoLater = some ⟨oc_lNoLater, od_lNoLater, .func (PySem.W.fnOf "_law_no_later" "_law_no_later" (defArgs st_lNoLater) (defBody st_lNoLater) (defScope st_lNoLater) .none kV_lNoLater dc_lNoLater pm_lNoLater an_lNoLater cd_lNoLater ct_lNoLater), sl_lNoLater⟩)
    (c_lNoLater : PySem.W.codeIn K cd_lNoLater "_law_no_later" = true)
    (k_lNoLater : PySem.W.keepIn K (.ref f_lNoLater) = true)
    (a_law : PySem.W.nsIn K mainGlobals "law" = some (some (.ref f_law)))
    (l_law : K.lookup f_law = some ⟨oc_law, od_law, .func (PySem.W.fnOf "law" "law" (defArgs st_law) (defBody st_law) (defScope st_law) .none kV_law dc_law pm_law an_law cd_law ct_law), sl_law⟩)
    (c_law : PySem.W.codeIn K cd_law "law" = true)
    (k_law : PySem.W.keepIn K (.ref f_law) = true)
    (pg_cM : PySem.W.plainGet K cM Str.empty = true)
    (hd_cM : PySem.W.hasDictIn K cM = true)
    (po_cM : PySem.W.plainOver K cM = true)
    (sa_cM : PySem.W.findIn K (.ref cM) "__setattr__" = some (some (.builtin "object.__setattr__")))
    (mk_cM : PySem.W.makesIn K cM = true)
    (kc_cM : PySem.W.keepIn K (.ref cM) = true)
    (pg_cS : PySem.W.plainGet K cS Str.empty = true)
    (hd_cS : PySem.W.hasDictIn K cS = true)
    (po_cS : PySem.W.plainOver K cS = true)
    (sa_cS : PySem.W.findIn K (.ref cS) "__setattr__" = some (some (.builtin "object.__setattr__")))
    (mk_cS : PySem.W.makesIn K cS = true)
    (kc_cS : PySem.W.keepIn K (.ref cS) = true)
    (nM_day : PySem.W.findIn K (.ref cM) "day" = some none)
    (nM_places : PySem.W.findIn K (.ref cM) "places" = some none)
    (nM_kinds : PySem.W.findIn K (.ref cM) "kinds" = some none)
    (nM_roads : PySem.W.findIn K (.ref cM) "roads" = some none)
    (nM_bars : PySem.W.findIn K (.ref cM) "bars" = some none)
    (nS_chart : PySem.W.findIn K (.ref cS) "chart" = some none)
    (nS_kind : PySem.W.findIn K (.ref cS) "kind" = some none)
    (nS_arrivals : PySem.W.findIn K (.ref cS) "arrivals" = some none)
    (nS_sources : PySem.W.findIn K (.ref cS) "sources" = some none)
    (nS_waiting : PySem.W.findIn K (.ref cS) "waiting" = some none)
    {t_NAME_CHARS : _}
    (v_NAME_CHARS : PySem.W.nsIn K mainGlobals "NAME_CHARS" = some (some (.str "abcdefghijklmnopqrstuvwxyz0123456789" t_NAME_CHARS)))
    {t_MOST_NAME_CHARS : _}
    (v_MOST_NAME_CHARS : PySem.W.nsIn K mainGlobals "MOST_NAME_CHARS" = some (some (.int 12 t_MOST_NAME_CHARS)))
    {t_MOST_DAY : _}
    (v_MOST_DAY : PySem.W.nsIn K mainGlobals "MOST_DAY" = some (some (.int 1440 t_MOST_DAY)))
    {t_MOST_PLACES : _}
    (v_MOST_PLACES : PySem.W.nsIn K mainGlobals "MOST_PLACES" = some (some (.int 30 t_MOST_PLACES)))
    {t_MOST_KINDS : _}
    (v_MOST_KINDS : PySem.W.nsIn K mainGlobals "MOST_KINDS" = some (some (.int 4 t_MOST_KINDS)))
    {t_MOST_ROADS : _}
    (v_MOST_ROADS : PySem.W.nsIn K mainGlobals "MOST_ROADS" = some (some (.int 60 t_MOST_ROADS)))
    {t_MOST_BARS : _}
    (v_MOST_BARS : PySem.W.nsIn K mainGlobals "MOST_BARS" = some (some (.int 40 t_MOST_BARS)))
    {t_MOST_MINUTES : _}
    (v_MOST_MINUTES : PySem.W.nsIn K mainGlobals "MOST_MINUTES" = some (some (.int 1000 t_MOST_MINUTES)))
    {t_MOST_HOURS : _}
    (v_MOST_HOURS : PySem.W.nsIn K mainGlobals "MOST_HOURS" = some (some (.int 4 t_MOST_HOURS)))
    {t_ROAD_PARTS : _}
    (v_ROAD_PARTS : PySem.W.nsIn K mainGlobals "ROAD_PARTS" = some (some (.int 6 t_ROAD_PARTS)))
    (b_max : PySem.W.nsIn K mainGlobals "max" = some none)
    (b_min : PySem.W.nsIn K mainGlobals "min" = some none)
    (b_len : PySem.W.nsIn K mainGlobals "len" = some none)
    (b_all : PySem.W.nsIn K mainGlobals "all" = some none)
    (b_tuple : PySem.W.nsIn K mainGlobals "tuple" = some none)
    (b_sorted : PySem.W.nsIn K mainGlobals "sorted" = some none)
    (b_list : PySem.W.nsIn K mainGlobals "list" = some none)
    (b_abs : PySem.W.nsIn K mainGlobals "abs" = some none)
    (b_int : PySem.W.nsIn K mainGlobals "int" = some none)
    (b_range : PySem.W.nsIn K mainGlobals "range" = some none)
    (b_enumerate : PySem.W.nsIn K mainGlobals "enumerate" = some none) :
    ∃ fd : FuncData, (∀ (s : Shared) (v : Value), BindsTo s fd ⟨[v], []⟩ [("_law_script", v)]) ∧ ∀ base : Heap, K.In base → base.Ns mainGlobals mg → FnOk l.prog w K mg base CX0 10 fa fd ["_law_script"] (spLaw K) := by
  have e := hfa.symm.trans (PySem.W.mg_of X G a_law)
  cases e
  have F_checkKind := fun_mk (st := st_checkKind) l_checkKind c_checkKind k_checkKind
  have b1_checkKind := F_checkKind.binds (ps := ["chart", "kind"]) fun _ _ _ _ _ _ us hl => match us, hl with | [_, _], _ => rfl
  have F_checkTrip := fun_mk (st := st_checkTrip) l_checkTrip c_checkTrip k_checkTrip
  have b1_checkTrip := F_checkTrip.binds (ps := ["chart", "kind", "start"]) fun _ _ _ _ _ _ us hl => match us, hl with | [_, _, _], _ => rfl
  have F_enter := fun_mk (st := st_enter) l_enter c_enter k_enter
  have b1_enter := F_enter.binds (ps := ["chart", "name", "moment"]) fun _ _ _ _ _ _ us hl => match us, hl with | [_, _, _], _ => rfl
  have F_arrive := fun_mk (st := st_arrive) l_arrive c_arrive k_arrive
  have b1_arrive := F_arrive.binds (ps := ["chart", "name", "moment"]) fun _ _ _ _ _ _ us hl => match us, hl with | [_, _, _], _ => rfl
  have F_sInit := fun_mk (st := st_sInit) l_sInit c_sInit k_sInit
  have b1_sInit := F_sInit.binds (ps := ["self", "chart", "kind", "start", "moment"]) fun _ _ _ _ _ _ us hl => match us, hl with | [_, _, _, _, _], _ => rfl
  have F_sOffer := fun_mk (st := st_sOffer) l_sOffer c_sOffer k_sOffer
  have b1_sOffer := F_sOffer.binds (ps := ["self", "names", "moment", "source"]) fun _ _ _ _ _ _ us hl => match us, hl with | [_, _, _, _], _ => rfl
  have F_sSettle := fun_mk (st := st_sSettle) l_sSettle c_sSettle k_sSettle
  have b1_sSettle := F_sSettle.binds (ps := ["self"]) fun _ _ _ _ _ _ us hl => match us, hl with | [_], _ => rfl
  have F_labels := fun_mk (st := st_labels) l_labels c_labels k_labels
  have b1_labels := F_labels.binds (ps := ["chart", "kind", "start", "moment"]) fun _ _ _ _ _ _ us hl => match us, hl with | [_, _, _, _], _ => rfl
  have F_placesFrom := fun_mk (st := st_placesFrom) l_placesFrom c_placesFrom k_placesFrom
  have b1_placesFrom := F_placesFrom.binds (ps := ["chart", "kind", "start", "moment"]) fun _ _ _ _ _ _ us hl => match us, hl with | [_, _, _, _], _ => rfl
  have F_isName := fun_mk (st := st_isName) l_isName c_isName k_isName
  have b1_isName := F_isName.binds (ps := ["text"]) fun _ _ _ _ _ _ us hl => match us, hl with | [_], _ => rfl
  have F_areDiff := fun_mk (st := st_areDiff) l_areDiff c_areDiff k_areDiff
  have b1_areDiff := F_areDiff.binds (ps := ["parts"]) fun _ _ _ _ _ _ us hl => match us, hl with | [_], _ => rfl
  have F_areHours := fun_mk (st := st_areHours) l_areHours c_areHours k_areHours
  have b1_areHours := F_areHours.binds (ps := ["hours", "day"]) fun _ _ _ _ _ _ us hl => match us, hl with | [_, _], _ => rfl
  have F_nameOf := fun_mk (st := st_nameOf) l_nameOf c_nameOf k_nameOf
  have b1_nameOf := F_nameOf.binds (ps := ["road"]) fun _ _ _ _ _ _ us hl => match us, hl with | [_], _ => rfl
  have F_require := fun_mk (st := st_require) l_require c_require k_require
  have b1_require := F_require.binds (ps := ["holds"]) fun _ _ _ _ _ _ us hl => match us, hl with | [_], _ => rfl
  have F_mInit := fun_mk (st := st_mInit) l_mInit c_mInit k_mInit
  have F_checked := fun_mk (st := st_checked) l_checked c_checked k_checked
  have b1_checked := F_checked.binds (ps := ["self", "road"]) fun _ _ _ _ _ _ us hl => match us, hl with | [_, _], _ => rfl
  have F_checkedBar := fun_mk (st := st_checkedBar) l_checkedBar c_checkedBar k_checkedBar
  have b1_checkedBar := F_checkedBar.binds (ps := ["self", "bar"]) fun _ _ _ _ _ _ us hl => match us, hl with | [_, _], _ => rfl
  have F_roadNames := fun_mk (st := st_roadNames) l_roadNames c_roadNames k_roadNames
  have b1_roadNames := F_roadNames.binds (ps := ["self"]) fun _ _ _ _ _ _ us hl => match us, hl with | [_], _ => rfl
  have F_road := fun_mk (st := st_road) l_road c_road k_road
  have b1_road := F_road.binds (ps := ["self", "name"]) fun _ _ _ _ _ _ us hl => match us, hl with | [_, _], _ => rfl
  have F_checkPlace := fun_mk (st := st_checkPlace) l_checkPlace c_checkPlace k_checkPlace
  have b1_checkPlace := F_checkPlace.binds (ps := ["self", "place"]) fun _ _ _ _ _ _ us hl => match us, hl with | [_, _], _ => rfl
  have F_roadsFrom := fun_mk (st := st_roadsFrom) l_roadsFrom c_roadsFrom k_roadsFrom
  have b1_roadsFrom := F_roadsFrom.binds (ps := ["self", "place"]) fun _ _ _ _ _ _ us hl => match us, hl with | [_, _], _ => rfl
  have F_followers := fun_mk (st := st_followers) l_followers c_followers k_followers
  have b1_followers := F_followers.binds (ps := ["self", "name"]) fun _ _ _ _ _ _ us hl => match us, hl with | [_, _], _ => rfl
  have F_mCheckKind := fun_mk (st := st_mCheckKind) l_mCheckKind c_mCheckKind k_mCheckKind
  have b1_mCheckKind := F_mCheckKind.binds (ps := ["self", "kind"]) fun _ _ _ _ _ _ us hl => match us, hl with | [_, _], _ => rfl
  have F_mayUse := fun_mk (st := st_mayUse) l_mayUse c_mayUse k_mayUse
  have b1_mayUse := F_mayUse.binds (ps := ["self", "kind", "name"]) fun _ _ _ _ _ _ us hl => match us, hl with | [_, _, _], _ => rfl
  have F_lRow := fun_mk (st := st_lRow) l_lRow c_lRow k_lRow
  have b1_lRow := F_lRow.binds (ps := ["_law_cell", "_law_many"]) fun _ _ _ _ _ _ us hl => match us, hl with | [_, _], _ => rfl
  have F_lNumbers := fun_mk (st := st_lNumbers) l_lNumbers c_lNumbers k_lNumbers
  have b1_lNumbers := F_lNumbers.binds (ps := ["_law_script", "_law_many"]) fun _ _ _ _ _ _ us hl => match us, hl with | [_, _], _ => rfl
  have F_lNames := fun_mk (st := st_lNames) l_lNames c_lNames k_lNames
  have b1_lNames := F_lNames.binds (ps := ["_law_number", "_law_many"]) fun _ _ _ _ _ _ us hl => match us, hl with | [_, _], _ => rfl
  have F_lSome := fun_mk (st := st_lSome) l_lSome c_lSome k_lSome
  have b1_lSome := F_lSome.binds (ps := ["_law_number", "_law_rights"]) fun _ _ _ _ _ _ us hl => match us, hl with | [_, _], _ => rfl
  have F_lHours := fun_mk (st := st_lHours) l_lHours c_lHours k_lHours
  have b1_lHours := F_lHours.binds (ps := ["_law_numbers_here", "_law_at", "_law_day"]) fun _ _ _ _ _ _ us hl => match us, hl with | [_, _, _], _ => rfl
  have F_lMap := fun_mk (st := st_lMap) l_lMap c_lMap k_lMap
  have b1_lMap := F_lMap.binds (ps := ["_law_numbers_here", "_law_at"]) fun _ _ _ _ _ _ us hl => match us, hl with | [_, _], _ => rfl
  have F_lMade := fun_mk (st := st_lMade) l_lMade c_lMade k_lMade
  have b1_lMade := F_lMade.binds (ps := ["_law_parts"]) fun _ _ _ _ _ _ us hl => match us, hl with | [_], _ => rfl
  have F_lTrip := fun_mk (st := st_lTrip) l_lTrip c_lTrip k_lTrip
  have b1_lTrip := F_lTrip.binds (ps := ["_law_parts", "_law_numbers_here", "_law_at"]) fun _ _ _ _ _ _ us hl => match us, hl with | [_, _, _], _ => rfl
  have F_lFreer := fun_mk (st := st_lFreer) l_lFreer c_lFreer k_lFreer
  have b1_lFreer := F_lFreer.binds (ps := ["_law_parts", "_law_numbers_here", "_law_at"]) fun _ _ _ _ _ _ us hl => match us, hl with | [_, _, _], _ => rfl
  have F_lNoLater := fun_mk (st := st_lNoLater) l_lNoLater c_lNoLater k_lNoLater
  have b1_lNoLater := F_lNoLater.binds (ps := ["_law_one", "_law_other"]) fun _ _ _ _ _ _ us hl => match us, hl with | [_, _], _ => rfl
  have F_law := fun_mk (st := st_law) l_law c_law k_law
  have b1_law := F_law.binds (ps := ["_law_script"]) fun _ _ _ _ _ _ us hl => match us, hl with | [_], _ => rfl
  have T : Txt K mg ⟨cM, cS, pN, ⟨f_checkKind, _⟩, ⟨f_checkTrip, _⟩, ⟨f_enter, _⟩, ⟨f_arrive, _⟩, ⟨f_sInit, _⟩, ⟨f_sOffer, _⟩, ⟨f_sSettle, _⟩, ⟨f_labels, _⟩, ⟨f_placesFrom, _⟩, ⟨f_isName, _⟩, ⟨f_areDiff, _⟩, ⟨f_areHours, _⟩, ⟨f_nameOf, _⟩, ⟨f_require, _⟩, ⟨f_mInit, _⟩, ⟨f_checked, _⟩, ⟨f_checkedBar, _⟩, ⟨f_roadNames, _⟩, ⟨f_road, _⟩, ⟨f_checkPlace, _⟩, ⟨f_roadsFrom, _⟩, ⟨f_followers, _⟩, ⟨f_mCheckKind, _⟩, ⟨f_mayUse, _⟩, ⟨f_lRow, _⟩, ⟨f_lNumbers, _⟩, ⟨f_lNames, _⟩, ⟨f_lSome, _⟩, ⟨f_lHours, _⟩, ⟨f_lMap, _⟩, ⟨f_lMade, _⟩, ⟨f_lTrip, _⟩, ⟨f_lFreer, _⟩, ⟨f_lNoLater, _⟩, ⟨fa, _⟩⟩ := {
    checkKind := ⟨F_checkKind, b1_checkKind⟩,
    checkTrip := ⟨F_checkTrip, b1_checkTrip⟩,
    enter := ⟨F_enter, b1_enter⟩,
    arrive := ⟨F_arrive, b1_arrive⟩,
    sInit := ⟨F_sInit, b1_sInit⟩,
    sOffer := ⟨F_sOffer, b1_sOffer⟩,
    sSettle := ⟨F_sSettle, b1_sSettle⟩,
    labels := ⟨F_labels, b1_labels⟩,
    placesFrom := ⟨F_placesFrom, b1_placesFrom⟩,
    isName := ⟨F_isName, b1_isName⟩,
    areDiff := ⟨F_areDiff, b1_areDiff⟩,
    areHours := ⟨F_areHours, b1_areHours⟩,
    nameOf := ⟨F_nameOf, b1_nameOf⟩,
    require := ⟨F_require, b1_require⟩,
    mInit := F_mInit,
    checked := ⟨F_checked, b1_checked⟩,
    checkedBar := ⟨F_checkedBar, b1_checkedBar⟩,
    roadNames := ⟨F_roadNames, b1_roadNames⟩,
    road := ⟨F_road, b1_road⟩,
    checkPlace := ⟨F_checkPlace, b1_checkPlace⟩,
    roadsFrom := ⟨F_roadsFrom, b1_roadsFrom⟩,
    followers := ⟨F_followers, b1_followers⟩,
    mCheckKind := ⟨F_mCheckKind, b1_mCheckKind⟩,
    mayUse := ⟨F_mayUse, b1_mayUse⟩,
    lRow := ⟨F_lRow, b1_lRow⟩,
    lNumbers := ⟨F_lNumbers, b1_lNumbers⟩,
    lNames := ⟨F_lNames, b1_lNames⟩,
    lSome := ⟨F_lSome, b1_lSome⟩,
    lHours := ⟨F_lHours, b1_lHours⟩,
    lMap := ⟨F_lMap, b1_lMap⟩,
    lMade := ⟨F_lMade, b1_lMade⟩,
    lTrip := ⟨F_lTrip, b1_lTrip⟩,
    lFreer := ⟨F_lFreer, b1_lFreer⟩,
    lNoLater := ⟨F_lNoLater, b1_lNoLater⟩,
    law := ⟨F_law, b1_law⟩,
    clM := ⟨pg_cM, hd_cM, po_cM, sa_cM⟩,
    clS := ⟨pg_cS, hd_cS, po_cS, sa_cS⟩,
    mkM := ⟨mk_cM, a_mInit, i_mInit, kc_cM⟩,
    mkS := ⟨mk_cS, a_sInit, i_sInit, kc_cS⟩,
    nM_day := nM_day,
    nM_places := nM_places,
    nM_kinds := nM_kinds,
    nM_roads := nM_roads,
    nM_bars := nM_bars,
    nS_chart := nS_chart,
    nS_kind := nS_kind,
    nS_arrivals := nS_arrivals,
    nS_sources := nS_sources,
    nS_waiting := nS_waiting,
    m_checked := ⟨a_checked, i_checked, k_checked⟩,
    m_checkedBar := ⟨a_checkedBar, i_checkedBar, k_checkedBar⟩,
    m_road := ⟨a_road, i_road, k_road⟩,
    m_checkPlace := ⟨a_checkPlace, i_checkPlace, k_checkPlace⟩,
    m_roadsFrom := ⟨a_roadsFrom, i_roadsFrom, k_roadsFrom⟩,
    m_followers := ⟨a_followers, i_followers, k_followers⟩,
    m_mCheckKind := ⟨a_mCheckKind, i_mCheckKind, k_mCheckKind⟩,
    m_mayUse := ⟨a_mayUse, i_mayUse, k_mayUse⟩,
    m_sOffer := ⟨a_sOffer, i_sOffer, k_sOffer⟩,
    m_sSettle := ⟨a_sSettle, i_sSettle, k_sSettle⟩,
    prop := ⟨pA, pG, pT, ⟨_, pR⟩⟩,
    gMap := PySem.W.mg_of X G aM,
    gSearch := PySem.W.mg_of X G aS,
    g_checkKind := PySem.W.mg_of X G a_checkKind,
    g_checkTrip := PySem.W.mg_of X G a_checkTrip,
    g_enter := PySem.W.mg_of X G a_enter,
    g_arrive := PySem.W.mg_of X G a_arrive,
    g_labels := PySem.W.mg_of X G a_labels,
    g_placesFrom := PySem.W.mg_of X G a_placesFrom,
    g_isName := PySem.W.mg_of X G a_isName,
    g_areDiff := PySem.W.mg_of X G a_areDiff,
    g_areHours := PySem.W.mg_of X G a_areHours,
    g_nameOf := PySem.W.mg_of X G a_nameOf,
    g_require := PySem.W.mg_of X G a_require,
    g_lRow := PySem.W.mg_of X G a_lRow,
    g_lNumbers := PySem.W.mg_of X G a_lNumbers,
    g_lNames := PySem.W.mg_of X G a_lNames,
    g_lSome := PySem.W.mg_of X G a_lSome,
    g_lHours := PySem.W.mg_of X G a_lHours,
    g_lMap := PySem.W.mg_of X G a_lMap,
    g_lMade := PySem.W.mg_of X G a_lMade,
    g_lTrip := PySem.W.mg_of X G a_lTrip,
    g_lFreer := PySem.W.mg_of X G a_lFreer,
    g_lNoLater := PySem.W.mg_of X G a_lNoLater,
    g_law := PySem.W.mg_of X G a_law,
    c_NAME_CHARS := ⟨_, PySem.W.mg_of X G v_NAME_CHARS, ⟨_, rfl⟩⟩,
    c_MOST_NAME_CHARS := ⟨_, PySem.W.mg_of X G v_MOST_NAME_CHARS, ⟨_, rfl⟩⟩,
    c_MOST_DAY := ⟨_, PySem.W.mg_of X G v_MOST_DAY, ⟨_, rfl⟩⟩,
    c_MOST_PLACES := ⟨_, PySem.W.mg_of X G v_MOST_PLACES, ⟨_, rfl⟩⟩,
    c_MOST_KINDS := ⟨_, PySem.W.mg_of X G v_MOST_KINDS, ⟨_, rfl⟩⟩,
    c_MOST_ROADS := ⟨_, PySem.W.mg_of X G v_MOST_ROADS, ⟨_, rfl⟩⟩,
    c_MOST_BARS := ⟨_, PySem.W.mg_of X G v_MOST_BARS, ⟨_, rfl⟩⟩,
    c_MOST_MINUTES := ⟨_, PySem.W.mg_of X G v_MOST_MINUTES, ⟨_, rfl⟩⟩,
    c_MOST_HOURS := ⟨_, PySem.W.mg_of X G v_MOST_HOURS, ⟨_, rfl⟩⟩,
    c_ROAD_PARTS := ⟨_, PySem.W.mg_of X G v_ROAD_PARTS, ⟨_, rfl⟩⟩,
    b_max := PySem.W.mg_none_of X G b_max,
    b_min := PySem.W.mg_none_of X G b_min,
    b_len := PySem.W.mg_none_of X G b_len,
    b_all := PySem.W.mg_none_of X G b_all,
    b_tuple := PySem.W.mg_none_of X G b_tuple,
    b_sorted := PySem.W.mg_none_of X G b_sorted,
    b_list := PySem.W.mg_none_of X G b_list,
    b_abs := PySem.W.mg_none_of X G b_abs,
    b_int := PySem.W.mg_none_of X G b_int,
    b_range := PySem.W.mg_none_of X G b_range,
    b_enumerate := PySem.W.mg_none_of X G b_enumerate }
  exact ⟨_, fun s v => .of_eq rfl, fun base _ _ => ok_law T⟩
theorem walk {l : PySem.W.OpenLaw} {q : Program} {loose : List Str} {XP : (Str → Option Value) → Heap → Prop} {YP : World → Heap → Prop} {d : DefRec} {K : Params → PySem.W.Frag} (hn : l.most = some 63) (hdf : d.params.defaults = [])
    (hY : ∀ (w : World) (h : Heap), YP w h → (K w.params).In h)
    (F : ∀ (w : World) (mg : Str → Option Value) (fa : Addr) (h : Heap), (K w.params).In h → h.Ns mainGlobals mg → mg d.name = some (.ref fa) →
      ∃ fd : FuncData, (∀ (s : Shared) (u : Value), BindsTo s fd ⟨[u], []⟩ [("_law_script", u)]) ∧ ∀ base : Heap, (K w.params).In base → base.Ns mainGlobals mg → FnOk l.prog w (K w.params) mg base CX0 10 fa fd ["_law_script"] (spLaw (K w.params))) :
    PySem.W.WalkO q loose XP YP l.row.toRowW d [] (fun f vs => PySem.call f vs) :=
  L2.walk_of (n := 63) (k := 10) (x := "_law_script") (CX := fun _ => CX0) (sp := fun w => spLaw (K w.params)) hn (by decide) hdf ⟨rfl, by decide, by decide⟩ hY F (fun _ _ a ns hl _ hS => ⟨a, ns, rfl, hS, hl, fun _ => rfl⟩) fun _ _ _ _ _ z => z
end K17

open PySem PySem.W PyProof.Rows
set_option Elab.async false
set_option maxRecDepth 100000
set_option maxHeartbeats 0
open_top hd for PySem.Challenge.rw_waypapers_k17_whole_more_freedom

set_option Elab.async false
set_option linter.all false
open PySem PySem.W PyProof.Rows
set_option maxRecDepth 100000 in
set_option maxHeartbeats 0 in
theorem PySem.Challenge.cw_waypapers_k17_whole_more_freedom_holds : PySem.Challenge.rw_waypapers_k17_whole_more_freedom.Holds := by
  apply hd
  k_fill
  refine K17.walk (l := PySem.Challenge.rw_waypapers_k17_whole_more_freedom) rfl rfl (fun w h Y => PySem.W.kIn_of Y) ?F
  case F =>
    intro w mg fa h KX G hmg
    refine' K17.all_mk KX G hmg ?aM ?aS ?pA ?pG ?pT ?pR ?a_checkKind ?l_checkKind ?c_checkKind ?k_checkKind ?a_checkTrip ?l_checkTrip ?c_checkTrip ?k_checkTrip ?a_enter ?l_enter ?c_enter ?k_enter ?a_arrive ?l_arrive ?c_arrive ?k_arrive ?a_sInit ?i_sInit ?l_sInit ?c_sInit ?k_sInit ?a_sOffer ?i_sOffer ?l_sOffer ?c_sOffer ?k_sOffer ?a_sSettle ?i_sSettle ?l_sSettle ?c_sSettle ?k_sSettle ?a_labels ?l_labels ?c_labels ?k_labels ?a_placesFrom ?l_placesFrom ?c_placesFrom ?k_placesFrom ?a_isName ?l_isName ?c_isName ?k_isName ?a_areDiff ?l_areDiff ?c_areDiff ?k_areDiff ?a_areHours ?l_areHours ?c_areHours ?k_areHours ?a_nameOf ?l_nameOf ?c_nameOf ?k_nameOf ?a_require ?l_require ?c_require ?k_require ?a_mInit ?i_mInit ?l_mInit ?c_mInit ?k_mInit ?a_checked ?i_checked ?l_checked ?c_checked ?k_checked ?a_checkedBar ?i_checkedBar ?l_checkedBar ?c_checkedBar ?k_checkedBar ?l_roadNames ?c_roadNames ?k_roadNames ?a_road ?i_road ?l_road ?c_road ?k_road ?a_checkPlace ?i_checkPlace ?l_checkPlace ?c_checkPlace ?k_checkPlace ?a_roadsFrom ?i_roadsFrom ?l_roadsFrom ?c_roadsFrom ?k_roadsFrom ?a_followers ?i_followers ?l_followers ?c_followers ?k_followers ?a_mCheckKind ?i_mCheckKind ?l_mCheckKind ?c_mCheckKind ?k_mCheckKind ?a_mayUse ?i_mayUse ?l_mayUse ?c_mayUse ?k_mayUse ?a_lRow ?l_lRow ?c_lRow ?k_lRow ?a_lNumbers ?l_lNumbers ?c_lNumbers ?k_lNumbers ?a_lNames ?l_lNames ?c_lNames ?k_lNames ?a_lSome ?l_lSome ?c_lSome ?k_lSome ?a_lHours ?l_lHours ?c_lHours ?k_lHours ?a_lMap ?l_lMap ?c_lMap ?k_lMap ?a_lMade ?l_lMade ?c_lMade ?k_lMade ?a_lTrip ?l_lTrip ?c_lTrip ?k_lTrip ?a_lFreer ?l_lFreer ?c_lFreer ?k_lFreer ?a_lNoLater ?l_lNoLater ?c_lNoLater ?k_lNoLater ?a_law ?l_law ?c_law ?k_law ?pg_cM ?hd_cM ?po_cM ?sa_cM ?mk_cM ?kc_cM ?pg_cS ?hd_cS ?po_cS ?sa_cS ?mk_cS ?kc_cS ?nM_day ?nM_places ?nM_kinds ?nM_roads ?nM_bars ?nS_chart ?nS_kind ?nS_arrivals ?nS_sources ?nS_waiting ?v_NAME_CHARS ?v_MOST_NAME_CHARS ?v_MOST_DAY ?v_MOST_PLACES ?v_MOST_KINDS ?v_MOST_ROADS ?v_MOST_BARS ?v_MOST_MINUTES ?v_MOST_HOURS ?v_ROAD_PARTS ?b_max ?b_min ?b_len ?b_all ?b_tuple ?b_sorted ?b_list ?b_abs ?b_int ?b_range ?b_enumerate
    (case aM => k_is); (case aS => k_is); (case pA => k_is); (case pG => k_is); (case pT => k_is); (case pR => k_is)
    (case a_checkKind => k_is); (case l_checkKind => k_is); (case c_checkKind => k_is); (case k_checkKind => k_is); (case a_checkTrip => k_is); (case l_checkTrip => k_is)
    (case c_checkTrip => k_is); (case k_checkTrip => k_is); (case a_enter => k_is); (case l_enter => k_is); (case c_enter => k_is); (case k_enter => k_is)
    (case a_arrive => k_is); (case l_arrive => k_is); (case c_arrive => k_is); (case k_arrive => k_is); (case a_sInit => k_is); (case i_sInit => k_is)
    (case l_sInit => k_is); (case c_sInit => k_is); (case k_sInit => k_is); (case a_sOffer => k_is); (case i_sOffer => k_is); (case l_sOffer => k_is)
    (case c_sOffer => k_is); (case k_sOffer => k_is); (case a_sSettle => k_is); (case i_sSettle => k_is); (case l_sSettle => k_is); (case c_sSettle => k_is)
    (case k_sSettle => k_is); (case a_labels => k_is); (case l_labels => k_is); (case c_labels => k_is); (case k_labels => k_is); (case a_placesFrom => k_is)
    (case l_placesFrom => k_is); (case c_placesFrom => k_is); (case k_placesFrom => k_is); (case a_isName => k_is); (case l_isName => k_is); (case c_isName => k_is)
    (case k_isName => k_is); (case a_areDiff => k_is); (case l_areDiff => k_is); (case c_areDiff => k_is); (case k_areDiff => k_is); (case a_areHours => k_is)
    (case l_areHours => k_is); (case c_areHours => k_is); (case k_areHours => k_is); (case a_nameOf => k_is); (case l_nameOf => k_is); (case c_nameOf => k_is)
    (case k_nameOf => k_is); (case a_require => k_is); (case l_require => k_is); (case c_require => k_is); (case k_require => k_is); (case a_mInit => k_is)
    (case i_mInit => k_is); (case l_mInit => k_is); (case c_mInit => k_is); (case k_mInit => k_is); (case a_checked => k_is); (case i_checked => k_is)
    (case l_checked => k_is); (case c_checked => k_is); (case k_checked => k_is); (case a_checkedBar => k_is); (case i_checkedBar => k_is); (case l_checkedBar => k_is)
    (case c_checkedBar => k_is); (case k_checkedBar => k_is); (case l_roadNames => k_is); (case c_roadNames => k_is); (case k_roadNames => k_is); (case a_road => k_is)
    (case i_road => k_is); (case l_road => k_is); (case c_road => k_is); (case k_road => k_is); (case a_checkPlace => k_is); (case i_checkPlace => k_is)
    (case l_checkPlace => k_is); (case c_checkPlace => k_is); (case k_checkPlace => k_is); (case a_roadsFrom => k_is); (case i_roadsFrom => k_is); (case l_roadsFrom => k_is)
    (case c_roadsFrom => k_is); (case k_roadsFrom => k_is); (case a_followers => k_is); (case i_followers => k_is); (case l_followers => k_is); (case c_followers => k_is)
    (case k_followers => k_is); (case a_mCheckKind => k_is); (case i_mCheckKind => k_is); (case l_mCheckKind => k_is); (case c_mCheckKind => k_is); (case k_mCheckKind => k_is)
    (case a_mayUse => k_is); (case i_mayUse => k_is); (case l_mayUse => k_is); (case c_mayUse => k_is); (case k_mayUse => k_is); (case a_lRow => k_is)
    (case l_lRow => k_is); (case c_lRow => k_is); (case k_lRow => k_is); (case a_lNumbers => k_is); (case l_lNumbers => k_is); (case c_lNumbers => k_is)
    (case k_lNumbers => k_is); (case a_lNames => k_is); (case l_lNames => k_is); (case c_lNames => k_is); (case k_lNames => k_is); (case a_lSome => k_is)
    (case l_lSome => k_is); (case c_lSome => k_is); (case k_lSome => k_is); (case a_lHours => k_is); (case l_lHours => k_is); (case c_lHours => k_is)
    (case k_lHours => k_is); (case a_lMap => k_is); (case l_lMap => k_is); (case c_lMap => k_is); (case k_lMap => k_is); (case a_lMade => k_is)
    (case l_lMade => k_is); (case c_lMade => k_is); (case k_lMade => k_is); (case a_lTrip => k_is); (case l_lTrip => k_is); (case c_lTrip => k_is)
    (case k_lTrip => k_is); (case a_lFreer => k_is); (case l_lFreer => k_is); (case c_lFreer => k_is); (case k_lFreer => k_is); (case a_lNoLater => k_is)
    (case l_lNoLater => k_is); (case c_lNoLater => k_is); (case k_lNoLater => k_is); (case a_law => k_is); (case l_law => k_is); (case c_law => k_is)
    (case k_law => k_is); (case pg_cM => k_is); (case hd_cM => k_is); (case po_cM => k_is); (case sa_cM => k_is); (case mk_cM => k_is)
    (case kc_cM => k_is); (case pg_cS => k_is); (case hd_cS => k_is); (case po_cS => k_is); (case sa_cS => k_is); (case mk_cS => k_is)
    (case kc_cS => k_is); (case nM_day => k_is); (case nM_places => k_is); (case nM_kinds => k_is); (case nM_roads => k_is); (case nM_bars => k_is)
    (case nS_chart => k_is); (case nS_kind => k_is); (case nS_arrivals => k_is); (case nS_sources => k_is); (case nS_waiting => k_is); (case v_NAME_CHARS => k_is)
    (case v_MOST_NAME_CHARS => k_is); (case v_MOST_DAY => k_is); (case v_MOST_PLACES => k_is); (case v_MOST_KINDS => k_is); (case v_MOST_ROADS => k_is); (case v_MOST_BARS => k_is)
    (case v_MOST_MINUTES => k_is); (case v_MOST_HOURS => k_is); (case v_ROAD_PARTS => k_is); (case b_max => k_is); (case b_min => k_is); (case b_len => k_is)
    (case b_all => k_is); (case b_tuple => k_is); (case b_sorted => k_is); (case b_list => k_is); (case b_abs => k_is); (case b_int => k_is)
    (case b_range => k_is); (case b_enumerate => k_is)
