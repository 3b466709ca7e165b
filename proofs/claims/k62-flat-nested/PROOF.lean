import PyProof.Rows.All
import PySem.PyData
import Wide.All
import OpenK.AllK
import Wide.FinOn
import KE.KStateDown
import Lean
import HandS.ForMost
import HandS.Walk
import HandS.IsInst
import HandS.Conv
import HandS.Exc
import HandS.Defaults
import HandS.WordsExc
import HandS.Head0
import HandS.Head1
import HandS.Head2
import HandS.HeadEnd
import HandS.HeadHook1
import HandS.HeadHook2
import PySem.Challenge.RW_reelcut_k62_whole_flat_nested
import HandS.Codes
set_option Elab.async false
set_option linter.all false
set_option maxRecDepth 100000
namespace Rc
open PySem

/-! ### fractions -/
abbrev Fr := Int × Int
def mkF (t b : Int) : Fr := (t / (Int.gcd t b : Int), b / (Int.gcd t b : Int))
def sumF (p q : Fr) : Fr := mkF (p.1 * q.2 + q.1 * p.2) (p.2 * q.2)
def timesF (p q : Fr) : Fr := mkF (p.1 * q.1) (p.2 * q.2)
def floorF (p : Fr) : Int := p.1 / p.2
def placeAt (s st : Fr) (k : Int) : Fr := sumF s (timesF st (k, 1))

theorem gcd_pos {t b : Int} (h : 0 < b) : 0 < (Int.gcd t b : Int) := by
  have h1 : Int.gcd t b ≠ 0 := fun e => by
    have h2 := (Int.gcd_eq_zero_iff.mp e).2
    omega
  omega
theorem gcd_le {t b : Int} (h : 0 < b) : (Int.gcd t b : Int) ≤ b :=
  Int.le_of_dvd h (Int.gcd_dvd_right t b)
theorem mkF_pos {t b : Int} (h : 0 < b) : 0 < (mkF t b).2 :=
  Int.ediv_pos_of_pos_of_dvd h (Int.le_of_lt (gcd_pos h)) (Int.gcd_dvd_right t b)
theorem mkF_le {t b : Int} (h : 0 < b) : (mkF t b).2 ≤ b :=
  Int.ediv_le_self _ (Int.le_of_lt h)
theorem mkF_val {t b : Int} (h : 0 < b) : (mkF t b).1 * b = t * (mkF t b).2 := by
  have hg := gcd_pos (t := t) h
  obtain ⟨x, hx⟩ := Int.gcd_dvd_left t b
  obtain ⟨y, hy⟩ := Int.gcd_dvd_right t b
  have e1 : (mkF t b).1 = x := by
    show t / (Int.gcd t b : Int) = x
    conv => lhs; lhs; rw [hx]
    exact Int.mul_ediv_cancel_left _ (by omega)
  have e2 : (mkF t b).2 = y := by
    show b / (Int.gcd t b : Int) = y
    conv => lhs; lhs; rw [hy]
    exact Int.mul_ediv_cancel_left _ (by omega)
  rw [e1, e2]
  generalize (Int.gcd t b : Int) = g at hx hy
  rw [hx, hy]
  grind
theorem mkF_scale {k t b : Int} (hk : 0 < k) (hb : 0 < b) : mkF (k * t) (k * b) = mkF t b := by
  unfold mkF
  rw [Int.gcd_mul_left]
  have e : ((k.natAbs * Int.gcd t b : Nat) : Int) = k * (Int.gcd t b : Int) := by
    rw [Int.natCast_mul]
    have : (k.natAbs : Int) = k := by omega
    rw [this]
  rw [e, Int.mul_ediv_mul_of_pos _ _ hk, Int.mul_ediv_mul_of_pos _ _ hk]
theorem mkF_congr {t b u d : Int} (hb : 0 < b) (hd : 0 < d) (h : t * d = u * b) : mkF t b = mkF u d := by
  rw [← mkF_scale (t := t) hd hb, ← mkF_scale (t := u) hb hd, Int.mul_comm d t, h, Int.mul_comm u b, Int.mul_comm d b]
theorem floor_congr {t b u d : Int} (hb : 0 < b) (hd : 0 < d) (h : t * d = u * b) : t / b = u / d := by
  rw [← Int.mul_ediv_mul_of_pos t b hd, ← Int.mul_ediv_mul_of_pos u d hb, Int.mul_comm d t, h, Int.mul_comm u b, Int.mul_comm d b]
/-- the same number -/
def Eqv (p q : Fr) : Prop := p.1 * q.2 = q.1 * p.2
theorem mkF_eqv {t b : Int} (h : 0 < b) : Eqv (mkF t b) (t, b) := mkF_val h
theorem floor_eqv {p q : Fr} (hp : 0 < p.2) (hq : 0 < q.2) (h : Eqv p q) : floorF p = floorF q := floor_congr hp hq h
theorem mkF_eqv_congr {p q : Fr} (hp : 0 < p.2) (hq : 0 < q.2) (h : Eqv p q) : mkF p.1 p.2 = mkF q.1 q.2 := mkF_congr hp hq h
theorem sumF_pos {p q : Fr} (hp : 0 < p.2) (hq : 0 < q.2) : 0 < (sumF p q).2 := mkF_pos (Int.mul_pos hp hq)
theorem timesF_pos {p q : Fr} (hp : 0 < p.2) (hq : 0 < q.2) : 0 < (timesF p q).2 := mkF_pos (Int.mul_pos hp hq)
theorem sumF_le {p q : Fr} (hp : 0 < p.2) (hq : 0 < q.2) : (sumF p q).2 ≤ p.2 * q.2 := mkF_le (Int.mul_pos hp hq)
theorem timesF_le {p q : Fr} (hp : 0 < p.2) (hq : 0 < q.2) : (timesF p q).2 ≤ p.2 * q.2 := mkF_le (Int.mul_pos hp hq)
theorem sumF_congr {p p' q q' : Fr} (hp : 0 < p.2) (hp' : 0 < p'.2) (hq : 0 < q.2) (hq' : 0 < q'.2) (h : Eqv p p') (k : Eqv q q') : sumF p q = sumF p' q' := by
  refine mkF_congr (Int.mul_pos hp hq) (Int.mul_pos hp' hq') ?_
  unfold Eqv at h k
  grind
theorem sumF_eqv {p q : Fr} (hp : 0 < p.2) (hq : 0 < q.2) : Eqv (sumF p q) (p.1 * q.2 + q.1 * p.2, p.2 * q.2) := mkF_eqv (Int.mul_pos hp hq)
theorem timesF_eqv {p q : Fr} (hp : 0 < p.2) (hq : 0 < q.2) : Eqv (timesF p q) (p.1 * q.1, p.2 * q.2) := mkF_eqv (Int.mul_pos hp hq)
theorem place_pos {s st : Fr} {k : Int} (hs : 0 < s.2) (ht : 0 < st.2) : 0 < (placeAt s st k).2 :=
  sumF_pos hs (timesF_pos ht (by decide : (0 : Int) < 1))
theorem times1_le {st : Fr} {k : Int} (ht : 0 < st.2) : (timesF st (k, 1)).2 ≤ st.2 := by
  have h := timesF_le (p := st) (q := (k, 1)) ht (by decide : (0 : Int) < 1)
  have e : st.2 * ((k, 1) : Fr).2 = st.2 := Int.mul_one _
  omega
theorem times1_pos {st : Fr} {k : Int} (ht : 0 < st.2) : 0 < (timesF st (k, 1)).2 := timesF_pos ht (by decide : (0 : Int) < 1)
theorem place_le {s st : Fr} {k : Int} (hs : 0 < s.2) (ht : 0 < st.2) : (placeAt s st k).2 ≤ s.2 * st.2 := by
  have h1 := sumF_le (p := s) (q := timesF st (k, 1)) hs (times1_pos ht)
  have h2 := times1_le (st := st) (k := k) ht
  have h3 : s.2 * (timesF st (k, 1)).2 ≤ s.2 * st.2 := Int.mul_le_mul_of_nonneg_left h2 (Int.le_of_lt hs)
  exact Int.le_trans h1 h3
/-- a place, as an unreduced fraction -/
theorem place_mk {s st : Fr} {k : Int} (hs : 0 < s.2) (ht : 0 < st.2) : placeAt s st k = mkF (s.1 * st.2 + (st.1 * k) * s.2) (s.2 * st.2) := by
  have e := timesF_eqv (p := st) (q := (k, 1)) ht (by decide : (0 : Int) < 1)
  have h1 : sumF s (timesF st (k, 1)) = sumF s (st.1 * k, st.2 * 1) := sumF_congr (p := s) (p' := s) hs hs (times1_pos ht) (by show 0 < st.2 * 1; omega) rfl e
  show sumF s (timesF st (k, 1)) = _
  rw [h1]
  show mkF (s.1 * (st.2 * 1) + (st.1 * k) * s.2) (s.2 * (st.2 * 1)) = _
  rw [Int.mul_one]
theorem place_add {s st : Fr} {k j : Int} (hs : 0 < s.2) (ht : 0 < st.2) : sumF (placeAt s st k) (timesF st (j, 1)) = placeAt s st (k + j) := by
  have hp : 0 < s.2 * st.2 := Int.mul_pos hs ht
  rw [place_mk hs ht, place_mk hs ht]
  have e := timesF_eqv (p := st) (q := (j, 1)) ht (by decide : (0 : Int) < 1)
  have e2 := mkF_eqv (t := s.1 * st.2 + (st.1 * k) * s.2) hp
  rw [sumF_congr (mkF_pos hp) hp (times1_pos ht) (by show 0 < st.2 * 1; omega) e2 e]
  refine mkF_congr (Int.mul_pos hp (by show 0 < st.2 * 1; omega)) hp ?_
  show ((s.1 * st.2 + st.1 * k * s.2) * (st.2 * 1) + st.1 * j * (s.2 * st.2)) * (s.2 * st.2) = (s.1 * st.2 + st.1 * (k + j) * s.2) * (s.2 * st.2 * (st.2 * 1))
  grind
/-- the share of a mix, so many moments on -/
theorem share_add {a c b j : Int} (hb : 0 < b) : sumF (mkF a b) (timesF (c, b) (j, 1)) = mkF (a + c * j) b := by
  have e := timesF_eqv (p := (c, b)) (q := (j, 1)) hb (by decide : (0 : Int) < 1)
  rw [sumF_congr (p := mkF a b) (p' := (a, b)) (mkF_pos hb) hb (times1_pos hb) (by show 0 < b * 1; omega) (mkF_eqv hb) e]
  refine mkF_congr (Int.mul_pos hb (by show 0 < b * 1; omega)) hb ?_
  show (a * (b * 1) + c * j * b) * b = (a + c * j) * (b * (b * 1))
  grind
theorem share_one {j : Int} : sumF (1, 1) (timesF (0, 1) (j, 1)) = (1, 1) := by
  have h := share_add (a := 1) (c := 0) (b := 1) (j := j) (by decide)
  have e : mkF 1 1 = (1, 1) := by decide
  rw [e] at h
  rw [h, Int.zero_mul]
  decide

/-! ### items, tracks -/
structure Clip where
  reel : Str
  start : Fr
  step : Fr
  len : Int
inductive Item where
  | clip (c : Clip)
  | nest (name : Str) (start len : Int)
  | gap (len : Int)
  | mix (len : Int)
def Item.last : Item → Int
  | .clip c => c.len
  | .nest _ _ n => n
  | .gap n => n
  | .mix n => n
def Item.isMix : Item → Bool
  | .mix _ => true
  | _ => false
def Item.room (it : Item) : Int := if it.isMix = true then 0 else it.last
abbrev Track := List Item
/-- the item at a moment: its place, how far, itself -/
def itemAtG (b : Int) (i : Nat) : Track → Int → Option (Nat × Int × Item)
  | [], _ => none
  | it :: r, m => if it.isMix = false ∧ b ≤ m ∧ m < b + it.last then some (i, m - b, it) else itemAtG (b + it.room) (i + 1) r m
def itemAt (t : Track) (m : Int) : Option (Nat × Int × Item) := itemAtG 0 0 t m
abbrev Span := Int × Int × Int
def spansG (b : Int) : Track → List Span
  | [] => []
  | it :: r => if it.isMix = true then (b - it.last / 2, b, b + it.last - it.last / 2) :: spansG (b + it.room) r else spansG (b + it.room) r
def spans (t : Track) : List Span := spansG 0 t
def lenOf (t : Track) : Int := (t.map Item.room).sum

/-! ### what is told -/
abbrev Tell := Str × Int × Fr
def mixTell (A B : Clip) (s : Span) (m : Int) : List Tell :=
  [(A.reel, floorF (placeAt A.start A.step (A.len + m - s.2.1)), mkF (s.2.2 - s.1 - (m - s.1)) (s.2.2 - s.1 + 1)),
   (B.reel, floorF (placeAt B.start B.step (m - s.2.1)), mkF (m - s.1 + 1) (s.2.2 - s.1 + 1))]
def clipTell (c : Clip) (k : Int) : List Tell := [(c.reel, floorF (placeAt c.start c.step k), (1, 1))]
/-- the two clips of a mix at a border -/
def mixOf (t : Track) (border : Int) : Option (Clip × Clip) := match itemAt t border with
  | some (p, _, .clip B) => if 2 ≤ p then (match t[p - 2]? with
    | some (.clip A) => some (A, B)
    | _ => none) else none
  | _ => none
def inSpan (m : Int) (s : Span) : Bool := decide (s.1 ≤ m) && decide (m < s.2.2)
def plainTell (rec : Str → Int → List Tell) (t : Track) (m : Int) : List Tell := match itemAt t m with
  | some (_, far, .nest nm st _) => rec nm (st + far)
  | some (_, far, .clip c) => clipTell c far
  | _ => []
def toldOn (rec : Str → Int → List Tell) (t : Track) (m : Int) : List Tell := match (spans t).find? (inSpan m) with
  | some s => (match mixOf t s.2.1 with
    | some (A, B) => mixTell A B s m
    | none => [])
  | none => plainTell rec t m
def firstTold (rec : Str → Int → List Tell) (m : Int) : List Track → List Tell
  | [] => []
  | t :: r => match toldOn rec t m with
    | [] => firstTold rec m r
    | d :: ds => d :: ds
def toldAt (tabs : Str → List Track) : Nat → Str → Int → List Tell
  | 0, _, _ => []
  | n + 1, nm, m => firstTold (toldAt tabs n) m (tabs nm)

/-! ### pieces -/
structure Part where
  reel : Str
  start : Fr
  step : Fr
  share : Fr
  shareStep : Fr
def tellPart (k : Int) (p : Part) : Tell := (p.reel, floorF (sumF p.start (timesF p.step (k, 1))), sumF p.share (timesF p.shareStep (k, 1)))
def evalP (ps : List Part) (k : Int) : List Tell := ps.map (tellPart k)
abbrev Run := List Part × Option Int
def clipRun (c : Clip) (k : Int) (share shareStep : Fr) : Part := ⟨c.reel, placeAt c.start c.step k, c.step, share, shareStep⟩
def mixRun (A B : Clip) (s : Span) (m : Int) : Run :=
  ([clipRun A (A.len + m - s.2.1) (mkF (s.2.2 - s.1 - (m - s.1)) (s.2.2 - s.1 + 1)) (-1, s.2.2 - s.1 + 1),
    clipRun B (m - s.2.1) (mkF (m - s.1 + 1) (s.2.2 - s.1 + 1)) (1, s.2.2 - s.1 + 1)], some (s.2.2 - m))
def sooner : Option Int → Option Int → Option Int
  | none, y => y
  | some x, none => some x
  | some x, some y => some (min x y)
def spanRun (t : Track) (c : Clip) (far m : Int) : List Span → Int → Run
  | [], lasts => ([clipRun c far (1, 1) (0, 1)], some lasts)
  | s :: r, lasts => if inSpan m s = true then (match mixOf t s.2.1 with
    | some (A, B) => mixRun A B s m
    | none => ([], none)) else if m < s.1 then spanRun t c far m r (min lasts (s.1 - m)) else spanRun t c far m r lasts
def trackRun (rec : Str → Int → Run) (t : Track) (m : Int) : Run := match itemAt t m with
  | none => ([], none)
  | some (_, far, .gap n) => ([], some (n - far))
  | some (_, far, .nest nm st n) => ((rec nm (st + far)).1, sooner (some (n - far)) (rec nm (st + far)).2)
  | some (_, far, .clip c) => spanRun t c far m (spans t) (c.len - far)
  | some (_, _, .mix _) => ([], none)
def tabRun (rec : Str → Int → Run) (m : Int) : List Track → Option Int → Run
  | [], lasts => ([], lasts)
  | t :: r, lasts => match (trackRun rec t m).1 with
    | [] => tabRun rec m r (sooner lasts (trackRun rec t m).2)
    | p :: ps => (p :: ps, sooner lasts (trackRun rec t m).2)
def tableRun (tabs : Str → List Track) : Nat → Str → Int → Run
  | 0, _, _ => ([], none)
  | n + 1, nm, m => tabRun (tableRun tabs n) m (tabs nm) none
abbrev Piece := Int × List Part
def toldFlat : List Piece → Int → List Tell
  | [], _ => []
  | p :: r, m => if m < p.1 then evalP p.2 m else toldFlat r (m - p.1)

/-! ### what a track keeps -/
structure ClipOk (c : Clip) : Prop where
  len : 0 < c.len
  most : c.len ≤ 12
  s0 : 0 < c.start.2
  s8 : c.start.2 ≤ 8
  t0 : 0 < c.step.2
  t8 : c.step.2 ≤ 8
  lo : -20 ≤ c.step.1
  hi : c.step.1 ≤ 20
  reel : c.reel = ("ra" : Str) ∨ c.reel = ("rb" : Str)
def ItemOk : Item → Prop
  | .clip c => ClipOk c
  | .nest _ s n => 0 ≤ s ∧ 0 < n ∧ n ≤ 12
  | .gap n => 0 < n ∧ n ≤ 12
  | .mix n => 0 < n ∧ n ≤ 24
/-- behind an item: prev is what is left of a clip ahead -/
def wfG (prev : Option Int) : Track → Prop
  | [] => True
  | .clip c :: r => ClipOk c ∧ wfG (some c.len) r
  | .nest _ s n :: r => (0 ≤ s ∧ 0 < n ∧ n ≤ 12) ∧ wfG none r
  | .gap n :: r => (0 < n ∧ n ≤ 12) ∧ wfG none r
  | .mix n :: .clip c :: r => (∃ a, prev = some a ∧ n / 2 ≤ a) ∧ (0 < n ∧ n ≤ 24) ∧ n - n / 2 ≤ c.len ∧ ClipOk c ∧ wfG (some (c.len - (n - n / 2))) r
  | .mix _ :: _ => False
end Rc

set_option maxHeartbeats 4000000
namespace Rc
open PySem PySem.Spec PyProof.Rows L2
/-! ### the text by places -/
def top (i : Nat) : Stmt := PySem.Challenge.pw_reelcut_k62_whole_flat_nested.main.body.getD i (.Pass ⟨0, 0, 0, 0⟩)
/-- a def of the text as it stands behind the top -/
structure Df (K : PySem.W.Frag) (mg : Str → Option Value) (x : Str) (st : Stmt) (ps : List Str) where
  f : Addr
  fd : FuncData
  fn : FunD K x x (defArgs st) (defBody st) (defScope st) [] [] f fd
  b : Binds K fd ps []
  g : mg x = some (.ref f)
abbrev s_is_whole : Stmt := top 6
abbrev s_shared_by : Stmt := top 7
abbrev s_fraction : Stmt := top 8
abbrev s_sum_of : Stmt := top 9
abbrev s_less_by : Stmt := top 10
abbrev s_times_of : Stmt := top 11
abbrev s_quotient : Stmt := top 12
abbrev s_floor_of : Stmt := top 13
abbrev s_place_at : Stmt := top 16
abbrev s_picture_at : Stmt := top 17
abbrev s_steps_up : Stmt := top 18
abbrev s_steps_down : Stmt := top 19
abbrev s_room_from : Stmt := top 20
abbrev s_head_room : Stmt := top 21
abbrev s_tail_room : Stmt := top 22
abbrev s_room_of : Stmt := top 24
abbrev s_length_of : Stmt := top 25
abbrev s_item_at : Stmt := top 26
abbrev s_mix_spans : Stmt := top 28
abbrev s_mix_shares : Stmt := top 29
abbrev s_clips_at : Stmt := top 30
abbrev s_taken_at_begin : Stmt := top 31
abbrev s_taken_at_end : Stmt := top 32
abbrev s_most_between : Stmt := top 33
abbrev s_most_mix : Stmt := top 34
abbrev s_sooner : Stmt := top 37
abbrev s_clip_run : Stmt := top 38
abbrev s_mix_run : Stmt := top 39
abbrev s_track_run : Stmt := top 40
abbrev s_table_run : Stmt := top 41
abbrev s_laid_flat : Stmt := top 42
abbrev s_told_flat : Stmt := top 43
abbrev s_steps_on : Stmt := top 44
abbrev s_told_part : Stmt := top 45
abbrev s_told_mix : Stmt := top 48
abbrev s_told_on : Stmt := top 49
abbrev s_told_at : Stmt := top 50
abbrev s_law_cell_at : Stmt := top 52
abbrev s_law_mixed : Stmt := top 53
abbrev s_law_draws : Stmt := top 54
abbrev s_law_next : Stmt := top 55
abbrev s_law_fraction : Stmt := top 56
abbrev s_law_there : Stmt := top 57
abbrev s_law_clip : Stmt := top 58
abbrev s_law_mixes_put : Stmt := top 59
abbrev s_law_track : Stmt := top 60
abbrev s_law_flat_right : Stmt := top 61
abbrev s_law : Stmt := top 62
/-- what the program's top has left: the defs, the built-ins, the constants -/
structure Txt (K : PySem.W.Frag) (mg : Str → Option Value) where
  is_whole : Df K mg "is_whole" s_is_whole ["x"]
  shared_by : Df K mg "shared_by" s_shared_by ["one", "other"]
  fraction : Df K mg "fraction" s_fraction ["top", "bottom"]
  sum_of : Df K mg "sum_of" s_sum_of ["one", "other"]
  less_by : Df K mg "less_by" s_less_by ["one", "other"]
  times_of : Df K mg "times_of" s_times_of ["one", "other"]
  quotient : Df K mg "quotient" s_quotient ["one", "other"]
  floor_of : Df K mg "floor_of" s_floor_of ["one"]
  place_at : Df K mg "place_at" s_place_at ["clip", "k"]
  picture_at : Df K mg "picture_at" s_picture_at ["clip", "k"]
  steps_up : Df K mg "steps_up" s_steps_up ["place", "step", "count"]
  steps_down : Df K mg "steps_down" s_steps_down ["place", "step"]
  room_from : Df K mg "room_from" s_room_from ["place", "step", "count"]
  head_room : Df K mg "head_room" s_head_room ["clip", "reels"]
  tail_room : Df K mg "tail_room" s_tail_room ["clip", "reels"]
  room_of : Df K mg "room_of" s_room_of ["item"]
  length_of : Df K mg "length_of" s_length_of ["track"]
  item_at : Df K mg "item_at" s_item_at ["track", "moment"]
  mix_spans : Df K mg "mix_spans" s_mix_spans ["track"]
  mix_shares : Df K mg "mix_shares" s_mix_shares ["length", "j"]
  clips_at : Df K mg "clips_at" s_clips_at ["track", "moment"]
  taken_at_begin : Df K mg "taken_at_begin" s_taken_at_begin ["track", "place"]
  taken_at_end : Df K mg "taken_at_end" s_taken_at_end ["track", "place"]
  most_between : Df K mg "most_between" s_most_between ["track", "ahead", "behind", "reels"]
  most_mix : Df K mg "most_mix" s_most_mix ["track", "moment", "reels"]
  sooner : Df K mg "sooner" s_sooner ["one", "other"]
  clip_run : Df K mg "clip_run" s_clip_run ["clip", "k", "share", "share_step"]
  mix_run : Df K mg "mix_run" s_mix_run ["track", "span", "moment"]
  track_run : Df K mg "track_run" s_track_run ["room", "track", "moment"]
  table_run : Df K mg "table_run" s_table_run ["room", "name", "moment"]
  laid_flat : Df K mg "laid_flat" s_laid_flat ["room", "name"]
  told_flat : Df K mg "told_flat" s_told_flat ["pieces", "moment"]
  steps_on : Df K mg "steps_on" s_steps_on ["start", "step", "k"]
  told_part : Df K mg "told_part" s_told_part ["part", "k"]
  told_mix : Df K mg "told_mix" s_told_mix ["track", "span", "moment"]
  told_on : Df K mg "told_on" s_told_on ["track", "moment", "room"]
  told_at : Df K mg "told_at" s_told_at ["room", "name", "moment"]
  law_cell_at : Df K mg "_law_cell_at" s_law_cell_at ["_law_script", "_law_k"]
  law_mixed : Df K mg "_law_mixed" s_law_mixed ["_law_cell", "_law_k"]
  law_draws : Df K mg "_law_draws" s_law_draws ["_law_script"]
  law_next : Df K mg "_law_next" s_law_next ["_law_draws_here"]
  law_fraction : Df K mg "_law_fraction" s_law_fraction ["_law_top", "_law_bottom"]
  law_there : Df K mg "_law_there" s_law_there ["_law_clip_here", "_law_k", "_law_reels"]
  law_clip : Df K mg "_law_clip" s_law_clip ["_law_draws_here", "_law_reels"]
  law_mixes_put : Df K mg "_law_mixes_put" s_law_mixes_put ["_law_draws_here", "_law_track_here", "_law_reels"]
  law_track : Df K mg "_law_track" s_law_track ["_law_draws_here", "_law_reels", "_law_names"]
  law_flat_right : Df K mg "_law_flat_right" s_law_flat_right ["_law_room", "_law_name"]
  law : Df K mg "law" s_law ["_law_script"]
  b_isinstance : mg "isinstance" = none
  b_abs : mg "abs" = none
  b_min : mg "min" = none
  b_max : mg "max" = none
  b_sum : mg "sum" = none
  b_len : mg "len" = none
  b_enumerate : mg "enumerate" = none
  b_range : mg "range" = none
  b_list : mg "list" = none
  b_int : mg "int" = none
  b_bool : mg "bool" = none
  room : ∃ t, mg "MOST_ROOM" = some (.int 1000000 t)
  pieces : ∃ t, mg "MOST_PIECES" = some (.int 400 t)
  wholeA : Addr
  whole : mg "WHOLE" = some (.ref wholeA)
  wholeT : ∀ H, SqT K H wholeA [.int 1, .int 1]
section
variable {P : Program} {w : World} {K : PySem.W.Frag} {mg : Str → Option Value} {base : Heap} {x : Str} {st : Stmt} {ps : List Str}
/-- such a def keeps a promise -/
abbrev Keeps (P : Program) (w : World) (base : Heap) (k : Nat) (D : Df K mg x st ps) (sp : Sp) : Prop := FnOk P w K mg base CX0 k D.f D.fd ps sp
theorem Df.ok {N : List Str} {k : Nat} {sp : Sp} (D : Df K mg x st ps) (S : FnScope N ps (defScope st)) (len : ∀ vs H Q E, sp vs H Q E → vs.length = ps.length)
    (hbody : ∀ (cdv : Value) (A : Around) (outer : List Env) (s : Shared) (H : Hp) (vs : List V) (Q : VK) (E : XK), Room k (A.deeper (envOfC x (defScope st) s.heap.objs.size D.f cdv)) → sp vs H Q E →
      ∃ t, PSs (cxOf CX0 P w K mg base N x (defScope st) D.f cdv A outer s H E).nox (defBody st) t ∧ t { nx := fun _ H' => Q .non H', rt := Q } (start N vs) H) : Keeps P w base (k + 1) D sp :=
  D.fn.ok S len fun cdv A outer s H vs Q E hr h => by
    obtain ⟨t, ht, q⟩ := hbody cdv A outer s H vs Q E hr h
    exact ⟨t, ht.nox, q⟩
end
section
variable {X : Cx} {x : Str} {st : Stmt} {ps : List Str} {k j : Nat} {sp : Sp} {e : Expr} {es : List Expr} {t : TA} {p pos : Pos}
theorem cl (D : Df X.K X.mg x st ps) (G : Keeps X.prog X.w X.base k D sp) (hr : Room j X.A) (hj : k ≤ j) (hg : Gl X x) (ha : PA X (e :: es) t) (hdb : (x == ("__debug__" : Str)) = false := by decide)
    (he : starEach (e :: es) X.env = (false, eval e X.env) :: starEach es X.env := by rfl) (hpl : (backTo pos (starEach es X.env)).any (·.1) = false := by rfl) : PE X (.Call (.Name x p) (e :: es) [] pos) (tCall sp [] E0 t) :=
  pe_call G (hr.mono hj) hg D.g D.fn.kp D.b .nil pass0 ha hdb he hpl
end
/-! ### heaps -/
theorem same_new {H : Hp} {p : Addr} (h : H p = none) (o : HO) : Same H (upd H p o) := fun b u q => by rw [upd_ne (ne_of_none q h)]; exact q
theorem _root_.L2.Same.tup {K : PySem.W.Frag} {H H' : Hp} {a : Addr} {xs : List V} (e : Same H H') (h : SqT K H a xs) : SqT K H' a xs := by
  rcases h with (h | ⟨o, h⟩) | h
  · exact .inl (.inl (e _ _ h))
  · exact .inl (.inr ⟨o, e _ _ h⟩)
  · exact .inr h
/-- lists and tuples that are read stay readable -/
structure Reads1 (K : PySem.W.Frag) (H H' : Hp) : Prop where
  lst : ∀ a xs, SqL K H a xs → SqL K H' a xs
  tup : ∀ a xs, SqT K H a xs → SqT K H' a xs
theorem _root_.L2.Same.reads {K : PySem.W.Frag} {H H' : Hp} (e : Same H H') : Reads1 K H H' := ⟨fun _ _ h => e.seq h, fun _ _ h => e.tup h⟩
mutual
theorem dp_mono {K : PySem.W.Frag} {H H' : Hp} (r : Reads1 K H H') : ∀ (d : PyData) (v : V), Dp K H v d → Dp K H' v d
  | .none, _, h => by cases h; exact .non
  | .bool b, _, h => by cases h; exact .bl b
  | .int i, _, h => by cases h; exact .int i
  | .str x, _, h => by cases h; exact .str x
  | .list ds, _, h => by
    cases h with
    | lst hs ha => exact .lst (r.lst _ _ hs) (dpAll_mono r ds _ ha)
  | .tuple ds, _, h => by
    cases h with
    | tup hs ha => exact .tup (r.tup _ _ hs) (dpAll_mono r ds _ ha)
  | .dict _, _, h => by cases h
theorem dpAll_mono {K : PySem.W.Frag} {H H' : Hp} (r : Reads1 K H H') : ∀ (ds : List PyData) (vs : List V), DpAll K H vs ds → DpAll K H' vs ds
  | [], _, h => by cases h; exact .nil
  | d :: ds, _, h => by
    cases h with
    | cons h1 h2 => exact .cons (dp_mono r d _ h1) (dpAll_mono r ds _ h2)
end
theorem _root_.L2.Same.dp {K : PySem.W.Frag} {H H' : Hp} (e : Same H H') {v : V} {d : PyData} (h : Dp K H v d) : Dp K H' v d := dp_mono e.reads d v h
theorem _root_.L2.Same.dpAll {K : PySem.W.Frag} {H H' : Hp} (e : Same H H') {v : List V} {d : List PyData} (h : DpAll K H v d) : DpAll K H' v d := dpAll_mono e.reads d v h
theorem dpa_len {K : PySem.W.Frag} {H : Hp} : ∀ {vs : List V} {ds : List PyData}, DpAll K H vs ds → vs.length = ds.length
  | _, _, .nil => rfl
  | _, _, .cons _ h => congrArg Nat.succ (dpa_len h)
theorem dpa_get {K : PySem.W.Frag} {H : Hp} : ∀ {vs : List V} {ds : List PyData}, DpAll K H vs ds → ∀ (i : Nat) (v : V), vs[i]? = some v → ∃ d, ds[i]? = some d ∧ Dp K H v d
  | _, _, .nil, i, v, e => by simp at e
  | _, _, .cons h1 h2, 0, v, e => by
    have e' := Option.some.inj e
    subst e'
    exact ⟨_, rfl, h1⟩
  | _, _, .cons h1 h2, i + 1, v, e => dpa_get h2 i v e
theorem dpa_get' {K : PySem.W.Frag} {H : Hp} : ∀ {vs : List V} {ds : List PyData}, DpAll K H vs ds → ∀ (i : Nat) (d : PyData), ds[i]? = some d → ∃ v, vs[i]? = some v ∧ Dp K H v d
  | _, _, .nil, i, v, e => by simp at e
  | _, _, .cons h1 h2, 0, v, e => by
    have e' := Option.some.inj e
    subst e'
    exact ⟨_, rfl, h1⟩
  | _, _, .cons h1 h2, i + 1, v, e => dpa_get' h2 i v e
theorem dpa_app {K : PySem.W.Frag} {H : Hp} : ∀ {vs us : List V} {ds es : List PyData}, DpAll K H vs ds → DpAll K H us es → DpAll K H (vs ++ us) (ds ++ es)
  | _, _, _, _, .nil, h => h
  | _, _, _, _, .cons h1 h2, h => .cons h1 (dpa_app h2 h)
theorem dpa_drop {K : PySem.W.Frag} {H : Hp} : ∀ {vs : List V} {ds : List PyData} (n : Nat), DpAll K H vs ds → DpAll K H (vs.drop n) (ds.drop n)
  | _, _, 0, h => h
  | _, _, _ + 1, .nil => .nil
  | _, _, n + 1, .cons _ h => dpa_drop n h
theorem dpa_take {K : PySem.W.Frag} {H : Hp} : ∀ {vs : List V} {ds : List PyData} (n : Nat), DpAll K H vs ds → DpAll K H (vs.take n) (ds.take n)
  | _, _, 0, _ => .nil
  | _, _, _ + 1, .nil => .nil
  | _, _, n + 1, .cons h1 h => .cons h1 (dpa_take n h)
/-- a tuple of data, opened -/
theorem dp_tup {K : PySem.W.Frag} {H : Hp} {v : V} {ds : List PyData} (h : Dp K H v (.tuple ds)) : ∃ a vs, v = .ref a ∧ SqT K H a vs ∧ DpAll K H vs ds := by
  cases h with
  | tup hs ha => exact ⟨_, _, rfl, hs, ha⟩
theorem dp_lst {K : PySem.W.Frag} {H : Hp} {v : V} {ds : List PyData} (h : Dp K H v (.list ds)) : ∃ a vs, v = .ref a ∧ SqL K H a vs ∧ DpAll K H vs ds := by
  cases h with
  | lst hs ha => exact ⟨_, _, rfl, hs, ha⟩
theorem dp_int {K : PySem.W.Frag} {H : Hp} {v : V} {i : Int} (h : Dp K H v (.int i)) : v = .int i := by cases h; rfl
theorem dp_str {K : PySem.W.Frag} {H : Hp} {v : V} {x : Str} (h : Dp K H v (.str x)) : v = .str x := by cases h; rfl
/-! ### tests -/
theorem if_ne {a b : Int} {A B : Prop} (h1 : a ≠ b → A) (h2 : a = b → B) : if (!decide (V.int a = V.int b)) = true then A else B := by
  by_cases h : a = b
  · rw [if_neg (by rw [h]; simp)]
    exact h2 h
  · rw [if_pos (by rw [decide_eq_false (fun e => h (V.int.inj e))]; rfl)]
    exact h1 h
theorem if_eq {a b : Int} {A B : Prop} (h1 : a = b → A) (h2 : a ≠ b → B) : if decide (V.int a = V.int b) = true then A else B := by
  by_cases h : a = b
  · rw [if_pos (by rw [h]; simp)]
    exact h1 h
  · rw [if_neg (by rw [decide_eq_false (fun e => h (V.int.inj e))]; simp)]
    exact h2 h
theorem if_sne {a b : Str} {A B : Prop} (h1 : a ≠ b → A) (h2 : a = b → B) : if (!decide (V.str a = V.str b)) = true then A else B := by
  by_cases h : a = b
  · rw [if_neg (by rw [h]; simp)]
    exact h2 h
  · rw [if_pos (by rw [decide_eq_false (fun e => h (V.str.inj e))]; rfl)]
    exact h1 h
theorem if_seq {a b : Str} {A B : Prop} (h1 : a = b → A) (h2 : a ≠ b → B) : if decide (V.str a = V.str b) = true then A else B := by
  by_cases h : a = b
  · rw [if_pos (by rw [h]; simp)]
    exact h1 h
  · rw [if_neg (by rw [decide_eq_false (fun e => h (V.str.inj e))]; simp)]
    exact h2 h
theorem if_d {c : Prop} [Decidable c] {A B : Prop} (h1 : c → A) (h2 : ¬ c → B) : if decide c = true then A else B := by
  by_cases h : c
  · rw [if_pos (decide_eq_true h)]
    exact h1 h
  · rw [if_neg (by rw [decide_eq_false h]; simp)]
    exact h2 h
/-! ### data -/
def encF (p : Fr) : PyData := .tuple [.int p.1, .int p.2]
def encI : Item → PyData
  | .clip c => .tuple [.str "clip", .str c.reel, encF c.start, encF c.step, .int c.len]
  | .nest n s l => .tuple [.str "nest", .str n, .int s, .int l]
  | .gap l => .tuple [.str "gap", .int l]
  | .mix l => .tuple [.str "mix", .int l]
def encT (t : Track) : PyData := .list (t.map encI)
def encS (s : Span) : PyData := .tuple [.int s.1, .int s.2.1, .int s.2.2]
def encTell (d : Tell) : PyData := .tuple [.str d.1, .int d.2.1, encF d.2.2]
def encTells (ds : List Tell) : PyData := .list (ds.map encTell)
def encP (p : Part) : PyData := .tuple [.str p.reel, encF p.start, encF p.step, encF p.share, encF p.shareStep]
def encPs (ps : List Part) : PyData := .tuple (ps.map encP)
def encPiece (p : Piece) : PyData := .tuple [.int p.1, encPs p.2]
theorem dp_F {K : PySem.W.Frag} {H : Hp} {v : V} {p : Fr} (h : Dp K H v (encF p)) : ∃ a, v = .ref a ∧ SqT K H a [.int p.1, .int p.2] := by
  obtain ⟨a, vs, rfl, hs, ha⟩ := dp_tup h
  cases ha with
  | cons h1 ha => cases ha with
    | cons h2 ha => cases ha with
      | nil =>
        rw [dp_int h1, dp_int h2] at hs
        exact ⟨a, rfl, hs⟩
theorem F_dp {K : PySem.W.Frag} {H : Hp} {a : Addr} {p : Fr} (h : SqT K H a [.int p.1, .int p.2]) : Dp K H (.ref a) (encF p) := .tup h (.cons (.int _) (.cons (.int _) .nil))
end Rc

set_option maxHeartbeats 4000000
namespace Rc
open PySem PySem.Spec PyProof.Rows L2
section
variable {P : Program} {w : World} {K : PySem.W.Frag} {mg : Str → Option Value} {base : Heap}
/-! ### is_whole, shared_by, fraction -/
def spIsWhole : Sp := fun vs H Q _ => ∃ i : Int, vs = [.int i] ∧ Q (.bl true) H
theorem sc_is_whole : FnScope ["x"] ["x"] (defScope s_is_whole) := ⟨rfl, rfl, rfl, by decide +kernel, rfl, by decide +kernel, by decide +kernel⟩
theorem ok_is_whole (T : Txt K mg) : Keeps P w base 1 T.is_whole spIsWhole := by
  refine T.is_whole.ok sc_is_whole (fun vs H Q E h => ?_) (fun cdv A outer s H vs Q E hr h => ?_)
  · obtain ⟨i, rfl, _⟩ := h
    rfl
  obtain ⟨i, rfl, q⟩ := h
  refine ⟨_, pss_one (ps_ret (pe_and (pe_callB call_isi (by rfl) T.b_isinstance (by decide +kernel) (pa_cons (pv 0) (pa_cons (pe_bltn (v := .ty "int") (by rfl) T.b_int (by decide +kernel) rfl) pa_nil)))
    (pe_one (pe_not (pe_callB call_isi (by rfl) T.b_isinstance (by decide +kernel) (pa_cons (pv 0) (pa_cons (pe_bltn (v := .ty "bool") (by rfl) T.b_bool (by decide +kernel) rfl) pa_nil))))))), ?_⟩
  refine ⟨_, rfl, ?_⟩
  refine ⟨_, _, _, _, _, rfl, .ty _, .base (.int _), kit_ty (r := true) (by decide +kernel), _, rfl, iteT ?_⟩
  refine ⟨_, rfl, _, _, _, _, _, rfl, .ty _, .base (.int _), kit_ty (r := false) (by decide +kernel), _, rfl, ?_⟩
  exact q
def spShared : Sp := fun vs H Q _ => ∃ a b : Int, vs = [.int a, .int b] ∧ 0 ≤ b ∧ Q (.int (Int.gcd a b)) H
theorem sc_shared_by : FnScope ["one", "other"] ["one", "other"] (defScope s_shared_by) := ⟨rfl, rfl, rfl, by decide +kernel, rfl, by decide +kernel, by decide +kernel⟩
theorem gcd_step {a b : Int} (h0 : 0 ≤ b) (h : b ≠ 0) : 0 ≤ a.fmod b ∧ Int.gcd b (a.fmod b) = Int.gcd a b ∧ (a.fmod b).natAbs < b.natAbs := by
  have e : a.fmod b = a % b := Int.fmod_eq_emod_of_nonneg a h0
  have h1 := Int.emod_nonneg a h
  have h2 := Int.emod_lt_of_pos a (show 0 < b by omega)
  refine ⟨by omega, ?_, by omega⟩
  rw [Int.fmod_def, Int.gcd_sub_mul_left_right, Int.gcd_comm]
theorem ok_shared_by (T : Txt K mg) : Keeps P w base 1 T.shared_by spShared := by
  refine T.shared_by.ok sc_shared_by (fun vs H Q E h => ?_) (fun cdv A outer s H vs Q E hr h => ?_)
  · obtain ⟨a, b, rfl, _⟩ := h
    rfl
  obtain ⟨a, b, rfl, hb, q⟩ := h
  refine ⟨_, pss_cons (ps_while PassesOwn.never (pt_cmpR op_ne (pv 1) pe_int (nomark _)) (pss_one (ps_par (i := 0) (j := 1) rfl sc_shared_by.nd rfl rfl (by decide) rfl rfl (pa_cons (pv 1) (pa_cons (pe_op op_modN (pv 0) (pv 1)) pa_nil)) (by rfl))))
    (pss_one (ps_ret (pe_callB call_abs (by rfl) T.b_abs (by decide +kernel) (pa_cons (pv 0) pa_nil)))), ?_⟩
  refine ⟨fun m σ H' => ∃ a' b' : Int, σ = [some (.int a'), some (.int b')] ∧ H' = H ∧ 0 ≤ b' ∧ m = b'.natAbs ∧ Int.gcd a' b' = Int.gcd a b, ⟨_, a, b, rfl, rfl, hb, rfl, rfl⟩, ?_⟩
  rintro m σ H' ⟨a', b', rfl, rfl, hb', rfl, e⟩
  refine ⟨_, rfl, rfl, _, rfl, if_ne (fun c => ?_) (fun c => ?_)⟩
  · obtain ⟨g0, g1, g2⟩ := gcd_step (a := a') hb' c
    refine ⟨fun σ' H'' => σ' = [some (.int b'), some (.int (a'.fmod b'))] ∧ H'' = H', fun σ' H'' z => ⟨_, g2, _, _, z.1, z.2, g0, rfl, g1.trans e⟩, ?_⟩
    exact ⟨_, rfl, _, rfl, _, rfl, _, _, rfl, rfl, c, _, _, rfl, rfl, rfl⟩
  · subst c
    refine ⟨_, rfl, _, rfl, ?_⟩
    have z : (if a' < 0 then -a' else a') = ((Int.gcd a b : Nat) : Int) := by
      rw [← e, Int.gcd_zero]
      omega
    rw [z]
    exact q
/-- fraction(top, bottom), bottom above nought and below 2 ^ 30 -/
def spFraction (K : PySem.W.Frag) : Sp := fun vs H Q _ => ∃ t b : Int, vs = [.int t, .int b] ∧ 0 < b ∧ b < 1073741824 ∧ ∀ r H', Same H H' → Dp K H' r (encF (mkF t b)) → Q r H'
theorem sc_fraction : FnScope ["top", "bottom", "share"] ["top", "bottom"] (defScope s_fraction) := ⟨rfl, rfl, rfl, by decide +kernel, rfl, by decide +kernel, by decide +kernel⟩
theorem ok_fraction (T : Txt K mg) : Keeps P w base 2 T.fraction (spFraction K) := by
  refine T.fraction.ok sc_fraction (fun vs H Q E h => ?_) (fun cdv A outer s H vs Q E hr h => ?_)
  · obtain ⟨t, b, rfl, _⟩ := h
    rfl
  obtain ⟨t, b, rfl, h0, h1, q⟩ := h
  refine ⟨_, pss_cons (ps_if (PW.pt (pw_or (pt_not (pt_val (cl T.is_whole (ok_is_whole T) hr (by decide) (by rfl) (pa_cons (pv 0) pa_nil)))) (pw_or (pt_not (pt_val (cl T.is_whole (ok_is_whole T) hr (by decide) (by rfl) (pa_cons (pv 1) pa_nil)))) (pw_or1 (pt_cmpR op_eq (pv 1) pe_int (nomark _))))))
      (pss_one ps_never) pss_nil)
    (pss_cons (ps_set (i := 2) sc_fraction.nd rfl (Or.inl rfl) (cl T.shared_by (ok_shared_by T) hr (by decide) (by rfl) (pa_cons (pv 0) (pa_cons (pv 1) pa_nil))))
    (pss_cons (ps_if (pt_cmpR op_lt (pv 1) pe_int (nomark _)) (pss_one ps_never) pss_nil)
    (pss_one (ps_ret (pe_tup (pa_cons (pe_op op_fdivN (pv 0) (pv 2)) (pa_cons (pe_op op_fdivN (pv 1) (pv 2)) pa_nil))))))), ?_⟩
  refine ⟨_, rfl, _, rfl, _, rfl, iteF ?_⟩
  refine ⟨_, rfl, _, rfl, _, rfl, iteF ?_⟩
  refine ⟨_, rfl, rfl, _, rfl, if_eq (fun c => absurd c (by omega)) (fun _ => ?_)⟩
  refine ⟨_, rfl, _, rfl, _, _, rfl, Int.le_of_lt h0, ?_⟩
  refine ⟨_, rfl, _, _, rfl, rfl, _, rfl, if_d (fun c => absurd c (by omega)) (fun _ => ?_)⟩
  have g0 := gcd_pos (t := t) h0
  have g1 := gcd_le (t := t) h0
  refine ⟨_, rfl, _, rfl, _, _, rfl, rfl, ⟨by omega, by omega⟩, _, rfl, _, rfl, _, _, rfl, rfl, ⟨by omega, by omega⟩, by show 2 ≤ sizeLine; decide, fun p hp => ?_⟩
  refine q _ _ (same_new hp _) (F_dp (.of ?_))
  rw [upd_same]
  show some (HO.tup [.int (t.fdiv (Int.gcd t b : Int)), .int (b.fdiv (Int.gcd t b : Int))]) = _
  rw [Int.fdiv_eq_ediv_of_nonneg _ (Int.le_of_lt g0), Int.fdiv_eq_ediv_of_nonneg _ (Int.le_of_lt g0)]
  rfl
/-! ### sums, products -/
/-- small enough: its bottom above nought and below 2 ^ 15 -/
structure Sm (p : Fr) : Prop where
  pos : 0 < p.2
  lt : p.2 < 32768
theorem Sm.mul {p q : Fr} (hp : Sm p) (hq : Sm q) : 0 < p.2 * q.2 ∧ p.2 * q.2 < 1073741824 := by
  refine ⟨Int.mul_pos hp.pos hq.pos, ?_⟩
  have h1 := hp.lt
  have h2 := hq.lt
  have h3 : p.2 * q.2 ≤ 32767 * 32767 := Int.mul_le_mul (by omega) (by omega) (Int.le_of_lt hq.pos) (by decide)
  omega
def spSum (K : PySem.W.Frag) : Sp := fun vs H Q _ => ∃ (x y : V) (p q : Fr), vs = [x, y] ∧ Dp K H x (encF p) ∧ Dp K H y (encF q) ∧ Sm p ∧ Sm q ∧ ∀ r H', Same H H' → Dp K H' r (encF (sumF p q)) → Q r H'
theorem sc_sum_of : FnScope ["one", "other"] ["one", "other"] (defScope s_sum_of) := ⟨rfl, rfl, rfl, by decide +kernel, rfl, by decide +kernel, by decide +kernel⟩
theorem ok_sum_of (T : Txt K mg) : Keeps P w base 3 T.sum_of (spSum K) := by
  refine T.sum_of.ok sc_sum_of (fun vs H Q E h => ?_) (fun cdv A outer s H vs Q E hr h => ?_)
  · obtain ⟨x, y, p, q, rfl, _⟩ := h
    rfl
  obtain ⟨x, y, p, q, rfl, hx, hy, sp, sq, k⟩ := h
  obtain ⟨a, rfl, ha⟩ := dp_F hx
  obtain ⟨b, rfl, hb⟩ := dp_F hy
  refine ⟨_, pss_one (ps_ret (cl T.fraction (ok_fraction T) hr (by decide) (by rfl) (pa_cons
    (pe_op op_add (pe_op op_mul (pe_ix ix_tup (pv 0) pe_int (fun _ _ => rfl)) (pe_ix ix_tup (pv 1) pe_int (fun _ _ => rfl))) (pe_op op_mul (pe_ix ix_tup (pv 1) pe_int (fun _ _ => rfl)) (pe_ix ix_tup (pv 0) pe_int (fun _ _ => rfl))))
    (pa_cons (pe_op op_mul (pe_ix ix_tup (pv 0) pe_int (fun _ _ => rfl)) (pe_ix ix_tup (pv 1) pe_int (fun _ _ => rfl))) pa_nil)))), ?_⟩
  obtain ⟨m0, m1⟩ := sp.mul sq
  have p0 := sp.pos
  have p1 := sp.lt
  have q0 := sq.pos
  have q1 := sq.lt
  refine ⟨_, rfl, a, _, _, _, rfl, rfl, ha, rfl, _, rfl, b, _, _, _, rfl, rfl, hb, rfl, _, _, rfl, rfl, .inr ⟨by omega, by omega⟩, ?_⟩
  refine ⟨_, rfl, b, _, _, _, rfl, rfl, hb, rfl, _, rfl, a, _, _, _, rfl, rfl, ha, rfl, _, _, rfl, rfl, .inr ⟨by omega, by omega⟩, ?_⟩
  refine ⟨_, _, rfl, rfl, ?_⟩
  refine ⟨_, rfl, a, _, _, _, rfl, rfl, ha, rfl, _, rfl, b, _, _, _, rfl, rfl, hb, rfl, _, _, rfl, rfl, .inr ⟨by omega, by omega⟩, ?_⟩
  exact ⟨_, _, rfl, m0, m1, k⟩
end
end Rc

set_option maxHeartbeats 4000000
namespace Rc
open PySem PySem.Spec PyProof.Rows L2
/-! ### data, opened -/
section
variable {K : PySem.W.Frag} {H : Hp} {v : V}
theorem dpa_nil {vs : List V} (h : DpAll K H vs []) : vs = [] := by cases h; rfl
theorem dpa_cons {vs : List V} {d : PyData} {ds : List PyData} (h : DpAll K H vs (d :: ds)) : ∃ v us, vs = v :: us ∧ Dp K H v d ∧ DpAll K H us ds := by
  cases h with
  | cons h1 h2 => exact ⟨_, _, rfl, h1, h2⟩
theorem dp_clip {c : Clip} (h : Dp K H v (encI (.clip c))) : ∃ a s t, v = .ref a ∧ SqT K H a [.str "clip", .str c.reel, s, t, .int c.len] ∧ Dp K H s (encF c.start) ∧ Dp K H t (encF c.step) := by
  obtain ⟨a, vs, rfl, hs, ha⟩ := dp_tup h
  obtain ⟨v1, vs, rfl, h1, ha⟩ := dpa_cons ha
  obtain ⟨v2, vs, rfl, h2, ha⟩ := dpa_cons ha
  obtain ⟨v3, vs, rfl, h3, ha⟩ := dpa_cons ha
  obtain ⟨v4, vs, rfl, h4, ha⟩ := dpa_cons ha
  obtain ⟨v5, vs, rfl, h5, ha⟩ := dpa_cons ha
  obtain rfl := dpa_nil ha
  rw [dp_str h1, dp_str h2, dp_int h5] at hs
  exact ⟨a, v3, v4, rfl, hs, h3, h4⟩
theorem dp_nest {n : Str} {s l : Int} (h : Dp K H v (encI (.nest n s l))) : ∃ a, v = .ref a ∧ SqT K H a [.str "nest", .str n, .int s, .int l] := by
  obtain ⟨a, vs, rfl, hs, ha⟩ := dp_tup h
  obtain ⟨v1, vs, rfl, h1, ha⟩ := dpa_cons ha
  obtain ⟨v2, vs, rfl, h2, ha⟩ := dpa_cons ha
  obtain ⟨v3, vs, rfl, h3, ha⟩ := dpa_cons ha
  obtain ⟨v4, vs, rfl, h4, ha⟩ := dpa_cons ha
  obtain rfl := dpa_nil ha
  rw [dp_str h1, dp_str h2, dp_int h3, dp_int h4] at hs
  exact ⟨a, rfl, hs⟩
theorem dp_two {x : Str} {l : Int} (h : Dp K H v (.tuple [.str x, .int l])) : ∃ a, v = .ref a ∧ SqT K H a [.str x, .int l] := by
  obtain ⟨a, vs, rfl, hs, ha⟩ := dp_tup h
  obtain ⟨v1, vs, rfl, h1, ha⟩ := dpa_cons ha
  obtain ⟨v2, vs, rfl, h2, ha⟩ := dpa_cons ha
  obtain rfl := dpa_nil ha
  rw [dp_str h1, dp_int h2] at hs
  exact ⟨a, rfl, hs⟩
theorem dp_gap {l : Int} (h : Dp K H v (encI (.gap l))) : ∃ a, v = .ref a ∧ SqT K H a [.str "gap", .int l] := dp_two h
theorem dp_mix {l : Int} (h : Dp K H v (encI (.mix l))) : ∃ a, v = .ref a ∧ SqT K H a [.str "mix", .int l] := dp_two h
theorem dp_span {s : Span} (h : Dp K H v (encS s)) : ∃ a, v = .ref a ∧ SqT K H a [.int s.1, .int s.2.1, .int s.2.2] := by
  obtain ⟨a, vs, rfl, hs, ha⟩ := dp_tup h
  obtain ⟨v1, vs, rfl, h1, ha⟩ := dpa_cons ha
  obtain ⟨v2, vs, rfl, h2, ha⟩ := dpa_cons ha
  obtain ⟨v3, vs, rfl, h3, ha⟩ := dpa_cons ha
  obtain rfl := dpa_nil ha
  rw [dp_int h1, dp_int h2, dp_int h3] at hs
  exact ⟨a, rfl, hs⟩
/-- an item's word, and its last -/
def Item.word : Item → Str
  | .clip _ => "clip"
  | .nest _ _ _ => "nest"
  | .gap _ => "gap"
  | .mix _ => "mix"
theorem dp_item {it : Item} (h : Dp K H v (encI it)) : ∃ a vs, v = .ref a ∧ SqT K H a vs ∧ atI vs 0 = some (.str it.word) ∧ atI vs (-1) = some (.int it.last) ∧ (it.isMix = true → atI vs 1 = some (.int it.last)) := by
  cases it with
  | clip c =>
    obtain ⟨a, s, t, e, h, _⟩ := dp_clip h
    exact ⟨a, _, e, h, rfl, rfl, fun z => nomatch z⟩
  | nest n s l =>
    obtain ⟨a, e, h⟩ := dp_nest h
    exact ⟨a, _, e, h, rfl, rfl, fun z => nomatch z⟩
  | gap l =>
    obtain ⟨a, e, h⟩ := dp_gap h
    exact ⟨a, _, e, h, rfl, rfl, fun z => nomatch z⟩
  | mix l =>
    obtain ⟨a, e, h⟩ := dp_mix h
    exact ⟨a, _, e, h, rfl, rfl, fun _ => rfl⟩
theorem word_mix {it : Item} : it.word = ("mix" : Str) ↔ it.isMix = true := by
  cases it with
  | mix l => exact ⟨fun _ => rfl, fun _ => rfl⟩
  | clip c => exact ⟨fun h => absurd h (by decide +kernel : ¬ (("clip" : Str) = "mix")), fun h => nomatch h⟩
  | nest n s l => exact ⟨fun h => absurd h (by decide +kernel : ¬ (("nest" : Str) = "mix")), fun h => nomatch h⟩
  | gap l => exact ⟨fun h => absurd h (by decide +kernel : ¬ (("gap" : Str) = "mix")), fun h => nomatch h⟩
end
section
variable {P : Program} {w : World} {K : PySem.W.Frag} {mg : Str → Option Value} {base : Heap}
/-- nothing is asked of the fraction that comes but its bottom's size -/
def spLess (K : PySem.W.Frag) : Sp := fun vs H Q _ => ∃ (x y : V) (p q : Fr), vs = [x, y] ∧ Dp K H x (encF p) ∧ Dp K H y (encF q) ∧ Sm p ∧ Sm q ∧ ∀ r H' f, Same H H' → 0 < f.2 → f.2 ≤ p.2 * q.2 → Dp K H' r (encF f) → Q r H'
theorem sc_less_by : FnScope ["one", "other"] ["one", "other"] (defScope s_less_by) := ⟨rfl, rfl, rfl, by decide +kernel, rfl, by decide +kernel, by decide +kernel⟩
theorem ok_less_by (T : Txt K mg) : Keeps P w base 3 T.less_by (spLess K) := by
  refine T.less_by.ok sc_less_by (fun vs H Q E h => ?_) (fun cdv A outer s H vs Q E hr h => ?_)
  · obtain ⟨x, y, p, q, rfl, _⟩ := h
    rfl
  obtain ⟨x, y, p, q, rfl, hx, hy, sp, sq, k⟩ := h
  obtain ⟨a, rfl, ha⟩ := dp_F hx
  obtain ⟨b, rfl, hb⟩ := dp_F hy
  refine ⟨_, pss_one (ps_ret (cl T.fraction (ok_fraction T) hr (by decide) (by rfl) (pa_cons
    (pe_op op_sub (pe_op op_mul (pe_ix ix_tup (pv 0) pe_int (fun _ _ => rfl)) (pe_ix ix_tup (pv 1) pe_int (fun _ _ => rfl))) (pe_op op_mul (pe_ix ix_tup (pv 1) pe_int (fun _ _ => rfl)) (pe_ix ix_tup (pv 0) pe_int (fun _ _ => rfl))))
    (pa_cons (pe_op op_mul (pe_ix ix_tup (pv 0) pe_int (fun _ _ => rfl)) (pe_ix ix_tup (pv 1) pe_int (fun _ _ => rfl))) pa_nil)))), ?_⟩
  obtain ⟨m0, m1⟩ := sp.mul sq
  have p0 := sp.pos
  have p1 := sp.lt
  have q0 := sq.pos
  have q1 := sq.lt
  refine ⟨_, rfl, a, _, _, _, rfl, rfl, ha, rfl, _, rfl, b, _, _, _, rfl, rfl, hb, rfl, _, _, rfl, rfl, .inr ⟨by omega, by omega⟩, ?_⟩
  refine ⟨_, rfl, b, _, _, _, rfl, rfl, hb, rfl, _, rfl, a, _, _, _, rfl, rfl, ha, rfl, _, _, rfl, rfl, .inr ⟨by omega, by omega⟩, ?_⟩
  refine ⟨_, _, rfl, rfl, ?_⟩
  refine ⟨_, rfl, a, _, _, _, rfl, rfl, ha, rfl, _, rfl, b, _, _, _, rfl, rfl, hb, rfl, _, _, rfl, rfl, .inr ⟨by omega, by omega⟩, ?_⟩
  exact ⟨_, _, rfl, m0, m1, fun r H' g d => k r H' _ g (mkF_pos m0) (mkF_le m0) d⟩
def spTimes (K : PySem.W.Frag) : Sp := fun vs H Q _ => ∃ (x y : V) (p q : Fr), vs = [x, y] ∧ Dp K H x (encF p) ∧ Dp K H y (encF q) ∧ Sm p ∧ Sm q ∧ -1000000 < p.1 ∧ p.1 < 1000000 ∧ ∀ r H', Same H H' → Dp K H' r (encF (timesF p q)) → Q r H'
theorem sc_times_of : FnScope ["one", "other"] ["one", "other"] (defScope s_times_of) := ⟨rfl, rfl, rfl, by decide +kernel, rfl, by decide +kernel, by decide +kernel⟩
theorem ok_times_of (T : Txt K mg) : Keeps P w base 3 T.times_of (spTimes K) := by
  refine T.times_of.ok sc_times_of (fun vs H Q E h => ?_) (fun cdv A outer s H vs Q E hr h => ?_)
  · obtain ⟨x, y, p, q, rfl, _⟩ := h
    rfl
  obtain ⟨x, y, p, q, rfl, hx, hy, sp, sq, lo, hi, k⟩ := h
  obtain ⟨a, rfl, ha⟩ := dp_F hx
  obtain ⟨b, rfl, hb⟩ := dp_F hy
  refine ⟨_, pss_one (ps_ret (cl T.fraction (ok_fraction T) hr (by decide) (by rfl) (pa_cons
    (pe_op op_mul (pe_ix ix_tup (pv 0) pe_int (fun _ _ => rfl)) (pe_ix ix_tup (pv 1) pe_int (fun _ _ => rfl)))
    (pa_cons (pe_op op_mul (pe_ix ix_tup (pv 0) pe_int (fun _ _ => rfl)) (pe_ix ix_tup (pv 1) pe_int (fun _ _ => rfl))) pa_nil)))), ?_⟩
  obtain ⟨m0, m1⟩ := sp.mul sq
  have q0 := sq.pos
  have q1 := sq.lt
  refine ⟨_, rfl, a, _, _, _, rfl, rfl, ha, rfl, _, rfl, b, _, _, _, rfl, rfl, hb, rfl, _, _, rfl, rfl, .inl ⟨by omega, by omega⟩, ?_⟩
  refine ⟨_, rfl, a, _, _, _, rfl, rfl, ha, rfl, _, rfl, b, _, _, _, rfl, rfl, hb, rfl, _, _, rfl, rfl, .inr ⟨by omega, by omega⟩, ?_⟩
  exact ⟨_, _, rfl, m0, m1, k⟩
def spQuot (K : PySem.W.Frag) : Sp := fun vs H Q _ => ∃ (x y : V) (p q : Fr), vs = [x, y] ∧ Dp K H x (encF p) ∧ Dp K H y (encF q) ∧ Sm p ∧ Sm q ∧ 0 < q.1 ∧ q.1 < 32768 ∧ ∀ r H' f, Same H H' → 0 < f.2 → f.2 < 1073741824 → Dp K H' r (encF f) → Q r H'
theorem sc_quotient : FnScope ["one", "other"] ["one", "other"] (defScope s_quotient) := ⟨rfl, rfl, rfl, by decide +kernel, rfl, by decide +kernel, by decide +kernel⟩
theorem ok_quotient (T : Txt K mg) : Keeps P w base 3 T.quotient (spQuot K) := by
  refine T.quotient.ok sc_quotient (fun vs H Q E h => ?_) (fun cdv A outer s H vs Q E hr h => ?_)
  · obtain ⟨x, y, p, q, rfl, _⟩ := h
    rfl
  obtain ⟨x, y, p, q, rfl, hx, hy, sp, sq, lo, hi, k⟩ := h
  obtain ⟨a, rfl, ha⟩ := dp_F hx
  obtain ⟨b, rfl, hb⟩ := dp_F hy
  refine ⟨_, pss_cons (ps_if (pt_cmpR op_eq (pe_ix ix_tup (pv 1) pe_int (fun _ _ => rfl)) pe_int (nomark _)) (pss_one ps_never) pss_nil) (pss_one (ps_ret (cl T.fraction (ok_fraction T) hr (by decide) (by rfl) (pa_cons
    (pe_op op_mul (pe_ix ix_tup (pv 0) pe_int (fun _ _ => rfl)) (pe_ix ix_tup (pv 1) pe_int (fun _ _ => rfl)))
    (pa_cons (pe_op op_mul (pe_ix ix_tup (pv 0) pe_int (fun _ _ => rfl)) (pe_ix ix_tup (pv 1) pe_int (fun _ _ => rfl))) pa_nil))))), ?_⟩
  obtain ⟨m0, m1⟩ := sp.mul (q := (0, q.1)) ⟨lo, hi⟩
  have q0 := sq.pos
  have q1 := sq.lt
  refine ⟨_, rfl, b, _, _, _, rfl, rfl, hb, rfl, rfl, _, rfl, if_eq (fun c => absurd c (by omega)) (fun _ => ?_)⟩
  refine ⟨_, rfl, a, _, _, _, rfl, rfl, ha, rfl, _, rfl, b, _, _, _, rfl, rfl, hb, rfl, _, _, rfl, rfl, .inr ⟨by omega, by omega⟩, ?_⟩
  refine ⟨_, rfl, a, _, _, _, rfl, rfl, ha, rfl, _, rfl, b, _, _, _, rfl, rfl, hb, rfl, _, _, rfl, rfl, .inr ⟨by omega, by omega⟩, ?_⟩
  exact ⟨_, _, rfl, m0, m1, fun r H' g d => k r H' _ g (mkF_pos m0) (Int.lt_of_le_of_lt (mkF_le m0) m1) d⟩
def spFloor (K : PySem.W.Frag) : Sp := fun vs H Q _ => ∃ (x : V) (p : Fr), vs = [x] ∧ Dp K H x (encF p) ∧ 0 < p.2 ∧ p.2 < 1073741824 ∧ Q (.int (floorF p)) H
theorem sc_floor_of : FnScope ["one"] ["one"] (defScope s_floor_of) := ⟨rfl, rfl, rfl, by decide +kernel, rfl, by decide +kernel, by decide +kernel⟩
theorem ok_floor_of (T : Txt K mg) : Keeps P w base 1 T.floor_of (spFloor K) := by
  refine T.floor_of.ok sc_floor_of (fun vs H Q E h => ?_) (fun cdv A outer s H vs Q E hr h => ?_)
  · obtain ⟨x, p, rfl, _⟩ := h
    rfl
  obtain ⟨x, p, rfl, hx, lo, hi, k⟩ := h
  obtain ⟨a, rfl, ha⟩ := dp_F hx
  refine ⟨_, pss_one (ps_ret (pe_op op_fdivN (pe_ix ix_tup (pv 0) pe_int (fun _ _ => rfl)) (pe_ix ix_tup (pv 0) pe_int (fun _ _ => rfl)))), ?_⟩
  refine ⟨_, rfl, a, _, _, _, rfl, rfl, ha, rfl, _, rfl, a, _, _, _, rfl, rfl, ha, rfl, _, _, rfl, rfl, ⟨by omega, by omega⟩, ?_⟩
  show Q (.int (p.1.fdiv p.2)) H
  rw [Int.fdiv_eq_ediv_of_nonneg _ (Int.le_of_lt lo)]
  exact k
/-! ### places of clips -/
theorem ClipOk.sm {c : Clip} (h : ClipOk c) : Sm c.start ∧ Sm c.step := ⟨⟨h.s0, by have := h.s8; omega⟩, ⟨h.t0, by have := h.t8; omega⟩⟩
theorem sm_times {p : Fr} {k : Int} (h : Sm p) : Sm (timesF p (k, 1)) := ⟨times1_pos h.pos, Int.lt_of_le_of_lt (times1_le h.pos) h.lt⟩
theorem sm_one {k : Int} : Sm (k, 1) := ⟨by show (0 : Int) < 1; decide, by show (1 : Int) < 32768; decide⟩
theorem place_small {c : Clip} {k : Int} (h : ClipOk c) : 0 < (placeAt c.start c.step k).2 ∧ (placeAt c.start c.step k).2 ≤ 64 := by
  refine ⟨place_pos h.s0 h.t0, ?_⟩
  have h1 := place_le (k := k) h.s0 h.t0
  have h2 : c.start.2 * c.step.2 ≤ 8 * 8 := Int.mul_le_mul h.s8 h.t8 (Int.le_of_lt h.t0) (by decide)
  omega
/-- start + k * step, as place_at and steps_on say it -/
def spSteps (K : PySem.W.Frag) : Sp := fun vs H Q _ => ∃ (x y : V) (p q : Fr) (k : Int), vs = [x, y, .int k] ∧ Dp K H x (encF p) ∧ Dp K H y (encF q) ∧ Sm p ∧ Sm q ∧ -1000000 < q.1 ∧ q.1 < 1000000 ∧
  ∀ r H', Same H H' → Dp K H' r (encF (sumF p (timesF q (k, 1)))) → Q r H'
theorem sc_steps_on : FnScope ["start", "step", "k"] ["start", "step", "k"] (defScope s_steps_on) := ⟨rfl, rfl, rfl, by decide +kernel, rfl, by decide +kernel, by decide +kernel⟩
theorem ok_steps_on (T : Txt K mg) : Keeps P w base 4 T.steps_on (spSteps K) := by
  refine T.steps_on.ok sc_steps_on (fun vs H Q E h => ?_) (fun cdv A outer s H vs Q E hr h => ?_)
  · obtain ⟨x, y, p, q, k, rfl, _⟩ := h
    rfl
  obtain ⟨x, y, p, q, k, rfl, hx, hy, sp, sq, lo, hi, kk⟩ := h
  refine ⟨_, pss_one (ps_ret (cl T.sum_of (ok_sum_of T) hr (by decide) (by rfl) (pa_cons (pv 0) (pa_cons
    (cl T.times_of (ok_times_of T) hr (by decide) (by rfl) (pa_cons (pv 1) (pa_cons (pe_tup (pa_cons (pv 2) (pa_cons pe_int pa_nil))) pa_nil))) pa_nil)))), ?_⟩
  refine ⟨_, rfl, _, rfl, _, rfl, by show 2 ≤ sizeLine; decide, fun t ht => ?_⟩
  have g := same_new ht (.tup [.int k, .int 1])
  refine ⟨_, _, q, (k, 1), rfl, g.dp hy, F_dp (.of upd_same), sq, sm_one, lo, hi, fun r H1 g1 d1 => ?_⟩
  exact ⟨_, _, p, _, rfl, (g.trans g1).dp hx, d1, sp, sm_times sq, fun r' H2 g2 d2 => kk r' H2 (g.trans (g1.trans g2)) d2⟩
def spPlace (K : PySem.W.Frag) : Sp := fun vs H Q _ => ∃ (x : V) (c : Clip) (k : Int), vs = [x, .int k] ∧ Dp K H x (encI (.clip c)) ∧ ClipOk c ∧ ∀ r H', Same H H' → Dp K H' r (encF (placeAt c.start c.step k)) → Q r H'
theorem sc_place_at : FnScope ["clip", "k"] ["clip", "k"] (defScope s_place_at) := ⟨rfl, rfl, rfl, by decide +kernel, rfl, by decide +kernel, by decide +kernel⟩
theorem ok_place_at (T : Txt K mg) : Keeps P w base 4 T.place_at (spPlace K) := by
  refine T.place_at.ok sc_place_at (fun vs H Q E h => ?_) (fun cdv A outer s H vs Q E hr h => ?_)
  · obtain ⟨x, c, k, rfl, _⟩ := h
    rfl
  obtain ⟨x, c, k, rfl, hx, ok, kk⟩ := h
  obtain ⟨a, u, v, rfl, ha, hu, hv⟩ := dp_clip hx
  obtain ⟨sp, sq⟩ := ok.sm
  have lo := ok.lo
  have hi := ok.hi
  refine ⟨_, pss_one (ps_ret (cl T.sum_of (ok_sum_of T) hr (by decide) (by rfl) (pa_cons (pe_ix ix_tup (pv 0) pe_int (fun _ _ => rfl)) (pa_cons
    (cl T.times_of (ok_times_of T) hr (by decide) (by rfl) (pa_cons (pe_ix ix_tup (pv 0) pe_int (fun _ _ => rfl)) (pa_cons (pe_tup (pa_cons (pv 1) (pa_cons pe_int pa_nil))) pa_nil))) pa_nil)))), ?_⟩
  refine ⟨_, rfl, a, _, _, _, rfl, rfl, ha, rfl, _, rfl, a, _, _, _, rfl, rfl, ha, rfl, _, rfl, by show 2 ≤ sizeLine; decide, fun t ht => ?_⟩
  have g := same_new ht (.tup [.int k, .int 1])
  refine ⟨_, _, c.step, (k, 1), rfl, g.dp hv, F_dp (.of upd_same), sq, sm_one, by omega, by omega, fun r H1 g1 d1 => ?_⟩
  exact ⟨_, _, c.start, _, rfl, (g.trans g1).dp hu, d1, sp, sm_times sq, fun r' H2 g2 d2 => kk r' H2 (g.trans (g1.trans g2)) d2⟩
def spPicture (K : PySem.W.Frag) : Sp := fun vs H Q _ => ∃ (x : V) (c : Clip) (k : Int), vs = [x, .int k] ∧ Dp K H x (encI (.clip c)) ∧ ClipOk c ∧ ∀ H', Same H H' → Q (.int (floorF (placeAt c.start c.step k))) H'
theorem sc_picture_at : FnScope ["clip", "k"] ["clip", "k"] (defScope s_picture_at) := ⟨rfl, rfl, rfl, by decide +kernel, rfl, by decide +kernel, by decide +kernel⟩
theorem ok_picture_at (T : Txt K mg) : Keeps P w base 5 T.picture_at (spPicture K) := by
  refine T.picture_at.ok sc_picture_at (fun vs H Q E h => ?_) (fun cdv A outer s H vs Q E hr h => ?_)
  · obtain ⟨x, c, k, rfl, _⟩ := h
    rfl
  obtain ⟨x, c, k, rfl, hx, ok, kk⟩ := h
  obtain ⟨z0, z1⟩ := place_small (k := k) ok
  refine ⟨_, pss_one (ps_ret (cl T.floor_of (ok_floor_of T) hr (by decide) (by rfl) (pa_cons (cl T.place_at (ok_place_at T) hr (by decide) (by rfl) (pa_cons (pv 0) (pa_cons (pv 1) pa_nil))) pa_nil))), ?_⟩
  refine ⟨_, rfl, _, rfl, _, c, k, rfl, hx, ok, fun r H1 g1 d1 => ?_⟩
  exact ⟨_, _, rfl, d1, z0, by omega, kk H1 g1⟩
end
end Rc

set_option maxHeartbeats 4000000
namespace Rc
open PySem PySem.Spec PyProof.Rows L2
/-! ### data without lists stand through a list's change -/
mutual
def noL : PyData → Bool
  | .list _ => false
  | .tuple ds => noLs ds
  | _ => true
def noLs : List PyData → Bool
  | [] => true
  | d :: ds => noL d && noLs ds
end
mutual
theorem dp_tups {K : PySem.W.Frag} {H H' : Hp} (r : ∀ a xs, SqT K H a xs → SqT K H' a xs) : ∀ (d : PyData) (v : V), noL d = true → Dp K H v d → Dp K H' v d
  | .none, _, _, h => by cases h; exact .non
  | .bool b, _, _, h => by cases h; exact .bl b
  | .int i, _, _, h => by cases h; exact .int i
  | .str x, _, _, h => by cases h; exact .str x
  | .list ds, _, n, _ => by simp [noL] at n
  | .tuple ds, _, n, h => by
    cases h with
    | tup hs ha => exact .tup (r _ _ hs) (dpAll_tups r ds _ (by simpa [noL] using n) ha)
  | .dict _, _, _, h => by cases h
theorem dpAll_tups {K : PySem.W.Frag} {H H' : Hp} (r : ∀ a xs, SqT K H a xs → SqT K H' a xs) : ∀ (ds : List PyData) (vs : List V), noLs ds = true → DpAll K H vs ds → DpAll K H' vs ds
  | [], _, _, h => by cases h; exact .nil
  | d :: ds, _, n, h => by
    have n' : noL d = true ∧ noLs ds = true := by simpa [noLs] using n
    cases h with
    | cons h1 h2 => exact .cons (dp_tups r d _ n'.1 h1) (dpAll_tups r ds _ n'.2 h2)
end
theorem noLs_map {α : Type} {f : α → PyData} (h : ∀ x, noL (f x) = true) : ∀ l : List α, noLs (l.map f) = true
  | [] => rfl
  | x :: r => by
    show (noL (f x) && noLs (r.map f)) = true
    rw [h x, noLs_map h r]
    rfl
theorem noL_F (p : Fr) : noL (encF p) = true := rfl
theorem noL_S (s : Span) : noL (encS s) = true := rfl
theorem noL_I (it : Item) : noL (encI it) = true := by cases it <;> rfl
theorem noL_Tell (d : Tell) : noL (encTell d) = true := rfl
theorem noL_P (p : Part) : noL (encP p) = true := rfl
theorem noL_Piece (p : Piece) : noL (encPiece p) = true := by
  show (noL (.int p.1) && (noL (encPs p.2) && true)) = true
  have e : noL (encPs p.2) = true := by
    show noL (.tuple (p.2.map encP)) = true
    simpa [noL] using noLs_map noL_P p.2
  rw [e]
  rfl
/-- a list is changed: tuples stand -/
theorem tup_upd {K : PySem.W.Frag} {H : Hp} {l : Addr} {xs : List V} {o : HO} (e : H l = some (.lst xs)) : ∀ a ys, SqT K H a ys → SqT K (upd H l o) a ys := fun a ys h => by
  rcases h with (h | ⟨u, h⟩) | h
  · exact .inl (.inl (by rw [upd_ne (ne_of h e (by intro q; cases q))]; exact h))
  · exact .inl (.inr ⟨u, by rw [upd_ne (ne_of h e (by intro q; cases q))]; exact h⟩)
  · exact .inr h
/-- a new object's change -/
theorem same_upd {H H' : Hp} {l : Addr} {o : HO} (s : Same H H') (n : H l = none) : Same H (upd H' l o) := fun b u e => by
  rw [upd_ne (ne_of_none e n)]
  exact s b u e
section
variable {K : PySem.W.Frag} {H : Hp} {v : V}
/-- a track, opened -/
theorem dpt {t : Track} (h : Dp K H v (encT t)) : ∃ a vs, v = .ref a ∧ SqL K H a vs ∧ DpAll K H vs (t.map encI) ∧ vs.length = t.length := by
  obtain ⟨a, vs, e, hs, ha⟩ := dp_lst h
  exact ⟨a, vs, e, hs, ha, (dpa_len ha).trans (List.length_map _)⟩
theorem dpm_get {α : Type} {f : α → PyData} {t : List α} {vs : List V} (h : DpAll K H vs (t.map f)) {i : Nat} {it : α} (e : t[i]? = some it) : ∃ x, vs[i]? = some x ∧ Dp K H x (f it) :=
  dpa_get' h i (f it) (by rw [List.getElem?_map, e]; rfl)
theorem dpm_at {α : Type} {f : α → PyData} {t : List α} {vs : List V} (h : DpAll K H vs (t.map f)) {i : Nat} {x : V} (e : vs[i]? = some x) : ∃ it, t[i]? = some it ∧ Dp K H x (f it) := by
  obtain ⟨d, e1, h1⟩ := dpa_get h i x e
  rw [List.getElem?_map] at e1
  cases q : t[i]? with
  | none =>
    rw [q] at e1
    cases e1
  | some it =>
    rw [q] at e1
    have e2 : f it = d := Option.some.inj e1
    rw [← e2] at h1
    exact ⟨it, rfl, h1⟩
end
theorem lenOf_nil : lenOf [] = 0 := rfl
theorem lenOf_cons (it : Item) (r : Track) : lenOf (it :: r) = it.room + lenOf r := by
  unfold lenOf
  rw [List.map_cons, List.sum_cons]
theorem lenOf_app (a b : Track) : lenOf (a ++ b) = lenOf a + lenOf b := by
  unfold lenOf
  rw [List.map_append, List.sum_append]
theorem lenOf_take {t : Track} {i : Nat} {it : Item} (e : t[i]? = some it) : lenOf (t.take (i + 1)) = lenOf (t.take i) + it.room := by
  rw [List.take_add_one, e, lenOf_app]
  show _ + lenOf [it] = _
  rw [lenOf_cons, lenOf_nil]
  omega
theorem drop_at {α : Type} {t : List α} {i : Nat} {it : α} (e : t[i]? = some it) : t.drop i = it :: t.drop (i + 1) := by
  obtain ⟨h, e1⟩ := List.getElem?_eq_some_iff.mp e
  rw [List.drop_eq_getElem_cons h, e1]
section
variable {P : Program} {w : World} {K : PySem.W.Frag} {mg : Str → Option Value} {base : Heap}
/-! ### room_of, item_at, mix_spans -/
def spRoomOf (K : PySem.W.Frag) : Sp := fun vs H Q _ => ∃ (x : V) (it : Item), vs = [x] ∧ Dp K H x (encI it) ∧ Q (.int it.room) H
theorem sc_room_of : FnScope ["item"] ["item"] (defScope s_room_of) := ⟨rfl, rfl, rfl, by decide +kernel, rfl, by decide +kernel, by decide +kernel⟩
theorem ok_room_of (T : Txt K mg) : Keeps P w base 1 T.room_of (spRoomOf K) := by
  refine T.room_of.ok sc_room_of (fun vs H Q E h => ?_) (fun cdv A outer s H vs Q E hr h => ?_)
  · obtain ⟨x, it, rfl, _⟩ := h
    rfl
  obtain ⟨x, it, rfl, hx, k⟩ := h
  obtain ⟨a, vs, rfl, ha, h0, h1, _⟩ := dp_item hx
  refine ⟨_, pss_cons (ps_if (pt_cmpR op_eq (pe_ix ix_tup (pv 0) pe_int (fun _ _ => rfl)) pe_str (nomark _)) (pss_one (ps_ret pe_int)) pss_nil)
    (pss_one (ps_ret (pe_ix ix_tup (pv 0) (pe_un un_neg pe_int) (fun _ _ => rfl)))), ?_⟩
  refine ⟨_, rfl, a, _, _, _, rfl, rfl, ha, h0, rfl, _, rfl, if_seq (fun c => ?_) (fun c => ?_)⟩
  · have e : it.room = 0 := by
      unfold Item.room
      rw [if_pos (word_mix.mp c)]
    rw [e] at k
    exact k
  · have e : it.room = it.last := by
      unfold Item.room
      rw [if_neg (fun z => c (word_mix.mpr z))]
    rw [e] at k
    exact ⟨_, rfl, _, rfl, a, _, _, _, rfl, rfl, ha, h1, k⟩
def spItemAt (K : PySem.W.Frag) : Sp := fun vs H Q _ => ∃ (x : V) (t : Track) (m : Int), vs = [x, .int m] ∧ Dp K H x (encT t) ∧
  (match itemAt t m with
    | none => ∀ H', Same H H' → Q .non H'
    | some (p, far, _) => ∀ a H', Same H H' → H' a = some (.tup [.int p, .int far]) → Q (.ref a) H')
theorem sc_item_at : FnScope ["track", "moment", "begin", "place", "item"] ["track", "moment"] (defScope s_item_at) := ⟨rfl, rfl, rfl, by decide +kernel, rfl, by decide +kernel, by decide +kernel⟩
theorem itemAt_step {t : Track} {i : Nat} {it : Item} {m : Int} (e : t[i]? = some it) : itemAtG (lenOf (t.take i)) i (t.drop i) m =
    if it.isMix = false ∧ lenOf (t.take i) ≤ m ∧ m < lenOf (t.take i) + it.last then some (i, m - lenOf (t.take i), it) else itemAtG (lenOf (t.take (i + 1))) (i + 1) (t.drop (i + 1)) m := by
  rw [drop_at e, lenOf_take e]
  rfl
theorem ok_item_at (T : Txt K mg) : Keeps P w base 2 T.item_at (spItemAt K) := by
  refine T.item_at.ok sc_item_at (fun vs H Q E h => ?_) (fun cdv A outer s H vs Q E hr h => ?_)
  · obtain ⟨x, t, m, rfl, _⟩ := h
    rfl
  obtain ⟨x, t, m, rfl, hx, k⟩ := h
  obtain ⟨a, vs, rfl, ha, hd, hl⟩ := dpt hx
  have G := ok_room_of (P := P) (w := w) (base := base) T
  refine ⟨_, pss_cons (ps_set (i := 2) sc_item_at.nd rfl (Or.inl rfl) pe_int)
    (pss_cons (ps_for PassesOwn.never rfl (pi_enum (by rfl) T.b_enumerate (pa_cons (pv 0) pa_nil)) (pg_tup rfl (pgs_cons (pg_name (i := 3) sc_item_at.nd rfl (Or.inl rfl)) (pgs_cons (pg_name (i := 4) sc_item_at.nd rfl (Or.inl rfl)) pgs_nil)))
      (pss_cons (ps_if (PW.pt (pw_and (pt_cmpR op_ne (pe_ix ix_tup (pv 4) pe_int (fun _ _ => rfl)) pe_str (nomark _)) (pw_and (pt_cmpR op_le (pv 2) (pv 1) (nomark _)) (pw_and1 (pt_cmpR op_lt (pv 1) (pe_op op_add (pv 2) (pe_ix ix_tup (pv 4) (pe_un un_neg pe_int) (fun _ _ => rfl))) (nomark _))))))
          (pss_one (ps_ret (pe_tup (pa_cons (pv 3) (pa_cons (pe_op op_sub (pv 1) (pv 2)) pa_nil))))) pss_nil)
        (pss_one (ps_set (i := 2) sc_item_at.nd rfl (Or.inl rfl) (pe_op op_add (pv 2) (cl T.room_of G hr (by decide) (by rfl) (pa_cons (pv 4) pa_nil)))))))
    (pss_one (ps_ret pe_non))), ?_⟩
  refine ⟨_, rfl, a, _, rfl, ha, for_it walk_enum (fun i σ H' => ∃ y3 y4, σ = [some (.ref a), some (.int m), some (.int (lenOf (t.take i))), y3, y4] ∧ Same H H' ∧ itemAtG (lenOf (t.take i)) i (t.drop i) m = itemAt t m)
    ⟨none, none, rfl, Same.refl H, rfl⟩ (fun i σ H' _ ⟨_, _, _, sm, _⟩ => sm.seq ha) ?_ ?_⟩
  · rintro i x σ H1 H2 hi ⟨y3, y4, rfl, sm, ei⟩ ⟨U, u1, u2, rfl, nU, rfl, e1, e2⟩
    have e1 : V.int (i : Nat) = u1 := Option.some.inj e1
    subst e1
    have sU := same_new nU (.tup [.int (i : Nat), u2])
    obtain ⟨it, eit, dit⟩ := dpm_at (sU.dpAll (sm.dpAll hd)) e2
    obtain ⟨b, us, rfl, hb, h0, h1, _⟩ := dp_item dit
    rw [itemAt_step eit] at ei
    refine ⟨_, _, rfl, .of upd_same, rfl, _, _, rfl, _, _, rfl, rfl, ?_⟩
    refine ⟨_, rfl, b, _, _, _, rfl, rfl, hb, h0, rfl, _, rfl, if_sne (fun c => ?_) (fun c => ?_)⟩
    · have cm : it.isMix = false := by
        cases q : it.isMix with
        | false => rfl
        | true => exact absurd (word_mix.mpr q) c
      refine ⟨_, rfl, _, rfl, _, _, rfl, rfl, _, rfl, if_d (fun c2 => ?_) (fun c2 => ?_)⟩
      · refine ⟨_, rfl, _, rfl, _, rfl, _, rfl, b, _, _, _, rfl, rfl, hb, h1, _, _, rfl, rfl, _, _, rfl, rfl, _, rfl, if_d (fun c3 => ?_) (fun c3 => ?_)⟩
        · rw [if_pos ⟨cm, c2, c3⟩] at ei
          rw [← ei] at k
          exact ⟨_, rfl, _, rfl, _, rfl, _, _, rfl, rfl, by show 2 ≤ sizeLine; decide, fun p hp => k p _ (sm.trans (sU.trans (same_new hp _))) upd_same⟩
        · rw [if_neg (fun z => c3 z.2.2)] at ei
          refine ⟨_, rfl, _, rfl, _, it, rfl, dit, _, _, rfl, rfl, some (.int (i : Nat)), some (.ref b), ?_, sm.trans sU, ei⟩
          rw [lenOf_take eit]
          rfl
      · rw [if_neg (fun z => c2 z.2.1)] at ei
        refine ⟨_, rfl, _, rfl, _, it, rfl, dit, _, _, rfl, rfl, some (.int (i : Nat)), some (.ref b), ?_, sm.trans sU, ei⟩
        rw [lenOf_take eit]
        rfl
    · have cm : it.isMix = true := word_mix.mp c
      rw [if_neg (fun z => by rw [cm] at z; exact absurd z.1 (by decide))] at ei
      refine ⟨_, rfl, _, rfl, _, it, rfl, dit, _, _, rfl, rfl, some (.int (i : Nat)), some (.ref b), ?_, sm.trans sU, ei⟩
      rw [lenOf_take eit]
      rfl
  · rintro σ H' ⟨y3, y4, rfl, sm, ei⟩
    rw [hl, List.drop_length] at ei
    have e0 : itemAt t m = none := ei.symm
    rw [e0] at k
    exact k H' sm
end
end Rc

set_option maxHeartbeats 4000000
namespace Rc
open PySem PySem.Spec PyProof.Rows L2
theorem spansG_app : ∀ (x y : Track) (b : Int), spansG b (x ++ y) = spansG b x ++ spansG (b + lenOf x) y
  | [], y, b => by
    rw [lenOf_nil, Int.add_zero]
    rfl
  | it :: r, y, b => by
    have ih := spansG_app r y (b + it.room)
    have e : b + it.room + lenOf r = b + lenOf (it :: r) := by rw [lenOf_cons]; omega
    rw [e] at ih
    show (if it.isMix = true then _ :: spansG (b + it.room) (r ++ y) else spansG (b + it.room) (r ++ y)) = (if it.isMix = true then _ :: spansG (b + it.room) r else spansG (b + it.room) r) ++ _
    split
    · rw [ih]
      rfl
    · exact ih
def spanOf (b : Int) (it : Item) : Span := (b - it.last / 2, b, b + it.last - it.last / 2)
theorem spans_mix {t : Track} {i : Nat} {it : Item} (e : t[i]? = some it) (h : it.isMix = true) : spansG 0 (t.take (i + 1)) = spansG 0 (t.take i) ++ [spanOf (lenOf (t.take i)) it] := by
  rw [List.take_add_one, e, spansG_app, Int.zero_add]
  show _ ++ spansG _ [it] = _
  unfold spansG
  rw [if_pos h]
  rfl
theorem spans_non {t : Track} {i : Nat} {it : Item} (e : t[i]? = some it) (h : it.isMix = false) : spansG 0 (t.take (i + 1)) = spansG 0 (t.take i) := by
  rw [List.take_add_one, e, spansG_app, Int.zero_add]
  show _ ++ spansG _ [it] = _
  unfold spansG
  rw [if_neg (by rw [h]; decide)]
  exact List.append_nil _
theorem spans_len : ∀ (t : Track) (b : Int), (spansG b t).length ≤ t.length
  | [], b => Nat.le_refl _
  | it :: r, b => by
    have ih := spans_len r (b + it.room)
    show (if it.isMix = true then _ :: spansG (b + it.room) r else spansG (b + it.room) r).length ≤ r.length + 1
    split
    · exact Nat.succ_le_succ ih
    · exact Nat.le_succ_of_le ih
section
variable {P : Program} {w : World} {K : PySem.W.Frag} {mg : Str → Option Value} {base : Heap}
/-! ### mix_spans -/
def spMixSpans (K : PySem.W.Frag) : Sp := fun vs H Q _ => ∃ (x : V) (t : Track), vs = [x] ∧ Dp K H x (encT t) ∧ t.length ≤ 1000 ∧ ∀ r H', Same H H' → Dp K H' r (.list ((spans t).map encS)) → Q r H'
theorem sc_mix_spans : FnScope ["track", "found", "begin", "item"] ["track"] (defScope s_mix_spans) := ⟨rfl, rfl, rfl, by decide +kernel, rfl, by decide +kernel, by decide +kernel⟩
theorem ok_mix_spans (T : Txt K mg) : Keeps P w base 2 T.mix_spans (spMixSpans K) := by
  refine T.mix_spans.ok sc_mix_spans (fun vs H Q E h => ?_) (fun cdv A outer s H vs Q E hr h => ?_)
  · obtain ⟨x, t, rfl, _⟩ := h
    rfl
  obtain ⟨x, t, rfl, hx, hn, k⟩ := h
  obtain ⟨a, vs, rfl, ha, hd, hl⟩ := dpt hx
  have G := ok_room_of (P := P) (w := w) (base := base) T
  refine ⟨_, pss_cons (ps_set (i := 1) sc_mix_spans.nd rfl (Or.inl rfl) (pe_lst pa_nil)) (pss_cons (ps_set (i := 2) sc_mix_spans.nd rfl (Or.inl rfl) pe_int)
    (pss_cons (ps_for PassesOwn.never rfl (pi_list (pv 0)) (pg_name (i := 3) sc_mix_spans.nd rfl (Or.inl rfl))
      (pss_cons (ps_if (pt_cmpR op_eq (pe_ix ix_tup (pv 3) pe_int (fun _ _ => rfl)) pe_str (nomark _))
          (pss_one (ps_expr (pe_bm PySem.F.plainAttrs_list PySem.F.slot_list_append PySem.F.type_list_append mt_append (pv 1) (pa_cons (pe_tup (pa_cons (pe_op op_sub (pv 2) (pe_op op_fdivN (pe_ix ix_tup (pv 3) pe_int (fun _ _ => rfl)) pe_int))
            (pa_cons (pv 2) (pa_cons (pe_op op_sub (pe_op op_add (pv 2) (pe_ix ix_tup (pv 3) pe_int (fun _ _ => rfl))) (pe_op op_fdivN (pe_ix ix_tup (pv 3) pe_int (fun _ _ => rfl)) pe_int)) pa_nil)))) pa_nil)))) pss_nil)
        (pss_one (ps_set (i := 2) sc_mix_spans.nd rfl (Or.inl rfl) (pe_op op_add (pv 2) (cl T.room_of G hr (by decide) (by rfl) (pa_cons (pv 3) pa_nil)))))))
    (pss_one (ps_ret (pv 1))))), ?_⟩
  refine ⟨Nat.zero_le _, fun f nf => ?_⟩
  have s0 := same_new nf (.lst [])
  refine ⟨_, rfl, a, rfl, ⟨_, s0.seq ha⟩, for_list (K := K) (a := a) (xs := vs) (fun i σ H' => ∃ y3 ws, σ = [some (.ref a), some (.ref f), some (.int (lenOf (t.take i))), y3] ∧ Same H H' ∧ H' f = some (.lst ws) ∧ DpAll K H' ws ((spansG 0 (t.take i)).map encS))
    ⟨none, [], rfl, s0, upd_same, .nil⟩ (fun i σ H' _ ⟨_, _, _, sm, _⟩ => sm.seq ha) ?_ ?_⟩
  · rintro i x σ H1 ex ⟨y3, ws, rfl, sm, ef, dws⟩
    obtain ⟨it, eit, dit⟩ := dpm_at (sm.dpAll hd) ex
    obtain ⟨b, us, rfl, hb, h0, h1, hm⟩ := dp_item dit
    have wl : ws.length ≤ 1000 := by
      have e1 := dpa_len dws
      rw [List.length_map] at e1
      have e2 := spans_len (t.take i) 0
      rw [List.length_take] at e2
      omega
    refine ⟨_, rfl, b, _, _, _, rfl, rfl, hb, h0, rfl, _, rfl, if_seq (fun c => ?_) (fun c => ?_)⟩
    · have cm : it.isMix = true := word_mix.mp c
      have hm := hm cm
      refine ⟨_, rfl, .inl ⟨rfl, _, SqL.of ef⟩, ?_⟩
      refine ⟨_, rfl, _, rfl, b, _, _, _, rfl, rfl, hb, hm, _, _, rfl, rfl, ⟨by decide, by decide⟩, _, _, rfl, rfl, _, rfl, ?_⟩
      refine ⟨_, rfl, _, rfl, b, _, _, _, rfl, rfl, hb, hm, _, _, rfl, rfl, _, rfl, b, _, _, _, rfl, rfl, hb, hm, _, _, rfl, rfl, ⟨by decide, by decide⟩, _, _, rfl, rfl, by show 3 ≤ sizeLine; decide, fun p hp => ?_⟩
      have sp := same_new hp (.tup [.int (lenOf (t.take i) - it.last.fdiv 2), .int (lenOf (t.take i)), .int (lenOf (t.take i) + it.last - it.last.fdiv 2)])
      have ef2 := sp _ _ ef
      refine ⟨f, _, _, rfl, rfl, ef2, Nat.lt_of_le_of_lt wl (by decide), ?_⟩
      have s2 := tup_upd (K := K) (o := .lst (ws ++ [.ref p])) ef2
      have dp2 : DpAll K (upd (upd H1 p (.tup [.int (lenOf (t.take i) - it.last.fdiv 2), .int (lenOf (t.take i)), .int (lenOf (t.take i) + it.last - it.last.fdiv 2)])) f (.lst (ws ++ [.ref p]))) (ws ++ [.ref p]) ((spansG 0 (t.take (i + 1))).map encS) := by
        rw [spans_mix eit cm, List.map_append]
        refine dpa_app (dpAll_tups s2 _ _ (noLs_map noL_S _) (sp.dpAll dws)) (.cons (.tup (s2 _ _ (.of upd_same)) ?_) .nil)
        rw [Int.fdiv_eq_ediv_of_nonneg _ (by decide : (0 : Int) ≤ 2)]
        exact .cons (.int _) (.cons (.int _) (.cons (.int _) .nil))
      have d3 : Dp K (upd (upd H1 p (.tup [.int (lenOf (t.take i) - it.last.fdiv 2), .int (lenOf (t.take i)), .int (lenOf (t.take i) + it.last - it.last.fdiv 2)])) f (.lst (ws ++ [.ref p]))) (.ref b) (encI it) := dp_tups s2 _ _ (noL_I it) (sp.dp dit)
      refine ⟨_, rfl, _, rfl, _, it, rfl, d3, _, _, rfl, rfl, some (.ref b), _, ?_, same_upd (sm.trans sp) nf, upd_same, dp2⟩
      rw [lenOf_take eit]
      rfl
    · have cm : it.isMix = false := by
        cases q : it.isMix with
        | false => rfl
        | true => exact absurd (word_mix.mpr q) c
      refine ⟨_, rfl, _, rfl, _, it, rfl, dit, _, _, rfl, rfl, some (.ref b), ws, ?_, sm, ef, ?_⟩
      · rw [lenOf_take eit]
        rfl
      · rw [spans_non eit cm]
        exact dws
  · rintro σ H' ⟨y3, ws, rfl, sm, ef, dws⟩
    rw [hl, List.take_length] at dws
    exact ⟨_, rfl, k _ H' sm (.lst (.of ef) dws)⟩
/-! ### mix_shares -/
def spShares (K : PySem.W.Frag) : Sp := fun vs H Q _ => ∃ l j : Int, vs = [.int l, .int j] ∧ 0 ≤ l ∧ l < 1000 ∧ ∀ a x y H', Same H H' → SqT K H' a [x, y] → Dp K H' x (encF (mkF (l - j) (l + 1))) → Dp K H' y (encF (mkF (j + 1) (l + 1))) → Q (.ref a) H'
theorem sc_mix_shares : FnScope ["length", "j"] ["length", "j"] (defScope s_mix_shares) := ⟨rfl, rfl, rfl, by decide +kernel, rfl, by decide +kernel, by decide +kernel⟩
theorem ok_mix_shares (T : Txt K mg) : Keeps P w base 3 T.mix_shares (spShares K) := by
  refine T.mix_shares.ok sc_mix_shares (fun vs H Q E h => ?_) (fun cdv A outer s H vs Q E hr h => ?_)
  · obtain ⟨l, j, rfl, _⟩ := h
    rfl
  obtain ⟨l, j, rfl, l0, l1, k⟩ := h
  have G := ok_fraction (P := P) (w := w) (base := base) T
  refine ⟨_, pss_one (ps_ret (pe_tup (pa_cons (cl T.fraction G hr (by decide) (by rfl) (pa_cons (pe_op op_sub (pv 0) (pv 1)) (pa_cons (pe_op op_add (pv 0) pe_int) pa_nil)))
    (pa_cons (cl T.fraction G hr (by decide) (by rfl) (pa_cons (pe_op op_add (pv 1) pe_int) (pa_cons (pe_op op_add (pv 0) pe_int) pa_nil))) pa_nil)))), ?_⟩
  refine ⟨_, rfl, _, rfl, _, _, rfl, rfl, _, rfl, _, _, rfl, rfl, _, _, rfl, by omega, by omega, fun r1 H1 g1 d1 => ?_⟩
  refine ⟨_, rfl, _, _, rfl, rfl, _, rfl, _, _, rfl, rfl, _, _, rfl, by omega, by omega, fun r2 H2 g2 d2 => ?_⟩
  refine ⟨by show 2 ≤ sizeLine; decide, fun p hp => ?_⟩
  have g3 := same_new hp (.tup [r1, r2])
  exact k p r1 r2 _ (g1.trans (g2.trans g3)) (.of upd_same) (g3.dp (g2.dp d1)) (g3.dp d2)
/-! ### length_of -/
def spLengthOf (K : PySem.W.Frag) : Sp := fun vs H Q _ => ∃ (x : V) (t : Track), vs = [x] ∧ Dp K H x (encT t) ∧ t.length ≤ 1000 ∧ ∀ H', Same H H' → Q (.int (lenOf t)) H'
theorem sc_length_of : FnScope ["track", "item"] ["track"] (defScope s_length_of) := ⟨rfl, rfl, rfl, by decide +kernel, rfl, by decide +kernel, by decide +kernel⟩
theorem ok_length_of (T : Txt K mg) : Keeps P w base 2 T.length_of (spLengthOf K) := by
  refine T.length_of.ok sc_length_of (fun vs H Q E h => ?_) (fun cdv A outer s H vs Q E hr h => ?_)
  · obtain ⟨x, t, rfl, _⟩ := h
    rfl
  obtain ⟨x, t, rfl, hx, hn, k⟩ := h
  obtain ⟨a, vs, rfl, ha, hd, hl⟩ := dpt hx
  have G := ok_room_of (P := P) (w := w) (base := base) T
  refine ⟨_, pss_one (ps_ret (pe_callB (cr_sum rfl) (by rfl) T.b_sum (by decide +kernel) (pa_cons
    (pe_lc (own := [("item", 1)]) (g := gName 1) (tt := tYes) rfl sc_length_of.nd (pi_list (pv 0)) (blkOk_by (N := ["track", "item"]) (sc := defScope s_length_of) (by decide +kernel)) (fun _ _ _ _ _ => pg_name (i := 1) sc_length_of.nd rfl (Or.inl rfl)) (fun _ _ _ _ _ => pts_nil)
      (fun _ _ _ _ _ => cl T.room_of G hr (by decide) (by rfl) (pa_cons (pv 1) pa_nil))) pa_nil))), ?_⟩
  refine ⟨_, rfl, a, rfl, ⟨_, ha⟩, fun D nD => ?_⟩
  refine lc_list (K := K) (a := a) (xs := vs) (fun i H' => Same H H' ∧ H' D = some (.lst (((t.take i).map Item.room).map V.int))) ⟨same_new nD _, by rw [upd_same]; rfl⟩ (fun i H' _ p => p.1.seq ha) ?_ ?_
  · rintro i x H1 ex ⟨sm, eD⟩
    obtain ⟨it, eit, dit⟩ := dpm_at (sm.dpAll hd) ex
    refine ⟨rfl, ?_⟩
    refine ⟨_, rfl, _, it, rfl, dit, _, eD, ?_, same_upd sm nD, ?_⟩
    · rw [List.length_map, List.length_map, List.length_take]
      exact Nat.lt_of_le_of_lt (Nat.min_le_right _ _) (Nat.lt_of_le_of_lt hn (by decide))
    · rw [upd_same, List.take_add_one, eit, List.map_append, List.map_append]
      rfl
  · rintro H' ⟨sm, eD⟩
    rw [hl, List.take_length] at eD
    exact ⟨D, _, rfl, .of eD, k H' sm⟩
end
end Rc

set_option maxHeartbeats 4000000
namespace Rc
open PySem PySem.Spec PyProof.Rows L2
/-- the dict of the two reels -/
def ReelsAt (H : Hp) (v : V) : Prop := ∃ a kvs, v = .ref a ∧ H a = some (.dK kvs) ∧ ∀ r : Str, (r = ("ra" : Str) ∨ r = ("rb" : Str)) → ∃ n, valV kvs (Sum.inr r) = some (.int n) ∧ 0 < n ∧ n ≤ 60
theorem ReelsAt.same {H H' : Hp} {v : V} (h : ReelsAt H v) (s : Same H H') : ReelsAt H' v := by
  obtain ⟨a, kvs, e, ha, hk⟩ := h
  exact ⟨a, kvs, e, s _ _ ha, hk⟩
theorem ReelsAt.get {H : Hp} {a : Addr} {r : Str} (h : ReelsAt H (.ref a)) (hr : r = ("ra" : Str) ∨ r = ("rb" : Str)) : ∃ n, DGet H a (.str r) (some (.int n)) ∧ 0 < n ∧ n ≤ 60 := by
  obtain ⟨b, kvs, e, ha, hk⟩ := h
  cases e
  obtain ⟨n, e, lo, hi⟩ := hk r hr
  have g := DGet.k (k := Sum.inr r) ha
  rw [e] at g
  exact ⟨n, g, lo, hi⟩
section
variable {P : Program} {w : World} {K : PySem.W.Frag} {mg : Str → Option Value} {base : Heap}
/-! ### steps_up, steps_down, room_from, head_room, tail_room: some number -/
def spUp (K : PySem.W.Frag) : Sp := fun vs H Q _ => ∃ (x y : V) (p q : Fr) (n : Int), vs = [x, y, .int n] ∧ Dp K H x (encF p) ∧ Dp K H y (encF q) ∧ Sm p ∧ Sm q ∧ 0 < q.1 ∧ q.1 < 32768 ∧ ∀ i H', Same H H' → Q (.int i) H'
theorem sc_steps_up : FnScope ["place", "step", "count"] ["place", "step", "count"] (defScope s_steps_up) := ⟨rfl, rfl, rfl, by decide +kernel, rfl, by decide +kernel, by decide +kernel⟩
theorem ok_steps_up (T : Txt K mg) : Keeps P w base 4 T.steps_up (spUp K) := by
  refine T.steps_up.ok sc_steps_up (fun vs H Q E h => ?_) (fun cdv A outer s H vs Q E hr h => ?_)
  · obtain ⟨x, y, p, q, n, rfl, _⟩ := h
    rfl
  obtain ⟨x, y, p, q, n, rfl, hx, hy, sp, sq, lo, hi, k⟩ := h
  refine ⟨_, pss_one (ps_ret (pe_op op_sub (pe_op op_sub pe_int (cl T.floor_of (ok_floor_of T) hr (by decide) (by rfl) (pa_cons (cl T.quotient (ok_quotient T) hr (by decide) (by rfl) (pa_cons
    (cl T.less_by (ok_less_by T) hr (by decide) (by rfl) (pa_cons (pv 0) (pa_cons (pe_tup (pa_cons (pv 2) (pa_cons pe_int pa_nil))) pa_nil))) (pa_cons (pv 1) pa_nil))) pa_nil))) pe_int)), ?_⟩
  refine ⟨_, rfl, _, rfl, by show 2 ≤ sizeLine; decide, fun t ht => ?_⟩
  have g := same_new ht (.tup [.int n, .int 1])
  refine ⟨_, _, p, (n, 1), rfl, g.dp hx, F_dp (.of upd_same), sp, sm_one, fun r H1 f g1 f0 f1 d1 => ?_⟩
  have f1 : f.2 ≤ p.2 * 1 := f1
  refine ⟨_, rfl, _, _, f, q, rfl, d1, (g.trans g1).dp hy, ⟨f0, by have := sp.lt; omega⟩, sq, lo, hi, fun r2 H2 f' g2 z0 z1 d2 => ?_⟩
  exact ⟨_, _, rfl, d2, z0, z1, _, _, rfl, rfl, _, _, rfl, rfl, k _ H2 (g.trans (g1.trans g2))⟩
def spDown (K : PySem.W.Frag) : Sp := fun vs H Q _ => ∃ (x y : V) (p q : Fr), vs = [x, y] ∧ Dp K H x (encF p) ∧ Dp K H y (encF q) ∧ Sm p ∧ Sm q ∧ 0 < q.1 ∧ q.1 < 32768 ∧ ∀ i H', Same H H' → Q (.int i) H'
theorem sc_steps_down : FnScope ["place", "step"] ["place", "step"] (defScope s_steps_down) := ⟨rfl, rfl, rfl, by decide +kernel, rfl, by decide +kernel, by decide +kernel⟩
theorem ok_steps_down (T : Txt K mg) : Keeps P w base 4 T.steps_down (spDown K) := by
  refine T.steps_down.ok sc_steps_down (fun vs H Q E h => ?_) (fun cdv A outer s H vs Q E hr h => ?_)
  · obtain ⟨x, y, p, q, rfl, _⟩ := h
    rfl
  obtain ⟨x, y, p, q, rfl, hx, hy, sp, sq, lo, hi, k⟩ := h
  refine ⟨_, pss_one (ps_ret (cl T.floor_of (ok_floor_of T) hr (by decide) (by rfl) (pa_cons (cl T.quotient (ok_quotient T) hr (by decide) (by rfl) (pa_cons (pv 0) (pa_cons (pv 1) pa_nil))) pa_nil))), ?_⟩
  refine ⟨_, rfl, _, rfl, _, _, p, q, rfl, hx, hy, sp, sq, lo, hi, fun r2 H2 f' g2 z0 z1 d2 => ?_⟩
  exact ⟨_, _, rfl, d2, z0, z1, k _ H2 g2⟩
def spRoom (K : PySem.W.Frag) : Sp := fun vs H Q _ => ∃ (x y : V) (p q : Fr) (n : Int), vs = [x, y, .int n] ∧ Dp K H x (encF p) ∧ Dp K H y (encF q) ∧ Sm p ∧ Sm q ∧ -32768 < q.1 ∧ q.1 < 32768 ∧ ∀ i H', Same H H' → Q (.int i) H'
theorem sc_room_from : FnScope ["place", "step", "count"] ["place", "step", "count"] (defScope s_room_from) := ⟨rfl, rfl, rfl, by decide +kernel, rfl, by decide +kernel, by decide +kernel⟩
theorem ok_room_from (T : Txt K mg) : Keeps P w base 5 T.room_from (spRoom K) := by
  refine T.room_from.ok sc_room_from (fun vs H Q E h => ?_) (fun cdv A outer s H vs Q E hr h => ?_)
  · obtain ⟨x, y, p, q, n, rfl, _⟩ := h
    rfl
  obtain ⟨x, y, p, q, n, rfl, hx, hy, sp, sq, lo, hi, k⟩ := h
  obtain ⟨b, rfl, hb⟩ := dp_F hy
  obtain ⟨tr, etr⟩ := T.room
  refine ⟨_, pss_cons (ps_if (pt_cmpR op_eq (pe_ix ix_tup (pv 1) pe_int (fun _ _ => rfl)) pe_int (nomark _)) (pss_one (ps_ret (pe_glob (v := .int 1000000) (by rfl) etr ⟨_, rfl⟩))) pss_nil)
    (pss_cons (ps_if (pt_cmpR op_gt (pe_ix ix_tup (pv 1) pe_int (fun _ _ => rfl)) pe_int (nomark _)) (pss_one (ps_ret (pe_callB (call_min2 rfl) (by rfl) T.b_min (by decide +kernel) (pa_cons (pe_glob (v := .int 1000000) (by rfl) etr ⟨_, rfl⟩)
        (pa_cons (cl T.steps_up (ok_steps_up T) hr (by decide) (by rfl) (pa_cons (pv 0) (pa_cons (pv 1) (pa_cons (pv 2) pa_nil)))) pa_nil))))) pss_nil)
    (pss_one (ps_ret (pe_callB (call_min2 rfl) (by rfl) T.b_min (by decide +kernel) (pa_cons (pe_glob (v := .int 1000000) (by rfl) etr ⟨_, rfl⟩)
        (pa_cons (cl T.steps_down (ok_steps_down T) hr (by decide) (by rfl) (pa_cons (pv 0) (pa_cons (pe_tup (pa_cons (pe_op op_sub pe_int (pe_ix ix_tup (pv 1) pe_int (fun _ _ => rfl))) (pa_cons (pe_ix ix_tup (pv 1) pe_int (fun _ _ => rfl)) pa_nil))) pa_nil))) pa_nil)))))), ?_⟩
  refine ⟨_, rfl, b, _, _, _, rfl, rfl, hb, rfl, rfl, _, rfl, if_eq (fun c => ?_) (fun c => ?_)⟩
  · exact k _ H (Same.refl H)
  refine ⟨_, rfl, b, _, _, _, rfl, rfl, hb, rfl, _, _, rfl, rfl, _, rfl, if_d (fun c2 => ?_) (fun c2 => ?_)⟩
  · refine ⟨_, rfl, _, rfl, _, rfl, _, _, p, q, n, rfl, hx, hy, sp, sq, c2, hi, fun i H1 g1 => ?_⟩
    exact ⟨_, _, rfl, k _ H1 g1⟩
  · refine ⟨_, rfl, _, rfl, b, _, _, _, rfl, rfl, hb, rfl, _, _, rfl, rfl, _, rfl, b, _, _, _, rfl, rfl, hb, rfl, by show 2 ≤ sizeLine; decide, fun t ht => ?_⟩
    have g := same_new ht (.tup [.int (0 - q.1), .int q.2])
    refine ⟨_, _, p, (0 - q.1, q.2), rfl, g.dp hx, F_dp (.of upd_same), sp, ⟨sq.pos, sq.lt⟩, by show 0 < 0 - q.1; omega, by show 0 - q.1 < 32768; omega, fun i H1 g1 => ?_⟩
    exact ⟨_, _, rfl, k _ H1 (g.trans g1)⟩
/-- head_room, tail_room -/
def spHead (K : PySem.W.Frag) : Sp := fun vs H Q _ => ∃ (x y : V) (c : Clip), vs = [x, y] ∧ Dp K H x (encI (.clip c)) ∧ ClipOk c ∧ ReelsAt H y ∧ ∀ i H', Same H H' → Q (.int i) H'
theorem sc_head_room : FnScope ["clip", "reels"] ["clip", "reels"] (defScope s_head_room) := ⟨rfl, rfl, rfl, by decide +kernel, rfl, by decide +kernel, by decide +kernel⟩
theorem ok_head_room (T : Txt K mg) : Keeps P w base 6 T.head_room (spHead K) := by
  refine T.head_room.ok sc_head_room (fun vs H Q E h => ?_) (fun cdv A outer s H vs Q E hr h => ?_)
  · obtain ⟨x, y, c, rfl, _⟩ := h
    rfl
  obtain ⟨x, y, c, rfl, hx, ok, hy, k⟩ := h
  obtain ⟨a, u, v, rfl, ha, hu, hv⟩ := dp_clip hx
  obtain ⟨b, hv', hb⟩ := dp_F hv
  subst hv'
  obtain ⟨ra, kvs, rfl, hR⟩ := id hy
  obtain ⟨sp, sq⟩ := ok.sm
  have lo := ok.lo
  have hi := ok.hi
  refine ⟨_, pss_one (ps_ret (cl T.room_from (ok_room_from T) hr (by decide) (by rfl) (pa_cons (pe_ix ix_tup (pv 0) pe_int (fun _ _ => rfl))
    (pa_cons (pe_tup (pa_cons (pe_op op_sub pe_int (pe_ix ix_tup (pe_ix ix_tup (pv 0) pe_int (fun _ _ => rfl)) pe_int (fun _ _ => rfl))) (pa_cons (pe_ix ix_tup (pe_ix ix_tup (pv 0) pe_int (fun _ _ => rfl)) pe_int (fun _ _ => rfl)) pa_nil)))
    (pa_cons (pe_dget (hu_of hr) (pv 1) (pe_ix ix_tup (pv 0) pe_int (fun _ _ => rfl)) (fun _ _ => rfl)) pa_nil))))), ?_⟩
  refine ⟨_, rfl, a, _, _, _, rfl, rfl, ha, rfl, ?_⟩
  refine ⟨_, rfl, a, _, _, _, rfl, rfl, ha, rfl, b, _, _, _, rfl, rfl, hb, rfl, _, _, rfl, rfl, _, rfl, a, _, _, _, rfl, rfl, ha, rfl, b, _, _, _, rfl, rfl, hb, rfl, by show 2 ≤ sizeLine; decide, fun t ht => ?_⟩
  have g := same_new ht (.tup [.int (0 - c.step.1), .int c.step.2])
  obtain ⟨n, hn, _⟩ := (hy.same g).get ok.reel
  refine ⟨_, rfl, _, rfl, a, _, _, _, rfl, rfl, g.tup ha, rfl, ra, _, rfl, hn, ?_⟩
  exact ⟨_, _, c.start, (0 - c.step.1, c.step.2), n, rfl, g.dp hu, F_dp (.of upd_same), sp, ⟨sq.pos, sq.lt⟩, by show -32768 < 0 - c.step.1; omega, by show 0 - c.step.1 < 32768; omega, fun i H1 g1 => k i H1 (g.trans g1)⟩
theorem sc_tail_room : FnScope ["clip", "reels"] ["clip", "reels"] (defScope s_tail_room) := ⟨rfl, rfl, rfl, by decide +kernel, rfl, by decide +kernel, by decide +kernel⟩
theorem ok_tail_room (T : Txt K mg) : Keeps P w base 6 T.tail_room (spHead K) := by
  refine T.tail_room.ok sc_tail_room (fun vs H Q E h => ?_) (fun cdv A outer s H vs Q E hr h => ?_)
  · obtain ⟨x, y, c, rfl, _⟩ := h
    rfl
  obtain ⟨x, y, c, rfl, hx, ok, hy, k⟩ := h
  obtain ⟨a, u, v, rfl, ha, hu, hv⟩ := dp_clip hx
  obtain ⟨ra, kvs, rfl, hR⟩ := id hy
  obtain ⟨sp, sq⟩ := ok.sm
  have lo := ok.lo
  have hi := ok.hi
  refine ⟨_, pss_one (ps_ret (cl T.room_from (ok_room_from T) hr (by decide) (by rfl) (pa_cons (cl T.place_at (ok_place_at T) hr (by decide) (by rfl) (pa_cons (pv 0) (pa_cons (pe_op op_sub (pe_ix ix_tup (pv 0) pe_int (fun _ _ => rfl)) pe_int) pa_nil)))
    (pa_cons (pe_ix ix_tup (pv 0) pe_int (fun _ _ => rfl))
    (pa_cons (pe_dget (hu_of hr) (pv 1) (pe_ix ix_tup (pv 0) pe_int (fun _ _ => rfl)) (fun _ _ => rfl)) pa_nil))))), ?_⟩
  refine ⟨_, rfl, _, rfl, a, _, _, _, rfl, rfl, ha, rfl, _, _, rfl, rfl, _, c, _, rfl, hx, ok, fun r H1 g1 d1 => ?_⟩
  obtain ⟨n, hn, _⟩ := (hy.same g1).get ok.reel
  obtain ⟨z0, z1⟩ := place_small (k := c.len - 1) ok
  refine ⟨_, rfl, a, _, _, _, rfl, rfl, g1.tup ha, rfl, _, rfl, _, rfl, a, _, _, _, rfl, rfl, g1.tup ha, rfl, ra, _, rfl, hn, ?_⟩
  exact ⟨_, _, _, c.step, n, rfl, d1, g1.dp hv, ⟨z0, by omega⟩, sq, by omega, by omega, fun i H2 g2 => k i H2 (g1.trans g2)⟩
/-! ### what mixes take of a clip -/
def takenB (t : Track) (p : Nat) : Int := if 0 < p then (match t[p - 1]? with
  | some (.mix n) => n - n / 2
  | _ => 0) else 0
def takenE (t : Track) (p : Nat) : Int := match t[p + 1]? with
  | some (.mix n) => n / 2
  | _ => 0
def spTakenB (K : PySem.W.Frag) : Sp := fun vs H Q _ => ∃ (x : V) (t : Track) (p : Nat), vs = [x, .int p] ∧ Dp K H x (encT t) ∧ p < t.length ∧ Q (.int (takenB t p)) H
theorem sc_taken_at_begin : FnScope ["track", "place"] ["track", "place"] (defScope s_taken_at_begin) := ⟨rfl, rfl, rfl, by decide +kernel, rfl, by decide +kernel, by decide +kernel⟩
theorem get_some {α : Type} {t : List α} {i : Nat} (h : i < t.length) : ∃ x, t[i]? = some x := ⟨t[i], List.getElem?_eq_getElem h⟩
theorem last_mix {it : Item} (h : it.isMix = true) : it = .mix it.last := by
  cases it with
  | mix n => rfl
  | clip c => cases h
  | nest n s l => cases h
  | gap l => cases h
theorem ok_taken_at_begin (T : Txt K mg) : Keeps P w base 1 T.taken_at_begin (spTakenB K) := by
  refine T.taken_at_begin.ok sc_taken_at_begin (fun vs H Q E h => ?_) (fun cdv A outer s H vs Q E hr h => ?_)
  · obtain ⟨x, t, p, rfl, _⟩ := h
    rfl
  obtain ⟨x, t, p, rfl, hx, hp, k⟩ := h
  obtain ⟨a, vs, rfl, ha, hd, hl⟩ := dpt hx
  refine ⟨_, pss_cons (ps_if (PW.pt (pw_and (pt_cmpR op_gt (pv 1) pe_int (nomark _)) (pw_and1 (pt_cmpR op_eq (pe_ix ix_tup (pe_ix ix_list (pv 0) (pe_op op_sub (pv 1) pe_int) (fun _ _ => rfl)) pe_int (fun _ _ => rfl)) pe_str (nomark _)))))
      (pss_one (ps_ret (pe_op op_sub (pe_ix ix_tup (pe_ix ix_list (pv 0) (pe_op op_sub (pv 1) pe_int) (fun _ _ => rfl)) pe_int (fun _ _ => rfl)) (pe_op op_fdivN (pe_ix ix_tup (pe_ix ix_list (pv 0) (pe_op op_sub (pv 1) pe_int) (fun _ _ => rfl)) pe_int (fun _ _ => rfl)) pe_int)))) pss_nil)
    (pss_one (ps_ret pe_int)), ?_⟩
  refine ⟨_, rfl, _, _, rfl, rfl, _, rfl, if_d (fun c => ?_) (fun c => ?_)⟩
  · have p0 : 0 < p := by omega
    obtain ⟨it, eit⟩ := get_some (t := t) (i := p - 1) (by omega)
    obtain ⟨x, ex, dx⟩ := dpm_get hd eit
    obtain ⟨b, us, rfl, hb, h0, h1, hm⟩ := dp_item dx
    have ei : atI vs ((p : Int) - 1) = some (.ref b) := at_of (j := p - 1) (by omega) ex
    refine ⟨_, rfl, _, rfl, _, _, rfl, rfl, a, _, _, _, rfl, rfl, ha, ei, b, _, _, _, rfl, rfl, hb, h0, rfl, _, rfl, if_seq (fun c2 => ?_) (fun c2 => ?_)⟩
    · have cm := word_mix.mp c2
      have hm := hm cm
      have e : takenB t p = it.last - it.last.fdiv 2 := by
        unfold takenB
        rw [if_pos p0, eit, last_mix cm, Int.fdiv_eq_ediv_of_nonneg _ (by decide : (0 : Int) ≤ 2)]
        rfl
      rw [e] at k
      exact ⟨_, rfl, _, rfl, _, _, rfl, rfl, a, _, _, _, rfl, rfl, ha, ei, b, _, _, _, rfl, rfl, hb, hm, _, rfl, _, rfl, _, _, rfl, rfl, a, _, _, _, rfl, rfl, ha, ei, b, _, _, _, rfl, rfl, hb, hm, _, _, rfl, rfl, ⟨by decide, by decide⟩, _, _, rfl, rfl, k⟩
    · have e : takenB t p = 0 := by
        unfold takenB
        rw [if_pos p0, eit]
        cases it with
        | mix n => exact absurd rfl c2
        | clip c => rfl
        | nest n s l => rfl
        | gap l => rfl
      rw [e] at k
      exact k
  · have e : takenB t p = 0 := by
      unfold takenB
      rw [if_neg (by omega)]
    rw [e] at k
    exact k
def spTakenE (K : PySem.W.Frag) : Sp := fun vs H Q _ => ∃ (x : V) (t : Track) (p : Nat), vs = [x, .int p] ∧ Dp K H x (encT t) ∧ Q (.int (takenE t p)) H
theorem sc_taken_at_end : FnScope ["track", "place"] ["track", "place"] (defScope s_taken_at_end) := ⟨rfl, rfl, rfl, by decide +kernel, rfl, by decide +kernel, by decide +kernel⟩
theorem ok_taken_at_end (T : Txt K mg) : Keeps P w base 1 T.taken_at_end (spTakenE K) := by
  refine T.taken_at_end.ok sc_taken_at_end (fun vs H Q E h => ?_) (fun cdv A outer s H vs Q E hr h => ?_)
  · obtain ⟨x, t, p, rfl, _⟩ := h
    rfl
  obtain ⟨x, t, p, rfl, hx, k⟩ := h
  obtain ⟨a, vs, rfl, ha, hd, hl⟩ := dpt hx
  refine ⟨_, pss_cons (ps_if (PW.pt (pw_and (pt_cmpR op_lt (pe_op op_add (pv 1) pe_int) (pe_callB call_len_seq (by rfl) T.b_len PySem.boot_len (pa_cons (pv 0) pa_nil)) (nomark _)) (pw_and1 (pt_cmpR op_eq (pe_ix ix_tup (pe_ix ix_list (pv 0) (pe_op op_add (pv 1) pe_int) (fun _ _ => rfl)) pe_int (fun _ _ => rfl)) pe_str (nomark _)))))
      (pss_one (ps_ret (pe_op op_fdivN (pe_ix ix_tup (pe_ix ix_list (pv 0) (pe_op op_add (pv 1) pe_int) (fun _ _ => rfl)) pe_int (fun _ _ => rfl)) pe_int))) pss_nil)
    (pss_one (ps_ret pe_int)), ?_⟩
  refine ⟨_, rfl, _, _, rfl, rfl, _, rfl, a, _, rfl, .inl ha, _, _, rfl, rfl, _, rfl, if_d (fun c => ?_) (fun c => ?_)⟩
  · have p0 : p + 1 < t.length := by omega
    obtain ⟨it, eit⟩ := get_some (t := t) (i := p + 1) p0
    obtain ⟨x, ex, dx⟩ := dpm_get hd eit
    obtain ⟨b, us, rfl, hb, h0, h1, hm⟩ := dp_item dx
    have ei : atI vs ((p : Int) + 1) = some (.ref b) := at_of (j := p + 1) (by omega) ex
    refine ⟨_, rfl, _, rfl, _, _, rfl, rfl, a, _, _, _, rfl, rfl, ha, ei, b, _, _, _, rfl, rfl, hb, h0, rfl, _, rfl, if_seq (fun c2 => ?_) (fun c2 => ?_)⟩
    · have cm := word_mix.mp c2
      have hm := hm cm
      have e : takenE t p = it.last.fdiv 2 := by
        unfold takenE
        rw [eit, last_mix cm, Int.fdiv_eq_ediv_of_nonneg _ (by decide : (0 : Int) ≤ 2)]
        rfl
      rw [e] at k
      exact ⟨_, rfl, _, rfl, _, _, rfl, rfl, a, _, _, _, rfl, rfl, ha, ei, b, _, _, _, rfl, rfl, hb, hm, _, _, rfl, rfl, ⟨by decide, by decide⟩, k⟩
    · have e : takenE t p = 0 := by
        unfold takenE
        rw [eit]
        cases it with
        | mix n => exact absurd rfl c2
        | clip c => rfl
        | nest n s l => rfl
        | gap l => rfl
      rw [e] at k
      exact k
  · have e : takenE t p = 0 := by
      unfold takenE
      rw [List.getElem?_eq_none (by omega)]
    rw [e] at k
    exact k
end
end Rc

set_option maxHeartbeats 4000000
namespace Rc
open PySem PySem.Spec PyProof.Rows L2
theorem lenOf_nonneg : ∀ {t : Track}, (∀ it ∈ t, 0 ≤ it.room) → 0 ≤ lenOf t
  | [], _ => Int.le_refl _
  | it :: r, h => by
    have h1 := h it List.mem_cons_self
    have h2 := lenOf_nonneg (t := r) fun z hz => h z (List.mem_cons_of_mem _ hz)
    rw [lenOf_cons]
    omega
theorem lenOf_take_le {t : Track} (h : ∀ it ∈ t, 0 ≤ it.room) : ∀ {i j : Nat}, i ≤ j → lenOf (t.take i) ≤ lenOf (t.take j) := fun {i j} hij => by
  have e : t.take j = t.take i ++ (t.drop i).take (j - i) := by
    have := List.take_add (l := t) (i := i) (j := j - i)
    rw [show i + (j - i) = j by omega] at this
    exact this
  rw [e, lenOf_app]
  have := lenOf_nonneg (t := (t.drop i).take (j - i)) fun z hz => h z (List.mem_of_mem_drop (List.mem_of_mem_take hz))
  omega
section
variable {P : Program} {w : World} {K : PySem.W.Frag} {mg : Str → Option Value} {base : Heap}
/-! ### clips_at, at the border of two clips without a mix -/
def spClipsAt (K : PySem.W.Frag) : Sp := fun vs H Q _ => ∃ (x : V) (t : Track) (p : Nat) (A B : Clip), vs = [x, .int (lenOf (t.take (p + 1)))] ∧ Dp K H x (encT t) ∧ t[p]? = some (.clip A) ∧ t[p + 1]? = some (.clip B) ∧ 0 < A.len ∧ (∀ it ∈ t, 0 ≤ it.room) ∧
  ∀ a H', Same H H' → SqT K H' a [.int p, .non, .int ((p + 1 : Nat) : Int)] → Q (.ref a) H'
theorem sc_clips_at : FnScope ["track", "moment", "begin", "place", "item"] ["track", "moment"] (defScope s_clips_at) := ⟨rfl, rfl, rfl, by decide +kernel, rfl, by decide +kernel, by decide +kernel⟩
theorem ok_clips_at (T : Txt K mg) : Keeps P w base 2 T.clips_at (spClipsAt K) := by
  refine T.clips_at.ok sc_clips_at (fun vs H Q E h => ?_) (fun cdv A outer s H vs Q E hr h => ?_)
  · obtain ⟨x, t, p, A, B, rfl, _⟩ := h
    rfl
  obtain ⟨x, t, p, cA, cB, rfl, hx, eA, eB, A0, rooms, k⟩ := h
  obtain ⟨a, vs, rfl, ha, hd, hl⟩ := dpt hx
  have G := ok_room_of (P := P) (w := w) (base := base) T
  have hpl : p + 1 < t.length := (List.getElem?_eq_some_iff.mp eB).1
  refine ⟨_, pss_cons (ps_set (i := 2) sc_clips_at.nd rfl (Or.inl rfl) pe_int)
    (pss_cons (ps_for PassesOwn.never rfl (pi_enum (by rfl) T.b_enumerate (pa_cons (pv 0) pa_nil)) (pg_tup rfl (pgs_cons (pg_name (i := 3) sc_clips_at.nd rfl (Or.inl rfl)) (pgs_cons (pg_name (i := 4) sc_clips_at.nd rfl (Or.inl rfl)) pgs_nil)))
      (pss_cons (ps_if (PW.pt (pw_and (pt_cmpR op_eq (pv 2) (pv 1) (nomark _)) (pw_and (pt_cmpR op_gt (pv 3) pe_int (nomark _)) (pw_and1 (pt_cmpR op_eq (pe_ix ix_tup (pv 4) pe_int (fun _ _ => rfl)) pe_str (nomark _))))))
          (pss_cons (ps_if (pt_cmpR op_eq (pe_ix ix_tup (pe_ix ix_list (pv 0) (pe_op op_sub (pv 3) pe_int) (fun _ _ => rfl)) pe_int (fun _ _ => rfl)) pe_str (nomark _))
              (pss_one (ps_ret (pe_tup (pa_cons (pe_op op_sub (pv 3) pe_int) (pa_cons pe_non (pa_cons (pv 3) pa_nil)))))) pss_nil)
            (pss_one ps_never)) pss_nil)
        (pss_one (ps_set (i := 2) sc_clips_at.nd rfl (Or.inl rfl) (pe_op op_add (pv 2) (cl T.room_of G hr (by decide) (by rfl) (pa_cons (pv 4) pa_nil)))))))
    (pss_one ps_never)), ?_⟩
  refine ⟨_, rfl, a, _, rfl, ha, for_it walk_enum (fun i σ H' => ∃ y3 y4, i ≤ p + 1 ∧ σ = [some (.ref a), some (.int (lenOf (t.take (p + 1)))), some (.int (lenOf (t.take i))), y3, y4] ∧ Same H H')
    ⟨none, none, Nat.zero_le _, rfl, Same.refl H⟩ (fun i σ H' _ ⟨_, _, _, _, sm⟩ => sm.seq ha) ?_ ?_⟩
  · rintro i x σ H1 H2 hi ⟨y3, y4, hip, rfl, sm⟩ ⟨U, u1, u2, rfl, nU, rfl, e1, e2⟩
    have e1 : V.int (i : Nat) = u1 := Option.some.inj e1
    subst e1
    have sU := same_new nU (.tup [.int (i : Nat), u2])
    obtain ⟨it, eit, dit⟩ := dpm_at (sU.dpAll (sm.dpAll hd)) e2
    obtain ⟨b, us, rfl, hb, h0, h1, _⟩ := dp_item dit
    refine ⟨_, _, rfl, .of upd_same, rfl, _, _, rfl, _, _, rfl, rfl, ?_⟩
    refine ⟨_, rfl, _, rfl, rfl, _, rfl, if_eq (fun c => ?_) (fun c => ?_)⟩
    · -- the border's own moment: the turn p + 1
      have ip : i = p + 1 := by
        by_cases h : i ≤ p
        · have h2 := lenOf_take_le rooms h
          have h3 := lenOf_take eA
          have h4 : (Item.clip cA).room = cA.len := rfl
          omega
        · omega
      subst ip
      rw [eB] at eit
      cases eit
      obtain ⟨z, ez, dz⟩ := dpm_get (sU.dpAll (sm.dpAll hd)) eA
      obtain ⟨b2, us2, rfl, hb2, h02, _, _⟩ := dp_item dz
      have ei : atI vs (((p + 1 : Nat) : Int) - 1) = some (.ref b2) := at_of (j := p) (by omega) ez
      refine ⟨_, rfl, _, _, rfl, rfl, _, rfl, if_d (fun c2 => ?_) (fun c2 => absurd (show ((p + 1 : Nat) : Int) > 0 by omega) c2)⟩
      refine ⟨_, rfl, b, _, _, _, rfl, rfl, hb, h0, rfl, _, rfl, if_seq (fun _ => ?_) (fun c3 => absurd rfl c3)⟩
      refine ⟨_, rfl, _, rfl, _, _, rfl, rfl, a, _, _, _, rfl, rfl, sU.seq (sm.seq ha), ei, b2, _, _, _, rfl, rfl, hb2, h02, rfl, _, rfl, if_seq (fun _ => ?_) (fun c3 => absurd rfl c3)⟩
      refine ⟨_, rfl, _, _, rfl, rfl, _, rfl, by show 3 ≤ sizeLine; decide, fun q hq => ?_⟩
      refine k q _ (sm.trans (sU.trans (same_new hq _))) (.of ?_)
      rw [upd_same]
      have e : ((p + 1 : Nat) : Int) - 1 = (p : Int) := by omega
      show some (HO.tup [.int (((p + 1 : Nat) : Int) - 1), .non, .int ((p + 1 : Nat) : Int)]) = _
      rw [e]
    · have hip2 : i + 1 ≤ p + 1 := by
        by_cases h : i = p + 1
        · rw [h] at c
          exact absurd rfl c
        · omega
      refine ⟨_, rfl, _, rfl, _, it, rfl, dit, _, _, rfl, rfl, some (.int (i : Nat)), some (.ref b), hip2, ?_, sm.trans sU⟩
      rw [lenOf_take eit]
      rfl
  · rintro σ H' ⟨y3, y4, hip, rfl, sm⟩
    omega
/-! ### most_between, most_mix: no more than the clips have -/
def spMostBetween (K : PySem.W.Frag) : Sp := fun vs H Q _ => ∃ (x y : V) (t : Track) (p q : Nat) (A B : Clip), vs = [x, .int p, .int q, y] ∧ Dp K H x (encT t) ∧ t[p]? = some (.clip A) ∧ t[q]? = some (.clip B) ∧ ClipOk A ∧ ClipOk B ∧ ReelsAt H y ∧
  ∀ n H', Same H H' → n ≤ 2 * (A.len - takenB t p) + 1 → n ≤ 2 * (B.len - takenE t q) → Q (.int n) H'
theorem sc_most_between : FnScope ["track", "ahead", "behind", "reels", "before", "after"] ["track", "ahead", "behind", "reels"] (defScope s_most_between) := ⟨rfl, rfl, rfl, by decide +kernel, rfl, by decide +kernel, by decide +kernel⟩
theorem ok_most_between (T : Txt K mg) : Keeps P w base 7 T.most_between (spMostBetween K) := by
  refine T.most_between.ok sc_most_between (fun vs H Q E h => ?_) (fun cdv A outer s H vs Q E hr h => ?_)
  · obtain ⟨x, y, t, p, q, A, B, rfl, _⟩ := h
    rfl
  obtain ⟨x, y, t, p, q, cA, cB, rfl, hx, eA, eB, okA, okB, hy, k⟩ := h
  obtain ⟨a, vs, rfl, ha, hd, hl⟩ := dpt hx
  have hp : p < t.length := (List.getElem?_eq_some_iff.mp eA).1
  refine ⟨_, pss_cons (ps_set (i := 4) sc_most_between.nd rfl (Or.inl rfl) (pe_callB (call_min2 rfl) (by rfl) T.b_min (by decide +kernel) (pa_cons
      (pe_op op_sub (pe_ix ix_tup (pe_ix ix_list (pv 0) (pv 1) (fun _ _ => rfl)) (pe_un un_neg pe_int) (fun _ _ => rfl)) (cl T.taken_at_begin (ok_taken_at_begin T) hr (by decide) (by rfl) (pa_cons (pv 0) (pa_cons (pv 1) pa_nil))))
      (pa_cons (cl T.head_room (ok_head_room T) hr (by decide) (by rfl) (pa_cons (pe_ix ix_list (pv 0) (pv 2) (fun _ _ => rfl)) (pa_cons (pv 3) pa_nil))) pa_nil))))
    (pss_cons (ps_set (i := 5) sc_most_between.nd rfl (Or.inl rfl) (pe_callB (call_min2 rfl) (by rfl) T.b_min (by decide +kernel) (pa_cons
      (pe_op op_sub (pe_ix ix_tup (pe_ix ix_list (pv 0) (pv 2) (fun _ _ => rfl)) (pe_un un_neg pe_int) (fun _ _ => rfl)) (cl T.taken_at_end (ok_taken_at_end T) hr (by decide) (by rfl) (pa_cons (pv 0) (pa_cons (pv 2) pa_nil))))
      (pa_cons (cl T.tail_room (ok_tail_room T) hr (by decide) (by rfl) (pa_cons (pe_ix ix_list (pv 0) (pv 1) (fun _ _ => rfl)) (pa_cons (pv 3) pa_nil))) pa_nil))))
    (pss_one (ps_ret (pe_callB (call_min2 rfl) (by rfl) T.b_min (by decide +kernel) (pa_cons (pe_op op_add (pe_op op_mul pe_int (pv 4)) pe_int) (pa_cons (pe_op op_mul pe_int (pv 5)) pa_nil)))))), ?_⟩
  obtain ⟨xA, exA, dA⟩ := dpm_get hd eA
  obtain ⟨xB, exB, dB⟩ := dpm_get hd eB
  obtain ⟨b1, us1, rfl, hb1, _, l1, _⟩ := dp_item dA
  obtain ⟨b2, us2, rfl, hb2, _, l2, _⟩ := dp_item dB
  refine ⟨_, rfl, _, rfl, a, _, _, _, rfl, rfl, ha, atI_nat exA, _, rfl, b1, _, _, _, rfl, rfl, hb1, l1, _, rfl, _, rfl, _, t, p, rfl, hx, hp, _, _, rfl, rfl, ?_⟩
  refine ⟨_, rfl, _, rfl, a, _, _, _, rfl, rfl, ha, atI_nat exB, _, rfl, _, _, cB, rfl, dB, okB, hy, fun i1 H1 g1 => ⟨_, _, rfl, ?_⟩⟩
  refine ⟨_, rfl, _, rfl, a, _, _, _, rfl, rfl, g1.seq ha, atI_nat exB, _, rfl, b2, _, _, _, rfl, rfl, g1.tup hb2, l2, _, rfl, _, rfl, _, t, q, rfl, g1.dp hx, _, _, rfl, rfl, ?_⟩
  refine ⟨_, rfl, _, rfl, a, _, _, _, rfl, rfl, g1.seq ha, atI_nat exA, _, rfl, _, _, cA, rfl, g1.dp dA, okA, hy.same g1, fun i2 H2 g2 => ⟨_, _, rfl, ?_⟩⟩
  refine ⟨_, rfl, _, _, rfl, rfl, .inl ⟨by decide, by decide⟩, _, _, rfl, rfl, _, rfl, _, _, rfl, rfl, .inl ⟨by decide, by decide⟩, _, _, rfl, ?_⟩
  refine k _ H2 (g1.trans g2) ?_ ?_
  · show (if _ < _ then _ else _) ≤ 2 * (cA.len - takenB t p) + 1
    have e : (Item.clip cA).last = cA.len := rfl
    rw [e]
    split <;> split <;> omega
  · show (if _ < _ then _ else _) ≤ 2 * (cB.len - takenE t q)
    have e : (Item.clip cB).last = cB.len := rfl
    rw [e]
    split <;> split <;> omega
def spMostMix (K : PySem.W.Frag) : Sp := fun vs H Q _ => ∃ (x y : V) (t : Track) (p : Nat) (A B : Clip), vs = [x, .int (lenOf (t.take (p + 1))), y] ∧ Dp K H x (encT t) ∧ t[p]? = some (.clip A) ∧ t[p + 1]? = some (.clip B) ∧ ClipOk A ∧ ClipOk B ∧ (∀ it ∈ t, 0 ≤ it.room) ∧ ReelsAt H y ∧
  ∀ n H', Same H H' → n ≤ 2 * (A.len - takenB t p) + 1 → n ≤ 2 * (B.len - takenE t (p + 1)) → Q (.int n) H'
theorem sc_most_mix : FnScope ["track", "moment", "reels", "ahead", "mix", "behind"] ["track", "moment", "reels"] (defScope s_most_mix) := ⟨rfl, rfl, rfl, by decide +kernel, rfl, by decide +kernel, by decide +kernel⟩
theorem ok_most_mix (T : Txt K mg) : Keeps P w base 8 T.most_mix (spMostMix K) := by
  refine T.most_mix.ok sc_most_mix (fun vs H Q E h => ?_) (fun cdv A outer s H vs Q E hr h => ?_)
  · obtain ⟨x, y, t, p, A, B, rfl, _⟩ := h
    rfl
  obtain ⟨x, y, t, p, cA, cB, rfl, hx, eA, eB, okA, okB, rooms, hy, k⟩ := h
  refine ⟨_, pss_cons (ps_asg (cl T.clips_at (ok_clips_at T) hr (by decide) (by rfl) (pa_cons (pv 0) (pa_cons (pv 1) pa_nil))) (pg_tup rfl (pgs_cons (pg_name (i := 3) sc_most_mix.nd rfl (Or.inl rfl)) (pgs_cons (pg_name (i := 4) sc_most_mix.nd rfl (Or.inl rfl)) (pgs_cons (pg_name (i := 5) sc_most_mix.nd rfl (Or.inl rfl)) pgs_nil)))))
    (pss_one (ps_ret (cl T.most_between (ok_most_between T) hr (by decide) (by rfl) (pa_cons (pv 0) (pa_cons (pv 3) (pa_cons (pv 5) (pa_cons (pv 2) pa_nil))))))), ?_⟩
  refine ⟨_, rfl, _, rfl, x, t, p, cA, cB, rfl, hx, eA, eB, okA.len, rooms, fun a H1 g1 ha => ?_⟩
  refine ⟨a, _, rfl, ha, rfl, _, _, rfl, _, _, rfl, _, _, rfl, rfl, ?_⟩
  exact ⟨_, rfl, _, rfl, _, rfl, _, rfl, x, y, t, p, p + 1, cA, cB, rfl, g1.dp hx, eA, eB, okA, okB, hy.same g1, fun n H2 g2 => k n H2 (g1.trans g2)⟩
end
end Rc

set_option maxHeartbeats 4000000
namespace Rc
open PySem
/-! ### tracks that keep the rules -/
theorem ClipOk.item {c : Clip} (h : ClipOk c) : ItemOk (.clip c) := h
theorem wf_ok : ∀ (t : Track) (prev : Option Int), wfG prev t → ∀ it ∈ t, ItemOk it
  | [], _, _, it, hm => by cases hm
  | .clip c :: r, prev, h, it, hm => by
    rw [wfG] at h
    rcases List.mem_cons.mp hm with e | hm
    · rw [e]; exact h.1
    · exact wf_ok r _ h.2 it hm
  | .nest nm s n :: r, prev, h, it, hm => by
    rw [wfG] at h
    rcases List.mem_cons.mp hm with e | hm
    · rw [e]; exact h.1
    · exact wf_ok r _ h.2 it hm
  | .gap n :: r, prev, h, it, hm => by
    rw [wfG] at h
    rcases List.mem_cons.mp hm with e | hm
    · rw [e]; exact h.1
    · exact wf_ok r _ h.2 it hm
  | .mix n :: .clip c :: r, prev, h, it, hm => by
    rw [wfG] at h
    rcases List.mem_cons.mp hm with e | hm
    · rw [e]; exact h.2.1
    · rcases List.mem_cons.mp hm with e | hm
      · rw [e]; exact h.2.2.2.1
      · exact wf_ok r _ h.2.2.2.2 it hm
  | .mix n :: [], prev, h, it, hm => by simp [wfG] at h
  | .mix n :: .nest _ _ _ :: r, prev, h, it, hm => by simp [wfG] at h
  | .mix n :: .gap _ :: r, prev, h, it, hm => by simp [wfG] at h
  | .mix n :: .mix _ :: r, prev, h, it, hm => by simp [wfG] at h
theorem ItemOk.pos {it : Item} (h : ItemOk it) : 0 < it.last := by
  cases it with
  | clip c => exact ClipOk.len h
  | nest nm s n => exact h.2.1
  | gap n => exact h.1
  | mix n => exact h.1
theorem ItemOk.room {it : Item} (h : ItemOk it) : 0 ≤ it.room := by
  have := h.pos
  unfold Item.room
  split <;> omega
theorem room_non {it : Item} (h : it.isMix = false) : it.room = it.last := by
  unfold Item.room
  rw [if_neg (by rw [h]; decide)]
/-! ### the item at a moment -/
theorem itemAtG_spec : ∀ (t : Track) (b : Int) (i : Nat) (m : Int) (p : Nat) (far : Int) (it : Item), (∀ z ∈ t, ItemOk z) → itemAtG b i t m = some (p, far, it) → i ≤ p ∧ t[p - i]? = some it ∧ it.isMix = false ∧ 0 ≤ far ∧ far < it.last ∧ b ≤ m
  | [], b, i, m, p, far, it, _, h => by cases h
  | z :: r, b, i, m, p, far, it, ok, h => by
    unfold itemAtG at h
    by_cases c : z.isMix = false ∧ b ≤ m ∧ m < b + z.last
    · rw [if_pos c] at h
      simp only [Option.some.injEq, Prod.mk.injEq] at h
      obtain ⟨rfl, rfl, rfl⟩ := h
      exact ⟨Nat.le_refl _, by rw [Nat.sub_self]; rfl, c.1, by omega, by omega, c.2.1⟩
    · rw [if_neg c] at h
      obtain ⟨h1, h2, h3, h4, h5, h6⟩ := itemAtG_spec r _ _ m p far it (fun y hy => ok y (List.mem_cons_of_mem _ hy)) h
      have hz := (ok z List.mem_cons_self).room
      refine ⟨by omega, ?_, h3, h4, h5, by omega⟩
      rw [show p - i = (p - (i + 1)) + 1 by omega]
      exact h2
theorem itemAtG_on : ∀ (t : Track) (b : Int) (i : Nat) (m : Int) (p : Nat) (far : Int) (it : Item) (j : Int), (∀ z ∈ t, ItemOk z) → itemAtG b i t m = some (p, far, it) → 0 ≤ j → far + j < it.last → itemAtG b i t (m + j) = some (p, far + j, it)
  | [], b, i, m, p, far, it, j, _, h, _, _ => by cases h
  | z :: r, b, i, m, p, far, it, j, ok, h, hj, hf => by
    have h' := h
    unfold itemAtG at h
    unfold itemAtG
    by_cases c : z.isMix = false ∧ b ≤ m ∧ m < b + z.last
    · rw [if_pos c] at h
      simp only [Option.some.injEq, Prod.mk.injEq] at h
      obtain ⟨rfl, rfl, rfl⟩ := h
      rw [if_pos ⟨c.1, by omega, by omega⟩]
      simp only [Option.some.injEq, Prod.mk.injEq, true_and, and_true]
      omega
    · rw [if_neg c] at h
      have ih := itemAtG_on r _ _ m p far it j (fun y hy => ok y (List.mem_cons_of_mem _ hy)) h hj hf
      obtain ⟨_, _, _, _, _, hb⟩ := itemAtG_spec r _ _ m p far it (fun y hy => ok y (List.mem_cons_of_mem _ hy)) h
      rw [if_neg (fun q => ?_), ih]
      rw [room_non q.1] at hb
      omega
theorem itemAtG_none : ∀ (t : Track) (b : Int) (i : Nat) (m : Int), (∀ z ∈ t, ItemOk z) → b ≤ m → (itemAtG b i t m = none ↔ b + lenOf t ≤ m)
  | [], b, i, m, _, hb => by
    rw [lenOf_nil]
    exact ⟨fun _ => by omega, fun _ => rfl⟩
  | z :: r, b, i, m, ok, hb => by
    have ok' : ∀ y ∈ r, ItemOk y := fun y hy => ok y (List.mem_cons_of_mem _ hy)
    have hl := lenOf_nonneg (t := r) fun y hy => (ok' y hy).room
    have hz := (ok z List.mem_cons_self).pos
    rw [lenOf_cons]
    unfold itemAtG
    by_cases c : z.isMix = false ∧ b ≤ m ∧ m < b + z.last
    · rw [if_pos c, room_non c.1]
      have c2 := c.2.2
      exact ⟨(fun h => by simp at h), (fun h => by omega)⟩
    · rw [if_neg c]
      have hr : b + z.room ≤ m := by
        cases q : z.isMix with
        | true =>
          unfold Item.room
          rw [if_pos q]
          omega
        | false =>
          rw [room_non q]
          by_cases h : m < b + z.last
          · exact absurd ⟨q, hb, h⟩ c
          · omega
      rw [itemAtG_none r (b + z.room) (i + 1) m ok' hr]
      exact ⟨fun h => by omega, fun h => by omega⟩
/-! ### the spans -/
theorem spans_in : ∀ (t : Track) (prev : Option Int) (b : Int), wfG prev t → 0 ≤ prev.getD 0 → ∀ s ∈ spansG b t, b - prev.getD 0 ≤ s.1 ∧ s.1 ≤ s.2.1 ∧ b ≤ s.2.1 ∧ s.2.1 < s.2.2 ∧ s.2.2 ≤ b + lenOf t ∧ s.2.2 - s.1 ≤ 24
  | [], _, b, _, _, s, hm => by cases hm
  | .clip c :: r, prev, b, h, h0, s, hm => by
    rw [wfG] at h
    have hc := h.1.len
    have ih := spans_in r (some c.len) (b + c.len) h.2 (Int.le_of_lt hc) s hm
    rw [lenOf_cons]
    show _ ∧ _ ∧ _ ∧ _ ∧ s.2.2 ≤ b + (c.len + lenOf r) ∧ _
    have e : (some c.len).getD 0 = c.len := rfl
    rw [e] at ih
    omega
  | .nest nm st n :: r, prev, b, h, h0, s, hm => by
    rw [wfG] at h
    have hc := h.1.2.1
    have ih := spans_in r none (b + n) h.2 (Int.le_refl 0) s hm
    rw [lenOf_cons]
    show _ ∧ _ ∧ _ ∧ _ ∧ s.2.2 ≤ b + (n + lenOf r) ∧ _
    have e : (none : Option Int).getD 0 = 0 := rfl
    rw [e] at ih
    omega
  | .gap n :: r, prev, b, h, h0, s, hm => by
    rw [wfG] at h
    have hc := h.1.1
    have ih := spans_in r none (b + n) h.2 (Int.le_refl 0) s hm
    rw [lenOf_cons]
    show _ ∧ _ ∧ _ ∧ _ ∧ s.2.2 ≤ b + (n + lenOf r) ∧ _
    have e : (none : Option Int).getD 0 = 0 := rfl
    rw [e] at ih
    omega
  | .mix n :: .clip c :: r, prev, b, h, h0, s, hm => by
    rw [wfG] at h
    obtain ⟨⟨a, rfl, ha⟩, hn, hl, hc, hr⟩ := h
    have hrest := lenOf_nonneg (t := r) fun y hy => (wf_ok r _ hr y hy).room
    have e1 : (some a).getD 0 = a := rfl
    rw [e1]
    have el : lenOf (.mix n :: .clip c :: r) = c.len + lenOf r := by
      rw [lenOf_cons, lenOf_cons]
      show 0 + (c.len + lenOf r) = _
      omega
    rw [el]
    have hm' : s ∈ (b - n / 2, b, b + n - n / 2) :: spansG (b + 0 + c.len) r := hm
    rcases List.mem_cons.mp hm' with e | hm
    · rw [e]
      show b - a ≤ b - n / 2 ∧ b - n / 2 ≤ b ∧ b ≤ b ∧ b < b + n - n / 2 ∧ b + n - n / 2 ≤ b + (c.len + lenOf r) ∧ b + n - n / 2 - (b - n / 2) ≤ 24
      omega
    · have ih := spans_in r (some (c.len - (n - n / 2))) (b + 0 + c.len) hr (by show 0 ≤ c.len - (n - n / 2); omega) s hm
      have e : (some (c.len - (n - n / 2))).getD 0 = c.len - (n - n / 2) := rfl
      rw [e] at ih
      omega
  | .mix n :: [], prev, _, h, _, s, hm => by simp [wfG] at h
  | .mix n :: .nest _ _ _ :: r, prev, _, h, _, s, hm => by simp [wfG] at h
  | .mix n :: .gap _ :: r, prev, _, h, _, s, hm => by simp [wfG] at h
  | .mix n :: .mix _ :: r, prev, _, h, _, s, hm => by simp [wfG] at h
theorem spans_apart : ∀ (t : Track) (prev : Option Int) (b : Int), wfG prev t → 0 ≤ prev.getD 0 → (spansG b t).Pairwise fun s s' => s.2.2 ≤ s'.1
  | [], _, b, _, _ => List.Pairwise.nil
  | .clip c :: r, prev, b, h, h0 => by
    rw [wfG] at h
    exact spans_apart r (some c.len) (b + c.len) h.2 (Int.le_of_lt h.1.len)
  | .nest nm st n :: r, prev, b, h, h0 => by
    rw [wfG] at h
    exact spans_apart r none (b + n) h.2 (Int.le_refl 0)
  | .gap n :: r, prev, b, h, h0 => by
    rw [wfG] at h
    exact spans_apart r none (b + n) h.2 (Int.le_refl 0)
  | .mix n :: .clip c :: r, prev, b, h, h0 => by
    rw [wfG] at h
    obtain ⟨⟨a, rfl, ha⟩, hn, hl, hc, hr⟩ := h
    show ((b - n / 2, b, b + n - n / 2) :: spansG (b + 0 + c.len) r).Pairwise _
    refine List.Pairwise.cons (fun s hs => ?_) (spans_apart r (some (c.len - (n - n / 2))) (b + 0 + c.len) hr (by show 0 ≤ c.len - (n - n / 2); omega))
    have ih := spans_in r (some (c.len - (n - n / 2))) (b + 0 + c.len) hr (by show 0 ≤ c.len - (n - n / 2); omega) s hs
    have e : (some (c.len - (n - n / 2))).getD 0 = c.len - (n - n / 2) := rfl
    rw [e] at ih
    show b + n - n / 2 ≤ s.1
    omega
  | .mix n :: [], prev, _, h, _ => by simp [wfG] at h
  | .mix n :: .nest _ _ _ :: r, prev, _, h, _ => by simp [wfG] at h
  | .mix n :: .gap _ :: r, prev, _, h, _ => by simp [wfG] at h
  | .mix n :: .mix _ :: r, prev, _, h, _ => by simp [wfG] at h
/-- where a span is, there is a clip -/
theorem span_clip : ∀ (t : Track) (prev : Option Int) (b : Int) (i : Nat) (x : Int), wfG prev t → 0 ≤ prev.getD 0 → ∀ s ∈ spansG b t, s.1 ≤ x → x < s.2.2 → (x < b ∧ b - prev.getD 0 ≤ x) ∨ ∃ p far c, itemAtG b i t x = some (p, far, .clip c)
  | [], _, b, i, x, _, _, s, hm, _, _ => by cases hm
  | .clip c :: r, prev, b, i, x, h, h0, s, hm, h1, h2 => by
    rw [wfG] at h
    have hc := h.1.len
    have ih := span_clip r (some c.len) (b + c.len) (i + 1) x h.2 (Int.le_of_lt hc) s hm h1 h2
    have e : (some c.len).getD 0 = c.len := rfl
    rw [e] at ih
    right
    unfold itemAtG
    by_cases q : (Item.clip c).isMix = false ∧ b ≤ x ∧ x < b + (Item.clip c).last
    · rw [if_pos q]
      exact ⟨_, _, _, rfl⟩
    · rw [if_neg q]
      rcases ih with z | z
      · exact absurd ⟨rfl, by omega, z.1⟩ q
      · exact z
  | .nest nm st n :: r, prev, b, i, x, h, h0, s, hm, h1, h2 => by
    rw [wfG] at h
    have ih := span_clip r none (b + n) (i + 1) x h.2 (Int.le_refl 0) s hm h1 h2
    have e : (none : Option Int).getD 0 = 0 := rfl
    rw [e] at ih
    right
    rcases ih with z | ⟨p, far, c, z⟩
    · omega
    · obtain ⟨_, _, _, _, _, hb⟩ := itemAtG_spec r _ _ x p far _ (wf_ok r _ h.2) z
      unfold itemAtG
      rw [if_neg (fun q => by have q2 : x < b + n := q.2.2; omega)]
      exact ⟨_, _, _, z⟩
  | .gap n :: r, prev, b, i, x, h, h0, s, hm, h1, h2 => by
    rw [wfG] at h
    have ih := span_clip r none (b + n) (i + 1) x h.2 (Int.le_refl 0) s hm h1 h2
    have e : (none : Option Int).getD 0 = 0 := rfl
    rw [e] at ih
    right
    rcases ih with z | ⟨p, far, c, z⟩
    · omega
    · obtain ⟨_, _, _, _, _, hb⟩ := itemAtG_spec r _ _ x p far _ (wf_ok r _ h.2) z
      unfold itemAtG
      rw [if_neg (fun q => by have q2 : x < b + n := q.2.2; omega)]
      exact ⟨_, _, _, z⟩
  | .mix n :: .clip c :: r, prev, b, i, x, h, h0, s, hm, h1, h2 => by
    rw [wfG] at h
    obtain ⟨⟨a, rfl, ha⟩, hn, hl, hc, hr⟩ := h
    have e1 : (some a).getD 0 = a := rfl
    rw [e1]
    have hm' : s ∈ (b - n / 2, b, b + n - n / 2) :: spansG (b + 0 + c.len) r := hm
    have step : itemAtG b i (.mix n :: .clip c :: r) x = if (Item.clip c).isMix = false ∧ b + 0 ≤ x ∧ x < b + 0 + c.len then some (i + 1, x - (b + 0), .clip c) else itemAtG (b + 0 + c.len) (i + 1 + 1) r x := by
      rw [itemAtG, if_neg (fun q => absurd (show true = false from q.1) (by decide)), itemAtG]
      rfl
    rw [step]
    rcases List.mem_cons.mp hm' with e | hm
    · rw [e] at h1 h2
      have h1 : b - n / 2 ≤ x := h1
      have h2 : x < b + n - n / 2 := h2
      by_cases q : x < b
      · left
        omega
      · right
        rw [if_pos ⟨rfl, by omega, by omega⟩]
        exact ⟨_, _, _, rfl⟩
    · have ih := span_clip r (some (c.len - (n - n / 2))) (b + 0 + c.len) (i + 1 + 1) x hr (by show 0 ≤ c.len - (n - n / 2); omega) s hm h1 h2
      have e : (some (c.len - (n - n / 2))).getD 0 = c.len - (n - n / 2) := rfl
      rw [e] at ih
      right
      by_cases q : (Item.clip c).isMix = false ∧ b + 0 ≤ x ∧ x < b + 0 + c.len
      · rw [if_pos q]
        exact ⟨_, _, _, rfl⟩
      · rw [if_neg q]
        rcases ih with z | z
        · exact absurd ⟨rfl, by omega, by omega⟩ q
        · exact z
  | .mix n :: [], prev, _, _, _, h, _, s, hm, _, _ => by simp [wfG] at h
  | .mix n :: .nest _ _ _ :: r, prev, _, _, _, h, _, s, hm, _, _ => by simp [wfG] at h
  | .mix n :: .gap _ :: r, prev, _, _, _, h, _, s, hm, _, _ => by simp [wfG] at h
  | .mix n :: .mix _ :: r, prev, _, _, _, h, _, s, hm, _, _ => by simp [wfG] at h
/-- a mix's two clips -/
theorem span_mix : ∀ (t pre : Track) (prev : Option Int) (b : Int), wfG prev t → 0 ≤ prev.getD 0 → (∀ a, prev = some a → ∃ A pre', pre = pre' ++ [.clip A]) → ∀ s ∈ spansG b t,
    ∃ p A B, itemAtG b pre.length t s.2.1 = some (p, 0, .clip B) ∧ 2 ≤ p ∧ (pre ++ t)[p - 2]? = some (.clip A)
  | [], pre, _, b, _, _, _, s, hm => by cases hm
  | .clip c :: r, pre, prev, b, h, h0, hp, s, hm => by
    rw [wfG] at h
    have hc := h.1.len
    have hs := spans_in r (some c.len) (b + c.len) h.2 (Int.le_of_lt hc) s hm
    obtain ⟨p, A, B, e1, e2, e3⟩ := span_mix r (pre ++ [.clip c]) (some c.len) (b + c.len) h.2 (Int.le_of_lt hc) (fun _ _ => ⟨c, pre, rfl⟩) s hm
    rw [List.length_append, List.length_singleton] at e1
    rw [List.append_assoc] at e3
    refine ⟨p, A, B, ?_, e2, e3⟩
    unfold itemAtG
    rw [if_neg (fun q => by have q2 : s.2.1 < b + c.len := q.2.2; omega)]
    exact e1
  | .nest nm st n :: r, pre, prev, b, h, h0, hp, s, hm => by
    rw [wfG] at h
    have hs := spans_in r none (b + n) h.2 (Int.le_refl 0) s hm
    obtain ⟨p, A, B, e1, e2, e3⟩ := span_mix r (pre ++ [.nest nm st n]) none (b + n) h.2 (Int.le_refl 0) (fun _ q => nomatch q) s hm
    rw [List.length_append, List.length_singleton] at e1
    rw [List.append_assoc] at e3
    refine ⟨p, A, B, ?_, e2, e3⟩
    unfold itemAtG
    rw [if_neg (fun q => by have q2 : s.2.1 < b + n := q.2.2; omega)]
    exact e1
  | .gap n :: r, pre, prev, b, h, h0, hp, s, hm => by
    rw [wfG] at h
    have hs := spans_in r none (b + n) h.2 (Int.le_refl 0) s hm
    obtain ⟨p, A, B, e1, e2, e3⟩ := span_mix r (pre ++ [.gap n]) none (b + n) h.2 (Int.le_refl 0) (fun _ q => nomatch q) s hm
    rw [List.length_append, List.length_singleton] at e1
    rw [List.append_assoc] at e3
    refine ⟨p, A, B, ?_, e2, e3⟩
    unfold itemAtG
    rw [if_neg (fun q => by have q2 : s.2.1 < b + n := q.2.2; omega)]
    exact e1
  | .mix n :: .clip c :: r, pre, prev, b, h, h0, hp, s, hm => by
    rw [wfG] at h
    obtain ⟨⟨a, rfl, ha⟩, hn, hl, hc, hr⟩ := h
    have step : ∀ x, itemAtG b pre.length (.mix n :: .clip c :: r) x = if (Item.clip c).isMix = false ∧ b + 0 ≤ x ∧ x < b + 0 + c.len then some (pre.length + 1, x - (b + 0), .clip c) else itemAtG (b + 0 + c.len) (pre.length + 1 + 1) r x := fun x => by
      rw [itemAtG, if_neg (fun q => absurd (show true = false from q.1) (by decide)), itemAtG]
      rfl
    have hm' : s ∈ (b - n / 2, b, b + n - n / 2) :: spansG (b + 0 + c.len) r := hm
    rw [step]
    rcases List.mem_cons.mp hm' with e | hm
    · obtain ⟨A, pre', e'⟩ := hp a rfl
      rw [e]
      show ∃ p A B, (if (Item.clip c).isMix = false ∧ b + 0 ≤ b ∧ b < b + 0 + c.len then some (pre.length + 1, b - (b + 0), Item.clip c) else itemAtG (b + 0 + c.len) (pre.length + 1 + 1) r b) = some (p, 0, .clip B) ∧ 2 ≤ p ∧ (pre ++ .mix n :: .clip c :: r)[p - 2]? = some (.clip A)
      have hc0 := hc.len
      rw [if_pos ⟨rfl, by omega, by omega⟩]
      refine ⟨pre.length + 1, A, c, ?_, ?_, ?_⟩
      · rw [show b - (b + 0) = 0 by omega]
      · rw [e', List.length_append, List.length_singleton]
        omega
      · rw [e', List.length_append, List.length_singleton, show pre'.length + 1 + 1 - 2 = pre'.length by omega, List.append_assoc, List.getElem?_append_right (Nat.le_refl _), Nat.sub_self]
        rfl
    · have h00 : 0 ≤ (some (c.len - (n - n / 2))).getD 0 := by show 0 ≤ c.len - (n - n / 2); omega
      have hs := spans_in r (some (c.len - (n - n / 2))) (b + 0 + c.len) hr h00 s hm
      obtain ⟨p, A, B, e1, e2, e3⟩ := span_mix r (pre ++ [.mix n, .clip c]) (some (c.len - (n - n / 2))) (b + 0 + c.len) hr h00 (fun _ _ => ⟨c, pre ++ [.mix n], by rw [List.append_assoc]; rfl⟩) s hm
      rw [List.length_append] at e1
      rw [List.append_assoc] at e3
      refine ⟨p, A, B, ?_, e2, e3⟩
      rw [if_neg (fun q => by have q2 := q.2.2; omega)]
      exact e1
  | .mix n :: [], _, prev, _, h, _, _, s, hm => by simp [wfG] at h
  | .mix n :: .nest _ _ _ :: r, _, prev, _, h, _, _, s, hm => by simp [wfG] at h
  | .mix n :: .gap _ :: r, _, prev, _, h, _, _, s, hm => by simp [wfG] at h
  | .mix n :: .mix _ :: r, _, prev, _, h, _, _, s, hm => by simp [wfG] at h
end Rc

set_option maxHeartbeats 4000000
namespace Rc
open PySem
/-! ### a table laid flat tells what the table tells -/
def ReelOk (r : Str) : Prop := r = ("ra" : Str) ∨ r = ("rb" : Str)
structure PartOk (p : Part) : Prop where
  start : Sm p.start
  step : Sm p.step
  slo : -1000000 < p.step.1
  shi : p.step.1 < 1000000
  share : Sm p.share
  sstep : Sm p.shareStep
  sslo : -1000000 < p.shareStep.1
  sshi : p.shareStep.1 < 1000000
  reel : ReelOk p.reel
structure TrackOk (g : Str → Prop) (t : Track) : Prop where
  wf : wfG none t
  len : t.length ≤ 100
  most : lenOf t ≤ 100
  nest : ∀ nm s n, Item.nest nm s n ∈ t → g nm
def GoodTab (tabs : Str → List Track) : Nat → Str → Prop
  | 0, _ => False
  | n + 1, nm => (tabs nm).length ≤ 100 ∧ tabs nm ≠ [] ∧ ∀ t ∈ tabs nm, TrackOk (GoodTab tabs n) t
theorem TrackOk.mono {g g' : Str → Prop} {t : Track} (h : TrackOk g t) (k : ∀ x, g x → g' x) : TrackOk g' t := ⟨h.wf, h.len, h.most, fun nm s n hm => k _ (h.nest nm s n hm)⟩
theorem GoodTab.succ {tabs : Str → List Track} : ∀ {n : Nat} {nm : Str}, GoodTab tabs n nm → GoodTab tabs (n + 1) nm
  | 0, _, h => h.elim
  | n + 1, nm, h => ⟨h.1, h.2.1, fun t ht => (h.2.2 t ht).mono fun x hx => GoodTab.succ hx⟩
theorem GoodTab.le {tabs : Str → List Track} {n m : Nat} {nm : Str} (h : GoodTab tabs n nm) (hl : n ≤ m) : GoodTab tabs m nm := by
  induction hl with
  | refl => exact h
  | step _ ih => exact GoodTab.succ ih
structure RunOk (r : Run) (f : Int → List Tell) (m : Int) : Prop where
  pos : ∀ L, r.2 = some L → 0 < L
  tells : ∀ j, 0 ≤ j → (∀ L, r.2 = some L → j < L) → evalP r.1 j = f (m + j)
  parts : ∀ p ∈ r.1, PartOk p
section
variable {t : Track} {rec : Str → Int → List Tell}
theorem wf_at {m : Int} {p : Nat} {far : Int} {it : Item} (wf : wfG none t) (h : itemAt t m = some (p, far, it)) : t[p]? = some it ∧ it.isMix = false ∧ 0 ≤ far ∧ far < it.last ∧ ItemOk it ∧ it ∈ t := by
  obtain ⟨_, h2, h3, h4, h5, _⟩ := itemAtG_spec t 0 0 m p far it (wf_ok t _ wf) h
  rw [Nat.sub_zero] at h2
  have hm := List.mem_of_getElem? h2
  exact ⟨h2, h3, h4, h5, wf_ok t _ wf it hm, hm⟩
theorem told_plain {x : Int} (h : ∀ s ∈ spans t, inSpan x s = false) : toldOn rec t x = plainTell rec t x := by
  unfold toldOn
  have e : (spans t).find? (inSpan x) = none := List.find?_eq_none.mpr fun s hs => by rw [h s hs]; decide
  rw [e]
/-- no span where no clip is -/
theorem no_span {x : Int} (wf : wfG none t) (h0 : 0 ≤ x) (h : ∀ p far c, itemAt t x ≠ some (p, far, .clip c)) : ∀ s ∈ spans t, inSpan x s = false := fun s hs => by
  cases q : inSpan x s with
  | false => rfl
  | true =>
    have q' : (decide (s.1 ≤ x) && decide (x < s.2.2)) = true := q
    rw [Bool.and_eq_true, decide_eq_true_eq, decide_eq_true_eq] at q'
    rcases span_clip t none 0 0 x wf (Int.le_refl 0) s hs q'.1 q'.2 with z | ⟨p, far, c, z⟩
    · omega
    · exact absurd z (h p far c)
theorem mixOf_some (wf : wfG none t) {s : Span} (hs : s ∈ spans t) : ∃ A B, mixOf t s.2.1 = some (A, B) ∧ ClipOk A ∧ ClipOk B := by
  obtain ⟨p, A, B, e1, e2, e3⟩ := span_mix t [] none 0 wf (Int.le_refl 0) (fun _ q => nomatch q) s hs
  have e1 : itemAt t s.2.1 = some (p, 0, .clip B) := e1
  have e3 : t[p - 2]? = some (.clip A) := e3
  refine ⟨A, B, ?_, wf_ok t _ wf _ (List.mem_of_getElem? e3), (wf_at wf e1).2.2.2.2.1⟩
  unfold mixOf
  rw [e1]
  show (if 2 ≤ p then (match t[p - 2]? with
    | some (.clip A) => some (A, B)
    | _ => none) else none) = _
  rw [if_pos e2, e3]
theorem mixRun_ok {A B : Clip} {s : Span} {m x : Int} (okA : ClipOk A) (okB : ClipOk B) (h1 : s.1 ≤ m) (h2 : m < s.2.2) (h3 : s.2.2 - s.1 ≤ 24) :
    (∀ j, evalP (mixRun A B s m).1 j = mixTell A B s (m + j)) ∧ ∀ p ∈ (mixRun A B s m).1, PartOk p := by
  have hb : 0 < s.2.2 - s.1 + 1 := by omega
  have sms : ∀ a, Sm (mkF a (s.2.2 - s.1 + 1)) := fun a => ⟨mkF_pos hb, by have := mkF_le (t := a) hb; omega⟩
  have smb : ∀ a : Int, Sm (a, s.2.2 - s.1 + 1) := fun a => ⟨hb, by show s.2.2 - s.1 + 1 < 32768; omega⟩
  refine ⟨fun j => ?_, fun p hp => ?_⟩
  · have eA : sumF (placeAt A.start A.step (A.len + m - s.2.1)) (timesF A.step (j, 1)) = placeAt A.start A.step (A.len + (m + j) - s.2.1) := by
      rw [place_add okA.s0 okA.t0]
      congr 1
      omega
    have eB : sumF (placeAt B.start B.step (m - s.2.1)) (timesF B.step (j, 1)) = placeAt B.start B.step (m + j - s.2.1) := by
      rw [place_add okB.s0 okB.t0]
      congr 1
      omega
    have e1 : sumF (mkF (s.2.2 - s.1 - (m - s.1)) (s.2.2 - s.1 + 1)) (timesF (-1, s.2.2 - s.1 + 1) (j, 1)) = mkF (s.2.2 - s.1 - (m + j - s.1)) (s.2.2 - s.1 + 1) := by
      rw [share_add hb]
      congr 1
      omega
    have e2 : sumF (mkF (m - s.1 + 1) (s.2.2 - s.1 + 1)) (timesF (1, s.2.2 - s.1 + 1) (j, 1)) = mkF (m + j - s.1 + 1) (s.2.2 - s.1 + 1) := by
      rw [share_add hb]
      congr 1
      omega
    show [(A.reel, floorF (sumF (placeAt A.start A.step (A.len + m - s.2.1)) (timesF A.step (j, 1))), sumF (mkF (s.2.2 - s.1 - (m - s.1)) (s.2.2 - s.1 + 1)) (timesF (-1, s.2.2 - s.1 + 1) (j, 1))),
      (B.reel, floorF (sumF (placeAt B.start B.step (m - s.2.1)) (timesF B.step (j, 1))), sumF (mkF (m - s.1 + 1) (s.2.2 - s.1 + 1)) (timesF (1, s.2.2 - s.1 + 1) (j, 1)))] = _
    rw [eA, eB, e1, e2]
    rfl
  · have pa := place_small (k := A.len + m - s.2.1) okA
    have pb := place_small (k := m - s.2.1) okB
    have hA1 := okA.lo
    have hA2 := okA.hi
    have hB1 := okB.lo
    have hB2 := okB.hi
    rcases List.mem_cons.mp hp with e | hp
    · rw [e]
      exact ⟨⟨pa.1, Int.lt_of_le_of_lt pa.2 (by decide)⟩, okA.sm.2, by show -1000000 < A.step.1; omega, by show A.step.1 < 1000000; omega, sms _, smb _, by show (-1000000 : Int) < -1; decide, by show (-1 : Int) < 1000000; decide, okA.reel⟩
    · have e := List.mem_singleton.mp hp
      rw [e]
      exact ⟨⟨pb.1, Int.lt_of_le_of_lt pb.2 (by decide)⟩, okB.sm.2, by show -1000000 < B.step.1; omega, by show B.step.1 < 1000000; omega, sms _, smb _, by show (-1000000 : Int) < 1; decide, by show (1 : Int) < 1000000; decide, okB.reel⟩
theorem find_app {α : Type} {p : α → Bool} {l1 l2 : List α} {s : α} (h : ∀ x ∈ l1, p x = false) (hs : p s = true) : (l1 ++ s :: l2).find? p = some s := by
  rw [List.find?_append, List.find?_eq_none.mpr (fun x hx => by rw [h x hx]; decide)]
  show (List.find? p (s :: l2)) = some s
  rw [List.find?_cons, hs]
theorem inSpan_iff {x : Int} {s : Span} : inSpan x s = true ↔ s.1 ≤ x ∧ x < s.2.2 := by
  unfold inSpan
  rw [Bool.and_eq_true, decide_eq_true_eq, decide_eq_true_eq]
theorem inSpan_false {x : Int} {s : Span} (h : x < s.1 ∨ s.2.2 ≤ x) : inSpan x s = false := by
  cases q : inSpan x s with
  | false => rfl
  | true =>
    have := inSpan_iff.mp q
    omega
theorem spanRun_ok {m far : Int} {p : Nat} {c : Clip} (wf : wfG none t) (hc : itemAt t m = some (p, far, .clip c)) : ∀ (l l1 : List Span) (lasts : Int), spans t = l1 ++ l → (∀ s ∈ l1, s.2.2 ≤ m ∨ (m < s.1 ∧ lasts ≤ s.1 - m)) → 0 < lasts → lasts ≤ c.len - far →
    RunOk (spanRun t c far m l lasts) (toldOn rec t) m
  | [], l1, lasts, e, h1, h0, hl => by
    obtain ⟨_, _, f0, f1, ok, _⟩ := wf_at wf hc
    have ok : ClipOk c := ok
    have f1 : far < c.len := f1
    have pa := place_small (k := far) ok
    have c1 := ok.lo
    have c2 := ok.hi
    refine ⟨fun L hL => ?_, fun j j0 hj => ?_, fun q hq => ?_⟩
    · cases hL
      exact h0
    · have jl := hj lasts rfl
      have on : itemAt t (m + j) = some (p, far + j, .clip c) := itemAtG_on t 0 0 m p far _ j (wf_ok t _ wf) hc j0 (by show far + j < c.len; omega)
      rw [told_plain]
      · unfold plainTell
        rw [on]
        show [(c.reel, floorF (sumF (placeAt c.start c.step far) (timesF c.step (j, 1))), sumF (1, 1) (timesF (0, 1) (j, 1)))] = clipTell c (far + j)
        rw [place_add ok.s0 ok.t0, share_one]
        rfl
      · intro s hs
        rw [e, List.append_nil] at hs
        have := h1 s hs
        exact inSpan_false (by omega)
    · have eq := List.mem_singleton.mp hq
      rw [eq]
      exact ⟨⟨pa.1, Int.lt_of_le_of_lt pa.2 (by decide)⟩, ok.sm.2, by show -1000000 < c.step.1; omega, by show c.step.1 < 1000000; omega, ⟨by show (0 : Int) < 1; decide, by show (1 : Int) < 32768; decide⟩, ⟨by show (0 : Int) < 1; decide, by show (1 : Int) < 32768; decide⟩, by show (-1000000 : Int) < 0; decide, by show (0 : Int) < 1000000; decide, ok.reel⟩
  | s :: r, l1, lasts, e, h1, h0, hl => by
    have hs : s ∈ spans t := by rw [e]; exact List.mem_append_right _ List.mem_cons_self
    obtain ⟨i1, i2, i3, i4, i5, i6⟩ := spans_in t none 0 wf (Int.le_refl 0) s hs
    unfold spanRun
    by_cases q : inSpan m s = true
    · rw [if_pos q]
      obtain ⟨q1, q2⟩ := inSpan_iff.mp q
      obtain ⟨A, B, em, okA, okB⟩ := mixOf_some wf hs
      rw [em]
      obtain ⟨g1, g2⟩ := mixRun_ok (x := m) okA okB q1 q2 i6
      refine ⟨fun L hL => ?_, fun j j0 hj => ?_, g2⟩
      · have hL : some (s.2.2 - m) = some L := hL
        cases hL
        omega
      · have jl := hj (s.2.2 - m) rfl
        show evalP (mixRun A B s m).1 j = _
        rw [g1 j]
        have ap := spans_apart t none 0 wf (Int.le_refl 0)
        have ap : (l1 ++ s :: r).Pairwise fun s s' => s.2.2 ≤ s'.1 := by rw [← e]; exact ap
        unfold toldOn
        rw [e, find_app (fun s' hs' => ?_) (inSpan_iff.mpr ⟨by omega, by omega⟩)]
        · show _ = (match mixOf t s.2.1 with
            | some (A, B) => mixTell A B s (m + j)
            | none => [])
          rw [em]
        · have h3 := (List.pairwise_append.mp ap).2.2 s' hs' s List.mem_cons_self
          exact inSpan_false (by omega)
    · rw [if_neg q]
      have q' : ¬ (s.1 ≤ m ∧ m < s.2.2) := fun z => q (inSpan_iff.mpr z)
      by_cases c2 : m < s.1
      · rw [if_pos c2]
        refine spanRun_ok wf hc r (l1 ++ [s]) (min lasts (s.1 - m)) (by rw [e, List.append_assoc]; rfl) (fun s' hs' => ?_) (by omega) (by omega)
        rcases List.mem_append.mp hs' with z | z
        · have := h1 s' z
          omega
        · have z := List.mem_singleton.mp z
          rw [z]
          omega
      · rw [if_neg c2]
        refine spanRun_ok wf hc r (l1 ++ [s]) lasts (by rw [e, List.append_assoc]; rfl) (fun s' hs' => ?_) h0 hl
        rcases List.mem_append.mp hs' with z | z
        · exact h1 s' z
        · have z := List.mem_singleton.mp z
          rw [z]
          omega
end
theorem sooner_lt {a b : Option Int} {j : Int} (h : ∀ L, sooner a b = some L → j < L) : (∀ L, a = some L → j < L) ∧ ∀ L, b = some L → j < L := by
  cases a with
  | none =>
    cases b with
    | none => exact ⟨(fun _ q => nomatch q), (fun _ q => nomatch q)⟩
    | some y => exact ⟨(fun _ q => nomatch q), h⟩
  | some x =>
    cases b with
    | none => exact ⟨h, (fun _ q => nomatch q)⟩
    | some y =>
      have z := h (min x y) rfl
      exact ⟨fun L q => by cases q; omega, fun L q => by cases q; omega⟩
theorem sooner_pos {a b : Option Int} (ha : ∀ L, a = some L → 0 < L) (hb : ∀ L, b = some L → 0 < L) : ∀ L, sooner a b = some L → 0 < L := by
  cases a with
  | none => exact hb
  | some x =>
    cases b with
    | none => exact ha
    | some y =>
      intro L q
      have q : some (min x y) = some L := q
      cases q
      have h1 := ha x rfl
      have h2 := hb y rfl
      omega
theorem trackRun_ok {g : Str → Prop} {recT : Str → Int → List Tell} {recR : Str → Int → Run} (hrec : ∀ nm x, g nm → 0 ≤ x → RunOk (recR nm x) (recT nm) x) {t : Track} {m : Int} (ok : TrackOk g t) (h0 : 0 ≤ m) : RunOk (trackRun recR t m) (toldOn recT t) m := by
  unfold trackRun
  cases e : itemAt t m with
  | none =>
    refine ⟨(fun L q => nomatch q), fun j j0 _ => ?_, (fun p hp => nomatch hp)⟩
    have hn := (itemAtG_none t 0 0 m (wf_ok t _ ok.wf) h0).mp e
    have e2 : itemAt t (m + j) = none := (itemAtG_none t 0 0 (m + j) (wf_ok t _ ok.wf) (by omega)).mpr (by omega)
    rw [told_plain (no_span ok.wf (by omega) fun p far c z => by rw [e2] at z; cases z)]
    unfold plainTell
    rw [e2]
    rfl
  | some v =>
    obtain ⟨p, far, it⟩ := v
    obtain ⟨ep, nmx, f0, f1, io, hm⟩ := wf_at ok.wf e
    have on : ∀ j, 0 ≤ j → far + j < it.last → itemAt t (m + j) = some (p, far + j, it) := fun j j0 hj => itemAtG_on t 0 0 m p far it j (wf_ok t _ ok.wf) e j0 hj
    cases it with
    | gap n =>
      have f1 : far < n := f1
      refine ⟨fun L q => ?_, fun j j0 hj => ?_, (fun p hp => nomatch hp)⟩
      · have q : some (n - far) = some L := q
        cases q
        omega
      · have jl := hj (n - far) rfl
        have e2 := on j j0 (by show far + j < n; omega)
        rw [told_plain (no_span ok.wf (by omega) fun p far c z => by rw [e2] at z; cases z)]
        unfold plainTell
        rw [e2]
        rfl
    | nest nm st n =>
      have f1 : far < n := f1
      have io : 0 ≤ st ∧ 0 < n ∧ n ≤ 12 := io
      have R := hrec nm (st + far) (ok.nest nm st n hm) (by omega)
      refine ⟨sooner_pos (fun L q => ?_) R.pos, fun j j0 hj => ?_, R.parts⟩
      · cases q
        omega
      · obtain ⟨j1, j2⟩ := sooner_lt hj
        have jl := j1 (n - far) rfl
        have e2 := on j j0 (by show far + j < n; omega)
        rw [told_plain (no_span ok.wf (by omega) fun p far c z => by rw [e2] at z; cases z)]
        unfold plainTell
        rw [e2]
        show evalP (recR nm (st + far)).1 j = recT nm (st + (far + j))
        rw [R.tells j j0 j2]
        congr 1
        omega
    | clip c =>
      have f1 : far < c.len := f1
      exact spanRun_ok ok.wf e (spans t) [] (c.len - far) rfl (fun s hs => nomatch hs) (by omega) (Int.le_refl _)
    | mix n => cases nmx
theorem tabRun_ok {recT : Str → Int → List Tell} {recR : Str → Int → Run} {m : Int} : ∀ (ts : List Track) (lasts : Option Int), (∀ t ∈ ts, RunOk (trackRun recR t m) (toldOn recT t) m) → (∀ L, lasts = some L → 0 < L) →
    (∀ L, (tabRun recR m ts lasts).2 = some L → 0 < L) ∧ (∀ j, 0 ≤ j → (∀ L, (tabRun recR m ts lasts).2 = some L → j < L) → (∀ L, lasts = some L → j < L) ∧ evalP (tabRun recR m ts lasts).1 j = firstTold recT (m + j) ts) ∧ ∀ p ∈ (tabRun recR m ts lasts).1, PartOk p
  | [], lasts, _, h0 => ⟨h0, fun j _ hj => ⟨hj, rfl⟩, (fun p hp => nomatch hp)⟩
  | t :: r, lasts, h, h0 => by
    have R := h t List.mem_cons_self
    have sp := sooner_pos h0 R.pos
    cases e : (trackRun recR t m).1 with
    | nil =>
      have eq : tabRun recR m (t :: r) lasts = tabRun recR m r (sooner lasts (trackRun recR t m).2) := by
        show (match (trackRun recR t m).1 with
          | [] => _
          | p :: ps => _) = _
        rw [e]
      rw [eq]
      obtain ⟨i1, i2, i3⟩ := tabRun_ok r (sooner lasts (trackRun recR t m).2) (fun y hy => h y (List.mem_cons_of_mem _ hy)) sp
      refine ⟨i1, fun j j0 hj => ?_, i3⟩
      obtain ⟨k1, k2⟩ := i2 j j0 hj
      obtain ⟨k3, k4⟩ := sooner_lt k1
      have z := R.tells j j0 k4
      rw [e] at z
      have z : [] = toldOn recT t (m + j) := z
      refine ⟨k3, ?_⟩
      rw [k2]
      show _ = (match toldOn recT t (m + j) with
        | [] => firstTold recT (m + j) r
        | d :: ds => d :: ds)
      rw [← z]
    | cons p ps =>
      have eq : tabRun recR m (t :: r) lasts = (p :: ps, sooner lasts (trackRun recR t m).2) := by
        show (match (trackRun recR t m).1 with
          | [] => _
          | p :: ps => _) = _
        rw [e]
      rw [eq]
      refine ⟨sp, fun j j0 hj => ?_, fun q hq => R.parts q (by rw [e]; exact hq)⟩
      obtain ⟨k3, k4⟩ := sooner_lt hj
      have z := R.tells j j0 k4
      rw [e] at z
      refine ⟨k3, ?_⟩
      show _ = (match toldOn recT t (m + j) with
        | [] => firstTold recT (m + j) r
        | d :: ds => d :: ds)
      rw [← z]
      rfl
theorem tableRun_ok {tabs : Str → List Track} : ∀ (n : Nat) (nm : Str) (m : Int), GoodTab tabs n nm → 0 ≤ m → RunOk (tableRun tabs n nm m) (toldAt tabs n nm) m
  | 0, _, _, h, _ => h.elim
  | n + 1, nm, m, h, h0 => by
    obtain ⟨i1, i2, i3⟩ := tabRun_ok (recT := toldAt tabs n) (recR := tableRun tabs n) (m := m) (tabs nm) none (fun t ht => trackRun_ok (fun x y gx hy => tableRun_ok n x y gx hy) (h.2.2 t ht) h0) (fun _ q => nomatch q)
    exact ⟨i1, fun j j0 hj => (i2 j j0 hj).2, i3⟩
/-- behind its end a track tells nothing -/
theorem told_end {rec : Str → Int → List Tell} {t : Track} {x : Int} (wf : wfG none t) (h0 : 0 ≤ x) (h : lenOf t ≤ x) : toldOn rec t x = [] := by
  have e2 : itemAt t x = none := (itemAtG_none t 0 0 x (wf_ok t _ wf) h0).mpr (by omega)
  rw [told_plain (no_span wf h0 fun p far c z => by rw [e2] at z; cases z)]
  unfold plainTell
  rw [e2]
theorem first_end {rec : Str → Int → List Tell} {x : Int} : ∀ ts : List Track, (∀ t ∈ ts, toldOn rec t x = []) → firstTold rec x ts = []
  | [], _ => rfl
  | t :: r, h => by
    show (match toldOn rec t x with
      | [] => firstTold rec x r
      | d :: ds => d :: ds) = []
    rw [h t List.mem_cons_self]
    exact first_end r fun y hy => h y (List.mem_cons_of_mem _ hy)
/-! ### pieces -/
def lenP (ps : List Piece) : Int := (ps.map Prod.fst).sum
theorem lenP_cons (p : Piece) (r : List Piece) : lenP (p :: r) = p.1 + lenP r := by
  unfold lenP
  rw [List.map_cons, List.sum_cons]
theorem lenP_app (a b : List Piece) : lenP (a ++ b) = lenP a + lenP b := by
  unfold lenP
  rw [List.map_append, List.sum_append]
theorem lenP_nonneg : ∀ {ps : List Piece}, (∀ p ∈ ps, 0 < p.1) → (ps.length : Int) ≤ lenP ps
  | [], _ => Int.le_refl _
  | p :: r, h => by
    have h1 := h p List.mem_cons_self
    have h2 := lenP_nonneg (ps := r) fun z hz => h z (List.mem_cons_of_mem _ hz)
    rw [lenP_cons, List.length_cons]
    omega
theorem flat_app : ∀ (ps : List Piece) (q : List Piece) (x : Int), (∀ p ∈ ps, 0 < p.1) → 0 ≤ x → toldFlat (ps ++ q) x = if x < lenP ps then toldFlat ps x else toldFlat q (x - lenP ps)
  | [], q, x, _, h0 => by
    show toldFlat q x = if x < 0 then [] else toldFlat q (x - 0)
    rw [if_neg (by omega), Int.sub_zero]
  | p :: r, q, x, h, h0 => by
    have hr : ∀ z ∈ r, 0 < z.1 := fun z hz => h z (List.mem_cons_of_mem _ hz)
    have h1 := lenP_nonneg hr
    show (if x < p.1 then evalP p.2 x else toldFlat (r ++ q) (x - p.1)) = if x < lenP (p :: r) then (if x < p.1 then evalP p.2 x else toldFlat r (x - p.1)) else toldFlat q (x - lenP (p :: r))
    rw [lenP_cons]
    by_cases c : x < p.1
    · rw [if_pos c, if_pos (by omega), if_pos c]
    · rw [if_neg c, flat_app r q (x - p.1) hr (by omega), if_neg c]
      by_cases c2 : x < p.1 + lenP r
      · rw [if_pos c2, if_pos (by omega)]
      · rw [if_neg c2, if_neg (by omega)]
        congr 1
        omega
/-- pieces up to a moment e tell what f tells -/
structure Laid (f : Int → List Tell) (ps : List Piece) (e : Int) : Prop where
  pos : ∀ p ∈ ps, 0 < p.1
  len : lenP ps = e
  tells : ∀ x, 0 ≤ x → x < e → toldFlat ps x = f x
  parts : ∀ p ∈ ps, ∀ q ∈ p.2, PartOk q
theorem Laid.nil (f : Int → List Tell) : Laid f [] 0 := ⟨(fun p hp => nomatch hp), rfl, (fun x h0 h1 => absurd h1 (by omega)), (fun p hp => nomatch hp)⟩
theorem Laid.snoc {f : Int → List Tell} {ps : List Piece} {e L : Int} {r : Run} (h : Laid f ps e) (R : RunOk r f e) (h0 : 0 < L) (hl : ∀ M, r.2 = some M → L ≤ M) : Laid f (ps ++ [(L, r.1)]) (e + L) := by
  have hp := h.pos
  have hlen := h.len
  refine ⟨fun p hm => ?_, ?_, fun x x0 x1 => ?_, fun p hm => ?_⟩
  · rcases List.mem_append.mp hm with z | z
    · exact hp p z
    · rw [List.mem_singleton.mp z]
      exact h0
  · rw [lenP_app, hlen, lenP_cons]
    show e + (L + 0) = _
    omega
  · rw [flat_app ps _ x hp x0, hlen]
    by_cases c : x < e
    · rw [if_pos c]
      exact h.tells x x0 c
    · rw [if_neg c]
      show (if x - e < L then evalP r.1 (x - e) else []) = f x
      rw [if_pos (by omega), R.tells (x - e) (by omega) (fun M hM => by have := hl M hM; omega)]
      congr 1
      omega
  · rcases List.mem_append.mp hm with z | z
    · exact h.parts p z
    · rw [List.mem_singleton.mp z]
      exact R.parts
theorem flat_end : ∀ (ps : List Piece) (x : Int), (∀ p ∈ ps, 0 < p.1) → lenP ps ≤ x → toldFlat ps x = []
  | [], x, _, _ => rfl
  | p :: r, x, h, hx => by
    have hr : ∀ z ∈ r, 0 < z.1 := fun z hz => h z (List.mem_cons_of_mem _ hz)
    have h1 := lenP_nonneg hr
    rw [lenP_cons] at hx
    show (if x < p.1 then evalP p.2 x else toldFlat r (x - p.1)) = []
    rw [if_neg (by omega)]
    exact flat_end r (x - p.1) hr (by omega)
/-- THE LAW of pieces: laid to the longest track's end, they tell what the table tells at every moment -/
theorem laid_all {tabs : Str → List Track} {n : Nat} {nm : Str} {ps : List Piece} {e x : Int} (h : GoodTab tabs (n + 1) nm) (L : Laid (toldAt tabs (n + 1) nm) ps e) (he : ∀ t ∈ tabs nm, lenOf t ≤ e) (x0 : 0 ≤ x) : toldFlat ps x = toldAt tabs (n + 1) nm x := by
  by_cases c : x < e
  · exact L.tells x x0 c
  · rw [flat_end ps x L.pos (by rw [L.len]; omega)]
    exact (first_end (tabs nm) fun t ht => told_end (h.2.2 t ht).wf x0 (by have := he t ht; omega)).symm
/-! ### the reels that are told -/
theorem told_reel {g : Str → Prop} {rec : Str → Int → List Tell} (hrec : ∀ nm x, g nm → 0 ≤ x → ∀ d ∈ rec nm x, ReelOk d.1) {t : Track} {m : Int} (ok : TrackOk g t) (h0 : 0 ≤ m) : ∀ d ∈ toldOn rec t m, ReelOk d.1 := by
  unfold toldOn
  cases e : (spans t).find? (inSpan m) with
  | some s =>
    obtain ⟨A, B, em, okA, okB⟩ := mixOf_some ok.wf (List.mem_of_find?_eq_some e)
    intro d hd
    have hd : d ∈ (match mixOf t s.2.1 with
      | some (A, B) => mixTell A B s m
      | none => []) := hd
    rw [em] at hd
    rcases List.mem_cons.mp hd with z | hd
    · rw [z]
      exact okA.reel
    · rw [List.mem_singleton.mp hd]
      exact okB.reel
  | none =>
    intro d hd
    have hd : d ∈ plainTell rec t m := hd
    unfold plainTell at hd
    cases e2 : itemAt t m with
    | none =>
      rw [e2] at hd
      cases hd
    | some v =>
      obtain ⟨p, far, it⟩ := v
      rw [e2] at hd
      obtain ⟨ep, nmx, f0, f1, io, hm⟩ := wf_at ok.wf e2
      cases it with
      | gap n => cases hd
      | mix n => cases hd
      | nest nm st n =>
        have io : 0 ≤ st ∧ 0 < n ∧ n ≤ 12 := io
        exact hrec nm (st + far) (ok.nest nm st n hm) (by omega) d hd
      | clip c =>
        have io : ClipOk c := io
        rw [List.mem_singleton.mp hd]
        exact io.reel
theorem first_reel {rec : Str → Int → List Tell} {m : Int} : ∀ ts : List Track, (∀ t ∈ ts, ∀ d ∈ toldOn rec t m, ReelOk d.1) → ∀ d ∈ firstTold rec m ts, ReelOk d.1
  | [], _, d, hd => by cases hd
  | t :: r, h, d, hd => by
    have hd : d ∈ (match toldOn rec t m with
      | [] => firstTold rec m r
      | d :: ds => d :: ds) := hd
    cases e : toldOn rec t m with
    | nil =>
      rw [e] at hd
      exact first_reel r (fun y hy => h y (List.mem_cons_of_mem _ hy)) d hd
    | cons z zs =>
      rw [e] at hd
      exact h t List.mem_cons_self d (by rw [e]; exact hd)
theorem toldAt_reel {tabs : Str → List Track} : ∀ (n : Nat) (nm : Str) (m : Int), GoodTab tabs n nm → 0 ≤ m → ∀ d ∈ toldAt tabs n nm m, ReelOk d.1
  | 0, _, _, h, _ => h.elim
  | n + 1, nm, m, h, h0 => first_reel (tabs nm) fun t ht => told_reel (fun x y gx hy => toldAt_reel n x y gx hy) (h.2.2 t ht) h0
end Rc

set_option maxHeartbeats 4000000
namespace Rc
open PySem PySem.Spec PyProof.Rows L2
/-! ### the room -/
def RoomAt (K : PySem.W.Frag) (tabs : Str → List Track) (H : Hp) (v : V) : Prop := ∃ (p td : Addr) (rv : V) (kvs : List (Key × V)), v = .ref p ∧ SqT K H p [rv, .ref td] ∧ H td = some (.dK kvs) ∧
  ∀ n nm, GoodTab tabs n nm → ∃ (tb : Addr) (tl tv : V), valV kvs (Sum.inr nm) = some (.ref tb) ∧ SqT K H tb [tl, tv] ∧ Dp K H tl (.list ((tabs nm).map encT))
theorem RoomAt.same {K : PySem.W.Frag} {tabs : Str → List Track} {H H' : Hp} {v : V} (h : RoomAt K tabs H v) (s : Same H H') : RoomAt K tabs H' v := by
  obtain ⟨p, td, rv, kvs, e, hp, hd, k⟩ := h
  refine ⟨p, td, rv, kvs, e, s.tup hp, s _ _ hd, fun n nm g => ?_⟩
  obtain ⟨tb, tl, tv, e1, e2, e3⟩ := k n nm g
  exact ⟨tb, tl, tv, e1, s.tup e2, s.dp e3⟩
theorem mixOf_at {t : Track} {b : Int} {A B : Clip} (wf : wfG none t) (h : mixOf t b = some (A, B)) : ∃ p far, itemAt t b = some (p, far, .clip B) ∧ 2 ≤ p ∧ t[p - 2]? = some (.clip A) ∧ t[p]? = some (.clip B) := by
  unfold mixOf at h
  cases e : itemAt t b with
  | none =>
    rw [e] at h
    cases h
  | some v =>
    obtain ⟨p, far, it⟩ := v
    rw [e] at h
    have w := (wf_at wf e).1
    cases it with
    | gap n => cases h
    | mix n => cases h
    | nest a s n => cases h
    | clip c =>
      have h : (if 2 ≤ p then (match t[p - 2]? with
        | some (.clip A) => some (A, c)
        | _ => none) else none) = some (A, B) := h
      by_cases q : 2 ≤ p
      · rw [if_pos q] at h
        cases e2 : t[p - 2]? with
        | none =>
          rw [e2] at h
          cases h
        | some u =>
          rw [e2] at h
          cases u with
          | gap n => cases h
          | mix n => cases h
          | nest a s n => cases h
          | clip c2 =>
            have h : some (c2, c) = some (A, B) := h
            cases h
            exact ⟨p, far, rfl, q, e2, w⟩
      · rw [if_neg q] at h
        cases h
section
variable {P : Program} {w : World} {K : PySem.W.Frag} {mg : Str → Option Value} {base : Heap}
/-! ### told_mix -/
def spToldMix (K : PySem.W.Frag) : Sp := fun vs H Q _ => ∃ (x y : V) (t : Track) (s : Span) (m : Int) (A B : Clip), vs = [x, y, .int m] ∧ Dp K H x (encT t) ∧ Dp K H y (encS s) ∧ wfG none t ∧ mixOf t s.2.1 = some (A, B) ∧ ClipOk A ∧ ClipOk B ∧ 0 ≤ s.2.2 - s.1 ∧ s.2.2 - s.1 < 1000 ∧
  ∀ r H', Same H H' → Dp K H' r (encTells (mixTell A B s m)) → Q r H'
theorem sc_told_mix : FnScope ["track", "span", "moment", "first", "border", "last", "place", "far", "ahead", "behind", "out_share", "in_share"] ["track", "span", "moment"] (defScope s_told_mix) := ⟨rfl, rfl, rfl, by decide +kernel, rfl, by decide +kernel, by decide +kernel⟩
theorem ok_told_mix (T : Txt K mg) : Keeps P w base 6 T.told_mix (spToldMix K) := by
  refine T.told_mix.ok sc_told_mix (fun vs H Q E h => ?_) (fun cdv A outer s H vs Q E hr h => ?_)
  · obtain ⟨x, y, t, sp, m, cA, cB, rfl, _⟩ := h
    rfl
  obtain ⟨x, y, t, sp, m, cA, cB, rfl, hx, hy, wf, em, okA, okB, l0, l1, k⟩ := h
  obtain ⟨p, far, e1, p2, eA, eB⟩ := mixOf_at wf em
  obtain ⟨ys, rfl, hys⟩ := dp_span hy
  obtain ⟨a, vs, rfl, ha, hd, hl⟩ := dpt hx
  obtain ⟨xA, exA, dA⟩ := dpm_get hd eA
  obtain ⟨xB, exB, dB⟩ := dpm_get hd eB
  refine ⟨_, pss_cons (ps_asg (pv 1) (pg_tup rfl (pgs_cons (pg_name (i := 3) sc_told_mix.nd rfl (Or.inl rfl)) (pgs_cons (pg_name (i := 4) sc_told_mix.nd rfl (Or.inl rfl)) (pgs_cons (pg_name (i := 5) sc_told_mix.nd rfl (Or.inl rfl)) pgs_nil)))))
    (pss_cons (ps_asg (cl T.item_at (ok_item_at T) hr (by decide) (by rfl) (pa_cons (pv 0) (pa_cons (pv 4) pa_nil))) (pg_tup rfl (pgs_cons (pg_name (i := 6) sc_told_mix.nd rfl (Or.inl rfl)) (pgs_cons (pg_name (i := 7) sc_told_mix.nd rfl (Or.inl rfl)) pgs_nil))))
    (pss_cons (ps_set (i := 8) sc_told_mix.nd rfl (Or.inl rfl) (pe_ix ix_list (pv 0) (pe_op op_sub (pv 6) pe_int) (fun _ _ => rfl)))
    (pss_cons (ps_set (i := 9) sc_told_mix.nd rfl (Or.inl rfl) (pe_ix ix_list (pv 0) (pv 6) (fun _ _ => rfl)))
    (pss_cons (ps_asg (cl T.mix_shares (ok_mix_shares T) hr (by decide) (by rfl) (pa_cons (pe_op op_sub (pv 5) (pv 3)) (pa_cons (pe_op op_sub (pv 2) (pv 3)) pa_nil))) (pg_tup rfl (pgs_cons (pg_name (i := 10) sc_told_mix.nd rfl (Or.inl rfl)) (pgs_cons (pg_name (i := 11) sc_told_mix.nd rfl (Or.inl rfl)) pgs_nil))))
    (pss_one (ps_ret (pe_lst (pa_cons (pe_tup (pa_cons (pe_ix ix_tup (pv 8) pe_int (fun _ _ => rfl)) (pa_cons (cl T.picture_at (ok_picture_at T) hr (by decide) (by rfl) (pa_cons (pv 8) (pa_cons (pe_op op_sub (pe_op op_add (pe_ix ix_tup (pv 8) (pe_un un_neg pe_int) (fun _ _ => rfl)) (pv 2)) (pv 4)) pa_nil))) (pa_cons (pv 10) pa_nil))))
      (pa_cons (pe_tup (pa_cons (pe_ix ix_tup (pv 9) pe_int (fun _ _ => rfl)) (pa_cons (cl T.picture_at (ok_picture_at T) hr (by decide) (by rfl) (pa_cons (pv 9) (pa_cons (pe_op op_sub (pv 2) (pv 4)) pa_nil))) (pa_cons (pv 11) pa_nil)))) pa_nil))))))))), ?_⟩
  refine ⟨_, rfl, ys, _, rfl, hys, rfl, _, _, rfl, _, _, rfl, _, _, rfl, rfl, ?_⟩
  refine ⟨_, rfl, _, rfl, _, t, sp.2.1, rfl, hx, ?_⟩
  rw [e1]
  intro pa H1 g1 epa
  refine ⟨pa, _, rfl, .of epa, rfl, _, _, rfl, _, _, rfl, rfl, ?_⟩
  refine ⟨_, rfl, _, rfl, _, _, rfl, rfl, a, _, _, _, rfl, rfl, g1.seq ha, at_of (j := p - 2) (by omega) exA, ?_⟩
  refine ⟨_, rfl, _, rfl, a, _, _, _, rfl, rfl, g1.seq ha, atI_nat exB, ?_⟩
  refine ⟨_, rfl, _, rfl, _, _, rfl, rfl, _, rfl, _, rfl, _, _, rfl, rfl, _, _, rfl, l0, l1, fun ra sx sy H2 g2 hra d1 d2 => ?_⟩
  refine ⟨ra, _, rfl, hra, rfl, _, _, rfl, _, _, rfl, rfl, ?_⟩
  have dA2 := g2.dp (g1.dp dA)
  have dB2 := g2.dp (g1.dp dB)
  obtain ⟨aA, uA, vA, rfl, hA, _, _⟩ := dp_clip dA2
  obtain ⟨aB, uB, vB, rfl, hB, _, _⟩ := dp_clip dB2
  refine ⟨_, rfl, aA, _, _, _, rfl, rfl, hA, rfl, ?_⟩
  refine ⟨_, rfl, _, rfl, _, rfl, aA, _, _, _, rfl, rfl, hA, rfl, _, rfl, _, _, rfl, rfl, _, rfl, _, _, rfl, rfl, _, cA, _, rfl, dA2, okA, fun H3 g3 => ?_⟩
  refine ⟨_, rfl, by show 3 ≤ sizeLine; decide, fun q1 n1 => ?_⟩
  have g4 := same_new n1 (.tup [.str cA.reel, .int (floorF (placeAt cA.start cA.step (cA.len + m - sp.2.1))), sx])
  refine ⟨_, rfl, aB, _, _, _, rfl, rfl, g4.tup (g3.tup hB), rfl, ?_⟩
  refine ⟨_, rfl, _, rfl, _, rfl, _, _, rfl, rfl, _, cB, _, rfl, g4.dp (g3.dp dB2), okB, fun H5 g5 => ?_⟩
  refine ⟨_, rfl, by show 3 ≤ sizeLine; decide, fun q2 n2 => ?_⟩
  have g6 := same_new n2 (.tup [.str cB.reel, .int (floorF (placeAt cB.start cB.step (m - sp.2.1))), sy])
  refine ⟨by show 2 ≤ sizeLine; decide, fun q3 n3 => ?_⟩
  have g7 := same_new n3 (.lst [.ref q1, .ref q2])
  refine k _ _ (g1.trans (g2.trans (g3.trans (g4.trans (g5.trans (g6.trans g7)))))) (.lst (.of upd_same) ?_)
  refine .cons (.tup (g7.tup (g6.tup (g5.tup (.of upd_same)))) ?_) (.cons (.tup (g7.tup (.of upd_same)) ?_) .nil)
  · exact .cons (.str _) (.cons (.int _) (.cons (g7.dp (g6.dp (g5.dp (g4.dp (g3.dp d1))))) .nil))
  · exact .cons (.str _) (.cons (.int _) (.cons (g7.dp (g6.dp (g5.dp (g4.dp (g3.dp d2))))) .nil))
/-! ### told_on, told_at -/
variable {tabs : Str → List Track}
def spToldAt (K : PySem.W.Frag) (tabs : Str → List Track) (n : Nat) : Sp := fun vs H Q _ => ∃ (z : V) (nm : Str) (m : Int), vs = [z, .str nm, .int m] ∧ RoomAt K tabs H z ∧ GoodTab tabs n nm ∧ 0 ≤ m ∧ ∀ r H', Same H H' → Dp K H' r (encTells (toldAt tabs n nm m)) → Q r H'
def spToldOn (K : PySem.W.Frag) (tabs : Str → List Track) (n : Nat) : Sp := fun vs H Q _ => ∃ (x z : V) (t : Track) (m : Int), vs = [x, .int m, z] ∧ Dp K H x (encT t) ∧ RoomAt K tabs H z ∧ TrackOk (GoodTab tabs n) t ∧ 0 ≤ m ∧
  ∀ r H', Same H H' → Dp K H' r (encTells (toldOn (toldAt tabs n) t m)) → Q r H'
theorem sc_told_on : FnScope ["track", "moment", "room", "span", "found", "item"] ["track", "moment", "room"] (defScope s_told_on) := ⟨rfl, rfl, rfl, by decide +kernel, rfl, by decide +kernel, by decide +kernel⟩
theorem told_found {rec : Str → Int → List Tell} {t : Track} {m : Int} {s : Span} {A B : Clip} (e : (spans t).find? (inSpan m) = some s) (em : mixOf t s.2.1 = some (A, B)) : toldOn rec t m = mixTell A B s m := by
  unfold toldOn
  rw [e]
  show (match mixOf t s.2.1 with
    | some (A, B) => mixTell A B s m
    | none => []) = _
  rw [em]
theorem ok_told_on {n : Nat} (T : Txt K mg) (G : Keeps P w base (2 * n + 6) T.told_at (spToldAt K tabs n)) : Keeps P w base (2 * n + 7) T.told_on (spToldOn K tabs n) := by
  refine T.told_on.ok sc_told_on (fun vs H Q E h => ?_) (fun cdv A outer s H vs Q E hr h => ?_)
  · obtain ⟨x, z, t, m, rfl, _⟩ := h
    rfl
  obtain ⟨x, z, t, m, rfl, hx, hz, ok, m0, k⟩ := h
  obtain ⟨a, vs, rfl, ha, hd, hl⟩ := dpt hx
  refine ⟨_, pss_cons (ps_for PassesOwn.never rfl (pi_list (cl T.mix_spans (ok_mix_spans T) hr (by omega) (by rfl) (pa_cons (pv 0) pa_nil))) (pg_name (i := 3) sc_told_on.nd rfl (Or.inl rfl))
      (pss_one (ps_if (PW.pt (pw_and (pt_cmpR op_le (pe_ix ix_tup (pv 3) pe_int (fun _ _ => rfl)) (pv 1) (nomark _)) (pw_and1 (pt_cmpR op_lt (pv 1) (pe_ix ix_tup (pv 3) pe_int (fun _ _ => rfl)) (nomark _)))))
        (pss_one (ps_ret (cl T.told_mix (ok_told_mix T) hr (by omega) (by rfl) (pa_cons (pv 0) (pa_cons (pv 3) (pa_cons (pv 1) pa_nil)))))) pss_nil)))
    (pss_cons (ps_set (i := 4) sc_told_on.nd rfl (Or.inl rfl) (cl T.item_at (ok_item_at T) hr (by omega) (by rfl) (pa_cons (pv 0) (pa_cons (pv 1) pa_nil))))
    (pss_cons (ps_if (PW.pt (pw_or (pt_cmpR op_isN (pv 4) pe_non (nomark _)) (pw_or1 (pt_cmpR op_eq (pe_ix ix_tup (pe_ix ix_list (pv 0) (pe_ix ix_tup (pv 4) pe_int (fun _ _ => rfl)) (fun _ _ => rfl)) pe_int (fun _ _ => rfl)) pe_str (nomark _)))))
        (pss_one (ps_ret (pe_lst pa_nil))) pss_nil)
    (pss_cons (ps_set (i := 5) sc_told_on.nd rfl (Or.inl rfl) (pe_ix ix_list (pv 0) (pe_ix ix_tup (pv 4) pe_int (fun _ _ => rfl)) (fun _ _ => rfl)))
    (pss_cons (ps_if (pt_cmpR op_eq (pe_ix ix_tup (pv 5) pe_int (fun _ _ => rfl)) pe_str (nomark _))
        (pss_one (ps_ret (cl T.told_at G hr (by omega) (by rfl) (pa_cons (pv 2) (pa_cons (pe_ix ix_tup (pv 5) pe_int (fun _ _ => rfl)) (pa_cons (pe_op op_add (pe_ix ix_tup (pv 5) pe_int (fun _ _ => rfl)) (pe_ix ix_tup (pv 4) pe_int (fun _ _ => rfl))) pa_nil)))))) pss_nil)
    (pss_one (ps_ret (pe_lst (pa_cons (pe_tup (pa_cons (pe_ix ix_tup (pv 5) pe_int (fun _ _ => rfl)) (pa_cons (cl T.picture_at (ok_picture_at T) hr (by omega) (by rfl) (pa_cons (pv 5) (pa_cons (pe_ix ix_tup (pv 4) pe_int (fun _ _ => rfl)) pa_nil)))
      (pa_cons (pe_glob (v := .ref T.wholeA) (by rfl) T.whole rfl) pa_nil)))) pa_nil)))))))), ?_⟩
  refine ⟨_, rfl, _, t, rfl, hx, by have := ok.len; omega, fun r H1 g1 d1 => ?_⟩
  obtain ⟨f, ws, rfl, hf, hws⟩ := dp_lst d1
  have hwl : ws.length = (spans t).length := (dpa_len hws).trans (List.length_map _)
  refine ⟨f, rfl, ⟨_, hf⟩, for_list (K := K) (a := f) (xs := ws) (fun i σ H' => ∃ y3, σ = [some (.ref a), some (.int m), some z, y3, none, none] ∧ Same H1 H' ∧ ∀ s ∈ (spans t).take i, inSpan m s = false)
    ⟨none, rfl, Same.refl H1, (fun s hs => nomatch hs)⟩ (fun i σ H' _ ⟨_, _, sm, _⟩ => sm.seq hf) ?_ ?_⟩
  · rintro i x σ H2 ex ⟨y3, rfl, sm, hno⟩
    obtain ⟨sp, esp, dsp⟩ := dpm_at (sm.dpAll hws) ex
    obtain ⟨ys, rfl, hys⟩ := dp_span dsp
    have nxt : inSpan m sp = false → ∀ s ∈ (spans t).take (i + 1), inSpan m s = false := fun q s hs => by
      rw [List.take_add_one, esp] at hs
      rcases List.mem_append.mp hs with z | z
      · exact hno s z
      · rw [List.mem_singleton.mp z]
        exact q
    refine ⟨_, rfl, ys, _, _, _, rfl, rfl, hys, rfl, _, rfl, _, _, rfl, rfl, _, rfl, if_d (fun c => ?_) (fun c => ?_)⟩
    · refine ⟨_, rfl, _, rfl, ys, _, _, _, rfl, rfl, hys, rfl, _, _, rfl, rfl, _, rfl, if_d (fun c2 => ?_) (fun c2 => ?_)⟩
      · have hin := inSpan_iff.mpr ⟨c, c2⟩
        have hmem := List.mem_of_getElem? esp
        have efind : (spans t).find? (inSpan m) = some sp := by
          have e : spans t = (spans t).take i ++ sp :: (spans t).drop (i + 1) := by
            rw [← drop_at esp, List.take_append_drop]
          rw [e]
          exact find_app hno hin
        obtain ⟨cA, cB, em, okA, okB⟩ := mixOf_some ok.wf hmem
        obtain ⟨i1, i2, i3, i4, i5, i6⟩ := spans_in t none 0 ok.wf (Int.le_refl 0) sp hmem
        refine ⟨_, rfl, _, rfl, _, rfl, _, _, t, sp, m, cA, cB, rfl, sm.dp (g1.dp hx), dsp, ok.wf, em, okA, okB, by omega, by omega, fun r H3 g3 d3 => ?_⟩
        refine k r H3 (g1.trans (sm.trans g3)) ?_
        rw [told_found efind em]
        exact d3
      · exact ⟨some (.ref ys), rfl, sm, nxt (inSpan_false (by omega))⟩
    · exact ⟨some (.ref ys), rfl, sm, nxt (inSpan_false (by omega))⟩
  · rintro σ H2 ⟨y3, rfl, sm, hno⟩
    rw [hwl, List.take_length] at hno
    have gg := g1.trans sm
    have ep : toldOn (toldAt tabs n) t m = plainTell (toldAt tabs n) t m := told_plain hno
    rw [ep] at k
    refine ⟨_, rfl, _, rfl, _, t, m, rfl, gg.dp hx, ?_⟩
    unfold plainTell at k
    cases e : itemAt t m with
    | none =>
      rw [e] at k
      intro H3 g3
      refine ⟨_, rfl, rfl, _, rfl, if_d (fun _ => ?_) (fun c => absurd rfl c)⟩
      exact ⟨Nat.zero_le _, fun q nq => k _ _ (gg.trans (g3.trans (same_new nq _))) (.lst (.of upd_same) .nil)⟩
    | some v =>
      obtain ⟨p, far, it⟩ := v
      rw [e] at k
      intro fa H3 g3 efa
      obtain ⟨ep, nmx, f0, f1, io, hm⟩ := wf_at ok.wf e
      have hH := gg.trans g3
      obtain ⟨xi, exi, dxi⟩ := dpm_get (hH.dpAll hd) ep
      obtain ⟨b, us, rfl, hb, h0, h1, _⟩ := dp_item dxi
      refine ⟨_, rfl, rfl, _, rfl, if_d (fun c => nomatch c) (fun _ => ?_)⟩
      refine ⟨_, rfl, _, rfl, fa, _, _, _, rfl, rfl, .of efa, rfl, a, _, _, _, rfl, rfl, hH.seq ha, atI_nat exi, b, _, _, _, rfl, rfl, hb, h0, rfl, _, rfl, if_seq (fun c => ?_) (fun c => ?_)⟩
      · cases it with
        | gap l => exact ⟨Nat.zero_le _, fun q nq => k _ _ (hH.trans (same_new nq _)) (.lst (.of upd_same) .nil)⟩
        | mix l => cases nmx
        | clip c2 => exact absurd c (by show ¬ (("clip" : Str) = "gap"); decide +kernel)
        | nest a s l => exact absurd c (by show ¬ (("nest" : Str) = "gap"); decide +kernel)
      · refine ⟨_, rfl, _, rfl, fa, _, _, _, rfl, rfl, .of efa, rfl, a, _, _, _, rfl, rfl, hH.seq ha, atI_nat exi, ?_⟩
        refine ⟨_, rfl, b, _, _, _, rfl, rfl, hb, h0, rfl, _, rfl, if_seq (fun c2 => ?_) (fun c2 => ?_)⟩
        · cases it with
          | gap l => exact absurd rfl c
          | mix l => cases nmx
          | clip c3 => exact absurd c2 (by show ¬ (("clip" : Str) = "nest"); decide +kernel)
          | nest nm st l =>
            have io : 0 ≤ st ∧ 0 < l ∧ l ≤ 12 := io
            obtain ⟨b', eb, hb⟩ := dp_nest dxi
            cases eb
            refine ⟨_, rfl, _, rfl, b, _, _, _, rfl, rfl, hb, rfl, _, rfl, b, _, _, _, rfl, rfl, hb, rfl, _, rfl, fa, _, _, _, rfl, rfl, .of efa, rfl, _, _, rfl, rfl, ?_⟩
            exact ⟨_, nm, _, rfl, hz.same hH, ok.nest nm st l hm, by omega, fun r H4 g4 d4 => k r H4 (hH.trans g4) d4⟩
        · cases it with
          | gap l => exact absurd rfl c
          | mix l => cases nmx
          | nest nm st l => exact absurd rfl c2
          | clip c3 =>
            have io : ClipOk c3 := io
            obtain ⟨b', u, v, eb, hb, hu, hv⟩ := dp_clip dxi
            cases eb
            refine ⟨_, rfl, b, _, _, _, rfl, rfl, hb, rfl, _, rfl, _, rfl, fa, _, _, _, rfl, rfl, .of efa, rfl, _, c3, _, rfl, dxi, io, fun H4 g4 => ?_⟩
            refine ⟨by show 3 ≤ sizeLine; decide, fun q1 n1 => ⟨by show 1 ≤ sizeLine; decide, fun q2 n2 => ?_⟩⟩
            have g5 := same_new n1 (.tup [.str c3.reel, .int (floorF (placeAt c3.start c3.step far)), .ref T.wholeA])
            have g6 := same_new n2 (.lst [.ref q1])
            refine k _ _ (hH.trans (g4.trans (g5.trans g6))) (.lst (.of upd_same) (.cons (.tup (g6.tup (.of upd_same)) ?_) .nil))
            exact .cons (.str _) (.cons (.int _) (.cons (F_dp (p := (1, 1)) (T.wholeT _)) .nil))
end
end Rc

set_option maxHeartbeats 4000000
namespace Rc
open PySem PySem.Spec PyProof.Rows L2
/-! ### data that may be compared -/
theorem shaped_map {α : Type} {f : α → PyData} {k : Nat} (h : ∀ x, (f x).depth ≤ k) : ∀ l : List α, (∀ x ∈ l, (f x).canLay0 = true) → PyData.canLayAll0 (l.map f) = true ∧ PyData.depthAll (l.map f) ≤ k
  | [], _ => ⟨by simp [PyData.canLayAll0], by simp [PyData.depthAll]⟩
  | x :: r, hc => by
    obtain ⟨h1, h2⟩ := shaped_map h r fun y hy => hc y (List.mem_cons_of_mem _ hy)
    have h3 := hc x List.mem_cons_self
    have h4 := h x
    rw [List.map_cons]
    exact ⟨by rw [PyData.canLayAll0, h3, h1]; rfl, by rw [PyData.depthAll]; omega⟩
theorem reel_ok {r : Str} (h : ReelOk r) : PyData.canLay0 (.str r) = true := by
  rw [PyData.canLay0]
  rcases h with h | h
  · rw [h]; decide +kernel
  · rw [h]; decide +kernel
theorem lay_F (p : Fr) : (encF p).canLay0 = true := by simp [encF, PyData.canLay0, PyData.canLayAll0]
theorem lay_Tell {d : Tell} (h : ReelOk d.1) : (encTell d).canLay0 = true := by
  have h1 := reel_ok h
  have h2 := lay_F d.2.2
  unfold encTell
  rw [PyData.canLay0, PyData.canLayAll0, h1, PyData.canLayAll0, PyData.canLay0, PyData.canLayAll0, h2, PyData.canLayAll0]
  rfl
theorem depth_Tell (d : Tell) : (encTell d).depth ≤ 2 := by simp [encTell, encF, PyData.depth, PyData.depthAll]
theorem shaped_tells {ds : List Tell} (h : ∀ d ∈ ds, ReelOk d.1) : SeqAt.shaped (encTells ds) = true := by
  obtain ⟨h1, h2⟩ := shaped_map depth_Tell ds fun d hd => lay_Tell (h d hd)
  unfold SeqAt.shaped
  rw [Bool.and_eq_true, decide_eq_true_eq]
  exact ⟨by unfold encTells; rw [PyData.canLay0]; exact h1, by unfold encTells; rw [PyData.depth]; omega⟩
theorem lay_P {p : Part} (h : PartOk p) : (encP p).canLay0 = true := by
  have h1 := reel_ok h.reel
  have h2 := lay_F p.start
  have h3 := lay_F p.step
  have h4 := lay_F p.share
  have h5 := lay_F p.shareStep
  unfold encP
  rw [PyData.canLay0, PyData.canLayAll0, h1, PyData.canLayAll0, h2, PyData.canLayAll0, h3, PyData.canLayAll0, h4, PyData.canLayAll0, h5, PyData.canLayAll0]
  rfl
theorem depth_P (p : Part) : (encP p).depth ≤ 2 := by simp [encP, encF, PyData.depth, PyData.depthAll]
theorem shaped_parts {ps : List Part} (h : ∀ p ∈ ps, PartOk p) : SeqAt.shaped (encPs ps) = true := by
  obtain ⟨h1, h2⟩ := shaped_map depth_P ps fun d hd => lay_P (h d hd)
  unfold SeqAt.shaped
  rw [Bool.and_eq_true, decide_eq_true_eq]
  exact ⟨by unfold encPs; rw [PyData.canLay0]; exact h1, by unfold encPs; rw [PyData.depth]; omega⟩
theorem eqv_tells (d : Tell) (ds : List Tell) : PyData.eqv (encTells (d :: ds)) (.list []) = false := by
  unfold encTells
  rw [List.map_cons, PyData.eqv, PyData.eqvAll]
theorem eqv_parts (p : Part) (ps : List Part) : PyData.eqv (encPs (p :: ps)) (.tuple []) = false := by
  unfold encPs
  rw [List.map_cons, PyData.eqv, PyData.eqvAll]
theorem eqv_ll : PyData.eqv (.list []) (.list []) = true := by rw [PyData.eqv, PyData.eqvAll]
theorem eqv_tt : PyData.eqv (.tuple []) (.tuple []) = true := by rw [PyData.eqv, PyData.eqvAll]
theorem shaped_l : SeqAt.shaped (.list []) = true := by decide +kernel
theorem shaped_t : SeqAt.shaped (.tuple []) = true := by decide +kernel
theorem eqv_same {ds : List Tell} (h : ∀ d ∈ ds, ReelOk d.1) : PyData.eqv (encTells ds) (encTells ds) = true := by
  have := shaped_tells h
  exact SeqAt.eqv_refl _ (SeqAt.canLay_of_shaped this)
theorem first_cons {rec : Str → Int → List Tell} {m : Int} {t : Track} {r : List Track} : firstTold rec m (t :: r) = match toldOn rec t m with
  | [] => firstTold rec m r
  | d :: ds => d :: ds := rfl
section
variable {P : Program} {w : World} {K : PySem.W.Frag} {mg : Str → Option Value} {base : Heap} {tabs : Str → List Track}
theorem sc_told_at : FnScope ["room", "name", "moment", "track", "found"] ["room", "name", "moment"] (defScope s_told_at) := ⟨rfl, rfl, rfl, by decide +kernel, rfl, by decide +kernel, by decide +kernel⟩
theorem ok_told_at {n : Nat} (T : Txt K mg) (G : Keeps P w base (2 * n + 7) T.told_on (spToldOn K tabs n)) : Keeps P w base (2 * n + 8) T.told_at (spToldAt K tabs (n + 1)) := by
  refine T.told_at.ok sc_told_at (fun vs H Q E h => ?_) (fun cdv A outer s H vs Q E hr h => ?_)
  · obtain ⟨z, nm, m, rfl, _⟩ := h
    rfl
  obtain ⟨z, nm, m, rfl, hz, ok, m0, k⟩ := h
  obtain ⟨p, td, rv, kvs, rfl, hp, hd, hk⟩ := id hz
  obtain ⟨tb, tl, tv, e1, e2, e3⟩ := hk (n + 1) nm ok
  obtain ⟨la, vs, rfl, hl, hvs⟩ := dp_lst e3
  have hlen : vs.length = (tabs nm).length := (dpa_len hvs).trans (List.length_map _)
  have hget : DGet H td (.str nm) (some (.ref tb)) := by
    have g := DGet.k (k := Sum.inr nm) hd
    rw [e1] at g
    exact g
  refine ⟨_, pss_cons (ps_for PassesOwn.never rfl (pi_list (pe_ix ix_tup (pe_dget (hu_of hr) (pe_ix ix_tup (pv 0) pe_int (fun _ _ => rfl)) (pv 1) (fun _ _ => rfl)) pe_int (fun _ _ => rfl))) (pg_name (i := 3) sc_told_at.nd rfl (Or.inl rfl))
      (pss_cons (ps_set (i := 4) sc_told_at.nd rfl (Or.inl rfl) (cl T.told_on G hr (by omega) (by rfl) (pa_cons (pv 3) (pa_cons (pv 2) (pa_cons (pv 0) pa_nil)))))
        (pss_one (ps_if (pt_cmpR (op_neD hr.units) (pv 4) (pe_lst pa_nil) (nomark _)) (pss_one (ps_ret (pv 4))) pss_nil))))
    (pss_one (ps_ret (pe_lst pa_nil))), ?_⟩
  refine ⟨_, rfl, p, _, _, _, rfl, rfl, hp, rfl, _, rfl, td, _, rfl, hget, tb, _, _, _, rfl, rfl, e2, rfl, la, rfl, ⟨_, hl⟩, ?_⟩
  refine for_list (K := K) (a := la) (xs := vs) (fun i σ H' => ∃ y3 y4, σ = [some (.ref p), some (.str nm), some (.int m), y3, y4] ∧ Same H H' ∧ firstTold (toldAt tabs n) m ((tabs nm).drop i) = firstTold (toldAt tabs n) m (tabs nm))
    ⟨none, none, rfl, Same.refl H, rfl⟩ (fun i σ H' _ ⟨_, _, _, sm, _⟩ => sm.seq hl) ?_ ?_
  · rintro i x σ H1 ex ⟨y3, y4, rfl, sm, ei⟩
    obtain ⟨t, et, dt⟩ := dpm_at (sm.dpAll hvs) ex
    have okt := ok.2.2 t (List.mem_of_getElem? et)
    refine ⟨_, rfl, _, rfl, _, rfl, x, _, t, m, rfl, dt, hz.same sm, okt, m0, fun r H2 g2 d2 => ?_⟩
    have hree := told_reel (fun x y gx hy => toldAt_reel n x y gx hy) okt m0
    refine ⟨_, rfl, Nat.zero_le _, fun q nq => ?_⟩
    have g3 := same_new nq (.lst [])
    refine ⟨_, _, g3.dp d2, .lst (.of upd_same) .nil, shaped_tells hree, shaped_l, _, rfl, ?_⟩
    rw [drop_at et, first_cons] at ei
    cases e : toldOn (toldAt tabs n) t m with
    | nil =>
      rw [e] at ei
      have eq : PyData.eqv (encTells []) (.list []) = true := eqv_ll
      rw [eq]
      refine iteF ⟨_, _, rfl, sm.trans (g2.trans g3), ei⟩
    | cons d ds =>
      rw [e] at ei d2
      rw [eqv_tells]
      refine iteT ⟨_, rfl, k r _ (sm.trans (g2.trans g3)) ?_⟩
      show Dp K _ r (encTells (firstTold (toldAt tabs n) m (tabs nm)))
      rw [← ei]
      exact g3.dp d2
  · rintro σ H1 ⟨y3, y4, rfl, sm, ei⟩
    rw [hlen, List.drop_length] at ei
    refine ⟨Nat.zero_le _, fun q nq => k _ _ (sm.trans (same_new nq _)) ?_⟩
    show Dp K _ _ (encTells (firstTold (toldAt tabs n) m (tabs nm)))
    rw [← ei]
    exact .lst (.of upd_same) .nil
theorem none_at {D : Df K mg "told_at" s_told_at ["room", "name", "moment"]} : Keeps P w base 6 D (spToldAt K tabs 0) := by
  have no : ∀ vs H Q E, ¬ spToldAt K tabs 0 vs H Q E := fun vs H Q E h => by
    obtain ⟨z, nm, m, _, _, g, _⟩ := h
    exact g.elim
  exact ⟨fun vs H Q E h => absurd h (no vs H Q E), fun A outer s H args us vs Q E _ _ _ _ h => absurd h (no vs H Q E)⟩
theorem told_all (T : Txt K mg) : ∀ n : Nat, Keeps P w base (2 * n + 6) T.told_at (spToldAt K tabs n)
  | 0 => none_at
  | n + 1 => ok_told_at T (ok_told_on T (told_all T n))
end
end Rc

set_option maxHeartbeats 4000000
namespace Rc
open PySem PySem.Spec PyProof.Rows L2
def vO : Option Int → V
  | none => .non
  | some i => .int i
def encO : Option Int → PyData
  | none => .none
  | some i => .int i
def encRun (r : Run) : PyData := .tuple [encPs r.1, encO r.2]
theorem dp_O {K : PySem.W.Frag} {H : Hp} {v : V} {o : Option Int} (h : Dp K H v (encO o)) : v = vO o := by
  cases o with
  | none => cases h; rfl
  | some i => exact dp_int h
theorem O_dp {K : PySem.W.Frag} {H : Hp} {o : Option Int} : Dp K H (vO o) (encO o) := by
  cases o with
  | none => exact .non
  | some i => exact .int i
theorem dp_run {K : PySem.W.Frag} {H : Hp} {v : V} {r : Run} (h : Dp K H v (encRun r)) : ∃ a u, v = .ref a ∧ SqT K H a [u, vO r.2] ∧ Dp K H u (encPs r.1) := by
  obtain ⟨a, vs, rfl, hs, ha⟩ := dp_tup h
  obtain ⟨v1, vs, rfl, h1, ha⟩ := dpa_cons ha
  obtain ⟨v2, vs, rfl, h2, ha⟩ := dpa_cons ha
  obtain rfl := dpa_nil ha
  rw [dp_O h2] at hs
  exact ⟨a, v1, rfl, hs, h1⟩
theorem run_dp {K : PySem.W.Frag} {H : Hp} {a : Addr} {u : V} {r : Run} (h : SqT K H a [u, vO r.2]) (hu : Dp K H u (encPs r.1)) : Dp K H (.ref a) (encRun r) := .tup h (.cons hu (.cons O_dp .nil))
section
variable {P : Program} {w : World} {K : PySem.W.Frag} {mg : Str → Option Value} {base : Heap} {tabs : Str → List Track}
/-! ### sooner, clip_run, mix_run -/
def spSooner : Sp := fun vs H Q _ => ∃ a b : Option Int, vs = [vO a, vO b] ∧ Q (vO (sooner a b)) H
theorem sc_sooner : FnScope ["one", "other"] ["one", "other"] (defScope s_sooner) := ⟨rfl, rfl, rfl, by decide +kernel, rfl, by decide +kernel, by decide +kernel⟩
theorem ok_sooner (T : Txt K mg) : Keeps P w base 1 T.sooner spSooner := by
  refine T.sooner.ok sc_sooner (fun vs H Q E h => ?_) (fun cdv A outer s H vs Q E hr h => ?_)
  · obtain ⟨a, b, rfl, _⟩ := h
    rfl
  obtain ⟨a, b, rfl, k⟩ := h
  refine ⟨_, pss_cons (ps_if (pt_cmpR op_isN (pv 0) pe_non (nomark _)) (pss_one (ps_ret (pv 1))) pss_nil)
    (pss_cons (ps_if (pt_cmpR op_isN (pv 1) pe_non (nomark _)) (pss_one (ps_ret (pv 0))) pss_nil)
    (pss_one (ps_ret (pe_callB (call_min2 rfl) (by rfl) T.b_min (by decide +kernel) (pa_cons (pv 0) (pa_cons (pv 1) pa_nil)))))), ?_⟩
  refine ⟨_, rfl, rfl, _, rfl, if_d (fun c => ?_) (fun c => ?_)⟩
  · cases a with
    | none => exact ⟨_, rfl, k⟩
    | some x => cases c
  · cases a with
    | none => exact absurd rfl c
    | some x =>
      refine ⟨_, rfl, rfl, _, rfl, if_d (fun c2 => ?_) (fun c2 => ?_)⟩
      · cases b with
        | none => exact ⟨_, rfl, k⟩
        | some y => cases c2
      · cases b with
        | none => exact absurd rfl c2
        | some y =>
          refine ⟨_, rfl, _, rfl, _, _, rfl, ?_⟩
          have e : (if y < x then y else x) = min x y := by split <;> omega
          show Q (.int (if y < x then y else x)) H
          rw [e]
          exact k
def spClipRun (K : PySem.W.Frag) : Sp := fun vs H Q _ => ∃ (x y z : V) (c : Clip) (m : Int) (p q : Fr), vs = [x, .int m, y, z] ∧ Dp K H x (encI (.clip c)) ∧ ClipOk c ∧ Dp K H y (encF p) ∧ Dp K H z (encF q) ∧ ∀ r H', Same H H' → Dp K H' r (encP (clipRun c m p q)) → Q r H'
theorem sc_clip_run : FnScope ["clip", "k", "share", "share_step"] ["clip", "k", "share", "share_step"] (defScope s_clip_run) := ⟨rfl, rfl, rfl, by decide +kernel, rfl, by decide +kernel, by decide +kernel⟩
theorem ok_clip_run (T : Txt K mg) : Keeps P w base 5 T.clip_run (spClipRun K) := by
  refine T.clip_run.ok sc_clip_run (fun vs H Q E h => ?_) (fun cdv A outer s H vs Q E hr h => ?_)
  · obtain ⟨x, y, z, c, m, p, q, rfl, _⟩ := h
    rfl
  obtain ⟨x, y, z, c, m, p, q, rfl, hx, ok, hy, hz, k⟩ := h
  obtain ⟨a, u, v, rfl, ha, hu, hv⟩ := dp_clip hx
  refine ⟨_, pss_one (ps_ret (pe_tup (pa_cons (pe_ix ix_tup (pv 0) pe_int (fun _ _ => rfl)) (pa_cons (cl T.place_at (ok_place_at T) hr (by decide) (by rfl) (pa_cons (pv 0) (pa_cons (pv 1) pa_nil))) (pa_cons (pe_ix ix_tup (pv 0) pe_int (fun _ _ => rfl)) (pa_cons (pv 2) (pa_cons (pv 3) pa_nil))))))), ?_⟩
  refine ⟨_, rfl, a, _, _, _, rfl, rfl, ha, rfl, _, rfl, _, rfl, _, c, m, rfl, hx, ok, fun r H1 g1 d1 => ?_⟩
  refine ⟨_, rfl, a, _, _, _, rfl, rfl, g1.tup ha, rfl, _, rfl, _, rfl, by show 5 ≤ sizeLine; decide, fun t nt => ?_⟩
  have g2 := same_new nt (.tup [.str c.reel, r, v, y, z])
  exact k _ _ (g1.trans g2) (.tup (.of upd_same) (.cons (.str _) (.cons (g2.dp d1) (.cons (g2.dp (g1.dp hv)) (.cons (g2.dp (g1.dp hy)) (.cons (g2.dp (g1.dp hz)) .nil))))))
def spMixRun (K : PySem.W.Frag) : Sp := fun vs H Q _ => ∃ (x y : V) (t : Track) (s : Span) (m : Int) (A B : Clip), vs = [x, y, .int m] ∧ Dp K H x (encT t) ∧ Dp K H y (encS s) ∧ wfG none t ∧ mixOf t s.2.1 = some (A, B) ∧ ClipOk A ∧ ClipOk B ∧ 0 ≤ s.2.2 - s.1 ∧ s.2.2 - s.1 < 1000 ∧
  ∀ r H', Same H H' → Dp K H' r (encRun (mixRun A B s m)) → Q r H'
theorem sc_mix_run : FnScope ["track", "span", "moment", "low", "border", "high", "place", "ahead", "behind", "going", "coming", "bottom", "one"] ["track", "span", "moment"] (defScope s_mix_run) := ⟨rfl, rfl, rfl, by decide +kernel, rfl, by decide +kernel, by decide +kernel⟩
theorem ok_mix_run (T : Txt K mg) : Keeps P w base 6 T.mix_run (spMixRun K) := by
  refine T.mix_run.ok sc_mix_run (fun vs H Q E h => ?_) (fun cdv A outer s H vs Q E hr h => ?_)
  · obtain ⟨x, y, t, sp, m, cA, cB, rfl, _⟩ := h
    rfl
  obtain ⟨x, y, t, sp, m, cA, cB, rfl, hx, hy, wf, em, okA, okB, l0, l1, k⟩ := h
  obtain ⟨p, far, e1, p2, eA, eB⟩ := mixOf_at wf em
  obtain ⟨ys, rfl, hys⟩ := dp_span hy
  obtain ⟨a, vs, rfl, ha, hd, hl⟩ := dpt hx
  obtain ⟨xA, exA, dA⟩ := dpm_get hd eA
  obtain ⟨xB, exB, dB⟩ := dpm_get hd eB
  have G := ok_clip_run (P := P) (w := w) (base := base) T
  refine ⟨_, pss_cons (ps_asg (pv 1) (pg_tup rfl (pgs_cons (pg_name (i := 3) sc_mix_run.nd rfl (Or.inl rfl)) (pgs_cons (pg_name (i := 4) sc_mix_run.nd rfl (Or.inl rfl)) (pgs_cons (pg_name (i := 5) sc_mix_run.nd rfl (Or.inl rfl)) pgs_nil)))))
    (pss_cons (ps_set (i := 6) sc_mix_run.nd rfl (Or.inl rfl) (pe_ix ix_tup (cl T.item_at (ok_item_at T) hr (by decide) (by rfl) (pa_cons (pv 0) (pa_cons (pv 4) pa_nil))) pe_int (fun _ _ => rfl)))
    (pss_cons (ps_set (i := 7) sc_mix_run.nd rfl (Or.inl rfl) (pe_ix ix_list (pv 0) (pe_op op_sub (pv 6) pe_int) (fun _ _ => rfl)))
    (pss_cons (ps_set (i := 8) sc_mix_run.nd rfl (Or.inl rfl) (pe_ix ix_list (pv 0) (pv 6) (fun _ _ => rfl)))
    (pss_cons (ps_asg (cl T.mix_shares (ok_mix_shares T) hr (by decide) (by rfl) (pa_cons (pe_op op_sub (pv 5) (pv 3)) (pa_cons (pe_op op_sub (pv 2) (pv 3)) pa_nil))) (pg_tup rfl (pgs_cons (pg_name (i := 9) sc_mix_run.nd rfl (Or.inl rfl)) (pgs_cons (pg_name (i := 10) sc_mix_run.nd rfl (Or.inl rfl)) pgs_nil))))
    (pss_cons (ps_set (i := 11) sc_mix_run.nd rfl (Or.inl rfl) (pe_op op_add (pe_op op_sub (pv 5) (pv 3)) pe_int))
    (pss_cons (ps_set (i := 12) sc_mix_run.nd rfl (Or.inl rfl) (cl T.clip_run G hr (by decide) (by rfl) (pa_cons (pv 7) (pa_cons (pe_op op_sub (pe_op op_add (pe_ix ix_tup (pv 7) pe_int (fun _ _ => rfl)) (pv 2)) (pv 4)) (pa_cons (pv 9) (pa_cons (pe_tup (pa_cons (pe_un un_neg pe_int) (pa_cons (pv 11) pa_nil))) pa_nil))))))
    (pss_one (ps_ret (pe_tup (pa_cons (pe_tup (pa_cons (pv 12) (pa_cons (cl T.clip_run G hr (by decide) (by rfl) (pa_cons (pv 8) (pa_cons (pe_op op_sub (pv 2) (pv 4)) (pa_cons (pv 10) (pa_cons (pe_tup (pa_cons pe_int (pa_cons (pv 11) pa_nil))) pa_nil))))) pa_nil)))
      (pa_cons (pe_op op_sub (pv 5) (pv 2)) pa_nil))))))))))), ?_⟩
  refine ⟨_, rfl, ys, _, rfl, hys, rfl, _, _, rfl, _, _, rfl, _, _, rfl, rfl, ?_⟩
  refine ⟨_, rfl, _, rfl, _, t, sp.2.1, rfl, hx, ?_⟩
  rw [e1]
  intro pa H1 g1 epa
  refine ⟨pa, _, _, _, rfl, rfl, .of epa, rfl, ?_⟩
  refine ⟨_, rfl, _, rfl, _, _, rfl, rfl, a, _, _, _, rfl, rfl, g1.seq ha, at_of (j := p - 2) (by omega) exA, ?_⟩
  refine ⟨_, rfl, _, rfl, a, _, _, _, rfl, rfl, g1.seq ha, atI_nat exB, ?_⟩
  refine ⟨_, rfl, _, rfl, _, _, rfl, rfl, _, rfl, _, rfl, _, _, rfl, rfl, _, _, rfl, l0, l1, fun ra sx sy H2 g2 hra d1 d2 => ?_⟩
  refine ⟨ra, _, rfl, hra, rfl, _, _, rfl, _, _, rfl, rfl, ?_⟩
  refine ⟨_, rfl, _, rfl, _, _, rfl, rfl, _, _, rfl, rfl, ?_⟩
  have dA2 := g2.dp (g1.dp dA)
  have dB2 := g2.dp (g1.dp dB)
  obtain ⟨aA, uA, vA, rfl, hA, _, _⟩ := dp_clip dA2
  refine ⟨_, rfl, _, rfl, aA, _, _, _, rfl, rfl, hA, rfl, _, rfl, _, _, rfl, rfl, _, rfl, _, _, rfl, rfl, _, rfl, _, rfl, _, rfl, by show 2 ≤ sizeLine; decide, fun q1 n1 => ?_⟩
  have g3 := same_new n1 (.tup [.int (-1), .int (sp.2.2 - sp.1 + 1)])
  refine ⟨_, _, _, cA, _, _, (-1, sp.2.2 - sp.1 + 1), rfl, g3.dp dA2, okA, g3.dp d1, F_dp (.of upd_same), fun r4 H4 g4 d4 => ?_⟩
  refine ⟨_, rfl, _, rfl, _, rfl, _, rfl, _, _, rfl, rfl, _, rfl, _, rfl, by show 2 ≤ sizeLine; decide, fun q2 n2 => ?_⟩
  have g5 := same_new n2 (.tup [.int 1, .int (sp.2.2 - sp.1 + 1)])
  have g25 := g3.trans (g4.trans g5)
  refine ⟨_, _, _, cB, _, _, (1, sp.2.2 - sp.1 + 1), rfl, g25.dp dB2, okB, g25.dp d2, F_dp (.of upd_same), fun r6 H6 g6 d6 => ?_⟩
  refine ⟨by show 2 ≤ sizeLine; decide, fun q3 n3 => ?_⟩
  have g7 := same_new n3 (.tup [r4, r6])
  refine ⟨_, rfl, _, rfl, _, _, rfl, rfl, by show 2 ≤ sizeLine; decide, fun q4 n4 => ?_⟩
  have g8 := same_new n4 (.tup [.ref q3, .int (sp.2.2 - m)])
  refine k _ _ (g1.trans (g2.trans (g25.trans (g6.trans (g7.trans g8))))) (run_dp (r := mixRun cA cB sp m) (.of upd_same) (.tup (g8.tup (.of upd_same)) ?_))
  exact .cons (g8.dp (g7.dp (g6.dp (g5.dp d4)))) (.cons (g8.dp (g7.dp d6)) .nil)
end
end Rc

set_option maxHeartbeats 4000000
namespace Rc
open PySem PySem.Spec PyProof.Rows L2
section
variable {P : Program} {w : World} {K : PySem.W.Frag} {mg : Str → Option Value} {base : Heap} {tabs : Str → List Track}
/-! ### track_run, table_run -/
def spTableRun (K : PySem.W.Frag) (tabs : Str → List Track) (n : Nat) : Sp := fun vs H Q _ => ∃ (z : V) (nm : Str) (m : Int), vs = [z, .str nm, .int m] ∧ RoomAt K tabs H z ∧ GoodTab tabs n nm ∧ 0 ≤ m ∧ ∀ r H', Same H H' → Dp K H' r (encRun (tableRun tabs n nm m)) → Q r H'
def spTrackRun (K : PySem.W.Frag) (tabs : Str → List Track) (n : Nat) : Sp := fun vs H Q _ => ∃ (x z : V) (t : Track) (m : Int), vs = [z, x, .int m] ∧ Dp K H x (encT t) ∧ RoomAt K tabs H z ∧ TrackOk (GoodTab tabs n) t ∧ 0 ≤ m ∧
  ∀ r H', Same H H' → Dp K H' r (encRun (trackRun (tableRun tabs n) t m)) → Q r H'
theorem sc_track_run : FnScope ["room", "track", "moment", "found", "place", "far", "item", "lasts", "parts", "within", "span"] ["room", "track", "moment"] (defScope s_track_run) := ⟨rfl, rfl, rfl, by decide +kernel, rfl, by decide +kernel, by decide +kernel⟩
theorem spanRun_cons {t : Track} {c : Clip} {far m : Int} {s : Span} {r : List Span} {l : Int} : spanRun t c far m (s :: r) l = if inSpan m s = true then (match mixOf t s.2.1 with
  | some (A, B) => mixRun A B s m
  | none => ([], none)) else if m < s.1 then spanRun t c far m r (min l (s.1 - m)) else spanRun t c far m r l := rfl
theorem encPs_nil : encPs [] = .tuple [] := rfl
theorem ok_track_run {n : Nat} (T : Txt K mg) (G : Keeps P w base (2 * n + 6) T.table_run (spTableRun K tabs n)) : Keeps P w base (2 * n + 7) T.track_run (spTrackRun K tabs n) := by
  refine T.track_run.ok sc_track_run (fun vs H Q E h => ?_) (fun cdv A outer s H vs Q E hr h => ?_)
  · obtain ⟨x, z, t, m, rfl, _⟩ := h
    rfl
  obtain ⟨x, z, t, m, rfl, hx, hz, ok, m0, k⟩ := h
  obtain ⟨a, vs, rfl, ha, hd, hl⟩ := dpt hx
  have GC := ok_clip_run (P := P) (w := w) (base := base) T
  refine ⟨_, pss_cons (ps_set (i := 3) sc_track_run.nd rfl (Or.inl rfl) (cl T.item_at (ok_item_at T) hr (by omega) (by rfl) (pa_cons (pv 1) (pa_cons (pv 2) pa_nil))))
    (pss_cons (ps_if (pt_cmpR op_isN (pv 3) pe_non (nomark _)) (pss_one (ps_ret (pe_tup (pa_cons (pe_tup pa_nil) (pa_cons pe_non pa_nil))))) pss_nil)
    (pss_cons (ps_asg (pv 3) (pg_tup rfl (pgs_cons (pg_name (i := 4) sc_track_run.nd rfl (Or.inl rfl)) (pgs_cons (pg_name (i := 5) sc_track_run.nd rfl (Or.inl rfl)) pgs_nil))))
    (pss_cons (ps_set (i := 6) sc_track_run.nd rfl (Or.inl rfl) (pe_ix ix_list (pv 1) (pv 4) (fun _ _ => rfl)))
    (pss_cons (ps_set (i := 7) sc_track_run.nd rfl (Or.inl rfl) (pe_op op_sub (pe_ix ix_tup (pv 6) (pe_un un_neg pe_int) (fun _ _ => rfl)) (pv 5)))
    (pss_cons (ps_if (pt_cmpR op_eq (pe_ix ix_tup (pv 6) pe_int (fun _ _ => rfl)) pe_str (nomark _)) (pss_one (ps_ret (pe_tup (pa_cons (pe_tup pa_nil) (pa_cons (pv 7) pa_nil))))) pss_nil)
    (pss_cons (ps_if (pt_cmpR op_eq (pe_ix ix_tup (pv 6) pe_int (fun _ _ => rfl)) pe_str (nomark _))
        (pss_cons (ps_asg (cl T.table_run G hr (by omega) (by rfl) (pa_cons (pv 0) (pa_cons (pe_ix ix_tup (pv 6) pe_int (fun _ _ => rfl)) (pa_cons (pe_op op_add (pe_ix ix_tup (pv 6) pe_int (fun _ _ => rfl)) (pv 5)) pa_nil)))) (pg_tup rfl (pgs_cons (pg_name (i := 8) sc_track_run.nd rfl (Or.inl rfl)) (pgs_cons (pg_name (i := 9) sc_track_run.nd rfl (Or.inl rfl)) pgs_nil))))
          (pss_one (ps_ret (pe_tup (pa_cons (pv 8) (pa_cons (cl T.sooner (ok_sooner T) hr (by omega) (by rfl) (pa_cons (pv 7) (pa_cons (pv 9) pa_nil))) pa_nil)))))) pss_nil)
    (pss_cons (ps_for PassesOwn.never rfl (pi_list (cl T.mix_spans (ok_mix_spans T) hr (by omega) (by rfl) (pa_cons (pv 1) pa_nil))) (pg_name (i := 10) sc_track_run.nd rfl (Or.inl rfl))
        (pss_cons (ps_if (pt_chain op_le op_lt (pe_ix ix_tup (pv 10) pe_int (fun _ _ => rfl)) (pv 2) (pe_ix ix_tup (pv 10) pe_int (fun _ _ => rfl)))
            (pss_one (ps_ret (cl T.mix_run (ok_mix_run T) hr (by omega) (by rfl) (pa_cons (pv 1) (pa_cons (pv 10) (pa_cons (pv 2) pa_nil)))))) pss_nil)
          (pss_one (ps_if (pt_cmpR op_lt (pv 2) (pe_ix ix_tup (pv 10) pe_int (fun _ _ => rfl)) (nomark _))
            (pss_one (ps_set (i := 7) sc_track_run.nd rfl (Or.inl rfl) (pe_callB (call_min2 rfl) (by rfl) T.b_min (by decide +kernel) (pa_cons (pv 7) (pa_cons (pe_op op_sub (pe_ix ix_tup (pv 10) pe_int (fun _ _ => rfl)) (pv 2)) pa_nil))))) pss_nil))))
    (pss_one (ps_ret (pe_tup (pa_cons (pe_tup (pa_cons (cl T.clip_run GC hr (by omega) (by rfl) (pa_cons (pv 6) (pa_cons (pv 5) (pa_cons (pe_tup (pa_cons pe_int (pa_cons pe_int pa_nil))) (pa_cons (pe_tup (pa_cons pe_int (pa_cons pe_int pa_nil))) pa_nil))))) pa_nil)) (pa_cons (pv 7) pa_nil)))))))))))), ?_⟩
  refine ⟨_, rfl, _, rfl, _, t, m, rfl, hx, ?_⟩
  unfold trackRun at k
  cases e : itemAt t m with
  | none =>
    rw [e] at k
    intro H1 g1
    refine ⟨_, rfl, rfl, _, rfl, if_d (fun _ => ?_) (fun c => absurd rfl c)⟩
    refine ⟨Nat.zero_le _, fun q1 n1 => ⟨by show 2 ≤ sizeLine; decide, fun q2 n2 => ?_⟩⟩
    have g2 := same_new n1 (.tup [])
    have g3 := same_new n2 (.tup [.ref q1, .non])
    exact k _ _ (g1.trans (g2.trans g3)) (run_dp (r := ([], none)) (.of upd_same) (.tup (g3.tup (.of upd_same)) .nil))
  | some v =>
    obtain ⟨p, far, it⟩ := v
    rw [e] at k
    intro fa H1 g1 efa
    obtain ⟨ep, nmx, f0, f1, io, hm⟩ := wf_at ok.wf e
    obtain ⟨xi, exi, dxi⟩ := dpm_get (g1.dpAll hd) ep
    obtain ⟨b, us, rfl, hb, h0, h1, _⟩ := dp_item dxi
    refine ⟨_, rfl, rfl, _, rfl, if_d (fun c => nomatch c) (fun _ => ?_)⟩
    refine ⟨_, rfl, fa, _, rfl, .of efa, rfl, _, _, rfl, _, _, rfl, rfl, ?_⟩
    refine ⟨_, rfl, _, rfl, a, _, _, _, rfl, rfl, g1.seq ha, atI_nat exi, ?_⟩
    refine ⟨_, rfl, _, rfl, b, _, _, _, rfl, rfl, hb, h1, _, rfl, _, _, rfl, rfl, ?_⟩
    refine ⟨_, rfl, b, _, _, _, rfl, rfl, hb, h0, rfl, _, rfl, if_seq (fun c => ?_) (fun c => ?_)⟩
    · cases it with
      | mix l => cases nmx
      | clip c2 => exact absurd c (by show ¬ (("clip" : Str) = "gap"); decide +kernel)
      | nest a s l => exact absurd c (by show ¬ (("nest" : Str) = "gap"); decide +kernel)
      | gap l =>
        refine ⟨Nat.zero_le _, fun q1 n1 => ⟨_, rfl, by show 2 ≤ sizeLine; decide, fun q2 n2 => ?_⟩⟩
        have g2 := same_new n1 (.tup [])
        have g3 := same_new n2 (.tup [.ref q1, .int (l - far)])
        exact k _ _ (g1.trans (g2.trans g3)) (run_dp (r := ([], some (l - far))) (.of upd_same) (.tup (g3.tup (.of upd_same)) .nil))
    · refine ⟨_, rfl, b, _, _, _, rfl, rfl, hb, h0, rfl, _, rfl, if_seq (fun c2 => ?_) (fun c2 => ?_)⟩
      · cases it with
        | gap l => exact absurd rfl c
        | mix l => cases nmx
        | clip c3 => exact absurd c2 (by show ¬ (("clip" : Str) = "nest"); decide +kernel)
        | nest nm st l =>
          have io : 0 ≤ st ∧ 0 < l ∧ l ≤ 12 := io
          obtain ⟨b', eb, hb⟩ := dp_nest dxi
          cases eb
          refine ⟨_, rfl, _, rfl, b, _, _, _, rfl, rfl, hb, rfl, _, rfl, b, _, _, _, rfl, rfl, hb, rfl, _, rfl, _, _, rfl, rfl, ?_⟩
          refine ⟨_, nm, _, rfl, hz.same g1, ok.nest nm st l hm, by omega, fun r H2 g2 d2 => ?_⟩
          obtain ⟨rr, ru, rfl, hrr, hru⟩ := dp_run d2
          refine ⟨rr, _, rfl, hrr, rfl, _, _, rfl, _, _, rfl, rfl, ?_⟩
          refine ⟨_, rfl, _, rfl, _, rfl, some (l - far), _, rfl, by show 2 ≤ sizeLine; decide, fun q2 n2 => ?_⟩
          have g3 := same_new n2 (.tup [ru, vO (sooner (some (l - far)) (tableRun tabs n nm (st + far)).2)])
          exact k _ _ (g1.trans (g2.trans g3)) (run_dp (r := ((tableRun tabs n nm (st + far)).1, sooner (some (l - far)) (tableRun tabs n nm (st + far)).2)) (.of upd_same) (g3.dp hru))
      · cases it with
        | gap l => exact absurd rfl c
        | mix l => cases nmx
        | nest nm st l => exact absurd rfl c2
        | clip cc =>
          have okc : ClipOk cc := io
          clear c c2 h0
          have k : ∀ r H', Same H H' → Dp K H' r (encRun (spanRun t cc far m (spans t) (cc.len - far))) → Q r H' := k
          refine ⟨_, rfl, _, t, rfl, g1.dp hx, by have := ok.len; omega, fun r H2 g2 d2 => ?_⟩
          have g12 := g1.trans g2
          obtain ⟨f, ws, rfl, hf, hws⟩ := dp_lst d2
          have hwl : ws.length = (spans t).length := (dpa_len hws).trans (List.length_map _)
          refine ⟨f, rfl, ⟨_, hf⟩, for_list (K := K) (a := f) (xs := ws) (fun i σ H' => ∃ (l : Int) (y10 : Option V), σ = [some z, some (.ref a), some (.int m), some (.ref fa), some (.int p), some (.int far), some (.ref b), some (.int l), none, none, y10] ∧ Same H2 H' ∧
              spanRun t cc far m ((spans t).drop i) l = spanRun t cc far m (spans t) (cc.len - far))
            ⟨cc.len - far, none, rfl, Same.refl H2, rfl⟩ (fun i σ H' _ ⟨_, _, _, sm, _⟩ => sm.seq hf) ?_ ?_⟩
          · rintro i x σ H3 ex ⟨l, y10, rfl, sm, ei⟩
            obtain ⟨sp, esp, dsp⟩ := dpm_at (sm.dpAll hws) ex
            obtain ⟨ys, rfl, hys⟩ := dp_span dsp
            have hmem := List.mem_of_getElem? esp
            rw [drop_at esp] at ei
            rw [spanRun_cons] at ei
            refine ⟨_, rfl, ys, _, _, _, rfl, rfl, hys, rfl, _, rfl, _, _, rfl, rfl, _, rfl, if_d (fun c => ?_) (fun c => ?_)⟩
            · refine ⟨_, rfl, ys, _, _, _, rfl, rfl, hys, rfl, _, _, rfl, rfl, _, rfl, if_d (fun c2 => ?_) (fun c2 => ?_)⟩
              · rw [if_pos (inSpan_iff.mpr ⟨c, c2⟩)] at ei
                obtain ⟨cA, cB, em, okA, okB⟩ := mixOf_some ok.wf hmem
                rw [em] at ei
                have ei : mixRun cA cB sp m = _ := ei
                obtain ⟨i1, i2, i3, i4, i5, i6⟩ := spans_in t none 0 ok.wf (Int.le_refl 0) sp hmem
                refine ⟨_, rfl, _, rfl, _, rfl, _, _, t, sp, m, cA, cB, rfl, sm.dp (g12.dp hx), dsp, ok.wf, em, okA, okB, by omega, by omega, fun r4 H4 g4 d4 => ?_⟩
                rw [ei] at d4
                exact k r4 H4 (g12.trans (sm.trans g4)) d4
              · rw [if_neg (fun q => c2 (inSpan_iff.mp q).2), if_neg (by omega)] at ei
                refine ⟨_, rfl, _, rfl, ys, _, _, _, rfl, rfl, hys, rfl, _, _, rfl, rfl, _, rfl, if_d (fun c3 => absurd c3 (by omega)) (fun _ => ?_)⟩
                exact ⟨l, some (.ref ys), rfl, sm, ei⟩
            · rw [if_neg (fun q => c (inSpan_iff.mp q).1), if_pos (by omega)] at ei
              refine ⟨false, rfl, iteF ?_⟩
              refine ⟨_, rfl, _, rfl, ys, _, _, _, rfl, rfl, hys, rfl, _, _, rfl, rfl, _, rfl, if_d (fun _ => ?_) (fun c3 => absurd (show m < sp.1 by omega) c3)⟩
              refine ⟨_, rfl, _, rfl, ys, _, _, _, rfl, rfl, hys, rfl, _, rfl, _, _, rfl, rfl, _, _, rfl, ?_⟩
              have em : (if sp.1 - m < l then sp.1 - m else l) = min l (sp.1 - m) := by split <;> omega
              refine ⟨min l (sp.1 - m), some (.ref ys), ?_, sm, ei⟩
              rw [← em]
              rfl
          · rintro σ H3 ⟨l, y10, rfl, sm, ei⟩
            rw [hwl, List.drop_length] at ei
            have ei : ([clipRun cc far (1, 1) (0, 1)], some l) = spanRun t cc far m (spans t) (cc.len - far) := ei
            rw [← ei] at k
            have gg := g12.trans sm
            refine ⟨_, rfl, _, rfl, by show 2 ≤ sizeLine; decide, fun q1 n1 => ⟨by show 2 ≤ sizeLine; decide, fun q2 n2 => ?_⟩⟩
            have g4 := same_new n1 (.tup [.int 1, .int 1])
            have g5 := same_new n2 (.tup [.int 0, .int 1])
            refine ⟨_, _, _, cc, far, (1, 1), (0, 1), rfl, g5.dp (g4.dp (sm.dp (g2.dp dxi))), okc, g5.dp (F_dp (.of upd_same)), F_dp (.of upd_same), fun r6 H6 g6 d6 => ?_⟩
            refine ⟨by show 1 ≤ sizeLine; decide, fun q3 n3 => ⟨_, rfl, by show 2 ≤ sizeLine; decide, fun q4 n4 => ?_⟩⟩
            have g7 := same_new n3 (.tup [r6])
            have g8 := same_new n4 (.tup [.ref q3, .int l])
            exact k _ _ (gg.trans (g4.trans (g5.trans (g6.trans (g7.trans g8))))) (run_dp (r := ([clipRun cc far (1, 1) (0, 1)], some l)) (.of upd_same) (.tup (g8.tup (.of upd_same)) (.cons (g8.dp (g7.dp d6)) .nil)))
theorem sc_table_run : FnScope ["room", "name", "moment", "lasts", "track", "parts", "its"] ["room", "name", "moment"] (defScope s_table_run) := ⟨rfl, rfl, rfl, by decide +kernel, rfl, by decide +kernel, by decide +kernel⟩
theorem tabRun_cons {rec : Str → Int → Run} {m : Int} {t : Track} {r : List Track} {l : Option Int} : tabRun rec m (t :: r) l = match (trackRun rec t m).1 with
  | [] => tabRun rec m r (sooner l (trackRun rec t m).2)
  | p :: ps => (p :: ps, sooner l (trackRun rec t m).2) := rfl
theorem ok_table_run {n : Nat} (T : Txt K mg) (G : Keeps P w base (2 * n + 7) T.track_run (spTrackRun K tabs n)) : Keeps P w base (2 * n + 8) T.table_run (spTableRun K tabs (n + 1)) := by
  refine T.table_run.ok sc_table_run (fun vs H Q E h => ?_) (fun cdv A outer s H vs Q E hr h => ?_)
  · obtain ⟨z, nm, m, rfl, _⟩ := h
    rfl
  obtain ⟨z, nm, m, rfl, hz, ok, m0, k⟩ := h
  obtain ⟨p, td, rv, kvs, rfl, hp, hd, hk⟩ := id hz
  obtain ⟨tb, tl, tv, e1, e2, e3⟩ := hk (n + 1) nm ok
  obtain ⟨la, vs, rfl, hl, hvs⟩ := dp_lst e3
  have hlen : vs.length = (tabs nm).length := (dpa_len hvs).trans (List.length_map _)
  have hget : DGet H td (.str nm) (some (.ref tb)) := by
    have g := DGet.k (k := Sum.inr nm) hd
    rw [e1] at g
    exact g
  refine ⟨_, pss_cons (ps_set (i := 3) sc_table_run.nd rfl (Or.inl rfl) pe_non)
    (pss_cons (ps_for PassesOwn.never rfl (pi_list (pe_ix ix_tup (pe_dget (hu_of hr) (pe_ix ix_tup (pv 0) pe_int (fun _ _ => rfl)) (pv 1) (fun _ _ => rfl)) pe_int (fun _ _ => rfl))) (pg_name (i := 4) sc_table_run.nd rfl (Or.inl rfl))
      (pss_cons (ps_asg (cl T.track_run G hr (by omega) (by rfl) (pa_cons (pv 0) (pa_cons (pv 4) (pa_cons (pv 2) pa_nil)))) (pg_tup rfl (pgs_cons (pg_name (i := 5) sc_table_run.nd rfl (Or.inl rfl)) (pgs_cons (pg_name (i := 6) sc_table_run.nd rfl (Or.inl rfl)) pgs_nil))))
        (pss_cons (ps_set (i := 3) sc_table_run.nd rfl (Or.inl rfl) (cl T.sooner (ok_sooner T) hr (by omega) (by rfl) (pa_cons (pv 3) (pa_cons (pv 6) pa_nil))))
        (pss_one (ps_if (pt_cmpR (op_neD hr.units) (pv 5) (pe_tup pa_nil) (nomark _)) (pss_one (ps_ret (pe_tup (pa_cons (pv 5) (pa_cons (pv 3) pa_nil))))) pss_nil)))))
    (pss_one (ps_ret (pe_tup (pa_cons (pe_tup pa_nil) (pa_cons (pv 3) pa_nil)))))), ?_⟩
  refine ⟨_, rfl, p, _, _, _, rfl, rfl, hp, rfl, _, rfl, td, _, rfl, hget, tb, _, _, _, rfl, rfl, e2, rfl, la, rfl, ⟨_, hl⟩, ?_⟩
  refine for_list (K := K) (a := la) (xs := vs) (fun i σ H' => ∃ (l : Option Int) (y4 y5 y6 : Option V), σ = [some (.ref p), some (.str nm), some (.int m), some (vO l), y4, y5, y6] ∧ Same H H' ∧ tabRun (tableRun tabs n) m ((tabs nm).drop i) l = tableRun tabs (n + 1) nm m)
    ⟨none, none, none, none, rfl, Same.refl H, rfl⟩ (fun i σ H' _ ⟨_, _, _, _, _, sm, _⟩ => sm.seq hl) ?_ ?_
  · rintro i x σ H1 ex ⟨l, y4, y5, y6, rfl, sm, ei⟩
    obtain ⟨t, et, dt⟩ := dpm_at (sm.dpAll hvs) ex
    have okt := ok.2.2 t (List.mem_of_getElem? et)
    have R := trackRun_ok (recT := toldAt tabs n) (recR := tableRun tabs n) (fun x y gx hy => tableRun_ok n x y gx hy) okt m0
    refine ⟨_, rfl, _, rfl, _, rfl, x, _, t, m, rfl, dt, hz.same sm, okt, m0, fun r H2 g2 d2 => ?_⟩
    obtain ⟨rr, ru, rfl, hrr, hru⟩ := dp_run d2
    refine ⟨rr, _, rfl, hrr, rfl, _, _, rfl, _, _, rfl, rfl, ?_⟩
    refine ⟨_, rfl, _, rfl, l, _, rfl, ?_⟩
    refine ⟨_, rfl, Nat.zero_le _, fun q nq => ?_⟩
    have g3 := same_new nq (.tup [])
    refine ⟨_, _, g3.dp hru, .tup (.of upd_same) .nil, shaped_parts R.parts, shaped_t, _, rfl, ?_⟩
    rw [drop_at et, tabRun_cons] at ei
    cases e : (trackRun (tableRun tabs n) t m).1 with
    | nil =>
      rw [e] at ei
      have eq : PyData.eqv (encPs []) (.tuple []) = true := eqv_tt
      rw [eq]
      exact iteF ⟨_, _, _, _, rfl, sm.trans (g2.trans g3), ei⟩
    | cons d ds =>
      rw [e] at ei hru
      rw [eqv_parts]
      refine iteT ⟨_, rfl, _, rfl, by show 2 ≤ sizeLine; decide, fun q4 n4 => ?_⟩
      have g4 := same_new n4 (.tup [ru, vO (sooner l (trackRun (tableRun tabs n) t m).2)])
      refine k _ _ (sm.trans (g2.trans (g3.trans g4))) ?_
      rw [← ei]
      exact run_dp (.of upd_same) (g4.dp (g3.dp hru))
  · rintro σ H1 ⟨l, y4, y5, y6, rfl, sm, ei⟩
    rw [hlen, List.drop_length] at ei
    refine ⟨Nat.zero_le _, fun q1 n1 => ⟨_, rfl, by show 2 ≤ sizeLine; decide, fun q2 n2 => ?_⟩⟩
    have g2 := same_new n1 (.tup [])
    have g3 := same_new n2 (.tup [.ref q1, vO l])
    refine k _ _ (sm.trans (g2.trans g3)) ?_
    rw [← ei]
    exact run_dp (r := ([], l)) (.of upd_same) (.tup (g3.tup (.of upd_same)) .nil)
theorem none_run {D : Df K mg "table_run" s_table_run ["room", "name", "moment"]} : Keeps P w base 6 D (spTableRun K tabs 0) := by
  have no : ∀ vs H Q E, ¬ spTableRun K tabs 0 vs H Q E := fun vs H Q E h => by
    obtain ⟨z, nm, m, _, _, g, _⟩ := h
    exact g.elim
  exact ⟨fun vs H Q E h => absurd h (no vs H Q E), fun A outer s H args us vs Q E _ _ _ _ h => absurd h (no vs H Q E)⟩
theorem run_all (T : Txt K mg) : ∀ n : Nat, Keeps P w base (2 * n + 6) T.table_run (spTableRun K tabs n)
  | 0 => none_run
  | n + 1 => ok_table_run T (ok_track_run T (run_all T n))
end
end Rc

set_option maxHeartbeats 4000000
namespace Rc
open PySem PySem.Spec PyProof.Rows L2
section
variable {P : Program} {w : World} {K : PySem.W.Frag} {mg : Str → Option Value} {base : Heap} {tabs : Str → List Track}
/-! ### told_part, told_flat -/
def spToldPart (K : PySem.W.Frag) : Sp := fun vs H Q _ => ∃ (x : V) (p : Part) (m : Int), vs = [x, .int m] ∧ Dp K H x (encP p) ∧ PartOk p ∧ ∀ r H', Same H H' → Dp K H' r (encTell (tellPart m p)) → Q r H'
theorem sc_told_part : FnScope ["part", "k", "reel", "start", "step", "share", "share_step"] ["part", "k"] (defScope s_told_part) := ⟨rfl, rfl, rfl, by decide +kernel, rfl, by decide +kernel, by decide +kernel⟩
theorem dp_part {H : Hp} {v : V} {p : Part} (h : Dp K H v (encP p)) : ∃ a b c d e, v = .ref a ∧ SqT K H a [.str p.reel, b, c, d, e] ∧ Dp K H b (encF p.start) ∧ Dp K H c (encF p.step) ∧ Dp K H d (encF p.share) ∧ Dp K H e (encF p.shareStep) := by
  obtain ⟨a, vs, rfl, hs, ha⟩ := dp_tup h
  obtain ⟨v1, vs, rfl, h1, ha⟩ := dpa_cons ha
  obtain ⟨v2, vs, rfl, h2, ha⟩ := dpa_cons ha
  obtain ⟨v3, vs, rfl, h3, ha⟩ := dpa_cons ha
  obtain ⟨v4, vs, rfl, h4, ha⟩ := dpa_cons ha
  obtain ⟨v5, vs, rfl, h5, ha⟩ := dpa_cons ha
  obtain rfl := dpa_nil ha
  rw [dp_str h1] at hs
  exact ⟨a, v2, v3, v4, v5, rfl, hs, h2, h3, h4, h5⟩
theorem ok_told_part (T : Txt K mg) : Keeps P w base 5 T.told_part (spToldPart K) := by
  refine T.told_part.ok sc_told_part (fun vs H Q E h => ?_) (fun cdv A outer s H vs Q E hr h => ?_)
  · obtain ⟨x, p, m, rfl, _⟩ := h
    rfl
  obtain ⟨x, p, m, rfl, hx, ok, k⟩ := h
  obtain ⟨a, b, c, d, e, rfl, ha, h1, h2, h3, h4⟩ := dp_part hx
  have GS := ok_steps_on (P := P) (w := w) (base := base) T
  refine ⟨_, pss_cons (ps_asg (pv 0) (pg_tup rfl (pgs_cons (pg_name (i := 2) sc_told_part.nd rfl (Or.inl rfl)) (pgs_cons (pg_name (i := 3) sc_told_part.nd rfl (Or.inl rfl)) (pgs_cons (pg_name (i := 4) sc_told_part.nd rfl (Or.inl rfl)) (pgs_cons (pg_name (i := 5) sc_told_part.nd rfl (Or.inl rfl)) (pgs_cons (pg_name (i := 6) sc_told_part.nd rfl (Or.inl rfl)) pgs_nil)))))))
    (pss_one (ps_ret (pe_tup (pa_cons (pv 2) (pa_cons (cl T.floor_of (ok_floor_of T) hr (by decide) (by rfl) (pa_cons (cl T.steps_on GS hr (by decide) (by rfl) (pa_cons (pv 3) (pa_cons (pv 4) (pa_cons (pv 1) pa_nil)))) pa_nil))
      (pa_cons (cl T.steps_on GS hr (by decide) (by rfl) (pa_cons (pv 5) (pa_cons (pv 6) (pa_cons (pv 1) pa_nil)))) pa_nil)))))), ?_⟩
  refine ⟨_, rfl, a, _, rfl, ha, rfl, _, _, rfl, _, _, rfl, _, _, rfl, _, _, rfl, _, _, rfl, rfl, ?_⟩
  refine ⟨_, rfl, _, rfl, _, rfl, _, rfl, _, _, p.start, p.step, m, rfl, h1, h2, ok.start, ok.step, ok.slo, ok.shi, fun r H1 g1 d1 => ?_⟩
  have f0 : 0 < (sumF p.start (timesF p.step (m, 1))).2 := sumF_pos ok.start.pos (times1_pos ok.step.pos)
  have f1 : (sumF p.start (timesF p.step (m, 1))).2 < 1073741824 := Int.lt_of_le_of_lt (sumF_le ok.start.pos (times1_pos ok.step.pos)) (ok.start.mul (sm_times ok.step)).2
  refine ⟨_, _, rfl, d1, f0, f1, ?_⟩
  refine ⟨_, rfl, _, rfl, _, rfl, _, _, p.share, p.shareStep, m, rfl, g1.dp h3, g1.dp h4, ok.share, ok.sstep, ok.sslo, ok.sshi, fun r2 H2 g2 d2 => ?_⟩
  refine ⟨by show 3 ≤ sizeLine; decide, fun t nt => ?_⟩
  have g3 := same_new nt (.tup [.str p.reel, .int (floorF (sumF p.start (timesF p.step (m, 1)))), r2])
  exact k _ _ (g1.trans (g2.trans g3)) (.tup (.of upd_same) (.cons (.str _) (.cons (.int _) (.cons (g3.dp d2) .nil))))
def spToldFlat (K : PySem.W.Frag) : Sp := fun vs H Q _ => ∃ (x : V) (ps : List Piece) (m : Int), vs = [x, .int m] ∧ Dp K H x (.list (ps.map encPiece)) ∧ (∀ p ∈ ps, ∀ q ∈ p.2, PartOk q) ∧ (∀ p ∈ ps, p.2.length ≤ 1000) ∧ ∀ r H', Same H H' → Dp K H' r (encTells (toldFlat ps m)) → Q r H'
theorem sc_told_flat : FnScope ["pieces", "moment", "length", "parts", "part"] ["pieces", "moment"] (defScope s_told_flat) := ⟨rfl, rfl, rfl, by decide +kernel, rfl, by decide +kernel, by decide +kernel⟩
theorem dp_piece {H : Hp} {v : V} {p : Piece} (h : Dp K H v (encPiece p)) : ∃ a b vs, v = .ref a ∧ SqT K H a [.int p.1, .ref b] ∧ SqT K H b vs ∧ DpAll K H vs (p.2.map encP) := by
  obtain ⟨a, vs, rfl, hs, ha⟩ := dp_tup h
  obtain ⟨v1, vs, rfl, h1, ha⟩ := dpa_cons ha
  obtain ⟨v2, vs, rfl, h2, ha⟩ := dpa_cons ha
  obtain rfl := dpa_nil ha
  obtain ⟨b, us, rfl, hb, hu⟩ := dp_tup h2
  rw [dp_int h1] at hs
  exact ⟨a, b, us, rfl, hs, hb, hu⟩
theorem ok_told_flat (T : Txt K mg) : Keeps P w base 6 T.told_flat (spToldFlat K) := by
  refine T.told_flat.ok sc_told_flat (fun vs H Q E h => ?_) (fun cdv A outer s H vs Q E hr h => ?_)
  · obtain ⟨x, ps, m, rfl, _⟩ := h
    rfl
  obtain ⟨x, ps, m, rfl, hx, okp, shp, k⟩ := h
  obtain ⟨a, vs, rfl, ha, hd⟩ := dp_lst hx
  have hlen : vs.length = ps.length := (dpa_len hd).trans (List.length_map _)
  refine ⟨_, pss_cons (ps_for PassesOwn.never rfl (pi_list (pv 0)) (pg_tup rfl (pgs_cons (pg_name (i := 2) sc_told_flat.nd rfl (Or.inl rfl)) (pgs_cons (pg_name (i := 3) sc_told_flat.nd rfl (Or.inl rfl)) pgs_nil)))
      (pss_cons (ps_if (pt_cmpR op_lt (pv 1) (pv 2) (nomark _))
          (pss_one (ps_ret (pe_lc (own := [("part", 4)]) (g := gName 4) (tt := tYes) rfl sc_told_flat.nd (pi_tup (pv 3)) (blkOk_by (N := ["pieces", "moment", "length", "parts", "part"]) (sc := defScope s_told_flat) (by decide +kernel)) (fun _ _ _ _ _ => pg_name (i := 4) sc_told_flat.nd rfl (Or.inl rfl)) (fun _ _ _ _ _ => pts_nil)
            (fun _ _ _ _ _ => cl T.told_part (ok_told_part T) hr (by decide) (by rfl) (pa_cons (pv 4) (pa_cons (pv 1) pa_nil)))))) pss_nil)
        (pss_one (ps_set (i := 1) sc_told_flat.nd rfl (Or.inr rfl) (pe_op op_sub (pv 1) (pv 2))))))
    (pss_one (ps_ret (pe_lst pa_nil))), ?_⟩
  refine ⟨_, rfl, a, rfl, ⟨_, ha⟩, for_list (K := K) (a := a) (xs := vs) (fun i σ H' => ∃ (mm : Int) (y2 y3 : Option V), σ = [some (.ref a), some (.int mm), y2, y3, none] ∧ Same H H' ∧ toldFlat (ps.drop i) mm = toldFlat ps m)
    ⟨m, none, none, rfl, Same.refl H, rfl⟩ (fun i σ H' _ ⟨_, _, _, _, sm, _⟩ => sm.seq ha) ?_ ?_⟩
  · rintro i x σ H1 ex ⟨mm, y2, y3, rfl, sm, ei⟩
    obtain ⟨pc, epc, dpc⟩ := dpm_at (sm.dpAll hd) ex
    obtain ⟨b, bp, us, rfl, hb, hbp, hus⟩ := dp_piece dpc
    have hmem := List.mem_of_getElem? epc
    rw [drop_at epc] at ei
    have ei : (if mm < pc.1 then evalP pc.2 mm else toldFlat (ps.drop (i + 1)) (mm - pc.1)) = toldFlat ps m := ei
    refine ⟨b, _, rfl, hb, rfl, _, _, rfl, _, _, rfl, rfl, ?_⟩
    refine ⟨_, rfl, _, rfl, _, _, rfl, rfl, _, rfl, if_d (fun c => ?_) (fun c => ?_)⟩
    · rw [if_pos c] at ei
      refine ⟨_, rfl, bp, rfl, ⟨_, hbp⟩, fun D nD => ?_⟩
      have hul : us.length = pc.2.length := (dpa_len hus).trans (List.length_map _)
      refine lc_tup (K := K) (a := bp) (xs := us) (fun i H' => Same H1 H' ∧ ∃ ws, H' D = some (.lst ws) ∧ DpAll K H' ws ((evalP (pc.2.take i) mm).map encTell)) ⟨same_new nD _, [], upd_same, .nil⟩ (fun i H' _ p => p.1.tup hbp) ?_ ?_
      · rintro j x H2 ex2 ⟨sm2, ws, eD, dws⟩
        obtain ⟨pt, ept, dpt⟩ := dpm_at (sm2.dpAll hus) ex2
        have hmp := List.mem_of_getElem? ept
        have wl : ws.length ≤ 1000 := by
          have e1 := dpa_len dws
          rw [List.length_map] at e1
          have e2 : (evalP (pc.2.take j) mm).length ≤ pc.2.length := by
            unfold evalP
            rw [List.length_map, List.length_take]
            omega
          have e3 := shp pc hmem
          omega
        refine ⟨rfl, ?_⟩
        refine ⟨_, rfl, _, rfl, _, pt, mm, rfl, dpt, okp pc hmem pt hmp, fun r H3 g3 d3 => ?_⟩
        have eD3 := g3 _ _ eD
        have s4 := tup_upd (K := K) (o := .lst (ws ++ [r])) eD3
        refine ⟨_, eD3, Nat.lt_of_le_of_lt wl (by decide), same_upd (sm2.trans g3) nD, _, upd_same, ?_⟩
        have e : (evalP (pc.2.take (j + 1)) mm).map encTell = (evalP (pc.2.take j) mm).map encTell ++ [encTell (tellPart mm pt)] := by
          unfold evalP
          rw [List.take_add_one, ept, List.map_append, List.map_append]
          rfl
        rw [e]
        exact dpa_app (dpAll_tups s4 _ _ (noLs_map noL_Tell _) (g3.dpAll dws)) (.cons (dp_tups s4 _ _ (noL_Tell _) d3) .nil)
      · rintro H2 ⟨sm2, ws, eD, dws⟩
        rw [hul, List.take_length] at dws
        refine k _ H2 (sm.trans sm2) ?_
        rw [← ei]
        exact .lst (.of eD) dws
    · rw [if_neg c] at ei
      exact ⟨_, rfl, _, rfl, _, _, rfl, rfl, mm - pc.1, some (.int pc.1), some (.ref bp), rfl, sm, ei⟩
  · rintro σ H1 ⟨mm, y2, y3, rfl, sm, ei⟩
    rw [hlen, List.drop_length] at ei
    refine ⟨Nat.zero_le _, fun q nq => k _ _ (sm.trans (same_new nq _)) ?_⟩
    rw [← ei]
    exact .lst (.of upd_same) .nil
end
end Rc

set_option maxHeartbeats 4000000
namespace Rc
open PySem PySem.Spec PyProof.Rows L2
theorem parts_le {tabs : Str → List Track} : ∀ (n : Nat) (nm : Str) (m : Int), (tableRun tabs n nm m).1.length ≤ 2
  | 0, _, _ => Nat.zero_le _
  | n + 1, nm, m => by
    have hs : ∀ (t : Track) (c : Clip) (far m : Int) (l : List Span) (la : Int), (spanRun t c far m l la).1.length ≤ 2 := by
      intro t c far m l
      induction l with
      | nil => intro la; exact Nat.le_succ 1
      | cons s r ih =>
        intro la
        rw [spanRun_cons]
        split
        · cases mixOf t s.2.1 with
          | none => exact Nat.zero_le _
          | some v => exact Nat.le_refl 2
        · split
          · exact ih _
          · exact ih _
    have ht : ∀ (t : Track) (m : Int), (trackRun (tableRun tabs n) t m).1.length ≤ 2 := by
      intro t m
      unfold trackRun
      cases itemAt t m with
      | none => exact Nat.zero_le _
      | some v =>
        obtain ⟨p, far, it⟩ := v
        cases it with
        | gap l => exact Nat.zero_le _
        | mix l => exact Nat.zero_le _
        | nest a s l => exact parts_le n a _
        | clip c => exact hs _ _ _ _ _ _
    have hb : ∀ (ts : List Track) (l : Option Int), (tabRun (tableRun tabs n) m ts l).1.length ≤ 2 := by
      intro ts
      induction ts with
      | nil => intro l; exact Nat.zero_le _
      | cons t r ih =>
        intro l
        rw [tabRun_cons]
        have h1 := ht t m
        cases e : (trackRun (tableRun tabs n) t m).1 with
        | nil => exact ih _
        | cons p ps =>
          rw [e] at h1
          exact h1
    exact hb (tabs nm) none
section
variable {P : Program} {w : World} {K : PySem.W.Frag} {mg : Str → Option Value} {base : Heap} {tabs : Str → List Track}
/-! ### laid_flat -/
def IsEnd (ts : List Track) (e : Int) : Prop := (∀ t ∈ ts, lenOf t ≤ e) ∧ ∃ t ∈ ts, lenOf t = e
def spLaid (K : PySem.W.Frag) (tabs : Str → List Track) (n : Nat) : Sp := fun vs H Q _ => ∃ (z : V) (nm : Str) (e : Int), vs = [z, .str nm] ∧ RoomAt K tabs H z ∧ GoodTab tabs (n + 1) nm ∧ IsEnd (tabs nm) e ∧
  ∀ r ps H', Same H H' → Laid (toldAt tabs (n + 1) nm) ps e → (∀ p ∈ ps, p.2.length ≤ 1000) → ps.length ≤ 100 → Dp K H' r (.list (ps.map encPiece)) → Q r H'
theorem sc_laid_flat : FnScope ["room", "name", "end", "pieces", "moment", "parts", "lasts", "track"] ["room", "name"] (defScope s_laid_flat) := ⟨rfl, rfl, rfl, by decide +kernel, rfl, by decide +kernel, by decide +kernel⟩
theorem ok_laid_flat {n : Nat} (T : Txt K mg) : Keeps P w base (2 * n + 9) T.laid_flat (spLaid K tabs n) := by
  refine T.laid_flat.ok sc_laid_flat (fun vs H Q E h => ?_) (fun cdv A outer s H vs Q E hr h => ?_)
  · obtain ⟨z, nm, e, rfl, _⟩ := h
    rfl
  obtain ⟨z, nm, e, rfl, hz, ok, ⟨he1, he2⟩, k⟩ := h
  have G := run_all (P := P) (w := w) (base := base) (tabs := tabs) T (n + 1)
  obtain ⟨p, td, rv, kvs, rfl, hp, hd, hk⟩ := id hz
  obtain ⟨tb, tl, tv, e1, e2, e3⟩ := hk (n + 1) nm ok
  obtain ⟨la, vs, rfl, hl, hvs⟩ := dp_lst e3
  have hlen : vs.length = (tabs nm).length := (dpa_len hvs).trans (List.length_map _)
  have hget : DGet H td (.str nm) (some (.ref tb)) := by
    have g := DGet.k (k := Sum.inr nm) hd
    rw [e1] at g
    exact g
  have e100 : e ≤ 100 := by
    obtain ⟨t, ht, et⟩ := he2
    rw [← et]
    exact (ok.2.2 t ht).most
  have e0 : 0 ≤ e := by
    obtain ⟨t, ht, et⟩ := he2
    rw [← et]
    exact lenOf_nonneg fun it hi => (wf_ok t _ (ok.2.2 t ht).wf it hi).room
  obtain ⟨tr, etr⟩ := T.pieces
  refine ⟨_, pss_cons (ps_set (i := 2) sc_laid_flat.nd rfl (Or.inl rfl) (pe_callB (cr_max rfl) (by rfl) T.b_max (by decide +kernel) (pa_cons
      (pe_lc (own := [("track", 7)]) (g := gName 7) (tt := tYes) rfl sc_laid_flat.nd (pi_list (pe_ix ix_tup (pe_dget (hu_of hr) (pe_ix ix_tup (pv 0) pe_int (fun _ _ => rfl)) (pv 1) (fun _ _ => rfl)) pe_int (fun _ _ => rfl))) (blkOk_by (N := ["room", "name", "end", "pieces", "moment", "parts", "lasts", "track"]) (sc := defScope s_laid_flat) (by decide +kernel)) (fun _ _ _ _ _ => pg_name (i := 7) sc_laid_flat.nd rfl (Or.inl rfl)) (fun _ _ _ _ _ => pts_nil)
        (fun _ _ _ _ _ => cl T.length_of (ok_length_of T) hr (by omega) (by rfl) (pa_cons (pv 7) pa_nil))) pa_nil)))
    (pss_cons (ps_set (i := 3) sc_laid_flat.nd rfl (Or.inl rfl) (pe_lst pa_nil))
    (pss_cons (ps_set (i := 4) sc_laid_flat.nd rfl (Or.inl rfl) pe_int)
    (pss_cons (ps_while PassesOwn.never (pt_cmpR op_lt (pv 4) (pv 2) (nomark _))
      (pss_cons (ps_asg (cl T.table_run G hr (by omega) (by rfl) (pa_cons (pv 0) (pa_cons (pv 1) (pa_cons (pv 4) pa_nil)))) (pg_tup rfl (pgs_cons (pg_name (i := 5) sc_laid_flat.nd rfl (Or.inl rfl)) (pgs_cons (pg_name (i := 6) sc_laid_flat.nd rfl (Or.inl rfl)) pgs_nil))))
        (pss_cons (ps_set (i := 6) sc_laid_flat.nd rfl (Or.inl rfl) (cl T.sooner (ok_sooner T) hr (by omega) (by rfl) (pa_cons (pv 6) (pa_cons (pe_op op_sub (pv 2) (pv 4)) pa_nil))))
        (pss_cons (ps_expr (pe_bm PySem.F.plainAttrs_list PySem.F.slot_list_append PySem.F.type_list_append mt_append (pv 3) (pa_cons (pe_tup (pa_cons (pv 6) (pa_cons (pv 5) pa_nil))) pa_nil)))
        (pss_cons (ps_if (pt_cmpR op_gt (pe_callB call_len_seq (by rfl) T.b_len PySem.boot_len (pa_cons (pv 3) pa_nil)) (pe_glob (v := .int 400) (by rfl) etr ⟨_, rfl⟩) (nomark _)) (pss_one ps_never) pss_nil)
        (pss_one (ps_aug (i := 4) sc_laid_flat.nd rfl (Or.inl rfl) (pv 6) ip_add)))))))
    (pss_one (ps_ret (pv 3)))))), ?_⟩
  refine ⟨_, rfl, p, _, _, _, rfl, rfl, hp, rfl, _, rfl, td, _, rfl, hget, tb, _, _, _, rfl, rfl, e2, rfl, la, rfl, ⟨_, hl⟩, fun D nD => ?_⟩
  refine lc_list (K := K) (a := la) (xs := vs) (fun i H' => Same H H' ∧ H' D = some (.lst ((((tabs nm).take i).map lenOf).map V.int))) ⟨same_new nD _, by rw [upd_same]; rfl⟩ (fun i H' _ p => p.1.seq hl) ?_ ?_
  · rintro i x H1 ex ⟨sm, eD⟩
    obtain ⟨t, et, dt⟩ := dpm_at (sm.dpAll hvs) ex
    have okt := ok.2.2 t (List.mem_of_getElem? et)
    refine ⟨rfl, ?_⟩
    refine ⟨_, rfl, _, t, rfl, dt, by have := okt.len; omega, fun H2 g2 => ?_⟩
    refine ⟨_, g2 _ _ eD, ?_, same_upd (sm.trans g2) nD, ?_⟩
    · rw [List.length_map, List.length_map, List.length_take]
      have := ok.1
      exact Nat.lt_of_le_of_lt (Nat.min_le_right _ _) (Nat.lt_of_le_of_lt this (by decide))
    · rw [upd_same, List.take_add_one, et, List.map_append, List.map_append]
      rfl
  rintro H1 ⟨sm1, eD⟩
  rw [hlen, List.take_length] at eD
  have hne : 0 < ((tabs nm).map lenOf).length := by
    rw [List.length_map]
    exact List.length_pos_iff.mpr ok.2.1
  refine ⟨D, (tabs nm).map lenOf, rfl, .of eD, hne, fun mx hm hle => ?_⟩
  have emx : mx = e := by
    obtain ⟨t, ht, et⟩ := List.mem_map.mp hm
    obtain ⟨t2, ht2, et2⟩ := he2
    have h1 := he1 t ht
    have h2 := hle (lenOf t2) (List.mem_map.mpr ⟨t2, ht2, rfl⟩)
    omega
  subst emx
  refine ⟨Nat.zero_le _, fun f nf => ?_⟩
  have nfH : H f = none := sm1.free nf
  have s2 := same_new nf (.lst [])
  refine ⟨fun μ σ H' => ∃ (mm : Int) (ps : List Piece) (ws : List V) (y5 y6 : Option V), σ = [some (.ref p), some (.str nm), some (.int mx), some (.ref f), some (.int mm), y5, y6, none] ∧ Same H H' ∧ H' f = some (.lst ws) ∧ DpAll K H' ws (ps.map encPiece) ∧ Laid (toldAt tabs (n + 1) nm) ps mm ∧ (∀ p ∈ ps, p.2.length ≤ 1000) ∧ 0 ≤ mm ∧ mm ≤ mx ∧ μ = (mx - mm).toNat,
    ⟨_, 0, [], [], none, none, rfl, sm1.trans s2, upd_same, .nil, Laid.nil _, (fun p hp => nomatch hp), Int.le_refl 0, e0, rfl⟩, ?_⟩
  rintro μ σ H2 ⟨mm, ps, ws, y5, y6, rfl, sm, ef, dws, L, hps, m0, m1, rfl⟩
  refine ⟨_, rfl, _, rfl, _, _, rfl, rfl, _, rfl, if_d (fun c => ?_) (fun c => ?_)⟩
  · have R := tableRun_ok (n + 1) nm mm ok m0
    refine ⟨fun σ' H' => ∃ (mm' : Int) (ps : List Piece) (ws : List V) (y5 y6 : Option V), σ' = [some (.ref p), some (.str nm), some (.int mx), some (.ref f), some (.int mm'), y5, y6, none] ∧ Same H H' ∧ H' f = some (.lst ws) ∧ DpAll K H' ws (ps.map encPiece) ∧ Laid (toldAt tabs (n + 1) nm) ps mm' ∧ (∀ p ∈ ps, p.2.length ≤ 1000) ∧ mm < mm' ∧ mm' ≤ mx,
      fun σ' H' ⟨mm', ps', ws', y5', y6', z1, z2, z3, z4, z5, z6, z7, z8⟩ => ⟨(mx - mm').toNat, by omega, mm', ps', ws', y5', y6', z1, z2, z3, z4, z5, z6, by omega, z8, rfl⟩, ?_⟩
    refine ⟨_, rfl, _, rfl, _, rfl, _, nm, mm, rfl, hz.same sm, ok, m0, fun r H3 g3 d3 => ?_⟩
    obtain ⟨rr, ru, rfl, hrr, hru⟩ := dp_run d3
    refine ⟨rr, _, rfl, hrr, rfl, _, _, rfl, _, _, rfl, rfl, ?_⟩
    refine ⟨_, rfl, _, rfl, _, rfl, _, _, rfl, rfl, _, some (mx - mm), rfl, ?_⟩
    -- how long the piece lasts
    obtain ⟨la', ela⟩ : ∃ l, sooner (tableRun tabs (n + 1) nm mm).2 (some (mx - mm)) = some l := by
      cases (tableRun tabs (n + 1) nm mm).2 with
      | none => exact ⟨_, rfl⟩
      | some x => exact ⟨_, rfl⟩
    have hpos : 0 < la' := sooner_pos R.pos (fun L hL => by cases hL; omega) la' ela
    have hle1 : la' ≤ mx - mm := by
      cases q : (tableRun tabs (n + 1) nm mm).2 with
      | none =>
        rw [q] at ela
        have ela : some (mx - mm) = some la' := ela
        cases ela
        omega
      | some x =>
        rw [q] at ela
        have ela : some (min x (mx - mm)) = some la' := ela
        cases ela
        omega
    have hle2 : ∀ M, (tableRun tabs (n + 1) nm mm).2 = some M → la' ≤ M := fun M hM => by
      rw [hM] at ela
      have ela : some (min M (mx - mm)) = some la' := ela
      cases ela
      omega
    rw [ela]
    have L2 := L.snoc R hpos hle2
    have hl2 := lenP_nonneg L2.pos
    rw [L2.len, List.length_append, List.length_singleton] at hl2
    have wl : ws.length = ps.length := (dpa_len dws).trans (List.length_map _)
    refine ⟨_, rfl, .inl ⟨rfl, _, SqL.of (g3 _ _ ef)⟩, _, rfl, _, rfl, by show 2 ≤ sizeLine; decide, fun q nq => ?_⟩
    have g4 := same_new nq (.tup [.int la', ru])
    have ef4 := g4 _ _ (g3 _ _ ef)
    have s5 := tup_upd (K := K) (o := .lst (ws ++ [.ref q])) ef4
    refine ⟨f, _, _, rfl, rfl, ef4, Nat.lt_of_le_of_lt (show ws.length ≤ 1000 by omega) (by decide), ?_⟩
    have d5 : DpAll K (upd (upd H3 q (.tup [.int la', ru])) f (.lst (ws ++ [.ref q]))) (ws ++ [.ref q]) ((ps ++ [(la', (tableRun tabs (n + 1) nm mm).1)]).map encPiece) := by
      rw [List.map_append]
      refine dpa_app (dpAll_tups s5 _ _ (noLs_map noL_Piece _) (g4.dpAll (g3.dpAll dws))) (.cons (dp_tups s5 _ _ (noL_Piece _) ?_) .nil)
      exact .tup (.of upd_same) (.cons (.int _) (.cons (g4.dp hru) .nil))
    refine ⟨_, rfl, f, _, rfl, .inl (.of upd_same), _, _, rfl, rfl, _, rfl, if_d (fun c2 => ?_) (fun c2 => ?_)⟩
    · rw [List.length_append, List.length_singleton] at c2
      omega
    · refine ⟨_, rfl, _, rfl, _, _, rfl, rfl, ?_⟩
      refine ⟨mm + la', _, _, some ru, some (.int la'), rfl, same_upd (sm.trans (g3.trans g4)) nfH, upd_same, d5, L2, fun pc hpc => ?_, by omega, by omega⟩
      rcases List.mem_append.mp hpc with z | z
      · exact hps pc z
      · rw [List.mem_singleton.mp z]
        exact Nat.le_trans (parts_le (n + 1) nm mm) (by decide)
  · have emm : mm = mx := by omega
    subst emm
    have hl2 := lenP_nonneg L.pos
    rw [L.len] at hl2
    exact ⟨_, rfl, k _ ps H2 sm L hps (by omega) (.lst (.of ef) dws)⟩
end
end Rc

set_option maxHeartbeats 4000000
namespace Rc
open PySem PySem.Spec PyProof.Rows L2
/-! ### the law's draws: a dict that changes -/
def dKvs (a : Addr) (w l t n k : Int) : List (Key × V) := [(Sum.inr "script", .ref a), (Sum.inr "way", .int w), (Sum.inr "left", .int l), (Sum.inr "at", .int t), (Sum.inr "number", .int n), (Sum.inr "k", .int k)]
section
variable {a : Addr} {w l t n k x : Int}
theorem g_script : valV (dKvs a w l t n k) (Sum.inr ("script" : Str)) = some (.ref a) := by rfl
theorem g_way : valV (dKvs a w l t n k) (Sum.inr ("way" : Str)) = some (.int w) := by rfl
theorem g_left : valV (dKvs a w l t n k) (Sum.inr ("left" : Str)) = some (.int l) := by rfl
theorem g_at : valV (dKvs a w l t n k) (Sum.inr ("at" : Str)) = some (.int t) := by rfl
theorem g_number : valV (dKvs a w l t n k) (Sum.inr ("number" : Str)) = some (.int n) := by rfl
theorem g_k : valV (dKvs a w l t n k) (Sum.inr ("k" : Str)) = some (.int k) := by rfl
theorem p_left : putK (dKvs a w l t n k) (Sum.inr ("left" : Str)) (.int x) = dKvs a w x t n k := by rfl
theorem p_at : putK (dKvs a w l t n k) (Sum.inr ("at" : Str)) (.int x) = dKvs a w l x n k := by rfl
theorem p_number : putK (dKvs a w l t n k) (Sum.inr ("number" : Str)) (.int x) = dKvs a w l t x k := by rfl
theorem p_k : putK (dKvs a w l t n k) (Sum.inr ("k" : Str)) (.int x) = dKvs a w l t n x := by rfl
end
theorem dg {H : Hp} {d : Addr} {kvs : List (Key × V)} {key : Str} {v : V} (e : H d = some (.dK kvs)) (g : valV kvs (Sum.inr key) = some v) : DGet H d (.str key) (some v) := by
  have z := DGet.k (k := Sum.inr key) e
  rw [g] at z
  exact z
theorem dput {H : Hp} {d : Addr} {kvs kvs' : List (Key × V)} {key : Str} {v : V} (e : H d = some (.dK kvs)) (hl : kvs.length ≤ 15) (p : putK kvs (Sum.inr key) v = kvs') : DPut H d (.str key) v (upd H d (.dK kvs')) := by
  have z := DPut.k (k := Sum.inr key) (v := v) e (Nat.lt_of_le_of_lt hl (by decide))
  rw [p] at z
  exact z
/-- all but what stands at d is as it was -/
def But (d : Addr) (H H' : Hp) : Prop := ∀ b o, b ≠ d → H b = some o → H' b = some o
theorem But.refl (d : Addr) (H : Hp) : But d H H := fun _ _ _ h => h
theorem But.trans {d : Addr} {H H1 H2 : Hp} (a : But d H H1) (b : But d H1 H2) : But d H H2 := fun c o n h => b c o n (a c o n h)
theorem But.of {d : Addr} {H H' : Hp} (s : Same H H') : But d H H' := fun b o _ h => s b o h
theorem But.upd {d : Addr} {H : Hp} {o : HO} : But d H (upd H d o) := fun b u n h => by rw [upd_ne n]; exact h
structure DrAt (S : Addr) (K : PySem.W.Frag) (H : Hp) (d : Addr) : Prop where
  ex : ∃ (ns : List Int) (w l t n k : Int), H d = some (.dK (dKvs S w l t n k)) ∧ SqL K H S (ns.map V.int) ∧ 0 ≤ l ∧ 0 ≤ t ∧ 0 ≤ k
section
variable {K : PySem.W.Frag} {H H' : Hp} {d S : Addr}
theorem But.tup {kvs : List (Key × V)} (b : But d H H') (e : H d = some (.dK kvs)) {p : Addr} {xs : List V} (h : SqT K H p xs) : SqT K H' p xs := by
  rcases h with (h | ⟨o, h⟩) | h
  · exact .inl (.inl (b _ _ (ne_of h e (by intro q; cases q)) h))
  · exact .inl (.inr ⟨o, b _ _ (ne_of h e (by intro q; cases q)) h⟩)
  · exact .inr h
theorem But.seq {kvs : List (Key × V)} (b : But d H H') (e : H d = some (.dK kvs)) {p : Addr} {xs : List V} (h : SqL K H p xs) : SqL K H' p xs := by
  rcases h with (h | ⟨o, h⟩) | h
  · exact .inl (.inl (b _ _ (ne_of h e (by intro q; cases q)) h))
  · exact .inl (.inr ⟨o, b _ _ (ne_of h e (by intro q; cases q)) h⟩)
  · exact .inr h
theorem But.reads {kvs : List (Key × V)} (b : But d H H') (e : H d = some (.dK kvs)) : Reads1 K H H' := ⟨fun _ _ h => b.seq e h, fun _ _ h => b.tup e h⟩
theorem DrAt.reads (h : DrAt S K H d) (b : But d H H') : Reads1 K H H' := by
  obtain ⟨ns, w, l, t, n, k, e, _⟩ := h.ex
  exact b.reads e
theorem DrAt.same (h : DrAt S K H d) (s : Same H H') : DrAt S K H' d := by
  obtain ⟨ns, w, l, t, n, k, e, r⟩ := h.ex
  exact ⟨ns, w, l, t, n, k, s _ _ e, s.seq r.1, r.2⟩
theorem DrAt.ne {o : HO} {p : Addr} (h : DrAt S K H d) (e : H p = some o) (n : ∀ kvs : List (Key × V), o ≠ .dK kvs) : p ≠ d := by
  obtain ⟨ns, w, l, t, m, k, e2, _⟩ := h.ex
  exact ne_of e e2 (n _)
end
section
variable {P : Program} {w : World} {K : PySem.W.Frag} {mg : Str → Option Value} {base : Heap}
/-! ### _law_cell_at, _law_mixed -/
def spCell (K : PySem.W.Frag) : Sp := fun vs H Q _ => ∃ (a : Addr) (ns : List Int) (k : Int), vs = [.ref a, .int k] ∧ SqL K H a (ns.map V.int) ∧ 0 ≤ k ∧ ∀ i, Q (.int i) H
theorem sc_law_cell_at : FnScope ["_law_script", "_law_k"] ["_law_script", "_law_k"] (defScope s_law_cell_at) := ⟨rfl, rfl, rfl, by decide +kernel, rfl, by decide +kernel, by decide +kernel⟩
theorem ints_at {ns : List Int} {k : Int} (h0 : 0 ≤ k) (h : k < (ns.length : Int)) : ∃ v : Int, atI (ns.map V.int) k = some (.int v) := by
  have hk : k.toNat < ns.length := by omega
  exact ⟨ns[k.toNat], at_of (j := k.toNat) (by omega) (by rw [List.getElem?_map, List.getElem?_eq_getElem hk]; rfl)⟩
theorem ok_law_cell_at (T : Txt K mg) : Keeps P w base 1 T.law_cell_at (spCell K) := by
  refine T.law_cell_at.ok sc_law_cell_at (fun vs H Q E h => ?_) (fun cdv A outer s H vs Q E hr h => ?_)
  · obtain ⟨a, ns, k, rfl, _⟩ := h
    rfl
  obtain ⟨a, ns, k, rfl, ha, h0, q⟩ := h
  refine ⟨_, pss_cons (ps_if (pt_cmpR op_lt (pv 1) (pe_callB call_len_seq (by rfl) T.b_len PySem.boot_len (pa_cons (pv 0) pa_nil)) (nomark _)) (pss_one (ps_ret (pe_ix ix_list (pv 0) (pv 1) (fun _ _ => rfl)))) pss_nil)
    (pss_one (ps_ret pe_int)), ?_⟩
  refine ⟨_, rfl, _, rfl, a, _, rfl, .inl ha, _, _, rfl, rfl, _, rfl, if_d (fun c => ?_) (fun c => ?_)⟩
  · rw [List.length_map] at c
    obtain ⟨v, hv⟩ := ints_at h0 c
    exact ⟨_, rfl, _, rfl, a, _, _, _, rfl, rfl, ha, hv, q v⟩
  · exact q 0
def spMixed : Sp := fun vs H Q _ => ∃ c k : Int, vs = [.int c, .int k] ∧ ∀ i, 0 ≤ i → i < 2147483647 → Q (.int i) H
theorem sc_law_mixed : FnScope ["_law_cell", "_law_k", "_law_number"] ["_law_cell", "_law_k"] (defScope s_law_mixed) := ⟨rfl, rfl, rfl, by decide +kernel, rfl, by decide +kernel, by decide +kernel⟩
theorem fmod_in {a b : Int} (h : 0 < b) : 0 ≤ a.fmod b ∧ a.fmod b < b := by
  rw [Int.fmod_eq_emod_of_nonneg a (Int.le_of_lt h)]
  exact ⟨Int.emod_nonneg a (by omega), Int.emod_lt_of_pos a h⟩
theorem ok_law_mixed (T : Txt K mg) : Keeps P w base 1 T.law_mixed spMixed := by
  refine T.law_mixed.ok sc_law_mixed (fun vs H Q E h => ?_) (fun cdv A outer s H vs Q E hr h => ?_)
  · obtain ⟨c, k, rfl, _⟩ := h
    rfl
  obtain ⟨c, k, rfl, q⟩ := h
  refine ⟨_, pss_cons (ps_set (i := 2) sc_law_mixed.nd rfl (Or.inl rfl) (pe_op op_modN (pe_op op_mul (pe_op op_add (pe_op op_add (pv 0) (pe_op op_mul pe_int (pv 1))) pe_int) pe_int) pe_int))
    (pss_one (ps_ret (pe_op op_modN (pe_op op_mul (pv 2) (pe_op op_add (pe_op op_fdivN (pv 2) pe_int) pe_int)) pe_int))), ?_⟩
  obtain ⟨n0, n1⟩ := fmod_in (a := (c + 7919 * k + 1) * 48271) (b := 2147483647) (by decide)
  refine ⟨_, rfl, _, rfl, _, _, rfl, rfl, .inl ⟨by decide, by decide⟩, _, _, rfl, rfl, _, _, rfl, rfl, _, _, rfl, rfl, .inr ⟨by decide, by decide⟩, _, _, rfl, rfl, by show (2147483647 : Int) ≠ 0; decide, ?_⟩
  obtain ⟨r0, r1⟩ := fmod_in (a := ((c + 7919 * k + 1) * 48271).fmod 2147483647 * ((((c + 7919 * k + 1) * 48271).fmod 2147483647).fdiv 1009 + 69621)) (b := 2147483647) (by decide)
  refine ⟨_, rfl, _, rfl, _, _, rfl, rfl, ⟨by decide, by decide⟩, _, _, rfl, rfl, _, _, rfl, rfl, .inl ⟨by omega, by omega⟩, _, _, rfl, rfl, by show (2147483647 : Int) ≠ 0; decide, ?_⟩
  exact q _ r0 r1
/-! ### _law_draws -/
def spDraws (K : PySem.W.Frag) : Sp := fun vs H Q _ => ∃ (a : Addr) (ns : List Int), vs = [.ref a] ∧ SqL K H a (ns.map V.int) ∧ ∀ d H', H d = none → Same H H' → DrAt a K H' d → Q (.ref d) H'
theorem sc_law_draws : FnScope ["_law_script", "_law_first"] ["_law_script"] (defScope s_law_draws) := ⟨rfl, rfl, rfl, by decide +kernel, rfl, by decide +kernel, by decide +kernel⟩
theorem ok_law_draws (T : Txt K mg) : Keeps P w base 2 T.law_draws (spDraws K) := by
  refine T.law_draws.ok sc_law_draws (fun vs H Q E h => ?_) (fun cdv A outer s H vs Q E hr h => ?_)
  · obtain ⟨a, ns, rfl, _⟩ := h
    rfl
  obtain ⟨a, ns, rfl, ha, q⟩ := h
  refine ⟨_, pss_cons (ps_set (i := 1) sc_law_draws.nd rfl (Or.inl rfl) (cl T.law_cell_at (ok_law_cell_at T) hr (by decide) (by rfl) (pa_cons (pv 0) (pa_cons pe_int pa_nil))))
    (pss_one (ps_ret (pe_disp (pps_cons pe_str (pv 0) (pps_cons pe_str (pe_op op_modN (pv 1) pe_int) (pps_cons pe_str pe_int (pps_cons pe_str pe_int (pps_cons pe_str (pv 1) (pps_cons pe_str pe_int pps_nil)))))) (by rfl) (by rfl) (fun z => by cases z) (by decide)))), ?_⟩
  refine ⟨_, rfl, a, ns, 0, rfl, ha, Int.le_refl 0, fun i => ?_⟩
  intro d nd
  refine ⟨_, rfl, _, rfl, _, _, rfl, rfl, by show (2 : Int) ≠ 0; decide, _, rfl, upd_same, dKvs a (i.fmod 2) 0 1 i 0, rfl, by show 6 ≤ 15; decide, ?_⟩
  have e : mergeK [] (dKvs a (i.fmod 2) 0 1 i 0) = dKvs a (i.fmod 2) 0 1 i 0 := by rfl
  rw [e]
  have g1 := same_new nd (.dK [])
  have g2 : Same H (upd (upd H d (.dK [])) d (.dK (dKvs a (i.fmod 2) 0 1 i 0))) := same_upd g1 nd
  exact q d _ nd g2 ⟨ns, _, _, _, _, _, upd_same, g2.seq ha, by decide, by decide, by decide⟩
/-! ### _law_next -/
def spNext (K : PySem.W.Frag) : Sp := fun vs H Q _ => ∃ d S : Addr, vs = [.ref d] ∧ DrAt S K H d ∧ ∀ i H', 0 ≤ i → i < 2147483647 → But d H H' → DrAt S K H' d → Q (.int i) H'
theorem sc_law_next : FnScope ["_law_draws_here", "_law_found", "_law_number"] ["_law_draws_here"] (defScope s_law_next) := ⟨rfl, rfl, rfl, by decide +kernel, rfl, by decide +kernel, by decide +kernel⟩
theorem ok_law_next (T : Txt K mg) : Keeps P w base 2 T.law_next (spNext K) := by
  refine T.law_next.ok sc_law_next (fun vs H Q E h => ?_) (fun cdv A outer s H vs Q E hr h => ?_)
  · obtain ⟨d, a, rfl, _⟩ := h
    rfl
  obtain ⟨d, a, rfl, hd, q⟩ := h
  have hu := hu_of hr
  refine ⟨_, pss_cons (ps_while PassesOwn.never (PW.pt (pw_and (pt_cmpR op_eq (pe_dget hu (pv 0) pe_str (fun _ _ => rfl)) pe_int (nomark _)) (pw_and (pt_cmpR op_eq (pe_dget hu (pv 0) pe_str (fun _ _ => rfl)) pe_int (nomark _))
        (pw_and1 (pt_cmpR op_lt (pe_dget hu (pv 0) pe_str (fun _ _ => rfl)) (pe_callB call_len_seq (by rfl) T.b_len PySem.boot_len (pa_cons (pe_dget hu (pv 0) pe_str (fun _ _ => rfl)) pa_nil)) (nomark _))))))
      (pss_cons (ps_dput hu (pv 0) pe_str (pe_callB call_abs (by rfl) T.b_abs (by decide +kernel) (pa_cons (pe_ix ix_list (pe_dget hu (pv 0) pe_str (fun _ _ => rfl)) (pe_dget hu (pv 0) pe_str (fun _ _ => rfl)) (fun _ _ => rfl)) pa_nil)) rfl)
        (pss_one (ps_dput hu (pv 0) pe_str (pe_op op_add (pe_dget hu (pv 0) pe_str (fun _ _ => rfl)) pe_int) rfl))))
    (pss_cons (ps_if (pt_cmpR op_gt (pe_dget hu (pv 0) pe_str (fun _ _ => rfl)) pe_int (nomark _))
      (pss_cons (ps_set (i := 1) sc_law_next.nd rfl (Or.inl rfl) (pe_op op_modN (pe_dget hu (pv 0) pe_str (fun _ _ => rfl)) pe_int))
        (pss_cons (ps_dput hu (pv 0) pe_str (pe_op op_fdivN (pe_dget hu (pv 0) pe_str (fun _ _ => rfl)) pe_int) rfl)
        (pss_one (ps_ret (pv 1))))) pss_nil)
    (pss_cons (ps_dput hu (pv 0) pe_str (pe_op op_add (pe_dget hu (pv 0) pe_str (fun _ _ => rfl)) pe_int) rfl)
    (pss_cons (ps_set (i := 2) sc_law_next.nd rfl (Or.inl rfl) (pe_op op_add (pe_dget hu (pv 0) pe_str (fun _ _ => rfl)) (cl T.law_cell_at (ok_law_cell_at T) hr (by decide) (by rfl) (pa_cons (pe_dget hu (pv 0) pe_str (fun _ _ => rfl)) (pa_cons (pe_dget hu (pv 0) pe_str (fun _ _ => rfl)) pa_nil)))))
    (pss_cons (ps_dput hu (pv 0) pe_str (cl T.law_mixed (ok_law_mixed T) hr (by decide) (by rfl) (pa_cons (pv 2) (pa_cons (pe_dget hu (pv 0) pe_str (fun _ _ => rfl)) pa_nil))) rfl)
    (pss_one (ps_ret (cl T.law_mixed (ok_law_mixed T) hr (by decide) (by rfl) (pa_cons (pe_dget hu (pv 0) pe_str (fun _ _ => rfl)) (pa_cons pe_int pa_nil))))))))), ?_⟩
  obtain ⟨ns, w0, l0, t0, n0, k0, ed, ha, hl, ht, hk⟩ := hd.ex
  -- the while: the first number behind that is not nought
  refine ⟨fun μ σ H' => ∃ l t : Int, σ = [some (.ref d), none, none] ∧ But d H H' ∧ H' d = some (.dK (dKvs a w0 l t n0 k0)) ∧ 0 ≤ l ∧ 0 ≤ t ∧ μ = (ns.length - t).toNat,
    ⟨_, l0, t0, rfl, But.refl d H, ed, hl, ht, rfl⟩, ?_⟩
  rintro μ σ H1 ⟨l, t, rfl, b1, e1, l1, t1, rfl⟩
  have ha1 := b1.seq ed ha
  have out : tSeq
      (tIfS (tTest (tOp (rI0 fun i j => V.bl (decide (j < i))) (tDGet (tVar 0) (tC (V.str (Str.ofString "left")))) (tC (V.int 0))))
        (tSeq (tAsg (tOp (rI (fun x j => j ≠ 0) fun i j => V.int (i.fmod j)) (tDGet (tVar 0) (tC (V.str (Str.ofString "left")))) (tC (V.int 1000003))) (gName 1))
          (tSeq (sDPut (tVar 0) (tC (V.str (Str.ofString "left"))) (tOp (rI CDivN fun i j => V.int (i.fdiv j)) (tDGet (tVar 0) (tC (V.str (Str.ofString "left")))) (tC (V.int 1000003)))) (tRet (tVar 1)))) tNext)
      (tSeq (sDPut (tVar 0) (tC (V.str (Str.ofString "k"))) (tOp (rI0 fun i j => V.int (i + j)) (tDGet (tVar 0) (tC (V.str (Str.ofString "k")))) (tC (V.int 1))))
        (tSeq (tAsg (tOp (rI0 fun i j => V.int (i + j)) (tDGet (tVar 0) (tC (V.str (Str.ofString "number")))) (tCall (spCell K) [] E0 (tCons (tDGet (tVar 0) (tC (V.str (Str.ofString "script")))) (tCons (tDGet (tVar 0) (tC (V.str (Str.ofString "k")))) tNil)))) (gName 2))
          (tSeq (sDPut (tVar 0) (tC (V.str (Str.ofString "number"))) (tCall spMixed [] E0 (tCons (tVar 2) (tCons (tDGet (tVar 0) (tC (V.str (Str.ofString "k")))) tNil))))
            (tRet (tCall spMixed [] E0 (tCons (tDGet (tVar 0) (tC (V.str (Str.ofString "number")))) (tCons (tC (V.int 7)) tNil)))))))
      { nx := fun x H' => Q V.non H', rt := Q } [some (.ref d), none, none] H1 := by
    refine ⟨_, rfl, d, _, rfl, dg e1 g_left, _, _, rfl, rfl, _, rfl, if_d (fun c => ?_) (fun c => ?_)⟩
    · obtain ⟨r0, r1⟩ := fmod_in (a := l) (b := 1000003) (by decide)
      refine ⟨_, rfl, d, _, rfl, dg e1 g_left, _, _, rfl, rfl, by show (1000003 : Int) ≠ 0; decide, ?_⟩
      refine ⟨_, rfl, d, _, rfl, dg e1 g_left, _, _, rfl, rfl, ⟨by decide, by decide⟩, _, rfl, d, _, rfl, dput e1 (by show 6 ≤ 15; decide) p_left, ?_⟩
      refine ⟨_, rfl, q _ _ r0 (by omega) (b1.trans But.upd) ⟨ns, _, _, _, _, _, upd_same, But.upd.seq e1 ha1, ?_, t1, hk⟩⟩
      rw [Int.fdiv_eq_ediv_of_nonneg _ (by decide : (0 : Int) ≤ 1000003)]
      exact Int.ediv_nonneg l1 (by decide)
    · refine ⟨_, rfl, d, _, rfl, dg e1 g_k, _, _, rfl, rfl, _, rfl, d, _, rfl, dput e1 (by show 6 ≤ 15; decide) p_k, ?_⟩
      have e2 : (upd H1 d (.dK (dKvs a w0 l t n0 (k0 + 1)))) d = some (.dK (dKvs a w0 l t n0 (k0 + 1))) := upd_same
      have b2 : But d H1 (upd H1 d (.dK (dKvs a w0 l t n0 (k0 + 1)))) := But.upd
      generalize upd H1 d (.dK (dKvs a w0 l t n0 (k0 + 1))) = H2 at e2 b2 ⊢
      have ha2 := b2.seq e1 ha1
      refine ⟨_, rfl, d, _, rfl, dg e2 g_number, _, rfl, d, _, rfl, dg e2 g_script, _, rfl, d, _, rfl, dg e2 g_k, a, ns, _, rfl, ha2, by omega, fun v => ⟨_, _, rfl, rfl, ?_⟩⟩
      refine ⟨_, rfl, _, rfl, d, _, rfl, dg e2 g_k, _, _, rfl, fun m m0 m1 => ⟨_, rfl, d, _, rfl, dput e2 (by show 6 ≤ 15; decide) p_number, ?_⟩⟩
      have e3 : (upd H2 d (.dK (dKvs a w0 l t m (k0 + 1)))) d = some (.dK (dKvs a w0 l t m (k0 + 1))) := upd_same
      have b3 : But d H2 (upd H2 d (.dK (dKvs a w0 l t m (k0 + 1)))) := But.upd
      generalize upd H2 d (.dK (dKvs a w0 l t m (k0 + 1))) = H3 at e3 b3 ⊢
      refine ⟨_, rfl, d, _, rfl, dg e3 g_number, _, _, rfl, fun r r0 r1 => ?_⟩
      exact q r H3 r0 r1 (b1.trans (b2.trans b3)) ⟨ns, _, _, _, _, _, e3, b3.seq e2 ha2, l1, t1, by omega⟩
  refine ⟨_, rfl, d, _, rfl, dg e1 g_way, rfl, _, rfl, if_eq (fun c => ?_) (fun c => ?_)⟩
  · refine ⟨_, rfl, d, _, rfl, dg e1 g_left, rfl, _, rfl, if_eq (fun c2 => ?_) (fun c2 => ?_)⟩
    · refine ⟨_, rfl, d, _, rfl, dg e1 g_at, _, rfl, d, _, rfl, dg e1 g_script, a, _, rfl, .inl ha1, _, _, rfl, rfl, _, rfl, if_d (fun c3 => ?_) (fun c3 => ?_)⟩
      · rw [List.length_map] at c3
        obtain ⟨v, hv⟩ := ints_at t1 c3
        refine ⟨fun σ' H' => ∃ l' : Int, σ' = [some (.ref d), none, none] ∧ But d H H' ∧ H' d = some (.dK (dKvs a w0 l' (t + 1) n0 k0)) ∧ 0 ≤ l', fun σ' H' ⟨l', z1, z2, z3, z4⟩ => ⟨(ns.length - (t + 1)).toNat, by omega, l', t + 1, z1, z2, z3, z4, by omega, rfl⟩, ?_⟩
        refine ⟨_, rfl, d, _, rfl, dg e1 g_script, _, rfl, d, _, rfl, dg e1 g_at, a, _, _, _, rfl, rfl, ha1, hv, _, rfl, _, rfl, d, _, rfl, dput e1 (by show 6 ≤ 15; decide) p_left, ?_⟩
        refine ⟨_, rfl, d, _, rfl, dg upd_same g_at, _, _, rfl, rfl, _, rfl, d, _, rfl, dput upd_same (by show 6 ≤ 15; decide) p_at, ?_⟩
        refine ⟨_, rfl, b1.trans (But.upd.trans But.upd), upd_same, ?_⟩
        split <;> omega
      · exact out
    · exact out
  · exact out
end
end Rc

set_option maxHeartbeats 4000000
namespace Rc
open PySem PySem.Spec PyProof.Rows L2
theorem mkF_abs {t b A : Int} (hb : 0 < b) (h1 : -A ≤ t) (h2 : t ≤ A) : -A ≤ (mkF t b).1 ∧ (mkF t b).1 ≤ A := by
  have g0 := gcd_pos (t := t) hb
  show -A ≤ t / (Int.gcd t b : Int) ∧ t / (Int.gcd t b : Int) ≤ A
  generalize (Int.gcd t b : Int) = g at g0
  by_cases c : 0 ≤ t
  · have h3 := Int.ediv_nonneg c (Int.le_of_lt g0)
    have h4 := Int.ediv_le_self g c
    omega
  · have h3 := Int.ediv_neg_of_neg_of_pos (show t < 0 by omega) g0
    have h4 : t ≤ t / g := by
      refine Int.le_ediv_of_mul_le g0 ?_
      have h5 : t * g ≤ t * 1 := Int.mul_le_mul_of_nonpos_left (by omega) (by omega)
      omega
    omega
/-- the two reels -/
def rKvs (m n : Int) : List (Key × V) := [(Sum.inr "ra", .int m), (Sum.inr "rb", .int n)]
def ReelsX (H : Hp) (v : V) : Prop := ∃ (a : Addr) (m n : Int), v = .ref a ∧ H a = some (.dK (rKvs m n)) ∧ 0 < m ∧ m ≤ 60 ∧ 0 < n ∧ n ≤ 60
theorem ReelsX.at {H : Hp} {v : V} (h : ReelsX H v) : ReelsAt H v := by
  obtain ⟨a, m, n, e, ha, m0, m1, n0, n1⟩ := h
  refine ⟨a, _, e, ha, fun r hr => ?_⟩
  rcases hr with hr | hr
  · rw [hr]
    exact ⟨m, rfl, m0, m1⟩
  · rw [hr]
    exact ⟨n, rfl, n0, n1⟩
theorem ReelsX.but {K : PySem.W.Frag} {H H' : Hp} {v : V} {d S : Addr} (h : ReelsX H v) (hd : DrAt S K H d) (b : But d H H') : ReelsX H' v := by
  obtain ⟨a, m, n, e, ha, r⟩ := h
  obtain ⟨ns, w, l, t, n2, k, e2, _⟩ := hd.ex
  refine ⟨a, m, n, e, b _ _ (ne_of ha e2 fun q => ?_) ha, r⟩
  have q2 : rKvs m n = dKvs S w l t n2 k := HO.dK.inj q
  have q3 := congrArg List.length q2
  exact absurd q3 (by show ¬ 2 = 6; decide)
theorem ReelsX.same {H H' : Hp} {v : V} (h : ReelsX H v) (s : Same H H') : ReelsX H' v := by
  obtain ⟨a, m, n, e, ha, r⟩ := h
  exact ⟨a, m, n, e, s _ _ ha, r⟩
theorem DrAt.dp {K : PySem.W.Frag} {H H' : Hp} {d S : Addr} (h : DrAt S K H d) (b : But d H H') {v : V} {x : PyData} (hv : Dp K H v x) : Dp K H' v x := dp_mono (h.reads b) x v hv
theorem DrAt.dpAll {K : PySem.W.Frag} {H H' : Hp} {d S : Addr} (h : DrAt S K H d) (b : But d H H') {v : List V} {x : List PyData} (hv : DpAll K H v x) : DpAll K H' v x := dpAll_mono (h.reads b) x v hv
section
variable {P : Program} {w : World} {K : PySem.W.Frag} {mg : Str → Option Value} {base : Heap}
/-! ### _law_fraction, _law_there -/
theorem sc_law_fraction : FnScope ["_law_top", "_law_bottom", "_law_one", "_law_other"] ["_law_top", "_law_bottom"] (defScope s_law_fraction) := ⟨rfl, rfl, rfl, by decide +kernel, rfl, by decide +kernel, by decide +kernel⟩
theorem ok_law_fraction (T : Txt K mg) : Keeps P w base 1 T.law_fraction (spFraction K) := by
  refine T.law_fraction.ok sc_law_fraction (fun vs H Q E h => ?_) (fun cdv A outer s H vs Q E hr h => ?_)
  · obtain ⟨t, b, rfl, _⟩ := h
    rfl
  obtain ⟨t, b, rfl, h0, h1, q⟩ := h
  refine ⟨_, pss_cons (ps_set (i := 2) sc_law_fraction.nd rfl (Or.inl rfl) (pe_callB call_abs (by rfl) T.b_abs (by decide +kernel) (pa_cons (pv 0) pa_nil)))
    (pss_cons (ps_set (i := 3) sc_law_fraction.nd rfl (Or.inl rfl) (pv 1))
    (pss_cons (ps_while PassesOwn.never (pt_cmpR op_ne (pv 3) pe_int (nomark _)) (pss_one (ps_par (i := 2) (j := 3) rfl sc_law_fraction.nd rfl rfl (by decide) rfl rfl (pa_cons (pv 3) (pa_cons (pe_op op_modN (pv 2) (pv 3)) pa_nil)) (by rfl))))
    (pss_one (ps_ret (pe_tup (pa_cons (pe_op op_fdivN (pv 0) (pv 2)) (pa_cons (pe_op op_fdivN (pv 1) (pv 2)) pa_nil))))))), ?_⟩
  refine ⟨_, rfl, _, rfl, _, rfl, ?_⟩
  have ga : Int.gcd (if t < 0 then -t else t) b = Int.gcd t b := by
    split
    · rw [Int.neg_gcd]
    · rfl
  refine ⟨fun m σ H' => ∃ a' b' : Int, σ = [some (.int t), some (.int b), some (.int a'), some (.int b')] ∧ H' = H ∧ 0 ≤ a' ∧ 0 ≤ b' ∧ m = b'.natAbs ∧ Int.gcd a' b' = Int.gcd t b, ⟨_, _, b, rfl, rfl, by split <;> omega, Int.le_of_lt h0, rfl, ga⟩, ?_⟩
  rintro m σ H' ⟨a', b', rfl, rfl, ha', hb', rfl, e⟩
  refine ⟨_, rfl, rfl, _, rfl, if_ne (fun c => ?_) (fun c => ?_)⟩
  · obtain ⟨g0, g1, g2⟩ := gcd_step (a := a') hb' c
    refine ⟨fun σ' H'' => σ' = [some (.int t), some (.int b), some (.int b'), some (.int (a'.fmod b'))] ∧ H'' = H', fun σ' H'' z => ⟨_, g2, _, _, z.1, z.2, hb', g0, rfl, g1.trans e⟩, ?_⟩
    exact ⟨_, rfl, _, rfl, _, rfl, _, _, rfl, rfl, c, _, _, rfl, rfl, rfl⟩
  · subst c
    have z : a' = ((Int.gcd t b : Nat) : Int) := by
      rw [← e, Int.gcd_zero]
      omega
    subst z
    have g0 := gcd_pos (t := t) h0
    have g1 := gcd_le (t := t) h0
    refine ⟨_, rfl, _, rfl, _, _, rfl, rfl, ⟨by omega, by omega⟩, _, rfl, _, rfl, _, _, rfl, rfl, ⟨by omega, by omega⟩, by show 2 ≤ sizeLine; decide, fun p hp => ?_⟩
    refine q _ _ (same_new hp _) (F_dp (.of ?_))
    rw [upd_same]
    show some (HO.tup [.int (t.fdiv (Int.gcd t b : Int)), .int (b.fdiv (Int.gcd t b : Int))]) = _
    rw [Int.fdiv_eq_ediv_of_nonneg _ (Int.le_of_lt g0), Int.fdiv_eq_ediv_of_nonneg _ (Int.le_of_lt g0)]
    rfl
def spThere (K : PySem.W.Frag) : Sp := fun vs H Q _ => ∃ (x : V) (ra : Addr) (c : Clip) (k n : Int), vs = [x, .int k, .ref ra] ∧ Dp K H x (encI (.clip c)) ∧ ClipOk c ∧ DGet H ra (.str c.reel) (some (.int n)) ∧
  ∀ b : Bool, (k = 0 → 0 ≤ c.start.1 / c.start.2 → c.start.1 / c.start.2 < n → b = true) → Q (.bl b) H
theorem sc_law_there : FnScope ["_law_clip_here", "_law_k", "_law_reels", "_law_value"] ["_law_clip_here", "_law_k", "_law_reels"] (defScope s_law_there) := ⟨rfl, rfl, rfl, by decide +kernel, rfl, by decide +kernel, by decide +kernel⟩
theorem ok_law_there (T : Txt K mg) : Keeps P w base 1 T.law_there (spThere K) := by
  refine T.law_there.ok sc_law_there (fun vs H Q E h => ?_) (fun cdv A outer s H vs Q E hr h => ?_)
  · obtain ⟨x, ra, c, k, n, rfl, _⟩ := h
    rfl
  obtain ⟨x, ra, c, k, n, rfl, hx, ok, hg, q⟩ := h
  obtain ⟨a, u, v, rfl, ha, hu, hv⟩ := dp_clip hx
  obtain ⟨pu, rfl, hpu⟩ := dp_F hu
  obtain ⟨pq, rfl, hpq⟩ := dp_F hv
  have s0 := ok.s0
  have s8 := ok.s8
  have t0 := ok.t0
  have t8 := ok.t8
  have lo := ok.lo
  have hi := ok.hi
  refine ⟨_, pss_cons (ps_set (i := 3) sc_law_there.nd rfl (Or.inl rfl) (pe_op op_add (pe_op op_mul (pe_ix ix_tup (pe_ix ix_tup (pv 0) pe_int (fun _ _ => rfl)) pe_int (fun _ _ => rfl)) (pe_ix ix_tup (pe_ix ix_tup (pv 0) pe_int (fun _ _ => rfl)) pe_int (fun _ _ => rfl)))
      (pe_op op_mul (pe_op op_mul (pv 1) (pe_ix ix_tup (pe_ix ix_tup (pv 0) pe_int (fun _ _ => rfl)) pe_int (fun _ _ => rfl))) (pe_ix ix_tup (pe_ix ix_tup (pv 0) pe_int (fun _ _ => rfl)) pe_int (fun _ _ => rfl)))))
    (pss_one (ps_ret (pe_chain op_le op_lt pe_int (pe_op op_fdivN (pv 3) (pe_op op_mul (pe_ix ix_tup (pe_ix ix_tup (pv 0) pe_int (fun _ _ => rfl)) pe_int (fun _ _ => rfl)) (pe_ix ix_tup (pe_ix ix_tup (pv 0) pe_int (fun _ _ => rfl)) pe_int (fun _ _ => rfl))))
      (pe_dget (hu_of hr) (pv 2) (pe_ix ix_tup (pv 0) pe_int (fun _ _ => rfl)) (fun _ _ => rfl))))), ?_⟩
  have m0 : 0 < c.start.2 * c.step.2 := Int.mul_pos s0 t0
  have m1 : c.start.2 * c.step.2 ≤ 8 * 8 := Int.mul_le_mul s8 t8 (Int.le_of_lt t0) (by decide)
  refine ⟨_, rfl, a, _, _, _, rfl, rfl, ha, rfl, pu, _, _, _, rfl, rfl, hpu, rfl, _, rfl, a, _, _, _, rfl, rfl, ha, rfl, pq, _, _, _, rfl, rfl, hpq, rfl, _, _, rfl, rfl, .inr ⟨by omega, by omega⟩, ?_⟩
  refine ⟨_, rfl, _, rfl, a, _, _, _, rfl, rfl, ha, rfl, pq, _, _, _, rfl, rfl, hpq, rfl, _, _, rfl, rfl, .inr ⟨by omega, by omega⟩, _, rfl, a, _, _, _, rfl, rfl, ha, rfl, pu, _, _, _, rfl, rfl, hpu, rfl, _, _, rfl, rfl, .inr ⟨by omega, by omega⟩, _, _, rfl, rfl, ?_⟩
  refine ⟨_, rfl, _, rfl, a, _, _, _, rfl, rfl, ha, rfl, pu, _, _, _, rfl, rfl, hpu, rfl, _, rfl, a, _, _, _, rfl, rfl, ha, rfl, pq, _, _, _, rfl, rfl, hpq, rfl, _, _, rfl, rfl, .inr ⟨by omega, by omega⟩, _, _, rfl, rfl, ⟨by omega, by omega⟩, ?_⟩
  have ev : k = 0 → (c.start.1 * c.step.2 + k * c.step.1 * c.start.2).fdiv (c.start.2 * c.step.2) = c.start.1 / c.start.2 := fun z => by
    rw [Int.fdiv_eq_ediv_of_nonneg _ (Int.le_of_lt m0), z, Int.zero_mul, Int.zero_mul, Int.add_zero, Int.mul_comm c.start.1 c.step.2, Int.mul_comm c.start.2 c.step.2, Int.mul_ediv_mul_of_pos _ _ t0]
  refine ⟨_, _, rfl, rfl, _, rfl, if_d (fun c1 => ?_) (fun c1 => ?_)⟩
  · refine ⟨_, rfl, _, rfl, a, _, _, _, rfl, rfl, ha, rfl, ra, _, rfl, hg, _, _, rfl, rfl, ?_⟩
    refine q _ fun z z1 z2 => decide_eq_true ?_
    rw [ev z]
    exact z2
  · refine q _ fun z z1 z2 => absurd ?_ c1
    rw [ev z]
    exact z1
end
end Rc

set_option maxHeartbeats 4000000
namespace Rc
open PySem PySem.Spec PyProof.Rows L2
theorem clip_made {r : Str} {t1 b1 t2 b2 l : Int} (hr : ReelOk r) (h1 : -20 ≤ t1) (h2 : t1 ≤ 20) (h3 : 0 < b1) (h4 : b1 ≤ 8) (h5 : 0 < b2) (h6 : b2 ≤ 8) (h7 : 0 < l) (h8 : l ≤ 12) : ClipOk ⟨r, mkF t2 b2, mkF t1 b1, l⟩ := by
  obtain ⟨a1, a2⟩ := mkF_abs h3 h1 h2
  exact ⟨h7, h8, mkF_pos h5, Int.le_trans (mkF_le h5) h6, mkF_pos h3, Int.le_trans (mkF_le h3) h4, a1, a2, hr⟩
section
variable {P : Program} {w : World} {K : PySem.W.Frag} {mg : Str → Option Value} {base : Heap}
/-! ### _law_clip -/
def spLawClip (K : PySem.W.Frag) : Sp := fun vs H Q _ => ∃ (d S : Addr) (y : V), vs = [.ref d, y] ∧ DrAt S K H d ∧ ReelsX H y ∧ ∀ r c H', But d H H' → DrAt S K H' d → ClipOk c → Dp K H' r (encI (.clip c)) → Q r H'
theorem sc_law_clip : FnScope ["_law_draws_here", "_law_reels", "_law_names", "_law_name", "_law_step", "_law_bottom", "_law_start", "_law_length"] ["_law_draws_here", "_law_reels"] (defScope s_law_clip) := ⟨rfl, rfl, rfl, by decide +kernel, rfl, by decide +kernel, by decide +kernel⟩
theorem ok_law_clip (T : Txt K mg) : Keeps P w base 3 T.law_clip (spLawClip K) := by
  refine T.law_clip.ok sc_law_clip (fun vs H Q E h => ?_) (fun cdv A outer s H vs Q E hr h => ?_)
  · obtain ⟨d, S, y, rfl, _⟩ := h
    rfl
  obtain ⟨d, S, y, rfl, hd, hy, q⟩ := h
  have N := ok_law_next (P := P) (w := w) (base := base) T
  have F := ok_law_fraction (P := P) (w := w) (base := base) T
  refine ⟨_, pss_cons (ps_set (i := 2) sc_law_clip.nd rfl (Or.inl rfl) (pe_callTy (call_list_dK rfl) (by rfl) T.b_list (by decide +kernel) (pa_cons (pv 1) pa_nil)))
    (pss_cons (ps_set (i := 3) sc_law_clip.nd rfl (Or.inl rfl) (pe_ix ix_list (pv 2) (pe_op op_modN (cl T.law_next N hr (by decide) (by rfl) (pa_cons (pv 0) pa_nil)) (pe_callB call_len_seq (by rfl) T.b_len PySem.boot_len (pa_cons (pv 2) pa_nil))) (fun _ _ => rfl)))
    (pss_cons (ps_set (i := 4) sc_law_clip.nd rfl (Or.inl rfl) (cl T.law_fraction F hr (by decide) (by rfl) (pa_cons (pe_op op_sub (pe_op op_modN (cl T.law_next N hr (by decide) (by rfl) (pa_cons (pv 0) pa_nil)) pe_int) pe_int) (pa_cons (pe_op op_add pe_int (pe_op op_modN (cl T.law_next N hr (by decide) (by rfl) (pa_cons (pv 0) pa_nil)) pe_int)) pa_nil))))
    (pss_cons (ps_set (i := 5) sc_law_clip.nd rfl (Or.inl rfl) (pe_op op_add pe_int (pe_op op_modN (cl T.law_next N hr (by decide) (by rfl) (pa_cons (pv 0) pa_nil)) pe_int)))
    (pss_cons (ps_set (i := 6) sc_law_clip.nd rfl (Or.inl rfl) (cl T.law_fraction F hr (by decide) (by rfl) (pa_cons (pe_op op_modN (cl T.law_next N hr (by decide) (by rfl) (pa_cons (pv 0) pa_nil)) (pe_op op_mul (pe_dget (hu_of hr) (pv 1) (pv 3) (fun _ _ => rfl)) (pv 5))) (pa_cons (pv 5) pa_nil))))
    (pss_cons (ps_set (i := 7) sc_law_clip.nd rfl (Or.inl rfl) (pe_op op_add pe_int (pe_op op_modN (cl T.law_next N hr (by decide) (by rfl) (pa_cons (pv 0) pa_nil)) pe_int)))
    (pss_cons (ps_while PassesOwn.never (pt_not (pt_val (cl T.law_there (ok_law_there T) hr (by decide) (by rfl) (pa_cons (pe_tup (pa_cons pe_str (pa_cons (pv 3) (pa_cons (pv 6) (pa_cons (pv 4) (pa_cons (pv 7) pa_nil)))))) (pa_cons (pe_op op_sub (pv 7) pe_int) (pa_cons (pv 1) pa_nil))))))
      (pss_one (ps_set (i := 7) sc_law_clip.nd rfl (Or.inl rfl) (pe_op op_sub (pv 7) pe_int))))
    (pss_one (ps_ret (pe_tup (pa_cons pe_str (pa_cons (pv 3) (pa_cons (pv 6) (pa_cons (pv 4) (pa_cons (pv 7) pa_nil)))))))))))))), ?_⟩
  obtain ⟨ra, nm, nn, rfl, hra, b0, b1, b2, b3⟩ := id hy
  refine ⟨_, rfl, ra, _, rfl, hra, fun qn nq => ?_⟩
  have g0 := same_new nq (.lst ((rKvs nm nn).map fun kv => kV kv.1))
  have hd0 := hd.same g0
  have eN : (upd H qn (.lst ((rKvs nm nn).map fun kv => kV kv.1))) qn = some (.lst [.str "ra", .str "rb"]) := by rw [upd_same]; rfl
  generalize upd H qn (.lst ((rKvs nm nn).map fun kv => kV kv.1)) = H0 at g0 hd0 eN ⊢
  -- the name
  refine ⟨_, rfl, _, rfl, d, S, rfl, hd0, fun i1 H1 i10 i11 c1 hd1 => ?_⟩
  have eN1 : H1 qn = some (.lst [.str "ra", .str "rb"]) := c1 _ _ (hd0.ne eN (by intro kvs z; cases z)) eN
  have r1 : ReelsX H1 (.ref ra) := (hy.same g0).but hd0 c1
  obtain ⟨f0, f1⟩ := fmod_in (a := i1) (b := 2) (by decide)
  obtain ⟨rn, hat, hrn⟩ : ∃ rn : Str, atI [V.str "ra", V.str "rb"] (i1.fmod 2) = some (.str rn) ∧ ReelOk rn := by
    have e : i1.fmod 2 = 0 ∨ i1.fmod 2 = 1 := by omega
    rcases e with e | e
    · rw [e]
      exact ⟨"ra", rfl, .inl rfl⟩
    · rw [e]
      exact ⟨"rb", rfl, .inr rfl⟩
  refine ⟨_, rfl, qn, _, rfl, .inl (.of eN1), _, _, rfl, rfl, by show (2 : Int) ≠ 0; decide, qn, _, _, _, rfl, rfl, .of eN1, hat, ?_⟩
  -- the step
  refine ⟨_, rfl, d, S, rfl, hd1, fun i2 H2 i20 i21 c2 hd2 => ⟨_, _, rfl, rfl, by show (41 : Int) ≠ 0; decide, _, _, rfl, rfl, ?_⟩⟩
  refine ⟨_, rfl, d, S, rfl, hd2, fun i3 H3 i30 i31 c3 hd3 => ⟨_, _, rfl, rfl, by show (8 : Int) ≠ 0; decide, _, _, rfl, rfl, ?_⟩⟩
  obtain ⟨s0, s1⟩ := fmod_in (a := i2) (b := 41) (by decide)
  obtain ⟨s2, s3⟩ := fmod_in (a := i3) (b := 8) (by decide)
  refine ⟨_, _, rfl, by omega, by omega, fun v4 H4 g4 d4 => ?_⟩
  have hd4 := hd3.same g4
  -- the bottom
  refine ⟨_, rfl, d, S, rfl, hd4, fun i5 H5 i50 i51 c5 hd5 => ⟨_, _, rfl, rfl, by show (8 : Int) ≠ 0; decide, _, _, rfl, rfl, ?_⟩⟩
  obtain ⟨u0, u1⟩ := fmod_in (a := i5) (b := 8) (by decide)
  -- the start
  refine ⟨_, rfl, d, S, rfl, hd5, fun i6 H6 i60 i61 c6 hd6 => ?_⟩
  have r6 : ReelsX H6 (.ref ra) := ((((r1.but hd1 c2).but hd2 c3).same g4).but hd4 c5).but hd5 c6
  obtain ⟨n, hn, n0, n1⟩ := r6.at.get hrn
  have hbot : 0 < 1 + i5.fmod 8 := by omega
  have hprod : 0 < n * (1 + i5.fmod 8) := Int.mul_pos n0 hbot
  refine ⟨_, rfl, _, rfl, ra, _, rfl, hn, _, rfl, _, _, rfl, rfl, .inl ⟨by omega, by omega⟩, _, _, rfl, rfl, (by show n * (1 + i5.fmod 8) ≠ 0; omega), ?_⟩
  obtain ⟨w0, w1⟩ := fmod_in (a := i6) hprod
  refine ⟨_, rfl, _, _, rfl, hbot, by omega, fun v7 H7 g7 d7 => ?_⟩
  have hd7 := hd6.same g7
  -- the length
  refine ⟨_, rfl, d, S, rfl, hd7, fun i8 H8 i80 i81 c8 hd8 => ⟨_, _, rfl, rfl, by show (12 : Int) ≠ 0; decide, _, _, rfl, rfl, ?_⟩⟩
  obtain ⟨l0, l1⟩ := fmod_in (a := i8) (b := 12) (by decide)
  have dstep : Dp K H8 v4 (encF (mkF (i2.fmod 41 - 20) (1 + i3.fmod 8))) := hd7.dp c8 (g7.dp (hd5.dp c6 (hd4.dp c5 d4)))
  have dstart : Dp K H8 v7 (encF (mkF (i6.fmod (n * (1 + i5.fmod 8))) (1 + i5.fmod 8))) := hd7.dp c8 d7
  have r8 : ReelsX H8 (.ref ra) := (r6.same g7).but hd7 c8
  obtain ⟨n', hn', _⟩ := r8.at.get hrn
  have enn : n' = n := by
    obtain ⟨ra', m', nn', e', h', _⟩ := r8
    cases e'
    have z6 : H6 ra = some (.dK (rKvs m' nn')) := by
      obtain ⟨ra2, m2, n2, e2, h2, _⟩ := r6
      cases e2
      have z := c8 _ _ (fun z => by
        rw [z] at h2
        obtain ⟨ns, w, l, t, n3, k, e3, _⟩ := hd6.ex
        rw [e3] at h2
        have q3 := congrArg List.length (HO.dK.inj (Option.some.inj h2))
        exact absurd q3 (by show ¬ 6 = 2; decide)) (g7 _ _ h2)
      rw [h'] at z
      rw [h2, Option.some.inj z]
    rcases hn with ⟨kvs, key, hr1, e1, e2⟩ | ⟨kvs, key, b, hr1, e1, _⟩
    · rcases hn' with ⟨kvs2, key2, hr2, e3, e4⟩ | ⟨kvs2, key2, b2, hr2, e3, _⟩
      · have k1 : key = Sum.inr rn := by
          cases key with
          | inl i => cases e1
          | inr x => cases e1; rfl
        have k2 : key2 = Sum.inr rn := by
          cases key2 with
          | inl i => cases e3
          | inr x => cases e3; rfl
        subst k1 k2
        have x1 : kvs = rKvs m' nn' := by
          rcases hr1 with z | ⟨o, z⟩
          · rw [z6] at z
            exact (HO.dK.inj (Option.some.inj z)).symm
          · rw [z6] at z
            cases z
        have x2 : kvs2 = rKvs m' nn' := by
          rcases hr2 with z | ⟨o, z⟩
          · rw [h'] at z
            exact (HO.dK.inj (Option.some.inj z)).symm
          · rw [h'] at z
            cases z
        rw [x1] at e2
        rw [x2] at e4
        rw [← e2] at e4
        have e5 := Option.some.inj e4
        cases e5
        rfl
      · cases e3
    · cases e1
  subst enn
  have bt : But d H H8 := (But.of g0).trans (c1.trans (c2.trans (c3.trans ((But.of g4).trans (c5.trans (c6.trans ((But.of g7).trans c8)))))))
  have mk : ∀ l, 0 < l → l ≤ 12 → ClipOk ⟨rn, mkF (i6.fmod (n' * (1 + i5.fmod 8))) (1 + i5.fmod 8), mkF (i2.fmod 41 - 20) (1 + i3.fmod 8), l⟩ := fun l z0 z1 => clip_made hrn (by omega) (by omega) (by omega) (by omega) hbot (by omega) z0 z1
  refine ⟨fun μ σ H' => ∃ l : Int, σ = [some (.ref d), some (.ref ra), some (.ref qn), some (.str rn), some v4, some (.int (1 + i5.fmod 8)), some v7, some (.int l)] ∧ Same H8 H' ∧ 0 < l ∧ l ≤ 12 ∧ μ = l.toNat,
    ⟨_, _, rfl, Same.refl H8, by omega, by omega, rfl⟩, ?_⟩
  rintro μ σ H9 ⟨l, rfl, sm, z0, z1, rfl⟩
  refine ⟨_, rfl, _, rfl, _, rfl, _, rfl, by show 5 ≤ sizeLine; decide, fun t nt => ?_⟩
  have g9 := same_new nt (.tup [.str "clip", .str rn, v7, v4, .int l])
  obtain ⟨n2, hn2, _⟩ := (r8.same (sm.trans g9)).at.get hrn
  have dgN : DGet (upd H9 t (.tup [.str "clip", .str rn, v7, v4, .int l])) ra (.str rn) (some (.int n')) := by
    rcases hn' with ⟨kvs, key, hr1, e1, e2⟩ | ⟨kvs, key, b, hr1, e1, _⟩
    · refine .inl ⟨kvs, key, ?_, e1, e2⟩
      rcases hr1 with z | ⟨o, z⟩
      · exact .inl (g9 _ _ (sm _ _ z))
      · exact .inr ⟨o, g9 _ _ (sm _ _ z)⟩
    · cases e1
  refine ⟨_, rfl, _, _, rfl, rfl, _, rfl, _, ra, ⟨rn, mkF (i6.fmod (n' * (1 + i5.fmod 8))) (1 + i5.fmod 8), mkF (i2.fmod 41 - 20) (1 + i3.fmod 8), l⟩, l - 1, n', rfl, ?_, mk l z0 z1, dgN, fun b hb => ⟨b, rfl, ?_⟩⟩
  · exact .tup (.of upd_same) (.cons (.str _) (.cons (.str _) (.cons (g9.dp (sm.dp dstart)) (.cons (g9.dp (sm.dp dstep)) (.cons (.int _) .nil)))))
  cases b with
  | false =>
    refine iteT ?_
    have l2 : l ≠ 1 := fun e => by
      have h := hb (by show l - 1 = 0; omega) ?_ ?_
      · cases h
      · show 0 ≤ floorF (mkF (i6.fmod (n' * (1 + i5.fmod 8))) (1 + i5.fmod 8))
        have e2 := floor_eqv (mkF_pos hbot) (by exact hbot) (mkF_eqv (t := i6.fmod (n' * (1 + i5.fmod 8))) hbot)
        rw [e2]
        exact Int.ediv_nonneg w0 (Int.le_of_lt hbot)
      · show floorF (mkF (i6.fmod (n' * (1 + i5.fmod 8))) (1 + i5.fmod 8)) < n'
        have e2 := floor_eqv (mkF_pos hbot) (by exact hbot) (mkF_eqv (t := i6.fmod (n' * (1 + i5.fmod 8))) hbot)
        rw [e2]
        exact Int.ediv_lt_of_lt_mul hbot w1
    refine ⟨fun σ' H' => σ' = [some (.ref d), some (.ref ra), some (.ref qn), some (.str rn), some v4, some (.int (1 + i5.fmod 8)), some v7, some (.int (l - 1))] ∧ Same H8 H', fun σ' H' ⟨y1, y2⟩ => ⟨(l - 1).toNat, by omega, l - 1, y1, y2, by omega, by omega, rfl⟩, ?_⟩
    exact ⟨_, rfl, _, _, rfl, rfl, rfl, sm.trans g9⟩
  | true =>
    refine iteF ?_
    refine ⟨_, rfl, _, rfl, _, rfl, _, rfl, by show 5 ≤ sizeLine; decide, fun t2 nt2 => ?_⟩
    have g10 := same_new nt2 (.tup [.str "clip", .str rn, v7, v4, .int l])
    have gg := sm.trans (g9.trans g10)
    refine q _ ⟨rn, mkF (i6.fmod (n' * (1 + i5.fmod 8))) (1 + i5.fmod 8), mkF (i2.fmod 41 - 20) (1 + i3.fmod 8), l⟩ _ (bt.trans (But.of gg)) (hd8.same gg) (mk l z0 z1) ?_
    exact .tup (.of upd_same) (.cons (.str _) (.cons (.str _) (.cons (gg.dp dstart) (.cons (gg.dp dstep) (.cons (.int _) .nil)))))
end
end Rc

set_option maxHeartbeats 4000000
namespace Rc
open PySem PySem.Spec PyProof.Rows L2
/-! ### a track as it grows: what is left of its last clip -/
inductive Wf : Option Int → Track → Prop where
  | nil : Wf none []
  | clip {a : Option Int} {t : Track} {c : Clip} : Wf a t → ClipOk c → Wf (some c.len) (t ++ [.clip c])
  | nest {a : Option Int} {t : Track} {nm : Str} {s n : Int} : Wf a t → ItemOk (.nest nm s n) → Wf none (t ++ [.nest nm s n])
  | gap {a : Option Int} {t : Track} {n : Int} : Wf a t → ItemOk (.gap n) → Wf none (t ++ [.gap n])
  | mix {a n : Int} {t : Track} {c : Clip} : Wf (some a) t → n / 2 ≤ a → n - n / 2 ≤ c.len → 0 < n → n ≤ 24 → ClipOk c → Wf (some (c.len - (n - n / 2))) ((t ++ [.mix n]) ++ [.clip c])
theorem Wf.app {a : Option Int} {t : Track} (h : Wf a t) : ∀ r : Track, wfG a r → wfG none (t ++ r) := by
  induction h with
  | nil => intro r hr; exact hr
  | clip _ ok ih =>
    intro r hr
    rw [List.append_assoc]
    refine ih _ ?_
    show wfG _ (.clip _ :: r)
    rw [wfG]
    exact ⟨ok, hr⟩
  | nest _ ok ih =>
    intro r hr
    rw [List.append_assoc]
    refine ih _ ?_
    show wfG _ (.nest _ _ _ :: r)
    rw [wfG]
    exact ⟨ok, hr⟩
  | gap _ ok ih =>
    intro r hr
    rw [List.append_assoc]
    refine ih _ ?_
    show wfG _ (.gap _ :: r)
    rw [wfG]
    exact ⟨ok, hr⟩
  | mix _ h1 h2 h3 h4 ok ih =>
    intro r hr
    rw [List.append_assoc, List.append_assoc]
    refine ih _ ?_
    show wfG _ (.mix _ :: .clip _ :: r)
    rw [wfG]
    exact ⟨⟨_, rfl, h1⟩, ⟨h3, h4⟩, h2, ok, hr⟩
theorem Wf.all {a : Option Int} {t : Track} (h : Wf a t) : wfG none t := by
  have := h.app [] (by simp [wfG])
  rw [List.append_nil] at this
  exact this
theorem Wf.last {a : Option Int} {t t' : Track} {it : Item} (h : Wf a t) (e : t = t' ++ [it]) : it.isMix = false := by
  cases h with
  | nil =>
    have := congrArg List.length e
    rw [List.length_append] at this
    exact absurd this (by show ¬ (0 = t'.length + 1); omega)
  | clip _ _ =>
    have := (List.append_inj' e rfl).2
    cases this
    rfl
  | nest _ _ =>
    have := (List.append_inj' e rfl).2
    cases this
    rfl
  | gap _ _ =>
    have := (List.append_inj' e rfl).2
    cases this
    rfl
  | mix _ _ _ _ _ _ =>
    have := (List.append_inj' e rfl).2
    cases this
    rfl
theorem takenB_app {t y : Track} {p : Nat} (h : p ≤ t.length) : takenB (t ++ y) p = takenB t p := by
  unfold takenB
  by_cases c : 0 < p
  · rw [if_pos c, if_pos c, List.getElem?_append_left (by omega)]
  · rw [if_neg c, if_neg c]
/-- what is left of the last clip, by takenB -/
theorem Wf.left {a : Option Int} {t t' : Track} {A : Clip} (h : Wf a t) (e : t = t' ++ [.clip A]) : a = some (A.len - takenB t t'.length) := by
  cases h with
  | nil =>
    have := congrArg List.length e
    rw [List.length_append] at this
    exact absurd this (by show ¬ (0 = t'.length + 1); omega)
  | @clip a0 t0 c h0 ok =>
    have e1 := List.append_inj' e rfl
    obtain ⟨rfl, e2⟩ := e1
    have e3 : c = A := by
      cases e2
      rfl
    subst e3
    have z : takenB (t0 ++ [.clip c]) t0.length = 0 := by
      unfold takenB
      by_cases c2 : 0 < t0.length
      · rw [if_pos c2, List.getElem?_append_left (by omega)]
        obtain ⟨x, ex⟩ := get_some (t := t0) (i := t0.length - 1) (by omega)
        have hx := h0.last (t' := t0.dropLast) (it := x) (by
          have h2 : t0 ≠ [] := fun q => by rw [q] at c2; exact absurd c2 (by decide)
          have h3 := List.dropLast_concat_getLast h2
          have h4 : t0.getLast h2 = x := by
            have h5 := List.getLast_eq_getElem h2
            rw [h5]
            have h6 := (List.getElem?_eq_some_iff.mp ex).2
            exact h6
          rw [h4] at h3
          exact h3.symm)
        rw [ex]
        cases x with
        | mix n => cases hx
        | clip c => rfl
        | nest a s n => rfl
        | gap n => rfl
      · rw [if_neg c2]
    rw [z, Int.sub_zero]
  | nest _ _ =>
    have := (List.append_inj' e rfl).2
    cases this
  | gap _ _ =>
    have := (List.append_inj' e rfl).2
    cases this
  | @mix a0 n t0 c h0 _ _ _ _ ok =>
    have e1 := List.append_inj' e rfl
    obtain ⟨e0, e2⟩ := e1
    have e3 : c = A := by
      cases e2
      rfl
    subst e3
    have z : takenB ((t0 ++ [.mix n]) ++ [.clip c]) t'.length = n - n / 2 := by
      rw [← e0]
      unfold takenB
      rw [List.length_append, List.length_singleton, if_pos (by omega), Nat.add_sub_cancel, List.append_assoc, List.getElem?_append_right (Nat.le_refl _), Nat.sub_self]
      rfl
    rw [z]
/-- an item that is no mix, behind -/
theorem Wf.item {a : Option Int} {t : Track} {it : Item} (h : Wf a t) (ok : ItemOk it) (nm : it.isMix = false) : ∃ b, Wf b (t ++ [it]) := by
  cases it with
  | clip c => exact ⟨_, .clip h ok⟩
  | nest nm s n => exact ⟨_, .nest h ok⟩
  | gap n => exact ⟨_, .gap h ok⟩
  | mix n => cases nm
end Rc

set_option maxHeartbeats 4000000
namespace Rc
open PySem PySem.Spec PyProof.Rows L2
theorem but_upd {d f : Addr} {H H' : Hp} {o : HO} (b : But d H H') (n : H f = none) : But d H (upd H' f o) := fun x u e h => by
  rw [upd_ne (ne_of_none h n)]
  exact b x u e h
/-- the draws stand through what is done elsewhere -/
theorem dr_keep {K : PySem.W.Frag} {H H' H'' : Hp} {d S : Addr} (h0 : DrAt S K H d) (b : But d H H'') (h1 : DrAt S K H' d) (e : H'' d = H' d) : DrAt S K H'' d := by
  obtain ⟨ns, w, l, t, n, k, ed, hq, _⟩ := h0.ex
  obtain ⟨ns1, w1, l1, t1, n1, k1, ed1, _, r1⟩ := h1.ex
  exact ⟨ns, w1, l1, t1, n1, k1, by rw [e]; exact ed1, b.seq ed hq, r1⟩
theorem dr_upd {K : PySem.W.Frag} {H H' : Hp} {d S f : Addr} {xs : List V} {o : HO} (h0 : DrAt S K H d) (b : But d H H') (n : H f = none) (h1 : DrAt S K H' d) (e : H' f = some (.lst xs)) : DrAt S K (upd H' f o) d := by
  refine dr_keep h0 (but_upd b n) h1 ?_
  obtain ⟨ns1, w1, l1, t1, n1, k1, ed1, _⟩ := h1.ex
  exact upd_ne (ne_of e ed1 (by intro q; cases q)).symm
theorem cut_from (xs : List V) {k : Nat} (h : k ≤ xs.length) : cutV xs (some (k : Int)) none = xs.drop k := by
  unfold cutV
  rw [HT.sIx_nat, HT.sIx_none, Nat.min_eq_left h]
  rw [List.take_of_length_le (by rw [List.length_drop]; exact Nat.le_refl _)]
section
variable {P : Program} {w : World} {K : PySem.W.Frag} {mg : Str → Option Value} {base : Heap}
/-! ### _law_mixes_put -/
def spPut (K : PySem.W.Frag) : Sp := fun vs H Q _ => ∃ (d S : Addr) (x y : V) (t : Track), vs = [.ref d, x, y] ∧ DrAt S K H d ∧ ReelsX H y ∧ Dp K H x (encT t) ∧ (∀ it ∈ t, it.isMix = false ∧ ItemOk it) ∧ t.length ≤ 20 ∧
  ∀ f ws t' H', But d H H' → DrAt S K H' d → H f = none → H' f = some (.lst ws) → DpAll K H' ws (t'.map encI) → wfG none t' → lenOf t' = lenOf t → t'.length ≤ 2 * t.length → (∀ it ∈ t', it.isMix = false → it ∈ t) → Q (.ref f) H'
theorem sc_law_mixes_put : FnScope ["_law_draws_here", "_law_track_here", "_law_reels", "_law_begin", "_law_found", "_law_k", "_law_most"] ["_law_draws_here", "_law_track_here", "_law_reels"] (defScope s_law_mixes_put) := ⟨rfl, rfl, rfl, by decide +kernel, rfl, by decide +kernel, by decide +kernel⟩
theorem clip_word {it : Item} (h : it.word = ("clip" : Str)) : ∃ c, it = .clip c := by
  cases it with
  | clip c => exact ⟨c, rfl⟩
  | nest a s n => exact absurd h (by show ¬ (("nest" : Str) = "clip"); decide +kernel)
  | gap n => exact absurd h (by show ¬ (("gap" : Str) = "clip"); decide +kernel)
  | mix n => exact absurd h (by show ¬ (("mix" : Str) = "clip"); decide +kernel)
theorem ok_law_mixes_put (T : Txt K mg) : Keeps P w base 9 T.law_mixes_put (spPut K) := by
  refine T.law_mixes_put.ok sc_law_mixes_put (fun vs H Q E h => ?_) (fun cdv A outer s H vs Q E hr h => ?_)
  · obtain ⟨d, S, x, y, t, rfl, _⟩ := h
    rfl
  obtain ⟨d, S, x, y, t, rfl, hd, hy, hx, ht, h20, q⟩ := h
  obtain ⟨a, vs, rfl, ha, hvs, hl⟩ := dpt hx
  have N := ok_law_next (P := P) (w := w) (base := base) T
  refine ⟨_, pss_cons (ps_set (i := 3) sc_law_mixes_put.nd rfl (Or.inl rfl) pe_int) (pss_cons (ps_set (i := 4) sc_law_mixes_put.nd rfl (Or.inl rfl) (pe_lst pa_nil))
    (pss_cons (ps_for PassesOwn.never rfl (pi_range1 (by rfl) T.b_range (pa_cons (pe_callB call_len_seq (by rfl) T.b_len PySem.boot_len (pa_cons (pv 1) pa_nil)) pa_nil)) (pg_name (i := 5) sc_law_mixes_put.nd rfl (Or.inl rfl))
      (C8.pss_cut (ps_if (PW.pt (pw_and (pt_cmpR op_gt (pv 5) pe_int (nomark _)) (pw_and (pt_cmpR op_eq (pe_ix ix_tup (pe_ix ix_list (pv 1) (pv 5) (fun _ _ => rfl)) pe_int (fun _ _ => rfl)) pe_str (nomark _))
            (pw_and (pt_cmpR op_eq (pe_ix ix_tup (pe_ix ix_list (pv 1) (pe_op op_sub (pv 5) pe_int) (fun _ _ => rfl)) pe_int (fun _ _ => rfl)) pe_str (nomark _)) (pw_and1 (pt_cmpR op_eq (pe_op op_modN (cl T.law_next N hr (by decide) (by rfl) (pa_cons (pv 0) pa_nil)) pe_int) pe_int (nomark _)))))))
          (pss_cons (ps_set (i := 6) sc_law_mixes_put.nd rfl (Or.inl rfl) (cl T.most_mix (ok_most_mix T) hr (by decide) (by rfl) (pa_cons (pe_op op_cat (pv 4) (pe_slice sl_list (pv 1) (po_some (pv 5)) po_none)) (pa_cons (pv 3) (pa_cons (pv 2) pa_nil)))))
            (pss_one (ps_if (pt_cmpR op_gt (pv 6) pe_int (nomark _)) (pss_one (ps_expr (pe_bm PySem.F.plainAttrs_list PySem.F.slot_list_append PySem.F.type_list_append mt_append (pv 4) (pa_cons (pe_tup (pa_cons pe_str (pa_cons (pe_op op_add pe_int (pe_op op_modN (cl T.law_next N hr (by decide) (by rfl) (pa_cons (pv 0) pa_nil)) (pv 6))) pa_nil))) pa_nil)))) pss_nil))) pss_nil)
        (pss_cons (ps_expr (pe_bm PySem.F.plainAttrs_list PySem.F.slot_list_append PySem.F.type_list_append mt_append (pv 4) (pa_cons (pe_ix ix_list (pv 1) (pv 5) (fun _ _ => rfl)) pa_nil)))
        (pss_one (ps_set (i := 3) sc_law_mixes_put.nd rfl (Or.inl rfl) (pe_op op_add (pv 3) (pe_ix ix_tup (pe_ix ix_list (pv 1) (pv 5) (fun _ _ => rfl)) (pe_un un_neg pe_int) (fun _ _ => rfl))))))))
    (pss_one (ps_ret (pv 4))))), ?_⟩
  refine ⟨Nat.zero_le _, fun f nf => ?_⟩
  have s0 := same_new nf (.lst [])
  refine ⟨_, rfl, a, _, rfl, .inl (s0.seq ha), _, rfl, by omega, by omega, for_range (lo := 0) (n := ((vs.length : Nat) : Int).toNat) (fun i σ H' => ∃ (y5 y6 : Option V) (fs : Track) (ws : List V) (pr : Option Int), σ = [some (.ref d), some (.ref a), some y, some (.int (lenOf (t.take i))), some (.ref f), y5, y6] ∧ But d H H' ∧ DrAt S K H' d ∧ H' f = some (.lst ws) ∧
      DpAll K H' ws (fs.map encI) ∧ Wf pr fs ∧ lenOf fs = lenOf (t.take i) ∧ fs.length ≤ 2 * i ∧ (∀ it ∈ fs, it.isMix = false → it ∈ t) ∧ ∀ j, i = j + 1 → ∃ it fs', t[j]? = some it ∧ fs = fs' ++ [it])
    ⟨none, none, [], [], none, rfl, But.of s0, hd.same s0, upd_same, .nil, .nil, rfl, Nat.zero_le _, (fun it hi => nomatch hi), (fun j hj => nomatch hj)⟩ ?_ ?_⟩
  · rintro i σ H1 hi ⟨y5, y6, fs, ws, pr, rfl, b1, hd1, ef, dws, wf, hlen, hfl, hmem, hlast⟩
    have hi : i < t.length := by omega
    obtain ⟨it, eit⟩ := get_some hi
    obtain ⟨nmx, iok⟩ := ht it (List.mem_of_getElem? eit)
    obtain ⟨xi, exi, dxi⟩ := dpm_get (hd.dpAll b1 hvs) eit
    obtain ⟨bx, us, rfl, hb, h0, h1, _⟩ := dp_item dxi
    have ha1 : SqL K H1 a vs := (hd.reads b1).lst _ _ ha
    have wl : ws.length = fs.length := (dpa_len dws).trans (List.length_map _)
    have eat : atI vs (0 + (i : Int)) = some (.ref bx) := at_of (j := i) (by omega) exi
    -- what is to be had ahead of the append
    refine ⟨fun σ' H' => ∃ (y6 : Option V) (fs2 : Track) (ws2 : List V) (pr2 : Option Int), σ' = [some (.ref d), some (.ref a), some y, some (.int (lenOf (t.take i))), some (.ref f), some (.int (0 + (i : Int))), y6] ∧ But d H H' ∧ DrAt S K H' d ∧ H' f = some (.lst ws2) ∧
      DpAll K H' ws2 (fs2.map encI) ∧ Wf pr2 (fs2 ++ [it]) ∧ lenOf fs2 = lenOf (t.take i) ∧ fs2.length ≤ 2 * i + 1 ∧ (∀ z ∈ fs2, z.isMix = false → z ∈ t), ?_, ?_⟩
    · have stay : ∀ H' y6, But d H H' → DrAt S K H' d → H' f = some (.lst ws) → DpAll K H' ws (fs.map encI) → ∃ (y6' : Option V) (fs2 : Track) (ws2 : List V) (pr2 : Option Int), [some (.ref d), some (.ref a), some y, some (.int (lenOf (t.take i))), some (.ref f), some (.int (0 + (i : Int))), y6] = [some (.ref d), some (.ref a), some y, some (.int (lenOf (t.take i))), some (.ref f), some (.int (0 + (i : Int))), y6'] ∧ But d H H' ∧ DrAt S K H' d ∧ H' f = some (.lst ws2) ∧
          DpAll K H' ws2 (fs2.map encI) ∧ Wf pr2 (fs2 ++ [it]) ∧ lenOf fs2 = lenOf (t.take i) ∧ fs2.length ≤ 2 * i + 1 ∧ (∀ z ∈ fs2, z.isMix = false → z ∈ t) := fun H' y6 k1 k2 k3 k4 => by
        obtain ⟨pr2, w2⟩ := wf.item iok nmx
        exact ⟨y6, fs, ws, pr2, rfl, k1, k2, k3, k4, w2, hlen, by omega, hmem⟩
      refine ⟨_, rfl, _, _, rfl, rfl, _, rfl, if_d (fun c => ?_) (fun _ => stay H1 y6 b1 hd1 ef dws)⟩
      refine ⟨_, rfl, _, rfl, a, _, _, _, rfl, rfl, ha1, eat, bx, _, _, _, rfl, rfl, hb, h0, rfl, _, rfl, if_seq (fun c2 => ?_) (fun _ => stay H1 y6 b1 hd1 ef dws)⟩
      obtain ⟨j, hj⟩ : ∃ j, i = j + 1 := ⟨i - 1, by omega⟩
      obtain ⟨ia, fs', eia, efs⟩ := hlast j hj
      obtain ⟨xa, exa, dxa⟩ := dpm_get (hd.dpAll b1 hvs) eia
      obtain ⟨ba, ua, rfl, hba, h0a, _, _⟩ := dp_item dxa
      have eata : atI vs (0 + (i : Int) - 1) = some (.ref ba) := at_of (j := j) (by omega) exa
      refine ⟨_, rfl, _, rfl, _, _, rfl, rfl, a, _, _, _, rfl, rfl, ha1, eata, ba, _, _, _, rfl, rfl, hba, h0a, rfl, _, rfl, if_seq (fun c3 => ?_) (fun _ => stay H1 y6 b1 hd1 ef dws)⟩
      obtain ⟨cB, rfl⟩ := clip_word c2
      obtain ⟨cA, rfl⟩ := clip_word c3
      have okA : ClipOk cA := (ht _ (List.mem_of_getElem? eia)).2
      have okB : ClipOk cB := iok
      refine ⟨_, rfl, d, S, rfl, hd1, fun v2 H2 v20 v21 c2' hd2 => ⟨_, _, rfl, rfl, by show (3 : Int) ≠ 0; decide, rfl, _, rfl, ?_⟩⟩
      have ef2 : H2 f = some (.lst ws) := c2' _ _ (hd1.ne ef (by intro kvs z; cases z)) ef
      have dws2 := hd1.dpAll c2' dws
      have b2 := b1.trans c2'
      refine if_eq (fun _ => ?_) (fun _ => stay H2 y6 b2 hd2 ef2 dws2)
      -- most_mix(found + track[k:], begin, reels)
      have ha2 : SqL K H2 a vs := (hd.reads b2).lst _ _ ha
      refine ⟨_, rfl, _, rfl, _, rfl, _, rfl, a, _, rfl, ha2, fun p1 n1 => ?_⟩
      have g3 := same_new n1 (.lst (cutV vs (some (0 + (i : Int))) none))
      have ecut : cutV vs (some (0 + (i : Int))) none = vs.drop i := by
        rw [Int.zero_add]
        exact cut_from vs (by omega)
      have e3 : (upd H2 p1 (.lst (cutV vs (some (0 + (i : Int))) none))) p1 = some (.lst (vs.drop i)) := by rw [upd_same, ecut]
      refine ⟨f, p1, _, _, rfl, rfl, g3 _ _ ef2, e3, ?_, fun p2 n2 => ?_⟩
      · rw [List.length_drop]
        exact Nat.le_of_lt (Nat.lt_of_le_of_lt (show ws.length + (vs.length - i) ≤ 1000 by omega) (by decide))
      have g4 := same_new n2 (.lst (ws ++ vs.drop i))
      have g34 := g3.trans g4
      have dT : Dp K (upd (upd H2 p1 (.lst (cutV vs (some (0 + (i : Int))) none))) p2 (.lst (ws ++ vs.drop i))) (.ref p2) (encT (fs ++ t.drop i)) := by
        refine .lst (.of upd_same) ?_
        rw [List.map_append, List.map_drop]
        exact dpa_app (g34.dpAll dws2) (dpa_drop i (g34.dpAll (hd.dpAll b2 hvs)))
      have hfsl : fs.length = fs'.length + 1 := by rw [efs, List.length_append, List.length_singleton]
      have eA : (fs ++ t.drop i)[fs'.length]? = some (.clip cA) := by
        rw [List.getElem?_append_left (by omega), efs, List.getElem?_append_right (Nat.le_refl _), Nat.sub_self]
        rfl
      have eB : (fs ++ t.drop i)[fs'.length + 1]? = some (.clip cB) := by
        rw [List.getElem?_append_right (by omega), hfsl, Nat.sub_self, List.getElem?_drop]
        exact eit
      have etk : lenOf ((fs ++ t.drop i).take (fs'.length + 1)) = lenOf (t.take i) := by
        rw [← hfsl, List.take_left, hlen]
      have rooms : ∀ z ∈ fs ++ t.drop i, 0 ≤ z.room := fun z hz => by
        rcases List.mem_append.mp hz with k | k
        · exact (wf_ok fs none wf.all z k).room
        · exact (ht z (List.mem_of_mem_drop k)).2.room
      refine ⟨_, rfl, _, rfl, _, y, fs ++ t.drop i, fs'.length, cA, cB, by rw [etk]; rfl, dT, eA, eB, okA, okB, rooms, ((hy.but hd b2).same g34).at, fun n H5 g5 k1 k2 => ?_⟩
      have g35 := g34.trans g5
      have hd5 := hd2.same g35
      have b5 := b2.trans (But.of g35)
      have ef5 := g35 _ _ ef2
      have dws5 := g35.dpAll dws2
      refine ⟨_, rfl, _, _, rfl, rfl, _, rfl, if_d (fun c5 => ?_) (fun _ => stay H5 (some (.int n)) b5 hd5 ef5 dws5)⟩
      refine ⟨_, rfl, .inl ⟨rfl, _, SqL.of ef5⟩, ?_⟩
      refine ⟨_, rfl, d, S, rfl, hd5, fun v6 H6 v60 v61 c6 hd6 => ⟨_, rfl, _, _, rfl, rfl, by show n ≠ 0; omega, _, _, rfl, rfl, by show 2 ≤ sizeLine; decide, fun p6 n6 => ?_⟩⟩
      obtain ⟨m0, m1⟩ := fmod_in (a := v6) (show 0 < n by omega)
      have ef6 : H6 f = some (.lst ws) := c6 _ _ (hd5.ne ef5 (by intro kvs z; cases z)) ef5
      have g7 := same_new n6 (.tup [.str "mix", .int (1 + v6.fmod n)])
      have ef7 := g7 _ _ ef6
      have s8 := tup_upd (K := K) (o := .lst (ws ++ [.ref p6])) ef7
      have b7 := (b5.trans c6).trans (But.of g7)
      have hd7 := hd6.same g7
      refine ⟨f, _, _, rfl, rfl, ef7, Nat.lt_of_le_of_lt (show ws.length ≤ 1000 by omega) (by decide), ?_⟩
      have tb : takenB (fs ++ t.drop i) fs'.length = takenB fs fs'.length := takenB_app (by omega)
      have te : takenE (fs ++ t.drop i) (fs'.length + 1) = 0 := by
        unfold takenE
        rw [List.getElem?_append_right (by omega), List.getElem?_drop]
        cases ez : t[i + (fs'.length + 1 + 1 - fs.length)]? with
        | none => rfl
        | some z =>
          have hz := (ht z (List.mem_of_getElem? ez)).1
          cases z with
          | mix m => cases hz
          | clip c => rfl
          | nest aa ss nn => rfl
          | gap g => rfl
      rw [tb] at k1
      rw [te] at k2
      have hpr := wf.left efs
      have blen := okB.len
      have bmost := okB.most
      rw [hpr] at wf
      have wf2 : Wf (some (cB.len - ((1 + v6.fmod n) - (1 + v6.fmod n) / 2))) ((fs ++ [.mix (1 + v6.fmod n)]) ++ [.clip cB]) := .mix wf (by omega) (by omega) (by omega) (by omega) okB
      refine ⟨some (.int n), fs ++ [.mix (1 + v6.fmod n)], ws ++ [.ref p6], _, rfl, but_upd b7 nf, dr_upd hd b7 nf hd7 ef7, upd_same, ?_, wf2, ?_, ?_, fun z hz nz => ?_⟩
      · rw [List.map_append]
        refine dpa_app (dpAll_tups s8 _ _ (noLs_map noL_I _) (g7.dpAll (hd5.dpAll c6 dws5))) (.cons (.tup (s8 _ _ (.of upd_same)) ?_) .nil)
        exact .cons (.str _) (.cons (.int _) .nil)
      · rw [lenOf_app, hlen, lenOf_cons, lenOf_nil]
        show _ + (0 + 0) = _
        omega
      · rw [List.length_append, List.length_singleton]
        omega
      · rcases List.mem_append.mp hz with k | k
        · exact hmem z k nz
        · rw [List.mem_singleton.mp k] at nz
          cases nz
    · rintro σ' H2 ⟨y6', fs2, ws2, pr2, rfl, b2, hd2, ef2, dws2, wf2, hlen2, hfl2, hmem2⟩
      have ha2 : SqL K H2 a vs := (hd.reads b2).lst _ _ ha
      obtain ⟨xi2, exi2, dxi2⟩ := dpm_get (hd.dpAll b2 hvs) eit
      rw [exi] at exi2
      cases exi2
      obtain ⟨bx2, us2, ebx, hb2, _, h12, _⟩ := dp_item dxi2
      cases ebx
      have wl2 : ws2.length = fs2.length := (dpa_len dws2).trans (List.length_map _)
      refine ⟨_, rfl, .inl ⟨rfl, _, SqL.of ef2⟩, _, rfl, _, rfl, a, _, _, _, rfl, rfl, ha2, eat, f, _, _, rfl, rfl, ef2, Nat.lt_of_le_of_lt (show ws2.length ≤ 1000 by omega) (by decide), ?_⟩
      have s8 := tup_upd (K := K) (o := .lst (ws2 ++ [.ref bx])) ef2
      have b3 := but_upd (o := .lst (ws2 ++ [.ref bx])) b2 nf
      have ha3 : SqL K (upd H2 f (.lst (ws2 ++ [.ref bx]))) a vs := (hd.reads b3).lst _ _ ha
      refine ⟨_, rfl, _, rfl, _, rfl, a, _, _, _, rfl, rfl, ha3, eat, _, rfl, bx, _, _, _, rfl, rfl, s8 _ _ hb2, h12, _, _, rfl, rfl, ?_⟩
      have er : it.room = it.last := room_non nmx
      refine ⟨some (.int (0 + (i : Int))), y6', fs2 ++ [it], ws2 ++ [.ref bx], pr2, ?_, b3, dr_upd hd b2 nf hd2 ef2, upd_same, ?_, wf2, ?_, ?_, fun z hz nz => ?_, fun j hj => ?_⟩
      · rw [lenOf_take eit, er]
        rfl
      · rw [List.map_append]
        exact dpa_app (dpAll_tups s8 _ _ (noLs_map noL_I _) dws2) (.cons (dp_tups s8 _ _ (noL_I it) dxi2) .nil)
      · rw [lenOf_app, hlen2, lenOf_take eit, lenOf_cons, lenOf_nil]
        omega
      · rw [List.length_append, List.length_singleton]
        omega
      · rcases List.mem_append.mp hz with k | k
        · exact hmem2 z k nz
        · rw [List.mem_singleton.mp k]
          exact List.mem_of_getElem? eit
      · have e : j = i := by omega
        rw [e]
        exact ⟨it, fs2, eit, rfl⟩
  · rintro σ H1 ⟨y5, y6, fs, ws, pr, rfl, b1, hd1, ef, dws, wf, hlen, hfl, hmem, hlast⟩
    have e : t.take ((vs.length : Nat) : Int).toNat = t := List.take_of_length_le (by omega)
    rw [e] at hlen
    exact ⟨_, rfl, q f ws fs H1 b1 hd1 nf ef dws wf.all hlen (by omega) hmem⟩
end
end Rc

set_option maxHeartbeats 4000000
namespace Rc
open PySem PySem.Spec PyProof.Rows L2
/-! ### a track that the law draws -/
def NamesOk (nms : List Str) : Prop := ∀ nm ∈ nms, PyData.canLay0 (.str nm) = true
def NestIn (nms : List Str) : Item → Prop
  | .nest nm _ _ => nm ∈ nms
  | _ => True
structure Plain (nms : List Str) (it : Item) : Prop where
  nomix : it.isMix = false
  ok : ItemOk it
  nest : NestIn nms it
theorem lay_I {nms : List Str} {it : Item} (h : Plain nms it) (hn : NamesOk nms) : (encI it).canLay0 = true := by
  cases it with
  | clip c =>
    have okc : ClipOk c := h.ok
    have h1 := reel_ok okc.reel
    have h2 := lay_F c.start
    have h3 := lay_F c.step
    have h0 : PyData.canLay0 (.str "clip") = true := by rw [PyData.canLay0]; decide +kernel
    unfold encI
    rw [PyData.canLay0, PyData.canLayAll0, h0, PyData.canLayAll0, h1, PyData.canLayAll0, h2, PyData.canLayAll0, h3, PyData.canLayAll0, PyData.canLay0, PyData.canLayAll0]
    rfl
  | nest nm s n =>
    have h1 := hn nm h.nest
    have h0 : PyData.canLay0 (.str "nest") = true := by rw [PyData.canLay0]; decide +kernel
    unfold encI
    rw [PyData.canLay0, PyData.canLayAll0, h0, PyData.canLayAll0, h1, PyData.canLayAll0, PyData.canLay0, PyData.canLayAll0, PyData.canLay0, PyData.canLayAll0]
    rfl
  | gap n =>
    have h0 : PyData.canLay0 (.str "gap") = true := by rw [PyData.canLay0]; decide +kernel
    unfold encI
    rw [PyData.canLay0, PyData.canLayAll0, h0, PyData.canLayAll0, PyData.canLay0, PyData.canLayAll0]
    rfl
  | mix n => cases h.nomix
theorem depth_I (it : Item) : (encI it).depth ≤ 2 := by cases it <;> simp [encI, encF, PyData.depth, PyData.depthAll]
theorem shaped_track {nms : List Str} {t : Track} (h : ∀ it ∈ t, Plain nms it) (hn : NamesOk nms) : SeqAt.shaped (encT t) = true := by
  obtain ⟨h1, h2⟩ := shaped_map depth_I t fun d hd => lay_I (h d hd) hn
  unfold SeqAt.shaped
  rw [Bool.and_eq_true, decide_eq_true_eq]
  exact ⟨by unfold encT; rw [PyData.canLay0]; exact h1, by unfold encT; rw [PyData.depth]; omega⟩
theorem shaped_names {nms : List Str} (hn : NamesOk nms) : SeqAt.shaped (.list (nms.map PyData.str)) = true := by
  obtain ⟨h1, h2⟩ := shaped_map (f := PyData.str) (k := 0) (fun x => by rw [PyData.depth]; exact Nat.le_refl _) nms fun d hd => hn d hd
  unfold SeqAt.shaped
  rw [Bool.and_eq_true, decide_eq_true_eq]
  exact ⟨by rw [PyData.canLay0]; exact h1, by rw [PyData.depth]; omega⟩
theorem eqv_cons (d : PyData) (ds : List PyData) : PyData.eqv (.list (d :: ds)) (.list []) = false := by
  rw [PyData.eqv, PyData.eqvAll]
theorem names_dp {K : PySem.W.Frag} {H : Hp} : ∀ nms : List Str, DpAll K H (nms.map V.str) (nms.map PyData.str)
  | [] => .nil
  | x :: r => .cons (.str x) (names_dp r)
theorem push_items {K : PySem.W.Frag} {H : Hp} {f : Addr} {ws : List V} {ts : Track} {v : V} {it : Item} (ef : H f = some (.lst ws)) (d1 : DpAll K H ws (ts.map encI)) (dv : Dp K H v (encI it)) : DpAll K (upd H f (.lst (ws ++ [v]))) (ws ++ [v]) ((ts ++ [it]).map encI) := by
  have s8 := tup_upd (K := K) (o := .lst (ws ++ [v])) ef
  rw [List.map_append]
  exact dpa_app (dpAll_tups s8 _ _ (noLs_map noL_I _) d1) (.cons (dp_tups s8 _ _ (noL_I it) dv) .nil)
theorem concat_of {α : Type} {l : List α} (h : l ≠ []) : ∃ l' x, l = l' ++ [x] := ⟨l.dropLast, l.getLast h, (List.dropLast_concat_getLast h).symm⟩
theorem len_plain {nms : List Str} : ∀ {t : Track}, (∀ it ∈ t, Plain nms it) → lenOf t ≤ 12 * t.length
  | [], _ => Int.le_refl _
  | it :: r, h => by
    have h1 := h it List.mem_cons_self
    have h2 := len_plain (t := r) fun z hz => h z (List.mem_cons_of_mem _ hz)
    rw [lenOf_cons, room_non h1.nomix, List.length_cons]
    have h3 : it.last ≤ 12 := by
      have ok := h1.ok
      cases it with
      | clip c => exact ClipOk.most ok
      | nest nm s n => exact ok.2.2
      | gap n => exact ok.2
      | mix n => cases h1.nomix
    omega
/-- a test with a word behind it: what follows is shown once for each answer -/
def tMid (t : TT) : TT := fun σ H Q => ∃ M : Bool → Hp → Prop, t σ H M ∧ ∀ b H', M b H' → Q b H'
theorem pt_mid {X : Cx} {e : Expr} {t : TT} (h : PT X e t) : PT X e (tMid t) := ⟨fun pins s σ H Q I z => by
  obtain ⟨M, h1, h2⟩ := z
  exact thn (h.run pins s σ H M I h1) fun b s1 ⟨H', I', q⟩ => ⟨H', I', h2 b H' q⟩⟩
theorem eqv_track {t : Track} : (PyData.eqv (encT t) (.list []) = true ↔ t = []) := by
  cases t with
  | nil => exact ⟨fun _ => rfl, fun _ => eqv_ll⟩
  | cons it r =>
    constructor
    · intro h
      have e : PyData.eqv (encT (it :: r)) (.list []) = false := eqv_cons _ _
      rw [e] at h
      cases h
    · intro h
      cases h
section
variable {P : Program} {w : World} {K : PySem.W.Frag} {mg : Str → Option Value} {base : Heap}
def spTrack (K : PySem.W.Frag) : Sp := fun vs H Q _ => ∃ (d S na : Addr) (y : V) (nms : List Str), vs = [.ref d, y, .ref na] ∧ DrAt S K H d ∧ ReelsX H y ∧ SqL K H na (nms.map V.str) ∧ NamesOk nms ∧ nms.length ≤ 10 ∧
  ∀ f ws t H', But d H H' → DrAt S K H' d → H f = none → H' f = some (.lst ws) → DpAll K H' ws (t.map encI) → TrackOk (fun nm => nm ∈ nms) t → Q (.ref f) H'
theorem sc_law_track : FnScope ["_law_draws_here", "_law_reels", "_law_names", "_law_track_here", "_law_k", "_law_form", "_law_name"] ["_law_draws_here", "_law_reels", "_law_names"] (defScope s_law_track) := ⟨rfl, rfl, rfl, by decide +kernel, rfl, by decide +kernel, by decide +kernel⟩
theorem ok_law_track (T : Txt K mg) : Keeps P w base 10 T.law_track (spTrack K) := by
  refine T.law_track.ok sc_law_track (fun vs H Q E h => ?_) (fun cdv A outer s H vs Q E hr h => ?_)
  · obtain ⟨d, S, na, y, nms, rfl, _⟩ := h
    rfl
  obtain ⟨d, S, na, y, nms, rfl, hd, hy, hna, hnm, hn10, q⟩ := h
  have N := ok_law_next (P := P) (w := w) (base := base) T
  refine ⟨_, pss_cons (ps_set (i := 3) sc_law_track.nd rfl (Or.inl rfl) (pe_lst pa_nil))
    (pss_cons (ps_for PassesOwn.never rfl (pi_range1 (by rfl) T.b_range (pa_cons (pe_op op_modN (cl T.law_next N hr (by decide) (by rfl) (pa_cons (pv 0) pa_nil)) pe_int) pa_nil)) (pg_name (i := 4) sc_law_track.nd rfl (Or.inl rfl))
      (pss_cons (ps_set (i := 5) sc_law_track.nd rfl (Or.inl rfl) (pe_op op_modN (cl T.law_next N hr (by decide) (by rfl) (pa_cons (pv 0) pa_nil)) pe_int))
        (pss_one (ps_if (pt_mid (PW.pt (pw_and (pt_cmpR op_eq (pv 5) pe_int (nomark _)) (pw_and1 (PW.pt (pw_or (pt_cmpR (op_eqD hr.units) (pv 3) (pe_lst pa_nil) (nomark _)) (pw_or1 (pt_cmpR op_ne (pe_ix ix_tup (pe_ix ix_list (pv 3) (pe_un un_neg pe_int) (fun _ _ => rfl)) pe_int (fun _ _ => rfl)) pe_str (nomark _)))))))))
          (pss_one (ps_expr (pe_bm PySem.F.plainAttrs_list PySem.F.slot_list_append PySem.F.type_list_append mt_append (pv 3) (pa_cons (pe_tup (pa_cons pe_str (pa_cons (pe_op op_add pe_int (pe_op op_modN (cl T.law_next N hr (by decide) (by rfl) (pa_cons (pv 0) pa_nil)) pe_int)) pa_nil))) pa_nil))))
          (pss_one (ps_if (pt_mid (PW.pt (pw_and (pt_cmpR op_lt (pv 5) pe_int (nomark _)) (pw_and1 (pt_cmpR (op_neD hr.units) (pv 2) (pe_lst pa_nil) (nomark _))))))
            (pss_cons (ps_set (i := 6) sc_law_track.nd rfl (Or.inl rfl) (pe_ix ix_list (pv 2) (pe_un un_neg pe_int) (fun _ _ => rfl)))
              (C8.pss_cut (ps_if (pt_cmpR op_eq (pe_op op_modN (cl T.law_next N hr (by decide) (by rfl) (pa_cons (pv 0) pa_nil)) pe_int) pe_int (nomark _))
                (pss_one (ps_set (i := 6) sc_law_track.nd rfl (Or.inl rfl) (pe_ix ix_list (pv 2) (pe_op op_modN (cl T.law_next N hr (by decide) (by rfl) (pa_cons (pv 0) pa_nil)) (pe_callB call_len_seq (by rfl) T.b_len PySem.boot_len (pa_cons (pv 2) pa_nil))) (fun _ _ => rfl)))) pss_nil)
              (pss_one (ps_expr (pe_bm PySem.F.plainAttrs_list PySem.F.slot_list_append PySem.F.type_list_append mt_append (pv 3) (pa_cons (pe_tup (pa_cons pe_str (pa_cons (pv 6) (pa_cons (pe_op op_modN (cl T.law_next N hr (by decide) (by rfl) (pa_cons (pv 0) pa_nil)) pe_int) (pa_cons (pe_op op_add pe_int (pe_op op_modN (cl T.law_next N hr (by decide) (by rfl) (pa_cons (pv 0) pa_nil)) pe_int)) pa_nil))))) pa_nil))))))
            (pss_one (ps_expr (pe_bm PySem.F.plainAttrs_list PySem.F.slot_list_append PySem.F.type_list_append mt_append (pv 3) (pa_cons (cl T.law_clip (ok_law_clip T) hr (by decide) (by rfl) (pa_cons (pv 0) (pa_cons (pv 1) pa_nil))) pa_nil))))))))))
    (C8.pss_cut (ps_if (PW.pt (pw_and (pt_cmpR (op_neD hr.units) (pv 3) (pe_lst pa_nil) (nomark _)) (pw_and1 (pt_cmpR op_eq (pe_ix ix_tup (pe_ix ix_list (pv 3) (pe_un un_neg pe_int) (fun _ _ => rfl)) pe_int (fun _ _ => rfl)) pe_str (nomark _)))))
      (pss_one (ps_expr (pe_bm0 PySem.F.plainAttrs_list PySem.F.slot_list_pop PySem.F.type_list_pop mt_pop (pv 3)))) pss_nil)
    (pss_one (ps_ret (cl T.law_mixes_put (ok_law_mixes_put T) hr (by decide) (by rfl) (pa_cons (pv 0) (pa_cons (pv 3) (pa_cons (pv 1) pa_nil)))))))), ?_⟩
  refine ⟨Nat.zero_le _, fun f nf => ?_⟩
  have s0 := same_new nf (.lst [])
  refine ⟨_, rfl, d, S, rfl, hd.same s0, fun v0 H0 v00 v01 c0 hd0 => ⟨_, _, rfl, rfl, by show (6 : Int) ≠ 0; decide, ?_⟩⟩
  obtain ⟨m0, m1⟩ := fmod_in (a := v0) (b := 6) (by decide)
  have ef0 : H0 f = some (.lst []) := c0 _ _ ((hd.same s0).ne upd_same (by intro kvs z; cases z)) upd_same
  refine ⟨_, rfl, by omega, by omega, for_range (lo := 0) (n := (v0.fmod 6).toNat) (fun i σ H' => ∃ (y4 y5 y6 : Option V) (ts : Track) (ws : List V), σ = [some (.ref d), some y, some (.ref na), some (.ref f), y4, y5, y6] ∧ But d H H' ∧ DrAt S K H' d ∧ H' f = some (.lst ws) ∧ DpAll K H' ws (ts.map encI) ∧
      (∀ it ∈ ts, Plain nms it) ∧ ts.length ≤ i)
    ⟨none, none, none, [], [], rfl, (But.of s0).trans c0, hd0, ef0, .nil, (fun it hi => nomatch hi), Nat.le_refl _⟩ ?_ ?_⟩
  · rintro i σ H1 hi ⟨y4, y5, y6, ts, ws, rfl, b1, hd1, ef1, dws1, hpl, hln⟩
    have hi6 : i < 6 := by omega
    refine ⟨_, rfl, d, S, rfl, hd1, fun v2 H2 v20 v21 c2 hd2 => ⟨_, _, rfl, rfl, by show (7 : Int) ≠ 0; decide, ?_⟩⟩
    have ef2 : H2 f = some (.lst ws) := c2 _ _ (hd1.ne ef1 (by intro kvs z; cases z)) ef1
    have dws2 := hd1.dpAll c2 dws1
    have b2 := b1.trans c2
    have wl : ws.length = ts.length := (dpa_len dws2).trans (List.length_map _)
    have small : ws.length < sizeLine := Nat.lt_of_le_of_lt (show ws.length ≤ 1000 by omega) (by decide)
    -- an item is put behind
    have put : ∀ (H3 : Hp) (v : V) (it : Item) (z4 z5 z6 : Option V), But d H H3 → DrAt S K H3 d → H3 f = some (.lst ws) → DpAll K H3 ws (ts.map encI) → Dp K H3 v (encI it) → Plain nms it →
        ∃ (y4 y5 y6 : Option V) (ts' : Track) (ws' : List V), [some (.ref d), some y, some (.ref na), some (.ref f), z4, z5, z6] = [some (.ref d), some y, some (.ref na), some (.ref f), y4, y5, y6] ∧ But d H (upd H3 f (.lst (ws ++ [v]))) ∧ DrAt S K (upd H3 f (.lst (ws ++ [v]))) d ∧ (upd H3 f (.lst (ws ++ [v]))) f = some (.lst ws') ∧
          DpAll K (upd H3 f (.lst (ws ++ [v]))) ws' (ts'.map encI) ∧ (∀ it ∈ ts', Plain nms it) ∧ ts'.length ≤ i + 1 := fun H3 v it z4 z5 z6 k1 k2 k3 k4 k5 k6 => by
      refine ⟨z4, z5, z6, ts ++ [it], ws ++ [v], rfl, but_upd k1 nf, dr_upd hd k1 nf k2 k3, upd_same, push_items k3 k4 k5, fun z hz => ?_, by rw [List.length_append, List.length_singleton]; omega⟩
      rcases List.mem_append.mp hz with e | e
      · exact hpl z e
      · rw [List.mem_singleton.mp e]
        exact k6
    have hnames : ∀ H3, But d H H3 → SqL K H3 na (nms.map V.str) := fun H3 k => (hd.reads k).lst _ _ hna
    -- the first test: whatever it answers
    refine ⟨fun _ H3 => But d H2 H3 ∧ Same H2 H3, ?_, fun b H3 hM => ?_⟩
    · refine ⟨_, rfl, rfl, _, rfl, if_eq (fun _ => ?_) (fun _ => ⟨But.refl _ _, Same.refl _⟩)⟩
      refine ⟨_, rfl, Nat.zero_le _, fun p1 n1 => ?_⟩
      have g3 := same_new n1 (.lst [])
      refine ⟨encT ts, .list [], .lst (.of (g3 _ _ ef2)) (g3.dpAll dws2), .lst (.of upd_same) .nil, shaped_track hpl hnm, shaped_l, _, rfl, ?_⟩
      refine ite2 (fun _ => ⟨But.of g3, g3⟩) (fun c => ?_)
      have hne : ts ≠ [] := fun z => c (eqv_track.mpr z)
      obtain ⟨ts', it, ets⟩ := concat_of hne
      have hwn : ws ≠ [] := fun z => by
        rw [z] at wl
        exact hne (List.length_eq_zero_iff.mp wl.symm)
      obtain ⟨ws', v, ews⟩ := concat_of hwn
      have hv : ws[ts'.length]? = some v := by
        have e2 : ws'.length = ts'.length := by
          rw [ews, ets, List.length_append, List.length_append, List.length_singleton, List.length_singleton] at wl
          omega
        rw [ews, ← e2, List.getElem?_append_right (Nat.le_refl _), Nat.sub_self]
        rfl
      obtain ⟨it2, e2, dv⟩ := dpm_at (g3.dpAll dws2) hv
      obtain ⟨bx, us, rfl, hb, h0, h1, _⟩ := dp_item dv
      refine ⟨_, rfl, _, rfl, f, _, _, _, rfl, rfl, .of (g3 _ _ ef2), by rw [ews]; exact atI_last _ _, bx, _, _, _, rfl, rfl, hb, h0, rfl, _, rfl, But.of g3, g3⟩
    obtain ⟨b3', g3⟩ := hM
    have hd3 := hd2.same g3
    have ef3 := g3 _ _ ef2
    have dws3 := g3.dpAll dws2
    have b3 := b2.trans b3'
    cases b with
    | true =>
      refine iteT ⟨_, rfl, .inl ⟨rfl, _, SqL.of ef3⟩, ?_⟩
      refine ⟨_, rfl, d, S, rfl, hd3, fun v4 H4 v40 v41 c4 hd4 => ⟨_, _, rfl, rfl, by show (9 : Int) ≠ 0; decide, _, _, rfl, rfl, by show 2 ≤ sizeLine; decide, fun p5 n5 => ?_⟩⟩
      obtain ⟨r0, r1⟩ := fmod_in (a := v4) (b := 9) (by decide)
      have ef4 : H4 f = some (.lst ws) := c4 _ _ (hd3.ne ef3 (by intro kvs z; cases z)) ef3
      have g5 := same_new n5 (.tup [.str "gap", .int (1 + v4.fmod 9)])
      refine ⟨f, _, _, rfl, rfl, g5 _ _ ef4, small, ?_⟩
      exact put _ _ (.gap (1 + v4.fmod 9)) _ _ _ ((b3.trans c4).trans (But.of g5)) (hd4.same g5) (g5 _ _ ef4) (g5.dpAll (hd3.dpAll c4 dws3)) (.tup (.of upd_same) (.cons (.str _) (.cons (.int _) .nil))) ⟨rfl, ⟨by omega, by omega⟩, trivial⟩
    | false =>
      refine iteF ⟨fun b H4 => Same H3 H4 ∧ (b = true → nms ≠ []), ?_, fun b H4 hM => ?_⟩
      · refine ⟨_, rfl, _, _, rfl, rfl, _, rfl, if_d (fun c => ?_) (fun _ => ⟨Same.refl _, fun z => nomatch z⟩)⟩
        refine ⟨_, rfl, Nat.zero_le _, fun p1 n1 => ?_⟩
        have g4 := same_new n1 (.lst [])
        refine ⟨.list (nms.map PyData.str), .list [], .lst (hnames _ (b3.trans (But.of g4))) (names_dp nms), .lst (.of upd_same) .nil, shaped_names hnm, shaped_l, _, rfl, g4, fun z e => ?_⟩
        rw [e] at z
        have e2 : PyData.eqv (.list ([].map PyData.str)) (.list []) = true := eqv_ll
        rw [e2] at z
        cases z
      obtain ⟨g4, hne⟩ := hM
      have b4 := b3.trans (But.of g4)
      have hd4 := hd3.same g4
      have ef4 := g4 _ _ ef3
      have dws4 := g4.dpAll dws3
      have hn4 := hnames _ b4
      cases b with
      | true =>
        obtain ⟨nl, nx, enl⟩ := concat_of (hne rfl)
        have elast : atI (nms.map V.str) (-1) = some (.str nx) := by
          rw [enl, List.map_append]
          exact atI_last _ _
        have nxm : nx ∈ nms := by rw [enl]; exact List.mem_append_right _ (List.mem_singleton.mpr rfl)
        refine iteT ⟨_, rfl, _, rfl, na, _, _, _, rfl, rfl, hn4, elast, ?_⟩
        refine ⟨fun σ' H' => ∃ nm, nm ∈ nms ∧ σ' = [some (.ref d), some y, some (.ref na), some (.ref f), some (.int (0 + (i : Int))), some (.int (v2.fmod 7)), some (.str nm)] ∧ But d H H' ∧ DrAt S K H' d ∧ H' f = some (.lst ws) ∧ DpAll K H' ws (ts.map encI), ?_, ?_⟩
        · refine ⟨_, rfl, d, S, rfl, hd4, fun v5 H5 v50 v51 c5 hd5 => ⟨_, _, rfl, rfl, by show (3 : Int) ≠ 0; decide, rfl, _, rfl, ?_⟩⟩
          have ef5 : H5 f = some (.lst ws) := c5 _ _ (hd4.ne ef4 (by intro kvs z; cases z)) ef4
          have dws5 := hd4.dpAll c5 dws4
          refine if_eq (fun _ => ?_) (fun _ => ⟨nx, nxm, rfl, b4.trans c5, hd5, ef5, dws5⟩)
          refine ⟨_, rfl, _, rfl, d, S, rfl, hd5, fun v6 H6 v60 v61 c6 hd6 => ?_⟩
          have b6 := (b4.trans c5).trans c6
          have hn6 := hnames _ b6
          have nl0 : 0 < (nms.map V.str).length := by rw [enl, List.length_map, List.length_append, List.length_singleton]; omega
          obtain ⟨r0, r1⟩ := fmod_in (a := v6) (b := ((nms.map V.str).length : Int)) (by omega)
          refine ⟨_, rfl, na, _, rfl, .inl hn6, _, _, rfl, rfl, by show ((nms.map V.str).length : Int) ≠ 0; omega, ?_⟩
          have ell : (nms.map V.str).length = nms.length := List.length_map _
          have hk : (v6.fmod ((nms.map V.str).length : Int)).toNat < nms.length := by omega
          obtain ⟨ny, eny⟩ := get_some hk
          refine ⟨na, _, _, _, rfl, rfl, hn6, at_of (j := (v6.fmod ((nms.map V.str).length : Int)).toNat) (by omega) (by rw [List.getElem?_map, eny]; rfl), ?_⟩
          exact ⟨ny, List.mem_of_getElem? eny, rfl, b6, hd6, c6 _ _ (hd5.ne ef5 (by intro kvs z; cases z)) ef5, hd5.dpAll c6 dws5⟩
        · rintro σ' H5 ⟨nm, nmm, rfl, b5, hd5, ef5, dws5⟩
          refine ⟨_, rfl, .inl ⟨rfl, _, SqL.of ef5⟩, _, rfl, ?_⟩
          refine ⟨_, rfl, d, S, rfl, hd5, fun v6 H6 v60 v61 c6 hd6 => ⟨_, _, rfl, rfl, by show (9 : Int) ≠ 0; decide, ?_⟩⟩
          refine ⟨_, rfl, d, S, rfl, hd6, fun v7 H7 v70 v71 c7 hd7 => ⟨_, _, rfl, rfl, by show (9 : Int) ≠ 0; decide, _, _, rfl, rfl, by show 4 ≤ sizeLine; decide, fun p8 n8 => ?_⟩⟩
          obtain ⟨r0, r1⟩ := fmod_in (a := v6) (b := 9) (by decide)
          obtain ⟨r2, r3⟩ := fmod_in (a := v7) (b := 9) (by decide)
          have ef6 : H6 f = some (.lst ws) := c6 _ _ (hd5.ne ef5 (by intro kvs z; cases z)) ef5
          have ef7 : H7 f = some (.lst ws) := c7 _ _ (hd6.ne ef6 (by intro kvs z; cases z)) ef6
          have g8 := same_new n8 (.tup [.str "nest", .str nm, .int (v6.fmod 9), .int (1 + v7.fmod 9)])
          refine ⟨f, _, _, rfl, rfl, g8 _ _ ef7, small, ?_⟩
          exact put _ _ (.nest nm (v6.fmod 9) (1 + v7.fmod 9)) _ _ _ (((b5.trans c6).trans c7).trans (But.of g8)) (hd7.same g8) (g8 _ _ ef7) (g8.dpAll (hd6.dpAll c7 (hd5.dpAll c6 dws5))) (.tup (.of upd_same) (.cons (.str _) (.cons (.str _) (.cons (.int _) (.cons (.int _) .nil))))) ⟨rfl, ⟨r0, by omega, by omega⟩, nmm⟩
      | false =>
        refine iteF ⟨_, rfl, .inl ⟨rfl, _, SqL.of ef4⟩, ?_⟩
        refine ⟨_, rfl, _, rfl, d, S, y, rfl, hd4, hy.but hd b4, fun r c H5 c5 hd5 okc d5 => ?_⟩
        have ef5 : H5 f = some (.lst ws) := c5 _ _ (hd4.ne ef4 (by intro kvs z; cases z)) ef4
        refine ⟨f, _, _, rfl, rfl, ef5, small, ?_⟩
        exact put _ _ (.clip c) _ _ _ (b4.trans c5) hd5 ef5 (hd4.dpAll c5 dws4) d5 ⟨rfl, okc, trivial⟩
  · rintro σ H1 ⟨y4, y5, y6, ts, ws, rfl, b1, hd1, ef1, dws1, hpl, hln⟩
    have hln5 : ts.length ≤ 5 := by omega
    have wl : ws.length = ts.length := (dpa_len dws1).trans (List.length_map _)
    -- a gap at the end goes
    refine ⟨fun σ' H' => ∃ (ts : Track) (ws : List V), σ' = [some (.ref d), some y, some (.ref na), some (.ref f), y4, y5, y6] ∧ But d H H' ∧ DrAt S K H' d ∧ H' f = some (.lst ws) ∧ DpAll K H' ws (ts.map encI) ∧ (∀ it ∈ ts, Plain nms it) ∧ ts.length ≤ 5, ?_, ?_⟩
    · refine ⟨_, rfl, Nat.zero_le _, fun p1 n1 => ?_⟩
      have g3 := same_new n1 (.lst [])
      have b3 := b1.trans (But.of g3)
      have hd3 := hd1.same g3
      refine ⟨encT ts, .list [], .lst (.of (g3 _ _ ef1)) (g3.dpAll dws1), .lst (.of upd_same) .nil, shaped_track hpl hnm, shaped_l, _, rfl, ?_⟩
      refine ite2 (fun c => ?_) (fun _ => ⟨ts, ws, rfl, b3, hd3, g3 _ _ ef1, g3.dpAll dws1, hpl, hln5⟩)
      have hne : ts ≠ [] := fun z => by
        rw [eqv_track.mpr z] at c
        cases c
      obtain ⟨ts', it, ets⟩ := concat_of hne
      have hwn : ws ≠ [] := fun z => by
        rw [z] at wl
        exact hne (List.length_eq_zero_iff.mp wl.symm)
      obtain ⟨ws', v, ews⟩ := concat_of hwn
      have e2 : ws'.length = ts'.length := by
        rw [ews, ets, List.length_append, List.length_append, List.length_singleton, List.length_singleton] at wl
        omega
      have hv : ws[ts'.length]? = some v := by
        rw [ews, ← e2, List.getElem?_append_right (Nat.le_refl _), Nat.sub_self]
        rfl
      obtain ⟨it2, e3, dv⟩ := dpm_at (g3.dpAll dws1) hv
      obtain ⟨bx, us, rfl, hb, h0, h1, _⟩ := dp_item dv
      refine ⟨_, rfl, _, rfl, f, _, _, _, rfl, rfl, .of (g3 _ _ ef1), by rw [ews]; exact atI_last _ _, bx, _, _, _, rfl, rfl, hb, h0, rfl, _, rfl, if_seq (fun _ => ?_) (fun _ => ⟨ts, ws, rfl, b3, hd3, g3 _ _ ef1, g3.dpAll dws1, hpl, hln5⟩)⟩
      refine ⟨_, rfl, .inl ⟨rfl, _, SqL.of (g3 _ _ ef1)⟩, f, ws, .ref bx, rfl, rfl, g3 _ _ ef1, ?_, ?_⟩
      · have e4 : ws.length - 1 = ts'.length := by rw [wl, ets, List.length_append, List.length_singleton]; omega
        rw [e4]
        exact hv
      · have s8 := tup_upd (K := K) (o := .lst ws.dropLast) (g3 _ _ ef1)
        refine ⟨ts', ws.dropLast, rfl, but_upd b3 nf, dr_upd hd b3 nf hd3 (g3 _ _ ef1), upd_same, ?_, fun z hz => hpl z (by rw [ets]; exact List.mem_append_left _ hz), by rw [ets, List.length_append] at hln5; omega⟩
        refine dpAll_tups s8 _ _ (noLs_map noL_I _) ?_
        have d6 := dpa_take ts'.length (g3.dpAll dws1)
        rw [← List.map_take, ets, List.take_left] at d6
        have e5 : ws.dropLast = ws.take ts'.length := by rw [List.dropLast_eq_take, wl, ets, List.length_append, List.length_singleton, Nat.add_sub_cancel]
        rw [e5]
        exact d6
    · rintro σ' H2 ⟨ts, ws, rfl, b2, hd2, ef2, dws2, hpl, hln⟩
      refine ⟨_, rfl, _, rfl, _, rfl, d, S, _, y, ts, rfl, hd2, hy.but hd b2, .lst (.of ef2) dws2, fun it hi => ⟨(hpl it hi).nomix, (hpl it hi).ok⟩, by omega, fun f2 ws2 t2 H3 c3 hd3 nf2 ef3 dws3 wf3 hl3 hn3 hm3 => ?_⟩
      refine q f2 ws2 t2 H3 (b2.trans c3) hd3 ?_ ef3 dws3 ⟨wf3, by omega, ?_, fun nm s n hmem => ?_⟩
      · cases e : H f2 with
        | none => rfl
        | some o =>
          by_cases z : f2 = d
          · obtain ⟨ns, w1, l, t, n, k, ed, _⟩ := hd2.ex
            rw [z, ed] at nf2
            cases nf2
          · rw [b2 _ _ z e] at nf2
            cases nf2
      · rw [hl3]
        have := len_plain hpl
        omega
      · exact (hpl _ (hm3 _ hmem rfl)).nest
end
end Rc

set_option maxHeartbeats 4000000
namespace Rc
open PySem PySem.Spec PyProof.Rows L2
theorem blkOk_nofree {N : List Str} {sc sc' scope : Scope} {own : List (Str × Nat)} (h : BlkOk N sc scope own) (hf : (scope.names.all fun y => y.2 != .free) = true) : BlkOk N sc' scope own :=
  ⟨h.kind, h.uniq, h.ix, (fun y hy e => by
    have := List.all_eq_true.mp hf y hy
    rw [e] at this
    cases this), h.own⟩
def lastsOf (t : Track) : List Int := (t.filter fun it => !it.isMix).map Item.last
theorem lasts_sum : ∀ t : Track, (lastsOf t).sum = lenOf t
  | [] => rfl
  | it :: r => by
    have ih := lasts_sum r
    unfold lastsOf at ih ⊢
    rw [lenOf_cons, List.filter_cons]
    cases q : it.isMix with
    | true =>
      have e : it.room = 0 := by unfold Item.room; rw [if_pos q]
      rw [e]
      show ((r.filter fun it => !it.isMix).map Item.last).sum = _
      rw [ih]
      omega
    | false =>
      rw [room_non q]
      show (it.last :: (r.filter fun it => !it.isMix).map Item.last).sum = _
      rw [List.sum_cons, ih]
theorem lasts_take {t : Track} {i : Nat} {it : Item} (e : t[i]? = some it) : lastsOf (t.take (i + 1)) = if it.isMix = true then lastsOf (t.take i) else lastsOf (t.take i) ++ [it.last] := by
  unfold lastsOf
  rw [List.take_add_one, e, List.filter_append, List.map_append]
  show _ ++ ((([it] : Track).filter fun it => !it.isMix).map Item.last) = _
  cases q : it.isMix with
  | true =>
    have e2 : ([it] : Track).filter (fun it => !it.isMix) = [] := by rw [List.filter_cons, q]; rfl
    rw [e2]
    exact List.append_nil _
  | false =>
    have e2 : ([it] : Track).filter (fun it => !it.isMix) = [it] := by rw [List.filter_cons, q]; rfl
    rw [e2]
    rfl
/-! the layer's rules where K is told -/
theorem ixT {X : Cx} {K : PySem.W.Frag} (h : X.K = K) : IxR X (rIxT K) := h ▸ ix_tup
theorem sumK {X : Cx} {K : PySem.W.Frag} (hc : X.calm = true) (h : X.K = K) : CallR X (.builtin "sum") (rSum K) := h ▸ cr_sum hc
theorem listK {X : Cx} {K : PySem.W.Frag} {tg l : Expr} {tl : TE} (h : X.K = K) (hl : PE X l tl) : PI X tg l (iList K tl) := h ▸ pi_list hl
theorem exists_end : ∀ {ts : List Track}, ts ≠ [] → ∃ e, IsEnd ts e
  | [], h => absurd rfl h
  | [t], _ => ⟨lenOf t, fun z hz => by rw [List.mem_singleton.mp hz]; exact Int.le_refl _, t, List.mem_singleton.mpr rfl, rfl⟩
  | t :: u :: r, _ => by
    obtain ⟨e, h1, z, hz, ez⟩ := exists_end (ts := u :: r) (by intro q; cases q)
    by_cases c : lenOf t ≤ e
    · exact ⟨e, fun y hy => by
        rcases List.mem_cons.mp hy with k | k
        · rw [k]; exact c
        · exact h1 y k, z, List.mem_cons_of_mem _ hz, ez⟩
    · exact ⟨lenOf t, fun y hy => by
        rcases List.mem_cons.mp hy with k | k
        · rw [k]; exact Int.le_refl _
        · have := h1 y k
          omega, t, List.mem_cons_self, rfl⟩
section
variable {P : Program} {w : World} {K : PySem.W.Frag} {mg : Str → Option Value} {base : Heap} {tabs : Str → List Track}
/-! ### _law_flat_right -/
def spRight (K : PySem.W.Frag) (tabs : Str → List Track) (n : Nat) : Sp := fun vs H Q _ => ∃ (z : V) (nm : Str), vs = [z, .str nm] ∧ RoomAt K tabs H z ∧ GoodTab tabs (n + 1) nm ∧ ∀ H', Same H H' → Q (.bl true) H'
theorem sc_law_flat_right : FnScope ["_law_room", "_law_name", "_law_pieces", "_law_end", "_law_moment", "_law_track_here", "_law_item", "_law_piece"] ["_law_room", "_law_name"] (defScope s_law_flat_right) := ⟨rfl, rfl, rfl, by decide +kernel, rfl, by decide +kernel, by decide +kernel⟩
theorem ok_law_flat_right {n : Nat} (T : Txt K mg) : Keeps P w base (2 * n + 10) T.law_flat_right (spRight K tabs n) := by
  refine T.law_flat_right.ok sc_law_flat_right (fun vs H Q E h => ?_) (fun cdv A outer s H vs Q E hr h => ?_)
  · obtain ⟨z, nm, rfl, _⟩ := h
    rfl
  obtain ⟨z, nm, rfl, hz, ok, k⟩ := h
  obtain ⟨e, hE⟩ := exists_end ok.2.1
  obtain ⟨he1, he2⟩ := id hE
  obtain ⟨p, td, rv, kvs, rfl, hp, hd, hk⟩ := id hz
  obtain ⟨tb, tl, tv, e1, e2, e3⟩ := hk (n + 1) nm ok
  obtain ⟨la, vs, rfl, hl, hvs⟩ := dp_lst e3
  have hlen : vs.length = (tabs nm).length := (dpa_len hvs).trans (List.length_map _)
  have hget : DGet H td (.str nm) (some (.ref tb)) := by
    have g := DGet.k (k := Sum.inr nm) hd
    rw [e1] at g
    exact g
  have GT := told_all (P := P) (w := w) (base := base) (tabs := tabs) T (n + 1)
  refine ⟨_, pss_cons (ps_set (i := 2) sc_law_flat_right.nd rfl (Or.inl rfl) (cl T.laid_flat (ok_laid_flat (n := n) (tabs := tabs) T) hr (by omega) (by rfl) (pa_cons (pv 0) (pa_cons (pv 1) pa_nil))))
    (pss_cons (ps_set (i := 3) sc_law_flat_right.nd rfl (Or.inl rfl) (pe_callB (cr_max rfl) (by rfl) T.b_max (by decide +kernel) (pa_cons
      (pe_lc (own := [("_law_track_here", 5)]) (g := gName 5) (tt := tYes) rfl sc_law_flat_right.nd (pi_list (pe_ix ix_tup (pe_dget (hu_of hr) (pe_ix ix_tup (pv 0) pe_int (fun _ _ => rfl)) (pv 1) (fun _ _ => rfl)) pe_int (fun _ _ => rfl))) (blkOk_by (N := ["_law_room", "_law_name", "_law_pieces", "_law_end", "_law_moment", "_law_track_here", "_law_item", "_law_piece"]) (sc := defScope s_law_flat_right) (by decide +kernel)) (fun _ _ _ _ _ => pg_name (i := 5) sc_law_flat_right.nd rfl (Or.inl rfl)) (fun _ _ _ _ _ => pts_nil)
        (fun _ _ _ _ _ => pe_callB (sumK (K := K) rfl rfl) (by rfl) T.b_sum (by decide +kernel) (pa_cons
          (pe_lc (own := [("_law_item", 6)]) (g := gName 6) rfl sc_law_flat_right.nd (listK (K := K) rfl (pv 5)) (blkOk_nofree (blkOk_by (N := ["_law_room", "_law_name", "_law_pieces", "_law_end", "_law_moment", "_law_track_here", "_law_item", "_law_piece"]) (sc := defScope s_law_flat_right) (by decide +kernel)) (by decide +kernel)) (fun _ _ _ _ _ => pg_name (i := 6) sc_law_flat_right.nd rfl (Or.inl rfl))
            (fun _ _ _ _ _ => pts_one (pt_cmpR op_ne (pe_ix (ixT (K := K) rfl) (pv 6) pe_int (fun _ _ => rfl)) pe_str (nomark _)))
            (fun _ _ _ _ _ => pe_ix (ixT (K := K) rfl) (pv 6) (pe_un un_neg pe_int) (fun _ _ => rfl))) pa_nil))) pa_nil)))
    (pss_cons (ps_if (pt_cmpR op_ne (pe_callB (cr_sum rfl) (by rfl) T.b_sum (by decide +kernel) (pa_cons
        (pe_lc (own := [("_law_piece", 7)]) (g := gName 7) (tt := tYes) rfl sc_law_flat_right.nd (pi_list (pv 2)) (blkOk_by (N := ["_law_room", "_law_name", "_law_pieces", "_law_end", "_law_moment", "_law_track_here", "_law_item", "_law_piece"]) (sc := defScope s_law_flat_right) (by decide +kernel)) (fun _ _ _ _ _ => pg_name (i := 7) sc_law_flat_right.nd rfl (Or.inl rfl)) (fun _ _ _ _ _ => pts_nil)
          (fun _ _ _ _ _ => pe_ix (ixT (K := K) rfl) (pv 7) pe_int (fun _ _ => rfl))) pa_nil)) (pv 3) (nomark _)) (pss_one (ps_ret pe_bl)) pss_nil)
    (pss_cons (ps_for PassesOwn.never rfl (pi_range1 (by rfl) T.b_range (pa_cons (pe_op op_add (pv 3) pe_int) pa_nil)) (pg_name (i := 4) sc_law_flat_right.nd rfl (Or.inl rfl))
      (pss_one (ps_if (pt_cmpR (op_neD hr.units) (cl T.told_flat (ok_told_flat T) hr (by omega) (by rfl) (pa_cons (pv 2) (pa_cons (pv 4) pa_nil))) (cl T.told_at GT hr (by omega) (by rfl) (pa_cons (pv 0) (pa_cons (pv 1) (pa_cons (pv 4) pa_nil)))) (nomark _)) (pss_one (ps_ret pe_bl)) pss_nil)))
    (pss_one (ps_ret pe_bl))))), ?_⟩
  refine ⟨_, rfl, _, rfl, _, nm, e, rfl, hz, ok, hE, fun r ps H1 g1 L hps hpn d1 => ?_⟩
  have e100 : e ≤ 100 := by
    obtain ⟨t, ht, et⟩ := he2
    rw [← et]
    exact (ok.2.2 t ht).most
  have e0 : 0 ≤ e := by
    obtain ⟨t, ht, et⟩ := he2
    rw [← et]
    exact lenOf_nonneg fun it hi => (wf_ok t _ (ok.2.2 t ht).wf it hi).room
  have hget1 : DGet H1 td (.str nm) (some (.ref tb)) := by
    have g := DGet.k (k := Sum.inr nm) (g1 _ _ hd)
    rw [e1] at g
    exact g
  -- the longest track
  refine ⟨_, rfl, p, _, _, _, rfl, rfl, g1.tup hp, rfl, _, rfl, td, _, rfl, hget1, tb, _, _, _, rfl, rfl, g1.tup e2, rfl, la, rfl, ⟨_, g1.seq hl⟩, fun D nD => ?_⟩
  refine lc_list (K := K) (a := la) (xs := vs) (fun i H' => Same H1 H' ∧ H' D = some (.lst ((((tabs nm).take i).map lenOf).map V.int))) ⟨same_new nD _, by rw [upd_same]; rfl⟩ (fun i H' _ p => p.1.seq (g1.seq hl)) ?_ ?_
  · rintro i x H2 ex ⟨sm, eD⟩
    obtain ⟨t, et, dt⟩ := dpm_at (sm.dpAll (g1.dpAll hvs)) ex
    have okt := ok.2.2 t (List.mem_of_getElem? et)
    obtain ⟨ta, us, rfl, hta, hus, hul⟩ := dpt dt
    refine ⟨rfl, ?_⟩
    refine ⟨_, rfl, ta, rfl, ⟨_, hta⟩, fun D2 nD2 => ?_⟩
    have s2 := same_new nD2 (.lst [])
    refine lc_list (K := K) (a := ta) (xs := us) (fun j H' => Same H2 H' ∧ H' D2 = some (.lst ((lastsOf (t.take j)).map V.int))) ⟨s2, by rw [upd_same]; rfl⟩ (fun j H' _ p => p.1.seq hta) ?_ ?_
    · rintro j y H3 ey ⟨sm3, eD2⟩
      obtain ⟨it, eit, dit⟩ := dpm_at (sm3.dpAll hus) ey
      obtain ⟨b, bs, rfl, hb, h0, h1, _⟩ := dp_item dit
      refine ⟨rfl, ?_⟩
      refine ⟨_, rfl, b, _, _, _, rfl, rfl, hb, h0, rfl, _, rfl, if_sne (fun c => ?_) (fun c => ?_)⟩
      · have cm : it.isMix = false := by
          cases q : it.isMix with
          | false => rfl
          | true => exact absurd (word_mix.mpr q) c
        refine ⟨_, rfl, _, rfl, b, _, _, _, rfl, rfl, hb, h1, _, eD2, ?_, same_upd sm3 nD2, ?_⟩
        · have e9 : (lastsOf (t.take j)).length ≤ t.length := by
            unfold lastsOf
            rw [List.length_map]
            refine Nat.le_trans (List.length_filter_le _ _) ?_
            rw [List.length_take]
            omega
          have := okt.len
          rw [List.length_map]
          exact Nat.lt_of_le_of_lt (show (lastsOf (t.take j)).length ≤ 1000 by omega) (by decide)
        · rw [upd_same, lasts_take eit, if_neg (by rw [cm]; decide), List.map_append]
          rfl
      · have cm : it.isMix = true := word_mix.mp c
        refine ⟨sm3, ?_⟩
        rw [lasts_take eit, if_pos cm]
        exact eD2
    · rintro H3 ⟨sm3, eD2⟩
      rw [hul, List.take_length] at eD2
      refine ⟨D2, lastsOf t, rfl, .of eD2, ?_⟩
      rw [lasts_sum]
      refine ⟨_, sm3 _ _ eD, ?_, same_upd (sm.trans sm3) nD, ?_⟩
      · rw [List.length_map, List.length_map, List.length_take]
        have := ok.1
        exact Nat.lt_of_le_of_lt (Nat.min_le_right _ _) (Nat.lt_of_le_of_lt this (by decide))
      · rw [upd_same, List.take_add_one, et, List.map_append, List.map_append]
        rfl
  rintro H2 ⟨sm2, eD⟩
  rw [hlen, List.take_length] at eD
  have hne : 0 < ((tabs nm).map lenOf).length := by
    rw [List.length_map]
    exact List.length_pos_iff.mpr ok.2.1
  refine ⟨D, (tabs nm).map lenOf, rfl, .of eD, hne, fun mx hm hle => ?_⟩
  have emx : mx = e := by
    obtain ⟨t, ht, et⟩ := List.mem_map.mp hm
    obtain ⟨t2, ht2, et2⟩ := he2
    have h1 := he1 t ht
    have h2 := hle (lenOf t2) (List.mem_map.mpr ⟨t2, ht2, rfl⟩)
    omega
  subst emx
  -- the pieces' lengths
  have d2 := sm2.dp d1
  obtain ⟨pa, pvs, rfl, hpa, hpvs⟩ := dp_lst d2
  have hpl : pvs.length = ps.length := (dpa_len hpvs).trans (List.length_map _)
  refine ⟨_, rfl, pa, rfl, ⟨_, hpa⟩, fun D3 nD3 => ?_⟩
  refine lc_list (K := K) (a := pa) (xs := pvs) (fun i H' => Same H2 H' ∧ H' D3 = some (.lst (((ps.take i).map Prod.fst).map V.int))) ⟨same_new nD3 _, by rw [upd_same]; rfl⟩ (fun i H' _ p => p.1.seq hpa) ?_ ?_
  · rintro i x H3 ex ⟨sm3, eD3⟩
    obtain ⟨pc, epc, dpc⟩ := dpm_at (sm3.dpAll hpvs) ex
    obtain ⟨b, bp, us, rfl, hb, _, _⟩ := dp_piece dpc
    refine ⟨rfl, ?_⟩
    refine ⟨_, rfl, b, _, _, _, rfl, rfl, hb, rfl, _, eD3, ?_, same_upd sm3 nD3, ?_⟩
    · rw [List.length_map, List.length_map, List.length_take]
      exact Nat.lt_of_le_of_lt (Nat.min_le_right _ _) (Nat.lt_of_le_of_lt hpn (by decide))
    · rw [upd_same, List.take_add_one, epc, List.map_append, List.map_append]
      rfl
  rintro H3 ⟨sm3, eD3⟩
  rw [hpl, List.take_length] at eD3
  refine ⟨D3, ps.map Prod.fst, rfl, .of eD3, _, rfl, rfl, _, rfl, if_ne (fun c => absurd L.len c) (fun _ => ?_)⟩
  -- each moment
  have sm13 := g1.trans (sm2.trans sm3)
  refine ⟨_, rfl, _, _, rfl, rfl, _, rfl, by omega, by omega, for_range (lo := 0) (n := (mx + 2).toNat) (fun i σ H' => ∃ y4 : Option V, σ = [some (.ref p), some (.str nm), some (.ref pa), some (.int mx), y4, none, none, none] ∧ Same H3 H')
    ⟨none, rfl, Same.refl H3⟩ ?_ ?_⟩
  · rintro i σ H4 hi ⟨y4, rfl, sm4⟩
    have x0 : (0 : Int) ≤ 0 + (i : Int) := by omega
    refine ⟨_, rfl, _, rfl, _, ps, _, rfl, sm4.dp (sm3.dp d2), L.parts, hps, fun r5 H5 g5 d5 => ?_⟩
    refine ⟨_, rfl, _, rfl, _, rfl, _, nm, _, rfl, hz.same (sm13.trans (sm4.trans g5)), ok, x0, fun r6 H6 g6 d6 => ?_⟩
    have eq : toldFlat ps (0 + (i : Int)) = toldAt tabs (n + 1) nm (0 + (i : Int)) := laid_all ok L he1 x0
    rw [eq] at d5
    have hree := toldAt_reel (n + 1) nm (0 + (i : Int)) ok x0
    refine ⟨_, _, g6.dp d5, d6, shaped_tells hree, shaped_tells hree, _, rfl, ?_⟩
    rw [eqv_same hree]
    exact iteF ⟨some (.int (0 + (i : Int))), rfl, sm4.trans (g5.trans g6)⟩
  · rintro σ H4 ⟨y4, rfl, sm4⟩
    exact k H4 (sm13.trans sm4)
end
end Rc

set_option maxHeartbeats 4000000
namespace Rc
open PySem PySem.Spec PyProof.Rows L2
/-! ### names -/
def nmK : Nat → Str
  | 0 => "ta"
  | 1 => "abc"
  | 2 => "bc"
  | 3 => "cde"
  | 4 => "de"
  | _ => "ef"
def nmsL (i : Nat) : List Str := (List.range i).map nmK
theorem nmsL_succ (i : Nat) : nmsL (i + 1) = nmsL i ++ [nmK i] := by
  unfold nmsL
  rw [List.range_succ, List.map_append]
  rfl
theorem mem_nms {i : Nat} {nm : Str} : nm ∈ nmsL i ↔ ∃ j, j < i ∧ nm = nmK j := by
  unfold nmsL
  rw [List.mem_map]
  constructor
  · rintro ⟨j, hj, e⟩
    exact ⟨j, List.mem_range.mp hj, e.symm⟩
  · rintro ⟨j, hj, e⟩
    exact ⟨j, List.mem_range.mpr hj, e.symm⟩
theorem nmsL_len (i : Nat) : (nmsL i).length = i := by
  unfold nmsL
  rw [List.length_map, List.length_range]
theorem nm_ne : ∀ i, i < 6 → ∀ j, j < i → nmK j ≠ nmK i := by decide +kernel
theorem nm_cut : ∀ i, i < 6 → cutS "tabcdef" (some (0 + ((i : Nat) : Int))) (some (0 + ((i : Nat) : Int) + 2 + (0 + ((i : Nat) : Int)).fmod 2)) = nmK i := by decide +kernel
theorem nm_lay : ∀ i, PyData.canLay0 (.str (nmK i)) = true := fun i => by
  rw [PyData.canLay0]
  match i with
  | 0 => decide +kernel
  | 1 => decide +kernel
  | 2 => decide +kernel
  | 3 => decide +kernel
  | 4 => decide +kernel
  | n + 5 => show _ = true; exact (by decide +kernel : PyData.strOk ("ef" : Str) = true)
theorem nms_ok (i : Nat) : NamesOk (nmsL i) := fun nm h => by
  obtain ⟨j, _, e⟩ := mem_nms.mp h
  rw [e]
  exact nm_lay j
theorem several_at : ∀ i, i < 6 → ∃ m : Int, atI [V.int 3, V.int 3, V.int 2, V.int 2, V.int 2, V.int 2] (0 + ((i : Nat) : Int)) = some (.int m) ∧ 0 < m ∧ m ≤ 3
  | 0, _ => ⟨3, rfl, by decide, by decide⟩
  | 1, _ => ⟨3, rfl, by decide, by decide⟩
  | 2, _ => ⟨2, rfl, by decide, by decide⟩
  | 3, _ => ⟨2, rfl, by decide, by decide⟩
  | 4, _ => ⟨2, rfl, by decide, by decide⟩
  | 5, _ => ⟨2, rfl, by decide, by decide⟩
  | n + 6, h => absurd h (by omega)
/-! ### a heap without some of its lists -/
def hid (l : List Addr) (H : Hp) : Hp := fun b => if b ∈ l then none else H b
theorem hid_in {l : List Addr} {H : Hp} {b : Addr} (h : b ∈ l) : hid l H b = none := by unfold hid; rw [if_pos h]
theorem hid_out {l : List Addr} {H : Hp} {b : Addr} (h : b ∉ l) : hid l H b = H b := by unfold hid; rw [if_neg h]
theorem hid_some {l : List Addr} {H : Hp} {b : Addr} {o : HO} (h : hid l H b = some o) : b ∉ l ∧ H b = some o := by
  by_cases c : b ∈ l
  · rw [hid_in c] at h
    cases h
  · rw [hid_out c] at h
    exact ⟨c, h⟩
theorem hid_same (l : List Addr) (H : Hp) : Same (hid l H) H := fun b o h => (hid_some h).2
theorem hid_upd {l : List Addr} {H : Hp} {b : Addr} {o : HO} (h : b ∈ l) : hid l (upd H b o) = hid l H := by
  funext c
  by_cases q : c ∈ l
  · rw [hid_in q, hid_in q]
  · rw [hid_out q, hid_out q, upd_ne (fun e => q (by rw [e]; exact h))]
theorem hid_but {l : List Addr} {H H' : Hp} {d : Addr} (b : But d H H') : But d (hid l H) (hid l H') := fun c o n h => by
  obtain ⟨h1, h2⟩ := hid_some h
  rw [hid_out h1]
  exact b c o n h2
theorem hid_keep {l : List Addr} {H H' : Hp} (s : Same H H') : Same (hid l H) (hid l H') := fun c o h => by
  obtain ⟨h1, h2⟩ := hid_some h
  rw [hid_out h1]
  exact s c o h2
theorem hid_less {l l' : List Addr} {H : Hp} (h : ∀ b ∈ l, b ∈ l') : Same (hid l' H) (hid l H) := fun c o e => by
  obtain ⟨h1, h2⟩ := hid_some e
  rw [hid_out fun q => h1 (h c q)]
  exact h2
theorem tup_hid {K : PySem.W.Frag} {l : List Addr} {H : Hp} (hl : ∀ b ∈ l, ∃ ys, H b = some (.lst ys)) : ∀ a xs, SqT K H a xs → SqT K (hid l H) a xs := fun a xs h => by
  rcases h with (h | ⟨o, h⟩) | h
  · refine .inl (.inl ?_)
    rw [hid_out fun q => ?_]
    · exact h
    · obtain ⟨ys, e⟩ := hl a q
      rw [e] at h
      cases h
  · refine .inl (.inr ⟨o, ?_⟩)
    rw [hid_out fun q => ?_]
    · exact h
    · obtain ⟨ys, e⟩ := hl a q
      rw [e] at h
      cases h
  · exact .inr h
theorem reels_ne {H : Hp} {rd p : Addr} {o : HO} (h : ReelsX H (.ref rd)) (n : rd ≠ p) : ReelsX (upd H p o) (.ref rd) := by
  obtain ⟨a, m, k, e, ha, r⟩ := h
  cases e
  exact ⟨rd, m, k, rfl, by rw [upd_ne n]; exact ha, r⟩
theorem reels_lst {H : Hp} {rd p : Addr} {xs : List V} (h : ReelsX H (.ref rd)) (e : H p = some (.lst xs)) : rd ≠ p := by
  obtain ⟨a, m, k, e2, ha, r⟩ := h
  cases e2
  exact ne_of ha e (by intro q; cases q)
/-! ### tables, one behind the other -/
theorem GoodTab.ext {tabs tabs' : Str → List Track} {new : Str} (h0 : tabs new = []) (h : ∀ x, x ≠ new → tabs' x = tabs x) : ∀ {n : Nat} {nm : Str}, GoodTab tabs n nm → GoodTab tabs' n nm
  | 0, _, g => g.elim
  | n + 1, nm, g => by
    have ne : nm ≠ new := fun e => by
      rw [e] at g
      exact g.2.1 h0
    have e := h nm ne
    refine ⟨by rw [e]; exact g.1, by rw [e]; exact g.2.1, fun t ht => ?_⟩
    rw [e] at ht
    exact (g.2.2 t ht).mono fun x hx => GoodTab.ext h0 h hx
theorem GoodTab.some {tabs : Str → List Track} : ∀ {n : Nat} {nm : Str}, GoodTab tabs n nm → tabs nm ≠ []
  | 0, _, g => g.elim
  | _ + 1, _, g => g.2.1
structure Tabs (K : PySem.W.Frag) (nl : Addr) (kvs : List (Key × V)) (tabs : Str → List Track) (i : Nat) (H : Hp) : Prop where
  at_ : ∀ nm, tabs nm ≠ [] → ∃ (tb : Addr) (tl tv : V), valV kvs (Sum.inr nm) = some (.ref tb) ∧ SqT K (hid [nl] H) tb [tl, tv] ∧ Dp K (hid [nl] H) tl (.list ((tabs nm).map encT))
  named : ∀ nm, tabs nm ≠ [] → nm ∈ nmsL i
  keys : ∀ nm, valV kvs (Sum.inr nm) ≠ none → nm ∈ nmsL i
  good : ∀ j, j < i → GoodTab tabs (j + 1) (nmK j)
theorem Tabs.reads {K : PySem.W.Frag} {nl : Addr} {kvs : List (Key × V)} {tabs : Str → List Track} {i : Nat} {H H' : Hp} (h : Tabs K nl kvs tabs i H) (r : Reads1 K (hid [nl] H) (hid [nl] H')) : Tabs K nl kvs tabs i H' :=
  ⟨fun nm hn => by
    obtain ⟨tb, tl, tv, e1, e2, e3⟩ := h.at_ nm hn
    exact ⟨tb, tl, tv, e1, r.tup _ _ e2, dp_mono r _ _ e3⟩, h.named, h.keys, h.good⟩
structure LawSt (K : PySem.W.Frag) (S d rd nl td : Addr) (He : Hp) (i : Nat) (H : Hp) : Prop where
  but : But d He H
  dr : DrAt S K H d
  reels : ReelsX H (.ref rd)
  names : H nl = some (.lst ((nmsL i).map V.str))
  ex : ∃ kvs tabs, H td = some (.dK kvs) ∧ kvs.length ≤ i ∧ Tabs K nl kvs tabs i H
/-- through a call that changes the draws alone -/
theorem LawSt.call {K : PySem.W.Frag} {S d rd nl td : Addr} {He H H' : Hp} {i : Nat} (h : LawSt K S d rd nl td He i H) (ntd : td ≠ d) (b : But d H H') (hd : DrAt S K H' d) : LawSt K S d rd nl td He i H' := by
  obtain ⟨kvs, tabs, e, hl, ht⟩ := h.ex
  have nnl : nl ≠ d := h.dr.ne h.names (by intro k q; cases q)
  refine ⟨h.but.trans b, hd, h.reels.but h.dr b, b _ _ nnl h.names, kvs, tabs, b _ _ ntd e, hl, ht.reads ?_⟩
  obtain ⟨ns, w, l, t, n, k, ed, _⟩ := h.dr.ex
  refine (hid_but b).reads (kvs := dKvs S w l t n k) ?_
  · rw [hid_out (by rw [List.mem_singleton]; exact fun q => nnl q.symm)]
    exact ed
theorem LawSt.same {K : PySem.W.Frag} {S d rd nl td : Addr} {He H H' : Hp} {i : Nat} (h : LawSt K S d rd nl td He i H) (ntd : td ≠ d) (s : Same H H') : LawSt K S d rd nl td He i H' := h.call ntd (But.of s) (h.dr.same s)
end Rc

set_option maxHeartbeats 4000000
namespace Rc
open PySem PySem.Spec PyProof.Rows L2
section
variable {P : Program} {w : World} {K : PySem.W.Frag} {mg : Str → Option Value} {base : Heap}
/-! ### the law -/
def spLaw (K : PySem.W.Frag) : Sp := fun vs H Q _ => ∃ (a : Addr) (ns : List Int), vs = [.ref a] ∧ SqL K H a (ns.map V.int) ∧ ∀ H', Q (.bl true) H'
theorem free_of {K : PySem.W.Frag} {S d x : Addr} {H H' : Hp} (b : But d H H') (h : DrAt S K H' d) (n : H' x = none) : H x = none := by
  cases e : H x with
  | none => rfl
  | some o =>
    by_cases z : x = d
    · obtain ⟨ns, w1, l, t, n1, k, ed, _⟩ := h.ex
      rw [z, ed] at n
      cases n
    · rw [b _ _ z e] at n
      cases n
/-- _law_flat_right, whatever the tables -/
def spRightE (K : PySem.W.Frag) (n : Nat) : Sp := fun vs H Q E => ∃ tabs : Str → List Track, spRight K tabs n vs H Q E
theorem right_all {n : Nat} (T : Txt K mg) : Keeps P w base (2 * n + 10) T.law_flat_right (spRightE K n) :=
  ⟨fun vs H Q E ⟨tabs, h⟩ => (ok_law_flat_right (P := P) (w := w) (base := base) (n := n) (tabs := tabs) T).len vs H Q E h, fun A outer s H args us vs Q E hr he hb hv ⟨tabs, h⟩ => (ok_law_flat_right (n := n) (tabs := tabs) T).run A outer s H args us vs Q E hr he hb hv h⟩
theorem sc_law : FnScope ["_law_script", "_law_draws_here", "_law_reels", "_law_names", "_law_tables", "_law_k", "_law_several", "_law_name", "_law_room", "_law_j"] ["_law_script"] (defScope s_law) := ⟨rfl, rfl, rfl, by decide +kernel, rfl, by decide +kernel, by decide +kernel⟩
theorem ok_law (T : Txt K mg) : Keeps P w base 21 T.law (spLaw K) := by
  refine T.law.ok sc_law (fun vs H Q E h => ?_) (fun cdv A outer s H vs Q E hr h => ?_)
  · obtain ⟨a, ns, rfl, _⟩ := h
    rfl
  obtain ⟨S, ns, rfl, hS, q⟩ := h
  have N := ok_law_next (P := P) (w := w) (base := base) T
  have hu := hu_of hr
  refine ⟨_, pss_cons (ps_set (i := 1) sc_law.nd rfl (Or.inr rfl) (cl T.law_draws (ok_law_draws T) hr (by decide) (by rfl) (pa_cons (pv 0) pa_nil)))
    (pss_cons (ps_set (i := 2) sc_law.nd rfl (Or.inr rfl) (pe_disp (pps_cons pe_str (pe_op op_add pe_int (pe_op op_modN (cl T.law_next N hr (by decide) (by rfl) (pa_cons (pv 1) pa_nil)) pe_int)) (pps_cons pe_str (pe_op op_add pe_int (pe_op op_modN (cl T.law_next N hr (by decide) (by rfl) (pa_cons (pv 1) pa_nil)) pe_int)) pps_nil)) (by rfl) (by rfl) (fun z => by cases z) (by decide)))
    (pss_cons (ps_set (i := 3) sc_law.nd rfl (Or.inr rfl) (pe_lst pa_nil))
    (pss_cons (ps_set (i := 4) sc_law.nd rfl (Or.inl rfl) pe_dnewK)
    (pss_cons (ps_for PassesOwn.never rfl (pi_range1 (by rfl) T.b_range (pa_cons (pe_op op_add pe_int (pe_op op_modN (cl T.law_next N hr (by decide) (by rfl) (pa_cons (pv 1) pa_nil)) pe_int)) pa_nil)) (pg_name (i := 5) sc_law.nd rfl (Or.inl rfl))
      (pss_cons (ps_set (i := 6) sc_law.nd rfl (Or.inl rfl) (pe_op op_add pe_int (pe_op op_modN (cl T.law_next N hr (by decide) (by rfl) (pa_cons (pv 1) pa_nil)) (pe_ix ix_list (pe_lst (pa_cons pe_int (pa_cons pe_int (pa_cons pe_int (pa_cons pe_int (pa_cons pe_int (pa_cons pe_int pa_nil))))))) (pv 5) (fun _ _ => rfl)))))
        (pss_cons (ps_set (i := 7) sc_law.nd rfl (Or.inl rfl) (pe_slice sl_str pe_str (po_some (pv 5)) (po_some (pe_op op_add (pe_op op_add (pv 5) pe_int) (pe_op op_modN (pv 5) pe_int)))))
        (pss_cons (ps_dput hu (pv 4) (pv 7) (pe_tup (pa_cons (pe_lc (own := [("_law_j", 9)]) (g := gName 9) (tt := tYes) rfl sc_law.nd (pi_range1 (by rfl) T.b_range (pa_cons (pv 6) pa_nil)) (blkOk_by (N := ["_law_script", "_law_draws_here", "_law_reels", "_law_names", "_law_tables", "_law_k", "_law_several", "_law_name", "_law_room", "_law_j"]) (sc := defScope s_law) (by decide +kernel)) (fun _ _ _ _ _ => pg_name (i := 9) sc_law.nd rfl (Or.inl rfl)) (fun _ _ _ _ _ => pts_nil)
              (fun _ _ _ _ _ => cl T.law_track (ok_law_track T) hr (by decide) (by rfl) (pa_cons (pv 1) (pa_cons (pv 2) (pa_cons (pv 3) pa_nil))))) (pa_cons (pe_lst pa_nil) pa_nil))) rfl)
        (pss_one (ps_expr (pe_bm PySem.F.plainAttrs_list PySem.F.slot_list_append PySem.F.type_list_append mt_append (pv 3) (pa_cons (pv 7) pa_nil))))))))
    (pss_cons (ps_set (i := 8) sc_law.nd rfl (Or.inl rfl) (pe_tup (pa_cons (pv 2) (pa_cons (pv 4) pa_nil))))
    (pss_cons (ps_for PassesOwn.never rfl (pi_list (pv 3)) (pg_name (i := 7) sc_law.nd rfl (Or.inl rfl))
      (pss_one (ps_if (pt_not (pt_val (cl T.law_flat_right (right_all (n := 5) T) hr (by decide) (by rfl) (pa_cons (pv 8) (pa_cons (pv 7) pa_nil))))) (pss_one (ps_ret pe_bl)) pss_nil)))
    (pss_one (ps_ret pe_bl)))))))), ?_⟩
  -- the draws
  refine ⟨_, rfl, S, ns, rfl, hS, fun d He nd gHe hdr => ?_⟩
  -- the reels
  intro rd nrd
  have nrdd : rd ≠ d := by
    obtain ⟨ns, w1, l, t, n1, k, ed, _⟩ := hdr.ex
    exact (ne_of_none ed nrd).symm
  have g1 := same_new nrd (.dK [])
  refine ⟨_, rfl, d, S, rfl, hdr.same g1, fun v1 H1 v10 v11 c1 hd1 => ⟨_, _, rfl, rfl, by show (60 : Int) ≠ 0; decide, _, _, rfl, rfl, ?_⟩⟩
  refine ⟨_, rfl, d, S, rfl, hd1, fun v2 H2 v20 v21 c2 hd2 => ⟨_, _, rfl, rfl, by show (60 : Int) ≠ 0; decide, _, _, rfl, rfl, ?_⟩⟩
  have e2 : H2 rd = some (.dK []) := c2 _ _ nrdd (c1 _ _ nrdd upd_same)
  refine ⟨e2, rKvs (1 + v1.fmod 60) (1 + v2.fmod 60), rfl, by show 2 ≤ 15; decide, ?_⟩
  have em : mergeK [] (rKvs (1 + v1.fmod 60) (1 + v2.fmod 60)) = rKvs (1 + v1.fmod 60) (1 + v2.fmod 60) := by rfl
  rw [em]
  obtain ⟨m0, m1⟩ := fmod_in (a := v1) (b := 60) (by decide)
  obtain ⟨m2, m3⟩ := fmod_in (a := v2) (b := 60) (by decide)
  have b2 : But d He H2 := ((But.of g1).trans c1).trans c2
  have b3 : But d He (upd H2 rd (.dK (rKvs (1 + v1.fmod 60) (1 + v2.fmod 60)))) := but_upd b2 nrd
  have hd3 : DrAt S K (upd H2 rd (.dK (rKvs (1 + v1.fmod 60) (1 + v2.fmod 60)))) d := dr_keep hdr b3 hd2 (upd_ne nrdd.symm)
  have r3 : ReelsX (upd H2 rd (.dK (rKvs (1 + v1.fmod 60) (1 + v2.fmod 60)))) (.ref rd) := ⟨rd, _, _, rfl, upd_same, by omega, by omega, by omega, by omega⟩
  generalize upd H2 rd (.dK (rKvs (1 + v1.fmod 60) (1 + v2.fmod 60))) = H3 at b3 hd3 r3 ⊢
  -- the names, the tables
  refine ⟨Nat.zero_le _, fun nl nnl => ?_⟩
  have g4 := same_new nnl (.lst [])
  have nnlHe := free_of b3 hd3 nnl
  have hd4 := hd3.same g4
  have b4 := b3.trans (But.of g4)
  have r4 := r3.same g4
  have e4 : (upd H3 nl (.lst [])) nl = some (.lst []) := upd_same
  generalize upd H3 nl (.lst []) = H4 at g4 hd4 b4 r4 e4 ⊢
  intro td ntd
  have g5 := same_new ntd (.dK [])
  have ntdHe := free_of b4 hd4 ntd
  have tdd : td ≠ d := by
    obtain ⟨ns, w1, l, t, n1, k, ed, _⟩ := hd4.ex
    exact (ne_of_none ed ntd).symm
  have tdrd : rd ≠ td := by
    obtain ⟨a, m, k, e, ha, _⟩ := r4
    cases e
    exact ne_of_none ha ntd
  have tdnl : nl ≠ td := ne_of_none e4 ntd
  have rdnl : rd ≠ nl := reels_lst r4 e4
  have nld : nl ≠ d := hd4.ne e4 (by intro k z; cases z)
  have L0 : LawSt K S d rd nl td He 0 (upd H4 td (.dK [])) := ⟨b4.trans (But.of g5), hd4.same g5, r4.same g5, g5 _ _ e4, [], fun _ => [], upd_same, Nat.le_refl _, (fun nm h => absurd rfl h), (fun nm h => absurd rfl h), (fun nm h => absurd rfl h), (fun j hj => absurd hj (by omega))⟩
  generalize upd H4 td (.dK []) = H5 at L0 ⊢
  -- the tables, one behind the other
  refine ⟨_, rfl, d, S, rfl, L0.dr, fun v6 H6 v60 v61 c6 hd6 => ⟨_, _, rfl, rfl, by show (6 : Int) ≠ 0; decide, _, _, rfl, rfl, ?_⟩⟩
  obtain ⟨k0, k1⟩ := fmod_in (a := v6) (b := 6) (by decide)
  refine ⟨_, rfl, by omega, by omega, for_range (lo := 0) (n := (1 + v6.fmod 6).toNat) (fun i σ H' => ∃ y5 y6 y7 : Option V, σ = [some (.ref S), some (.ref d), some (.ref rd), some (.ref nl), some (.ref td), y5, y6, y7, none, none] ∧ LawSt K S d rd nl td He i H')
    ⟨none, none, none, rfl, L0.call tdd c6 hd6⟩ ?_ ?_⟩
  · rintro i σ H1 hi ⟨y5, y6, y7, rfl, L1⟩
    have hi6 : i < 6 := by omega
    -- several
    refine ⟨_, rfl, d, S, rfl, L1.dr, fun w2 H2 w20 w21 c2 hd2 => ?_⟩
    have L2 := L1.call tdd c2 hd2
    refine ⟨by show 6 ≤ sizeLine; decide, fun p1 n1 => ?_⟩
    have g3 := same_new n1 (.lst [.int 3, .int 3, .int 2, .int 2, .int 2, .int 2])
    obtain ⟨sv, esv, sv0, sv3⟩ := several_at i hi6
    refine ⟨_, rfl, p1, _, _, _, rfl, rfl, .of upd_same, esv, _, _, rfl, rfl, by show sv ≠ 0; omega, _, _, rfl, rfl, ?_⟩
    obtain ⟨u0, u1⟩ := fmod_in (a := w2) sv0
    have L3 := L2.same tdd g3
    generalize upd H2 p1 (.lst [.int 3, .int 3, .int 2, .int 2, .int 2, .int 2]) = H3 at L3 ⊢
    -- the name
    refine ⟨_, rfl, _, rfl, _, rfl, _, _, rfl, rfl, _, rfl, _, _, rfl, rfl, by show (2 : Int) ≠ 0; decide, _, _, rfl, rfl, _, rfl, _, rfl, by decide +kernel, ?_⟩
    have ecut : cutS (Str.ofString "tabcdef") (some (0 + (i : Int))) (some (0 + (i : Int) + 2 + (0 + (i : Int)).fmod 2)) = nmK i := nm_cut i hi6
    -- the tracks
    refine ⟨_, rfl, _, rfl, by omega, by omega, fun D nD => ?_⟩
    have nDHe := free_of L3.but L3.dr nD
    have Dnl : nl ≠ D := ne_of_none L3.names nD
    have Dd : d ≠ D := by
      obtain ⟨ns, w1, l, t, n1, k, ed, _⟩ := L3.dr.ex
      exact ne_of_none ed nD
    have s0 := same_new nD (.lst [])
    refine lc_range (lo := 0) (n := (1 + w2.fmod sv).toNat) (fun j H' => But d H3 H' ∧ DrAt S K H' d ∧ ReelsX H' (.ref rd) ∧ H' nl = some (.lst ((nmsL i).map V.str)) ∧ ∃ (ts : List Track) (ws : List V), H' D = some (.lst ws) ∧ DpAll K (hid [D, nl] H') ws (ts.map encT) ∧ ts.length = j ∧ ∀ t ∈ ts, TrackOk (fun nm => nm ∈ nmsL i) t)
      ⟨But.of s0, L3.dr.same s0, L3.reels.same s0, s0 _ _ L3.names, [], [], upd_same, .nil, rfl, (fun t ht => nomatch ht)⟩ ?_ ?_
    · rintro j H4 hj ⟨b4, hd4, r4, en4, ts, ws, eD4, dts, hln, hok⟩
      refine ⟨rfl, ?_⟩
      refine ⟨_, rfl, _, rfl, _, rfl, d, S, nl, _, nmsL i, rfl, hd4, r4, .of en4, nms_ok i, by rw [nmsL_len]; omega, fun f wf t H5 c5 hd5 nf ef dwf okt => ?_⟩
      have eD5 : H5 D = some (.lst ws) := c5 _ _ Dd.symm eD4
      have en5 : H5 nl = some (.lst ((nmsL i).map V.str)) := c5 _ _ nld en4
      have b5 := b4.trans c5
      have wl : ws.length = ts.length := (dpa_len dts).trans (List.length_map _)
      have fD : f ≠ D := fun z => by rw [z, eD4] at nf; cases nf
      have fnl : f ≠ nl := fun z => by rw [z, en4] at nf; cases nf
      have hl5 : ∀ b ∈ [D, nl], ∃ ys, H5 b = some (.lst ys) := fun b hb => by
        rcases List.mem_cons.mp hb with z | z
        · exact ⟨ws, by rw [z]; exact eD5⟩
        · exact ⟨_, by rw [List.mem_singleton.mp z]; exact en5⟩
      refine ⟨ws, eD5, Nat.lt_of_le_of_lt (show ws.length ≤ 1000 by omega) (by decide), but_upd b5 nD, ?_, reels_ne (r4.but hd4 c5) (reels_lst (r4.but hd4 c5) eD5), by rw [upd_ne Dnl]; exact en5, ts ++ [t], ws ++ [.ref f], upd_same, ?_, by rw [List.length_append, List.length_singleton, hln], fun z hz => ?_⟩
      · exact dr_keep hdr (but_upd (L3.but.trans b5) nDHe) hd5 (upd_ne Dd)
      · rw [hid_upd List.mem_cons_self, List.map_append]
        refine dpa_app ?_ (.cons (.lst (.of ?_) (dpAll_tups (tup_hid hl5) _ _ (noLs_map noL_I _) dwf)) .nil)
        · obtain ⟨ns, w1, l, t1, n1, k, ed, _⟩ := hd4.ex
          refine dpAll_mono ((hid_but c5).reads (kvs := dKvs S w1 l t1 n1 k) ?_) _ _ dts
          rw [hid_out fun z => ?_]
          · exact ed
          · rcases List.mem_cons.mp z with z | z
            · exact Dd z
            · exact nld (List.mem_singleton.mp z).symm
        · rw [hid_out fun z => ?_]
          · exact ef
          · rcases List.mem_cons.mp z with z | z
            · exact fD z
            · exact fnl (List.mem_singleton.mp z)
      · rcases List.mem_append.mp hz with k | k
        · exact hok z k
        · rw [List.mem_singleton.mp k]
          exact okt
    · rintro H4 ⟨b4, hd4, r4, en4, ts, ws, eD4, dts, hln, hok⟩
      have L4 := L3.call tdd b4 hd4
      refine ⟨Nat.zero_le _, fun p2 n2 => ?_⟩
      have g5 := same_new n2 (.lst [])
      refine ⟨by show 2 ≤ sizeLine; decide, fun tb ntb => ?_⟩
      have g6 := same_new ntb (.tup [.ref D, .ref p2])
      have g56 := g5.trans g6
      have L6 := L4.same tdd g56
      have etb : (upd (upd H4 p2 (.lst [])) tb (.tup [.ref D, .ref p2])) tb = some (.tup [.ref D, .ref p2]) := upd_same
      have eD6 := g56 _ _ eD4
      have hT6 : Dp K (hid [nl] (upd (upd H4 p2 (.lst [])) tb (.tup [.ref D, .ref p2]))) (.ref D) (.list (ts.map encT)) := by
        refine .lst (.of ?_) ((hid_keep g56).dpAll ((hid_less (l := [nl]) (l' := [D, nl]) fun b hb => List.mem_cons_of_mem _ hb).dpAll dts))
        rw [hid_out (by rw [List.mem_singleton]; exact Dnl.symm)]
        exact eD6
      have tbnl : tb ≠ nl := ne_of etb L6.names (by intro z; cases z)
      generalize upd (upd H4 p2 (.lst [])) tb (.tup [.ref D, .ref p2]) = H6 at L6 etb eD6 hT6 ⊢
      obtain ⟨kvs, tabs, etd, hkl, TB⟩ := L6.ex
      have fresh : nmK i ∉ nmsL i := fun z => by
        obtain ⟨j, hj, e⟩ := mem_nms.mp z
        exact nm_ne i hi6 j hj e.symm
      have hnone : valV kvs (Sum.inr (nmK i)) = none := by
        cases z : valV kvs (Sum.inr (nmK i)) with
        | none => rfl
        | some u => exact absurd (TB.keys _ (by rw [z]; intro y; cases y)) fresh
      have htabs : tabs (nmK i) = [] := by
        cases z : tabs (nmK i) with
        | nil => rfl
        | cons u us => exact absurd (TB.named _ (by rw [z]; intro y; cases y)) fresh
      have eput : putK kvs (Sum.inr (nmK i)) (.ref tb) = kvs ++ [(Sum.inr (nmK i), .ref tb)] := putK_new _ hnone
      have pdp : DPut H6 td (.str (nmK i)) (.ref tb) (upd H6 td (.dK (kvs ++ [(Sum.inr (nmK i), .ref tb)]))) := dput etd (by omega) eput
      have pdp2 : DPut H6 td (V.str (cutS (Str.ofString "tabcdef") (some (0 + (i : Int))) (some (0 + (i : Int) + 2 + (0 + (i : Int)).fmod 2)))) (.ref tb) (upd H6 td (.dK (kvs ++ [(Sum.inr (nmK i), .ref tb)]))) := by rw [ecut]; exact pdp
      refine ⟨_, rfl, _, rfl, td, _, rfl, pdp2, ?_⟩
      have en7 : (upd H6 td (.dK (kvs ++ [(Sum.inr (nmK i), .ref tb)]))) nl = some (.lst ((nmsL i).map V.str)) := by rw [upd_ne tdnl]; exact L6.names
      refine ⟨_, rfl, .inl ⟨rfl, _, SqL.of en7⟩, _, rfl, nl, _, _, rfl, rfl, en7, Nat.lt_of_le_of_lt (show ((nmsL i).map V.str).length ≤ 1000 by rw [List.length_map, nmsL_len]; omega) (by decide), ?_⟩
      refine ⟨_, _, _, rfl, ?_⟩
      have ecut2 : V.str (cutS (Str.ofString "tabcdef") (some (0 + (i : Int))) (some (0 + (i : Int) + 2 + (0 + (i : Int)).fmod 2))) = V.str (nmK i) := by rw [ecut]
      have goal : LawSt K S d rd nl td He (i + 1) (upd (upd H6 td (.dK (kvs ++ [(Sum.inr (nmK i), .ref tb)]))) nl (.lst ((nmsL i).map V.str ++ [V.str (nmK i)]))) := by
        have R : Reads1 K (hid [nl] H6) (hid [nl] (upd (upd H6 td (.dK (kvs ++ [(Sum.inr (nmK i), .ref tb)]))) nl (.lst ((nmsL i).map V.str ++ [V.str (nmK i)])))) := by
          rw [hid_upd (List.mem_singleton.mpr rfl)]
          refine (hid_but But.upd).reads (kvs := kvs) ?_
          rw [hid_out (by rw [List.mem_singleton]; exact tdnl.symm)]
          exact etd
        have bt := but_upd (o := .lst ((nmsL i).map V.str ++ [V.str (nmK i)])) (but_upd (o := .dK (kvs ++ [(Sum.inr (nmK i), .ref tb)])) L6.but ntdHe) nnlHe
        have put : ∀ nm : Str, valV (kvs ++ [(Sum.inr (nmK i), V.ref tb)]) (Sum.inr nm) = if nm = nmK i then some (V.ref tb) else valV kvs (Sum.inr nm) := fun nm => by
          rw [valV_snoc _ _ _ _ hnone]
          by_cases z : nm = nmK i
          · rw [if_pos z, if_pos (by rw [z])]
          · rw [if_neg z, if_neg (fun y => z (Sum.inr.inj y))]
        have ext : ∀ {n nm}, GoodTab tabs n nm → GoodTab (fun x => if x = nmK i then ts else tabs x) n nm := fun g => GoodTab.ext htabs (fun x hx => if_neg hx) g
        refine ⟨bt, dr_keep hdr bt L6.dr (by rw [upd_ne nld.symm, upd_ne tdd.symm]), reels_ne (reels_ne L6.reels tdrd) rdnl, by rw [upd_same, nmsL_succ, List.map_append]; rfl, kvs ++ [(Sum.inr (nmK i), .ref tb)], fun x => if x = nmK i then ts else tabs x, by rw [upd_ne tdnl.symm, upd_same], by rw [List.length_append, List.length_singleton]; omega, fun nm hnm => ?_, fun nm hnm => ?_, fun nm hnm => ?_, fun j hj => ?_⟩
        · rw [put]
          by_cases z : nm = nmK i
          · rw [if_pos z]
            show ∃ tb' tl tv, some (V.ref tb) = some (V.ref tb') ∧ SqT K _ tb' [tl, tv] ∧ Dp K _ tl (.list ((if nm = nmK i then ts else tabs nm).map encT))
            rw [if_pos z]
            refine ⟨tb, .ref D, .ref p2, rfl, R.tup _ _ (.of ?_), dp_mono R _ _ hT6⟩
            rw [hid_out (by rw [List.mem_singleton]; exact tbnl)]
            exact etb
          · rw [if_neg z]
            have hnm : tabs nm ≠ [] := by
              have h : (if nm = nmK i then ts else tabs nm) ≠ [] := hnm
              rw [if_neg z] at h
              exact h
            obtain ⟨tb', tl, tv, f1, f2, f3⟩ := TB.at_ nm hnm
            show ∃ tb' tl tv, valV kvs (Sum.inr nm) = some (V.ref tb') ∧ SqT K _ tb' [tl, tv] ∧ Dp K _ tl (.list ((if nm = nmK i then ts else tabs nm).map encT))
            rw [if_neg z]
            exact ⟨tb', tl, tv, f1, R.tup _ _ f2, dp_mono R _ _ f3⟩
        · rw [nmsL_succ]
          by_cases z : nm = nmK i
          · exact List.mem_append_right _ (List.mem_singleton.mpr z)
          · have h : (if nm = nmK i then ts else tabs nm) ≠ [] := hnm
            rw [if_neg z] at h
            exact List.mem_append_left _ (TB.named nm h)
        · rw [nmsL_succ]
          rw [put] at hnm
          by_cases z : nm = nmK i
          · exact List.mem_append_right _ (List.mem_singleton.mpr z)
          · rw [if_neg z] at hnm
            exact List.mem_append_left _ (TB.keys nm hnm)
        · by_cases z : j < i
          · exact ext (TB.good j z)
          · have ej : j = i := by omega
            rw [ej]
            have eT : (fun x => if x = nmK i then ts else tabs x) (nmK i) = ts := if_pos rfl
            refine ⟨by rw [eT]; omega, ?_, fun t ht => ?_⟩
            · rw [eT]
              intro y
              rw [y] at hln
              have hln : 0 = (1 + w2.fmod sv).toNat := hln
              omega
            · rw [eT] at ht
              refine (hok t ht).mono fun nm hnm => ?_
              obtain ⟨j2, hj2, e⟩ := mem_nms.mp hnm
              rw [e]
              exact ext ((TB.good j2 hj2).le (by omega))
      rw [← ecut2] at goal
      exact goal
  · rintro σ H1 ⟨y5, y6, y7, rfl, L1⟩
    obtain ⟨kvs, tabs, etd, hkl, TB⟩ := L1.ex
    -- the room
    refine ⟨_, rfl, _, rfl, by show 2 ≤ sizeLine; decide, fun pr npr => ?_⟩
    have g2 := same_new npr (.tup [.ref rd, .ref td])
    have RA : RoomAt K tabs (upd H1 pr (.tup [.ref rd, .ref td])) (.ref pr) := by
      refine ⟨pr, td, .ref rd, kvs, rfl, .of upd_same, g2 _ _ etd, fun n nm g => ?_⟩
      obtain ⟨tb, tl, tv, f1, f2, f3⟩ := TB.at_ nm g.some
      have s := (hid_same [nl] H1).trans g2
      exact ⟨tb, tl, tv, f1, s.tup f2, s.dp f3⟩
    have en2 := g2 _ _ L1.names
    generalize upd H1 pr (.tup [.ref rd, .ref td]) = H2 at RA en2 ⊢
    refine ⟨_, rfl, nl, rfl, ⟨_, .of en2⟩, for_list (K := K) (a := nl) (xs := (nmsL (1 + v6.fmod 6).toNat).map V.str) (fun i σ H' => ∃ y7 : Option V, σ = [some (.ref S), some (.ref d), some (.ref rd), some (.ref nl), some (.ref td), y5, y6, y7, some (.ref pr), none] ∧ Same H2 H')
      ⟨y7, rfl, Same.refl H2⟩ (fun i σ H' _ ⟨_, _, sm⟩ => sm.seq (.of en2)) ?_ ?_⟩
    · rintro i x σ H3 ex ⟨y7', rfl, sm⟩
      rw [List.getElem?_map] at ex
      cases en : (nmsL (1 + v6.fmod 6).toNat)[i]? with
      | none =>
        rw [en] at ex
        cases ex
      | some nm =>
        rw [en] at ex
        have ex : V.str nm = x := Option.some.inj ex
        subst ex
        obtain ⟨j, hj, e⟩ := mem_nms.mp (List.mem_of_getElem? en)
        have G : GoodTab tabs 6 nm := by
          rw [e]
          exact (TB.good j hj).le (by omega)
        refine ⟨_, rfl, _, rfl, tabs, _, nm, rfl, RA.same sm, G, fun H4 g4 => ⟨true, rfl, ?_⟩⟩
        exact iteF ⟨some (.str nm), rfl, sm.trans g4⟩
    · rintro σ H3 ⟨y7', rfl, sm⟩
      exact q H3
end
end Rc

set_option maxHeartbeats 0
namespace Rc
open PySem PySem.Spec PyProof.Rows L2
/-! ### the head: facts by names, the run -/
def d_is_whole : He.DefD := ⟨("is_whole", none), "is_whole", "is_whole", defArgs s_is_whole, defBody s_is_whole, defScope s_is_whole, [], []⟩
def d_shared_by : He.DefD := ⟨("shared_by", none), "shared_by", "shared_by", defArgs s_shared_by, defBody s_shared_by, defScope s_shared_by, [], []⟩
def d_fraction : He.DefD := ⟨("fraction", none), "fraction", "fraction", defArgs s_fraction, defBody s_fraction, defScope s_fraction, [], []⟩
def d_sum_of : He.DefD := ⟨("sum_of", none), "sum_of", "sum_of", defArgs s_sum_of, defBody s_sum_of, defScope s_sum_of, [], []⟩
def d_less_by : He.DefD := ⟨("less_by", none), "less_by", "less_by", defArgs s_less_by, defBody s_less_by, defScope s_less_by, [], []⟩
def d_times_of : He.DefD := ⟨("times_of", none), "times_of", "times_of", defArgs s_times_of, defBody s_times_of, defScope s_times_of, [], []⟩
def d_quotient : He.DefD := ⟨("quotient", none), "quotient", "quotient", defArgs s_quotient, defBody s_quotient, defScope s_quotient, [], []⟩
def d_floor_of : He.DefD := ⟨("floor_of", none), "floor_of", "floor_of", defArgs s_floor_of, defBody s_floor_of, defScope s_floor_of, [], []⟩
def d_place_at : He.DefD := ⟨("place_at", none), "place_at", "place_at", defArgs s_place_at, defBody s_place_at, defScope s_place_at, [], []⟩
def d_picture_at : He.DefD := ⟨("picture_at", none), "picture_at", "picture_at", defArgs s_picture_at, defBody s_picture_at, defScope s_picture_at, [], []⟩
def d_steps_up : He.DefD := ⟨("steps_up", none), "steps_up", "steps_up", defArgs s_steps_up, defBody s_steps_up, defScope s_steps_up, [], []⟩
def d_steps_down : He.DefD := ⟨("steps_down", none), "steps_down", "steps_down", defArgs s_steps_down, defBody s_steps_down, defScope s_steps_down, [], []⟩
def d_room_from : He.DefD := ⟨("room_from", none), "room_from", "room_from", defArgs s_room_from, defBody s_room_from, defScope s_room_from, [], []⟩
def d_head_room : He.DefD := ⟨("head_room", none), "head_room", "head_room", defArgs s_head_room, defBody s_head_room, defScope s_head_room, [], []⟩
def d_tail_room : He.DefD := ⟨("tail_room", none), "tail_room", "tail_room", defArgs s_tail_room, defBody s_tail_room, defScope s_tail_room, [], []⟩
def d_room_of : He.DefD := ⟨("room_of", none), "room_of", "room_of", defArgs s_room_of, defBody s_room_of, defScope s_room_of, [], []⟩
def d_length_of : He.DefD := ⟨("length_of", none), "length_of", "length_of", defArgs s_length_of, defBody s_length_of, defScope s_length_of, [], []⟩
def d_item_at : He.DefD := ⟨("item_at", none), "item_at", "item_at", defArgs s_item_at, defBody s_item_at, defScope s_item_at, [], []⟩
def d_mix_spans : He.DefD := ⟨("mix_spans", none), "mix_spans", "mix_spans", defArgs s_mix_spans, defBody s_mix_spans, defScope s_mix_spans, [], []⟩
def d_mix_shares : He.DefD := ⟨("mix_shares", none), "mix_shares", "mix_shares", defArgs s_mix_shares, defBody s_mix_shares, defScope s_mix_shares, [], []⟩
def d_clips_at : He.DefD := ⟨("clips_at", none), "clips_at", "clips_at", defArgs s_clips_at, defBody s_clips_at, defScope s_clips_at, [], []⟩
def d_taken_at_begin : He.DefD := ⟨("taken_at_begin", none), "taken_at_begin", "taken_at_begin", defArgs s_taken_at_begin, defBody s_taken_at_begin, defScope s_taken_at_begin, [], []⟩
def d_taken_at_end : He.DefD := ⟨("taken_at_end", none), "taken_at_end", "taken_at_end", defArgs s_taken_at_end, defBody s_taken_at_end, defScope s_taken_at_end, [], []⟩
def d_most_between : He.DefD := ⟨("most_between", none), "most_between", "most_between", defArgs s_most_between, defBody s_most_between, defScope s_most_between, [], []⟩
def d_most_mix : He.DefD := ⟨("most_mix", none), "most_mix", "most_mix", defArgs s_most_mix, defBody s_most_mix, defScope s_most_mix, [], []⟩
def d_sooner : He.DefD := ⟨("sooner", none), "sooner", "sooner", defArgs s_sooner, defBody s_sooner, defScope s_sooner, [], []⟩
def d_clip_run : He.DefD := ⟨("clip_run", none), "clip_run", "clip_run", defArgs s_clip_run, defBody s_clip_run, defScope s_clip_run, [], []⟩
def d_mix_run : He.DefD := ⟨("mix_run", none), "mix_run", "mix_run", defArgs s_mix_run, defBody s_mix_run, defScope s_mix_run, [], []⟩
def d_track_run : He.DefD := ⟨("track_run", none), "track_run", "track_run", defArgs s_track_run, defBody s_track_run, defScope s_track_run, [], []⟩
def d_table_run : He.DefD := ⟨("table_run", none), "table_run", "table_run", defArgs s_table_run, defBody s_table_run, defScope s_table_run, [], []⟩
def d_laid_flat : He.DefD := ⟨("laid_flat", none), "laid_flat", "laid_flat", defArgs s_laid_flat, defBody s_laid_flat, defScope s_laid_flat, [], []⟩
def d_told_flat : He.DefD := ⟨("told_flat", none), "told_flat", "told_flat", defArgs s_told_flat, defBody s_told_flat, defScope s_told_flat, [], []⟩
def d_steps_on : He.DefD := ⟨("steps_on", none), "steps_on", "steps_on", defArgs s_steps_on, defBody s_steps_on, defScope s_steps_on, [], []⟩
def d_told_part : He.DefD := ⟨("told_part", none), "told_part", "told_part", defArgs s_told_part, defBody s_told_part, defScope s_told_part, [], []⟩
def d_told_mix : He.DefD := ⟨("told_mix", none), "told_mix", "told_mix", defArgs s_told_mix, defBody s_told_mix, defScope s_told_mix, [], []⟩
def d_told_on : He.DefD := ⟨("told_on", none), "told_on", "told_on", defArgs s_told_on, defBody s_told_on, defScope s_told_on, [], []⟩
def d_told_at : He.DefD := ⟨("told_at", none), "told_at", "told_at", defArgs s_told_at, defBody s_told_at, defScope s_told_at, [], []⟩
def d_law_cell_at : He.DefD := ⟨("_law_cell_at", none), "_law_cell_at", "_law_cell_at", defArgs s_law_cell_at, defBody s_law_cell_at, defScope s_law_cell_at, [], []⟩
def d_law_mixed : He.DefD := ⟨("_law_mixed", none), "_law_mixed", "_law_mixed", defArgs s_law_mixed, defBody s_law_mixed, defScope s_law_mixed, [], []⟩
def d_law_draws : He.DefD := ⟨("_law_draws", none), "_law_draws", "_law_draws", defArgs s_law_draws, defBody s_law_draws, defScope s_law_draws, [], []⟩
def d_law_next : He.DefD := ⟨("_law_next", none), "_law_next", "_law_next", defArgs s_law_next, defBody s_law_next, defScope s_law_next, [], []⟩
def d_law_fraction : He.DefD := ⟨("_law_fraction", none), "_law_fraction", "_law_fraction", defArgs s_law_fraction, defBody s_law_fraction, defScope s_law_fraction, [], []⟩
def d_law_there : He.DefD := ⟨("_law_there", none), "_law_there", "_law_there", defArgs s_law_there, defBody s_law_there, defScope s_law_there, [], []⟩
def d_law_clip : He.DefD := ⟨("_law_clip", none), "_law_clip", "_law_clip", defArgs s_law_clip, defBody s_law_clip, defScope s_law_clip, [], []⟩
def d_law_mixes_put : He.DefD := ⟨("_law_mixes_put", none), "_law_mixes_put", "_law_mixes_put", defArgs s_law_mixes_put, defBody s_law_mixes_put, defScope s_law_mixes_put, [], []⟩
def d_law_track : He.DefD := ⟨("_law_track", none), "_law_track", "_law_track", defArgs s_law_track, defBody s_law_track, defScope s_law_track, [], []⟩
def d_law_flat_right : He.DefD := ⟨("_law_flat_right", none), "_law_flat_right", "_law_flat_right", defArgs s_law_flat_right, defBody s_law_flat_right, defScope s_law_flat_right, [], []⟩
def d_law : He.DefD := ⟨("law", none), "law", "law", defArgs s_law, defBody s_law, defScope s_law, [], []⟩
def fn : List He.DefD := [d_is_whole, d_shared_by, d_fraction, d_sum_of, d_less_by, d_times_of, d_quotient, d_floor_of, d_place_at, d_picture_at, d_steps_up, d_steps_down, d_room_from, d_head_room, d_tail_room, d_room_of, d_length_of, d_item_at, d_mix_spans, d_mix_shares, d_clips_at, d_taken_at_begin, d_taken_at_end, d_most_between, d_most_mix, d_sooner, d_clip_run, d_mix_run, d_track_run, d_table_run, d_laid_flat, d_told_flat, d_steps_on, d_told_part, d_told_mix, d_told_on, d_told_at, d_law_cell_at, d_law_mixed, d_law_draws, d_law_next, d_law_fraction, d_law_there, d_law_clip, d_law_mixes_put, d_law_track, d_law_flat_right, d_law]
def fa : List He.Fa := [.glo "is_whole", .glo "shared_by", .glo "fraction", .glo "sum_of", .glo "less_by", .glo "times_of", .glo "quotient", .glo "floor_of", .glo "place_at", .glo "picture_at", .glo "steps_up", .glo "steps_down", .glo "room_from", .glo "head_room", .glo "tail_room", .glo "room_of", .glo "length_of", .glo "item_at", .glo "mix_spans", .glo "mix_shares", .glo "clips_at", .glo "taken_at_begin", .glo "taken_at_end", .glo "most_between", .glo "most_mix", .glo "sooner", .glo "clip_run", .glo "mix_run", .glo "track_run", .glo "table_run", .glo "laid_flat", .glo "told_flat", .glo "steps_on", .glo "told_part", .glo "told_mix", .glo "told_on", .glo "told_at", .glo "_law_cell_at", .glo "_law_mixed", .glo "_law_draws", .glo "_law_next", .glo "_law_fraction", .glo "_law_there", .glo "_law_clip", .glo "_law_mixes_put", .glo "_law_track", .glo "_law_flat_right", .glo "law", .free "isinstance", .free "abs", .free "min", .free "max", .free "sum", .free "len", .free "enumerate", .free "range", .free "list", .free "int", .free "bool", .int "MOST_ROOM" 1000000, .int "MOST_PIECES" 400, .glo "WHOLE"]
abbrev R : PySem.W.OpenRow := PySem.W.OpenLaw.row PySem.Challenge.rw_reelcut_k62_whole_flat_nested
def wh : List He.Dv := [.int 1, .int 1]
def obs1 (g : Addr → Option Obj) : He.AlD × Bool := (He.obsD fa fn (He.frG g (He.asD g 4)), He.tupB (He.frG g (He.asD g 4)) "WHOLE" wh)
def hk : PySem.W.Hook where
  α := He.AlD × Bool
  obs := fun s => obs1 s.heap.get?
  val := fun _ => (He.valD fn, true)
  says := fun _ h => ∃ K : PySem.W.Frag, K.In h ∧ He.SaysD fa fn K ∧ He.tupB K "WHOLE" wh = true
  of := fun _ _ e => ⟨_, He.frG_in, congrArg (fun z : He.AlD × Bool => z.1) e, congrArg (fun z : He.AlD × Bool => z.2) e⟩
  keeps := fun _ _ _ ⟨K, hK, c, d⟩ k => ⟨K, PySem.W.Frag.In.keeps hK k, c, d⟩
def ob (s : PySem.W.SharedT) : He.AlD × Bool := obs1 (HandSHeadRun.getT s)
theorem ob_eq (s : PySem.W.SharedT) : ob s = hk.obs s.abs := by
  have e : HandSHeadRun.getT s = s.abs.heap.get? := funext fun a => HandSHeadRun.getT_eq s a
  show obs1 (HandSHeadRun.getT s) = obs1 s.abs.heap.get?
  rw [e]
def loA : List PySem.Str := ["CutError", "NoNumber", "NoPlace", "TooMuch", "is_whole", "shared_by", "fraction", "sum_of", "less_by", "times_of", "quotient", "floor_of", "MOST_ROOM", "place_at", "picture_at", "steps_up", "steps_down", "room_from", "head_room", "tail_room", "room_of", "length_of", "item_at", "mix_spans", "mix_shares", "clips_at", "taken_at_begin", "taken_at_end", "most_between", "most_mix"]
def loB : List PySem.Str := ["MOST_PIECES", "sooner", "clip_run", "mix_run", "track_run", "table_run", "laid_flat", "told_flat", "steps_on", "told_part", "WHOLE", "told_mix", "told_on", "told_at", "_law_cell_at", "_law_mixed", "_law_draws", "_law_next", "_law_fraction", "_law_there", "_law_clip", "_law_mixes_put", "_law_track", "_law_flat_right"]
def loose : List PySem.Str := loA ++ loB
theorem run (w : World) : HandSHeadRun.RunEq R (PySem.W.view R.prog [62]) hk ob 2500 loose w := by
  intro os
  kernel_rfl
end Rc

set_option maxHeartbeats 4000000
namespace Rc
open PySem PySem.Spec PyProof.Rows L2
/-! ### the end: the defs by names -/
theorem facts {P : Program} {w : World} {K : PySem.W.Frag} {h : Heap} {mg : Str → Option Value} {f : Addr} (X : K.In h) (G : h.Ns mainGlobals mg) (hfa : mg ("law" : Str) = some (.ref f)) (c : He.SaysD fa fn K) (cw : He.tupB K "WHOLE" wh = true) :
    ∃ fd : FuncData, (∀ (s : Shared) (v : Value), BindsTo s fd ⟨[v], []⟩ [("_law_script", v)]) ∧ ∀ base : Heap, K.In base → base.Ns mainGlobals mg → FnOk P w K mg base CX0 21 f fd ["_law_script"] (spLaw K) := by
  obtain ⟨fd_is_whole, F_is_whole⟩ := c.def_ 0 (d := d_is_whole) rfl
  obtain ⟨fd_shared_by, F_shared_by⟩ := c.def_ 1 (d := d_shared_by) rfl
  obtain ⟨fd_fraction, F_fraction⟩ := c.def_ 2 (d := d_fraction) rfl
  obtain ⟨fd_sum_of, F_sum_of⟩ := c.def_ 3 (d := d_sum_of) rfl
  obtain ⟨fd_less_by, F_less_by⟩ := c.def_ 4 (d := d_less_by) rfl
  obtain ⟨fd_times_of, F_times_of⟩ := c.def_ 5 (d := d_times_of) rfl
  obtain ⟨fd_quotient, F_quotient⟩ := c.def_ 6 (d := d_quotient) rfl
  obtain ⟨fd_floor_of, F_floor_of⟩ := c.def_ 7 (d := d_floor_of) rfl
  obtain ⟨fd_place_at, F_place_at⟩ := c.def_ 8 (d := d_place_at) rfl
  obtain ⟨fd_picture_at, F_picture_at⟩ := c.def_ 9 (d := d_picture_at) rfl
  obtain ⟨fd_steps_up, F_steps_up⟩ := c.def_ 10 (d := d_steps_up) rfl
  obtain ⟨fd_steps_down, F_steps_down⟩ := c.def_ 11 (d := d_steps_down) rfl
  obtain ⟨fd_room_from, F_room_from⟩ := c.def_ 12 (d := d_room_from) rfl
  obtain ⟨fd_head_room, F_head_room⟩ := c.def_ 13 (d := d_head_room) rfl
  obtain ⟨fd_tail_room, F_tail_room⟩ := c.def_ 14 (d := d_tail_room) rfl
  obtain ⟨fd_room_of, F_room_of⟩ := c.def_ 15 (d := d_room_of) rfl
  obtain ⟨fd_length_of, F_length_of⟩ := c.def_ 16 (d := d_length_of) rfl
  obtain ⟨fd_item_at, F_item_at⟩ := c.def_ 17 (d := d_item_at) rfl
  obtain ⟨fd_mix_spans, F_mix_spans⟩ := c.def_ 18 (d := d_mix_spans) rfl
  obtain ⟨fd_mix_shares, F_mix_shares⟩ := c.def_ 19 (d := d_mix_shares) rfl
  obtain ⟨fd_clips_at, F_clips_at⟩ := c.def_ 20 (d := d_clips_at) rfl
  obtain ⟨fd_taken_at_begin, F_taken_at_begin⟩ := c.def_ 21 (d := d_taken_at_begin) rfl
  obtain ⟨fd_taken_at_end, F_taken_at_end⟩ := c.def_ 22 (d := d_taken_at_end) rfl
  obtain ⟨fd_most_between, F_most_between⟩ := c.def_ 23 (d := d_most_between) rfl
  obtain ⟨fd_most_mix, F_most_mix⟩ := c.def_ 24 (d := d_most_mix) rfl
  obtain ⟨fd_sooner, F_sooner⟩ := c.def_ 25 (d := d_sooner) rfl
  obtain ⟨fd_clip_run, F_clip_run⟩ := c.def_ 26 (d := d_clip_run) rfl
  obtain ⟨fd_mix_run, F_mix_run⟩ := c.def_ 27 (d := d_mix_run) rfl
  obtain ⟨fd_track_run, F_track_run⟩ := c.def_ 28 (d := d_track_run) rfl
  obtain ⟨fd_table_run, F_table_run⟩ := c.def_ 29 (d := d_table_run) rfl
  obtain ⟨fd_laid_flat, F_laid_flat⟩ := c.def_ 30 (d := d_laid_flat) rfl
  obtain ⟨fd_told_flat, F_told_flat⟩ := c.def_ 31 (d := d_told_flat) rfl
  obtain ⟨fd_steps_on, F_steps_on⟩ := c.def_ 32 (d := d_steps_on) rfl
  obtain ⟨fd_told_part, F_told_part⟩ := c.def_ 33 (d := d_told_part) rfl
  obtain ⟨fd_told_mix, F_told_mix⟩ := c.def_ 34 (d := d_told_mix) rfl
  obtain ⟨fd_told_on, F_told_on⟩ := c.def_ 35 (d := d_told_on) rfl
  obtain ⟨fd_told_at, F_told_at⟩ := c.def_ 36 (d := d_told_at) rfl
  obtain ⟨fd_law_cell_at, F_law_cell_at⟩ := c.def_ 37 (d := d_law_cell_at) rfl
  obtain ⟨fd_law_mixed, F_law_mixed⟩ := c.def_ 38 (d := d_law_mixed) rfl
  obtain ⟨fd_law_draws, F_law_draws⟩ := c.def_ 39 (d := d_law_draws) rfl
  obtain ⟨fd_law_next, F_law_next⟩ := c.def_ 40 (d := d_law_next) rfl
  obtain ⟨fd_law_fraction, F_law_fraction⟩ := c.def_ 41 (d := d_law_fraction) rfl
  obtain ⟨fd_law_there, F_law_there⟩ := c.def_ 42 (d := d_law_there) rfl
  obtain ⟨fd_law_clip, F_law_clip⟩ := c.def_ 43 (d := d_law_clip) rfl
  obtain ⟨fd_law_mixes_put, F_law_mixes_put⟩ := c.def_ 44 (d := d_law_mixes_put) rfl
  obtain ⟨fd_law_track, F_law_track⟩ := c.def_ 45 (d := d_law_track) rfl
  obtain ⟨fd_law_flat_right, F_law_flat_right⟩ := c.def_ 46 (d := d_law_flat_right) rfl
  obtain ⟨fd_law, F_law⟩ := c.def_ 47 (d := d_law) rfl
  have T : Txt K mg := {
    is_whole := ⟨_, fd_is_whole, F_is_whole, F_is_whole.bindsN fun _ _ _ _ _ _ us hl => match us, hl with | [_], _ => rfl, He.glo_ok X G (c.fact 0 (f := .glo "is_whole") rfl)⟩
    shared_by := ⟨_, fd_shared_by, F_shared_by, F_shared_by.bindsN fun _ _ _ _ _ _ us hl => match us, hl with | [_, _], _ => rfl, He.glo_ok X G (c.fact 1 (f := .glo "shared_by") rfl)⟩
    fraction := ⟨_, fd_fraction, F_fraction, F_fraction.bindsN fun _ _ _ _ _ _ us hl => match us, hl with | [_, _], _ => rfl, He.glo_ok X G (c.fact 2 (f := .glo "fraction") rfl)⟩
    sum_of := ⟨_, fd_sum_of, F_sum_of, F_sum_of.bindsN fun _ _ _ _ _ _ us hl => match us, hl with | [_, _], _ => rfl, He.glo_ok X G (c.fact 3 (f := .glo "sum_of") rfl)⟩
    less_by := ⟨_, fd_less_by, F_less_by, F_less_by.bindsN fun _ _ _ _ _ _ us hl => match us, hl with | [_, _], _ => rfl, He.glo_ok X G (c.fact 4 (f := .glo "less_by") rfl)⟩
    times_of := ⟨_, fd_times_of, F_times_of, F_times_of.bindsN fun _ _ _ _ _ _ us hl => match us, hl with | [_, _], _ => rfl, He.glo_ok X G (c.fact 5 (f := .glo "times_of") rfl)⟩
    quotient := ⟨_, fd_quotient, F_quotient, F_quotient.bindsN fun _ _ _ _ _ _ us hl => match us, hl with | [_, _], _ => rfl, He.glo_ok X G (c.fact 6 (f := .glo "quotient") rfl)⟩
    floor_of := ⟨_, fd_floor_of, F_floor_of, F_floor_of.bindsN fun _ _ _ _ _ _ us hl => match us, hl with | [_], _ => rfl, He.glo_ok X G (c.fact 7 (f := .glo "floor_of") rfl)⟩
    place_at := ⟨_, fd_place_at, F_place_at, F_place_at.bindsN fun _ _ _ _ _ _ us hl => match us, hl with | [_, _], _ => rfl, He.glo_ok X G (c.fact 8 (f := .glo "place_at") rfl)⟩
    picture_at := ⟨_, fd_picture_at, F_picture_at, F_picture_at.bindsN fun _ _ _ _ _ _ us hl => match us, hl with | [_, _], _ => rfl, He.glo_ok X G (c.fact 9 (f := .glo "picture_at") rfl)⟩
    steps_up := ⟨_, fd_steps_up, F_steps_up, F_steps_up.bindsN fun _ _ _ _ _ _ us hl => match us, hl with | [_, _, _], _ => rfl, He.glo_ok X G (c.fact 10 (f := .glo "steps_up") rfl)⟩
    steps_down := ⟨_, fd_steps_down, F_steps_down, F_steps_down.bindsN fun _ _ _ _ _ _ us hl => match us, hl with | [_, _], _ => rfl, He.glo_ok X G (c.fact 11 (f := .glo "steps_down") rfl)⟩
    room_from := ⟨_, fd_room_from, F_room_from, F_room_from.bindsN fun _ _ _ _ _ _ us hl => match us, hl with | [_, _, _], _ => rfl, He.glo_ok X G (c.fact 12 (f := .glo "room_from") rfl)⟩
    head_room := ⟨_, fd_head_room, F_head_room, F_head_room.bindsN fun _ _ _ _ _ _ us hl => match us, hl with | [_, _], _ => rfl, He.glo_ok X G (c.fact 13 (f := .glo "head_room") rfl)⟩
    tail_room := ⟨_, fd_tail_room, F_tail_room, F_tail_room.bindsN fun _ _ _ _ _ _ us hl => match us, hl with | [_, _], _ => rfl, He.glo_ok X G (c.fact 14 (f := .glo "tail_room") rfl)⟩
    room_of := ⟨_, fd_room_of, F_room_of, F_room_of.bindsN fun _ _ _ _ _ _ us hl => match us, hl with | [_], _ => rfl, He.glo_ok X G (c.fact 15 (f := .glo "room_of") rfl)⟩
    length_of := ⟨_, fd_length_of, F_length_of, F_length_of.bindsN fun _ _ _ _ _ _ us hl => match us, hl with | [_], _ => rfl, He.glo_ok X G (c.fact 16 (f := .glo "length_of") rfl)⟩
    item_at := ⟨_, fd_item_at, F_item_at, F_item_at.bindsN fun _ _ _ _ _ _ us hl => match us, hl with | [_, _], _ => rfl, He.glo_ok X G (c.fact 17 (f := .glo "item_at") rfl)⟩
    mix_spans := ⟨_, fd_mix_spans, F_mix_spans, F_mix_spans.bindsN fun _ _ _ _ _ _ us hl => match us, hl with | [_], _ => rfl, He.glo_ok X G (c.fact 18 (f := .glo "mix_spans") rfl)⟩
    mix_shares := ⟨_, fd_mix_shares, F_mix_shares, F_mix_shares.bindsN fun _ _ _ _ _ _ us hl => match us, hl with | [_, _], _ => rfl, He.glo_ok X G (c.fact 19 (f := .glo "mix_shares") rfl)⟩
    clips_at := ⟨_, fd_clips_at, F_clips_at, F_clips_at.bindsN fun _ _ _ _ _ _ us hl => match us, hl with | [_, _], _ => rfl, He.glo_ok X G (c.fact 20 (f := .glo "clips_at") rfl)⟩
    taken_at_begin := ⟨_, fd_taken_at_begin, F_taken_at_begin, F_taken_at_begin.bindsN fun _ _ _ _ _ _ us hl => match us, hl with | [_, _], _ => rfl, He.glo_ok X G (c.fact 21 (f := .glo "taken_at_begin") rfl)⟩
    taken_at_end := ⟨_, fd_taken_at_end, F_taken_at_end, F_taken_at_end.bindsN fun _ _ _ _ _ _ us hl => match us, hl with | [_, _], _ => rfl, He.glo_ok X G (c.fact 22 (f := .glo "taken_at_end") rfl)⟩
    most_between := ⟨_, fd_most_between, F_most_between, F_most_between.bindsN fun _ _ _ _ _ _ us hl => match us, hl with | [_, _, _, _], _ => rfl, He.glo_ok X G (c.fact 23 (f := .glo "most_between") rfl)⟩
    most_mix := ⟨_, fd_most_mix, F_most_mix, F_most_mix.bindsN fun _ _ _ _ _ _ us hl => match us, hl with | [_, _, _], _ => rfl, He.glo_ok X G (c.fact 24 (f := .glo "most_mix") rfl)⟩
    sooner := ⟨_, fd_sooner, F_sooner, F_sooner.bindsN fun _ _ _ _ _ _ us hl => match us, hl with | [_, _], _ => rfl, He.glo_ok X G (c.fact 25 (f := .glo "sooner") rfl)⟩
    clip_run := ⟨_, fd_clip_run, F_clip_run, F_clip_run.bindsN fun _ _ _ _ _ _ us hl => match us, hl with | [_, _, _, _], _ => rfl, He.glo_ok X G (c.fact 26 (f := .glo "clip_run") rfl)⟩
    mix_run := ⟨_, fd_mix_run, F_mix_run, F_mix_run.bindsN fun _ _ _ _ _ _ us hl => match us, hl with | [_, _, _], _ => rfl, He.glo_ok X G (c.fact 27 (f := .glo "mix_run") rfl)⟩
    track_run := ⟨_, fd_track_run, F_track_run, F_track_run.bindsN fun _ _ _ _ _ _ us hl => match us, hl with | [_, _, _], _ => rfl, He.glo_ok X G (c.fact 28 (f := .glo "track_run") rfl)⟩
    table_run := ⟨_, fd_table_run, F_table_run, F_table_run.bindsN fun _ _ _ _ _ _ us hl => match us, hl with | [_, _, _], _ => rfl, He.glo_ok X G (c.fact 29 (f := .glo "table_run") rfl)⟩
    laid_flat := ⟨_, fd_laid_flat, F_laid_flat, F_laid_flat.bindsN fun _ _ _ _ _ _ us hl => match us, hl with | [_, _], _ => rfl, He.glo_ok X G (c.fact 30 (f := .glo "laid_flat") rfl)⟩
    told_flat := ⟨_, fd_told_flat, F_told_flat, F_told_flat.bindsN fun _ _ _ _ _ _ us hl => match us, hl with | [_, _], _ => rfl, He.glo_ok X G (c.fact 31 (f := .glo "told_flat") rfl)⟩
    steps_on := ⟨_, fd_steps_on, F_steps_on, F_steps_on.bindsN fun _ _ _ _ _ _ us hl => match us, hl with | [_, _, _], _ => rfl, He.glo_ok X G (c.fact 32 (f := .glo "steps_on") rfl)⟩
    told_part := ⟨_, fd_told_part, F_told_part, F_told_part.bindsN fun _ _ _ _ _ _ us hl => match us, hl with | [_, _], _ => rfl, He.glo_ok X G (c.fact 33 (f := .glo "told_part") rfl)⟩
    told_mix := ⟨_, fd_told_mix, F_told_mix, F_told_mix.bindsN fun _ _ _ _ _ _ us hl => match us, hl with | [_, _, _], _ => rfl, He.glo_ok X G (c.fact 34 (f := .glo "told_mix") rfl)⟩
    told_on := ⟨_, fd_told_on, F_told_on, F_told_on.bindsN fun _ _ _ _ _ _ us hl => match us, hl with | [_, _, _], _ => rfl, He.glo_ok X G (c.fact 35 (f := .glo "told_on") rfl)⟩
    told_at := ⟨_, fd_told_at, F_told_at, F_told_at.bindsN fun _ _ _ _ _ _ us hl => match us, hl with | [_, _, _], _ => rfl, He.glo_ok X G (c.fact 36 (f := .glo "told_at") rfl)⟩
    law_cell_at := ⟨_, fd_law_cell_at, F_law_cell_at, F_law_cell_at.bindsN fun _ _ _ _ _ _ us hl => match us, hl with | [_, _], _ => rfl, He.glo_ok X G (c.fact 37 (f := .glo "_law_cell_at") rfl)⟩
    law_mixed := ⟨_, fd_law_mixed, F_law_mixed, F_law_mixed.bindsN fun _ _ _ _ _ _ us hl => match us, hl with | [_, _], _ => rfl, He.glo_ok X G (c.fact 38 (f := .glo "_law_mixed") rfl)⟩
    law_draws := ⟨_, fd_law_draws, F_law_draws, F_law_draws.bindsN fun _ _ _ _ _ _ us hl => match us, hl with | [_], _ => rfl, He.glo_ok X G (c.fact 39 (f := .glo "_law_draws") rfl)⟩
    law_next := ⟨_, fd_law_next, F_law_next, F_law_next.bindsN fun _ _ _ _ _ _ us hl => match us, hl with | [_], _ => rfl, He.glo_ok X G (c.fact 40 (f := .glo "_law_next") rfl)⟩
    law_fraction := ⟨_, fd_law_fraction, F_law_fraction, F_law_fraction.bindsN fun _ _ _ _ _ _ us hl => match us, hl with | [_, _], _ => rfl, He.glo_ok X G (c.fact 41 (f := .glo "_law_fraction") rfl)⟩
    law_there := ⟨_, fd_law_there, F_law_there, F_law_there.bindsN fun _ _ _ _ _ _ us hl => match us, hl with | [_, _, _], _ => rfl, He.glo_ok X G (c.fact 42 (f := .glo "_law_there") rfl)⟩
    law_clip := ⟨_, fd_law_clip, F_law_clip, F_law_clip.bindsN fun _ _ _ _ _ _ us hl => match us, hl with | [_, _], _ => rfl, He.glo_ok X G (c.fact 43 (f := .glo "_law_clip") rfl)⟩
    law_mixes_put := ⟨_, fd_law_mixes_put, F_law_mixes_put, F_law_mixes_put.bindsN fun _ _ _ _ _ _ us hl => match us, hl with | [_, _, _], _ => rfl, He.glo_ok X G (c.fact 44 (f := .glo "_law_mixes_put") rfl)⟩
    law_track := ⟨_, fd_law_track, F_law_track, F_law_track.bindsN fun _ _ _ _ _ _ us hl => match us, hl with | [_, _, _], _ => rfl, He.glo_ok X G (c.fact 45 (f := .glo "_law_track") rfl)⟩
    law_flat_right := ⟨_, fd_law_flat_right, F_law_flat_right, F_law_flat_right.bindsN fun _ _ _ _ _ _ us hl => match us, hl with | [_, _], _ => rfl, He.glo_ok X G (c.fact 46 (f := .glo "_law_flat_right") rfl)⟩
    law := ⟨_, fd_law, F_law, F_law.bindsN fun _ _ _ _ _ _ us hl => match us, hl with | [_], _ => rfl, He.glo_ok X G (c.fact 47 (f := .glo "law") rfl)⟩
    b_isinstance := He.free_ok X G (c.fact 48 (f := .free "isinstance") rfl)
    b_abs := He.free_ok X G (c.fact 49 (f := .free "abs") rfl)
    b_min := He.free_ok X G (c.fact 50 (f := .free "min") rfl)
    b_max := He.free_ok X G (c.fact 51 (f := .free "max") rfl)
    b_sum := He.free_ok X G (c.fact 52 (f := .free "sum") rfl)
    b_len := He.free_ok X G (c.fact 53 (f := .free "len") rfl)
    b_enumerate := He.free_ok X G (c.fact 54 (f := .free "enumerate") rfl)
    b_range := He.free_ok X G (c.fact 55 (f := .free "range") rfl)
    b_list := He.free_ok X G (c.fact 56 (f := .free "list") rfl)
    b_int := He.free_ok X G (c.fact 57 (f := .free "int") rfl)
    b_bool := He.free_ok X G (c.fact 58 (f := .free "bool") rfl)
    room := He.int_ok X G (c.fact 59 (f := .int "MOST_ROOM" 1000000) rfl)
    pieces := He.int_ok X G (c.fact 60 (f := .int "MOST_PIECES" 400) rfl)
    wholeA := He.ga K "WHOLE"
    whole := He.glo_ok X G (c.fact 61 (f := .glo "WHOLE") rfl)
    wholeT := fun H => He.tupB_ok (vs := wh) cw H }
  have e := hfa.symm.trans T.law.g
  cases e
  have b := FunD.bindsA (ps := ["_law_script"]) T.law.fn fun _ _ _ _ _ _ us hl => match us, hl with | [_], _ => rfl
  exact ⟨T.law.fd, fun s v => b s [v] rfl, fun base _ _ => ok_law T⟩
end Rc
open PySem PySem.W PySem.Calls PyProof.Rows
set_option maxRecDepth 100000 in
set_option maxHeartbeats 0 in
theorem PySem.Challenge.cw_reelcut_k62_whole_flat_nested_holds : PySem.Challenge.rw_reelcut_k62_whole_flat_nested.Holds := by
  w_on; o_law
  refine HandSHeadRun.head_any (r := OpenLaw.row PySem.Challenge.rw_reelcut_k62_whole_flat_nested) (q := view (OpenLaw.row PySem.Challenge.rw_reelcut_k62_whole_flat_nested).prog [62]) (H := Rc.hk) (ob := Rc.ob) (M := 2500) (loose := Rc.loose) (d := HandSHeadRun.topDef (OpenLaw.row PySem.Challenge.rw_reelcut_k62_whole_flat_nested).prog 62) (kwd := []) Rc.ob_eq
    (by kernel_rfl) (fun s => by kernel_rfl) Rc.run (by kernel_rfl) (by kernel_rfl) (by kernel_rfl) (by rfl) (by first | assumption | decide +kernel) (by decide +kernel) ⟨rfl, rfl, rfl, rfl, rfl, by decide +kernel⟩ ?hw ?hc
  case hw => w_witness2
  case hc =>
    refine L2.walk_ofE (l := PySem.Challenge.rw_reelcut_k62_whole_flat_nested) (n := 63) (k := 21) (x := "_law_script") (CX := L2.CX0) rfl (by decide) (by kernel_rfl) ⟨rfl, by decide, by decide⟩ ?F (fun _ _ _ _ z => z)
    intro w mg fa h Y G hmg0
    obtain ⟨K, KX, c, cw⟩ := Y
    have hmg : mg ("law" : PySem.Str) = some (.ref fa) := by
      have e : (HandSHeadRun.topDef (OpenLaw.row PySem.Challenge.rw_reelcut_k62_whole_flat_nested).prog 62).name = ("law" : PySem.Str) := by kernel_rfl
      rw [← e]
      exact hmg0
    obtain ⟨fd, hb, hF⟩ := Rc.facts (P := (PySem.Challenge.rw_reelcut_k62_whole_flat_nested).prog) (w := w) KX G hmg c cw
    exact ⟨K, fd, Rc.spLaw K, KX, hb, fun H a ns hl _ hS => ⟨a, ns, rfl, hS, fun _ => rfl⟩, hF⟩
