import PyProof.Rows.All
import Wide.All
import OpenK.AllK
import Wide.FinOn
import HandS.ForMost
import HandS.Walk
import HandS.Exc
import HandS.Codes
import HandS.IsInst
import HandS.Defaults
import HandS.MakeKw
import HandS.MakeKwOnly
import HandS.Property
import HandS.FStr
import HandS.Conv
import HandS.NoneIn
import HandS.Flow
import HandS.Style
import HandS.TupAny
import HandS.Wide
import HandS.WideBits
import HandS.Lambda
import HandS.EndTab
import HandS.HeadWalk
import HandS.HeadHook4
import HandS.Head2
import HandS.Star
import HandS.CallLocal
import HandS.IterVal
import KE.KCallOwn
import KE.KOpsOwn
import KE.KFmtOwn
import KE.GoesEnum
import KE.IntTextLaws
import PyProof.ReprRoads
import KE.GoesMore
import HandS.WordsDict
import HandS.WordsList
import HandS.CallRecv
import HandS.Strs
import HandS.Rev
import HandS.FltList
import PyProof.ListStr
import HandS.ReplaceLit
import HandS.ReplaceDef
import HandS.ReplaceList
import PyProof.Rows.StrRev
import PySem.Challenge.RW_glimpserounds_k80_whole_lines_that_ask
set_option Elab.async false
set_option linter.all false
set_option maxRecDepth 100000
/-! The mathematics: what the readings leave for a length and a pace, and what is asked of it. -/
namespace Gz
/-- the letters, the least one first -/
def al : List Nat := [45, 97, 98, 99, 100, 101, 102, 103, 104, 105, 106, 107, 108, 109, 110, 111, 112, 113, 114, 115, 116, 117, 118, 119, 120, 121, 122]
theorem al_nd : al.Nodup := by decide
theorem al_len : al.length = 27 := rfl
/-- what is told of a sign: width, lengths, pace, glances -/
structure Rec where
  W : Nat
  lo : Nat
  hi : Nat
  p : Int
  gl : List (Int × List Nat)
/-- one glance's readings from the place j on: time, place, letter -/
def readW (t : Int) : Nat → List Nat → List (Int × Nat × Nat)
  | _, [] => []
  | j, c :: r => if c = 63 then readW t (j + 1) r else (t, j, c) :: readW t (j + 1) r
def rds (gl : List (Int × List Nat)) : List (Int × Nat × Nat) := gl.flatMap fun g => readW g.1 0 g.2
/-- the number of the letter of a text -/
def num (L : Nat) (p t : Int) (j : Nat) : Int := ((j : Int) + p * t) % (L : Int)
def upF (F : Int → List Nat) (n : Int) (c : Nat) : Int → List Nat := fun m => if m = n then (if c ∈ F n then [c] else []) else F m
def stF (L : Nat) (p : Int) (F : Int → List Nat) (x : Int × Nat × Nat) : Int → List Nat := upF F (num L p x.1 x.2.1) x.2.2
def FL (L : Nat) (p : Int) (rs : List (Int × Nat × Nat)) : Int → List Nat := rs.foldl (stF L p) fun _ => al
def okB (L : Nat) (p : Int) (rs : List (Int × Nat × Nat)) : Bool := rs.all fun x => !(FL L p rs (num L p x.1 x.2.1)).isEmpty
/-- what may stand at a number: all, one, none -/
def Shp (l : List Nat) : Prop := l = al ∨ (∃ c, c ∈ al ∧ l = [c]) ∨ l = []
theorem Shp.nd {l : List Nat} (h : Shp l) : l.Nodup := by
  rcases h with h | ⟨c, _, h⟩ | h
  · rw [h]; exact al_nd
  · rw [h]; simp
  · rw [h]; simp
theorem Shp.sub {l : List Nat} (h : Shp l) : ∀ c ∈ l, c ∈ al := by
  rcases h with h | ⟨c, hc, h⟩ | h
  · rw [h]; exact fun _ z => z
  · rw [h]; intro d hd; rw [List.mem_singleton.mp hd]; exact hc
  · rw [h]; intro d hd; cases hd
theorem Shp.len {l : List Nat} (h : Shp l) : l.length ≤ 27 := by
  rcases h with h | ⟨c, _, h⟩ | h
  · rw [h]; decide
  · rw [h]; show 1 ≤ 27; decide
  · rw [h]; show 0 ≤ 27; decide
def InAl (rs : List (Int × Nat × Nat)) : Prop := ∀ x ∈ rs, x.2.2 ∈ al
theorem upF_shp {F : Int → List Nat} {n : Int} {c : Nat} (h : ∀ m, Shp (F m)) (hc : c ∈ al) : ∀ m, Shp (upF F n c m) := fun m => by
  unfold upF
  split
  · split
    · exact .inr (.inl ⟨c, hc, rfl⟩)
    · exact .inr (.inr rfl)
  · exact h m
theorem foldl_shp {L : Nat} {p : Int} : ∀ {rs : List (Int × Nat × Nat)} {F : Int → List Nat}, InAl rs → (∀ m, Shp (F m)) → ∀ m, Shp (rs.foldl (stF L p) F m)
  | [], _, _, h => h
  | x :: r, F, hr, h => by
    rw [List.foldl_cons]
    exact foldl_shp (fun y hy => hr y (List.mem_cons_of_mem _ hy)) (upF_shp h (hr x List.mem_cons_self))
theorem FL_shp {L : Nat} {p : Int} {rs : List (Int × Nat × Nat)} (h : InAl rs) : ∀ m, Shp (FL L p rs m) := foldl_shp h fun _ => .inl rfl
theorem upF_nil {F : Int → List Nat} {n m : Int} {c : Nat} (h : F m = []) : upF F n c m = [] := by
  unfold upF
  split
  · rename_i e
    subst e
    rw [h]
    rfl
  · exact h
theorem foldl_nil {L : Nat} {p : Int} {m : Int} : ∀ {rs : List (Int × Nat × Nat)} {F : Int → List Nat}, F m = [] → rs.foldl (stF L p) F m = []
  | [], _, h => h
  | x :: r, F, h => by
    rw [List.foldl_cons]
    exact foldl_nil (upF_nil h)
theorem FL_app (L : Nat) (p : Int) (a b : List (Int × Nat × Nat)) : FL L p (a ++ b) = b.foldl (stF L p) (FL L p a) := by
  unfold FL
  rw [List.foldl_append]
theorem FL_snoc (L : Nat) (p : Int) (a : List (Int × Nat × Nat)) (x : Int × Nat × Nat) : FL L p (a ++ [x]) = stF L p (FL L p a) x := by
  rw [FL_app]
  rfl
/-- a number of which nothing is said -/
theorem foldl_far {L : Nat} {p : Int} {m : Int} : ∀ {rs : List (Int × Nat × Nat)} {F : Int → List Nat}, (∀ x ∈ rs, num L p x.1 x.2.1 ≠ m) → rs.foldl (stF L p) F m = F m
  | [], _, _ => rfl
  | x :: r, F, h => by
    rw [List.foldl_cons, foldl_far fun y hy => h y (List.mem_cons_of_mem _ hy)]
    unfold stF upF
    rw [if_neg fun e => h x List.mem_cons_self e.symm]
theorem num_lo {L : Nat} (hL : 0 < L) (p t : Int) (j : Nat) : 0 ≤ num L p t j := Int.emod_nonneg _ (by omega)
theorem num_hi {L : Nat} (hL : 0 < L) (p t : Int) (j : Nat) : num L p t j < L := Int.emod_lt_of_pos _ (by omega)
/-- the words of the numbers 0 .. L - 1 -/
def wds (L : Nat) (p : Int) (rs : List (Int × Nat × Nat)) : List (List Nat) := (List.range L).map fun (n : Nat) => FL L p rs (n : Int)
theorem wds_len (L : Nat) (p : Int) (rs : List (Int × Nat × Nat)) : (wds L p rs).length = L := by simp [wds]
theorem wds_at {L : Nat} {p : Int} {rs : List (Int × Nat × Nat)} {n : Nat} (h : n < L) : (wds L p rs)[n]? = some (FL L p rs (n : Int)) := by simp [wds, h]
theorem okB_wds {L : Nat} (hL : 0 < L) (p : Int) (rs : List (Int × Nat × Nat)) : okB L p rs = !((wds L p rs).contains []) := by
  rw [Bool.eq_iff_iff]
  constructor
  · intro h
    rw [Bool.not_eq_true']
    cases q : (wds L p rs).contains [] with
    | false => rfl
    | true =>
      exfalso
      have hm : ([] : List Nat) ∈ wds L p rs := by simpa using q
      obtain ⟨n, hn, e⟩ := List.mem_map.mp hm
      by_cases z : ∃ x ∈ rs, num L p x.1 x.2.1 = (n : Int)
      · obtain ⟨x, hx, ex⟩ := z
        have h1 := List.all_eq_true.mp h x hx
        rw [ex, e] at h1
        cases h1
      · have e2 : FL L p rs (n : Int) = al := foldl_far fun x hx ex => z ⟨x, hx, ex⟩
        rw [e2] at e
        cases e
  · intro h
    refine List.all_eq_true.mpr fun x hx => ?_
    cases q : FL L p rs (num L p x.1 x.2.1) with
    | cons _ _ => rfl
    | nil =>
      exfalso
      have h1 := num_lo hL p x.1 x.2.1
      have h2 := num_hi hL p x.1 x.2.1
      have e : ((num L p x.1 x.2.1).toNat : Int) = num L p x.1 x.2.1 := Int.toNat_of_nonneg h1
      have hm : ([] : List Nat) ∈ wds L p rs := List.mem_map.mpr ⟨(num L p x.1 x.2.1).toNat, List.mem_range.mpr (by omega), by rw [e]; exact q⟩
      have h3 : (wds L p rs).contains [] = true := by simpa using hm
      rw [h3] at h
      cases h
/-- a failure seen after some of the readings stays -/
theorem okB_fails {L : Nat} {p : Int} {a b : List (Int × Nat × Nat)} {x : Int × Nat × Nat} (h : FL L p (a ++ [x]) (num L p x.1 x.2.1) = []) : okB L p (a ++ x :: b) = false := by
  have e : a ++ x :: b = (a ++ [x]) ++ b := by simp
  cases q : okB L p (a ++ x :: b) with
  | false => rfl
  | true =>
    have h1 := List.all_eq_true.mp q x (by simp)
    rw [e, FL_app, foldl_nil h] at h1
    cases h1
/-- one more reading, and all is well so far -/
theorem okB_snoc {L : Nat} {p : Int} {a : List (Int × Nat × Nat)} {x : Int × Nat × Nat} (h : okB L p a = true) (hx : FL L p (a ++ [x]) (num L p x.1 x.2.1) ≠ []) : okB L p (a ++ [x]) = true := by
  refine List.all_eq_true.mpr fun y hy => ?_
  cases q : FL L p (a ++ [x]) (num L p y.1 y.2.1) with
  | cons _ _ => rfl
  | nil =>
    exfalso
    rcases List.mem_append.mp hy with hy | hy
    · by_cases e : num L p y.1 y.2.1 = num L p x.1 x.2.1
      · rw [e] at q
        exact hx q
      · have h1 := List.all_eq_true.mp h y hy
        rw [FL_snoc] at q
        unfold stF upF at q
        rw [if_neg e] at q
        rw [q] at h1
        cases h1
    · rw [List.mem_singleton.mp hy] at q
      exact hx q
/-- the lengths that fit -/
def Rec.fits (r : Rec) (L : Nat) : Bool := okB L r.p (rds r.gl)
def Rec.Ls (r : Rec) : List Nat := (List.range' r.lo (r.hi + 1 - r.lo)).filter r.fits
def Rec.F (r : Rec) (L : Nat) : Int → List Nat := FL L r.p (rds r.gl)
def Rec.wds (r : Rec) (L : Nat) : List (List Nat) := Gz.wds L r.p (rds r.gl)
/-- a reading: letters and ? -/
def RdOk (l : List Nat) : Prop := ∀ c ∈ l, c = 63 ∨ c ∈ al
structure Rec.Ok (r : Rec) : Prop where
  w1 : 1 ≤ r.W
  w8 : r.W ≤ 8
  l1 : 1 ≤ r.lo
  lh : r.lo ≤ r.hi
  h40 : r.hi ≤ 40
  p1 : -9 ≤ r.p
  p9 : r.p ≤ 9
  gn : r.gl.length ≤ 12
  gt : ∀ g ∈ r.gl, 0 ≤ g.1 ∧ g.1 ≤ 10 ^ 30
  gw : ∀ g ∈ r.gl, g.2.length = r.W
  ga : ∀ g ∈ r.gl, RdOk g.2
theorem readW_al {t : Int} : ∀ {l : List Nat} {j : Nat}, RdOk l → ∀ x ∈ readW t j l, x.2.2 ∈ al
  | [], _, _, x, hx => by cases hx
  | c :: r, j, h, x, hx => by
    unfold readW at hx
    split at hx
    · exact readW_al (fun d hd => h d (List.mem_cons_of_mem _ hd)) x hx
    · rename_i n
      rcases List.mem_cons.mp hx with e | hx
      · rw [e]
        exact (h c List.mem_cons_self).resolve_left n
      · exact readW_al (fun d hd => h d (List.mem_cons_of_mem _ hd)) x hx
theorem rds_al {gl : List (Int × List Nat)} (h : ∀ g ∈ gl, RdOk g.2) : InAl (rds gl) := fun x hx => by
  obtain ⟨g, hg, hx⟩ := List.mem_flatMap.mp hx
  exact readW_al (h g hg) x hx
theorem readW_len {t : Int} : ∀ (l : List Nat) (j : Nat), (readW t j l).length ≤ l.length
  | [], _ => Nat.le_refl _
  | c :: r, j => by
    have := readW_len (t := t) r (j + 1)
    unfold readW
    split
    · rw [List.length_cons]; omega
    · rw [List.length_cons, List.length_cons]; omega
theorem rds_len : ∀ {gl : List (Int × List Nat)} {W : Nat}, (∀ g ∈ gl, g.2.length = W) → (rds gl).length ≤ gl.length * W
  | [], _, _ => Nat.zero_le _
  | g :: r, W, h => by
    have h1 := readW_len (t := g.1) g.2 0
    rw [h g List.mem_cons_self] at h1
    have h2 := rds_len (gl := r) (W := W) fun x hx => h x (List.mem_cons_of_mem _ hx)
    show (readW g.1 0 g.2 ++ rds r).length ≤ _
    rw [List.length_append, List.length_cons, Nat.succ_mul]
    omega
theorem rds_snoc (gl : List (Int × List Nat)) (g : Int × List Nat) : rds (gl ++ [g]) = rds gl ++ readW g.1 0 g.2 := by simp [rds]
/-- the product of the words' lengths, and the sum -/
def prodL (l : List (List Nat)) : Int := l.foldl (fun a w => a * (w.length : Int)) 1
def Rec.total (r : Rec) : Int := r.Ls.foldl (fun a L => a + prodL (r.wds L)) 0
/-- what is sure of a place: one letter, or ? -/
def sg : List Nat → Nat
  | [] => 63
  | c :: r => if r.all (· == c) = true then c else 63
/-- all that may stand at a place at a time -/
def Rec.here (r : Rec) (t : Int) (j : Nat) : List Nat := r.Ls.flatMap fun L => r.F L (num L r.p t j)
def Rec.sureL (r : Rec) (t : Int) : List Nat := (List.range r.W).map fun j => sg (r.here t j)
/-- the least text -/
def lst (ws : List (List Nat)) : List Nat := ws.map fun w => w.headD 63
end Gz
/-! The text by names: statements, scopes, the head's data. -/
namespace Gz
open PySem PySem.Spec PyProof.Rows L2
def top (i : Nat) : Stmt := PySem.Challenge.pw_glimpserounds_k80_whole_lines_that_ask.main.body.getD i (.Pass ⟨0, 0, 0, 0⟩)
abbrev s_is_integer : Stmt := top 33
/-- slots: 0 value -/
theorem sc_is_integer : FnScope ["value"] ["value"] (defScope s_is_integer) := ⟨rfl, rfl, rfl, by decide +kernel, rfl, by decide +kernel, by decide +kernel⟩
abbrev s_is_between : Stmt := top 34
/-- slots: 0 value, 1 low, 2 high -/
theorem sc_is_between : FnScope ["value", "low", "high"] ["value", "low", "high"] (defScope s_is_between) := ⟨rfl, rfl, rfl, by decide +kernel, rfl, by decide +kernel, by decide +kernel⟩
abbrev s_is_time : Stmt := top 35
/-- slots: 0 value -/
theorem sc_is_time : FnScope ["value"] ["value"] (defScope s_is_time) := ⟨rfl, rfl, rfl, by decide +kernel, rfl, by decide +kernel, by decide +kernel⟩
abbrev s_is_pace : Stmt := top 36
/-- slots: 0 value -/
theorem sc_is_pace : FnScope ["value"] ["value"] (defScope s_is_pace) := ⟨rfl, rfl, rfl, by decide +kernel, rfl, by decide +kernel, by decide +kernel⟩
abbrev s_is_text : Stmt := top 37
/-- slots: 0 value, 1 letter -/
theorem sc_is_text : FnScope ["value", "letter"] ["value"] (defScope s_is_text) := ⟨rfl, rfl, rfl, by decide +kernel, rfl, by decide +kernel, by decide +kernel⟩
abbrev s_meet : Stmt := top 39
/-- slots: 0 one, 1 other, 2 letter -/
theorem sc_meet : FnScope ["one", "other", "letter"] ["one", "other"] (defScope s_meet) := ⟨rfl, rfl, rfl, by decide +kernel, rfl, by decide +kernel, by decide +kernel⟩
abbrev s_agreeing : Stmt := top 41
/-- slots: 0 mark, 1 groups -/
theorem sc_agreeing : FnScope ["mark", "groups"] ["mark", "groups"] (defScope s_agreeing) := ⟨rfl, rfl, rfl, by decide +kernel, rfl, by decide +kernel, by decide +kernel⟩
abbrev s_is_mark : Stmt := top 42
/-- slots: 0 mark, 1 groups -/
theorem sc_is_mark : FnScope ["mark", "groups"] ["mark", "groups"] (defScope s_is_mark) := ⟨rfl, rfl, rfl, by decide +kernel, rfl, by decide +kernel, by decide +kernel⟩
abbrev s_is_reading : Stmt := top 43
/-- slots: 0 value, 1 width, 2 groups, 3 mark -/
theorem sc_is_reading : FnScope ["value", "width", "groups", "mark"] ["value", "width", "groups"] (defScope s_is_reading) := ⟨rfl, rfl, rfl, by decide +kernel, rfl, by decide +kernel, by decide +kernel⟩
abbrev s_is_any_reading : Stmt := top 44
/-- slots: 0 value, 1 mark -/
theorem sc_is_any_reading : FnScope ["value", "mark"] ["value"] (defScope s_is_any_reading) := ⟨rfl, rfl, rfl, by decide +kernel, rfl, by decide +kernel, by decide +kernel⟩
abbrev s_check_time : Stmt := top 45
/-- slots: 0 value -/
theorem sc_check_time : FnScope ["value"] ["value"] (defScope s_check_time) := ⟨rfl, rfl, rfl, by decide +kernel, rfl, by decide +kernel, by decide +kernel⟩
abbrev s_check_width : Stmt := top 46
/-- slots: 0 value -/
theorem sc_check_width : FnScope ["value"] ["value"] (defScope s_check_width) := ⟨rfl, rfl, rfl, by decide +kernel, rfl, by decide +kernel, by decide +kernel⟩
abbrev s_number_at : Stmt := top 49
/-- slots: 0 place, 1 time, 2 pace, 3 length -/
theorem sc_number_at : FnScope ["place", "time", "pace", "length"] ["place", "time", "pace", "length"] (defScope s_number_at) := ⟨rfl, rfl, rfl, by decide +kernel, rfl, by decide +kernel, by decide +kernel⟩
abbrev s_bad_ascending : Stmt := top 53
/-- slots: 0 value, 1 is_good, 2 index, 3 item -/
theorem sc_bad_ascending : FnScope ["value", "is_good", "index", "item"] ["value", "is_good"] (defScope s_bad_ascending) := ⟨rfl, rfl, rfl, by decide +kernel, rfl, by decide +kernel, by decide +kernel⟩
abbrev s_bad_group : Stmt := top 54
/-- slots: 0 value, 1 known, 2 index, 3 group, 4 letter -/
theorem sc_bad_group : FnScope ["value", "known", "index", "group", "letter"] ["value"] (defScope s_bad_group) := ⟨rfl, rfl, rfl, by decide +kernel, rfl, by decide +kernel, by decide +kernel⟩
abbrev s_check_dead : Stmt := top 55
/-- slots: 0 value, 1 width, 2 index -/
theorem sc_check_dead : FnScope ["value", "width", "index"] ["value", "width"] (defScope s_check_dead) := ⟨rfl, rfl, rfl, by decide +kernel, rfl, by decide +kernel, by decide +kernel⟩
abbrev s_check_lengths : Stmt := top 56
/-- slots: 0 least, 1 most -/
theorem sc_check_lengths : FnScope ["least", "most"] ["least", "most"] (defScope s_check_lengths) := ⟨rfl, rfl, rfl, by decide +kernel, rfl, by decide +kernel, by decide +kernel⟩
abbrev s_check_paces : Stmt := top 57
/-- slots: 0 value, 1 index -/
theorem sc_check_paces : FnScope ["value", "index"] ["value"] (defScope s_check_paces) := ⟨rfl, rfl, rfl, by decide +kernel, rfl, by decide +kernel, by decide +kernel⟩
abbrev s_check_groups : Stmt := top 58
/-- slots: 0 value, 1 index -/
theorem sc_check_groups : FnScope ["value", "index"] ["value"] (defScope s_check_groups) := ⟨rfl, rfl, rfl, by decide +kernel, rfl, by decide +kernel, by decide +kernel⟩
abbrev s_with_glances : Stmt := top 60
/-- slots: 0 record, 1 glances -/
theorem sc_with_glances : FnScope ["record", "glances"] ["record", "glances"] (defScope s_with_glances) := ⟨rfl, rfl, rfl, by decide +kernel, rfl, by decide +kernel, by decide +kernel⟩
abbrev s_readings_in : Stmt := top 65
/-- slots: 0 time, 1 window, 2 groups, 3 place, 4 mark -/
theorem sc_readings_in : FnScope ["time", "window", "groups", "place", "mark"] ["time", "window", "groups"] (defScope s_readings_in) := ⟨rfl, rfl, rfl, by decide +kernel, rfl, by decide +kernel, by decide +kernel⟩
abbrev s_check_record : Stmt := top 66
/-- slots: 0 value -/
theorem sc_check_record : FnScope ["value"] ["value"] (defScope s_check_record) := ⟨rfl, rfl, rfl, by decide +kernel, rfl, by decide +kernel, by decide +kernel⟩
abbrev s_check_reading : Stmt := top 67
/-- slots: 0 value, 1 record -/
theorem sc_check_reading : FnScope ["value", "record"] ["value", "record"] (defScope s_check_reading) := ⟨rfl, rfl, rfl, by decide +kernel, rfl, by decide +kernel, by decide +kernel⟩
abbrev s_left_by : Stmt := top 69
/-- slots: 0 readings, 1 length, 2 pace, 3 found, 4 time, 5 place, 6 letters, 7 number -/
theorem sc_left_by : FnScope ["readings", "length", "pace", "found", "time", "place", "letters", "number"] ["readings", "length", "pace"] (defScope s_left_by) := ⟨rfl, rfl, rfl, by decide +kernel, rfl, by decide +kernel, by decide +kernel⟩
abbrev s_let_by : Stmt := top 70
/-- slots: 0 record, 1 length, 2 pace -/
theorem sc_let_by : FnScope ["record", "length", "pace"] ["record"] (defScope s_let_by) := ⟨rfl, rfl, rfl, by decide +kernel, rfl, by decide +kernel, by decide +kernel⟩
abbrev s_all_left : Stmt := top 71
/-- slots: 0 record, 1 more, 2 readings, 3 found, 4 length, 5 pace, 6 left -/
theorem sc_all_left : FnScope ["record", "more", "readings", "found", "length", "pace", "left"] ["record", "more"] (defScope s_all_left) := ⟨rfl, rfl, rfl, by decide +kernel, rfl, by decide +kernel, by decide +kernel⟩
abbrev s_pairs : Stmt := top 72
/-- slots: 0 record, 1 length, 2 pace, 3 left -/
theorem sc_pairs : FnScope ["record", "length", "pace", "left"] ["record"] (defScope s_pairs) := ⟨rfl, rfl, rfl, by decide +kernel, rfl, by decide +kernel, by decide +kernel⟩
abbrev s_texts_left : Stmt := top 73
/-- slots: 0 length, 1 left, 2 many, 3 number -/
theorem sc_texts_left : FnScope ["length", "left", "many", "number"] ["length", "left"] (defScope s_texts_left) := ⟨rfl, rfl, rfl, by decide +kernel, rfl, by decide +kernel, by decide +kernel⟩
abbrev s_number_of : Stmt := top 74
/-- slots: 0 record, 1 total, 2 length, 3 pace, 4 left -/
theorem sc_number_of : FnScope ["record", "total", "length", "pace", "left"] ["record"] (defScope s_number_of) := ⟨rfl, rfl, rfl, by decide +kernel, rfl, by decide +kernel, by decide +kernel⟩
abbrev s_least_text : Stmt := top 75
/-- slots: 0 length, 1 left, 2 number -/
theorem sc_least_text : FnScope ["length", "left", "number"] ["length", "left"] (defScope s_least_text) := ⟨rfl, rfl, rfl, by decide +kernel, rfl, by decide +kernel, by decide +kernel⟩
abbrev s_shortest : Stmt := top 76
/-- slots: 0 record, 1 length, 2 pace, 3 left -/
theorem sc_shortest : FnScope ["record", "length", "pace", "left"] ["record"] (defScope s_shortest) := ⟨rfl, rfl, rfl, by decide +kernel, rfl, by decide +kernel, by decide +kernel⟩
abbrev s_left_at : Stmt := top 78
/-- slots: 0 place, 1 time, 2 length, 3 pace, 4 left -/
theorem sc_left_at : FnScope ["place", "time", "length", "pace", "left"] ["place", "time", "length", "pace", "left"] (defScope s_left_at) := ⟨rfl, rfl, rfl, by decide +kernel, rfl, by decide +kernel, by decide +kernel⟩
abbrev s_all_in : Stmt := top 79
/-- slots: 0 some -/
theorem sc_all_in : FnScope ["some"] ["some"] (defScope s_all_in) := ⟨rfl, rfl, rfl, by decide +kernel, rfl, by decide +kernel, by decide +kernel⟩
abbrev s_sure : Stmt := top 80
/-- slots: 0 record, 1 time, 2 some, 3 found, 4 place, 5 here, 6 length, 7 pace, 8 left -/
theorem sc_sure : FnScope ["record", "time", "some", "found", "place", "here", "length", "pace", "left"] ["record", "time"] (defScope s_sure) := ⟨rfl, rfl, rfl, by decide +kernel, rfl, by decide +kernel, by decide +kernel⟩
abbrev s_is_name : Stmt := top 93
/-- slots: 0 value, 1 letter -/
theorem sc_is_name : FnScope ["value", "letter"] ["value"] (defScope s_is_name) := ⟨rfl, rfl, rfl, by decide +kernel, rfl, by decide +kernel, by decide +kernel⟩
abbrev s_integer_in : Stmt := top 104
/-- slots: 0 word, 1 digits, 2 digit -/
theorem sc_integer_in : FnScope ["word", "digits", "digit"] ["word"] (defScope s_integer_in) := ⟨rfl, rfl, rfl, by decide +kernel, rfl, by decide +kernel, by decide +kernel⟩
abbrev s_record_in : Stmt := top 105
/-- slots: 0 words, 1 width, 2 least, 3 most, 4 pace, 5 word -/
theorem sc_record_in : FnScope ["words", "width", "least", "most", "pace", "word"] ["words"] (defScope s_record_in) := ⟨rfl, rfl, rfl, by decide +kernel, rfl, by decide +kernel, by decide +kernel⟩
abbrev s_text_of_pairs : Stmt := top 106
/-- slots: 0 some, 1 length, 2 pace -/
theorem sc_text_of_pairs : FnScope ["some", "length", "pace"] ["some"] (defScope s_text_of_pairs) := ⟨rfl, rfl, rfl, by decide +kernel, rfl, by decide +kernel, by decide +kernel⟩
abbrev s_l_cell : Stmt := top 109
/-- slots: 0 _law_script, 1 _law_place, 2 _law_made, 3 _law_number -/
theorem sc_l_cell : FnScope ["_law_script", "_law_place", "_law_made", "_law_number"] ["_law_script", "_law_place"] (defScope s_l_cell) := ⟨rfl, rfl, rfl, by decide +kernel, rfl, by decide +kernel, by decide +kernel⟩
abbrev s_l_deal : Stmt := top 110
/-- slots: 0 _law_number, 1 _law_great -/
theorem sc_l_deal : FnScope ["_law_number", "_law_great"] ["_law_number"] (defScope s_l_deal) := ⟨rfl, rfl, rfl, by decide +kernel, rfl, by decide +kernel, by decide +kernel⟩
abbrev s_l_pick : Stmt := top 111
/-- slots: 0 _law_hand, 1 _law_size, 2 _law_digit -/
theorem sc_l_pick : FnScope ["_law_hand", "_law_size", "_law_digit"] ["_law_hand", "_law_size"] (defScope s_l_pick) := ⟨rfl, rfl, rfl, by decide +kernel, rfl, by decide +kernel, by decide +kernel⟩
abbrev s_l_one_of : Stmt := top 112
/-- slots: 0 _law_hand, 1 _law_some, 2 _law_other -/
theorem sc_l_one_of : FnScope ["_law_hand", "_law_some", "_law_other"] ["_law_hand", "_law_some", "_law_other"] (defScope s_l_one_of) := ⟨rfl, rfl, rfl, by decide +kernel, rfl, by decide +kernel, by decide +kernel⟩
abbrev s_l_moment : Stmt := top 113
/-- slots: 0 _law_hand, 1 _law_way, 2 _law_low, 3 _law_high -/
theorem sc_l_moment : FnScope ["_law_hand", "_law_way", "_law_low", "_law_high"] ["_law_hand"] (defScope s_l_moment) := ⟨rfl, rfl, rfl, by decide +kernel, rfl, by decide +kernel, by decide +kernel⟩
abbrev s_l_few : Stmt := top 114
/-- slots: 0 _law_hand, 1 _law_many_here, 2 _law_left, 3 _law_found, 4 _law_turn, 5 _law_letter -/
theorem sc_l_few : FnScope ["_law_hand", "_law_many_here", "_law_left", "_law_found", "_law_turn", "_law_letter"] ["_law_hand", "_law_many_here"] (defScope s_l_few) := ⟨rfl, rfl, rfl, by decide +kernel, rfl, by decide +kernel, by decide +kernel⟩
abbrev s_l_drawn : Stmt := top 115
/-- slots: 0 _law_hand, 1 _law_many_here, 2 _law_stock, 3 _law_turn -/
theorem sc_l_drawn : FnScope ["_law_hand", "_law_many_here", "_law_stock", "_law_turn"] ["_law_hand", "_law_many_here", "_law_stock"] (defScope s_l_drawn) := ⟨rfl, rfl, rfl, by decide +kernel, rfl, by decide +kernel, by decide +kernel⟩
abbrev s_l_grouped : Stmt := top 116
/-- slots: 0 _law_hand, 1 _law_stock, 2 _law_cut, 3 _law_way, 4 _law_free, 5 _law_some, 6 _law_word -/
theorem sc_l_grouped : FnScope ["_law_hand", "_law_stock", "_law_cut", "_law_way", "_law_free", "_law_some", "_law_word"] ["_law_hand", "_law_stock"] (defScope s_l_grouped) := ⟨rfl, rfl, rfl, by decide +kernel, rfl, by decide +kernel, by decide +kernel⟩
abbrev s_l_window : Stmt := top 117
/-- slots: 0 _law_row, 1 _law_speed, 2 _law_time, 3 _law_wide, 4 _law_place -/
theorem sc_l_window : FnScope ["_law_row", "_law_speed", "_law_time", "_law_wide", "_law_place"] ["_law_row", "_law_speed", "_law_time", "_law_wide"] (defScope s_l_window) := ⟨rfl, rfl, rfl, by decide +kernel, rfl, by decide +kernel, by decide +kernel⟩
abbrev s_l_letters_of : Stmt := top 118
/-- slots: 0 _law_mark, 1 _law_sets, 2 _law_word -/
theorem sc_l_letters_of : FnScope ["_law_mark", "_law_sets", "_law_word"] ["_law_mark", "_law_sets"] (defScope s_l_letters_of) := ⟨rfl, rfl, rfl, by decide +kernel, rfl, by decide +kernel, by decide +kernel⟩
abbrev s_l_reading : Stmt := top 119
/-- slots: 0 _law_hand, 1 _law_here, 2 _law_note, 3 _law_stock, 4 _law_found, 5 _law_place, 6 _law_way, 7 _law_other, 8 _law_letter, 9 _law_mark -/
theorem sc_l_reading : FnScope ["_law_hand", "_law_here", "_law_note", "_law_stock", "_law_found", "_law_place", "_law_way", "_law_other", "_law_letter", "_law_mark"] ["_law_hand", "_law_here", "_law_note", "_law_stock"] (defScope s_l_reading) := ⟨rfl, rfl, rfl, by decide +kernel, rfl, by decide +kernel, by decide +kernel⟩
abbrev s_l_any_note : Stmt := top 120
/-- slots: 0 _law_hand, 1 _law_size, 2 _law_many_here, 3 _law_stock, 4 _law_wide, 5 _law_is_far, 6 _law_low, 7 _law_more, 8 _law_dry, 9 _law_some, 10 _law_turn, 11 _law_high, 12 _law_gone, 13 _law_place, 14 _law_speeds, 15 _law_sets, 16 _law_speed, 17 _law_note, 18 _law_row, 19 _law_time, 20 _law_mark -/
theorem sc_l_any_note : FnScope ["_law_hand", "_law_size", "_law_many_here", "_law_stock", "_law_wide", "_law_is_far", "_law_low", "_law_more", "_law_dry", "_law_some", "_law_turn", "_law_high", "_law_gone", "_law_place", "_law_speeds", "_law_sets", "_law_speed", "_law_note", "_law_row", "_law_time", "_law_mark"] ["_law_hand", "_law_size", "_law_many_here", "_law_stock"] (defScope s_l_any_note) := ⟨rfl, rfl, rfl, by decide +kernel, rfl, by decide +kernel, by decide +kernel⟩
abbrev s_l_lets : Stmt := top 121
/-- slots: 0 _law_note, 1 _law_found, 2 _law_size, 3 _law_speed -/
theorem sc_l_lets : FnScope ["_law_note", "_law_found", "_law_size", "_law_speed"] ["_law_note"] (defScope s_l_lets) := ⟨rfl, rfl, rfl, by decide +kernel, rfl, by decide +kernel, by decide +kernel⟩
abbrev s_l_common : Stmt := top 122
/-- slots: 0 _law_one, 1 _law_two, 2 _law_letter -/
theorem sc_l_common : FnScope ["_law_one", "_law_two", "_law_letter"] ["_law_one", "_law_two"] (defScope s_l_common) := ⟨rfl, rfl, rfl, by decide +kernel, rfl, by decide +kernel, by decide +kernel⟩
abbrev s_l_left_for : Stmt := top 123
/-- slots: 0 _law_note, 1 _law_size, 2 _law_speed, 3 _law_found, 4 _law_time, 5 _law_mark, 6 _law_place, 7 _law_number -/
theorem sc_l_left_for : FnScope ["_law_note", "_law_size", "_law_speed", "_law_found", "_law_time", "_law_mark", "_law_place", "_law_number"] ["_law_note", "_law_size", "_law_speed"] (defScope s_l_left_for) := ⟨rfl, rfl, rfl, by decide +kernel, rfl, by decide +kernel, by decide +kernel⟩
abbrev s_l_pairs : Stmt := top 124
/-- slots: 0 _law_note, 1 _law_pair -/
theorem sc_l_pairs : FnScope ["_law_note", "_law_pair"] ["_law_note"] (defScope s_l_pairs) := ⟨rfl, rfl, rfl, by decide +kernel, rfl, by decide +kernel, by decide +kernel⟩
abbrev s_l_sign : Stmt := top 125
/-- slots: 0 _law_hand, 1 _law_note, 2 _law_stock, 3 _law_size, 4 _law_speed, 5 _law_row, 6 _law_word, 7 _law_here -/
theorem sc_l_sign : FnScope ["_law_hand", "_law_note", "_law_stock", "_law_size", "_law_speed", "_law_row", "_law_word", "_law_here"] ["_law_hand", "_law_note", "_law_stock"] (defScope s_l_sign) := ⟨rfl, rfl, rfl, by decide +kernel, rfl, by decide +kernel, by decide +kernel⟩
abbrev s_l_fitting : Stmt := top 126
/-- slots: 0 _law_hand, 1 _law_note, 2 _law_stock, 3 _law_sign_here, 4 _law_time -/
theorem sc_l_fitting : FnScope ["_law_hand", "_law_note", "_law_stock", "_law_sign_here", "_law_time"] ["_law_hand", "_law_note", "_law_stock"] (defScope s_l_fitting) := ⟨rfl, rfl, rfl, by decide +kernel, rfl, by decide +kernel, by decide +kernel⟩
abbrev s_l_look : Stmt := top 127
/-- slots: 0 _law_shelf, 1 _law_word -/
theorem sc_l_look : FnScope ["_law_shelf", "_law_word"] ["_law_shelf"] (defScope s_l_look) := ⟨rfl, rfl, rfl, by decide +kernel, rfl, by decide +kernel, by decide +kernel⟩
abbrev s_l_sure : Stmt := top 128
/-- slots: 0 _law_note, 1 _law_time, 2 _law_some, 3 _law_pair, 4 _law_found, 5 _law_place, 6 _law_here, 7 _law_left -/
theorem sc_l_sure : FnScope ["_law_note", "_law_time", "_law_some", "_law_pair", "_law_found", "_law_place", "_law_here", "_law_left"] ["_law_note", "_law_time"] (defScope s_l_sure) := ⟨rfl, rfl, rfl, by decide +kernel, rfl, by decide +kernel, by decide +kernel⟩
abbrev s_l_many : Stmt := top 129
/-- slots: 0 _law_note, 1 _law_total, 2 _law_size, 3 _law_speed, 4 _law_many_here, 5 _law_word -/
theorem sc_l_many : FnScope ["_law_note", "_law_total", "_law_size", "_law_speed", "_law_many_here", "_law_word"] ["_law_note"] (defScope s_l_many) := ⟨rfl, rfl, rfl, by decide +kernel, rfl, by decide +kernel, by decide +kernel⟩
abbrev s_l_least : Stmt := top 130
/-- slots: 0 _law_note, 1 _law_size, 2 _law_speed, 3 _law_word -/
theorem sc_l_least : FnScope ["_law_note", "_law_size", "_law_speed", "_law_word"] ["_law_note"] (defScope s_l_least) := ⟨rfl, rfl, rfl, by decide +kernel, rfl, by decide +kernel, by decide +kernel⟩
abbrev s_l_answers : Stmt := top 131
/-- slots: 0 _law_desk, 1 _law_word, 2 _law_note, 3 _law_time, 4 _law_some, 5 _law_size, 6 _law_speed, 7 _law_due, 8 _law_found -/
theorem sc_l_answers : FnScope ["_law_desk", "_law_word", "_law_note", "_law_time", "_law_some", "_law_size", "_law_speed", "_law_due", "_law_found"] ["_law_desk", "_law_word", "_law_note", "_law_time"] (defScope s_l_answers) := ⟨rfl, rfl, rfl, by decide +kernel, rfl, by decide +kernel, by decide +kernel⟩
abbrev s_l_case : Stmt := top 132
/-- slots: 0 _law_hand, 1 _law_desk, 2 _law_stock, 3 _law_notes, 4 _law_word, 5 _law_words, 6 _law_turn, 7 _law_note, 8 _law_ends, 9 _law_told, 10 _law_at, 11 _law_glance, 12 _law_line_here, 13 _law_ahead, 14 _law_time, 15 _law_each -/
theorem sc_l_case : FnScope ["_law_hand", "_law_desk", "_law_stock", "_law_notes", "_law_word", "_law_words", "_law_turn", "_law_note", "_law_ends", "_law_told", "_law_at", "_law_glance", "_law_line_here", "_law_ahead", "_law_time", "_law_each"] ["_law_hand"] (defScope s_l_case) := ⟨rfl, rfl, rfl, by decide +kernel, rfl, by decide +kernel, by decide +kernel⟩
abbrev s_law : Stmt := top 133
/-- slots: 0 _law_script, 1 _law_place -/
theorem sc_law : FnScope ["_law_script", "_law_place"] ["_law_script"] (defScope s_law) := ⟨rfl, rfl, rfl, by decide +kernel, rfl, by decide +kernel, by decide +kernel⟩
abbrev s_Sign_init : Stmt := inClass (top 48) 0
/-- slots: 0 self, 1 text, 2 pace -/
theorem sc_Sign_init : FnScope ["self", "text", "pace"] ["self", "text", "pace"] (defScope s_Sign_init) := ⟨rfl, rfl, rfl, by decide +kernel, rfl, by decide +kernel, by decide +kernel⟩
abbrev s_Sign_str : Stmt := inClass (top 48) 5
/-- slots: 0 self -/
theorem sc_Sign_str : FnScope ["self"] ["self"] (defScope s_Sign_str) := ⟨rfl, rfl, rfl, by decide +kernel, rfl, by decide +kernel, by decide +kernel⟩
abbrev s_Known_init : Stmt := inClass (top 59) 0
/-- slots: 0 self, 1 parts -/
theorem sc_Known_init : FnScope ["self", "parts"] ["self", "parts"] (defScope s_Known_init) := ⟨rfl, rfl, rfl, by decide +kernel, rfl, by decide +kernel, by decide +kernel⟩
abbrev s_Record_init : Stmt := inClass (top 64) 0
/-- slots: 0 self, 1 width, 2 dead, 3 least, 4 most, 5 paces, 6 groups -/
theorem sc_Record_init : FnScope ["self", "width", "dead", "least", "most", "paces", "groups"] ["self", "width", "dead", "least", "most", "paces", "groups"] (defScope s_Record_init) := ⟨rfl, rfl, rfl, by decide +kernel, rfl, by decide +kernel, by decide +kernel⟩
abbrev s_Record_seen : Stmt := inClass (top 64) 2
/-- slots: 0 self, 1 time, 2 window, 3 place -/
theorem sc_Record_seen : FnScope ["self", "time", "window", "place"] ["self", "time", "window"] (defScope s_Record_seen) := ⟨rfl, rfl, rfl, by decide +kernel, rfl, by decide +kernel, by decide +kernel⟩
abbrev s_Record_readings : Stmt := inClass (top 64) 4
/-- slots: 0 self, 1 found, 2 time, 3 window -/
theorem sc_Record_readings : FnScope ["self", "found", "time", "window"] ["self"] (defScope s_Record_readings) := ⟨rfl, rfl, rfl, by decide +kernel, rfl, by decide +kernel, by decide +kernel⟩
abbrev s_Record_repr : Stmt := inClass (top 64) 10
/-- slots: 0 self -/
theorem sc_Record_repr : FnScope ["self"] ["self"] (defScope s_Record_repr) := ⟨rfl, rfl, rfl, by decide +kernel, rfl, by decide +kernel, by decide +kernel⟩
abbrev s_Book_init : Stmt := inClass (top 98) 0
/-- slots: 0 self -/
theorem sc_Book_init : FnScope ["self"] ["self"] (defScope s_Book_init) := ⟨rfl, rfl, rfl, by decide +kernel, rfl, by decide +kernel, by decide +kernel⟩
abbrev s_Book_become : Stmt := inClass (top 98) 4
/-- slots: 0 self, 1 records, 2 made -/
theorem sc_Book_become : FnScope ["self", "records", "made"] ["self", "records", "made"] (defScope s_Book_become) := ⟨rfl, rfl, rfl, by decide +kernel, rfl, by decide +kernel, by decide +kernel⟩
abbrev s_Book_check_known : Stmt := inClass (top 98) 5
/-- slots: 0 self, 1 name -/
theorem sc_Book_check_known : FnScope ["self", "name"] ["self", "name"] (defScope s_Book_check_known) := ⟨rfl, rfl, rfl, by decide +kernel, rfl, by decide +kernel, by decide +kernel⟩
abbrev s_Book_setitem : Stmt := inClass (top 98) 6
/-- slots: 0 self, 1 name, 2 record, 3 records, 4 index, 5 claim -/
theorem sc_Book_setitem : FnScope ["self", "name", "record", "records", "index", "claim"] ["self", "name", "record"] (defScope s_Book_setitem) := ⟨rfl, rfl, rfl, by decide +kernel, rfl, by decide +kernel, by decide +kernel⟩
abbrev s_Book_getitem : Stmt := inClass (top 98) 7
/-- slots: 0 self, 1 name -/
theorem sc_Book_getitem : FnScope ["self", "name"] ["self", "name"] (defScope s_Book_getitem) := ⟨rfl, rfl, rfl, by decide +kernel, rfl, by decide +kernel, by decide +kernel⟩
abbrev s_Book_contains : Stmt := inClass (top 98) 9
/-- slots: 0 self, 1 name -/
theorem sc_Book_contains : FnScope ["self", "name"] ["self", "name"] (defScope s_Book_contains) := ⟨rfl, rfl, rfl, by decide +kernel, rfl, by decide +kernel, by decide +kernel⟩
abbrev s_Book_len : Stmt := inClass (top 98) 10
/-- slots: 0 self -/
theorem sc_Book_len : FnScope ["self"] ["self"] (defScope s_Book_len) := ⟨rfl, rfl, rfl, by decide +kernel, rfl, by decide +kernel, by decide +kernel⟩
abbrev s_Book_see : Stmt := inClass (top 98) 11
/-- slots: 0 self, 1 name, 2 time, 3 window, 4 record -/
theorem sc_Book_see : FnScope ["self", "name", "time", "window", "record"] ["self", "name", "time", "window"] (defScope s_Book_see) := ⟨rfl, rfl, rfl, by decide +kernel, rfl, by decide +kernel, by decide +kernel⟩
abbrev s_Console_init : Stmt := inClass (top 107) 0
/-- slots: 0 self -/
theorem sc_Console_init : FnScope ["self"] ["self"] (defScope s_Console_init) := ⟨rfl, rfl, rfl, by decide +kernel, rfl, by decide +kernel, by decide +kernel⟩
abbrev s_Console_records_of : Stmt := inClass (top 107) 1
/-- slots: 0 self, 1 names, 2 name -/
theorem sc_Console_records_of : FnScope ["self", "names", "name"] ["self", "names"] (defScope s_Console_records_of) := ⟨rfl, rfl, rfl, by decide +kernel, rfl, by decide +kernel, by decide +kernel⟩
abbrev s_Console_about_one : Stmt := inClass (top 107) 3
/-- slots: 0 self, 1 name, 2 word, 3 record, 4 sign -/
theorem sc_Console_about_one : FnScope ["self", "name", "word", "record", "sign"] ["self", "name", "word"] (defScope s_Console_about_one) := ⟨rfl, rfl, rfl, by decide +kernel, rfl, by decide +kernel, by decide +kernel⟩
abbrev s_Console_about_two : Stmt := inClass (top 107) 4
/-- slots: 0 self, 1 name, 2 word, 3 item, 4 time, 5 window -/
theorem sc_Console_about_two : FnScope ["self", "name", "word", "item", "time", "window"] ["self", "name", "word", "item"] (defScope s_Console_about_two) := ⟨rfl, rfl, rfl, by decide +kernel, rfl, by decide +kernel, by decide +kernel⟩
abbrev s_Console_about_window : Stmt := inClass (top 107) 5
/-- slots: 0 self, 1 name, 2 word, 3 item, 4 window, 5 time -/
theorem sc_Console_about_window : FnScope ["self", "name", "word", "item", "window", "time"] ["self", "name", "word", "item", "window"] (defScope s_Console_about_window) := ⟨rfl, rfl, rfl, by decide +kernel, rfl, by decide +kernel, by decide +kernel⟩
abbrev s_Console_after_equals : Stmt := inClass (top 107) 6
/-- slots: 0 self, 1 name, 2 words, 3 record -/
theorem sc_Console_after_equals : FnScope ["self", "name", "words", "record"] ["self", "name", "words"] (defScope s_Console_after_equals) := ⟨rfl, rfl, rfl, by decide +kernel, rfl, by decide +kernel, by decide +kernel⟩
abbrev s_Console_answer : Stmt := inClass (top 107) 7
/-- slots: 0 self, 1 words -/
theorem sc_Console_answer : FnScope ["self", "words"] ["self", "words"] (defScope s_Console_answer) := ⟨rfl, rfl, rfl, by decide +kernel, rfl, by decide +kernel, by decide +kernel⟩
abbrev s_Console_say : Stmt := inClass (top 107) 9
/-- slots: 0 self, 1 line, 2 told -/
theorem sc_Console_say : FnScope ["self", "line", "told"] ["self", "line"] (defScope s_Console_say) := ⟨rfl, rfl, rfl, by decide +kernel, rfl, by decide +kernel, by decide +kernel⟩
abbrev s_Book_names : Stmt := inClass (top 98) 1
/-- slots: 0 self -/
theorem sc_Book_names : FnScope ["self"] ["self"] (defScope s_Book_names) := ⟨rfl, rfl, rfl, by decide +kernel, rfl, by decide +kernel, by decide +kernel⟩
abbrev s_Book_claims : Stmt := inClass (top 98) 2
/-- slots: 0 self -/
theorem sc_Book_claims : FnScope ["self"] ["self"] (defScope s_Book_claims) := ⟨rfl, rfl, rfl, by decide +kernel, rfl, by decide +kernel, by decide +kernel⟩
abbrev s_Book_changes : Stmt := inClass (top 98) 3
/-- slots: 0 self -/
theorem sc_Book_changes : FnScope ["self"] ["self"] (defScope s_Book_changes) := ⟨rfl, rfl, rfl, by decide +kernel, rfl, by decide +kernel, by decide +kernel⟩
def d_is_integer : He.DefD := ⟨("is_integer", none), "is_integer", "is_integer", defArgs s_is_integer, defBody s_is_integer, defScope s_is_integer, [], []⟩
def d_is_between : He.DefD := ⟨("is_between", none), "is_between", "is_between", defArgs s_is_between, defBody s_is_between, defScope s_is_between, [], []⟩
def d_is_time : He.DefD := ⟨("is_time", none), "is_time", "is_time", defArgs s_is_time, defBody s_is_time, defScope s_is_time, [], []⟩
def d_is_pace : He.DefD := ⟨("is_pace", none), "is_pace", "is_pace", defArgs s_is_pace, defBody s_is_pace, defScope s_is_pace, [], []⟩
def d_is_text : He.DefD := ⟨("is_text", none), "is_text", "is_text", defArgs s_is_text, defBody s_is_text, defScope s_is_text, [], []⟩
def d_meet : He.DefD := ⟨("meet", none), "meet", "meet", defArgs s_meet, defBody s_meet, defScope s_meet, [], []⟩
def d_agreeing : He.DefD := ⟨("agreeing", none), "agreeing", "agreeing", defArgs s_agreeing, defBody s_agreeing, defScope s_agreeing, [], []⟩
def d_is_mark : He.DefD := ⟨("is_mark", none), "is_mark", "is_mark", defArgs s_is_mark, defBody s_is_mark, defScope s_is_mark, [], []⟩
def d_is_reading : He.DefD := ⟨("is_reading", none), "is_reading", "is_reading", defArgs s_is_reading, defBody s_is_reading, defScope s_is_reading, [], []⟩
def d_is_any_reading : He.DefD := ⟨("is_any_reading", none), "is_any_reading", "is_any_reading", defArgs s_is_any_reading, defBody s_is_any_reading, defScope s_is_any_reading, [], []⟩
def d_check_time : He.DefD := ⟨("check_time", none), "check_time", "check_time", defArgs s_check_time, defBody s_check_time, defScope s_check_time, [], []⟩
def d_check_width : He.DefD := ⟨("check_width", none), "check_width", "check_width", defArgs s_check_width, defBody s_check_width, defScope s_check_width, [], []⟩
def d_number_at : He.DefD := ⟨("number_at", none), "number_at", "number_at", defArgs s_number_at, defBody s_number_at, defScope s_number_at, [], []⟩
def d_bad_ascending : He.DefD := ⟨("bad_ascending", none), "bad_ascending", "bad_ascending", defArgs s_bad_ascending, defBody s_bad_ascending, defScope s_bad_ascending, [], []⟩
def d_bad_group : He.DefD := ⟨("bad_group", none), "bad_group", "bad_group", defArgs s_bad_group, defBody s_bad_group, defScope s_bad_group, [], []⟩
def d_check_dead : He.DefD := ⟨("check_dead", none), "check_dead", "check_dead", defArgs s_check_dead, defBody s_check_dead, defScope s_check_dead, [], []⟩
def d_check_lengths : He.DefD := ⟨("check_lengths", none), "check_lengths", "check_lengths", defArgs s_check_lengths, defBody s_check_lengths, defScope s_check_lengths, [], []⟩
def d_check_paces : He.DefD := ⟨("check_paces", none), "check_paces", "check_paces", defArgs s_check_paces, defBody s_check_paces, defScope s_check_paces, [], []⟩
def d_check_groups : He.DefD := ⟨("check_groups", none), "check_groups", "check_groups", defArgs s_check_groups, defBody s_check_groups, defScope s_check_groups, [], []⟩
def d_with_glances : He.DefD := ⟨("with_glances", none), "with_glances", "with_glances", defArgs s_with_glances, defBody s_with_glances, defScope s_with_glances, [], []⟩
def d_readings_in : He.DefD := ⟨("readings_in", none), "readings_in", "readings_in", defArgs s_readings_in, defBody s_readings_in, defScope s_readings_in, [], []⟩
def d_check_record : He.DefD := ⟨("check_record", none), "check_record", "check_record", defArgs s_check_record, defBody s_check_record, defScope s_check_record, [], []⟩
def d_check_reading : He.DefD := ⟨("check_reading", none), "check_reading", "check_reading", defArgs s_check_reading, defBody s_check_reading, defScope s_check_reading, [], []⟩
def d_left_by : He.DefD := ⟨("left_by", none), "left_by", "left_by", defArgs s_left_by, defBody s_left_by, defScope s_left_by, [], []⟩
def d_let_by : He.DefD := ⟨("let_by", none), "let_by", "let_by", defArgs s_let_by, defBody s_let_by, defScope s_let_by, [], []⟩
def d_all_left : He.DefD := ⟨("all_left", none), "all_left", "all_left", defArgs s_all_left, defBody s_all_left, defScope s_all_left, [], []⟩
def d_pairs : He.DefD := ⟨("pairs", none), "pairs", "pairs", defArgs s_pairs, defBody s_pairs, defScope s_pairs, [], []⟩
def d_texts_left : He.DefD := ⟨("texts_left", none), "texts_left", "texts_left", defArgs s_texts_left, defBody s_texts_left, defScope s_texts_left, [], []⟩
def d_number_of : He.DefD := ⟨("number_of", none), "number_of", "number_of", defArgs s_number_of, defBody s_number_of, defScope s_number_of, [], []⟩
def d_least_text : He.DefD := ⟨("least_text", none), "least_text", "least_text", defArgs s_least_text, defBody s_least_text, defScope s_least_text, [], []⟩
def d_shortest : He.DefD := ⟨("shortest", none), "shortest", "shortest", defArgs s_shortest, defBody s_shortest, defScope s_shortest, [], []⟩
def d_left_at : He.DefD := ⟨("left_at", none), "left_at", "left_at", defArgs s_left_at, defBody s_left_at, defScope s_left_at, [], []⟩
def d_all_in : He.DefD := ⟨("all_in", none), "all_in", "all_in", defArgs s_all_in, defBody s_all_in, defScope s_all_in, [], []⟩
def d_sure : He.DefD := ⟨("sure", none), "sure", "sure", defArgs s_sure, defBody s_sure, defScope s_sure, [], []⟩
def d_is_name : He.DefD := ⟨("is_name", none), "is_name", "is_name", defArgs s_is_name, defBody s_is_name, defScope s_is_name, [], []⟩
def d_integer_in : He.DefD := ⟨("integer_in", none), "integer_in", "integer_in", defArgs s_integer_in, defBody s_integer_in, defScope s_integer_in, [], []⟩
def d_record_in : He.DefD := ⟨("record_in", none), "record_in", "record_in", defArgs s_record_in, defBody s_record_in, defScope s_record_in, [], []⟩
def d_text_of_pairs : He.DefD := ⟨("text_of_pairs", none), "text_of_pairs", "text_of_pairs", defArgs s_text_of_pairs, defBody s_text_of_pairs, defScope s_text_of_pairs, [], []⟩
def d_l_cell : He.DefD := ⟨("_law_cell", none), "_law_cell", "_law_cell", defArgs s_l_cell, defBody s_l_cell, defScope s_l_cell, [], []⟩
def d_l_deal : He.DefD := ⟨("_law_deal", none), "_law_deal", "_law_deal", defArgs s_l_deal, defBody s_l_deal, defScope s_l_deal, [], []⟩
def d_l_pick : He.DefD := ⟨("_law_pick", none), "_law_pick", "_law_pick", defArgs s_l_pick, defBody s_l_pick, defScope s_l_pick, [], []⟩
def d_l_one_of : He.DefD := ⟨("_law_one_of", none), "_law_one_of", "_law_one_of", defArgs s_l_one_of, defBody s_l_one_of, defScope s_l_one_of, [], []⟩
def d_l_moment : He.DefD := ⟨("_law_moment", none), "_law_moment", "_law_moment", defArgs s_l_moment, defBody s_l_moment, defScope s_l_moment, [], []⟩
def d_l_few : He.DefD := ⟨("_law_few", none), "_law_few", "_law_few", defArgs s_l_few, defBody s_l_few, defScope s_l_few, [], []⟩
def d_l_drawn : He.DefD := ⟨("_law_drawn", none), "_law_drawn", "_law_drawn", defArgs s_l_drawn, defBody s_l_drawn, defScope s_l_drawn, [], []⟩
def d_l_grouped : He.DefD := ⟨("_law_grouped", none), "_law_grouped", "_law_grouped", defArgs s_l_grouped, defBody s_l_grouped, defScope s_l_grouped, [], []⟩
def d_l_window : He.DefD := ⟨("_law_window", none), "_law_window", "_law_window", defArgs s_l_window, defBody s_l_window, defScope s_l_window, [], []⟩
def d_l_letters_of : He.DefD := ⟨("_law_letters_of", none), "_law_letters_of", "_law_letters_of", defArgs s_l_letters_of, defBody s_l_letters_of, defScope s_l_letters_of, [], []⟩
def d_l_reading : He.DefD := ⟨("_law_reading", none), "_law_reading", "_law_reading", defArgs s_l_reading, defBody s_l_reading, defScope s_l_reading, [], []⟩
def d_l_any_note : He.DefD := ⟨("_law_any_note", none), "_law_any_note", "_law_any_note", defArgs s_l_any_note, defBody s_l_any_note, defScope s_l_any_note, [], []⟩
def d_l_lets : He.DefD := ⟨("_law_lets", none), "_law_lets", "_law_lets", defArgs s_l_lets, defBody s_l_lets, defScope s_l_lets, [], []⟩
def d_l_common : He.DefD := ⟨("_law_common", none), "_law_common", "_law_common", defArgs s_l_common, defBody s_l_common, defScope s_l_common, [], []⟩
def d_l_left_for : He.DefD := ⟨("_law_left_for", none), "_law_left_for", "_law_left_for", defArgs s_l_left_for, defBody s_l_left_for, defScope s_l_left_for, [], []⟩
def d_l_pairs : He.DefD := ⟨("_law_pairs", none), "_law_pairs", "_law_pairs", defArgs s_l_pairs, defBody s_l_pairs, defScope s_l_pairs, [], []⟩
def d_l_sign : He.DefD := ⟨("_law_sign", none), "_law_sign", "_law_sign", defArgs s_l_sign, defBody s_l_sign, defScope s_l_sign, [], []⟩
def d_l_fitting : He.DefD := ⟨("_law_fitting", none), "_law_fitting", "_law_fitting", defArgs s_l_fitting, defBody s_l_fitting, defScope s_l_fitting, [], []⟩
def d_l_look : He.DefD := ⟨("_law_look", none), "_law_look", "_law_look", defArgs s_l_look, defBody s_l_look, defScope s_l_look, [], []⟩
def d_l_sure : He.DefD := ⟨("_law_sure", none), "_law_sure", "_law_sure", defArgs s_l_sure, defBody s_l_sure, defScope s_l_sure, [], []⟩
def d_l_many : He.DefD := ⟨("_law_many", none), "_law_many", "_law_many", defArgs s_l_many, defBody s_l_many, defScope s_l_many, [], []⟩
def d_l_least : He.DefD := ⟨("_law_least", none), "_law_least", "_law_least", defArgs s_l_least, defBody s_l_least, defScope s_l_least, [], []⟩
def d_l_answers : He.DefD := ⟨("_law_answers", none), "_law_answers", "_law_answers", defArgs s_l_answers, defBody s_l_answers, defScope s_l_answers, [], []⟩
def d_l_case : He.DefD := ⟨("_law_case", none), "_law_case", "_law_case", defArgs s_l_case, defBody s_l_case, defScope s_l_case, [], []⟩
def d_law : He.DefD := ⟨("law", none), "law", "law", defArgs s_law, defBody s_law, defScope s_law, [], []⟩
def d_Sign_init : He.DefD := ⟨("Sign", some "__init__"), "__init__", "Sign.__init__", defArgs s_Sign_init, defBody s_Sign_init, defScope s_Sign_init, [.int 1], []⟩
def d_Sign_str : He.DefD := ⟨("Sign", some "__str__"), "__str__", "Sign.__str__", defArgs s_Sign_str, defBody s_Sign_str, defScope s_Sign_str, [], []⟩
def d_Known_init : He.DefD := ⟨("Known", some "__init__"), "__init__", "Known.__init__", defArgs s_Known_init, defBody s_Known_init, defScope s_Known_init, [], []⟩
/-- a keyword-only default of Record.__init__ that is an object -/
def kdAt (x : Str) (K : PySem.W.Frag) : Addr := match K.lookup (He.fAd K ("Record", some "__init__")) with
  | some ⟨_, _, .func fd, _⟩ => (match fd.kwdefaults with
    | .ref D => (match PySem.W.nsIn K D x with
      | some (some (.ref a)) => a
      | _ => 0)
    | _ => 0)
  | _ => 0
def d_Record_init : He.DefD := ⟨("Record", some "__init__"), "__init__", "Record.__init__", defArgs s_Record_init, defBody s_Record_init, defScope s_Record_init, [], [("dead", .adr (kdAt "dead")), ("least", .int 1), ("most", .int 20), ("paces", .adr (kdAt "paces")), ("groups", .adr (kdAt "groups"))]⟩
def d_Record_seen : He.DefD := ⟨("Record", some "seen"), "seen", "Record.seen", defArgs s_Record_seen, defBody s_Record_seen, defScope s_Record_seen, [], []⟩
def d_Record_readings : He.DefD := ⟨("Record", some "readings"), "readings", "Record.readings", defArgs s_Record_readings, defBody s_Record_readings, defScope s_Record_readings, [], []⟩
def d_Record_repr : He.DefD := ⟨("Record", some "__repr__"), "__repr__", "Record.__repr__", defArgs s_Record_repr, defBody s_Record_repr, defScope s_Record_repr, [], []⟩
def d_Book_init : He.DefD := ⟨("Book", some "__init__"), "__init__", "Book.__init__", defArgs s_Book_init, defBody s_Book_init, defScope s_Book_init, [], []⟩
def d_Book_become : He.DefD := ⟨("Book", some "become"), "become", "Book.become", defArgs s_Book_become, defBody s_Book_become, defScope s_Book_become, [], []⟩
def d_Book_check_known : He.DefD := ⟨("Book", some "check_known"), "check_known", "Book.check_known", defArgs s_Book_check_known, defBody s_Book_check_known, defScope s_Book_check_known, [], []⟩
def d_Book_setitem : He.DefD := ⟨("Book", some "__setitem__"), "__setitem__", "Book.__setitem__", defArgs s_Book_setitem, defBody s_Book_setitem, defScope s_Book_setitem, [], []⟩
def d_Book_getitem : He.DefD := ⟨("Book", some "__getitem__"), "__getitem__", "Book.__getitem__", defArgs s_Book_getitem, defBody s_Book_getitem, defScope s_Book_getitem, [], []⟩
def d_Book_contains : He.DefD := ⟨("Book", some "__contains__"), "__contains__", "Book.__contains__", defArgs s_Book_contains, defBody s_Book_contains, defScope s_Book_contains, [], []⟩
def d_Book_len : He.DefD := ⟨("Book", some "__len__"), "__len__", "Book.__len__", defArgs s_Book_len, defBody s_Book_len, defScope s_Book_len, [], []⟩
def d_Book_see : He.DefD := ⟨("Book", some "see"), "see", "Book.see", defArgs s_Book_see, defBody s_Book_see, defScope s_Book_see, [], []⟩
def d_Console_init : He.DefD := ⟨("Console", some "__init__"), "__init__", "Console.__init__", defArgs s_Console_init, defBody s_Console_init, defScope s_Console_init, [], []⟩
def d_Console_records_of : He.DefD := ⟨("Console", some "records_of"), "records_of", "Console.records_of", defArgs s_Console_records_of, defBody s_Console_records_of, defScope s_Console_records_of, [], []⟩
def d_Console_about_one : He.DefD := ⟨("Console", some "about_one"), "about_one", "Console.about_one", defArgs s_Console_about_one, defBody s_Console_about_one, defScope s_Console_about_one, [], []⟩
def d_Console_about_two : He.DefD := ⟨("Console", some "about_two"), "about_two", "Console.about_two", defArgs s_Console_about_two, defBody s_Console_about_two, defScope s_Console_about_two, [], []⟩
def d_Console_about_window : He.DefD := ⟨("Console", some "about_window"), "about_window", "Console.about_window", defArgs s_Console_about_window, defBody s_Console_about_window, defScope s_Console_about_window, [], []⟩
def d_Console_after_equals : He.DefD := ⟨("Console", some "after_equals"), "after_equals", "Console.after_equals", defArgs s_Console_after_equals, defBody s_Console_after_equals, defScope s_Console_after_equals, [], []⟩
def d_Console_answer : He.DefD := ⟨("Console", some "answer"), "answer", "Console.answer", defArgs s_Console_answer, defBody s_Console_answer, defScope s_Console_answer, [], []⟩
def d_Console_say : He.DefD := ⟨("Console", some "say"), "say", "Console.say", defArgs s_Console_say, defBody s_Console_say, defScope s_Console_say, [], []⟩
def fn0 : List He.DefD := [d_is_integer, d_is_between, d_is_time, d_is_pace, d_is_text, d_meet, d_agreeing, d_is_mark, d_is_reading, d_is_any_reading, d_check_time, d_check_width, d_number_at, d_bad_ascending, d_bad_group, d_check_dead, d_check_lengths, d_check_paces, d_check_groups, d_with_glances, d_readings_in, d_check_record, d_check_reading, d_left_by, d_let_by, d_all_left, d_pairs, d_texts_left, d_number_of, d_least_text]
def fn1 : List He.DefD := [d_shortest, d_left_at, d_all_in, d_sure, d_is_name, d_integer_in, d_record_in, d_text_of_pairs, d_l_cell, d_l_deal, d_l_pick, d_l_one_of, d_l_moment, d_l_few, d_l_drawn, d_l_grouped, d_l_window, d_l_letters_of, d_l_reading, d_l_any_note, d_l_lets, d_l_common, d_l_left_for, d_l_pairs, d_l_sign, d_l_fitting, d_l_look, d_l_sure, d_l_many, d_l_least]
def fn2 : List He.DefD := [d_l_answers, d_l_case, d_law, d_Sign_init, d_Sign_str, d_Known_init, d_Record_init, d_Record_seen, d_Record_readings, d_Record_repr, d_Book_init, d_Book_become, d_Book_check_known, d_Book_setitem, d_Book_getitem, d_Book_contains, d_Book_len, d_Book_see, d_Console_init, d_Console_records_of, d_Console_about_one, d_Console_about_two, d_Console_about_window, d_Console_after_equals, d_Console_answer, d_Console_say]
def fn : List He.DefD := fn0 ++ fn1 ++ fn2
def fa0 : List He.Fa := [.glo "is_integer", .glo "is_between", .glo "is_time", .glo "is_pace", .glo "is_text", .glo "meet", .glo "agreeing", .glo "is_mark", .glo "is_reading", .glo "is_any_reading", .glo "check_time", .glo "check_width", .glo "number_at", .glo "bad_ascending", .glo "bad_group", .glo "check_dead", .glo "check_lengths", .glo "check_paces", .glo "check_groups", .glo "with_glances", .glo "readings_in", .glo "check_record", .glo "check_reading", .glo "left_by", .glo "let_by", .glo "all_left", .glo "pairs", .glo "texts_left", .glo "number_of", .glo "least_text"]
def fa1 : List He.Fa := [.glo "shortest", .glo "left_at", .glo "all_in", .glo "sure", .glo "is_name", .glo "integer_in", .glo "record_in", .glo "text_of_pairs", .glo "_law_cell", .glo "_law_deal", .glo "_law_pick", .glo "_law_one_of", .glo "_law_moment", .glo "_law_few", .glo "_law_drawn", .glo "_law_grouped", .glo "_law_window", .glo "_law_letters_of", .glo "_law_reading", .glo "_law_any_note", .glo "_law_lets", .glo "_law_common", .glo "_law_left_for", .glo "_law_pairs", .glo "_law_sign", .glo "_law_fitting", .glo "_law_look", .glo "_law_sure", .glo "_law_many", .glo "_law_least"]
def fa2 : List He.Fa := [.glo "_law_answers", .glo "_law_case", .glo "law", .glo "Sign", .glo "Known", .glo "Record", .glo "Book", .glo "Console", .free "len", .free "isinstance", .free "int", .free "str", .free "range", .free "all", .free "any", .free "tuple", .free "list", .free "set", .free "dict", .free "sorted", .free "min", .free "max", .free "abs", .free "repr", .free "enumerate", .free "bool", .int "MOST_WIDTH" 8, .int "MOST_LENGTH" 40, .int "MOST_PACE" 9, .int "MOST_GLANCES" 12]
def fa3 : List He.Fa := [.int "GREATEST" 1000000000000000000000000000000, .int "MOST_SIGNS" 8, .int "MOST_DIGITS" 31, .str "LETTERS" "-abcdefghijklmnopqrstuvwxyz", .str "CAPITALS" "ABCDEFGHIJKLMNOPQRSTUVWXYZ", .str "UNREAD" "?", .str "SMALL" "abcdefghijklmnopqrstuvwxyz", .str "DIGITS" "0123456789", .cls "Sign", .mkr "Sign", .noat "Sign" "text", .noat "Sign" "pace", .meth "Sign" "__init__", .meth "Sign" "__str__", .cls "Known", .mkr "Known", .noat "Known" "parts", .meth "Known" "__init__", .cls "Record", .mkr "Record", .noat "Record" "told", .noat "Record" "width", .noat "Record" "dead", .noat "Record" "least", .noat "Record" "most", .noat "Record" "paces", .noat "Record" "groups", .noat "Record" "glances", .meth "Record" "__init__", .meth "Record" "seen"]
def fa4 : List He.Fa := [.meth "Record" "readings", .meth "Record" "__repr__", .cls "Book", .mkr "Book", .noat "Book" "records", .noat "Book" "made", .noat "Book" "past", .meth "Book" "__init__", .meth "Book" "become", .meth "Book" "check_known", .meth "Book" "__setitem__", .meth "Book" "__getitem__", .meth "Book" "__contains__", .meth "Book" "__len__", .meth "Book" "see", .cls "Console", .mkr "Console", .noat "Console" "book", .meth "Console" "__init__", .meth "Console" "records_of", .meth "Console" "about_one", .meth "Console" "about_two", .meth "Console" "about_window", .meth "Console" "after_equals", .meth "Console" "answer", .meth "Console" "say"]
def fa5 : List He.Fa := [.glo "PAIRS", .glo "READ"]
def fa : List He.Fa := fa0 ++ fa1 ++ fa2 ++ fa3 ++ fa4 ++ fa5
/-! further facts, by deciders of the part -/
def prP (K : PySem.W.Frag) (m : Str) : Addr := He.ma K (He.ga K "Book") m
def prG (m : Str) (K : PySem.W.Frag) : Addr := match PySem.W.recIn K (prP K m) "property" with
  | some (.ref g :: _) => g
  | _ => 0
def prB (m : Str) (K : PySem.W.Frag) : Bool := He.eqO (PySem.W.findIn K (.ref (He.ga K "Book")) m) (some (some (.ref (prP K m)))) && (He.eqO (PySem.W.specialIn K (.ref (prP K m)) "__get__") (some (some (.builtin "property.__get__"))) &&
  (decide (PySem.W.takesIn K (.ref (prP K m)) = some true) && (match PySem.W.recIn K (prP K m) "property" with
    | some (.ref _ :: _) => true
    | _ => false)))
def isB (C : Str) (K : PySem.W.Frag) : Bool := He.eqO (PySem.W.findIn K (.ref (He.ga K C)) "__class__") (some (some (.builtin "object.__class__"))) && (decide (PySem.W.mroIn K (He.ga K C) (.type "object") = some true) && decide (PySem.W.kitOne K (.ref (He.ga K C)) (.ref (He.ga K C)) = some true))
def gsB (K : PySem.W.Frag) : Bool := He.eqO (PySem.W.specialIn K (.builtin "object.__class__") "__get__") (some (some (.builtin "getset_descriptor.__get__"))) && decide (PySem.W.takesIn K (.builtin "object.__class__") = some true)
def dtB (x : Str) (K : PySem.W.Frag) (vs : List V) : Bool := match K.lookup (kdAt x K) with
  | some ⟨.type c, _, .seq its _, _⟩ => decide (c = "tuple") && (decide (its.size ≤ sizeLine) && He.relAll vs its.toList)
  | _ => false
def exs : List (PySem.W.Frag → Bool) := [fun K => He.tupB K "PAIRS" [.str "implies", .str "apart"], fun K => He.tupB K "READ" [.str "can", .str "must"],
  prB "names", prB "claims", prB "changes", isB "Known", isB "Record", gsB,
  fun K => PySem.W.noSeq K (He.ga K "Book"), fun K => PySem.W.fnIn K (He.ma K (He.ga K "Book") "__getitem__"),
  fun K => He.eqO (PySem.W.findIn K (.ref (He.ga K "Sign")) "__format__") (some (some (.builtin "object.__format__"))), fun K => decide (PySem.W.mroIn K (He.ga K "Sign") (.type "object") = some true),
  fun K => decide (PySem.W.kitOne K (.type "int") (.ref (He.ga K "Known")) = some false),
  fun K => dtB "dead" K [], fun K => dtB "paces" K [.int 1], fun K => dtB "groups" K []]
def exB (K : PySem.W.Frag) : Bool := exs.all fun f => f K
def tf : List He.Defn := [("check_dead", none)]
/-! the getters of the properties: functions at an address of their own -/
def gfs : List ((PySem.W.Frag → Addr) × Stmt × Str × Str) := [(prG "names", s_Book_names, "names", "Book.names"), (prG "claims", s_Book_claims, "claims", "Book.claims"), (prG "changes", s_Book_changes, "changes", "Book.changes")]
end Gz
set_option maxHeartbeats 2000000
/-! The head: what is looked at behind the top, and what follows from it. -/
namespace Gz
open PySem PySem.Spec PyProof.Rows L2
/-! ### a function at an address of its own -/
def fnAt (K : PySem.W.Frag) (f : Addr) : He.FnW := match K.lookup f with
  | some ⟨_, _, .func d, _⟩ => some (d.name, d.qualname, d.params, d.body, d.scope, d.globals, d.closure, d.builtins)
  | _ => none
def okAt (K : PySem.W.Frag) (f : Addr) (q : Str) : Bool := PySem.W.keepIn K (.ref f) && (match K.lookup f with
  | some ⟨_, _, .func d, _⟩ => PySem.W.codeIn K d.code q && (He.dflB K d.defaults [] && He.kwdB K d.kwdefaults [])
  | _ => false)
theorem funAt {K : PySem.W.Frag} {f : Addr} {x q : Str} {ps : Arguments} {bd : List Stmt} {sc : Scope} (e : fnAt K f = some (x, q, ps, .stmts bd, sc, mainGlobals, [], builtinsNs)) (c : okAt K f q = true) : ∃ fd, FunD K x q ps bd sc [] [] f fd := by
  obtain ⟨kp, c2⟩ := He.ba c
  unfold fnAt at e
  cases z : K.lookup f with
  | none => rw [z] at c2; cases c2
  | some o =>
    obtain ⟨oc, od, dt, osl⟩ := o
    rw [z] at c2 e
    cases dt with
    | func fd =>
      obtain ⟨a1, a2, a3, a4, a5, a6, a7, a8, a9, a10, a11, a12, a13, a14, a15⟩ := fd
      have e2 : (some (a1, a2, a3, a4, a5, a6, a7, a15) : He.FnW) = some (x, q, ps, .stmts bd, sc, mainGlobals, [], builtinsNs) := e
      simp only [Option.some.injEq, Prod.mk.injEq] at e2
      obtain ⟨h1, h2, h3, h4, h5, h6, h7, h8⟩ := e2
      subst h1 h2 h3 h4 h5 h6 h7 h8
      have c3 : (PySem.W.codeIn K a13 a2 && (He.dflB K a8 [] && He.kwdB K a9 [])) = true := c2
      obtain ⟨k1, k2⟩ := He.ba c3
      obtain ⟨k3, k4⟩ := He.ba k2
      exact ⟨_, ⟨oc, od, a8, a9, a10, a11, a12, a13, a14, osl, rfl, z, k1, He.dflB_ok k3, He.kwdB_ok k4⟩, kp⟩
    | _ => cases c2
/-! ### what is looked at: the defs by their names, the classes with their methods -/
def sf0 : List PySem.Str := [("is_integer" : PySem.Str), ("is_between" : PySem.Str), ("is_time" : PySem.Str), ("is_pace" : PySem.Str), ("is_text" : PySem.Str), ("meet" : PySem.Str), ("agreeing" : PySem.Str), ("is_mark" : PySem.Str), ("is_reading" : PySem.Str), ("is_any_reading" : PySem.Str), ("check_time" : PySem.Str), ("check_width" : PySem.Str), ("number_at" : PySem.Str), ("bad_ascending" : PySem.Str), ("bad_group" : PySem.Str), ("check_dead" : PySem.Str), ("check_lengths" : PySem.Str), ("check_paces" : PySem.Str), ("check_groups" : PySem.Str), ("with_glances" : PySem.Str), ("readings_in" : PySem.Str), ("check_record" : PySem.Str)]
def sf1 : List PySem.Str := [("check_reading" : PySem.Str), ("left_by" : PySem.Str), ("let_by" : PySem.Str), ("all_left" : PySem.Str), ("pairs" : PySem.Str), ("texts_left" : PySem.Str), ("number_of" : PySem.Str), ("least_text" : PySem.Str), ("shortest" : PySem.Str), ("left_at" : PySem.Str), ("all_in" : PySem.Str), ("sure" : PySem.Str), ("is_name" : PySem.Str), ("integer_in" : PySem.Str), ("record_in" : PySem.Str), ("text_of_pairs" : PySem.Str), ("_law_cell" : PySem.Str), ("_law_deal" : PySem.Str), ("_law_pick" : PySem.Str), ("_law_one_of" : PySem.Str), ("_law_moment" : PySem.Str), ("_law_few" : PySem.Str)]
def sf2 : List PySem.Str := [("_law_drawn" : PySem.Str), ("_law_grouped" : PySem.Str), ("_law_window" : PySem.Str), ("_law_letters_of" : PySem.Str), ("_law_reading" : PySem.Str), ("_law_any_note" : PySem.Str), ("_law_lets" : PySem.Str), ("_law_common" : PySem.Str), ("_law_left_for" : PySem.Str), ("_law_pairs" : PySem.Str), ("_law_sign" : PySem.Str), ("_law_fitting" : PySem.Str), ("_law_look" : PySem.Str), ("_law_sure" : PySem.Str), ("_law_many" : PySem.Str), ("_law_least" : PySem.Str), ("_law_answers" : PySem.Str), ("_law_case" : PySem.Str), ("law" : PySem.Str)]
def scl : List (PySem.Str × List PySem.Str) := [(("Sign" : PySem.Str), [("__init__" : PySem.Str), ("__str__" : PySem.Str)]), (("Known" : PySem.Str), [("__init__" : PySem.Str)]), (("Record" : PySem.Str), [("__init__" : PySem.Str), ("seen" : PySem.Str), ("readings" : PySem.Str), ("__repr__" : PySem.Str)]), (("Book" : PySem.Str), [("__init__" : PySem.Str), ("become" : PySem.Str), ("check_known" : PySem.Str), ("__setitem__" : PySem.Str), ("__getitem__" : PySem.Str), ("__contains__" : PySem.Str), ("__len__" : PySem.Str), ("see" : PySem.Str), ("names" : PySem.Str), ("claims" : PySem.Str), ("changes" : PySem.Str)]), (("Console" : PySem.Str), [("__init__" : PySem.Str), ("records_of" : PySem.Str), ("about_one" : PySem.Str), ("about_two" : PySem.Str), ("about_window" : PySem.Str), ("after_equals" : PySem.Str), ("answer" : PySem.Str), ("say" : PySem.Str)])]
def sfs : List PySem.Str := sf0 ++ sf1 ++ sf2
def one (g : Addr → Option Obj) (a : Addr) : PySem.W.Frag := He.frG g [a]
/-- a def's own parts: code, defaults, keyword defaults and their objects -/
def fnAs (g : Addr → Option Obj) (a : Addr) : List Addr := a :: match g a with
  | some ⟨_, _, .func fd, _⟩ => He.refV fd.code ++ (He.refV fd.defaults ++ (match fd.kwdefaults with
    | .ref D => D :: (match g D with
      | some o => He.refsO o
      | none => [])
    | _ => []))
  | some ⟨_, _, .fields (vs), _⟩ => (match vs.toList with
    | .ref f :: _ => f :: (match g f with
      | some ⟨_, _, .func fd, _⟩ => He.refV fd.code
      | _ => [])
    | _ => [])
  | _ => []
def clAs (g : Addr → Option Obj) (G : PySem.W.Frag) (q : PySem.Str × List PySem.Str) : List Addr := He.ga G q.1 :: match g (He.ga G q.1) with
  | some ⟨_, _, .cls cd, _⟩ => cd.ns :: (q.2.flatMap fun m => match PySem.W.nsIn (one g cd.ns) cd.ns m with
    | some (some (.ref f)) => fnAs g f
    | _ => [])
  | _ => []
def asS (g : Addr → Option Obj) : List Addr := mainGlobals :: ((scl.flatMap fun q => clAs g (one g mainGlobals) q) ++ ((sfs.flatMap fun x => fnAs g (He.ga (one g mainGlobals) x)) ++ [He.ga (one g mainGlobals) "PAIRS", He.ga (one g mainGlobals) "READ"]))
/-! ### the Hook -/
abbrev AlG : Type := He.AlD × (Bool × (List He.FnW × Bool))
def tabB (g : Addr → Option Obj) (K : PySem.W.Frag) : Bool := tf.all fun p => PySem.W.codeHdIn K (He.cT K p).1 (He.cT K p).2 && ((K.lookup (He.cT K p).2).isNone && (match g (He.cT K p).2 with
  | some o => He.emptyTab o
  | none => false))
def obsK (g : Addr → Option Obj) (K : PySem.W.Frag) : AlG := (He.obsD fa fn K, (exB K && tabB g K, (gfs.map (fun q => fnAt K (q.1 K)), gfs.all fun q => okAt K (q.1 K) q.2.2.2)))
def obsG (g : Addr → Option Obj) : AlG := obsK g (He.frG g (asS g))
def valG : AlG := (He.valD fn, (true, (gfs.map (fun q => some (q.2.2.1, q.2.2.2, defArgs q.2.1, .stmts (defBody q.2.1), defScope q.2.1, mainGlobals, [], builtinsNs)), true)))
/-- what is told -/
structure Says (h : Heap) (K : PySem.W.Frag) : Prop where
  d : He.SaysD fa fn K
  ex : exB K = true
  g : gfs.map (fun q => fnAt K (q.1 K)) = gfs.map fun q => some (q.2.2.1, q.2.2.2, defArgs q.2.1, .stmts (defBody q.2.1), defScope q.2.1, mainGlobals, [], builtinsNs)
  gk : (gfs.all fun q => okAt K (q.1 K) q.2.2.2) = true
  hd : ∀ p ∈ tf, PySem.W.codeHdIn K (He.cT K p).1 (He.cT K p).2 = true
  out : ∀ p ∈ tf, K.lookup (He.cT K p).2 = none
  empty : ∀ p ∈ tf, h.get? (He.cT K p).2 = some { cls := .none, data := .fields #[] }
theorem says_of {h : Heap} {K : PySem.W.Frag} (e : obsK h.get? K = valG) : Says h K := by
  have e1 : He.obsD fa fn K = He.valD fn := congrArg (fun z : AlG => z.1) e
  have e2 : (exB K && tabB h.get? K) = true := congrArg (fun z : AlG => z.2.1) e
  obtain ⟨h1, h2⟩ := He.ba e2
  have key : ∀ p ∈ tf, PySem.W.codeHdIn K (He.cT K p).1 (He.cT K p).2 = true ∧ K.lookup (He.cT K p).2 = none ∧ h.get? (He.cT K p).2 = some { cls := .none, data := .fields #[] } := fun p hp => by
    obtain ⟨h3, h4⟩ := He.ba (List.all_eq_true.mp h2 p hp)
    obtain ⟨h5, h6⟩ := He.ba h4
    refine ⟨h3, Option.isNone_iff_eq_none.mp h5, ?_⟩
    cases q : h.get? (He.cT K p).2 with
    | none =>
      rw [q] at h6
      cases h6
    | some o =>
      rw [q] at h6
      rw [He.emptyTab_eq h6]
  exact ⟨e1, h1, congrArg (fun z : AlG => z.2.2.1) e, congrArg (fun z : AlG => z.2.2.2) e, fun p hp => (key p hp).1, fun p hp => (key p hp).2.1, fun p hp => (key p hp).2.2⟩
def hookG : PySem.W.Hook where
  α := AlG
  obs := fun s => obsG s.heap.get?
  val := fun _ => valG
  says := fun _ h => ∃ K : PySem.W.Frag, K.In h ∧ Says h K
  of := fun _ _ e => ⟨_, He.frG_in, says_of e⟩
  keeps := fun _ _ _ ⟨K, hK, c⟩ k => ⟨K, PySem.W.Frag.In.keeps hK k, ⟨c.d, c.ex, c.g, c.gk, c.hd, c.out, fun p hp => k _ _ (c.empty p hp)⟩⟩
theorem obsG_eq {g : Addr → Option Obj} {s : Shared} (h : ∀ a, g a = s.heap.get? a) : obsG g = hookG.obs s := by
  have e : g = s.heap.get? := funext h
  rw [e] <;> rfl
end Gz
set_option maxHeartbeats 0
/-! The head's run. -/
namespace Gz
open PySem PySem.W PySem.Calls PyProof.Rows
abbrev R : OpenRow := OpenLaw.row PySem.Challenge.rw_glimpserounds_k80_whole_lines_that_ask
abbrev qv : Program := view R.prog [133]
def nm0 : List PySem.Str := [("_wall" : PySem.Str), ("WrongValue" : PySem.Str), ("NotASign" : PySem.Str), ("NotARecord" : PySem.Str), ("InvalidText" : PySem.Str), ("InvalidPace" : PySem.Str), ("InvalidWidth" : PySem.Str), ("InvalidLength" : PySem.Str), ("InvalidTime" : PySem.Str), ("InvalidWindow" : PySem.Str), ("InvalidName" : PySem.Str), ("InvalidClaim" : PySem.Str), ("InvalidLine" : PySem.Str), ("InvalidDead" : PySem.Str), ("InvalidPaces" : PySem.Str), ("InvalidGroups" : PySem.Str), ("WrongName" : PySem.Str), ("UnknownName" : PySem.Str), ("InUse" : PySem.Str), ("NoAnswer" : PySem.Str), ("TooMany" : PySem.Str), ("Broken" : PySem.Str), ("NothingToUndo" : PySem.Str), ("MOST_WIDTH" : PySem.Str), ("MOST_LENGTH" : PySem.Str), ("MOST_PACE" : PySem.Str), ("MOST_GLANCES" : PySem.Str), ("GREATEST" : PySem.Str), ("LETTERS" : PySem.Str), ("CAPITALS" : PySem.Str), ("UNREAD" : PySem.Str), ("is_integer" : PySem.Str), ("is_between" : PySem.Str), ("is_time" : PySem.Str), ("is_pace" : PySem.Str), ("is_text" : PySem.Str)]
def nm1 : List PySem.Str := [("is_group" : PySem.Str), ("meet" : PySem.Str), ("group_with" : PySem.Str), ("agreeing" : PySem.Str), ("is_mark" : PySem.Str), ("is_reading" : PySem.Str), ("is_any_reading" : PySem.Str), ("check_time" : PySem.Str), ("check_width" : PySem.Str), ("Sign" : PySem.Str), ("number_at" : PySem.Str), ("check_sign" : PySem.Str), ("ITEMS" : PySem.Str), ("bad_ascending" : PySem.Str), ("bad_group" : PySem.Str), ("check_dead" : PySem.Str), ("check_lengths" : PySem.Str), ("check_paces" : PySem.Str), ("check_groups" : PySem.Str), ("Known" : PySem.Str), ("with_glances" : PySem.Str), ("is_glance" : PySem.Str), ("are_parts" : PySem.Str), ("is_told" : PySem.Str), ("Record" : PySem.Str), ("readings_in" : PySem.Str), ("check_record" : PySem.Str), ("check_reading" : PySem.Str), ("left_by" : PySem.Str), ("let_by" : PySem.Str), ("all_left" : PySem.Str), ("pairs" : PySem.Str), ("texts_left" : PySem.Str), ("number_of" : PySem.Str), ("least_text" : PySem.Str), ("shortest" : PySem.Str)]
def nm2 : List PySem.Str := [("left_at" : PySem.Str), ("all_in" : PySem.Str), ("sure" : PySem.Str), ("can" : PySem.Str), ("must" : PySem.Str), ("check_both" : PySem.Str), ("is_held" : PySem.Str), ("implies" : PySem.Str), ("apart" : PySem.Str), ("SMALL" : PySem.Str), ("MOST_SIGNS" : PySem.Str), ("NAMES_OF" : PySem.Str), ("SIZES" : PySem.Str), ("is_name" : PySem.Str), ("is_claim" : PySem.Str), ("names_in" : PySem.Str), ("holds_read" : PySem.Str), ("holds" : PySem.Str), ("Book" : PySem.Str), ("DIGITS" : PySem.Str), ("MOST_DIGITS" : PySem.Str), ("READ" : PySem.Str), ("PAIRS" : PySem.Str), ("integer_in" : PySem.Str), ("record_in" : PySem.Str), ("text_of_pairs" : PySem.Str), ("Console" : PySem.Str), ("_law_cell" : PySem.Str), ("_law_deal" : PySem.Str), ("_law_pick" : PySem.Str), ("_law_one_of" : PySem.Str), ("_law_moment" : PySem.Str), ("_law_few" : PySem.Str), ("_law_drawn" : PySem.Str), ("_law_grouped" : PySem.Str), ("_law_window" : PySem.Str)]
def nm3 : List PySem.Str := [("_law_letters_of" : PySem.Str), ("_law_reading" : PySem.Str), ("_law_any_note" : PySem.Str), ("_law_lets" : PySem.Str), ("_law_common" : PySem.Str), ("_law_left_for" : PySem.Str), ("_law_pairs" : PySem.Str), ("_law_sign" : PySem.Str), ("_law_fitting" : PySem.Str), ("_law_look" : PySem.Str), ("_law_sure" : PySem.Str), ("_law_many" : PySem.Str), ("_law_least" : PySem.Str), ("_law_answers" : PySem.Str), ("_law_case" : PySem.Str)]
def names : List PySem.Str := nm0 ++ nm1 ++ nm2 ++ nm3
abbrev Al1 : Type := Bool × (Bool × (List He.FnW × Bool))
def obs1 (g : Addr → Option Obj) (K : PySem.W.Frag) : Al1 := (fa.all fun f => f.ok K, (exB K && tabB g K, (gfs.map (fun q => fnAt K (q.1 K)), gfs.all fun q => okAt K (q.1 K) q.2.2.2)))
def val1 : Al1 := (true, (true, (gfs.map (fun q => some (q.2.2.1, q.2.2.2, L2.defArgs q.2.1, .stmts (L2.defBody q.2.1), L2.defScope q.2.1, mainGlobals, [], builtinsNs)), true)))
def ob1 (s : PySem.W.SharedT) : Al1 := obs1 (HandSHeadRun.getT s) (He.frG (HandSHeadRun.getT s) (asS (HandSHeadRun.getT s)))
abbrev Al2 : Type := Bool × List He.FnW
def obs2 (K : PySem.W.Frag) : Al2 := (fn.all fun d => d.ok K, fn.map fun d => He.fnW K d.at_)
def val2 : Al2 := (true, fn.map He.DefD.val)
def ob2 (s : PySem.W.SharedT) : Al2 := obs2 (He.frG (HandSHeadRun.getT s) (asS (HandSHeadRun.getT s)))
def ob (s : PySem.W.SharedT) : AlG := obsG (HandSHeadRun.getT s)
theorem ob_eq (s : PySem.W.SharedT) : ob s = hookG.obs s.abs := obsG_eq (HandSHeadRun.getT_eq s)
theorem obs_join {g : Addr → Option Obj} {K : PySem.W.Frag} (h1 : obs1 g K = val1) (h2 : obs2 K = val2) : obsK g K = valG := by
  have a1 : (fa.all fun f => f.ok K) = true := congrArg (fun z : Al1 => z.1) h1
  have a2 := congrArg (fun z : Al1 => z.2) h1
  have b1 : (fn.all fun d => d.ok K) = true := congrArg (fun z : Al2 => z.1) h2
  have b2 := congrArg (fun z : Al2 => z.2) h2
  refine Prod.ext (Prod.ext ?_ b2) a2
  show ((fa.all fun f => f.ok K) && fn.all fun d => d.ok K) = true
  rw [a1, b1] <;> rfl
theorem join {α β γ : Type} {x : Option α} {A : α → β} {B : α → γ} {C : α → Al1} {D : α → Al2} {O : α → AlG} {a : β} {b : γ} (hj : ∀ s, C s = val1 → D s = val2 → O s = valG) (h1 : x.map (fun s => (A s, B s, C s)) = some (a, b, val1)) (h2 : x.map D = some val2) : x.map (fun s => (A s, B s, O s)) = some (a, b, valG) := by
  cases x with
  | none => cases h1
  | some s =>
    have e1 := Option.some.inj h1
    have e2 : D s = val2 := Option.some.inj h2
    have e3 : A s = a := congrArg (fun z => z.1) e1
    have e4 : B s = b := congrArg (fun z => z.2.1) e1
    have e5 : C s = val1 := congrArg (fun z => z.2.2) e1
    exact congrArg some (Prod.ext e3 (Prod.ext e4 (hj s e5 e2)))
def Run1 (w : World) : Prop := ∀ os : OsState, (HandSHeadRun.endF (HandSHeadRun.stepQ (HandSHeadRun.denQ HandSHeadRun.tabQ) R.prog w) 20000 R.prog w os).map (fun s => (HandSHeadRun.looksF R.prog (boot_heap w.params) s.abs, HandSHeadRun.seenQ qv names (importedModules R.prog.main.body) (fun s => xlAt qv [] s && recOk R.toRowW.records s) s.abs, ob1 s)) = some (true, openGood qv names, val1)
def Run2 (w : World) : Prop := ∀ os : OsState, (HandSHeadRun.endF (HandSHeadRun.stepQ (HandSHeadRun.denQ HandSHeadRun.tabQ) R.prog w) 20000 R.prog w os).map ob2 = some val2
end Gz
set_option maxHeartbeats 0
namespace Gz
open PySem PySem.W PySem.Calls PyProof.Rows
def RnA (w : World) : Prop := ∀ os : OsState, (HandSHeadRun.endF (HandSHeadRun.stepQ (HandSHeadRun.denQ HandSHeadRun.tabQ) R.prog w) 20000 R.prog w os).map (fun s => (HandSHeadRun.looksF R.prog (boot_heap w.params) s.abs, HandSHeadRun.seenQ qv names (importedModules R.prog.main.body) (fun s => xlAt qv [] s && recOk R.toRowW.records s) s.abs)) = some ((true, openGood qv names))
def RnC (w : World) : Prop := ∀ os : OsState, (HandSHeadRun.endF (HandSHeadRun.stepQ (HandSHeadRun.denQ HandSHeadRun.tabQ) R.prog w) 20000 R.prog w os).map (fun s => ob1 s) = some (val1)
def RnD (w : World) : Prop := ∀ os : OsState, (HandSHeadRun.endF (HandSHeadRun.stepQ (HandSHeadRun.denQ HandSHeadRun.tabQ) R.prog w) 20000 R.prog w os).map (fun s => ob2 s) = some (val2)
theorem runAF (w : World) : RnA (w.withFollow "special-get-raises" false) := by
  intro os
  kernel_rfl
theorem runCF (w : World) : RnC (w.withFollow "special-get-raises" false) := by
  intro os
  kernel_rfl
theorem runDF (w : World) : RnD (w.withFollow "special-get-raises" false) := by
  intro os
  kernel_rfl
theorem runAT (w : World) : RnA (w.withFollow "special-get-raises" true) := by
  intro os
  kernel_rfl
theorem runCT (w : World) : RnC (w.withFollow "special-get-raises" true) := by
  intro os
  kernel_rfl
theorem runDT (w : World) : RnD (w.withFollow "special-get-raises" true) := by
  intro os
  kernel_rfl
theorem join3 {α β γ : Type} {x : Option α} {A : α → β} {B : α → γ} {C : α → Al1} {D : α → Al2} {O : α → AlG} {a : β} {b : γ} (hj : ∀ s, C s = val1 → D s = val2 → O s = valG) (h1 : x.map (fun s => (A s, B s)) = some (a, b)) (h3 : x.map C = some val1) (h4 : x.map D = some val2) : x.map (fun s => (A s, B s, O s)) = some (a, b, valG) := by
  cases x with
  | none => cases h1
  | some s =>
    have e1 : (A s, B s) = (a, b) := Option.some.inj h1
    have ea : A s = a := congrArg (fun z => z.1) e1
    have eb : B s = b := congrArg (fun z => z.2) e1
    exact congrArg some (Prod.ext ea (Prod.ext eb (hj s (Option.some.inj h3) (Option.some.inj h4))))
theorem run (w : World) : HandSHeadRun.RunEq R qv hookG ob 20000 names w :=
  byRow2 "special-get-raises" (P := fun w => HandSHeadRun.RunEq R qv hookG ob 20000 names w) (fun w os => join3 (fun _ h1 h2 => obs_join h1 h2) (runAF w os) (runCF w os) (runDF w os)) (fun w os => join3 (fun _ h1 h2 => obs_join h1 h2) (runAT w os) (runCT w os) (runDT w os)) w
end Gz
set_option maxHeartbeats 2000000
/-! What is known of the text, by names. -/
namespace Gz
open PySem PySem.Spec PyProof.Rows L2
abbrev Cd (K : PySem.W.Frag) : Addr × Addr := He.cT K ("check_dead", none)
structure Tx (K : PySem.W.Frag) (mg : Str → Option Value) (base : Heap) : Prop where
  kin : K.In base
  ns : base.Ns mainGlobals mg
  d : He.SaysD fa fn K
  ex : exB K = true
  g : gfs.map (fun q => fnAt K (q.1 K)) = gfs.map fun q => some (q.2.2.1, q.2.2.2, defArgs q.2.1, .stmts (defBody q.2.1), defScope q.2.1, mainGlobals, [], builtinsNs)
  gk : (gfs.all fun q => okAt K (q.1 K) q.2.2.2) = true
  tab : LamX.TabB base mg (Cd K).1 (Cd K).2
section
variable {K : PySem.W.Frag} {mg : Str → Option Value} {base : Heap}
theorem gcI {x : Str} {i : Int} (h : ∃ t, mg x = some (.int i t)) : ∃ u, mg x = some u ∧ RelV (.int i) u := by
  obtain ⟨t, h⟩ := h
  exact ⟨_, h, t, rfl⟩
theorem gcS {x z : Str} (h : ∃ t, mg x = some (.str z t)) : ∃ u, mg x = some u ∧ RelV (.str z) u := by
  obtain ⟨t, h⟩ := h
  exact ⟨_, h, t, rfl⟩
theorem Tx.g_is_integer (T : Tx K mg base) : mg "is_integer" = some (.ref (He.ga K "is_integer")) := He.glo_ok T.kin T.ns (T.d.fact 0 (f := .glo "is_integer") rfl)
theorem Tx.g_is_between (T : Tx K mg base) : mg "is_between" = some (.ref (He.ga K "is_between")) := He.glo_ok T.kin T.ns (T.d.fact 1 (f := .glo "is_between") rfl)
theorem Tx.g_is_time (T : Tx K mg base) : mg "is_time" = some (.ref (He.ga K "is_time")) := He.glo_ok T.kin T.ns (T.d.fact 2 (f := .glo "is_time") rfl)
theorem Tx.g_is_pace (T : Tx K mg base) : mg "is_pace" = some (.ref (He.ga K "is_pace")) := He.glo_ok T.kin T.ns (T.d.fact 3 (f := .glo "is_pace") rfl)
theorem Tx.g_is_text (T : Tx K mg base) : mg "is_text" = some (.ref (He.ga K "is_text")) := He.glo_ok T.kin T.ns (T.d.fact 4 (f := .glo "is_text") rfl)
theorem Tx.g_meet (T : Tx K mg base) : mg "meet" = some (.ref (He.ga K "meet")) := He.glo_ok T.kin T.ns (T.d.fact 5 (f := .glo "meet") rfl)
theorem Tx.g_agreeing (T : Tx K mg base) : mg "agreeing" = some (.ref (He.ga K "agreeing")) := He.glo_ok T.kin T.ns (T.d.fact 6 (f := .glo "agreeing") rfl)
theorem Tx.g_is_mark (T : Tx K mg base) : mg "is_mark" = some (.ref (He.ga K "is_mark")) := He.glo_ok T.kin T.ns (T.d.fact 7 (f := .glo "is_mark") rfl)
theorem Tx.g_is_reading (T : Tx K mg base) : mg "is_reading" = some (.ref (He.ga K "is_reading")) := He.glo_ok T.kin T.ns (T.d.fact 8 (f := .glo "is_reading") rfl)
theorem Tx.g_is_any_reading (T : Tx K mg base) : mg "is_any_reading" = some (.ref (He.ga K "is_any_reading")) := He.glo_ok T.kin T.ns (T.d.fact 9 (f := .glo "is_any_reading") rfl)
theorem Tx.g_check_time (T : Tx K mg base) : mg "check_time" = some (.ref (He.ga K "check_time")) := He.glo_ok T.kin T.ns (T.d.fact 10 (f := .glo "check_time") rfl)
theorem Tx.g_check_width (T : Tx K mg base) : mg "check_width" = some (.ref (He.ga K "check_width")) := He.glo_ok T.kin T.ns (T.d.fact 11 (f := .glo "check_width") rfl)
theorem Tx.g_number_at (T : Tx K mg base) : mg "number_at" = some (.ref (He.ga K "number_at")) := He.glo_ok T.kin T.ns (T.d.fact 12 (f := .glo "number_at") rfl)
theorem Tx.g_bad_ascending (T : Tx K mg base) : mg "bad_ascending" = some (.ref (He.ga K "bad_ascending")) := He.glo_ok T.kin T.ns (T.d.fact 13 (f := .glo "bad_ascending") rfl)
theorem Tx.g_bad_group (T : Tx K mg base) : mg "bad_group" = some (.ref (He.ga K "bad_group")) := He.glo_ok T.kin T.ns (T.d.fact 14 (f := .glo "bad_group") rfl)
theorem Tx.g_check_dead (T : Tx K mg base) : mg "check_dead" = some (.ref (He.ga K "check_dead")) := He.glo_ok T.kin T.ns (T.d.fact 15 (f := .glo "check_dead") rfl)
theorem Tx.g_check_lengths (T : Tx K mg base) : mg "check_lengths" = some (.ref (He.ga K "check_lengths")) := He.glo_ok T.kin T.ns (T.d.fact 16 (f := .glo "check_lengths") rfl)
theorem Tx.g_check_paces (T : Tx K mg base) : mg "check_paces" = some (.ref (He.ga K "check_paces")) := He.glo_ok T.kin T.ns (T.d.fact 17 (f := .glo "check_paces") rfl)
theorem Tx.g_check_groups (T : Tx K mg base) : mg "check_groups" = some (.ref (He.ga K "check_groups")) := He.glo_ok T.kin T.ns (T.d.fact 18 (f := .glo "check_groups") rfl)
theorem Tx.g_with_glances (T : Tx K mg base) : mg "with_glances" = some (.ref (He.ga K "with_glances")) := He.glo_ok T.kin T.ns (T.d.fact 19 (f := .glo "with_glances") rfl)
theorem Tx.g_readings_in (T : Tx K mg base) : mg "readings_in" = some (.ref (He.ga K "readings_in")) := He.glo_ok T.kin T.ns (T.d.fact 20 (f := .glo "readings_in") rfl)
theorem Tx.g_check_record (T : Tx K mg base) : mg "check_record" = some (.ref (He.ga K "check_record")) := He.glo_ok T.kin T.ns (T.d.fact 21 (f := .glo "check_record") rfl)
theorem Tx.g_check_reading (T : Tx K mg base) : mg "check_reading" = some (.ref (He.ga K "check_reading")) := He.glo_ok T.kin T.ns (T.d.fact 22 (f := .glo "check_reading") rfl)
theorem Tx.g_left_by (T : Tx K mg base) : mg "left_by" = some (.ref (He.ga K "left_by")) := He.glo_ok T.kin T.ns (T.d.fact 23 (f := .glo "left_by") rfl)
theorem Tx.g_let_by (T : Tx K mg base) : mg "let_by" = some (.ref (He.ga K "let_by")) := He.glo_ok T.kin T.ns (T.d.fact 24 (f := .glo "let_by") rfl)
theorem Tx.g_all_left (T : Tx K mg base) : mg "all_left" = some (.ref (He.ga K "all_left")) := He.glo_ok T.kin T.ns (T.d.fact 25 (f := .glo "all_left") rfl)
theorem Tx.g_pairs (T : Tx K mg base) : mg "pairs" = some (.ref (He.ga K "pairs")) := He.glo_ok T.kin T.ns (T.d.fact 26 (f := .glo "pairs") rfl)
theorem Tx.g_texts_left (T : Tx K mg base) : mg "texts_left" = some (.ref (He.ga K "texts_left")) := He.glo_ok T.kin T.ns (T.d.fact 27 (f := .glo "texts_left") rfl)
theorem Tx.g_number_of (T : Tx K mg base) : mg "number_of" = some (.ref (He.ga K "number_of")) := He.glo_ok T.kin T.ns (T.d.fact 28 (f := .glo "number_of") rfl)
theorem Tx.g_least_text (T : Tx K mg base) : mg "least_text" = some (.ref (He.ga K "least_text")) := He.glo_ok T.kin T.ns (T.d.fact 29 (f := .glo "least_text") rfl)
theorem Tx.g_shortest (T : Tx K mg base) : mg "shortest" = some (.ref (He.ga K "shortest")) := He.glo_ok T.kin T.ns (T.d.fact 30 (f := .glo "shortest") rfl)
theorem Tx.g_left_at (T : Tx K mg base) : mg "left_at" = some (.ref (He.ga K "left_at")) := He.glo_ok T.kin T.ns (T.d.fact 31 (f := .glo "left_at") rfl)
theorem Tx.g_all_in (T : Tx K mg base) : mg "all_in" = some (.ref (He.ga K "all_in")) := He.glo_ok T.kin T.ns (T.d.fact 32 (f := .glo "all_in") rfl)
theorem Tx.g_sure (T : Tx K mg base) : mg "sure" = some (.ref (He.ga K "sure")) := He.glo_ok T.kin T.ns (T.d.fact 33 (f := .glo "sure") rfl)
theorem Tx.g_is_name (T : Tx K mg base) : mg "is_name" = some (.ref (He.ga K "is_name")) := He.glo_ok T.kin T.ns (T.d.fact 34 (f := .glo "is_name") rfl)
theorem Tx.g_integer_in (T : Tx K mg base) : mg "integer_in" = some (.ref (He.ga K "integer_in")) := He.glo_ok T.kin T.ns (T.d.fact 35 (f := .glo "integer_in") rfl)
theorem Tx.g_record_in (T : Tx K mg base) : mg "record_in" = some (.ref (He.ga K "record_in")) := He.glo_ok T.kin T.ns (T.d.fact 36 (f := .glo "record_in") rfl)
theorem Tx.g_text_of_pairs (T : Tx K mg base) : mg "text_of_pairs" = some (.ref (He.ga K "text_of_pairs")) := He.glo_ok T.kin T.ns (T.d.fact 37 (f := .glo "text_of_pairs") rfl)
theorem Tx.g__law_cell (T : Tx K mg base) : mg "_law_cell" = some (.ref (He.ga K "_law_cell")) := He.glo_ok T.kin T.ns (T.d.fact 38 (f := .glo "_law_cell") rfl)
theorem Tx.g__law_deal (T : Tx K mg base) : mg "_law_deal" = some (.ref (He.ga K "_law_deal")) := He.glo_ok T.kin T.ns (T.d.fact 39 (f := .glo "_law_deal") rfl)
theorem Tx.g__law_pick (T : Tx K mg base) : mg "_law_pick" = some (.ref (He.ga K "_law_pick")) := He.glo_ok T.kin T.ns (T.d.fact 40 (f := .glo "_law_pick") rfl)
theorem Tx.g__law_one_of (T : Tx K mg base) : mg "_law_one_of" = some (.ref (He.ga K "_law_one_of")) := He.glo_ok T.kin T.ns (T.d.fact 41 (f := .glo "_law_one_of") rfl)
theorem Tx.g__law_moment (T : Tx K mg base) : mg "_law_moment" = some (.ref (He.ga K "_law_moment")) := He.glo_ok T.kin T.ns (T.d.fact 42 (f := .glo "_law_moment") rfl)
theorem Tx.g__law_few (T : Tx K mg base) : mg "_law_few" = some (.ref (He.ga K "_law_few")) := He.glo_ok T.kin T.ns (T.d.fact 43 (f := .glo "_law_few") rfl)
theorem Tx.g__law_drawn (T : Tx K mg base) : mg "_law_drawn" = some (.ref (He.ga K "_law_drawn")) := He.glo_ok T.kin T.ns (T.d.fact 44 (f := .glo "_law_drawn") rfl)
theorem Tx.g__law_grouped (T : Tx K mg base) : mg "_law_grouped" = some (.ref (He.ga K "_law_grouped")) := He.glo_ok T.kin T.ns (T.d.fact 45 (f := .glo "_law_grouped") rfl)
theorem Tx.g__law_window (T : Tx K mg base) : mg "_law_window" = some (.ref (He.ga K "_law_window")) := He.glo_ok T.kin T.ns (T.d.fact 46 (f := .glo "_law_window") rfl)
theorem Tx.g__law_letters_of (T : Tx K mg base) : mg "_law_letters_of" = some (.ref (He.ga K "_law_letters_of")) := He.glo_ok T.kin T.ns (T.d.fact 47 (f := .glo "_law_letters_of") rfl)
theorem Tx.g__law_reading (T : Tx K mg base) : mg "_law_reading" = some (.ref (He.ga K "_law_reading")) := He.glo_ok T.kin T.ns (T.d.fact 48 (f := .glo "_law_reading") rfl)
theorem Tx.g__law_any_note (T : Tx K mg base) : mg "_law_any_note" = some (.ref (He.ga K "_law_any_note")) := He.glo_ok T.kin T.ns (T.d.fact 49 (f := .glo "_law_any_note") rfl)
theorem Tx.g__law_lets (T : Tx K mg base) : mg "_law_lets" = some (.ref (He.ga K "_law_lets")) := He.glo_ok T.kin T.ns (T.d.fact 50 (f := .glo "_law_lets") rfl)
theorem Tx.g__law_common (T : Tx K mg base) : mg "_law_common" = some (.ref (He.ga K "_law_common")) := He.glo_ok T.kin T.ns (T.d.fact 51 (f := .glo "_law_common") rfl)
theorem Tx.g__law_left_for (T : Tx K mg base) : mg "_law_left_for" = some (.ref (He.ga K "_law_left_for")) := He.glo_ok T.kin T.ns (T.d.fact 52 (f := .glo "_law_left_for") rfl)
theorem Tx.g__law_pairs (T : Tx K mg base) : mg "_law_pairs" = some (.ref (He.ga K "_law_pairs")) := He.glo_ok T.kin T.ns (T.d.fact 53 (f := .glo "_law_pairs") rfl)
theorem Tx.g__law_sign (T : Tx K mg base) : mg "_law_sign" = some (.ref (He.ga K "_law_sign")) := He.glo_ok T.kin T.ns (T.d.fact 54 (f := .glo "_law_sign") rfl)
theorem Tx.g__law_fitting (T : Tx K mg base) : mg "_law_fitting" = some (.ref (He.ga K "_law_fitting")) := He.glo_ok T.kin T.ns (T.d.fact 55 (f := .glo "_law_fitting") rfl)
theorem Tx.g__law_look (T : Tx K mg base) : mg "_law_look" = some (.ref (He.ga K "_law_look")) := He.glo_ok T.kin T.ns (T.d.fact 56 (f := .glo "_law_look") rfl)
theorem Tx.g__law_sure (T : Tx K mg base) : mg "_law_sure" = some (.ref (He.ga K "_law_sure")) := He.glo_ok T.kin T.ns (T.d.fact 57 (f := .glo "_law_sure") rfl)
theorem Tx.g__law_many (T : Tx K mg base) : mg "_law_many" = some (.ref (He.ga K "_law_many")) := He.glo_ok T.kin T.ns (T.d.fact 58 (f := .glo "_law_many") rfl)
theorem Tx.g__law_least (T : Tx K mg base) : mg "_law_least" = some (.ref (He.ga K "_law_least")) := He.glo_ok T.kin T.ns (T.d.fact 59 (f := .glo "_law_least") rfl)
theorem Tx.g__law_answers (T : Tx K mg base) : mg "_law_answers" = some (.ref (He.ga K "_law_answers")) := He.glo_ok T.kin T.ns (T.d.fact 60 (f := .glo "_law_answers") rfl)
theorem Tx.g__law_case (T : Tx K mg base) : mg "_law_case" = some (.ref (He.ga K "_law_case")) := He.glo_ok T.kin T.ns (T.d.fact 61 (f := .glo "_law_case") rfl)
theorem Tx.g_law (T : Tx K mg base) : mg "law" = some (.ref (He.ga K "law")) := He.glo_ok T.kin T.ns (T.d.fact 62 (f := .glo "law") rfl)
theorem Tx.g_Sign (T : Tx K mg base) : mg "Sign" = some (.ref (He.ga K "Sign")) := He.glo_ok T.kin T.ns (T.d.fact 63 (f := .glo "Sign") rfl)
theorem Tx.g_Known (T : Tx K mg base) : mg "Known" = some (.ref (He.ga K "Known")) := He.glo_ok T.kin T.ns (T.d.fact 64 (f := .glo "Known") rfl)
theorem Tx.g_Record (T : Tx K mg base) : mg "Record" = some (.ref (He.ga K "Record")) := He.glo_ok T.kin T.ns (T.d.fact 65 (f := .glo "Record") rfl)
theorem Tx.g_Book (T : Tx K mg base) : mg "Book" = some (.ref (He.ga K "Book")) := He.glo_ok T.kin T.ns (T.d.fact 66 (f := .glo "Book") rfl)
theorem Tx.g_Console (T : Tx K mg base) : mg "Console" = some (.ref (He.ga K "Console")) := He.glo_ok T.kin T.ns (T.d.fact 67 (f := .glo "Console") rfl)
theorem Tx.f_len (T : Tx K mg base) : mg "len" = none := He.free_ok T.kin T.ns (T.d.fact 68 (f := .free "len") rfl)
theorem Tx.f_isinstance (T : Tx K mg base) : mg "isinstance" = none := He.free_ok T.kin T.ns (T.d.fact 69 (f := .free "isinstance") rfl)
theorem Tx.f_int (T : Tx K mg base) : mg "int" = none := He.free_ok T.kin T.ns (T.d.fact 70 (f := .free "int") rfl)
theorem Tx.f_str (T : Tx K mg base) : mg "str" = none := He.free_ok T.kin T.ns (T.d.fact 71 (f := .free "str") rfl)
theorem Tx.f_range (T : Tx K mg base) : mg "range" = none := He.free_ok T.kin T.ns (T.d.fact 72 (f := .free "range") rfl)
theorem Tx.f_all (T : Tx K mg base) : mg "all" = none := He.free_ok T.kin T.ns (T.d.fact 73 (f := .free "all") rfl)
theorem Tx.f_any (T : Tx K mg base) : mg "any" = none := He.free_ok T.kin T.ns (T.d.fact 74 (f := .free "any") rfl)
theorem Tx.f_tuple (T : Tx K mg base) : mg "tuple" = none := He.free_ok T.kin T.ns (T.d.fact 75 (f := .free "tuple") rfl)
theorem Tx.f_list (T : Tx K mg base) : mg "list" = none := He.free_ok T.kin T.ns (T.d.fact 76 (f := .free "list") rfl)
theorem Tx.f_set (T : Tx K mg base) : mg "set" = none := He.free_ok T.kin T.ns (T.d.fact 77 (f := .free "set") rfl)
theorem Tx.f_dict (T : Tx K mg base) : mg "dict" = none := He.free_ok T.kin T.ns (T.d.fact 78 (f := .free "dict") rfl)
theorem Tx.f_sorted (T : Tx K mg base) : mg "sorted" = none := He.free_ok T.kin T.ns (T.d.fact 79 (f := .free "sorted") rfl)
theorem Tx.f_min (T : Tx K mg base) : mg "min" = none := He.free_ok T.kin T.ns (T.d.fact 80 (f := .free "min") rfl)
theorem Tx.f_max (T : Tx K mg base) : mg "max" = none := He.free_ok T.kin T.ns (T.d.fact 81 (f := .free "max") rfl)
theorem Tx.f_abs (T : Tx K mg base) : mg "abs" = none := He.free_ok T.kin T.ns (T.d.fact 82 (f := .free "abs") rfl)
theorem Tx.f_repr (T : Tx K mg base) : mg "repr" = none := He.free_ok T.kin T.ns (T.d.fact 83 (f := .free "repr") rfl)
theorem Tx.f_enumerate (T : Tx K mg base) : mg "enumerate" = none := He.free_ok T.kin T.ns (T.d.fact 84 (f := .free "enumerate") rfl)
theorem Tx.f_bool (T : Tx K mg base) : mg "bool" = none := He.free_ok T.kin T.ns (T.d.fact 85 (f := .free "bool") rfl)
theorem Tx.i_MOST_WIDTH (T : Tx K mg base) : ∃ u, mg "MOST_WIDTH" = some u ∧ RelV (.int 8) u := gcI (He.int_ok T.kin T.ns (T.d.fact 86 (f := .int "MOST_WIDTH" 8) rfl))
theorem Tx.i_MOST_LENGTH (T : Tx K mg base) : ∃ u, mg "MOST_LENGTH" = some u ∧ RelV (.int 40) u := gcI (He.int_ok T.kin T.ns (T.d.fact 87 (f := .int "MOST_LENGTH" 40) rfl))
theorem Tx.i_MOST_PACE (T : Tx K mg base) : ∃ u, mg "MOST_PACE" = some u ∧ RelV (.int 9) u := gcI (He.int_ok T.kin T.ns (T.d.fact 88 (f := .int "MOST_PACE" 9) rfl))
theorem Tx.i_MOST_GLANCES (T : Tx K mg base) : ∃ u, mg "MOST_GLANCES" = some u ∧ RelV (.int 12) u := gcI (He.int_ok T.kin T.ns (T.d.fact 89 (f := .int "MOST_GLANCES" 12) rfl))
theorem Tx.i_GREATEST (T : Tx K mg base) : ∃ u, mg "GREATEST" = some u ∧ RelV (.int 1000000000000000000000000000000) u := gcI (He.int_ok T.kin T.ns (T.d.fact 90 (f := .int "GREATEST" 1000000000000000000000000000000) rfl))
theorem Tx.i_MOST_SIGNS (T : Tx K mg base) : ∃ u, mg "MOST_SIGNS" = some u ∧ RelV (.int 8) u := gcI (He.int_ok T.kin T.ns (T.d.fact 91 (f := .int "MOST_SIGNS" 8) rfl))
theorem Tx.i_MOST_DIGITS (T : Tx K mg base) : ∃ u, mg "MOST_DIGITS" = some u ∧ RelV (.int 31) u := gcI (He.int_ok T.kin T.ns (T.d.fact 92 (f := .int "MOST_DIGITS" 31) rfl))
theorem Tx.s_LETTERS (T : Tx K mg base) : ∃ u, mg "LETTERS" = some u ∧ RelV (.str "-abcdefghijklmnopqrstuvwxyz") u := gcS (He.str_ok T.kin T.ns (T.d.fact 93 (f := .str "LETTERS" "-abcdefghijklmnopqrstuvwxyz") rfl))
theorem Tx.s_CAPITALS (T : Tx K mg base) : ∃ u, mg "CAPITALS" = some u ∧ RelV (.str "ABCDEFGHIJKLMNOPQRSTUVWXYZ") u := gcS (He.str_ok T.kin T.ns (T.d.fact 94 (f := .str "CAPITALS" "ABCDEFGHIJKLMNOPQRSTUVWXYZ") rfl))
theorem Tx.s_UNREAD (T : Tx K mg base) : ∃ u, mg "UNREAD" = some u ∧ RelV (.str "?") u := gcS (He.str_ok T.kin T.ns (T.d.fact 95 (f := .str "UNREAD" "?") rfl))
theorem Tx.s_SMALL (T : Tx K mg base) : ∃ u, mg "SMALL" = some u ∧ RelV (.str "abcdefghijklmnopqrstuvwxyz") u := gcS (He.str_ok T.kin T.ns (T.d.fact 96 (f := .str "SMALL" "abcdefghijklmnopqrstuvwxyz") rfl))
theorem Tx.s_DIGITS (T : Tx K mg base) : ∃ u, mg "DIGITS" = some u ∧ RelV (.str "0123456789") u := gcS (He.str_ok T.kin T.ns (T.d.fact 97 (f := .str "DIGITS" "0123456789") rfl))
theorem Tx.c_Sign (T : Tx K mg base) : Cls K (He.ga K "Sign") := He.cls_ok (T.d.fact 98 (f := .cls "Sign") rfl)
theorem Tx.mk_Sign (T : Tx K mg base) : Mk K (He.ga K "Sign") (He.ma K (He.ga K "Sign") "__init__") := He.mkr_ok (T.d.fact 99 (f := .mkr "Sign") rfl)
theorem Tx.na_Sign_text (T : Tx K mg base) : NoAttr K (He.ga K "Sign") "text" := He.noat_ok (T.d.fact 100 (f := .noat "Sign" "text") rfl)
theorem Tx.na_Sign_pace (T : Tx K mg base) : NoAttr K (He.ga K "Sign") "pace" := He.noat_ok (T.d.fact 101 (f := .noat "Sign" "pace") rfl)
theorem Tx.m_Sign_init (T : Tx K mg base) : Meth K (He.ga K "Sign") "__init__" (He.ma K (He.ga K "Sign") "__init__") := He.meth_ok (T.d.fact 102 (f := .meth "Sign" "__init__") rfl)
theorem Tx.m_Sign_str (T : Tx K mg base) : Meth K (He.ga K "Sign") "__str__" (He.ma K (He.ga K "Sign") "__str__") := He.meth_ok (T.d.fact 103 (f := .meth "Sign" "__str__") rfl)
theorem Tx.c_Known (T : Tx K mg base) : Cls K (He.ga K "Known") := He.cls_ok (T.d.fact 104 (f := .cls "Known") rfl)
theorem Tx.mk_Known (T : Tx K mg base) : Mk K (He.ga K "Known") (He.ma K (He.ga K "Known") "__init__") := He.mkr_ok (T.d.fact 105 (f := .mkr "Known") rfl)
theorem Tx.na_Known_parts (T : Tx K mg base) : NoAttr K (He.ga K "Known") "parts" := He.noat_ok (T.d.fact 106 (f := .noat "Known" "parts") rfl)
theorem Tx.m_Known_init (T : Tx K mg base) : Meth K (He.ga K "Known") "__init__" (He.ma K (He.ga K "Known") "__init__") := He.meth_ok (T.d.fact 107 (f := .meth "Known" "__init__") rfl)
theorem Tx.c_Record (T : Tx K mg base) : Cls K (He.ga K "Record") := He.cls_ok (T.d.fact 108 (f := .cls "Record") rfl)
theorem Tx.mk_Record (T : Tx K mg base) : Mk K (He.ga K "Record") (He.ma K (He.ga K "Record") "__init__") := He.mkr_ok (T.d.fact 109 (f := .mkr "Record") rfl)
theorem Tx.na_Record_told (T : Tx K mg base) : NoAttr K (He.ga K "Record") "told" := He.noat_ok (T.d.fact 110 (f := .noat "Record" "told") rfl)
theorem Tx.na_Record_width (T : Tx K mg base) : NoAttr K (He.ga K "Record") "width" := He.noat_ok (T.d.fact 111 (f := .noat "Record" "width") rfl)
theorem Tx.na_Record_dead (T : Tx K mg base) : NoAttr K (He.ga K "Record") "dead" := He.noat_ok (T.d.fact 112 (f := .noat "Record" "dead") rfl)
theorem Tx.na_Record_least (T : Tx K mg base) : NoAttr K (He.ga K "Record") "least" := He.noat_ok (T.d.fact 113 (f := .noat "Record" "least") rfl)
theorem Tx.na_Record_most (T : Tx K mg base) : NoAttr K (He.ga K "Record") "most" := He.noat_ok (T.d.fact 114 (f := .noat "Record" "most") rfl)
theorem Tx.na_Record_paces (T : Tx K mg base) : NoAttr K (He.ga K "Record") "paces" := He.noat_ok (T.d.fact 115 (f := .noat "Record" "paces") rfl)
theorem Tx.na_Record_groups (T : Tx K mg base) : NoAttr K (He.ga K "Record") "groups" := He.noat_ok (T.d.fact 116 (f := .noat "Record" "groups") rfl)
theorem Tx.na_Record_glances (T : Tx K mg base) : NoAttr K (He.ga K "Record") "glances" := He.noat_ok (T.d.fact 117 (f := .noat "Record" "glances") rfl)
theorem Tx.m_Record_init (T : Tx K mg base) : Meth K (He.ga K "Record") "__init__" (He.ma K (He.ga K "Record") "__init__") := He.meth_ok (T.d.fact 118 (f := .meth "Record" "__init__") rfl)
theorem Tx.m_Record_seen (T : Tx K mg base) : Meth K (He.ga K "Record") "seen" (He.ma K (He.ga K "Record") "seen") := He.meth_ok (T.d.fact 119 (f := .meth "Record" "seen") rfl)
theorem Tx.m_Record_readings (T : Tx K mg base) : Meth K (He.ga K "Record") "readings" (He.ma K (He.ga K "Record") "readings") := He.meth_ok (T.d.fact 120 (f := .meth "Record" "readings") rfl)
theorem Tx.m_Record_repr (T : Tx K mg base) : Meth K (He.ga K "Record") "__repr__" (He.ma K (He.ga K "Record") "__repr__") := He.meth_ok (T.d.fact 121 (f := .meth "Record" "__repr__") rfl)
theorem Tx.c_Book (T : Tx K mg base) : Cls K (He.ga K "Book") := He.cls_ok (T.d.fact 122 (f := .cls "Book") rfl)
theorem Tx.mk_Book (T : Tx K mg base) : Mk K (He.ga K "Book") (He.ma K (He.ga K "Book") "__init__") := He.mkr_ok (T.d.fact 123 (f := .mkr "Book") rfl)
theorem Tx.na_Book_records (T : Tx K mg base) : NoAttr K (He.ga K "Book") "records" := He.noat_ok (T.d.fact 124 (f := .noat "Book" "records") rfl)
theorem Tx.na_Book_made (T : Tx K mg base) : NoAttr K (He.ga K "Book") "made" := He.noat_ok (T.d.fact 125 (f := .noat "Book" "made") rfl)
theorem Tx.na_Book_past (T : Tx K mg base) : NoAttr K (He.ga K "Book") "past" := He.noat_ok (T.d.fact 126 (f := .noat "Book" "past") rfl)
theorem Tx.m_Book_init (T : Tx K mg base) : Meth K (He.ga K "Book") "__init__" (He.ma K (He.ga K "Book") "__init__") := He.meth_ok (T.d.fact 127 (f := .meth "Book" "__init__") rfl)
theorem Tx.m_Book_become (T : Tx K mg base) : Meth K (He.ga K "Book") "become" (He.ma K (He.ga K "Book") "become") := He.meth_ok (T.d.fact 128 (f := .meth "Book" "become") rfl)
theorem Tx.m_Book_check_known (T : Tx K mg base) : Meth K (He.ga K "Book") "check_known" (He.ma K (He.ga K "Book") "check_known") := He.meth_ok (T.d.fact 129 (f := .meth "Book" "check_known") rfl)
theorem Tx.m_Book_setitem (T : Tx K mg base) : Meth K (He.ga K "Book") "__setitem__" (He.ma K (He.ga K "Book") "__setitem__") := He.meth_ok (T.d.fact 130 (f := .meth "Book" "__setitem__") rfl)
theorem Tx.m_Book_getitem (T : Tx K mg base) : Meth K (He.ga K "Book") "__getitem__" (He.ma K (He.ga K "Book") "__getitem__") := He.meth_ok (T.d.fact 131 (f := .meth "Book" "__getitem__") rfl)
theorem Tx.m_Book_contains (T : Tx K mg base) : Meth K (He.ga K "Book") "__contains__" (He.ma K (He.ga K "Book") "__contains__") := He.meth_ok (T.d.fact 132 (f := .meth "Book" "__contains__") rfl)
theorem Tx.m_Book_len (T : Tx K mg base) : Meth K (He.ga K "Book") "__len__" (He.ma K (He.ga K "Book") "__len__") := He.meth_ok (T.d.fact 133 (f := .meth "Book" "__len__") rfl)
theorem Tx.m_Book_see (T : Tx K mg base) : Meth K (He.ga K "Book") "see" (He.ma K (He.ga K "Book") "see") := He.meth_ok (T.d.fact 134 (f := .meth "Book" "see") rfl)
theorem Tx.c_Console (T : Tx K mg base) : Cls K (He.ga K "Console") := He.cls_ok (T.d.fact 135 (f := .cls "Console") rfl)
theorem Tx.mk_Console (T : Tx K mg base) : Mk K (He.ga K "Console") (He.ma K (He.ga K "Console") "__init__") := He.mkr_ok (T.d.fact 136 (f := .mkr "Console") rfl)
theorem Tx.na_Console_book (T : Tx K mg base) : NoAttr K (He.ga K "Console") "book" := He.noat_ok (T.d.fact 137 (f := .noat "Console" "book") rfl)
theorem Tx.m_Console_init (T : Tx K mg base) : Meth K (He.ga K "Console") "__init__" (He.ma K (He.ga K "Console") "__init__") := He.meth_ok (T.d.fact 138 (f := .meth "Console" "__init__") rfl)
theorem Tx.m_Console_records_of (T : Tx K mg base) : Meth K (He.ga K "Console") "records_of" (He.ma K (He.ga K "Console") "records_of") := He.meth_ok (T.d.fact 139 (f := .meth "Console" "records_of") rfl)
theorem Tx.m_Console_about_one (T : Tx K mg base) : Meth K (He.ga K "Console") "about_one" (He.ma K (He.ga K "Console") "about_one") := He.meth_ok (T.d.fact 140 (f := .meth "Console" "about_one") rfl)
theorem Tx.m_Console_about_two (T : Tx K mg base) : Meth K (He.ga K "Console") "about_two" (He.ma K (He.ga K "Console") "about_two") := He.meth_ok (T.d.fact 141 (f := .meth "Console" "about_two") rfl)
theorem Tx.m_Console_about_window (T : Tx K mg base) : Meth K (He.ga K "Console") "about_window" (He.ma K (He.ga K "Console") "about_window") := He.meth_ok (T.d.fact 142 (f := .meth "Console" "about_window") rfl)
theorem Tx.m_Console_after_equals (T : Tx K mg base) : Meth K (He.ga K "Console") "after_equals" (He.ma K (He.ga K "Console") "after_equals") := He.meth_ok (T.d.fact 143 (f := .meth "Console" "after_equals") rfl)
theorem Tx.m_Console_answer (T : Tx K mg base) : Meth K (He.ga K "Console") "answer" (He.ma K (He.ga K "Console") "answer") := He.meth_ok (T.d.fact 144 (f := .meth "Console" "answer") rfl)
theorem Tx.m_Console_say (T : Tx K mg base) : Meth K (He.ga K "Console") "say" (He.ma K (He.ga K "Console") "say") := He.meth_ok (T.d.fact 145 (f := .meth "Console" "say") rfl)
theorem Tx.g_PAIRS (T : Tx K mg base) : mg "PAIRS" = some (.ref (He.ga K "PAIRS")) := He.glo_ok T.kin T.ns (T.d.fact 146 (f := .glo "PAIRS") rfl)
theorem Tx.g_READ (T : Tx K mg base) : mg "READ" = some (.ref (He.ga K "READ")) := He.glo_ok T.kin T.ns (T.d.fact 147 (f := .glo "READ") rfl)
theorem Tx.D_is_integer (T : Tx K mg base) : ∃ fd, FunD K d_is_integer.name d_is_integer.qual d_is_integer.params d_is_integer.body d_is_integer.scope (d_is_integer.dvs K) (d_is_integer.kws K) (He.fAd K d_is_integer.at_) fd := T.d.def_ 0 (d := d_is_integer) rfl
theorem Tx.D_is_between (T : Tx K mg base) : ∃ fd, FunD K d_is_between.name d_is_between.qual d_is_between.params d_is_between.body d_is_between.scope (d_is_between.dvs K) (d_is_between.kws K) (He.fAd K d_is_between.at_) fd := T.d.def_ 1 (d := d_is_between) rfl
theorem Tx.D_is_time (T : Tx K mg base) : ∃ fd, FunD K d_is_time.name d_is_time.qual d_is_time.params d_is_time.body d_is_time.scope (d_is_time.dvs K) (d_is_time.kws K) (He.fAd K d_is_time.at_) fd := T.d.def_ 2 (d := d_is_time) rfl
theorem Tx.D_is_pace (T : Tx K mg base) : ∃ fd, FunD K d_is_pace.name d_is_pace.qual d_is_pace.params d_is_pace.body d_is_pace.scope (d_is_pace.dvs K) (d_is_pace.kws K) (He.fAd K d_is_pace.at_) fd := T.d.def_ 3 (d := d_is_pace) rfl
theorem Tx.D_is_text (T : Tx K mg base) : ∃ fd, FunD K d_is_text.name d_is_text.qual d_is_text.params d_is_text.body d_is_text.scope (d_is_text.dvs K) (d_is_text.kws K) (He.fAd K d_is_text.at_) fd := T.d.def_ 4 (d := d_is_text) rfl
theorem Tx.D_meet (T : Tx K mg base) : ∃ fd, FunD K d_meet.name d_meet.qual d_meet.params d_meet.body d_meet.scope (d_meet.dvs K) (d_meet.kws K) (He.fAd K d_meet.at_) fd := T.d.def_ 5 (d := d_meet) rfl
theorem Tx.D_agreeing (T : Tx K mg base) : ∃ fd, FunD K d_agreeing.name d_agreeing.qual d_agreeing.params d_agreeing.body d_agreeing.scope (d_agreeing.dvs K) (d_agreeing.kws K) (He.fAd K d_agreeing.at_) fd := T.d.def_ 6 (d := d_agreeing) rfl
theorem Tx.D_is_mark (T : Tx K mg base) : ∃ fd, FunD K d_is_mark.name d_is_mark.qual d_is_mark.params d_is_mark.body d_is_mark.scope (d_is_mark.dvs K) (d_is_mark.kws K) (He.fAd K d_is_mark.at_) fd := T.d.def_ 7 (d := d_is_mark) rfl
theorem Tx.D_is_reading (T : Tx K mg base) : ∃ fd, FunD K d_is_reading.name d_is_reading.qual d_is_reading.params d_is_reading.body d_is_reading.scope (d_is_reading.dvs K) (d_is_reading.kws K) (He.fAd K d_is_reading.at_) fd := T.d.def_ 8 (d := d_is_reading) rfl
theorem Tx.D_is_any_reading (T : Tx K mg base) : ∃ fd, FunD K d_is_any_reading.name d_is_any_reading.qual d_is_any_reading.params d_is_any_reading.body d_is_any_reading.scope (d_is_any_reading.dvs K) (d_is_any_reading.kws K) (He.fAd K d_is_any_reading.at_) fd := T.d.def_ 9 (d := d_is_any_reading) rfl
theorem Tx.D_check_time (T : Tx K mg base) : ∃ fd, FunD K d_check_time.name d_check_time.qual d_check_time.params d_check_time.body d_check_time.scope (d_check_time.dvs K) (d_check_time.kws K) (He.fAd K d_check_time.at_) fd := T.d.def_ 10 (d := d_check_time) rfl
theorem Tx.D_check_width (T : Tx K mg base) : ∃ fd, FunD K d_check_width.name d_check_width.qual d_check_width.params d_check_width.body d_check_width.scope (d_check_width.dvs K) (d_check_width.kws K) (He.fAd K d_check_width.at_) fd := T.d.def_ 11 (d := d_check_width) rfl
theorem Tx.D_number_at (T : Tx K mg base) : ∃ fd, FunD K d_number_at.name d_number_at.qual d_number_at.params d_number_at.body d_number_at.scope (d_number_at.dvs K) (d_number_at.kws K) (He.fAd K d_number_at.at_) fd := T.d.def_ 12 (d := d_number_at) rfl
theorem Tx.D_bad_ascending (T : Tx K mg base) : ∃ fd, FunD K d_bad_ascending.name d_bad_ascending.qual d_bad_ascending.params d_bad_ascending.body d_bad_ascending.scope (d_bad_ascending.dvs K) (d_bad_ascending.kws K) (He.fAd K d_bad_ascending.at_) fd := T.d.def_ 13 (d := d_bad_ascending) rfl
theorem Tx.D_bad_group (T : Tx K mg base) : ∃ fd, FunD K d_bad_group.name d_bad_group.qual d_bad_group.params d_bad_group.body d_bad_group.scope (d_bad_group.dvs K) (d_bad_group.kws K) (He.fAd K d_bad_group.at_) fd := T.d.def_ 14 (d := d_bad_group) rfl
theorem Tx.D_check_dead (T : Tx K mg base) : ∃ fd, FunD K d_check_dead.name d_check_dead.qual d_check_dead.params d_check_dead.body d_check_dead.scope (d_check_dead.dvs K) (d_check_dead.kws K) (He.fAd K d_check_dead.at_) fd := T.d.def_ 15 (d := d_check_dead) rfl
theorem Tx.D_check_lengths (T : Tx K mg base) : ∃ fd, FunD K d_check_lengths.name d_check_lengths.qual d_check_lengths.params d_check_lengths.body d_check_lengths.scope (d_check_lengths.dvs K) (d_check_lengths.kws K) (He.fAd K d_check_lengths.at_) fd := T.d.def_ 16 (d := d_check_lengths) rfl
theorem Tx.D_check_paces (T : Tx K mg base) : ∃ fd, FunD K d_check_paces.name d_check_paces.qual d_check_paces.params d_check_paces.body d_check_paces.scope (d_check_paces.dvs K) (d_check_paces.kws K) (He.fAd K d_check_paces.at_) fd := T.d.def_ 17 (d := d_check_paces) rfl
theorem Tx.D_check_groups (T : Tx K mg base) : ∃ fd, FunD K d_check_groups.name d_check_groups.qual d_check_groups.params d_check_groups.body d_check_groups.scope (d_check_groups.dvs K) (d_check_groups.kws K) (He.fAd K d_check_groups.at_) fd := T.d.def_ 18 (d := d_check_groups) rfl
theorem Tx.D_with_glances (T : Tx K mg base) : ∃ fd, FunD K d_with_glances.name d_with_glances.qual d_with_glances.params d_with_glances.body d_with_glances.scope (d_with_glances.dvs K) (d_with_glances.kws K) (He.fAd K d_with_glances.at_) fd := T.d.def_ 19 (d := d_with_glances) rfl
theorem Tx.D_readings_in (T : Tx K mg base) : ∃ fd, FunD K d_readings_in.name d_readings_in.qual d_readings_in.params d_readings_in.body d_readings_in.scope (d_readings_in.dvs K) (d_readings_in.kws K) (He.fAd K d_readings_in.at_) fd := T.d.def_ 20 (d := d_readings_in) rfl
theorem Tx.D_check_record (T : Tx K mg base) : ∃ fd, FunD K d_check_record.name d_check_record.qual d_check_record.params d_check_record.body d_check_record.scope (d_check_record.dvs K) (d_check_record.kws K) (He.fAd K d_check_record.at_) fd := T.d.def_ 21 (d := d_check_record) rfl
theorem Tx.D_check_reading (T : Tx K mg base) : ∃ fd, FunD K d_check_reading.name d_check_reading.qual d_check_reading.params d_check_reading.body d_check_reading.scope (d_check_reading.dvs K) (d_check_reading.kws K) (He.fAd K d_check_reading.at_) fd := T.d.def_ 22 (d := d_check_reading) rfl
theorem Tx.D_left_by (T : Tx K mg base) : ∃ fd, FunD K d_left_by.name d_left_by.qual d_left_by.params d_left_by.body d_left_by.scope (d_left_by.dvs K) (d_left_by.kws K) (He.fAd K d_left_by.at_) fd := T.d.def_ 23 (d := d_left_by) rfl
theorem Tx.D_let_by (T : Tx K mg base) : ∃ fd, FunD K d_let_by.name d_let_by.qual d_let_by.params d_let_by.body d_let_by.scope (d_let_by.dvs K) (d_let_by.kws K) (He.fAd K d_let_by.at_) fd := T.d.def_ 24 (d := d_let_by) rfl
theorem Tx.D_all_left (T : Tx K mg base) : ∃ fd, FunD K d_all_left.name d_all_left.qual d_all_left.params d_all_left.body d_all_left.scope (d_all_left.dvs K) (d_all_left.kws K) (He.fAd K d_all_left.at_) fd := T.d.def_ 25 (d := d_all_left) rfl
theorem Tx.D_pairs (T : Tx K mg base) : ∃ fd, FunD K d_pairs.name d_pairs.qual d_pairs.params d_pairs.body d_pairs.scope (d_pairs.dvs K) (d_pairs.kws K) (He.fAd K d_pairs.at_) fd := T.d.def_ 26 (d := d_pairs) rfl
theorem Tx.D_texts_left (T : Tx K mg base) : ∃ fd, FunD K d_texts_left.name d_texts_left.qual d_texts_left.params d_texts_left.body d_texts_left.scope (d_texts_left.dvs K) (d_texts_left.kws K) (He.fAd K d_texts_left.at_) fd := T.d.def_ 27 (d := d_texts_left) rfl
theorem Tx.D_number_of (T : Tx K mg base) : ∃ fd, FunD K d_number_of.name d_number_of.qual d_number_of.params d_number_of.body d_number_of.scope (d_number_of.dvs K) (d_number_of.kws K) (He.fAd K d_number_of.at_) fd := T.d.def_ 28 (d := d_number_of) rfl
theorem Tx.D_least_text (T : Tx K mg base) : ∃ fd, FunD K d_least_text.name d_least_text.qual d_least_text.params d_least_text.body d_least_text.scope (d_least_text.dvs K) (d_least_text.kws K) (He.fAd K d_least_text.at_) fd := T.d.def_ 29 (d := d_least_text) rfl
theorem Tx.D_shortest (T : Tx K mg base) : ∃ fd, FunD K d_shortest.name d_shortest.qual d_shortest.params d_shortest.body d_shortest.scope (d_shortest.dvs K) (d_shortest.kws K) (He.fAd K d_shortest.at_) fd := T.d.def_ 30 (d := d_shortest) rfl
theorem Tx.D_left_at (T : Tx K mg base) : ∃ fd, FunD K d_left_at.name d_left_at.qual d_left_at.params d_left_at.body d_left_at.scope (d_left_at.dvs K) (d_left_at.kws K) (He.fAd K d_left_at.at_) fd := T.d.def_ 31 (d := d_left_at) rfl
theorem Tx.D_all_in (T : Tx K mg base) : ∃ fd, FunD K d_all_in.name d_all_in.qual d_all_in.params d_all_in.body d_all_in.scope (d_all_in.dvs K) (d_all_in.kws K) (He.fAd K d_all_in.at_) fd := T.d.def_ 32 (d := d_all_in) rfl
theorem Tx.D_sure (T : Tx K mg base) : ∃ fd, FunD K d_sure.name d_sure.qual d_sure.params d_sure.body d_sure.scope (d_sure.dvs K) (d_sure.kws K) (He.fAd K d_sure.at_) fd := T.d.def_ 33 (d := d_sure) rfl
theorem Tx.D_is_name (T : Tx K mg base) : ∃ fd, FunD K d_is_name.name d_is_name.qual d_is_name.params d_is_name.body d_is_name.scope (d_is_name.dvs K) (d_is_name.kws K) (He.fAd K d_is_name.at_) fd := T.d.def_ 34 (d := d_is_name) rfl
theorem Tx.D_integer_in (T : Tx K mg base) : ∃ fd, FunD K d_integer_in.name d_integer_in.qual d_integer_in.params d_integer_in.body d_integer_in.scope (d_integer_in.dvs K) (d_integer_in.kws K) (He.fAd K d_integer_in.at_) fd := T.d.def_ 35 (d := d_integer_in) rfl
theorem Tx.D_record_in (T : Tx K mg base) : ∃ fd, FunD K d_record_in.name d_record_in.qual d_record_in.params d_record_in.body d_record_in.scope (d_record_in.dvs K) (d_record_in.kws K) (He.fAd K d_record_in.at_) fd := T.d.def_ 36 (d := d_record_in) rfl
theorem Tx.D_text_of_pairs (T : Tx K mg base) : ∃ fd, FunD K d_text_of_pairs.name d_text_of_pairs.qual d_text_of_pairs.params d_text_of_pairs.body d_text_of_pairs.scope (d_text_of_pairs.dvs K) (d_text_of_pairs.kws K) (He.fAd K d_text_of_pairs.at_) fd := T.d.def_ 37 (d := d_text_of_pairs) rfl
theorem Tx.D_l_cell (T : Tx K mg base) : ∃ fd, FunD K d_l_cell.name d_l_cell.qual d_l_cell.params d_l_cell.body d_l_cell.scope (d_l_cell.dvs K) (d_l_cell.kws K) (He.fAd K d_l_cell.at_) fd := T.d.def_ 38 (d := d_l_cell) rfl
theorem Tx.D_l_deal (T : Tx K mg base) : ∃ fd, FunD K d_l_deal.name d_l_deal.qual d_l_deal.params d_l_deal.body d_l_deal.scope (d_l_deal.dvs K) (d_l_deal.kws K) (He.fAd K d_l_deal.at_) fd := T.d.def_ 39 (d := d_l_deal) rfl
theorem Tx.D_l_pick (T : Tx K mg base) : ∃ fd, FunD K d_l_pick.name d_l_pick.qual d_l_pick.params d_l_pick.body d_l_pick.scope (d_l_pick.dvs K) (d_l_pick.kws K) (He.fAd K d_l_pick.at_) fd := T.d.def_ 40 (d := d_l_pick) rfl
theorem Tx.D_l_one_of (T : Tx K mg base) : ∃ fd, FunD K d_l_one_of.name d_l_one_of.qual d_l_one_of.params d_l_one_of.body d_l_one_of.scope (d_l_one_of.dvs K) (d_l_one_of.kws K) (He.fAd K d_l_one_of.at_) fd := T.d.def_ 41 (d := d_l_one_of) rfl
theorem Tx.D_l_moment (T : Tx K mg base) : ∃ fd, FunD K d_l_moment.name d_l_moment.qual d_l_moment.params d_l_moment.body d_l_moment.scope (d_l_moment.dvs K) (d_l_moment.kws K) (He.fAd K d_l_moment.at_) fd := T.d.def_ 42 (d := d_l_moment) rfl
theorem Tx.D_l_few (T : Tx K mg base) : ∃ fd, FunD K d_l_few.name d_l_few.qual d_l_few.params d_l_few.body d_l_few.scope (d_l_few.dvs K) (d_l_few.kws K) (He.fAd K d_l_few.at_) fd := T.d.def_ 43 (d := d_l_few) rfl
theorem Tx.D_l_drawn (T : Tx K mg base) : ∃ fd, FunD K d_l_drawn.name d_l_drawn.qual d_l_drawn.params d_l_drawn.body d_l_drawn.scope (d_l_drawn.dvs K) (d_l_drawn.kws K) (He.fAd K d_l_drawn.at_) fd := T.d.def_ 44 (d := d_l_drawn) rfl
theorem Tx.D_l_grouped (T : Tx K mg base) : ∃ fd, FunD K d_l_grouped.name d_l_grouped.qual d_l_grouped.params d_l_grouped.body d_l_grouped.scope (d_l_grouped.dvs K) (d_l_grouped.kws K) (He.fAd K d_l_grouped.at_) fd := T.d.def_ 45 (d := d_l_grouped) rfl
theorem Tx.D_l_window (T : Tx K mg base) : ∃ fd, FunD K d_l_window.name d_l_window.qual d_l_window.params d_l_window.body d_l_window.scope (d_l_window.dvs K) (d_l_window.kws K) (He.fAd K d_l_window.at_) fd := T.d.def_ 46 (d := d_l_window) rfl
theorem Tx.D_l_letters_of (T : Tx K mg base) : ∃ fd, FunD K d_l_letters_of.name d_l_letters_of.qual d_l_letters_of.params d_l_letters_of.body d_l_letters_of.scope (d_l_letters_of.dvs K) (d_l_letters_of.kws K) (He.fAd K d_l_letters_of.at_) fd := T.d.def_ 47 (d := d_l_letters_of) rfl
theorem Tx.D_l_reading (T : Tx K mg base) : ∃ fd, FunD K d_l_reading.name d_l_reading.qual d_l_reading.params d_l_reading.body d_l_reading.scope (d_l_reading.dvs K) (d_l_reading.kws K) (He.fAd K d_l_reading.at_) fd := T.d.def_ 48 (d := d_l_reading) rfl
theorem Tx.D_l_any_note (T : Tx K mg base) : ∃ fd, FunD K d_l_any_note.name d_l_any_note.qual d_l_any_note.params d_l_any_note.body d_l_any_note.scope (d_l_any_note.dvs K) (d_l_any_note.kws K) (He.fAd K d_l_any_note.at_) fd := T.d.def_ 49 (d := d_l_any_note) rfl
theorem Tx.D_l_lets (T : Tx K mg base) : ∃ fd, FunD K d_l_lets.name d_l_lets.qual d_l_lets.params d_l_lets.body d_l_lets.scope (d_l_lets.dvs K) (d_l_lets.kws K) (He.fAd K d_l_lets.at_) fd := T.d.def_ 50 (d := d_l_lets) rfl
theorem Tx.D_l_common (T : Tx K mg base) : ∃ fd, FunD K d_l_common.name d_l_common.qual d_l_common.params d_l_common.body d_l_common.scope (d_l_common.dvs K) (d_l_common.kws K) (He.fAd K d_l_common.at_) fd := T.d.def_ 51 (d := d_l_common) rfl
theorem Tx.D_l_left_for (T : Tx K mg base) : ∃ fd, FunD K d_l_left_for.name d_l_left_for.qual d_l_left_for.params d_l_left_for.body d_l_left_for.scope (d_l_left_for.dvs K) (d_l_left_for.kws K) (He.fAd K d_l_left_for.at_) fd := T.d.def_ 52 (d := d_l_left_for) rfl
theorem Tx.D_l_pairs (T : Tx K mg base) : ∃ fd, FunD K d_l_pairs.name d_l_pairs.qual d_l_pairs.params d_l_pairs.body d_l_pairs.scope (d_l_pairs.dvs K) (d_l_pairs.kws K) (He.fAd K d_l_pairs.at_) fd := T.d.def_ 53 (d := d_l_pairs) rfl
theorem Tx.D_l_sign (T : Tx K mg base) : ∃ fd, FunD K d_l_sign.name d_l_sign.qual d_l_sign.params d_l_sign.body d_l_sign.scope (d_l_sign.dvs K) (d_l_sign.kws K) (He.fAd K d_l_sign.at_) fd := T.d.def_ 54 (d := d_l_sign) rfl
theorem Tx.D_l_fitting (T : Tx K mg base) : ∃ fd, FunD K d_l_fitting.name d_l_fitting.qual d_l_fitting.params d_l_fitting.body d_l_fitting.scope (d_l_fitting.dvs K) (d_l_fitting.kws K) (He.fAd K d_l_fitting.at_) fd := T.d.def_ 55 (d := d_l_fitting) rfl
theorem Tx.D_l_look (T : Tx K mg base) : ∃ fd, FunD K d_l_look.name d_l_look.qual d_l_look.params d_l_look.body d_l_look.scope (d_l_look.dvs K) (d_l_look.kws K) (He.fAd K d_l_look.at_) fd := T.d.def_ 56 (d := d_l_look) rfl
theorem Tx.D_l_sure (T : Tx K mg base) : ∃ fd, FunD K d_l_sure.name d_l_sure.qual d_l_sure.params d_l_sure.body d_l_sure.scope (d_l_sure.dvs K) (d_l_sure.kws K) (He.fAd K d_l_sure.at_) fd := T.d.def_ 57 (d := d_l_sure) rfl
theorem Tx.D_l_many (T : Tx K mg base) : ∃ fd, FunD K d_l_many.name d_l_many.qual d_l_many.params d_l_many.body d_l_many.scope (d_l_many.dvs K) (d_l_many.kws K) (He.fAd K d_l_many.at_) fd := T.d.def_ 58 (d := d_l_many) rfl
theorem Tx.D_l_least (T : Tx K mg base) : ∃ fd, FunD K d_l_least.name d_l_least.qual d_l_least.params d_l_least.body d_l_least.scope (d_l_least.dvs K) (d_l_least.kws K) (He.fAd K d_l_least.at_) fd := T.d.def_ 59 (d := d_l_least) rfl
theorem Tx.D_l_answers (T : Tx K mg base) : ∃ fd, FunD K d_l_answers.name d_l_answers.qual d_l_answers.params d_l_answers.body d_l_answers.scope (d_l_answers.dvs K) (d_l_answers.kws K) (He.fAd K d_l_answers.at_) fd := T.d.def_ 60 (d := d_l_answers) rfl
theorem Tx.D_l_case (T : Tx K mg base) : ∃ fd, FunD K d_l_case.name d_l_case.qual d_l_case.params d_l_case.body d_l_case.scope (d_l_case.dvs K) (d_l_case.kws K) (He.fAd K d_l_case.at_) fd := T.d.def_ 61 (d := d_l_case) rfl
theorem Tx.D_law (T : Tx K mg base) : ∃ fd, FunD K d_law.name d_law.qual d_law.params d_law.body d_law.scope (d_law.dvs K) (d_law.kws K) (He.fAd K d_law.at_) fd := T.d.def_ 62 (d := d_law) rfl
theorem Tx.D_Sign_init (T : Tx K mg base) : ∃ fd, FunD K d_Sign_init.name d_Sign_init.qual d_Sign_init.params d_Sign_init.body d_Sign_init.scope (d_Sign_init.dvs K) (d_Sign_init.kws K) (He.fAd K d_Sign_init.at_) fd := T.d.def_ 63 (d := d_Sign_init) rfl
theorem Tx.D_Sign_str (T : Tx K mg base) : ∃ fd, FunD K d_Sign_str.name d_Sign_str.qual d_Sign_str.params d_Sign_str.body d_Sign_str.scope (d_Sign_str.dvs K) (d_Sign_str.kws K) (He.fAd K d_Sign_str.at_) fd := T.d.def_ 64 (d := d_Sign_str) rfl
theorem Tx.D_Known_init (T : Tx K mg base) : ∃ fd, FunD K d_Known_init.name d_Known_init.qual d_Known_init.params d_Known_init.body d_Known_init.scope (d_Known_init.dvs K) (d_Known_init.kws K) (He.fAd K d_Known_init.at_) fd := T.d.def_ 65 (d := d_Known_init) rfl
theorem Tx.D_Record_init (T : Tx K mg base) : ∃ fd, FunD K d_Record_init.name d_Record_init.qual d_Record_init.params d_Record_init.body d_Record_init.scope (d_Record_init.dvs K) (d_Record_init.kws K) (He.fAd K d_Record_init.at_) fd := T.d.def_ 66 (d := d_Record_init) rfl
theorem Tx.D_Record_seen (T : Tx K mg base) : ∃ fd, FunD K d_Record_seen.name d_Record_seen.qual d_Record_seen.params d_Record_seen.body d_Record_seen.scope (d_Record_seen.dvs K) (d_Record_seen.kws K) (He.fAd K d_Record_seen.at_) fd := T.d.def_ 67 (d := d_Record_seen) rfl
theorem Tx.D_Record_readings (T : Tx K mg base) : ∃ fd, FunD K d_Record_readings.name d_Record_readings.qual d_Record_readings.params d_Record_readings.body d_Record_readings.scope (d_Record_readings.dvs K) (d_Record_readings.kws K) (He.fAd K d_Record_readings.at_) fd := T.d.def_ 68 (d := d_Record_readings) rfl
theorem Tx.D_Record_repr (T : Tx K mg base) : ∃ fd, FunD K d_Record_repr.name d_Record_repr.qual d_Record_repr.params d_Record_repr.body d_Record_repr.scope (d_Record_repr.dvs K) (d_Record_repr.kws K) (He.fAd K d_Record_repr.at_) fd := T.d.def_ 69 (d := d_Record_repr) rfl
theorem Tx.D_Book_init (T : Tx K mg base) : ∃ fd, FunD K d_Book_init.name d_Book_init.qual d_Book_init.params d_Book_init.body d_Book_init.scope (d_Book_init.dvs K) (d_Book_init.kws K) (He.fAd K d_Book_init.at_) fd := T.d.def_ 70 (d := d_Book_init) rfl
theorem Tx.D_Book_become (T : Tx K mg base) : ∃ fd, FunD K d_Book_become.name d_Book_become.qual d_Book_become.params d_Book_become.body d_Book_become.scope (d_Book_become.dvs K) (d_Book_become.kws K) (He.fAd K d_Book_become.at_) fd := T.d.def_ 71 (d := d_Book_become) rfl
theorem Tx.D_Book_check_known (T : Tx K mg base) : ∃ fd, FunD K d_Book_check_known.name d_Book_check_known.qual d_Book_check_known.params d_Book_check_known.body d_Book_check_known.scope (d_Book_check_known.dvs K) (d_Book_check_known.kws K) (He.fAd K d_Book_check_known.at_) fd := T.d.def_ 72 (d := d_Book_check_known) rfl
theorem Tx.D_Book_setitem (T : Tx K mg base) : ∃ fd, FunD K d_Book_setitem.name d_Book_setitem.qual d_Book_setitem.params d_Book_setitem.body d_Book_setitem.scope (d_Book_setitem.dvs K) (d_Book_setitem.kws K) (He.fAd K d_Book_setitem.at_) fd := T.d.def_ 73 (d := d_Book_setitem) rfl
theorem Tx.D_Book_getitem (T : Tx K mg base) : ∃ fd, FunD K d_Book_getitem.name d_Book_getitem.qual d_Book_getitem.params d_Book_getitem.body d_Book_getitem.scope (d_Book_getitem.dvs K) (d_Book_getitem.kws K) (He.fAd K d_Book_getitem.at_) fd := T.d.def_ 74 (d := d_Book_getitem) rfl
theorem Tx.D_Book_contains (T : Tx K mg base) : ∃ fd, FunD K d_Book_contains.name d_Book_contains.qual d_Book_contains.params d_Book_contains.body d_Book_contains.scope (d_Book_contains.dvs K) (d_Book_contains.kws K) (He.fAd K d_Book_contains.at_) fd := T.d.def_ 75 (d := d_Book_contains) rfl
theorem Tx.D_Book_len (T : Tx K mg base) : ∃ fd, FunD K d_Book_len.name d_Book_len.qual d_Book_len.params d_Book_len.body d_Book_len.scope (d_Book_len.dvs K) (d_Book_len.kws K) (He.fAd K d_Book_len.at_) fd := T.d.def_ 76 (d := d_Book_len) rfl
theorem Tx.D_Book_see (T : Tx K mg base) : ∃ fd, FunD K d_Book_see.name d_Book_see.qual d_Book_see.params d_Book_see.body d_Book_see.scope (d_Book_see.dvs K) (d_Book_see.kws K) (He.fAd K d_Book_see.at_) fd := T.d.def_ 77 (d := d_Book_see) rfl
theorem Tx.D_Console_init (T : Tx K mg base) : ∃ fd, FunD K d_Console_init.name d_Console_init.qual d_Console_init.params d_Console_init.body d_Console_init.scope (d_Console_init.dvs K) (d_Console_init.kws K) (He.fAd K d_Console_init.at_) fd := T.d.def_ 78 (d := d_Console_init) rfl
theorem Tx.D_Console_records_of (T : Tx K mg base) : ∃ fd, FunD K d_Console_records_of.name d_Console_records_of.qual d_Console_records_of.params d_Console_records_of.body d_Console_records_of.scope (d_Console_records_of.dvs K) (d_Console_records_of.kws K) (He.fAd K d_Console_records_of.at_) fd := T.d.def_ 79 (d := d_Console_records_of) rfl
theorem Tx.D_Console_about_one (T : Tx K mg base) : ∃ fd, FunD K d_Console_about_one.name d_Console_about_one.qual d_Console_about_one.params d_Console_about_one.body d_Console_about_one.scope (d_Console_about_one.dvs K) (d_Console_about_one.kws K) (He.fAd K d_Console_about_one.at_) fd := T.d.def_ 80 (d := d_Console_about_one) rfl
theorem Tx.D_Console_about_two (T : Tx K mg base) : ∃ fd, FunD K d_Console_about_two.name d_Console_about_two.qual d_Console_about_two.params d_Console_about_two.body d_Console_about_two.scope (d_Console_about_two.dvs K) (d_Console_about_two.kws K) (He.fAd K d_Console_about_two.at_) fd := T.d.def_ 81 (d := d_Console_about_two) rfl
theorem Tx.D_Console_about_window (T : Tx K mg base) : ∃ fd, FunD K d_Console_about_window.name d_Console_about_window.qual d_Console_about_window.params d_Console_about_window.body d_Console_about_window.scope (d_Console_about_window.dvs K) (d_Console_about_window.kws K) (He.fAd K d_Console_about_window.at_) fd := T.d.def_ 82 (d := d_Console_about_window) rfl
theorem Tx.D_Console_after_equals (T : Tx K mg base) : ∃ fd, FunD K d_Console_after_equals.name d_Console_after_equals.qual d_Console_after_equals.params d_Console_after_equals.body d_Console_after_equals.scope (d_Console_after_equals.dvs K) (d_Console_after_equals.kws K) (He.fAd K d_Console_after_equals.at_) fd := T.d.def_ 83 (d := d_Console_after_equals) rfl
theorem Tx.D_Console_answer (T : Tx K mg base) : ∃ fd, FunD K d_Console_answer.name d_Console_answer.qual d_Console_answer.params d_Console_answer.body d_Console_answer.scope (d_Console_answer.dvs K) (d_Console_answer.kws K) (He.fAd K d_Console_answer.at_) fd := T.d.def_ 84 (d := d_Console_answer) rfl
theorem Tx.D_Console_say (T : Tx K mg base) : ∃ fd, FunD K d_Console_say.name d_Console_say.qual d_Console_say.params d_Console_say.body d_Console_say.scope (d_Console_say.dvs K) (d_Console_say.kws K) (He.fAd K d_Console_say.at_) fd := T.d.def_ 85 (d := d_Console_say) rfl
theorem Tx.x (T : Tx K mg base) (i : Nat) {f : PySem.W.Frag → Bool} (h : exs[i]? = some f) : f K = true := List.all_eq_true.mp T.ex f (List.mem_of_getElem? h)
theorem Tx.t_PAIRS (T : Tx K mg base) (H : Hp) : SqT K H (He.ga K "PAIRS") [.str "implies", .str "apart"] := He.tupB_ok (T.x 0 rfl) H
theorem Tx.t_READ (T : Tx K mg base) (H : Hp) : SqT K H (He.ga K "READ") [.str "can", .str "must"] := He.tupB_ok (T.x 1 rfl) H
theorem prB_ok {m : Str} (h : prB m K = true) : PropOf K (He.ga K "Book") m (prP K m) (prG m K) := by
  obtain ⟨h1, h⟩ := He.ba h
  obtain ⟨h2, h⟩ := He.ba h
  obtain ⟨h3, h4⟩ := He.ba h
  refine ⟨He.eqO_ok h1, He.eqO_ok h2, of_decide_eq_true h3, ?_⟩
  unfold prG
  split at h4
  · rename_i g r e
    rw [e]
    exact ⟨_, rfl⟩
  · cases h4
theorem Tx.p_names (T : Tx K mg base) : PropOf K (He.ga K "Book") "names" (prP K "names") (prG "names" K) := prB_ok (T.x 2 rfl)
theorem Tx.p_claims (T : Tx K mg base) : PropOf K (He.ga K "Book") "claims" (prP K "claims") (prG "claims" K) := prB_ok (T.x 3 rfl)
theorem Tx.p_changes (T : Tx K mg base) : PropOf K (He.ga K "Book") "changes" (prP K "changes") (prG "changes" K) := prB_ok (T.x 4 rfl)
theorem tyIns (T : Tx K mg base) {C : Str} (c : Cls K (He.ga K C)) (h : isB C K = true) (g : gsB K = true) {H : Hp} {a dx : Addr} {fs : List (Str × V)} (e : H a = some (.ins (He.ga K C) dx fs)) : TyX K H (.ref a) (.ref (He.ga K C)) := by
  obtain ⟨h1, h⟩ := He.ba h
  obtain ⟨h2, h3⟩ := He.ba h
  obtain ⟨g1, g2⟩ := He.ba g
  exact .base (.ins e c (He.eqO_ok h1) (He.eqO_ok g1) (of_decide_eq_true g2) (of_decide_eq_true h2))
theorem Tx.ty_Known (T : Tx K mg base) {H : Hp} {a dx : Addr} {fs : List (Str × V)} (e : H a = some (.ins (He.ga K "Known") dx fs)) : TyX K H (.ref a) (.ref (He.ga K "Known")) := tyIns T T.c_Known (T.x 5 rfl) (T.x 7 rfl) e
theorem Tx.ty_Record (T : Tx K mg base) {H : Hp} {a dx : Addr} {fs : List (Str × V)} (e : H a = some (.ins (He.ga K "Record") dx fs)) : TyX K H (.ref a) (.ref (He.ga K "Record")) := tyIns T T.c_Record (T.x 6 rfl) (T.x 7 rfl) e
theorem isB_kit {C : Str} (h : isB C K = true) : PySem.W.kitOne K (.ref (He.ga K C)) (.ref (He.ga K C)) = some true := of_decide_eq_true (He.ba (He.ba h).2).2
theorem Tx.k_Known (T : Tx K mg base) : PySem.W.kitOne K (.ref (He.ga K "Known")) (.ref (He.ga K "Known")) = some true := isB_kit (T.x 5 rfl)
theorem Tx.k_Record (T : Tx K mg base) : PySem.W.kitOne K (.ref (He.ga K "Record")) (.ref (He.ga K "Record")) = some true := isB_kit (T.x 6 rfl)
theorem Tx.noSeq (T : Tx K mg base) : PySem.W.noSeq K (He.ga K "Book") = true := T.x 8 rfl
theorem Tx.fnIn (T : Tx K mg base) : PySem.W.fnIn K (He.ma K (He.ga K "Book") "__getitem__") = true := T.x 9 rfl
theorem Tx.fmt (T : Tx K mg base) : PySem.W.findIn K (.ref (He.ga K "Sign")) "__format__" = some (some (.builtin "object.__format__")) := He.eqO_ok (T.x 10 rfl)
theorem Tx.mroS (T : Tx K mg base) : PySem.W.mroIn K (He.ga K "Sign") (.type "object") = some true := of_decide_eq_true (T.x 11 rfl)
theorem Tx.k_int (T : Tx K mg base) : PySem.W.kitOne K (.type "int") (.ref (He.ga K "Known")) = some false := of_decide_eq_true (T.x 12 rfl)
theorem dtB_ok {x : Str} {vs : List V} (h : dtB x K vs = true) (H : Hp) : SqT K H (kdAt x K) vs ∧ ∃ o, K.lookup (kdAt x K) = some o ∧ o.cls = .type "tuple" := by
  unfold dtB at h
  split at h
  · rename_i c dd its n sl e
    obtain ⟨h1, h⟩ := He.ba h
    obtain ⟨h2, h3⟩ := He.ba h
    have ec : c = "tuple" := of_decide_eq_true h1
    subst ec
    exact ⟨.inr ⟨_, its, n, e, rfl, rfl, of_decide_eq_true h2, He.relAll_ok h3⟩, _, e, rfl⟩
  · cases h
theorem Tx.kd_dead (T : Tx K mg base) (H : Hp) : SqT K H (kdAt "dead" K) [] ∧ ∃ o, K.lookup (kdAt "dead" K) = some o ∧ o.cls = .type "tuple" := dtB_ok (T.x 13 rfl) H
theorem Tx.kd_groups (T : Tx K mg base) (H : Hp) : SqT K H (kdAt "groups" K) [] ∧ ∃ o, K.lookup (kdAt "groups" K) = some o ∧ o.cls = .type "tuple" := dtB_ok (T.x 15 rfl) H
theorem Tx.pf_names (T : Tx K mg base) : ∃ fd, FunD K "names" "Book.names" (defArgs s_Book_names) (defBody s_Book_names) (defScope s_Book_names) [] [] (prG "names" K) fd := by
  have e : (gfs.map fun q => fnAt K (q.1 K))[0]? = (gfs.map fun q => (some (q.2.2.1, q.2.2.2, defArgs q.2.1, .stmts (defBody q.2.1), defScope q.2.1, mainGlobals, [], builtinsNs) : Option (Str × Str × Arguments × FuncBody × Scope × Addr × List (Str × Addr) × Addr)))[0]? := by rw [T.g]
  exact funAt (Option.some.inj e) (List.all_eq_true.mp T.gk _ (List.mem_of_getElem? (i := 0) rfl))
theorem Tx.pf_claims (T : Tx K mg base) : ∃ fd, FunD K "claims" "Book.claims" (defArgs s_Book_claims) (defBody s_Book_claims) (defScope s_Book_claims) [] [] (prG "claims" K) fd := by
  have e : (gfs.map fun q => fnAt K (q.1 K))[1]? = (gfs.map fun q => (some (q.2.2.1, q.2.2.2, defArgs q.2.1, .stmts (defBody q.2.1), defScope q.2.1, mainGlobals, [], builtinsNs) : Option (Str × Str × Arguments × FuncBody × Scope × Addr × List (Str × Addr) × Addr)))[1]? := by rw [T.g]
  exact funAt (Option.some.inj e) (List.all_eq_true.mp T.gk _ (List.mem_of_getElem? (i := 1) rfl))
theorem Tx.pf_changes (T : Tx K mg base) : ∃ fd, FunD K "changes" "Book.changes" (defArgs s_Book_changes) (defBody s_Book_changes) (defScope s_Book_changes) [] [] (prG "changes" K) fd := by
  have e : (gfs.map fun q => fnAt K (q.1 K))[2]? = (gfs.map fun q => (some (q.2.2.1, q.2.2.2, defArgs q.2.1, .stmts (defBody q.2.1), defScope q.2.1, mainGlobals, [], builtinsNs) : Option (Str × Str × Arguments × FuncBody × Scope × Addr × List (Str × Addr) × Addr)))[2]? := by rw [T.g]
  exact funAt (Option.some.inj e) (List.all_eq_true.mp T.gk _ (List.mem_of_getElem? (i := 2) rfl))
end
end Gz
set_option maxHeartbeats 2000000
/-! Rules that the layer lacks: an own class's special methods, a lambda that is never called. -/
namespace Gz
open PySem PySem.Spec PyProof.Rows L2
section
variable {X : Cx} {k j : Nat} {C : Addr} {sp : Sp}
/-- a method run one unit deeper -/
theorem met_in1 {pins : List (Addr × Obj)} {σ : L2.St} {H : Hp} {s : Shared} {Q : VK} {us : List Value} {vs : List V} {f : Addr} {fd : FuncData} {ps : List Str} {E' : Value → Shared → Prop} (F : FnOk X.prog X.w X.K X.mg X.base C8.CX0 k f fd ps sp) (hr : Room (k + 1) X.A) (hb : Binds X.K fd ps [])
    (I : Inv X pins σ H s) (r : Vals vs us) (h : sp vs H Q C8.E0) : wpAny (model X.prog X.w) X.A.in1 (call (.ref f) us) (EP X pins σ Q) E' s := by
  have hl : (us ++ []).length = ps.length := by
    rw [List.append_nil, ← r.length]
    exact F.len _ _ _ _ h
  have b := hb s us I.kIn hl
  rw [List.append_nil] at b
  refine wpAny_call (codeAny_mono (F.run X.A.in1 X.stack s H ⟨us, []⟩ us vs Q C8.E0 hr.in1 I.env0.in1 b r h) fun r s' hq => ?_)
  cases r with
  | error e => exact False.elim hq
  | ok fl =>
    cases fl with
    | ret u => exact I.after hq
    | next => exact False.elim hq
    | brk => exact False.elim hq
    | cont => exact False.elim hq
theorem met_at {pins : List (Addr × Obj)} {σ : L2.St} {H : Hp} {s : Shared} {Q : VK} {us : List Value} {vs : List V} {f : Addr} {fd : FuncData} {ps : List Str} (F : FnOk X.prog X.w X.K X.mg X.base C8.CX0 k f fd ps sp) (hr : Room k X.A) (hb : Binds X.K fd ps [])
    (I : Inv X pins σ H s) (r : Vals vs us) (h : sp vs H Q C8.E0) : wpAny (model X.prog X.w) X.A (call (.ref f) us) (EP X pins σ Q) X.xe s :=
  run_fn F hr hb .nil C8.pass0 I r (by rw [List.append_nil]; exact h)
/-- a method by name, no default -/
structure Mt (P : Program) (w : World) (K : PySem.W.Frag) (mg : Str → Option Value) (base : Heap) (k : Nat) (C : Addr) (m : Str) (sp : Sp) : Prop where
  ex : ∃ (f : Addr) (fd : FuncData) (ps : List Str), Cls K C ∧ Meth K C m f ∧ FnOk P w K mg base C8.CX0 k f fd ps sp ∧ Binds K fd ps []
theorem Mt.met {P : Program} {w : World} {K : PySem.W.Frag} {mg : Str → Option Value} {base : Heap} {m : Str} (c : Mt P w K mg base k C m sp) : C8.Met P w K mg base k C m sp [] := by
  obtain ⟨f, fd, ps, a, b, F, d⟩ := c.ex
  exact ⟨f, fd, ps, [], a, b, F, d, .nil⟩
/-! ### len(o), x not in o, o[x], o[x] = v, repr(o), {o} -/
theorem call_lenO (c : Mt X.prog X.w X.K X.mg X.base k C "__len__" sp) (hr : Room j X.A) (hk : k + 1 ≤ j) : CallR X (.builtin "len") (fun xs H Q => ∃ a dx fs, xs = [.ref a] ∧ H a = some (.ins C dx fs) ∧ sp [.ref a] H (fun v H' => ∃ n : Nat, v = .int n ∧ n ≤ 2 ^ 60 ∧ Q (.int n) H') C8.E0) := by
  intro pins s σ H xs us Q I r h
  obtain ⟨a, dx, fs, rfl, ea, q⟩ := h
  obtain rfl := Vals.ref1 r
  obtain ⟨f, fd, ps, hc, hm, F, b⟩ := c.ex
  obtain ⟨mA, O, _, _, _, _⟩ := ins_get I.hok ea
  obtain ⟨od, J, _⟩ := O.look
  obtain ⟨m, fr⟩ := I.fr
  refine PySem.W.len_K fr I.ok.mod.kin J hm.at_ hm.fn (thn (met_in1 F (hr.mono hk) b I (Paired.cons (show RelV (.ref a) (.ref a) from rfl) .nil) q) fun u s' ⟨v, H', I', rv, n, e, hn, q'⟩ => ?_)
  subst e
  obtain ⟨t, rfl⟩ := rv
  exact ⟨⟨by omega, by have : (2 : Int) ^ 63 = 8 * 2 ^ 60 := rfl; omega⟩, .int n, H', I'.tok _, ⟨_, rfl⟩, q'⟩
theorem op_notInO (c : Mt X.prog X.w X.K X.mg X.base k C "__contains__" sp) (hr : Room j X.A) (hk : k ≤ j) : OpR X (compareOp .NotIn) (fun x y H Q => ∃ a dx fs, y = .ref a ∧ H a = some (.ins C dx fs) ∧ sp [.ref a, x] H (fun v H' => ∃ b : Bool, v = .bl b ∧ Q (.bl (!b)) H') C8.E0) := by
  intro pins s σ H x y v u Q I rx ry h
  obtain ⟨a, dx, fs, rfl, ea, q⟩ := h
  cases ry
  obtain ⟨f, fd, ps, hc, hm, F, b⟩ := c.ex
  obtain ⟨mA, O, _, _, _, _⟩ := ins_get I.hok ea
  obtain ⟨od, J, _⟩ := O.look
  obtain ⟨m, fr⟩ := I.fr
  refine PySem.W.notIn_K fr I.ok.mod.kin J hm.at_ hm.fn (thn (met_at F (hr.mono hk) b I (Paired.cons (show RelV (.ref a) (.ref a) from rfl) (.cons rx .nil)) q) fun w s' ⟨v, H', I', rv, b, e, q'⟩ => ?_)
  subst e
  cases rv
  exact wpAny_truthy_bool ⟨.bl (!b), H', I', rfl, q'⟩
def SubO (b : Expr) : Prop := ∀ x i, subscripted b true (.ref x) i = runValue (.builtin "lifetime.subscript" ⟨[.ref x, i], []⟩)
theorem pe_subO {a b : Expr} {ta tb : TE} {pos : Pos} (c : Mt X.prog X.w X.K X.mg X.base k C "__getitem__" sp) (hf : ∀ f, PySem.W.findIn X.K (.ref C) "__getitem__" = some (some (.ref f)) → PySem.W.fnIn X.K f = true) (hr : Room j X.A) (hk : k + 1 ≤ j) (ha : PE X a ta) (hb : PE X b tb) (hs : SubO b) :
    PE X (.Subscript a b pos) (tOp (fun x y H Q => ∃ a dx fs, x = .ref a ∧ H a = some (.ins C dx fs) ∧ sp [.ref a, y] H Q C8.E0) ta tb) := by
  refine ⟨fun pins s σ H Q I h => ?_⟩
  refine Subscript_ (binT ha hb I h fun v u s2 x y H2 I2 rx ry q => ?_)
  obtain ⟨a, dx, fs, rfl, ea, q⟩ := q
  cases rx
  obtain ⟨f, fd, ps, hc, hm, F, b⟩ := c.ex
  obtain ⟨mA, O, _, _, _, _⟩ := ins_get I2.hok ea
  obtain ⟨od, J, _⟩ := O.look
  obtain ⟨m, fr⟩ := I2.fr
  exact PySem.W.sub_K fr I2.ok.mod.kin J hm.at_ (hf f hm.at_) hm.fn (met_in1 F (hr.mono hk) b I2 (Paired.cons (show RelV (.ref a) (.ref a) from rfl) (.cons ry .nil)) q) (hs _ _)
theorem set_O (c : Mt X.prog X.w X.K X.mg X.base k C "__setitem__" sp) (hq : PySem.W.noSeq X.K C = true) (hr : Room j X.A) (hk : k ≤ j) : PSet X (fun o i v H Q => ∃ a dx fs, o = .ref a ∧ H a = some (.ins C dx fs) ∧ sp [.ref a, i, v] H (fun _ H' => Q H') C8.E0) := by
  intro pins s σ H o i v ov iv u Q I ro ri rv h
  obtain ⟨a, dx, fs, rfl, ea, q⟩ := h
  cases ro
  obtain ⟨f, fd, ps, hc, hm, F, b⟩ := c.ex
  obtain ⟨mA, O, _, _, _, _⟩ := ins_get I.hok ea
  obtain ⟨od, J, _⟩ := O.look
  obtain ⟨m, fr⟩ := I.fr
  exact PySem.W.ksp_setItem fr I.ok.mod.kin J hq hm.at_ hm.fn (thn (met_at F (hr.mono hk) b I (Paired.cons (show RelV (.ref a) (.ref a) from rfl) (.cons ri (.cons rv .nil))) q) fun w s' ⟨_, H', I', _, q'⟩ => ⟨H', I', q'⟩)
theorem in1_units {A : Around} {k : Nat} (hr : Room k A) : A.in1.units < cLine := by
  have := hr.units
  show A.units + 1 < cLine
  omega
theorem call_reprO (c : Mt X.prog X.w X.K X.mg X.base k C "__repr__" sp) (hr : Room j X.A) (hk : k + 1 ≤ j) : CallR X (.builtin "repr") (fun xs H Q => ∃ a dx fs, xs = [.ref a] ∧ H a = some (.ins C dx fs) ∧ sp [.ref a] H (fun v H' => ∃ z : Str, v = .str z ∧ Q (.str z) H') C8.E0) := by
  intro pins s σ H xs us Q I r h
  obtain ⟨a, dx, fs, rfl, ea, q⟩ := h
  obtain rfl := Vals.ref1 r
  obtain ⟨f, fd, ps, hc, hm, F, b⟩ := c.ex
  obtain ⟨mA, O, _, _, _, _⟩ := ins_get I.hok ea
  obtain ⟨od, J, _⟩ := O.look
  obtain ⟨m, fr⟩ := I.fr
  refine PySem.W.repr_K (in1_units hr) fr I.ok.mod.kin J hm.at_ hm.fn (thn (met_in1 F (hr.mono hk) b I (Paired.cons (show RelV (.ref a) (.ref a) from rfl) .nil) q) fun u s' ⟨v, H', I', rv, z, e, q'⟩ => ?_)
  subst e
  obtain ⟨t, rfl⟩ := rv
  exact ⟨.str z, H', I', ⟨t, rfl⟩, q'⟩
theorem pe_fmtO {e : Expr} {te : TE} {pos : Pos} (c : Mt X.prog X.w X.K X.mg X.base k C "__str__" sp) (hfm : PySem.W.findIn X.K (.ref C) "__format__" = some (some (.builtin "object.__format__"))) (hmr : PySem.W.mroIn X.K C (.type "object") = some true) (hr : Room j X.A) (hk : k + 1 ≤ j) (he : PE X e te) :
    PE X (.FormattedValue e (-1) none pos) (fun σ H Q => te σ H fun x H1 => ∃ a dx fs, x = .ref a ∧ H1 a = some (.ins C dx fs) ∧ sp [.ref a] H1 (fun v H' => ∃ z : Str, v = .str z ∧ Q (.str z) H') C8.E0) := by
  refine ⟨fun pins s σ H Q I h => ?_⟩
  refine wpAny_FormattedValue_plain (thn (he.run pins s σ H _ I h) fun u s1 ⟨x, H1, I1, rx, a, dx, fs, ex, ea, q⟩ => ?_)
  subst ex
  cases rx
  obtain ⟨f, fd, ps, hc, hm, F, b⟩ := c.ex
  obtain ⟨mA, O, _, _, _, _⟩ := ins_get I1.hok ea
  obtain ⟨od, J, _⟩ := O.look
  refine PySem.W.kfo_fieldS (in1_units hr) I1.kIn J hfm hmr hm.at_ hm.fn (thn (met_in1 F (hr.mono hk) b (I1.tok (s1.toks + 1)) (Paired.cons (show RelV (.ref a) (.ref a) from rfl) .nil) q) fun u s' ⟨v, H', I', rv, z, e, q'⟩ => ?_)
  subst e
  obtain ⟨t, rfl⟩ := rv
  exact ⟨.str z, H', I', ⟨t, rfl⟩, q'⟩
/-! ### a lambda that is handed on -/
theorem lamF {sc scope : Scope} (h : (scope.names.all fun y => !decide (y.2 = .free) || decide (sc.names.lookup y.1 = some .cell)) = true) : ∀ y ∈ scope.names, y.2 = .free → sc.names.lookup y.1 = some .cell ∨ sc.names.lookup y.1 = some .free := fun y hy hf => by
  have h1 := List.all_eq_true.mp h y hy
  rw [hf] at h1
  exact .inl (of_decide_eq_true (by simpa using h1))
theorem pe_lam {T : List (Addr × Str)} {c P : Addr} {params : Arguments} {body : Expr} {scope : Scope} {pos : Pos} (TB : LamX.TabB X.base X.mg c P) (hcode : X.env.code = .ref c) (hm : (P, X.env.qual ++ "<lambda>") ∈ T) (hu : ∀ p ∈ T, p.1 = P → p.2 = X.env.qual ++ "<lambda>")
    (hdef : defaultsOf params X.env = ([], [])) (hL : ∀ y ∈ scope.names, y.2 = .free → X.env.scope.names.lookup y.1 = some .cell ∨ X.env.scope.names.lookup y.1 = some .free) :
    PE X (.Lambda params body scope pos) (fun _ H Q => LamX.Tabs T H ∧ ∀ f H1, LamX.ExtN H H1 → LamX.Tabs T H1 → Q (.ref f) H1) := by
  refine ⟨fun pins s σ H Q I h => ?_⟩
  exact LamX.lam_make2 I TB hcode hm hu h.1 hdef (fun y hy h => I.ok.has y.1 (hL y hy h)) fun f c' pm ctv H1 s' I1 e t _ _ _ _ => ⟨.ref f, H1, I1, rfl, h.2 f H1 e t⟩
end
end Gz
set_option maxHeartbeats 2000000
/-! More rules: enumerate of tuples and texts, stores into attributes within an unpacking. -/
namespace Gz
open PySem PySem.Spec PyProof.Rows L2
/-! ### built-ins by name -/
theorem bt_len : bootBuiltins "len" = some (.builtin "len") := by decide +kernel
theorem bt_isinstance : bootBuiltins "isinstance" = some (.builtin "isinstance") := by decide +kernel
theorem bt_all : bootBuiltins "all" = some (.builtin "all") := by decide +kernel
theorem bt_any : bootBuiltins "any" = some (.builtin "any") := by decide +kernel
theorem bt_abs : bootBuiltins "abs" = some (.builtin "abs") := by decide +kernel
theorem bt_min : bootBuiltins "min" = some (.builtin "min") := by decide +kernel
theorem bt_max : bootBuiltins "max" = some (.builtin "max") := by decide +kernel
theorem bt_repr : bootBuiltins "repr" = some (.builtin "repr") := by decide +kernel
theorem bt_sorted : bootBuiltins "sorted" = some (.builtin "sorted") := by decide +kernel
theorem bt_int : bootBuiltins "int" = some (.type "int") := by decide +kernel
theorem bt_str : bootBuiltins "str" = some (.type "str") := by decide +kernel
theorem bt_tuple : bootBuiltins "tuple" = some (.type "tuple") := by decide +kernel
theorem bt_list : bootBuiltins "list" = some (.type "list") := by decide +kernel
theorem bt_dict : bootBuiltins "dict" = some (.type "dict") := by decide +kernel
theorem bt_set : bootBuiltins "set" = some (.type "set") := by decide +kernel
theorem bt_bool : bootBuiltins "bool" = some (.type "bool") := by decide +kernel
theorem bt_enumerate : bootBuiltins "enumerate" = some (.type "enumerate") := by decide +kernel
/-! ### small words -/
theorem locV {sc : Scope} {x : Str} (h : Loc sc x := by first | exact Or.inl rfl | exact Or.inr rfl) : Loc sc x := h
theorem u64 {A : Around} {k : Nat} (hr : Room k A) : A.units + 64 < cLine := hr.units
section
variable {X : Cx}
theorem pe_never {e : Expr} : PE X e (fun _ _ _ => False) := ⟨fun _ _ _ _ _ _ h => h.elim⟩
theorem pt_never {e : Expr} : PT X e (fun _ _ _ => False) := ⟨fun _ _ _ _ _ _ h => h.elim⟩
theorem pe_mk0 {k j : Nat} {x : Str} {C : Addr} {sp : Sp} {p pos : Pos} (c : C8.Mak X.prog X.w X.K X.mg X.base k x C sp []) (hr : Room j X.A) (hk : k + 1 ≤ j) (hg : Gl X x) (hdb : (x == ("__debug__" : Str)) = false := by decide) :
    PE X (.Call (.Name x p) [] [] pos) (tMake C sp [] C8.E0 tNil) := by
  obtain ⟨f, fd, ps, ds, M, F, hm, b, d⟩ := c.ex
  exact pe_make0 M F (hr.mono hk) hg hm b d C8.pass0 hdb
/-- o.f as a target -/
def gAttr (K : PySem.W.Frag) (to : TE) (f : Str) : TG := fun v σ H Q => to σ H fun x H1 => ∃ a C dx fs, x = .ref a ∧ H1 a = some (.ins C dx fs) ∧ Cls K C ∧ NoAttr K C f ∧ fs.length < 1000 ∧ Q σ (upd H1 a (.ins C dx (putF f v fs)))
theorem pg_attr {o : Expr} {f : Str} {to : TE} {pos : Pos} (ho : PE X o to) (ha : ∀ v, assign (.Attribute o f pos) X.env v = (do
      let ov ← holding [v] (eval o X.env)
      standAt pos.atName
      holding [v, ov] (setAttr ov f v)
      release [v, ov] []) := by intro _; rfl) : PG X (.Attribute o f pos) (gAttr X.K to f) := by
  refine ⟨fun pins s σ H v u Q I r h => ?_⟩
  rw [ha]
  refine wpAny_bind (wpAny_holding (thn (ho.run pins s σ H _ I h) fun ov s1 ⟨x, H1, I1, r1, a, C, dx, fs, ex, ea, c, n, l, q⟩ => ?_))
  subst ex
  obtain rfl : ov = Value.ref a := r1
  refine wpAny_bind (wpAny_standAt (wpAny_bind (wpAny_holding (setattr_ok I1 ea c n l r fun s2 I2 => wpAny_release ⟨σ, _, I2, q⟩))))
end
/-! ### enumerate -/
/-- n pairs (i, f i), each a new tuple, while G stands -/
def ItE (G : Hp → Prop) (n : Nat) (f : Nat → V) : It := ⟨fun i H => G H ∧ i < n, fun i H v H' => ∃ T, v = .ref T ∧ H T = none ∧ H' = upd H T (.tup [.int (i : Nat), f i]), fun i H => G H ∧ i = n⟩
theorem walk_E {G : Hp → Prop} {n : Nat} {f : Nat → V} : Walk (ItE G n f) n G (fun i H v H' => ∃ T, v = .ref T ∧ H T = none ∧ H' = upd H T (.tup [.int (i : Nat), f i])) where
  goes := fun i H hi hG => ⟨hG, hi⟩
  stops := fun H hG => ⟨hG, rfl⟩
  yields := fun i H x H' hi hG h => h
/-- the draws of an iterator that the heap tells: St, by what G says of the heap -/
theorem turn_E {P : Program} {w : World} {K : PySem.W.Frag} {elts : List Expr} {kk : Nat} {tpos : Pos} {G : Hp → Prop} {n : Nat} {f : Nat → V} (e it : Addr) (S : Nat → Heap → Prop)
    (hobj : ∀ i h, S i h → ∃ o, h.get? it = some o ∧ ∀ v, o.data ≠ .cell v) (hkeep : ∀ i h h', S i h → (∀ o, h.get? it = some o → h'.get? it = some o) → S i h')
    (hD : ∀ (X : Cx) (pins : List (Addr × Obj)) (s : Shared) (σ : L2.St) (H : Hp) (A : Around), X.prog = P → X.w = w → X.K = K → A.handled = none → Inv X pins σ H s → G H → H e = none → ∃ (fp : List Addr) (Pd : Nat → Value → Prop) (S' : Nat → Heap → Prop), Draws P w A it fp n Pd S' ∧ e ∉ fp ∧ (∀ i x, Pd i x → RelV (f i) x) ∧ (∀ i h, S' i h → S i h) ∧ ∀ i, S i s.heap → S' i s.heap) :
    Turn P w K (.Tuple elts kk tpos) (ItE G n f) [e, it] e (fun i h => (∃ old, IsEnum h e it ((i : Nat) : Int) old) ∧ S i h ∧ e ≠ it) where
  mem := by simp
  obj := fun i h st b hb => by
    obtain ⟨⟨old, he⟩, hS, _⟩ := st
    have e' : b = e ∨ b = it := by simpa using hb
    rcases e' with z | z
    · rw [z]; exact ⟨_, he, fun v q => nomatch q⟩
    · rw [z]; exact hobj i h hS
  keep := fun i h h' st k => let ⟨⟨old, he⟩, hS, hne⟩ := st; ⟨⟨old, k e (by simp) _ he⟩, hkeep i h h' hS fun o q => k it (by simp) o q, hne⟩
  item := by
    intro X hP hw hK hc i pins s σ H E I hf st hg
    obtain ⟨⟨old, he⟩, hS, hne⟩ := st
    obtain ⟨fp, Pd, S', D, hef, hrel, hS1, hS2⟩ := hD X pins s σ H X.A.in1 hP hw hK (I.ok.hd hc) I hg.1 (hf e (by simp)).1
    subst hP hw hK
    have hel : e < s.heap.objs.size := Heap.lt_size he
    have hil : it < s.heap.objs.size := by obtain ⟨o, q, _⟩ := hobj i s.heap hS; exact Heap.lt_size q
    refine wpAny_pyNext_enum_itemD D he (hS2 i hS) hg.2 hne hef fun x h' tk hx ho hit' hT hsz hk => ?_
    have ru := hrel i x hx
    refine ⟨_, rfl, wpAny_letOwnedTupleGo_enum (s := { s with heap := h', toks := tk + 1 }) ho fun h'' he' sb => ?_⟩
    have hT2 : h''.get? s.heap.objs.size = some { cls := .type "tuple", data := .seq #[.int i tk, x] } := (sb.2 _ (Nat.ne_of_gt hel)).trans hT
    have new : ObjOk X.prog X.w (upd H s.heap.objs.size (.tup [.int (i : Nat), f i])) h'' s.heap.objs.size (.tup [.int (i : Nat), f i]) :=
      ⟨by show 2 ≤ sizeLine; decide, [.int i tk, x], .cons ⟨_, rfl⟩ (.cons ru .nil), ⟨_, hT2, rfl, _, rfl⟩⟩
    have I1 : Inv X pins σ (upd H s.heap.objs.size (.tup [.int (i : Nat), f i])) { s with heap := h'', toks := tk + 1 } :=
      I.turnedNew (ch := [e, it]) (fun b ob hb q => (sb.2 b (fun z => hb (by simp [z]))).trans (hk b ob (fun z => hb (by simp [z])) (fun z => hb (by simp [z])) q)) hf (Nat.le_refl _) new
    refine ⟨.ref s.heap.objs.size, _, I1, rfl, ⟨_, rfl, I.hok.fresh (Nat.le_refl _), rfl⟩, ⟨⟨x, ?_⟩, hkeep _ _ _ (hS1 _ _ hit') fun o q => (sb.2 it (Ne.symm hne)).trans q, hne⟩, fun b hb => ?_⟩
    · have e1 : ((i + 1 : Nat) : Int) = (i : Int) + 1 := by omega
      rw [e1]; exact he'
    · have hb' : b < s.heap.objs.size := by
        have e' : b = e ∨ b = it := by simpa using hb
        rcases e' with z | z
        · rw [z]; exact hel
        · rw [z]; exact hil
      rw [upd_ne (Nat.ne_of_lt hb')]
      exact (hf b hb).1
  done := by
    intro X hP hw hK hc i pins s σ H E I hf st hg
    obtain ⟨⟨old, he⟩, hS, hne⟩ := st
    obtain ⟨fp, Pd, S', D, hef, hrel, hS1, hS2⟩ := hD X pins s σ H X.A.in1 hP hw hK (I.ok.hd hc) I hg.1 (hf e (by simp)).1
    obtain ⟨hG, rfl⟩ := hg
    subst hP hw hK
    obtain ⟨f0, f1, f2, f3, f4, f5⟩ := hf it (by simp)
    exact wpAny_pyNext_enum_endD D he (hS2 i hS) fun h' eb => ⟨rfl, I.turned (t' := s.toks) (fun b o hb q => eb b o hb q) f0 f1 f3 f4 f5⟩
  self := fun A i s Q E st h => let ⟨⟨_, he⟩, _⟩ := st; wpAny_pyIter_enum he h
/-! #### over a tuple -/
theorem meets_enum1 {v : Value} {o : Obj} {G : Heap → Prop} (B : Begins v o G) :
    Meets (Builtin.«enumerate.__new__» ⟨[.type "enumerate", v], []⟩) (fun _ R s => G s.heap ∧
      R (.ok (.ret (.ref (s.heap.push o).objs.size))) { s with heap := (s.heap.push o).push { cls := .type "enumerate", data := .fields #[.none, .bool false, .ref s.heap.objs.size, rawInt 0, .none, .none] } }) :=
  .of_wp fun prog w A R s h => by
    obtain ⟨hp, g, d, tk, os⟩ := s
    obtain ⟨h1, h⟩ := h
    have hsub := sub_enumerate
    have q1 : ∀ {A' : Around} {E : Value → Shared → Prop} {Q : Value → Shared → Prop}, Q (.ref hp.objs.size) ⟨hp.push o, g, d, tk, os⟩ → wpAny (model prog w) A' (pyIter v) Q E ⟨hp, g, d, tk, os⟩ :=
      fun q => B.iter prog w _ _ ⟨hp, g, d, tk, os⟩ _ h1 q
    wp_walk using q1
    refine wpAny_stack_any fun st => wpAny_pure ?_
    split
    · rename_i c _ _ _ _ _
      cases (c == Value.type "enumerate")
      · wp_walk using q1
        exact ⟨_, rfl, h⟩
      · wp_walk using q1
        exact ⟨_, rfl, h⟩
    · wp_walk using q1
      exact ⟨_, rfl, h⟩
theorem call_enum1 {prog : Program} {w : World} {A : Around} {E : Value → Shared → Prop} {s : Shared} {v : Value} {o : Obj} {G : Heap → Prop} {Q : Value → Shared → Prop} (B : Begins v o G) (h1 : G s.heap)
    (h : ∀ h', IsEnum h' (s.heap.objs.size + 1) s.heap.objs.size 0 .none → h'.get? s.heap.objs.size = some o → (∀ b o, s.heap.get? b = some o → h'.get? b = some o) → Q (.ref (s.heap.objs.size + 1)) { s with heap := h' }) :
    wpAny (model prog w) A (call (.type "enumerate") [v]) Q E s := by
  refine callType_new F.called_enumerate (by decide) (F.typeCall_enumerate_1 _) (F.newCall_enumerate_1 _) (fun obj => F.args_object_init_2 obj _) F.entry_enumerate_new (meets_enum1 B) ⟨h1, ?_⟩
  have hz : (s.heap.push o).objs.size = s.heap.objs.size + 1 := Heap.size_push ..
  show _ ∧ _
  rw [hz]
  have he : IsEnum ((s.heap.push o).push { cls := .type "enumerate", data := .fields #[.none, .bool false, .ref s.heap.objs.size, rawInt 0, .none, .none] }) (s.heap.objs.size + 1) s.heap.objs.size 0 .none := by
    have := Heap.get?_push_size (s.heap.push o) (o := { cls := .type "enumerate", data := .fields #[.none, .bool false, .ref s.heap.objs.size, rawInt 0, .none, .none] }) rfl
    rw [hz] at this
    exact this
  exact ⟨⟨_, he, rfl⟩, h _ he (Heap.get?_push_of_some _ (Heap.get?_push_size _ B.free)) fun b o x => Heap.get?_push_of_some _ (Heap.get?_push_of_some _ x)⟩
/-- the pairs of a tuple's items -/
def iEnumT (K : PySem.W.Frag) (ta : TA) : TI := fun σ H R => ta σ H fun vs H1 => ∃ a xs, vs = [.ref a] ∧ SqT K H1 a xs ∧ R (ItE (fun H => SqT K H a xs) xs.length (fun i => xs.getD i .non)) H1
theorem pi_enumT {X : Cx} {e : Expr} {ta : TA} {p pos tpos : Pos} {elts : List Expr} {kk : Nat} (hg : Gl X "enumerate") (hm : X.mg "enumerate" = none) (ha : PA X [e] ta) (hs : starEach [e] X.env = [(false, eval e X.env)] := by rfl) :
    PI X (.Tuple elts kk tpos) (.Call (.Name "enumerate" p) [e] [] pos) (iEnumT X.K ta) := by
  refine ⟨fun pins s σ H R I h => ?_⟩
  refine Call_ (ld_blt I hg hm bt_enumerate (PyProof.Rows.callWith_type1 (thn (ha.run pos pins s σ H _ I h) fun us s1 ⟨vs, H1, I1, r1, q1⟩ => ?_) hs rfl))
  obtain ⟨a, xs, ex, hq, q⟩ := q1
  subst ex
  obtain rfl := Vals.ref1 r1
  obtain ⟨its, rv, p', hz⟩ := I1.tuple hq
  refine call_enum1 (begins_tuple a its.toArray) (show s1.heap.IsTuple a its.toArray from p') fun h' he hit hk => wpAny_pyIter_enum he ?_
  have I2 : Inv X pins σ H1 { s1 with heap := h' } := I1.kept (t' := s1.toks) hk
  refine ⟨s1.heap.objs.size + 1, [s1.heap.objs.size + 1, s1.heap.objs.size], _, _, H1, rfl, I2, turn_E (s1.heap.objs.size + 1) s1.heap.objs.size (fun i h => h.IsTupleIter s1.heap.objs.size a i) ?_ ?_ ?_, ⟨⟨.none, he⟩, ⟨_, hit, rfl, rfl⟩, Nat.succ_ne_self _⟩, fun b hb => ?_, q⟩
  · intro i h ⟨o, e, c, d⟩
    exact ⟨o, e, fun v z => by rw [d] at z; cases z⟩
  · exact fun i h h' st k => st.at fun o e => k o e
  · intro X' pins' s' σ' H' A' hP hw hK hh I' hG hn
    rw [← hK] at hG
    obtain ⟨its', rv', p2, _⟩ := I'.tuple hG
    have hne : a ≠ s1.heap.objs.size := fun z => by
      have : s1.heap.get? a ≠ none := by obtain ⟨o, ho, _⟩ := p'; rw [ho]; exact fun z => nomatch z
      rw [z] at this
      exact this (by
        cases q : s1.heap.get? s1.heap.objs.size with
        | none => rfl
        | some o => exact absurd (Heap.lt_size q) (Nat.lt_irrefl _))
    have hl := rv'.length
    have hp : s'.heap.IsTuple a its'.toArray := p2
    have D := Draws.tuple (prog := X.prog) (w := X.w) hh s1.heap.objs.size a hne its'.toArray
    have hsz : its'.toArray.size = xs.length := by simp [hl]
    rw [hsz] at D
    refine ⟨_, _, _, D, fun z => ?_, fun i x hx => ?_, fun i h st => st.1, fun i st => ⟨st, hp⟩⟩
    · have z' : s1.heap.objs.size + 1 = s1.heap.objs.size ∨ s1.heap.objs.size + 1 = a := by simpa using z
      rcases z' with z' | z'
      · exact Nat.succ_ne_self _ z'
      · have : a < s1.heap.objs.size := by obtain ⟨o, ho, _⟩ := p'; exact Heap.lt_size ho
        rw [← z'] at this
        exact Nat.lt_irrefl _ (Nat.lt_of_succ_lt this)
    · have hx' : its'[i]? = some x := by simpa using hx
      have hi : i < xs.length := by
        rw [hl]
        exact (List.getElem?_eq_some_iff.mp hx').1
      obtain ⟨u, hu, ru⟩ := rv'.get (List.getElem?_eq_getElem hi)
      rw [hx'] at hu
      cases hu
      rw [List.getD_eq_getElem?_getD, List.getElem?_eq_getElem hi]
      exact ru
  · have e' : b = s1.heap.objs.size + 1 ∨ b = s1.heap.objs.size := by simpa using hb
    have hle : s1.heap.objs.size ≤ b := by
      rcases e' with z | z
      · rw [z]; exact Nat.le_add_right _ _
      · rw [z]; exact Nat.le_refl _
    exact I1.fpOk hle (I1.hok.fresh hle)
/-! #### over a text -/
def iEnumS (ta : TA) : TI := fun σ H R => ta σ H fun vs H1 => ∃ l : List Nat, vs = [.str (SX.S l)] ∧ R (ItE (fun _ => True) l.length (fun i => .str (SX.S [l.getD i 0]))) H1
theorem pi_enumS {X : Cx} {e : Expr} {ta : TA} {p pos tpos : Pos} {elts : List Expr} {kk : Nat} (hg : Gl X "enumerate") (hm : X.mg "enumerate" = none) (ha : PA X [e] ta) (hs : starEach [e] X.env = [(false, eval e X.env)] := by rfl) :
    PI X (.Tuple elts kk tpos) (.Call (.Name "enumerate" p) [e] [] pos) (iEnumS ta) := by
  refine ⟨fun pins s σ H R I h => ?_⟩
  refine Call_ (ld_blt I hg hm bt_enumerate (PyProof.Rows.callWith_type1 (thn (ha.run pos pins s σ H _ I h) fun us s1 ⟨vs, H1, I1, r1, q1⟩ => ?_) hs rfl))
  obtain ⟨l, ex, q⟩ := q1
  subst ex
  obtain ⟨u, rfl, t, rfl⟩ := Vals.one r1
  refine call_enumerate_str fun h' he hit hsz hk => wpAny_pyIter_enum he ?_
  have I2 : Inv X pins σ H1 { s1 with heap := h' } := I1.kept (t' := s1.toks) hk
  refine ⟨s1.heap.objs.size + 1, [s1.heap.objs.size + 1, s1.heap.objs.size], _, _, H1, rfl, I2, turn_E (s1.heap.objs.size + 1) s1.heap.objs.size (fun i h => h.IsStrIter s1.heap.objs.size (strIterType (SX.S l)) (SX.S l) t i) ?_ ?_ ?_, ⟨⟨.none, he⟩, hit, Nat.succ_ne_self _⟩, fun b hb => ?_, q⟩
  · intro i h ⟨o, e, c, d⟩
    exact ⟨o, e, fun v z => by rw [d] at z; cases z⟩
  · exact fun i h h' st k => let ⟨o, ho, r⟩ := st; ⟨o, k o ho, r⟩
  · intro X' pins' s' σ' H' A' hP hw hK hh I' hG hn
    have D := Draws.text (prog := X.prog) (w := X.w) hh s1.heap.objs.size (SX.S l) t
    have hsz : (SX.S l).cps.size = l.length := by simp
    rw [hsz] at D
    refine ⟨_, _, _, D, fun z => ?_, fun i x hx => ?_, fun i h st => st, fun i st => st⟩
    · have z' : s1.heap.objs.size + 1 = s1.heap.objs.size := by simpa using z
      exact Nat.succ_ne_self _ z'
    · obtain ⟨c, u, hc, rfl⟩ := hx
      have hc' : l[i]? = some c := by simpa using hc
      rw [List.getD_eq_getElem?_getD, hc']
      exact ⟨u, rfl⟩
  · have e' : b = s1.heap.objs.size + 1 ∨ b = s1.heap.objs.size := by simpa using hb
    have hle : s1.heap.objs.size ≤ b := by
      rcases e' with z | z
      · rw [z]; exact Nat.le_add_right _ _
      · rw [z]; exact Nat.le_refl _
    exact I1.fpOk hle (I1.hok.fresh hle)
end Gz
set_option maxHeartbeats 2000000
/-! What stands in the heap: records, glances, readings, lists of pairs; the heaps that grow. -/
namespace Gz
open PySem PySem.Spec PyProof.Rows L2
/-! ### heaps that grow -/
theorem same_new {H : Hp} {p : Addr} {o : HO} (n : H p = none) : Same H (upd H p o) := fun b u h => by rw [upd_ne (ne_of_none h n)]; exact h
/-- a new object, the heap as a variable -/
theorem newG {H : Hp} {p : Addr} {o : HO} {G : Hp → Prop} (n : H p = none) (h : ∀ H1, Same H H1 → H1 p = some o → G H1) : G (upd H p o) := h _ (same_new n) upd_same
/-- a new object of the def's own is changed -/
theorem same_put {H0 H : Hp} {p : Addr} {o : HO} (e : Same H0 H) (n : H0 p = none) : Same H0 (upd H p o) := fun b u h => by
  rw [upd_ne (ne_of_none h n)]
  exact e b u h
/-- all but the thing at d stays -/
def Sab (d : Addr) (H H' : Hp) : Prop := ∀ b o, b ≠ d → H b = some o → H' b = some o
theorem Sab.refl (d : Addr) (H : Hp) : Sab d H H := fun _ _ _ h => h
theorem Sab.trans {d : Addr} {H H1 H2 : Hp} (a : Sab d H H1) (b : Sab d H1 H2) : Sab d H H2 := fun c o n h => b c o n (a c o n h)
theorem Sab.of {d : Addr} {H H' : Hp} (e : Same H H') : Sab d H H' := fun b o _ h => e b o h
theorem Sab.put {d : Addr} {H H' : Hp} {o : HO} (e : Sab d H H') : Sab d H (upd H' d o) := fun b u n h => by
  rw [upd_ne n]
  exact e b u n h
theorem sab_put {d : Addr} {H : Hp} {o : HO} : Sab d H (upd H d o) := (Sab.refl d H).put
/-- a thing of the def's own -/
theorem Sab.own {d p : Addr} {H0 H : Hp} {o : HO} (e : Sab d H0 H) (n : H0 p = none) : Sab d H0 (upd H p o) := fun b u nb h => by
  rw [upd_ne (ne_of_none h n)]
  exact e b u nb h
section
variable {K : PySem.W.Frag} {H H' : Hp}
theorem Rd.ext {a : Addr} {u : HO} (e : Same H H') (h : Rd H a u) : Rd H' a u := by
  rcases h with h | ⟨o, h⟩
  · exact .inl (e _ _ h)
  · exact .inr ⟨o, e _ _ h⟩
theorem SqT.ext {a : Addr} {xs : List V} (e : Same H H') (h : SqT K H a xs) : SqT K H' a xs := by
  rcases h with h | h
  · exact .inl (Rd.ext e h)
  · exact .inr h
/-- what is known of tuples alone stays whatever is written -/
def SameT (H H' : Hp) : Prop := ∀ b xs, H b = some (.tup xs) → H' b = some (.tup xs)
theorem SameT.of (e : Same H H') : SameT H H' := fun b xs h => e b _ h
theorem SameT.trans {H1 H2 : Hp} (a : SameT H H1) (b : SameT H1 H2) : SameT H H2 := fun c xs h => b c xs (a c xs h)
theorem SameT.refl (H : Hp) : SameT H H := fun _ _ h => h
theorem SameT.sab {d : Addr} (e : Sab d H H') {o : HO} (h : H d = some o) (n : ∀ xs, o ≠ .tup xs) : SameT H H' := fun b xs hb => e b _ (fun z => by
  rw [z, h] at hb
  exact n xs (Option.some.inj hb)) hb
/-- a tuple: tracked, or of the text -/
def Tup (K : PySem.W.Frag) (H : Hp) (a : Addr) (xs : List V) : Prop := H a = some (.tup xs) ∨ (∃ o, K.lookup a = some o ∧ o.cls = .type "tuple") ∧ ∀ H1 : Hp, SqT K H1 a xs
theorem Tup.sq {a : Addr} {xs : List V} (h : Tup K H a xs) : SqT K H a xs := by
  rcases h with h | ⟨_, h⟩
  · exact SqT.of h
  · exact h H
theorem Tup.ext {a : Addr} {xs : List V} (e : SameT H H') (h : Tup K H a xs) : Tup K H' a xs := by
  rcases h with h | h
  · exact .inl (e _ _ h)
  · exact .inr h
theorem Tup.ty {a : Addr} {xs : List V} (h : Tup K H a xs) : TyX K H (.ref a) (.type "tuple") := by
  rcases h with h | ⟨⟨o, h1, h2⟩, _⟩
  · exact .base (.tup h)
  · exact .kTuple h1 h2
/-! ### glances, what is told, records -/
/-- a tuple of glances -/
def GlT (K : PySem.W.Frag) (H : Hp) (a : Addr) (gl : List (Int × List Nat)) : Prop := ∃ as : List Addr, Tup K H a (as.map V.ref) ∧ Paired (fun b (g : Int × List Nat) => Tup K H b [.int g.1, .str (SX.S g.2)]) as gl
theorem Paired.imp {α β : Type} {F G : α → β → Prop} {l1 : List α} {l2 : List β} (h : Paired F l1 l2) (k : ∀ a b, F a b → G a b) : Paired G l1 l2 := Paired.mapP h k
theorem GlT.ext {a : Addr} {gl : List (Int × List Nat)} (e : SameT H H') (h : GlT K H a gl) : GlT K H' a gl := by
  obtain ⟨as, h1, h2⟩ := h
  exact ⟨as, h1.ext e, Paired.imp h2 fun _ _ z => z.ext e⟩
/-- what is told of a record without dead places and groups -/
structure Told (K : PySem.W.Frag) (H : Hp) (r : Rec) (d ps gs gl : Addr) : Prop where
  d : Tup K H d []
  ps : Tup K H ps [.int r.p]
  gs : Tup K H gs []
  gl : GlT K H gl r.gl
theorem Told.ext {r : Rec} {d ps gs gl : Addr} (e : SameT H H') (h : Told K H r d ps gs gl) : Told K H' r d ps gs gl := ⟨h.d.ext e, h.ps.ext e, h.gs.ext e, h.gl.ext e⟩
def toldL (r : Rec) (d ps gs gl : Addr) : List V := [.int (r.W : Int), .ref d, .int (r.lo : Int), .int (r.hi : Int), .ref ps, .ref gs, .ref gl]
/-- the tuple of seven -/
def RecT (K : PySem.W.Frag) (H : Hp) (a : Addr) (r : Rec) : Prop := ∃ d ps gs gl, H a = some (.tup (toldL r d ps gs gl)) ∧ Told K H r d ps gs gl
theorem RecT.ext {a : Addr} {r : Rec} (e : SameT H H') (h : RecT K H a r) : RecT K H' a r := by
  obtain ⟨d, ps, gs, gl, h1, h2⟩ := h
  exact ⟨d, ps, gs, gl, e _ _ h1, h2.ext e⟩
def recF (r : Rec) (t d ps gs gl : Addr) : List (Str × V) := [("told", .ref t), ("width", .int (r.W : Int)), ("dead", .ref d), ("least", .int (r.lo : Int)), ("most", .int (r.hi : Int)), ("paces", .ref ps), ("groups", .ref gs), ("glances", .ref gl)]
/-- a record, its parts named -/
structure RecP (K : PySem.W.Frag) (H : Hp) (a dx t d ps gs gl : Addr) (r : Rec) : Prop where
  o : H a = some (.ins (He.ga K "Record") dx (recF r t d ps gs gl))
  x : H dx = some (.own a)
  t : H t = some (.tup (toldL r d ps gs gl))
  p : Told K H r d ps gs gl
def RecO (K : PySem.W.Frag) (H : Hp) (a : Addr) (r : Rec) : Prop := ∃ dx t d ps gs gl, RecP K H a dx t d ps gs gl r
theorem RecP.ext {a dx t d ps gs gl : Addr} {r : Rec} (e : Same H H') (h : RecP K H a dx t d ps gs gl r) : RecP K H' a dx t d ps gs gl r := ⟨e _ _ h.o, e _ _ h.x, e _ _ h.t, h.p.ext (.of e)⟩
theorem RecO.ext {a : Addr} {r : Rec} (e : Same H H') (h : RecO K H a r) : RecO K H' a r := by
  obtain ⟨dx, t, d, ps, gs, gl, h⟩ := h
  exact ⟨dx, t, d, ps, gs, gl, h.ext e⟩
/-! ### lists of tuples -/
/-- a list of tuples, each as F tells -/
def TupL (H : Hp) (a : Addr) {α : Type} (F : α → List V) (l : List α) : Prop := ∃ as : List Addr, H a = some (.lst (as.map V.ref)) ∧ Paired (fun b (x : α) => H b = some (.tup (F x))) as l
theorem TupL.ext {a : Addr} {α : Type} {F : α → List V} {l : List α} (e : Same H H') (h : TupL H a F l) : TupL H' a F l := by
  obtain ⟨as, h1, h2⟩ := h
  exact ⟨as, e _ _ h1, Paired.imp h2 fun _ _ z => e _ _ z⟩
/-- a reading -/
def rdV (x : Int × Nat × Nat) : List V := [.int x.1, .int (x.2.1 : Int), .str (SX.S [x.2.2])]
abbrev RdsL (H : Hp) (a : Addr) (rs : List (Int × Nat × Nat)) : Prop := TupL H a rdV rs
/-- a length and a pace -/
def prV (p : Int) (L : Nat) : List V := [.int (L : Int), .int p]
abbrev PrsL (H : Hp) (a : Addr) (p : Int) (Ls : List Nat) : Prop := TupL H a (prV p) Ls
/-- a dict of letters left: what is not in it is all -/
def DictF (H : Hp) (d : Addr) (F : Int → List Nat) : Prop := ∃ kvs : List (Key × V), H d = some (.dK kvs) ∧ ∀ n : Int, (valV kvs (.inl n)).getD (.str (SX.S al)) = .str (SX.S (F n))
theorem DictF.ext {d : Addr} {F : Int → List Nat} (e : Same H H') (h : DictF H d F) : DictF H' d F := by
  obtain ⟨kvs, h1, h2⟩ := h
  exact ⟨kvs, e _ _ h1, h2⟩
/-- what is left for each length that can be -/
def AllL (H : Hp) (a : Addr) (r : Rec) (Ls : List Nat) : Prop := ∃ as : List Addr, H a = some (.lst (as.map V.ref)) ∧ Paired (fun b (L : Nat) => ∃ d, H b = some (.tup [.int (L : Int), .int r.p, .ref d]) ∧ DictF H d (r.F L)) as Ls
theorem AllL.ext {a : Addr} {r : Rec} {Ls : List Nat} (e : Same H H') (h : AllL H a r Ls) : AllL H' a r Ls := by
  obtain ⟨as, h1, h2⟩ := h
  exact ⟨as, e _ _ h1, Paired.imp h2 fun _ _ ⟨d, z, f⟩ => ⟨d, e _ _ z, f.ext e⟩⟩
theorem pair_at {α β : Type} {G : α → β → Prop} {l1 : List α} {l2 : List β} (h : Paired G l1 l2) {i : Nat} {b : β} (hb : l2[i]? = some b) : ∃ a, l1[i]? = some a ∧ G a b := by
  induction h generalizing i with
  | nil => cases hb
  | cons r _ ih =>
    cases i with
    | zero =>
      cases hb
      exact ⟨_, rfl, r⟩
    | succ i => exact ih hb
theorem pair_at1 {α β : Type} {G : α → β → Prop} {l1 : List α} {l2 : List β} (h : Paired G l1 l2) {i : Nat} {a : α} (ha : l1[i]? = some a) : ∃ b, l2[i]? = some b ∧ G a b := by
  induction h generalizing i with
  | nil => cases ha
  | cons r _ ih =>
    cases i with
    | zero =>
      cases ha
      exact ⟨_, rfl, r⟩
    | succ i => exact ih ha
theorem pair_len {α β : Type} {G : α → β → Prop} {l1 : List α} {l2 : List β} (h : Paired G l1 l2) : l1.length = l2.length := by
  induction h with
  | nil => rfl
  | cons _ _ ih => rw [List.length_cons, List.length_cons, ih]
theorem pair_snoc {α β : Type} {G : α → β → Prop} {l1 : List α} {l2 : List β} (h : Paired G l1 l2) {a : α} {b : β} (g : G a b) : Paired G (l1 ++ [a]) (l2 ++ [b]) := by
  induction h with
  | nil => exact .cons g .nil
  | cons r _ ih => exact .cons r ih
theorem pair_app {α β : Type} {G : α → β → Prop} {l1 m1 : List α} {l2 m2 : List β} (h : Paired G l1 l2) (k : Paired G m1 m2) : Paired G (l1 ++ m1) (l2 ++ m2) := by
  induction h with
  | nil => exact k
  | cons r _ ih => exact .cons r ih
end
end Gz
set_option maxHeartbeats 2000000
/-! Small helps for the walks. -/
namespace Gz
open PySem PySem.Spec PyProof.Rows L2
theorem iteD {c A B : Prop} [Decidable c] (h : c) (a : A) : if decide c = true then A else B := by
  rw [if_pos (decide_eq_true h)]
  exact a
theorem iteDF {c A B : Prop} [Decidable c] (h : ¬ c) (b : B) : if decide c = true then A else B := by
  rw [if_neg (fun z => h (of_decide_eq_true z))]
  exact b
theorem iteDN {c A B : Prop} [Decidable c] (h : c) (b : B) : if (!decide c) = true then A else B := by
  rw [if_neg (by rw [decide_eq_true h]; exact Bool.false_ne_true)]
  exact b
theorem iteDNF {c A B : Prop} [Decidable c] (h : ¬ c) (a : A) : if (!decide c) = true then A else B := by
  rw [if_pos (by rw [decide_eq_false h]; rfl)]
  exact a
theorem ite2D {c A B : Prop} [Decidable c] (h1 : c → A) (h2 : ¬ c → B) : if decide c = true then A else B := by
  by_cases h : c
  · exact iteD h (h1 h)
  · exact iteDF h (h2 h)
theorem dT {Q : VK} {H : Hp} {c : Prop} [Decidable c] (h : c) (q : Q (.bl true) H) : Q (.bl (decide c)) H := by
  rw [decide_eq_true h]
  exact q
theorem dF {Q : VK} {H : Hp} {c : Prop} [Decidable c] (h : ¬ c) (q : Q (.bl false) H) : Q (.bl (decide c)) H := by
  rw [decide_eq_false h]
  exact q
theorem kII {K : PySem.W.Frag} : PySem.W.kitOne K (.type "int") (.type "int") = some true := kit_ty (by decide +kernel)
theorem kIB {K : PySem.W.Frag} : PySem.W.kitOne K (.type "int") (.type "bool") = some false := kit_ty (by decide +kernel)
theorem kSS {K : PySem.W.Frag} : PySem.W.kitOne K (.type "str") (.type "str") = some true := kit_ty (by decide +kernel)
theorem kTT {K : PySem.W.Frag} : PySem.W.kitOne K (.type "tuple") (.type "tuple") = some true := kit_ty (by decide +kernel)
theorem S_ln (l : List Nat) : (SX.S l).length = l.length := SX.S_len l
/-- a text of few signs -/
theorem lineS {l : List Nat} (h : l.length ≤ 1000000) : (SX.S l).length ≤ sizeLine := by
  rw [SX.S_len]
  exact Nat.le_trans h (by decide)
theorem walk_S {l : List Nat} : Walk (Its (SX.S l)) l.length (fun _ => True) (fun i H v H' => H' = H ∧ ∃ c, l[i]? = some c ∧ v = .str (SX.S [c])) := by
  have w := walk_str (z := SX.S l)
  have hz : (SX.S l).cps.size = l.length := by simp
  rw [hz] at w
  exact w.mono (fun _ h => h) fun i H x H' _ _ ⟨a, c, b, d⟩ => ⟨a, c, by simpa using b, d⟩
/-- a list of signs -/
def sgs (l : List Nat) : List V := l.map fun c => V.str (SX.S [c])
theorem sgs_eq (l : List Nat) : ((l.map fun c => [c]).map SX.S).map V.str = sgs l := by simp [sgs]
theorem sgs_snoc (l : List Nat) (c : Nat) : sgs (l ++ [c]) = sgs l ++ [V.str (SX.S [c])] := by simp [sgs]
theorem sgs_len (l : List Nat) : (sgs l).length = l.length := by simp [sgs]
theorem take_snoc {α : Type} {l : List α} {i : Nat} {c : α} (h : l[i]? = some c) : l.take (i + 1) = l.take i ++ [c] := by
  rw [List.take_succ, h]
  rfl
theorem joinL_nil : ∀ l : List (List Nat), TL.joinL [] l = l.flatten
  | [] => rfl
  | [p] => by simp [TL.joinL]
  | p :: q :: r => by
    show p ++ ([] ++ TL.joinL [] (q :: r)) = _
    rw [List.nil_append, joinL_nil (q :: r)]
    rfl
theorem emp : (Str.ofString "" : Str) = SX.S [] := rfl
theorem join0 (ys : List (List Nat)) : Txt.join (Str.ofString "") (ys.map SX.S) = SX.S ys.flatten := by
  rw [emp, SX.join_S, joinL_nil]
theorem flat1 (l : List Nat) : (l.map fun c => [c]).flatten = l := by
  induction l with
  | nil => rfl
  | cons c r ih => rw [List.map_cons, List.flatten_cons, ih]; rfl
theorem sum1 (l : List Nat) : ((((l.map fun c => [c]).map SX.S)).map (·.length)).sum = l.length := by
  rw [SX.lens]
  induction l with
  | nil => rfl
  | cons c r ih =>
    simp only [List.map_cons, List.sum_cons, ih, List.length_cons, List.length_nil]
    omega
/-- what "".join asks of a list of signs -/
theorem joinG {K : PySem.W.Frag} {H : Hp} {p : Addr} {l : List Nat} {Q : VK} (h : H p = some (.lst (sgs l))) (hl : l.length ≤ 1000000) (q : Q (.str (SX.S l)) H) :
    ∃ a p', ∃ ys : List Str, V.str (Str.ofString "") = .str a ∧ [V.ref p] = [.ref p'] ∧ (SqL K H p' (ys.map V.str) ∨ SqT K H p' (ys.map V.str)) ∧ (ys.map (·.length)).sum + ys.length * a.length ≤ 16777216 ∧ Q (.str (Txt.join a ys)) H := by
  refine ⟨_, _, (l.map fun c => [c]).map SX.S, rfl, rfl, .inl (SqL.of (by rw [sgs_eq]; exact h)), ?_, ?_⟩
  · rw [sum1, show (Str.ofString "").length = 0 from rfl, Nat.mul_zero]
    omega
  · rw [join0, flat1]
    exact q
theorem al_S : (Str.ofString "-abcdefghijklmnopqrstuvwxyz" : Str) = SX.S al := rfl
def sml : List Nat := [97, 98, 99, 100, 101, 102, 103, 104, 105, 106, 107, 108, 109, 110, 111, 112, 113, 114, 115, 116, 117, 118, 119, 120, 121, 122]
theorem sml_S : (Str.ofString "abcdefghijklmnopqrstuvwxyz" : Str) = SX.S sml := rfl
def dig : List Nat := [48, 49, 50, 51, 52, 53, 54, 55, 56, 57]
theorem dig_S : (Str.ofString "0123456789" : Str) = SX.S dig := rfl
theorem unr_S : (Str.ofString "?" : Str) = SX.S [63] := rfl
/-- a list of bools, all true -/
theorem allT {K : PySem.W.Frag} {H : Hp} {p : Addr} {n : Nat} {Q : VK} (h : H p = some (.lst (List.replicate n (.bl true)))) (q : Q (.bl true) H) : rAll K [.ref p] H Q := by
  refine ⟨p, List.replicate n true, rfl, SqL.of (by rw [List.map_replicate]; exact h), ?_⟩
  have e : (List.replicate n true).all id = true := by simp
  rw [e]
  exact q
theorem anyF {K : PySem.W.Frag} {H : Hp} {p : Addr} {n : Nat} {Q : VK} (h : H p = some (.lst (List.replicate n (.bl false)))) (q : Q (.bl false) H) : rAny K [.ref p] H Q := by
  refine ⟨p, List.replicate n false, rfl, SqL.of (by rw [List.map_replicate]; exact h), ?_⟩
  have e : (List.replicate n false).any id = false := by simp
  rw [e]
  exact q
theorem rep_snoc {α : Type} (n : Nat) (x : α) : List.replicate n x ++ [x] = List.replicate (n + 1) x := by
  rw [List.replicate_succ']
end Gz
set_option maxHeartbeats 2000000
/-! More helps: lists that are made turn by turn. -/
namespace Gz
open PySem PySem.Spec PyProof.Rows L2
theorem small {n : Nat} (h : n < 1000000) : n < sizeLine := Nat.lt_of_lt_of_le h (by decide)
theorem allStep {H H1 : Hp} {D : Addr} {i : Nat} {b : Bool} (nD : H D = none) (e : Same H H1) (hD : H1 D = some (.lst (List.replicate i (.bl true)))) (hi : i < 1000000) (hb : b = true) :
    ∃ acc, H1 D = some (.lst acc) ∧ acc.length < sizeLine ∧ Same H (upd H1 D (.lst (acc ++ [.bl b]))) ∧ (upd H1 D (.lst (acc ++ [.bl b]))) D = some (.lst (List.replicate (i + 1) (.bl true))) :=
  ⟨_, hD, by rw [List.length_replicate]; exact small hi, same_put e nD, by rw [upd_same, hb, rep_snoc]⟩
theorem anyStep {H H1 : Hp} {D : Addr} {i : Nat} {b : Bool} (nD : H D = none) (e : Same H H1) (hD : H1 D = some (.lst (List.replicate i (.bl false)))) (hi : i < 1000000) (hb : b = false) :
    ∃ acc, H1 D = some (.lst acc) ∧ acc.length < sizeLine ∧ Same H (upd H1 D (.lst (acc ++ [.bl b]))) ∧ (upd H1 D (.lst (acc ++ [.bl b]))) D = some (.lst (List.replicate (i + 1) (.bl false))) :=
  ⟨_, hD, by rw [List.length_replicate]; exact small hi, same_put e nD, by rw [upd_same, hb, rep_snoc]⟩
theorem sgStep {H H1 : Hp} {D : Addr} {l : List Nat} {c : Nat} (nD : H D = none) (e : Same H H1) (hD : H1 D = some (.lst (sgs l))) (hi : l.length < 1000000) :
    ∃ acc, H1 D = some (.lst acc) ∧ acc.length < sizeLine ∧ Same H (upd H1 D (.lst (acc ++ [.str (SX.S [c])]))) ∧ (upd H1 D (.lst (acc ++ [.str (SX.S [c])]))) D = some (.lst (sgs (l ++ [c]))) :=
  ⟨_, hD, by rw [sgs_len]; exact small hi, same_put e nD, by rw [upd_same, sgs_snoc]⟩
/-- texts -/
def txs (l : List (List Nat)) : List V := l.map fun c => V.str (SX.S c)
theorem txs_eq (l : List (List Nat)) : (l.map SX.S).map V.str = txs l := by simp [txs]
theorem txs_len (l : List (List Nat)) : (txs l).length = l.length := by simp [txs]
theorem txs_snoc (l : List (List Nat)) (c : List Nat) : txs (l ++ [c]) = txs l ++ [V.str (SX.S c)] := by simp [txs]
theorem txStep {H H1 : Hp} {D : Addr} {l : List (List Nat)} {c : List Nat} (nD : H D = none) (e : Same H H1) (hD : H1 D = some (.lst (txs l))) (hi : l.length < 1000000) :
    ∃ acc, H1 D = some (.lst acc) ∧ acc.length < sizeLine ∧ Same H (upd H1 D (.lst (acc ++ [.str (SX.S c)]))) ∧ (upd H1 D (.lst (acc ++ [.str (SX.S c)]))) D = some (.lst (txs (l ++ [c]))) :=
  ⟨_, hD, by rw [txs_len]; exact small hi, same_put e nD, by rw [upd_same, txs_snoc]⟩
/-- a list of refs, of each of which G tells -/
def RefL (G : Hp → Addr → α → Prop) (H : Hp) (a : Addr) (l : List α) : Prop := ∃ as : List Addr, H a = some (.lst (as.map V.ref)) ∧ Paired (G H) as l
theorem refL_step {α : Type} {G : Hp → Addr → α → Prop} {H0 H1 H3 : Hp} {D p : Addr} {l : List α} {x : α} (gs : ∀ {H H' : Hp} {b : Addr} {x : α}, Same H H' → G H b x → G H' b x) (gl : ∀ {H : Hp} {D b : Addr} {xs ys : List V} {x : α}, H D = some (.lst xs) → G H b x → G (upd H D (.lst ys)) b x)
    (nD : H0 D = none) (e : Same H0 H1) (h : RefL G H1 D l) (e3 : Same H1 H3) (hp : G H3 p x) (hl : l.length < 1000000) :
    ∃ acc, H3 D = some (.lst acc) ∧ acc.length < sizeLine ∧ Same H0 (upd H3 D (.lst (acc ++ [.ref p]))) ∧ RefL G (upd H3 D (.lst (acc ++ [.ref p]))) D (l ++ [x]) := by
  obtain ⟨as, h1, h2⟩ := h
  have hD := e3 _ _ h1
  refine ⟨_, hD, ?_, same_put (e.trans e3) nD, as ++ [p], ?_, pair_snoc (Paired.imp h2 fun b y g => gl hD (gs e3 g)) (gl hD hp)⟩
  · rw [List.length_map, pair_len h2]
    exact small hl
  · rw [upd_same, List.map_append]
    rfl
theorem tup_gs {α : Type} {F : α → List V} {H H' : Hp} {b : Addr} {x : α} (e : Same H H') (g : H b = some (.tup (F x))) : H' b = some (.tup (F x)) := e _ _ g
theorem tup_gl {α : Type} {F : α → List V} {H : Hp} {D b : Addr} {xs ys : List V} {x : α} (hD : H D = some (.lst xs)) (g : H b = some (.tup (F x))) : upd H D (.lst ys) b = some (.tup (F x)) := by
  rw [upd_ne (ne_of g hD (by intro z; cases z))]
  exact g
theorem tupL_step {α : Type} {F : α → List V} {H0 H1 H3 : Hp} {D p : Addr} {l : List α} {x : α} (nD : H0 D = none) (e : Same H0 H1) (h : TupL H1 D F l) (e3 : Same H1 H3) (hp : H3 p = some (.tup (F x))) (hl : l.length < 1000000) :
    ∃ acc, H3 D = some (.lst acc) ∧ acc.length < sizeLine ∧ Same H0 (upd H3 D (.lst (acc ++ [.ref p]))) ∧ TupL (upd H3 D (.lst (acc ++ [.ref p]))) D F (l ++ [x]) :=
  refL_step (G := fun H b x => H b = some (.tup (F x))) tup_gs tup_gl nD e h e3 hp hl
theorem tupL_nil {α : Type} {F : α → List V} {H : Hp} {D : Addr} (h : H D = some (.lst [])) : TupL H D F [] := ⟨[], h, .nil⟩
/-- the dict of letters beside a list that grows -/
def lfV (p : Int) (F : Nat → Int → List Nat) (H : Hp) (b : Addr) (L : Nat) : Prop := ∃ d, H b = some (.tup [.int (L : Int), .int p, .ref d]) ∧ DictF H d (F L)
theorem lf_gs {p : Int} {F : Nat → Int → List Nat} {H H' : Hp} {b : Addr} {L : Nat} (e : Same H H') (g : lfV p F H b L) : lfV p F H' b L := by
  obtain ⟨d, h1, h2⟩ := g
  exact ⟨d, e _ _ h1, h2.ext e⟩
theorem lf_gl {p : Int} {F : Nat → Int → List Nat} {H : Hp} {D b : Addr} {xs ys : List V} {L : Nat} (hD : H D = some (.lst xs)) (g : lfV p F H b L) : lfV p F (upd H D (.lst ys)) b L := by
  obtain ⟨d, h1, kvs, h2, h3⟩ := g
  refine ⟨d, ?_, kvs, ?_, h3⟩
  · rw [upd_ne (ne_of h1 hD (by intro z; cases z))]
    exact h1
  · rw [upd_ne (ne_of h2 hD (by intro z; cases z))]
    exact h2
/-! ### comprehensions of two clauses -/
/-- the second clause's loop, from which Nx is to be reached -/
def In2 (g1 : TG) (tt1 : TT) (te : TE) (vs1 : List Nat) (D : Addr) (Nx : Hp → Prop) (J1 : It) (σ2 : L2.St) (H4 : Hp) : Prop := ∃ W1 : Nat → Nat → Hp → Prop, (∃ m, W1 0 m H4) ∧ ∀ j k H, W1 j k H →
  (J1.stop j H ∧ Nx H) ∨ (J1.go j H ∧ ∃ Nx1 : Hp → Prop, (∀ H', Nx1 H' → ∃ k', k' < k ∧ W1 (j + 1) k' H') ∧ ∀ x H', J1.yld j H x H' → g1 x (wipe σ2 vs1) H' fun σ3 H5 => wipe σ3 vs1 = wipe σ2 vs1 ∧ tt1 σ3 H5 fun b H6 =>
    if b = true then te σ3 H6 fun y H7 => ∃ acc, H7 D = some (.lst acc) ∧ acc.length < sizeLine ∧ Nx1 (upd H7 D (.lst (acc ++ [y]))) else Nx1 H6)
theorem lc2_in {J1 : It} {n : Nat} {G : Hp → Prop} {Y : Nat → Hp → V → Hp → Prop} (w : Walk J1 n G Y) {g1 : TG} {tt1 : TT} {te : TE} {vs1 : List Nat} {D : Addr} {Nx : Hp → Prop} {σ2 : L2.St} {H4 : Hp} (Pv : Nat → Hp → Prop) (h0 : Pv 0 H4) (hG : ∀ i H, i ≤ n → Pv i H → G H)
    (hs : ∀ i x H H', i < n → Pv i H → Y i H x H' → g1 x (wipe σ2 vs1) H' fun σ3 H5 => wipe σ3 vs1 = wipe σ2 vs1 ∧ tt1 σ3 H5 fun b H6 =>
      if b = true then te σ3 H6 fun y H7 => ∃ acc, H7 D = some (.lst acc) ∧ acc.length < sizeLine ∧ Pv (i + 1) (upd H7 D (.lst (acc ++ [y]))) else Pv (i + 1) H6) (hd : ∀ H, Pv n H → Nx H) : In2 g1 tt1 te vs1 D Nx J1 σ2 H4 := by
  refine ⟨fun i m H => i + m = n ∧ Pv i H, ⟨n, Nat.zero_add n, h0⟩, fun i m H ⟨hm, hp⟩ => ?_⟩
  cases m with
  | zero =>
    have e : i = n := by omega
    subst e
    exact .inl ⟨w.stops H (hG _ H (Nat.le_refl _) hp), hd H hp⟩
  | succ m =>
    have hi : i < n := by omega
    exact .inr ⟨w.goes i H hi (hG i H (Nat.le_of_lt hi) hp), Pv (i + 1), fun H' h => ⟨m, Nat.lt_succ_self m, by omega, h⟩, fun x H' hy => hs i x H H' hi hp (w.yields i H x H' hi (hG i H (Nat.le_of_lt hi) hp) hy)⟩
theorem lc2_out {J : It} {n : Nat} {G : Hp → Prop} {Y : Nat → Hp → V → Hp → Prop} (w : Walk J n G Y) {g : TG} {tt : TT} {wi1 : TI} {g1 : TG} {tt1 : TT} {te : TE} {vs vs1 : List Nat} {D : Addr} {σ : L2.St} {H1 : Hp} {Qd : Hp → Prop} (Pv : Nat → Hp → Prop) (h0 : Pv 0 (upd H1 D (.lst []))) (hG : ∀ i H, i ≤ n → Pv i H → G H)
    (hs : ∀ i x H H', i < n → Pv i H → Y i H x H' → g x (wipe σ vs) H' fun σ2 H2 => wipe σ2 vs = wipe σ vs ∧ tt σ2 H2 fun b H3 => if b = true then wi1 σ2 H3 fun J1 H4 => In2 g1 tt1 te vs1 D (Pv (i + 1)) J1 σ2 H4 else Pv (i + 1) H3) (hd : ∀ H, Pv n H → Qd H) :
    ∃ W : Nat → Nat → Hp → Prop, (∃ m, W 0 m (upd H1 D (.lst []))) ∧ ∀ i m H, W i m H →
      (J.stop i H ∧ Qd H) ∨ (J.go i H ∧ ∃ Nx : Hp → Prop, (∀ H', Nx H' → ∃ m', m' < m ∧ W (i + 1) m' H') ∧ ∀ x H', J.yld i H x H' → g x (wipe σ vs) H' fun σ2 H2 => wipe σ2 vs = wipe σ vs ∧ tt σ2 H2 fun b H3 =>
        if b = true then wi1 σ2 H3 fun J1 H4 => In2 g1 tt1 te vs1 D Nx J1 σ2 H4 else Nx H3) := by
  refine ⟨fun i m H => i + m = n ∧ Pv i H, ⟨n, Nat.zero_add n, h0⟩, fun i m H ⟨hm, hp⟩ => ?_⟩
  cases m with
  | zero =>
    have e : i = n := by omega
    subst e
    exact .inl ⟨w.stops H (hG _ H (Nat.le_refl _) hp), hd H hp⟩
  | succ m =>
    have hi : i < n := by omega
    exact .inr ⟨w.goes i H hi (hG i H (Nat.le_of_lt hi) hp), Pv (i + 1), fun H' h => ⟨m, Nat.lt_succ_self m, by omega, h⟩, fun x H' hy => hs i x H H' hi hp (w.yields i H x H' hi (hG i H (Nat.le_of_lt hi) hp) hy)⟩
/-! ### readings of a window, sign by sign -/
theorem readW_app (t : Int) : ∀ (a b : List Nat) (j : Nat), readW t j (a ++ b) = readW t j a ++ readW t (j + a.length) b
  | [], b, j => rfl
  | c :: r, b, j => by
    have ih := readW_app t r b (j + 1)
    have e : j + 1 + r.length = j + (c :: r).length := by rw [List.length_cons]; omega
    rw [e] at ih
    show (if c = 63 then readW t (j + 1) (r ++ b) else (t, j, c) :: readW t (j + 1) (r ++ b)) = (if c = 63 then readW t (j + 1) r else (t, j, c) :: readW t (j + 1) r) ++ _
    split
    · exact ih
    · rw [ih]
      rfl
theorem readW_take {t : Int} {l : List Nat} {i c : Nat} (h : l[i]? = some c) : readW t 0 (l.take (i + 1)) = readW t 0 (l.take i) ++ (if c = 63 then [] else [(t, i, c)]) := by
  have hi : i < l.length := (List.getElem?_eq_some_iff.mp h).1
  rw [take_snoc h, readW_app]
  have e : 0 + (l.take i).length = i := by rw [List.length_take]; omega
  rw [e]
  rfl
theorem getD_at {l : List Nat} {i : Nat} (h : i < l.length) : ∃ c, l[i]? = some c ∧ l.getD i 0 = c := ⟨l[i], List.getElem?_eq_getElem h, by simp [h]⟩
end Gz
set_option maxHeartbeats 2000000
/-! Rules told of K itself, for blocks of comprehensions. -/
namespace Gz
open PySem PySem.Spec PyProof.Rows L2
theorem lnk {l : List V} (h : Nat.ble l.length 1000 = true := by rfl) : l.length ≤ sizeLine := Nat.le_trans (Nat.le_of_ble_eq_true h) (by decide)
section
variable {X : Cx} {K : PySem.W.Frag}
theorem ix_tupK (h : X.K = K) : IxR X (rIxT K) := h ▸ ix_tup
theorem ix_listK (h : X.K = K) : IxR X (rIxL K) := h ▸ ix_list
theorem sl_tupK (h : X.K = K) : SlR X (rSlA K) := h ▸ sl_tupA
theorem sl_listK (h : X.K = K) : SlR X (rSlL K) := h ▸ sl_list
theorem op_catK (h : X.K = K) : OpR X (binaryOp .Add) (rCatA K) := h ▸ op_catA
theorem op_inK (h : X.K = K) : OpR X (compareOp .In) (rIn K false) := h ▸ op_in_seq
theorem op_notInK (h : X.K = K) : OpR X (compareOp .NotIn) (rIn K true) := h ▸ op_notIn_seq
theorem op_eqK (h : X.K = K) (hu : X.A.units + 64 < cLine) : OpR X (compareOp .Eq) (rEqD K) := h ▸ op_eqD hu
theorem op_neK (h : X.K = K) (hu : X.A.units + 64 < cLine) : OpR X (compareOp .NotEq) (rNeD K) := h ▸ op_neD hu
theorem call_isiK1 (h : X.K = K) : CallR X (.builtin "isinstance") (rIsi K) := h ▸ call_isi
theorem cr_allK (h : X.K = K) (hc : X.calm = true) : CallR X (.builtin "all") (rAll K) := h ▸ cr_all hc
theorem cr_anyK (h : X.K = K) (hc : X.calm = true) : CallR X (.builtin "any") (rAny K) := h ▸ cr_any hc
def rLenSq (K : PySem.W.Frag) : List V → Hp → VK → Prop := fun xs H Q => ∃ p ys, xs = [.ref p] ∧ (SqL K H p ys ∨ SqT K H p ys) ∧ Q (.int (ys.length : Nat)) H
theorem call_lenK (h : X.K = K) : CallR X (.builtin "len") (rLenSq K) := h ▸ call_len_seq
def rTupOf (K : PySem.W.Frag) : List V → Hp → VK → Prop := fun xs H Q => ∃ p ys, xs = [.ref p] ∧ ((SqL K H p ys ∧ ∀ l, H l = none → Q (.ref l) (upd H l (.tup ys))) ∨ (SqT K H p ys ∧ Q (.ref p) H))
theorem call_tupleK (h : X.K = K) : CallR X (.type "tuple") (rTupOf K) := h ▸ call_tuple_of
variable {e : Expr} {f : Str} {pos : Pos} {ta tl : TE} {tg l : Expr}
theorem pe_fldK (h : X.K = K) (he : PE X e ta) (hb : attributeBase e f X.env (eval e X.env) = eval e X.env) : PE X (.Attribute e f pos) (tFld K ta f) := h ▸ pe_fld he hb
theorem pi_listK (h : X.K = K) (hl : PE X l tl) : PI X tg l (iList K tl) := h ▸ pi_list hl
theorem pi_tupK (h : X.K = K) (hl : PE X l tl) : PI X tg l (iTup K tl) := h ▸ pi_tup hl
theorem pg_tupK {es : List Expr} {k : Nat} {t : TGs} {n : Nat} (hK : X.K = K) (hc : X.calm = true) (h : PGs X es t) (hn : (assignEach es X.env).length = n := by rfl) (hst : (assignEach es X.env).findIdx? (·.1) = none := by rfl) : PG X (.Tuple es k pos) (gTup K n t) := hK ▸ pg_tup hc h hn hst
theorem pg_unlK {es : List Expr} {k : Nat} {t : TGs} {n : Nat} (hK : X.K = K) (hc : X.calm = true) (h : PGs X es t) (hn : (assignEach es X.env).length = n := by rfl) (hst : (assignEach es X.env).findIdx? (·.1) = none := by rfl) : PG X (.Tuple es k pos) (gUnl K n t) := hK ▸ pg_unl hc h hn hst
theorem pe_joinK {o e : Expr} {to te : TE} {apos pos : Pos} (h : X.K = K) (ho : PE X o to) (he : PE X e te) (hs : starEach [e] X.env = [(false, eval e X.env)] := by rfl) (hbase : attributeBase o "join" X.env (eval o X.env) = eval o X.env := by rfl) (hline : (apos.endLine == pos.line) = true := by rfl) :
    PE X (.Call (.Attribute o "join" apos) [e] [] pos) (tM1 (fun x xs H Q => ∃ a p, ∃ ys : List Str, x = .str a ∧ xs = [.ref p] ∧ (SqL K H p (ys.map V.str) ∨ SqT K H p (ys.map V.str)) ∧ (ys.map (·.length)).sum + ys.length * a.length ≤ 16777216 ∧ Q (.str (Txt.join a ys)) H) to te) := h ▸ pe_join ho he hs hbase hline
theorem pe_bmK {o e : Expr} {es : List Expr} {to : TE} {t : TA} {name : Str} {apos cpos : Pos} {T id : String} {r : V → List V → Hp → VK → Prop} (h : X.K = K) (pa : PlainAttrs T) (slot : Slot T name id) (hty : typeOf (.builtin id) = pure (.type "method_descriptor")) (hm : MtR X id r) (ho : PE X o to) (ha : PA X (e :: es) t) (hbase : attributeBase o name X.env (eval o X.env) = eval o X.env := by rfl)
    (hfew : ((backTo cpos (starEach (e :: es) X.env)).all (fun x => !x.1) && (backToKw cpos (keywordEach [] X.env)).all (fun x => x.1.isSome) && decide ((e :: es).length + ([] : List Keyword).length + (if ([] : List Keyword).isEmpty then 0 else 1) < 30)) = true := by rfl) (hline : (apos.endLine == cpos.line) = true := by rfl) (hs : starEach (e :: es) X.env = (false, eval e X.env) :: starEach es X.env := by rfl) (hplain : (backTo cpos (starEach es X.env)).any (·.1) = false := by rfl) :
    PE X (.Call (.Attribute o name apos) (e :: es) [] cpos) (tBM K T r to t) := h ▸ pe_bm pa slot hty hm ho ha hbase hfew hline hs hplain
end
end Gz
set_option maxHeartbeats 4000000
namespace Gz
open PySem PySem.Spec PyProof.Rows L2
section
variable {P : Program} {w : World} {K : PySem.W.Frag} {mg : Str → Option Value} {base : Heap}
abbrev N_is_integer : List Str := ["value"]
def sp_is_integer (K : PySem.W.Frag) : Sp := fun vs H Q _ => ∃ n : Int, vs = [.int n] ∧ Q (.bl true) H
theorem cal_is_integer (T : Tx K mg base) : C8.Cal P w K mg base 1 "is_integer" (sp_is_integer K) [] := by
  obtain ⟨fd, F0⟩ := T.D_is_integer
  have F : FunD K "is_integer" "is_integer" (defArgs s_is_integer) (defBody s_is_integer) (defScope s_is_integer) [] [] (He.ga K "is_integer") fd := F0
  refine ⟨⟨_, fd, ["value"], [], F.ok sc_is_integer (fun vs H Q E h => ?_) (fun cdv A outer s H vs Q E hr h => ?_), T.g_is_integer, F.kp, F.bindsN (fun _ _ _ _ _ _ us hl => match us, hl with | [_], _ => rfl), .nil⟩⟩
  · obtain ⟨_, rfl, _⟩ := h
    rfl
  · refine ⟨_, PSs.nox (pss_one (ps_ret (pe_and (pe_callB (call_isiK1 (K := K) rfl) (by rfl) T.f_isinstance bt_isinstance (pa_cons (pv 0) (pa_cons (pe_bltn (v := .ty "int") (by rfl) T.f_int bt_int rfl) pa_nil))) (pe_one (pe_not (pe_callB (call_isiK1 (K := K) rfl) (by rfl) T.f_isinstance bt_isinstance (pa_cons (pv 0) (pa_cons (pe_bltn (v := .ty "bool") (by rfl) T.f_bool bt_bool rfl) pa_nil)))))))), ?_⟩
    obtain ⟨n, rfl, hQ⟩ := h
    exact ⟨_, rfl, _, _, .type "int", .type "int", true, rfl, .ty _, .base (.int _), kII, true, rfl, iteT ⟨_, rfl, _, _, .type "int", .type "bool", false, rfl, .ty _, .base (.int _), kIB, false, rfl, hQ⟩⟩
abbrev N_is_between : List Str := ["value", "low", "high"]
def sp_is_between (K : PySem.W.Frag) : Sp := fun vs H Q _ => ∃ n lo hi : Int, vs = [.int n, .int lo, .int hi] ∧ lo ≤ n ∧ n ≤ hi ∧ Q (.bl true) H
theorem cal_is_between (T : Tx K mg base) : C8.Cal P w K mg base 2 "is_between" (sp_is_between K) [] := by
  obtain ⟨fd, F0⟩ := T.D_is_between
  have F : FunD K "is_between" "is_between" (defArgs s_is_between) (defBody s_is_between) (defScope s_is_between) [] [] (He.ga K "is_between") fd := F0
  refine ⟨⟨_, fd, ["value", "low", "high"], [], F.ok sc_is_between (fun vs H Q E h => ?_) (fun cdv A outer s H vs Q E hr h => ?_), T.g_is_between, F.kp, F.bindsN (fun _ _ _ _ _ _ us hl => match us, hl with | [_, _, _], _ => rfl), .nil⟩⟩
  · obtain ⟨_, _, _, rfl, _⟩ := h
    rfl
  · refine ⟨_, PSs.nox (pss_one (ps_ret (pe_and (C8.pe_c (cal_is_integer T) hr (by decide) (by rfl) (pa_cons (pv 0) pa_nil)) (pe_one (pe_chain op_le op_le (pv 1) (pv 0) (pv 2)))))), ?_⟩
    obtain ⟨n, lo, hi, rfl, h1, h2, hQ⟩ := h
    exact ⟨_, rfl, _, rfl, true, rfl, iteT ⟨_, rfl, _, rfl, _, _, rfl, rfl, _, rfl, iteD h1 ⟨_, rfl, _, _, rfl, rfl, dT h2 hQ⟩⟩⟩
abbrev N_is_time : List Str := ["value"]
def sp_is_time (K : PySem.W.Frag) : Sp := fun vs H Q _ => ∃ n : Int, vs = [.int n] ∧ 0 ≤ n ∧ n ≤ 10 ^ 30 ∧ Q (.bl true) H
theorem cal_is_time (T : Tx K mg base) : C8.Cal P w K mg base 3 "is_time" (sp_is_time K) [] := by
  obtain ⟨fd, F0⟩ := T.D_is_time
  have F : FunD K "is_time" "is_time" (defArgs s_is_time) (defBody s_is_time) (defScope s_is_time) [] [] (He.ga K "is_time") fd := F0
  refine ⟨⟨_, fd, ["value"], [], F.ok sc_is_time (fun vs H Q E h => ?_) (fun cdv A outer s H vs Q E hr h => ?_), T.g_is_time, F.kp, F.bindsN (fun _ _ _ _ _ _ us hl => match us, hl with | [_], _ => rfl), .nil⟩⟩
  · obtain ⟨_, rfl, _⟩ := h
    rfl
  · refine ⟨_, PSs.nox (pss_one (ps_ret (C8.pe_c (cal_is_between T) hr (by decide) (by rfl) (pa_cons (pv 0) (pa_cons pe_int (pa_cons (C8.pe_gc (by rfl) T.i_GREATEST) pa_nil)))))), ?_⟩
    obtain ⟨n, rfl, h1, h2, hQ⟩ := h
    exact ⟨_, rfl, _, _, _, rfl, h1, by omega, hQ⟩
abbrev N_is_pace : List Str := ["value"]
def sp_is_pace (K : PySem.W.Frag) : Sp := fun vs H Q _ => ∃ n : Int, vs = [.int n] ∧ -9 ≤ n ∧ n ≤ 9 ∧ Q (.bl true) H
theorem cal_is_pace (T : Tx K mg base) : C8.Cal P w K mg base 3 "is_pace" (sp_is_pace K) [] := by
  obtain ⟨fd, F0⟩ := T.D_is_pace
  have F : FunD K "is_pace" "is_pace" (defArgs s_is_pace) (defBody s_is_pace) (defScope s_is_pace) [] [] (He.ga K "is_pace") fd := F0
  refine ⟨⟨_, fd, ["value"], [], F.ok sc_is_pace (fun vs H Q E h => ?_) (fun cdv A outer s H vs Q E hr h => ?_), T.g_is_pace, F.kp, F.bindsN (fun _ _ _ _ _ _ us hl => match us, hl with | [_], _ => rfl), .nil⟩⟩
  · obtain ⟨_, rfl, _⟩ := h
    rfl
  · refine ⟨_, PSs.nox (pss_one (ps_ret (C8.pe_c (cal_is_between T) hr (by decide) (by rfl) (pa_cons (pv 0) (pa_cons (pe_op op_sub pe_int (C8.pe_gc (by rfl) T.i_MOST_PACE)) (pa_cons (C8.pe_gc (by rfl) T.i_MOST_PACE) pa_nil)))))), ?_⟩
    obtain ⟨n, rfl, h1, h2, hQ⟩ := h
    exact ⟨_, rfl, _, _, rfl, rfl, _, _, _, rfl, by omega, by omega, hQ⟩
abbrev N_check_time : List Str := ["value"]
def sp_check_time (K : PySem.W.Frag) : Sp := fun vs H Q _ => ∃ n : Int, vs = [.int n] ∧ 0 ≤ n ∧ n ≤ 10 ^ 30 ∧ Q .non H
theorem cal_check_time (T : Tx K mg base) : C8.Cal P w K mg base 4 "check_time" (sp_check_time K) [] := by
  obtain ⟨fd, F0⟩ := T.D_check_time
  have F : FunD K "check_time" "check_time" (defArgs s_check_time) (defBody s_check_time) (defScope s_check_time) [] [] (He.ga K "check_time") fd := F0
  refine ⟨⟨_, fd, ["value"], [], F.ok sc_check_time (fun vs H Q E h => ?_) (fun cdv A outer s H vs Q E hr h => ?_), T.g_check_time, F.kp, F.bindsN (fun _ _ _ _ _ _ us hl => match us, hl with | [_], _ => rfl), .nil⟩⟩
  · obtain ⟨_, rfl, _⟩ := h
    rfl
  · refine ⟨_, PSs.nox (pss_one (ps_if (pt_not (pt_val (C8.pe_c (cal_is_time T) hr (by decide) (by rfl) (pa_cons (pv 0) pa_nil)))) (pss_one ps_never) pss_nil)), ?_⟩
    obtain ⟨n, rfl, h1, h2, hQ⟩ := h
    exact ⟨_, rfl, _, rfl, h1, h2, _, rfl, iteF hQ⟩
abbrev N_check_width : List Str := ["value"]
def sp_check_width (K : PySem.W.Frag) : Sp := fun vs H Q _ => ∃ n : Int, vs = [.int n] ∧ 1 ≤ n ∧ n ≤ 8 ∧ Q .non H
theorem cal_check_width (T : Tx K mg base) : C8.Cal P w K mg base 3 "check_width" (sp_check_width K) [] := by
  obtain ⟨fd, F0⟩ := T.D_check_width
  have F : FunD K "check_width" "check_width" (defArgs s_check_width) (defBody s_check_width) (defScope s_check_width) [] [] (He.ga K "check_width") fd := F0
  refine ⟨⟨_, fd, ["value"], [], F.ok sc_check_width (fun vs H Q E h => ?_) (fun cdv A outer s H vs Q E hr h => ?_), T.g_check_width, F.kp, F.bindsN (fun _ _ _ _ _ _ us hl => match us, hl with | [_], _ => rfl), .nil⟩⟩
  · obtain ⟨_, rfl, _⟩ := h
    rfl
  · refine ⟨_, PSs.nox (pss_one (ps_if (pt_not (pt_val (C8.pe_c (cal_is_between T) hr (by decide) (by rfl) (pa_cons (pv 0) (pa_cons pe_int (pa_cons (C8.pe_gc (by rfl) T.i_MOST_WIDTH) pa_nil)))))) (pss_one ps_never) pss_nil)), ?_⟩
    obtain ⟨n, rfl, h1, h2, hQ⟩ := h
    exact ⟨_, rfl, _, _, _, rfl, h1, by omega, _, rfl, iteF hQ⟩
abbrev N_check_lengths : List Str := ["least", "most"]
def sp_check_lengths (K : PySem.W.Frag) : Sp := fun vs H Q _ => ∃ a b : Int, vs = [.int a, .int b] ∧ 1 ≤ a ∧ a ≤ b ∧ b ≤ 40 ∧ Q .non H
theorem cal_check_lengths (T : Tx K mg base) : C8.Cal P w K mg base 3 "check_lengths" (sp_check_lengths K) [] := by
  obtain ⟨fd, F0⟩ := T.D_check_lengths
  have F : FunD K "check_lengths" "check_lengths" (defArgs s_check_lengths) (defBody s_check_lengths) (defScope s_check_lengths) [] [] (He.ga K "check_lengths") fd := F0
  refine ⟨⟨_, fd, ["least", "most"], [], F.ok sc_check_lengths (fun vs H Q E h => ?_) (fun cdv A outer s H vs Q E hr h => ?_), T.g_check_lengths, F.kp, F.bindsN (fun _ _ _ _ _ _ us hl => match us, hl with | [_, _], _ => rfl), .nil⟩⟩
  · obtain ⟨_, _, rfl, _⟩ := h
    rfl
  · refine ⟨_, PSs.nox (pss_cons (ps_if (pt_not (pt_val (C8.pe_c (cal_is_between T) hr (by decide) (by rfl) (pa_cons (pv 0) (pa_cons pe_int (pa_cons (C8.pe_gc (by rfl) T.i_MOST_LENGTH) pa_nil)))))) (pss_one ps_never) pss_nil)
    (pss_one (ps_if (pt_not (pt_val (C8.pe_c (cal_is_between T) hr (by decide) (by rfl) (pa_cons (pv 1) (pa_cons (pv 0) (pa_cons (C8.pe_gc (by rfl) T.i_MOST_LENGTH) pa_nil)))))) (pss_one ps_never) pss_nil))), ?_⟩
    obtain ⟨a, b, rfl, h1, h2, h3, hQ⟩ := h
    exact ⟨_, rfl, _, _, _, rfl, h1, by omega, _, rfl, iteF ⟨_, rfl, _, rfl, _, _, _, rfl, h2, by omega, _, rfl, iteF hQ⟩⟩
abbrev N_number_at : List Str := ["place", "time", "pace", "length"]
def sp_number_at (K : PySem.W.Frag) : Sp := fun vs H Q _ => ∃ j t p L : Int, vs = [.int j, .int t, .int p, .int L] ∧ (-9 ≤ p ∧ p ≤ 9) ∧ 0 < L ∧ Q (.int ((j + p * t) % L)) H
theorem cal_number_at (T : Tx K mg base) : C8.Cal P w K mg base 1 "number_at" (sp_number_at K) [] := by
  obtain ⟨fd, F0⟩ := T.D_number_at
  have F : FunD K "number_at" "number_at" (defArgs s_number_at) (defBody s_number_at) (defScope s_number_at) [] [] (He.ga K "number_at") fd := F0
  refine ⟨⟨_, fd, ["place", "time", "pace", "length"], [], F.ok sc_number_at (fun vs H Q E h => ?_) (fun cdv A outer s H vs Q E hr h => ?_), T.g_number_at, F.kp, F.bindsN (fun _ _ _ _ _ _ us hl => match us, hl with | [_, _, _, _], _ => rfl), .nil⟩⟩
  · obtain ⟨_, _, _, _, rfl, _⟩ := h
    rfl
  · refine ⟨_, PSs.nox (pss_one (ps_ret (pe_op op_mod (pe_callTy call_int1 (by rfl) T.f_int bt_int (pa_cons (pe_op op_add (pv 0) (pe_op op_mul (pv 2) (pv 1))) pa_nil)) (pv 3)))), ?_⟩
    obtain ⟨j, t, p, L, rfl, ⟨h1, h2⟩, h3, hQ⟩ := h
    exact ⟨_, rfl, _, rfl, _, rfl, _, _, rfl, rfl, .inl ⟨by omega, by omega⟩, _, _, rfl, rfl, .inl ⟨_, rfl, _, rfl, _, _, rfl, rfl, h3, hQ⟩⟩
abbrev N_meet : List Str := ["one", "other", "letter"]
def sp_meet (K : PySem.W.Frag) : Sp := fun vs H Q _ => ∃ a b : List Nat, vs = [.str (SX.S a), .str (SX.S b)] ∧ a.length ≤ 1000000 ∧ ∀ H1, Same H H1 → Q (.str (SX.S (a.filter fun c => decide (c ∈ b)))) H1
theorem cal_meet (T : Tx K mg base) : C8.Cal P w K mg base 1 "meet" (sp_meet K) [] := by
  obtain ⟨fd, F0⟩ := T.D_meet
  have F : FunD K "meet" "meet" (defArgs s_meet) (defBody s_meet) (defScope s_meet) [] [] (He.ga K "meet") fd := F0
  refine ⟨⟨_, fd, ["one", "other"], [], F.ok sc_meet (fun vs H Q E h => ?_) (fun cdv A outer s H vs Q E hr h => ?_), T.g_meet, F.kp, F.bindsN (fun _ _ _ _ _ _ us hl => match us, hl with | [_, _], _ => rfl), .nil⟩⟩
  · obtain ⟨_, _, rfl, _⟩ := h
    rfl
  · refine ⟨_, PSs.nox (pss_one (ps_ret (pe_joinK (K := K) rfl pe_str (pe_lc (own := [("letter", 2)]) rfl sc_meet.nd (pi_str (pv 0)) (blkOk_by (own := [("letter", 2)]) (N := N_meet) (sc := defScope s_meet) (by decide +kernel)) (fun _ _ _ _ _ => (pg_name (i := 2) sc_meet.nd rfl locV)) (fun _ _ _ _ _ => (pts_one (pt_cmpR op_in_sign (pv 2) (pv 1) rfl))) (fun _ _ _ _ _ => (pv 2)))))), ?_⟩
    obtain ⟨a, b, rfl, hl, hQ⟩ := h
    refine ⟨⟨_, rfl⟩, _, rfl, _, rfl, fun D nD => lc_it walk_S (fun i H1 => Same H H1 ∧ H1 D = some (.lst (sgs ((a.take i).filter fun c => decide (c ∈ b))))) ⟨same_new nD, upd_same⟩ (fun _ _ _ _ => trivial) (fun i x H1 H2 hi ⟨e, hD⟩ ⟨e2, c, hc, ex⟩ => ?_) fun H1 ⟨e, hD⟩ => ?_⟩
    · subst e2 ex
      have et := take_snoc hc
      refine ⟨rfl, _, rfl, _, rfl, c, SX.S b, rfl, rfl, _, rfl, ite2D (fun hb => ?_) fun hb => ?_⟩
      · refine ⟨_, rfl, _, hD, ?_, same_put e nD, ?_⟩
        · rw [sgs_len]
          have h1 := List.length_filter_le (fun c => decide (c ∈ b)) (a.take i)
          have h2 : (a.take i).length ≤ a.length := by rw [List.length_take]; omega
          exact Nat.lt_of_le_of_lt (Nat.le_trans h1 (Nat.le_trans h2 hl)) (by decide)
        · rw [upd_same, et, List.filter_append, sgs, sgs, List.map_append]
          have hb' : c ∈ b := by simpa using hb
          simp [hb']
      · refine ⟨e, ?_⟩
        have hb' : c ∉ b := by simpa using hb
        rw [hD, et, List.filter_append]
        simp [hb']
    · rw [List.take_length] at hD
      exact joinG hD (Nat.le_trans (List.length_filter_le _ _) hl) (hQ _ e)
abbrev N_agreeing : List Str := ["mark", "groups"]
def sp_agreeing (K : PySem.W.Frag) : Sp := fun vs H Q _ => ∃ (c : Nat) (g : V), vs = [.str (SX.S [c]), g] ∧ c ∈ al ∧ Q (.str (SX.S [c])) H
theorem cal_agreeing (T : Tx K mg base) : C8.Cal P w K mg base 1 "agreeing" (sp_agreeing K) [] := by
  obtain ⟨fd, F0⟩ := T.D_agreeing
  have F : FunD K "agreeing" "agreeing" (defArgs s_agreeing) (defBody s_agreeing) (defScope s_agreeing) [] [] (He.ga K "agreeing") fd := F0
  refine ⟨⟨_, fd, ["mark", "groups"], [], F.ok sc_agreeing (fun vs H Q E h => ?_) (fun cdv A outer s H vs Q E hr h => ?_), T.g_agreeing, F.kp, F.bindsN (fun _ _ _ _ _ _ us hl => match us, hl with | [_, _], _ => rfl), .nil⟩⟩
  · obtain ⟨_, _, rfl, _⟩ := h
    rfl
  · refine ⟨_, PSs.nox (pss_cons (ps_if (pt_cmpR op_eq (pv 0) (C8.pe_gc (by rfl) T.s_UNREAD) (nomark _)) (pss_one (ps_ret (C8.pe_gc (by rfl) T.s_LETTERS))) pss_nil)
    (pss_one (ps_ret (pe_ifExp (pt_cmpR op_in_sign (pv 0) (C8.pe_gc (by rfl) T.s_LETTERS) rfl) (pv 0) pe_never)))), ?_⟩
    obtain ⟨c, g, rfl, hc, hQ⟩ := h
    have h63 : c ≠ 63 := fun z => by rw [z] at hc; exact absurd hc (by decide)
    refine ⟨_, rfl, rfl, _, rfl, iteDF (fun z => h63 ?_) ⟨_, rfl, c, SX.S al, rfl, rfl, _, rfl, iteD (by simpa using hc) ⟨_, rfl, hQ⟩⟩⟩
    have z2 := SX.S_inj (V.str.inj z)
    exact List.head_eq_of_cons_eq z2
abbrev N_is_mark : List Str := ["mark", "groups"]
def sp_is_mark (K : PySem.W.Frag) : Sp := fun vs H Q _ => ∃ (c : Nat) (g : V), vs = [.str (SX.S [c]), g] ∧ (c = 63 ∨ c ∈ al) ∧ Q (.bl true) H
theorem cal_is_mark (T : Tx K mg base) : C8.Cal P w K mg base 1 "is_mark" (sp_is_mark K) [] := by
  obtain ⟨fd, F0⟩ := T.D_is_mark
  have F : FunD K "is_mark" "is_mark" (defArgs s_is_mark) (defBody s_is_mark) (defScope s_is_mark) [] [] (He.ga K "is_mark") fd := F0
  refine ⟨⟨_, fd, ["mark", "groups"], [], F.ok sc_is_mark (fun vs H Q E h => ?_) (fun cdv A outer s H vs Q E hr h => ?_), T.g_is_mark, F.kp, F.bindsN (fun _ _ _ _ _ _ us hl => match us, hl with | [_, _], _ => rfl), .nil⟩⟩
  · obtain ⟨_, _, rfl, _⟩ := h
    rfl
  · refine ⟨_, PSs.nox (pss_cons (ps_if (pw_or (pt_cmpR op_eq (pv 0) (C8.pe_gc (by rfl) T.s_UNREAD) (nomark _)) (pw_or1 (pt_cmpR op_in_sign (pv 0) (C8.pe_gc (by rfl) T.s_LETTERS) rfl))).pt (pss_one (ps_ret pe_bl)) pss_nil)
    pss_never), ?_⟩
    obtain ⟨c, g, rfl, hc, hQ⟩ := h
    refine ⟨_, rfl, rfl, _, rfl, ite2D (fun _ => iteT hQ) fun z => ⟨_, rfl, c, SX.S al, rfl, rfl, _, rfl, iteD ?_ hQ⟩⟩
    rcases hc with hc | hc
    · exact absurd (by rw [hc]; rfl) z
    · simpa using hc
end
end Gz
set_option maxHeartbeats 4000000
namespace Gz
open PySem PySem.Spec PyProof.Rows L2
section
variable {P : Program} {w : World} {K : PySem.W.Frag} {mg : Str → Option Value} {base : Heap}
theorem anyR_mem : ((63 :: al).all fun c => decide (c ∈ ((Str.ofString "?" ++ Str.ofString "-abcdefghijklmnopqrstuvwxyz") ++ Str.ofString "ABCDEFGHIJKLMNOPQRSTUVWXYZ").cps.toList)) = true := by decide +kernel
theorem anyR {c : Nat} (h : c = 63 ∨ c ∈ al) : decide (c ∈ ((Str.ofString "?" ++ Str.ofString "-abcdefghijklmnopqrstuvwxyz") ++ Str.ofString "ABCDEFGHIJKLMNOPQRSTUVWXYZ").cps.toList) = true := by
  have := List.all_eq_true.mp anyR_mem c (by rcases h with h | h; rw [h]; exact List.mem_cons_self; exact List.mem_cons_of_mem _ h)
  exact this
theorem memS {c : Nat} {l : List Nat} (h : c ∈ l) : decide (c ∈ (SX.S l).cps.toList) = true := decide_eq_true h
theorem filt1 {l : List Nat} (nd : l.Nodup) (c : Nat) : (l.filter fun x => decide (x ∈ [c])) = if c ∈ l then [c] else [] := by
  induction l with
  | nil => rfl
  | cons d r ih =>
    have nd2 := List.nodup_cons.mp nd
    rw [List.filter_cons, ih nd2.2]
    by_cases h : d = c
    · subst h
      simp [nd2.1]
    · have h' : c ≠ d := fun z => h z.symm
      simp [h, h']
theorem prodL_snoc (l : List (List Nat)) (w : List Nat) : prodL (l ++ [w]) = prodL l * (w.length : Int) := by simp [prodL]
abbrev N_is_text : List Str := ["value", "letter"]
def sp_is_text (K : PySem.W.Frag) : Sp := fun vs H Q _ => ∃ l : List Nat, vs = [.str (SX.S l)] ∧ 1 ≤ l.length ∧ l.length ≤ 40 ∧ (∀ c ∈ l, c ∈ al) ∧ ∀ H1, Same H H1 → Q (.bl true) H1
theorem cal_is_text (T : Tx K mg base) : C8.Cal P w K mg base 1 "is_text" (sp_is_text K) [] := by
  obtain ⟨fd, F0⟩ := T.D_is_text
  have F : FunD K "is_text" "is_text" (defArgs s_is_text) (defBody s_is_text) (defScope s_is_text) [] [] (He.ga K "is_text") fd := F0
  refine ⟨⟨_, fd, ["value"], [], F.ok sc_is_text (fun vs H Q E h => ?_) (fun cdv A outer s H vs Q E hr h => ?_), T.g_is_text, F.kp, F.bindsN (fun _ _ _ _ _ _ us hl => match us, hl with | [_], _ => rfl), .nil⟩⟩
  · obtain ⟨_, rfl, _⟩ := h
    rfl
  · refine ⟨_, PSs.nox (pss_cons (ps_if (pw_or (pt_not (pt_val (pe_callB (call_isiK1 (K := K) rfl) (by rfl) T.f_isinstance bt_isinstance (pa_cons (pv 0) (pa_cons (pe_bltn (v := .ty "str") (by rfl) T.f_str bt_str rfl) pa_nil))))) (pw_or1 (pt_not (pt_chain op_le op_le pe_int (pe_callB call_len_str (by rfl) T.f_len bt_len (pa_cons (pv 0) pa_nil)) (C8.pe_gc (by rfl) T.i_MOST_LENGTH))))).pt (pss_one (ps_ret pe_bl)) pss_nil)
    (pss_one (ps_ret (pe_callB (cr_allK (K := K) rfl rfl) (by rfl) T.f_all bt_all (pa_cons (pe_lc (own := [("letter", 1)]) rfl sc_is_text.nd (pi_str (pv 0)) (blkOk_by (own := [("letter", 1)]) (N := N_is_text) (sc := defScope s_is_text) (by decide +kernel)) (fun _ _ _ _ _ => (pg_name (i := 1) sc_is_text.nd rfl locV)) (fun _ _ _ _ _ => pts_nil) (fun _ _ _ _ _ => (pe_cmpR op_in_sign (pv 1) (C8.pe_gc (by rfl) T.s_LETTERS) rfl))) pa_nil))))), ?_⟩
    obtain ⟨l, rfl, h1, h2, h3, hQ⟩ := h
    refine ⟨_, rfl, _, _, .type "str", .type "str", true, rfl, .ty _, .base (.str _), kSS, true, rfl, iteF ⟨_, rfl, _, rfl, lineS (by omega), _, _, rfl, rfl, _, rfl, iteD (by rw [S_ln]; omega) ⟨_, _, rfl, rfl, _, rfl, iteDN (by rw [S_ln]; omega) ?_⟩⟩⟩
    refine ⟨_, rfl, _, rfl, fun D nD => lc_it walk_S (fun i H1 => Same H H1 ∧ H1 D = some (.lst (List.replicate i (.bl true)))) ⟨same_new nD, upd_same⟩ (fun _ _ _ _ => trivial) (fun i x H1 H2 hi ⟨e, hD⟩ ⟨e2, c, hc, ex⟩ => ?_) fun H1 ⟨e, hD⟩ => allT hD (hQ _ e)⟩
    subst e2 ex
    exact ⟨rfl, ⟨_, rfl, c, SX.S al, rfl, rfl, allStep nD e hD (by omega) (memS (h3 c (List.mem_of_getElem? hc)))⟩⟩
abbrev N_is_reading : List Str := ["value", "width", "groups", "mark"]
def sp_is_reading (K : PySem.W.Frag) : Sp := fun vs H Q _ => ∃ (l : List Nat) (g : V), vs = [.str (SX.S l), .int (l.length : Int), g] ∧ l.length ≤ 40 ∧ RdOk l ∧ ∀ H1, Same H H1 → Q (.bl true) H1
theorem cal_is_reading (T : Tx K mg base) : C8.Cal P w K mg base 2 "is_reading" (sp_is_reading K) [] := by
  obtain ⟨fd, F0⟩ := T.D_is_reading
  have F : FunD K "is_reading" "is_reading" (defArgs s_is_reading) (defBody s_is_reading) (defScope s_is_reading) [] [] (He.ga K "is_reading") fd := F0
  refine ⟨⟨_, fd, ["value", "width", "groups"], [], F.ok sc_is_reading (fun vs H Q E h => ?_) (fun cdv A outer s H vs Q E hr h => ?_), T.g_is_reading, F.kp, F.bindsN (fun _ _ _ _ _ _ us hl => match us, hl with | [_, _, _], _ => rfl), .nil⟩⟩
  · obtain ⟨_, _, rfl, _⟩ := h
    rfl
  · refine ⟨_, PSs.nox (pss_cons (ps_if (pw_or (pt_not (pt_val (pe_callB (call_isiK1 (K := K) rfl) (by rfl) T.f_isinstance bt_isinstance (pa_cons (pv 0) (pa_cons (pe_bltn (v := .ty "str") (by rfl) T.f_str bt_str rfl) pa_nil))))) (pw_or1 (pt_cmpR op_ne (pe_callB call_len_str (by rfl) T.f_len bt_len (pa_cons (pv 0) pa_nil)) (pv 1) (nomark _)))).pt (pss_one (ps_ret pe_bl)) pss_nil)
    (pss_one (ps_ret (pe_callB (cr_allK (K := K) rfl rfl) (by rfl) T.f_all bt_all (pa_cons (pe_lc (own := [("mark", 3)]) rfl sc_is_reading.nd (pi_str (pv 0)) (blkOk_by (own := [("mark", 3)]) (N := N_is_reading) (sc := defScope s_is_reading) (by decide +kernel)) (fun _ _ _ _ _ => (pg_name (i := 3) sc_is_reading.nd rfl locV)) (fun _ _ _ _ _ => pts_nil) (fun _ _ _ _ _ => (C8.pe_c (cal_is_mark T) hr (by decide) (by rfl) (pa_cons (pv 3) (pa_cons (pv 2) pa_nil))))) pa_nil))))), ?_⟩
    obtain ⟨l, g, rfl, h2, h3, hQ⟩ := h
    refine ⟨_, rfl, _, _, .type "str", .type "str", true, rfl, .ty _, .base (.str _), kSS, true, rfl, iteF ⟨_, rfl, _, rfl, lineS (by omega), _, rfl, rfl, _, rfl, iteDN (by rw [S_ln]) ?_⟩⟩
    refine ⟨_, rfl, _, rfl, fun D nD => lc_it walk_S (fun i H1 => Same H H1 ∧ H1 D = some (.lst (List.replicate i (.bl true)))) ⟨same_new nD, upd_same⟩ (fun _ _ _ _ => trivial) (fun i x H1 H2 hi ⟨e, hD⟩ ⟨e2, c, hc, ex⟩ => ?_) fun H1 ⟨e, hD⟩ => allT hD (hQ _ e)⟩
    subst e2 ex
    exact ⟨rfl, ⟨_, rfl, _, rfl, c, g, rfl, h3 c (List.mem_of_getElem? hc), allStep nD e hD (by omega) rfl⟩⟩
abbrev N_is_any_reading : List Str := ["value", "mark"]
def sp_is_any_reading (K : PySem.W.Frag) : Sp := fun vs H Q _ => ∃ l : List Nat, vs = [.str (SX.S l)] ∧ 1 ≤ l.length ∧ l.length ≤ 8 ∧ RdOk l ∧ ∀ H1, Same H H1 → Q (.bl true) H1
theorem cal_is_any_reading (T : Tx K mg base) : C8.Cal P w K mg base 1 "is_any_reading" (sp_is_any_reading K) [] := by
  obtain ⟨fd, F0⟩ := T.D_is_any_reading
  have F : FunD K "is_any_reading" "is_any_reading" (defArgs s_is_any_reading) (defBody s_is_any_reading) (defScope s_is_any_reading) [] [] (He.ga K "is_any_reading") fd := F0
  refine ⟨⟨_, fd, ["value"], [], F.ok sc_is_any_reading (fun vs H Q E h => ?_) (fun cdv A outer s H vs Q E hr h => ?_), T.g_is_any_reading, F.kp, F.bindsN (fun _ _ _ _ _ _ us hl => match us, hl with | [_], _ => rfl), .nil⟩⟩
  · obtain ⟨_, rfl, _⟩ := h
    rfl
  · refine ⟨_, PSs.nox (pss_cons (ps_if (pw_or (pt_not (pt_val (pe_callB (call_isiK1 (K := K) rfl) (by rfl) T.f_isinstance bt_isinstance (pa_cons (pv 0) (pa_cons (pe_bltn (v := .ty "str") (by rfl) T.f_str bt_str rfl) pa_nil))))) (pw_or1 (pt_not (pt_chain op_le op_le pe_int (pe_callB call_len_str (by rfl) T.f_len bt_len (pa_cons (pv 0) pa_nil)) (C8.pe_gc (by rfl) T.i_MOST_WIDTH))))).pt (pss_one (ps_ret pe_bl)) pss_nil)
    (pss_one (ps_ret (pe_callB (cr_allK (K := K) rfl rfl) (by rfl) T.f_all bt_all (pa_cons (pe_lc (own := [("mark", 1)]) rfl sc_is_any_reading.nd (pi_str (pv 0)) (blkOk_by (own := [("mark", 1)]) (N := N_is_any_reading) (sc := defScope s_is_any_reading) (by decide +kernel)) (fun _ _ _ _ _ => (pg_name (i := 1) sc_is_any_reading.nd rfl locV)) (fun _ _ _ _ _ => pts_nil) (fun _ _ _ _ _ => (pe_cmpR op_in_sign (pv 1) (pe_op op_add_str (pe_op op_add_str (C8.pe_gc (by rfl) T.s_UNREAD) (C8.pe_gc (by rfl) T.s_LETTERS)) (C8.pe_gc (by rfl) T.s_CAPITALS)) rfl))) pa_nil))))), ?_⟩
    obtain ⟨l, rfl, h1, h2, h3, hQ⟩ := h
    refine ⟨_, rfl, _, _, .type "str", .type "str", true, rfl, .ty _, .base (.str _), kSS, true, rfl, iteF ⟨_, rfl, _, rfl, lineS (by omega), _, _, rfl, rfl, _, rfl, iteD (by rw [S_ln]; omega) ⟨_, _, rfl, rfl, _, rfl, iteDN (by rw [S_ln]; omega) ?_⟩⟩⟩
    refine ⟨_, rfl, _, rfl, fun D nD => lc_it walk_S (fun i H1 => Same H H1 ∧ H1 D = some (.lst (List.replicate i (.bl true)))) ⟨same_new nD, upd_same⟩ (fun _ _ _ _ => trivial) (fun i x H1 H2 hi ⟨e, hD⟩ ⟨e2, c, hc, ex⟩ => ?_) fun H1 ⟨e, hD⟩ => allT hD (hQ _ e)⟩
    subst e2 ex
    exact ⟨rfl, ⟨_, rfl, _, _, rfl, rfl, by decide +kernel, _, _, rfl, rfl, by decide +kernel, c, _, rfl, rfl, allStep nD e hD (by omega) (anyR (h3 c (List.mem_of_getElem? hc)))⟩⟩
abbrev N_is_name : List Str := ["value", "letter"]
def sp_is_name (K : PySem.W.Frag) : Sp := fun vs H Q _ => ∃ l : List Nat, vs = [.str (SX.S l)] ∧ 1 ≤ l.length ∧ l.length ≤ 8 ∧ (∀ c ∈ l, c ∈ sml) ∧ ∀ H1, Same H H1 → Q (.bl true) H1
theorem cal_is_name (T : Tx K mg base) : C8.Cal P w K mg base 1 "is_name" (sp_is_name K) [] := by
  obtain ⟨fd, F0⟩ := T.D_is_name
  have F : FunD K "is_name" "is_name" (defArgs s_is_name) (defBody s_is_name) (defScope s_is_name) [] [] (He.ga K "is_name") fd := F0
  refine ⟨⟨_, fd, ["value"], [], F.ok sc_is_name (fun vs H Q E h => ?_) (fun cdv A outer s H vs Q E hr h => ?_), T.g_is_name, F.kp, F.bindsN (fun _ _ _ _ _ _ us hl => match us, hl with | [_], _ => rfl), .nil⟩⟩
  · obtain ⟨_, rfl, _⟩ := h
    rfl
  · refine ⟨_, PSs.nox (pss_cons (ps_if (pw_or (pt_not (pt_val (pe_callB (call_isiK1 (K := K) rfl) (by rfl) T.f_isinstance bt_isinstance (pa_cons (pv 0) (pa_cons (pe_bltn (v := .ty "str") (by rfl) T.f_str bt_str rfl) pa_nil))))) (pw_or1 (pt_not (pt_chain op_le op_le pe_int (pe_callB call_len_str (by rfl) T.f_len bt_len (pa_cons (pv 0) pa_nil)) (C8.pe_gc (by rfl) T.i_MOST_SIGNS))))).pt (pss_one (ps_ret pe_bl)) pss_nil)
    (pss_one (ps_ret (pe_callB (cr_allK (K := K) rfl rfl) (by rfl) T.f_all bt_all (pa_cons (pe_lc (own := [("letter", 1)]) rfl sc_is_name.nd (pi_str (pv 0)) (blkOk_by (own := [("letter", 1)]) (N := N_is_name) (sc := defScope s_is_name) (by decide +kernel)) (fun _ _ _ _ _ => (pg_name (i := 1) sc_is_name.nd rfl locV)) (fun _ _ _ _ _ => pts_nil) (fun _ _ _ _ _ => (pe_cmpR op_in_sign (pv 1) (C8.pe_gc (by rfl) T.s_SMALL) rfl))) pa_nil))))), ?_⟩
    obtain ⟨l, rfl, h1, h2, h3, hQ⟩ := h
    refine ⟨_, rfl, _, _, .type "str", .type "str", true, rfl, .ty _, .base (.str _), kSS, true, rfl, iteF ⟨_, rfl, _, rfl, lineS (by omega), _, _, rfl, rfl, _, rfl, iteD (by rw [S_ln]; omega) ⟨_, _, rfl, rfl, _, rfl, iteDN (by rw [S_ln]; omega) ?_⟩⟩⟩
    refine ⟨_, rfl, _, rfl, fun D nD => lc_it walk_S (fun i H1 => Same H H1 ∧ H1 D = some (.lst (List.replicate i (.bl true)))) ⟨same_new nD, upd_same⟩ (fun _ _ _ _ => trivial) (fun i x H1 H2 hi ⟨e, hD⟩ ⟨e2, c, hc, ex⟩ => ?_) fun H1 ⟨e, hD⟩ => allT hD (hQ _ e)⟩
    subst e2 ex
    exact ⟨rfl, ⟨_, rfl, c, SX.S sml, rfl, rfl, allStep nD e hD (by omega) (memS (h3 c (List.mem_of_getElem? hc)))⟩⟩
abbrev N_readings_in : List Str := ["time", "window", "groups", "place", "mark"]
def sp_readings_in (K : PySem.W.Frag) : Sp := fun vs H Q _ => ∃ (t : Int) (l : List Nat) (g : V), vs = [.int t, .str (SX.S l), g] ∧ l.length ≤ 40 ∧ RdOk l ∧ ∀ a H1, Same H H1 → RdsL H1 a (readW t 0 l) → Q (.ref a) H1
theorem cal_readings_in (T : Tx K mg base) : C8.Cal P w K mg base 2 "readings_in" (sp_readings_in K) [] := by
  obtain ⟨fd, F0⟩ := T.D_readings_in
  have F : FunD K "readings_in" "readings_in" (defArgs s_readings_in) (defBody s_readings_in) (defScope s_readings_in) [] [] (He.ga K "readings_in") fd := F0
  refine ⟨⟨_, fd, ["time", "window", "groups"], [], F.ok sc_readings_in (fun vs H Q E h => ?_) (fun cdv A outer s H vs Q E hr h => ?_), T.g_readings_in, F.kp, F.bindsN (fun _ _ _ _ _ _ us hl => match us, hl with | [_, _, _], _ => rfl), .nil⟩⟩
  · obtain ⟨_, _, _, rfl, _⟩ := h
    rfl
  · refine ⟨_, PSs.nox (pss_one (ps_ret (pe_lc (own := [("place", 3), ("mark", 4)]) rfl sc_readings_in.nd (pi_enumS (by rfl) T.f_enumerate (pa_cons (pv 1) pa_nil)) (blkOk_by (own := [("place", 3), ("mark", 4)]) (N := N_readings_in) (sc := defScope s_readings_in) (by decide +kernel)) (fun _ _ _ _ _ => (pg_tupK (K := K) rfl (n := 2) rfl (pgs_cons (pg_name (i := 3) sc_readings_in.nd rfl locV) (pgs_cons (pg_name (i := 4) sc_readings_in.nd rfl locV) pgs_nil)))) (fun _ _ _ _ _ => (pts_one (pt_cmpR op_ne (pv 4) (C8.pe_gc (by rfl) T.s_UNREAD) (nomark _)))) (fun _ _ _ _ _ => (pe_tup (pa_cons (pv 0) (pa_cons (pv 3) (pa_cons (C8.pe_c (cal_agreeing T) hr (by decide) (by rfl) (pa_cons (pv 4) (pa_cons (pv 2) pa_nil))) pa_nil)))))))), ?_⟩
    obtain ⟨t, l, g, rfl, h2, h3, hQ⟩ := h
    refine ⟨_, rfl, l, rfl, fun D nD => lc_it walk_E (fun i H1 => Same H H1 ∧ RdsL H1 D (readW t 0 (l.take i))) ⟨same_new nD, tupL_nil upd_same⟩ (fun _ _ _ _ => trivial) (fun i x H1 H2 hi ⟨e, hD⟩ ⟨q, ex, nq, e2⟩ => ?_) fun H1 ⟨e, hD⟩ => hQ D H1 e (by rw [List.take_length] at hD; exact hD)⟩
    subst ex e2
    obtain ⟨c, hc, hg⟩ := getD_at hi
    have ht := readW_take (t := t) hc
    refine ⟨_, _, rfl, SqT.of upd_same, rfl, _, _, rfl, _, _, rfl, rfl, rfl, ?_⟩
    rw [hg]
    refine ⟨_, rfl, rfl, _, rfl, ?_⟩
    by_cases hz : c = 63
    · refine iteDN (by rw [hz]; rfl) ⟨e.trans (same_new nq), ?_⟩
      rw [ht, if_pos hz, List.append_nil]
      exact hD.ext (same_new nq)
    · refine iteDNF (fun z => hz (List.head_eq_of_cons_eq (SX.S_inj (V.str.inj z)))) ?_
      refine ⟨_, rfl, _, rfl, _, rfl, _, rfl, c, g, rfl, (h3 c (List.mem_of_getElem? hc)).resolve_left hz, lnk, fun p np => ?_⟩
      rw [ht, if_neg hz]
      exact tupL_step (F := rdV) nD e hD ((same_new nq).trans (same_new np)) upd_same (by
        have := readW_len (t := t) (l.take i) 0
        have h4 : (l.take i).length ≤ l.length := by rw [List.length_take]; omega
        omega)
abbrev N_left_at : List Str := ["place", "time", "length", "pace", "left"]
def sp_left_at (K : PySem.W.Frag) : Sp := fun vs H Q _ => ∃ (j t p : Int) (L : Nat) (d : Addr) (F : Int → List Nat), vs = [.int j, .int t, .int (L : Int), .int p, .ref d] ∧ (-9 ≤ p ∧ p ≤ 9) ∧ 0 < L ∧ DictF H d F ∧ Q (.str (SX.S (F ((j + p * t) % L)))) H
theorem cal_left_at (T : Tx K mg base) : C8.Cal P w K mg base 2 "left_at" (sp_left_at K) [] := by
  obtain ⟨fd, F0⟩ := T.D_left_at
  have F : FunD K "left_at" "left_at" (defArgs s_left_at) (defBody s_left_at) (defScope s_left_at) [] [] (He.ga K "left_at") fd := F0
  refine ⟨⟨_, fd, ["place", "time", "length", "pace", "left"], [], F.ok sc_left_at (fun vs H Q E h => ?_) (fun cdv A outer s H vs Q E hr h => ?_), T.g_left_at, F.kp, F.bindsN (fun _ _ _ _ _ _ us hl => match us, hl with | [_, _, _, _, _], _ => rfl), .nil⟩⟩
  · obtain ⟨_, _, _, _, _, _, rfl, _⟩ := h
    rfl
  · refine ⟨_, PSs.nox (pss_one (ps_ret (pe_dget2 (hu_of hr) (pv 4) (C8.pe_c (cal_number_at T) hr (by decide) (by rfl) (pa_cons (pv 0) (pa_cons (pv 1) (pa_cons (pv 3) (pa_cons (pv 2) pa_nil))))) (C8.pe_gc (by rfl) T.s_LETTERS) ⟨rfl, rfl, rfl, rfl⟩))), ?_⟩
    obtain ⟨j, t, p, L, d, F, rfl, hp, hL, ⟨kvs, hd, hF⟩, hQ⟩ := h
    refine ⟨_, rfl, _, rfl, .inl ⟨kvs, Rd.of hd⟩, _, rfl, _, rfl, _, rfl, _, rfl, _, _, _, _, rfl, hp, by omega, _, DGet.k (k := .inl _) hd, ?_⟩
    have e := hF ((j + p * t) % L)
    show Q ((valV kvs (.inl ((j + p * t) % L))).getD (.str (SX.S al))) H
    rw [e]
    exact hQ
abbrev N_all_in : List Str := ["some"]
def sp_all_in (K : PySem.W.Frag) : Sp := fun vs H Q _ => ∃ (a : Addr) (ws : List (List Nat)), vs = [.ref a] ∧ H a = some (.lst (txs ws)) ∧ (ws.map (·.length)).sum ≤ 1000000 ∧ ∀ H1, Same H H1 → Q (.str (SX.S (al.filter fun c => decide (c ∈ ws.flatten)))) H1
theorem cal_all_in (T : Tx K mg base) : C8.Cal P w K mg base 2 "all_in" (sp_all_in K) [] := by
  obtain ⟨fd, F0⟩ := T.D_all_in
  have F : FunD K "all_in" "all_in" (defArgs s_all_in) (defBody s_all_in) (defScope s_all_in) [] [] (He.ga K "all_in") fd := F0
  refine ⟨⟨_, fd, ["some"], [], F.ok sc_all_in (fun vs H Q E h => ?_) (fun cdv A outer s H vs Q E hr h => ?_), T.g_all_in, F.kp, F.bindsN (fun _ _ _ _ _ _ us hl => match us, hl with | [_], _ => rfl), .nil⟩⟩
  · obtain ⟨_, _, rfl, _⟩ := h
    rfl
  · refine ⟨_, PSs.nox (pss_one (ps_ret (C8.pe_c (cal_meet T) hr (by decide) (by rfl) (pa_cons (C8.pe_gc (by rfl) T.s_LETTERS) (pa_cons (pe_joinK (K := K) rfl pe_str (pv 0)) pa_nil))))), ?_⟩
    obtain ⟨a, ws, rfl, ha, hl, hQ⟩ := h
    refine ⟨⟨_, rfl⟩, _, rfl, _, a, ws.map SX.S, rfl, rfl, .inl (SqL.of (by rw [txs_eq]; exact ha)), ?_, al, ws.flatten, ?_, by decide, hQ⟩
    · rw [SX.lens, show (Str.ofString "").length = 0 from rfl, Nat.mul_zero]
      omega
    · rw [join0]
      rfl
abbrev N_texts_left : List Str := ["length", "left", "many", "number"]
def sp_texts_left (K : PySem.W.Frag) : Sp := fun vs H Q _ => ∃ (L : Nat) (d : Addr) (F : Int → List Nat), vs = [.int (L : Int), .ref d] ∧ L ≤ 40 ∧ DictF H d F ∧ (∀ n, (F n).length ≤ 27) ∧ Q (.int (prodL ((List.range L).map fun (n : Nat) => F (n : Int)))) H
theorem cal_texts_left (T : Tx K mg base) : C8.Cal P w K mg base 1 "texts_left" (sp_texts_left K) [] := by
  obtain ⟨fd, F0⟩ := T.D_texts_left
  have F : FunD K "texts_left" "texts_left" (defArgs s_texts_left) (defBody s_texts_left) (defScope s_texts_left) [] [] (He.ga K "texts_left") fd := F0
  refine ⟨⟨_, fd, ["length", "left"], [], F.ok sc_texts_left (fun vs H Q E h => ?_) (fun cdv A outer s H vs Q E hr h => ?_), T.g_texts_left, F.kp, F.bindsN (fun _ _ _ _ _ _ us hl => match us, hl with | [_, _], _ => rfl), .nil⟩⟩
  · obtain ⟨_, _, _, rfl, _⟩ := h
    rfl
  · refine ⟨_, PSs.nox (pss_cons (ps_set (i := 2) sc_texts_left.nd rfl locV pe_int)
    (pss_cons (ps_for PassesOwn.never rfl (pi_range1 (by rfl) T.f_range (pa_cons (pv 0) pa_nil)) (pg_name (i := 3) sc_texts_left.nd rfl locV) (pss_one (ps_set (i := 2) sc_texts_left.nd rfl locV (pe_op op_mul (pv 2) (pe_callB call_len_str (by rfl) T.f_len bt_len (pa_cons (pe_dget2 (hu_of hr) (pv 1) (pv 3) (C8.pe_gc (by rfl) T.s_LETTERS) ⟨rfl, rfl, rfl, rfl⟩) pa_nil))))))
    (pss_one (ps_ret (pv 2))))), ?_⟩
    obtain ⟨L, d, F, rfl, hL, ⟨kvs, hd, hF⟩, hl, hQ⟩ := h
    refine ⟨_, rfl, _, rfl, by omega, by omega, for_range (n := L) (fun i σ H1 => H1 = H ∧ ∃ x, σ = [some (.int (L : Int)), some (.ref d), some (.int (prodL ((List.range i).map fun (n : Nat) => F (n : Int)))), x]) ⟨rfl, none, rfl⟩ (fun i σ H1 hi ⟨e, x, eσ⟩ => ?_) fun σ H1 ⟨e, x, eσ⟩ => ?_⟩
    · subst e eσ
      have e0 : (0 + (i : Int)) = i := Int.zero_add _
      have hv : (valV kvs (.inl (0 + (i : Int)))).getD (.str (SX.S al)) = .str (SX.S (F (i : Int))) := by rw [hF, e0]
      have hc := hl (i : Int)
      refine ⟨_, rfl, _, rfl, _, rfl, .inl ⟨kvs, Rd.of hd⟩, _, rfl, _, DGet.k (k := .inl _) hd, _, congrArg (fun v => [v]) hv, lineS (by omega), _, _, rfl, rfl, .inr ⟨by omega, by rw [S_ln]; omega⟩, rfl, some (.int (0 + (i : Int))), ?_⟩
      rw [List.range_succ, List.map_append, List.map_singleton, prodL_snoc, S_ln]
      rfl
    · subst e eσ
      exact ⟨_, rfl, hQ⟩
abbrev N_least_text : List Str := ["length", "left", "number"]
def sp_least_text (K : PySem.W.Frag) : Sp := fun vs H Q _ => ∃ (L : Nat) (d : Addr) (F : Int → List Nat), vs = [.int (L : Int), .ref d] ∧ L ≤ 40 ∧ DictF H d F ∧ (∀ n, (F n).length ≤ 27) ∧ (∀ n : Nat, n < L → F n ≠ []) ∧ ∀ H1, Same H H1 → Q (.str (SX.S ((List.range L).map fun (n : Nat) => (F (n : Int)).headD 63))) H1
theorem cal_least_text (T : Tx K mg base) : C8.Cal P w K mg base 1 "least_text" (sp_least_text K) [] := by
  obtain ⟨fd, F0⟩ := T.D_least_text
  have F : FunD K "least_text" "least_text" (defArgs s_least_text) (defBody s_least_text) (defScope s_least_text) [] [] (He.ga K "least_text") fd := F0
  refine ⟨⟨_, fd, ["length", "left"], [], F.ok sc_least_text (fun vs H Q E h => ?_) (fun cdv A outer s H vs Q E hr h => ?_), T.g_least_text, F.kp, F.bindsN (fun _ _ _ _ _ _ us hl => match us, hl with | [_, _], _ => rfl), .nil⟩⟩
  · obtain ⟨_, _, _, rfl, _⟩ := h
    rfl
  · refine ⟨_, PSs.nox (pss_one (ps_ret (pe_joinK (K := K) rfl pe_str (pe_lc (own := [("number", 2)]) rfl sc_least_text.nd (pi_range1 (by rfl) T.f_range (pa_cons (pv 0) pa_nil)) (blkOk_by (own := [("number", 2)]) (N := N_least_text) (sc := defScope s_least_text) (by decide +kernel)) (fun _ _ _ _ _ => (pg_name (i := 2) sc_least_text.nd rfl locV)) (fun _ _ _ _ _ => pts_nil) (fun _ _ _ _ _ => (pe_ix ix_str (pe_dget2 (hu_of hr) (pv 1) (pv 2) (C8.pe_gc (by rfl) T.s_LETTERS) ⟨rfl, rfl, rfl, rfl⟩) pe_int (fun _ _ => rfl))))))), ?_⟩
    obtain ⟨L, d, F, rfl, hL, ⟨kvs, hd, hF⟩, hl, hne, hQ⟩ := h
    refine ⟨⟨_, rfl⟩, _, rfl, _, rfl, by omega, by omega, fun D nD => lc_it (walk_range (n := L)) (fun i H1 => Same H H1 ∧ H1 D = some (.lst (sgs ((List.range i).map fun (n : Nat) => (F (n : Int)).headD 63)))) ⟨same_new nD, upd_same⟩ (fun _ _ _ _ => trivial) (fun i x H1 H2 hi ⟨e, hD⟩ ⟨e2, ex⟩ => ?_) fun H1 ⟨e, hD⟩ => joinG hD (by rw [List.length_map, List.length_range]; omega) (hQ _ e)⟩
    subst e2 ex
    have e0 : (0 + (i : Int)) = i := Int.zero_add _
    have hv : (valV kvs (.inl (0 + (i : Int)))).getD (.str (SX.S al)) = .str (SX.S (F (i : Int))) := by rw [hF, e0]
    have hc := hl (i : Int)
    obtain ⟨c, r, hcr⟩ : ∃ c r, F (i : Int) = c :: r := by
      cases q : F (i : Int) with
      | nil => exact absurd q (hne i hi)
      | cons c r => exact ⟨c, r, rfl⟩
    refine ⟨rfl, ⟨_, rfl, _, rfl, .inl ⟨kvs, Rd.of (e _ _ hd)⟩, _, rfl, _, DGet.k (k := .inl _) (e _ _ hd), SX.S (F (i : Int)), 0, c, hv, rfl, lineS (by omega), atI_nat (j := 0) (by rw [hcr]; rfl), ?_⟩⟩
    rw [List.range_succ, List.map_append, List.map_singleton, hcr]
    exact sgStep nD e hD (by rw [List.length_map, List.length_range]; omega)
end
end Gz
set_option maxHeartbeats 4000000
namespace Gz
open PySem PySem.Spec PyProof.Rows L2
section
variable {P : Program} {w : World} {K : PySem.W.Frag} {mg : Str → Option Value} {base : Heap}
theorem lo_cast (a i : Nat) : ((a : Int) + (i : Int)) = ((a + i : Nat) : Int) := by omega
theorem range'_snoc (a i : Nat) : List.range' a (i + 1) = List.range' a i ++ [a + i] := by rw [List.range'_concat, Nat.one_mul]
abbrev N_let_by : List Str := ["record", "length", "pace"]
def sp_let_by (K : PySem.W.Frag) : Sp := fun vs H Q _ => ∃ (a : Addr) (r : Rec), vs = [.ref a] ∧ RecO K H a r ∧ r.Ok ∧ ∀ b H1, Same H H1 → PrsL H1 b r.p (List.range' r.lo (r.hi + 1 - r.lo)) → Q (.ref b) H1
theorem cal_let_by (T : Tx K mg base) : C8.Cal P w K mg base 1 "let_by" (sp_let_by K) [] := by
  obtain ⟨fd, F0⟩ := T.D_let_by
  have F : FunD K "let_by" "let_by" (defArgs s_let_by) (defBody s_let_by) (defScope s_let_by) [] [] (He.ga K "let_by") fd := F0
  refine ⟨⟨_, fd, ["record"], [], F.ok sc_let_by (fun vs H Q E h => ?_) (fun cdv A outer s H vs Q E hr h => ?_), T.g_let_by, F.kp, F.bindsN (fun _ _ _ _ _ _ us hl => match us, hl with | [_], _ => rfl), .nil⟩⟩
  · obtain ⟨_, _, rfl, _⟩ := h
    rfl
  · refine ⟨_, PSs.nox (pss_one (ps_ret (pe_lc2 (own := [("length", 1), ("pace", 2)]) rfl sc_let_by.nd (vs1 := [2]) (pi_range2 (by rfl) T.f_range (pa_cons (pe_fldK (K := K) rfl (pv 0) rfl) (pa_cons (pe_op op_add (pe_fldK (K := K) rfl (pv 0) rfl) pe_int) pa_nil))) (blkOk_by (own := [("length", 1), ("pace", 2)]) (N := N_let_by) (sc := defScope s_let_by) (by decide +kernel)) (by decide) (fun _ _ _ _ _ => (pg_name (i := 1) sc_let_by.nd rfl locV)) (fun _ _ _ _ _ => pts_nil) (fun _ _ _ _ _ => (pi_tupK (K := K) rfl (pe_fldK (K := K) rfl (pv 0) rfl))) (fun _ _ _ _ _ => (pg_name (i := 2) sc_let_by.nd rfl locV)) (fun _ _ _ _ _ => pts_nil) (fun _ _ _ _ _ => (pe_tup (pa_cons (pv 1) (pa_cons (pv 2) pa_nil))))))), ?_⟩
    obtain ⟨a, r, rfl, ⟨dx, t, d, ps, gs, gl, R⟩, ok, hQ⟩ := h
    have k1 := ok.l1
    have k2 := ok.lh
    have k3 := ok.h40
    refine ⟨_, rfl, _, _, _, _, _, rfl, R.o, T.c_Record, T.na_Record_least, rfl, _, rfl, _, _, _, _, _, rfl, R.o, T.c_Record, T.na_Record_most, rfl, _, _, rfl, rfl, _, _, rfl, ⟨by omega, by omega, by omega, by omega⟩, fun D nD => lc2_out (walk_range (lo := (r.lo : Int)) (n := ((r.hi : Int) + 1 - (r.lo : Int)).toNat)) (fun i H1 => Same H H1 ∧ PrsL H1 D r.p (List.range' r.lo i)) ⟨same_new nD, tupL_nil upd_same⟩ (fun _ _ _ _ => trivial) (fun i x H1 H2 hi ⟨e, hD⟩ ⟨e2, ex⟩ => ?_) fun H1 ⟨e, hD⟩ => hQ D H1 e (by
        have en : ((r.hi : Int) + 1 - (r.lo : Int)).toNat = r.hi + 1 - r.lo := by omega
        rw [← en]
        exact hD)⟩
    subst e2 ex
    have R2 := R.ext e
    refine ⟨rfl, ⟨_, rfl, _, _, _, _, _, rfl, R2.o, T.c_Record, T.na_Record_paces, rfl, _, rfl, ⟨_, R2.p.ps.sq⟩, lc2_in (walk_tup (xs := [.int r.p])) (fun k H1 => Same H H1 ∧ PrsL H1 D r.p (List.range' r.lo i ++ (if k = 0 then [] else [r.lo + i]))) ⟨e, by rw [if_pos rfl, List.append_nil]; exact hD⟩ (fun k H1 _ hp => (R.ext hp.1).p.ps.sq) (fun k y H1 H3 hk ⟨e1, hD1⟩ ⟨e3, hy⟩ => ?_) fun H1 ⟨e1, hD1⟩ => ⟨e1, by rw [range'_snoc]; exact hD1⟩⟩⟩
    subst e3
    have k0 : k = 0 := by
      have : k < 1 := hk
      omega
    subst k0
    obtain rfl : y = .int r.p := (Option.some.inj hy).symm
    rw [if_pos rfl, List.append_nil] at hD1
    refine ⟨rfl, ⟨_, rfl, _, rfl, lnk, fun q nq => ?_⟩⟩
    rw [if_neg (by omega)]
    exact tupL_step (F := prV r.p) nD e1 hD1 (same_new nq) (by rw [upd_same]; exact congrArg (fun z => some (HO.tup [V.int z, V.int r.p])) (lo_cast r.lo i)) (by rw [List.length_range']; omega)
abbrev N_left_by : List Str := ["readings", "length", "pace", "found", "time", "place", "letters", "number"]
def sp_left_by (K : PySem.W.Frag) : Sp := fun vs H Q _ => ∃ (a : Addr) (rs : List (Int × Nat × Nat)) (L : Nat) (p : Int), vs = [.ref a, .int (L : Int), .int p] ∧ RdsL H a rs ∧ InAl rs ∧ rs.length ≤ 1000 ∧ 0 < L ∧ (-9 ≤ p ∧ p ≤ 9) ∧ (okB L p rs = false → ∀ H1, Same H H1 → Q .non H1) ∧ (okB L p rs = true → ∀ d H1, Same H H1 → DictF H1 d (FL L p rs) → Q (.ref d) H1)
theorem cal_left_by (T : Tx K mg base) : C8.Cal P w K mg base 2 "left_by" (sp_left_by K) [] := by
  obtain ⟨fd, F0⟩ := T.D_left_by
  have F : FunD K "left_by" "left_by" (defArgs s_left_by) (defBody s_left_by) (defScope s_left_by) [] [] (He.ga K "left_by") fd := F0
  refine ⟨⟨_, fd, ["readings", "length", "pace"], [], F.ok sc_left_by (fun vs H Q E h => ?_) (fun cdv A outer s H vs Q E hr h => ?_), T.g_left_by, F.kp, F.bindsN (fun _ _ _ _ _ _ us hl => match us, hl with | [_, _, _], _ => rfl), .nil⟩⟩
  · obtain ⟨_, _, _, _, rfl, _⟩ := h
    rfl
  · refine ⟨_, PSs.nox (pss_cons (ps_set (i := 3) sc_left_by.nd rfl locV pe_dnewK)
    (pss_cons (ps_for PassesOwn.never rfl (pi_listK (K := K) rfl (pv 0)) (pg_tupK (K := K) rfl (n := 3) rfl (pgs_cons (pg_name (i := 4) sc_left_by.nd rfl locV) (pgs_cons (pg_name (i := 5) sc_left_by.nd rfl locV) (pgs_cons (pg_name (i := 6) sc_left_by.nd rfl locV) pgs_nil)))) (pss_cons (ps_set (i := 7) sc_left_by.nd rfl locV (C8.pe_c (cal_number_at T) hr (by decide) (by rfl) (pa_cons (pv 5) (pa_cons (pv 4) (pa_cons (pv 2) (pa_cons (pv 1) pa_nil))))))
    (pss_cons (ps_dput (hu_of hr) (pv 3) (pv 7) (C8.pe_c (cal_meet T) hr (by decide) (by rfl) (pa_cons (pe_dget2 (hu_of hr) (pv 3) (pv 7) (C8.pe_gc (by rfl) T.s_LETTERS) ⟨rfl, rfl, rfl, rfl⟩) (pa_cons (pv 6) pa_nil))) rfl)
    (pss_one (ps_if (pt_cmpR op_eq (pe_dget (hu_of hr) (pv 3) (pv 7) (fun _ _ => rfl)) pe_str (nomark _)) (pss_one (ps_ret pe_non)) pss_nil)))))
    (pss_one (ps_ret (pv 3))))), ?_⟩
    obtain ⟨a, rs, L, p, rfl, ⟨as, ha, hP⟩, hal, hln, hL, hp, hQ0, hQ1⟩ := h
    have hl : (as.map V.ref).length = rs.length := by rw [List.length_map, pair_len hP]
    refine fun d nd => ⟨_, rfl, a, rfl, ⟨_, SqL.of (same_new nd _ _ ha)⟩, for_list (xs := as.map V.ref) (fun i σ H1 => Same H H1 ∧ okB L p (rs.take i) = true ∧ (∃ kvs : List (Key × V), H1 d = some (.dK kvs) ∧ kvs.length ≤ i ∧ ∀ n : Int, (valV kvs (.inl n)).getD (.str (SX.S al)) = .str (SX.S (FL L p (rs.take i) n))) ∧ ∃ x y z u, σ = [some (.ref a), some (.int (L : Int)), some (.int p), some (.ref d), x, y, z, u]) ⟨same_new nd, rfl, ⟨[], upd_same, Nat.le_refl _, fun _ => rfl⟩, none, none, none, none, rfl⟩ (fun i σ H1 _ hp => SqL.of (hp.1 _ _ ha)) (fun i v σ H1 hv ⟨e, ok, ⟨kvs, hd, hkl, hF⟩, x, y, z, u, eσ⟩ => ?_) fun σ H1 ⟨e, ok, ⟨kvs, hd, hkl, hF⟩, x, y, z, u, eσ⟩ => ?_⟩
    · subst eσ
      obtain ⟨b, hb, rfl⟩ : ∃ b, as[i]? = some b ∧ v = .ref b := by
        rw [List.getElem?_map] at hv
        cases q : as[i]? with
        | none => rw [q] at hv; cases hv
        | some b => rw [q] at hv; exact ⟨b, rfl, (Option.some.inj hv).symm⟩
      obtain ⟨⟨t, j, c⟩, hx, hbx⟩ := pair_at1 hP hb
      have hil : i < rs.length := (List.getElem?_eq_some_iff.mp hx).1
      have hc : c ∈ al := hal _ (List.mem_of_getElem? hx)
      have hshp := FL_shp (L := L) (p := p) (rs := rs.take i) (fun x hx => hal x (List.mem_of_mem_take hx)) (num L p t j)
      have et := take_snoc hx
      have eF : FL L p (rs.take (i + 1)) = stF L p (FL L p (rs.take i)) (t, j, c) := by rw [et, FL_snoc]
      refine ⟨_, rdV (t, j, c), rfl, SqT.of (e _ _ hbx), rfl, _, _, rfl, _, _, rfl, _, _, rfl, rfl, ?_⟩
      refine ⟨_, rfl, _, rfl, _, rfl, _, rfl, _, _, _, _, rfl, hp, by omega, ?_⟩
      refine ⟨_, rfl, _, rfl, .inl ⟨kvs, Rd.of hd⟩, _, rfl, _, DGet.k (k := .inl _) hd, _, rfl, FL L p (rs.take i) (num L p t j), [c], ?_, Nat.le_trans hshp.len (by decide), fun H2 e2 => ?_⟩
      · have := hF (num L p t j)
        show [(valV kvs (.inl (num L p t j))).getD (.str (SX.S al)), .str (SX.S [c])] = _
        rw [this]
      · rw [filt1 hshp.nd]
        have hd2 := e2 _ _ hd
        refine ⟨_, rfl, _, rfl, _, _, rfl, DPut.k (k := .inl _) hd2 (Nat.lt_of_le_of_lt hkl (small (by omega))), ?_⟩
        have hF2 : ∀ n : Int, (valV (putK kvs (.inl (num L p t j)) (.str (SX.S (if c ∈ FL L p (rs.take i) (num L p t j) then [c] else [])))) (.inl n)).getD (.str (SX.S al)) = .str (SX.S (FL L p (rs.take (i + 1)) n)) := fun n => by
          rw [valV_put, eF]
          unfold stF upF
          by_cases hn : n = num L p t j
          · subst hn
            rw [if_pos rfl, if_pos rfl]
            rfl
          · rw [if_neg (fun z => hn (Sum.inl.inj z)), if_neg hn]
            exact hF n
        have hv2 : valV (putK kvs (.inl (num L p t j)) (.str (SX.S (if c ∈ FL L p (rs.take i) (num L p t j) then [c] else [])))) (.inl (num L p t j)) = some (.str (SX.S (if c ∈ FL L p (rs.take i) (num L p t j) then [c] else []))) := by rw [valV_put, if_pos rfl]
        have hget : FL L p (rs.take (i + 1)) (num L p t j) = if c ∈ FL L p (rs.take i) (num L p t j) then [c] else [] := by
          rw [eF]
          unfold stF upF
          rw [if_pos rfl]
        have e3 : Same H (upd H2 d (.dK (putK kvs (.inl (num L p t j)) (.str (SX.S (if c ∈ FL L p (rs.take i) (num L p t j) then [c] else [])))))) := same_put (e.trans e2) nd
        have hdg := DGet.k (k := .inl (num L p t j)) (upd_same (H := H2) (a := d) (o := .dK (putK kvs (.inl (num L p t j)) (.str (SX.S (if c ∈ FL L p (rs.take i) (num L p t j) then [c] else []))))))
        rw [hv2] at hdg
        refine ⟨_, rfl, _, rfl, _, _, rfl, hdg, rfl, _, rfl, ?_⟩
        by_cases hz : FL L p (rs.take (i + 1)) (num L p t j) = []
        · refine iteD (by rw [← hget, hz]; rfl) (hQ0 ?_ _ e3)
          have es : rs = rs.take i ++ (t, j, c) :: rs.drop (i + 1) := by
            rw [← List.getElem?_eq_some_iff.mp hx |>.2, ← List.drop_eq_getElem_cons, List.take_append_drop]
          rw [es]
          exact okB_fails (by rw [← et]; exact hz)
        · refine iteDF (fun z => hz ?_) ⟨e3, ?_, ⟨_, upd_same, Nat.le_trans (length_putK _ _ _) (by omega), hF2⟩, _, _, _, _, rfl⟩
          · rw [hget]
            exact SX.S_inj (V.str.inj z)
          · rw [et]
            exact okB_snoc ok (by rw [← et]; exact hz)
    · subst eσ
      rw [hl, List.take_length] at ok hF
      exact ⟨_, rfl, hQ1 ok d _ e ⟨kvs, hd, hF⟩⟩
end
end Gz
set_option maxHeartbeats 4000000
namespace Gz
open PySem PySem.Spec PyProof.Rows L2
section
variable {P : Program} {w : World} {K : PySem.W.Frag} {mg : Str → Option Value} {base : Heap}
/-- the signs of a whole number -/
def iS (i : Int) : List Nat := (Str.ofString (toString i)).cps.toList
theorem iS_eq (i : Int) : (Str.ofString (toString i) : Str) = SX.S (iS i) := (SX.S_tl _).symm
theorem iS_nat (n : Nat) : iS (n : Int) = TL.numL n := TL.tl_num n
theorem iS_neg (n : Nat) : iS (Int.negSucc n) = 45 :: TL.numL (n + 1) := by
  have h := TL.tl_num (n + 1)
  have e : (toString (Int.negSucc n) : String) = "-" ++ toString ((n + 1 : Nat) : Int) := rfl
  show (Str.ofString (toString (Int.negSucc n))).cps.toList = _
  rw [e]
  have e2 : TL.tl (Str.ofString ("-" ++ toString ((n + 1 : Nat) : Int))) = 45 :: TL.tl (Str.ofString (toString ((n + 1 : Nat) : Int))) := by
    rw [TL.tl_ofString, TL.tl_ofString, String.toList_append, List.map_append]
    rfl
  exact e2.trans (congrArg _ h)
theorem iS_len {i : Int} {k : Nat} (hk : 0 < k) (h : i.natAbs < 10 ^ k) : (iS i).length ≤ k + 1 := by
  cases i with
  | ofNat n =>
    have : iS (Int.ofNat n) = TL.numL n := iS_nat n
    rw [this]
    exact Nat.le_succ_of_le (TL.numL_len hk h)
  | negSucc n =>
    rw [iS_neg, List.length_cons]
    exact Nat.succ_le_succ (TL.numL_len hk h)
theorem sx_len (i : Int) (h : i.natAbs < 10 ^ 30) : (Str.ofString (toString i)).length ≤ 31 := by
  rw [iS_eq, SX.S_len]
  exact iS_len (by decide) h
theorem log_small {i : Int} (h : i.natAbs < 2 ^ 1900) : i.natAbs.log2 < 1920 := by
  by_cases h0 : i.natAbs = 0
  · rw [h0]; decide
  · have := (Nat.log2_lt h0).mpr h
    omega
theorem len_cat (a b : Str) : (a ++ b).length = a.length + b.length := by
  have h := congrArg List.length (TL.tl_append a b)
  rw [List.length_append] at h
  rw [TL.len_tl (a ++ b), TL.len_tl a, TL.len_tl b]
  exact h
theorem len_emp : (Str.empty).length = 0 := rfl
theorem len_le {x : Str} (h : x.length ≤ 1000000) : x.length ≤ sizeLine := Nat.le_trans h (by decide)
/-- the code object's table that is asked at the lambda -/
abbrev TB (K : PySem.W.Frag) : List (Addr × Str) := [((Cd K).2, ("check_dead" ++ ".<locals>.") ++ "<lambda>")]
theorem tup_len0 {n : Nat} : ((([] : List V).length : Nat) : Int) = 0 := rfl
abbrev N_bad_ascending : List Str := ["value", "is_good", "index", "item"]
def sp_bad_ascending (K : PySem.W.Frag) : Sp := fun vs H Q _ => ∃ (a g : Addr), vs = [.ref a, .ref g] ∧ ((Tup K H a [] ∧ ∀ H1, Same H H1 → Q (.int 0) H1) ∨ (g = He.ga K "is_pace" ∧ ∃ p : Int, Tup K H a [.int p] ∧ (-9 ≤ p ∧ p ≤ 9) ∧ ∀ H1, Same H H1 → Q (.int 1) H1))
theorem cal_bad_ascending (T : Tx K mg base) : C8.Cal P w K mg base 4 "bad_ascending" (sp_bad_ascending K) [] := by
  obtain ⟨fd, F0⟩ := T.D_bad_ascending
  have F : FunD K "bad_ascending" "bad_ascending" (defArgs s_bad_ascending) (defBody s_bad_ascending) (defScope s_bad_ascending) [] [] (He.ga K "bad_ascending") fd := F0
  refine ⟨⟨_, fd, ["value", "is_good"], [], F.ok sc_bad_ascending (fun vs H Q E h => ?_) (fun cdv A outer s H vs Q E hr h => ?_), T.g_bad_ascending, F.kp, F.bindsN (fun _ _ _ _ _ _ us hl => match us, hl with | [_, _], _ => rfl), .nil⟩⟩
  · obtain ⟨_, _, rfl, _⟩ := h
    rfl
  · obtain ⟨fp, fdp, psp, dsp, Fp, gp, kpp, bp, dp⟩ := (cal_is_pace (P := P) (w := w) T).ex
    obtain rfl : fp = He.ga K "is_pace" := Value.ref.inj (Option.some.inj (gp.symm.trans T.g_is_pace))
    refine ⟨_, PSs.nox (pss_cons (ps_for PassesOwn.never rfl (pi_enumT (by rfl) T.f_enumerate (pa_cons (pv 0) pa_nil)) (pg_tupK (K := K) rfl (n := 2) rfl (pgs_cons (pg_name (i := 2) sc_bad_ascending.nd rfl locV) (pgs_cons (pg_name (i := 3) sc_bad_ascending.nd rfl locV) pgs_nil))) (pss_one (ps_if (pw_or (pt_not (pt_val (pe_callL (i := 1) (E := C8.E0) Fp (hr.mono (by decide)) rfl (Or.inl rfl) kpp bp dp C8.pass0 (pa_cons (pv 3) pa_nil)))) (pw_or1 (pw_and (pt_cmpR op_gt (pv 2) pe_int (nomark _)) (pw_and1 (pt_cmpR op_le (pv 3) (pe_ix (ix_tupK (K := K) rfl) (pv 0) (pe_op op_sub (pv 2) pe_int) (fun _ _ => rfl)) (nomark _)))).pt)).pt (pss_one (ps_ret (pv 2))) pss_nil)))
    (pss_one (ps_ret (pe_callB (call_lenK (K := K) rfl) (by rfl) T.f_len bt_len (pa_cons (pv 0) pa_nil))))), ?_⟩
    obtain ⟨a, g, rfl, h⟩ := h
    rcases h with ⟨ha, hQ⟩ | ⟨rfl, p, ha, hp, hQ⟩
    · refine ⟨_, rfl, a, [], rfl, ha.sq, for_it walk_E (fun i σ H1 => Same H H1 ∧ σ = [some (.ref a), some (.ref g), none, none]) ⟨.refl _, rfl⟩ (fun i σ H1 _ hp => (ha.ext (.of hp.1)).sq) (fun i x σ H1 H2 hi => absurd hi (Nat.not_lt_zero _)) fun σ H1 ⟨e, eσ⟩ => ?_⟩
      subst eσ
      exact ⟨_, rfl, a, [], rfl, .inr (ha.ext (.of e)).sq, hQ _ e⟩
    · refine ⟨_, rfl, a, [.int p], rfl, ha.sq, for_it walk_E (fun i σ H1 => Same H H1 ∧ ∃ x y, σ = [some (.ref a), some (.ref (He.ga K "is_pace")), x, y]) ⟨.refl _, none, none, rfl⟩ (fun i σ H1 _ hp => (ha.ext (.of hp.1)).sq) (fun i v σ H1 H2 hi ⟨e, x, y, eσ⟩ ⟨q, ev, nq, e2⟩ => ?_) fun σ H1 ⟨e, x, y, eσ⟩ => ?_⟩
      · subst eσ ev e2
        have i0 : i = 0 := by
          have : i < 1 := hi
          omega
        subst i0
        refine ⟨_, _, rfl, SqT.of upd_same, rfl, _, _, rfl, _, _, rfl, rfl, ?_⟩
        refine ⟨rfl, _, rfl, p, rfl, hp.1, hp.2, true, rfl, iteF ⟨_, rfl, _, _, rfl, rfl, _, rfl, iteDF (by omega) (iteF ⟨e.trans (same_new nq), _, _, rfl⟩)⟩⟩
      · subst eσ
        exact ⟨_, rfl, a, [.int p], rfl, .inr (ha.ext (.of e)).sq, hQ _ e⟩
abbrev N_bad_group : List Str := ["value", "known", "index", "group", "letter"]
def sp_bad_group (K : PySem.W.Frag) : Sp := fun vs H Q _ => ∃ a : Addr, vs = [.ref a] ∧ Tup K H a [] ∧ ∀ H1, Same H H1 → Q (.int 0) H1
theorem cal_bad_group (T : Tx K mg base) : C8.Cal P w K mg base 1 "bad_group" (sp_bad_group K) [] := by
  obtain ⟨fd, F0⟩ := T.D_bad_group
  have F : FunD K "bad_group" "bad_group" (defArgs s_bad_group) (defBody s_bad_group) (defScope s_bad_group) [] [] (He.ga K "bad_group") fd := F0
  refine ⟨⟨_, fd, ["value"], [], F.ok sc_bad_group (fun vs H Q E h => ?_) (fun cdv A outer s H vs Q E hr h => ?_), T.g_bad_group, F.kp, F.bindsN (fun _ _ _ _ _ _ us hl => match us, hl with | [_], _ => rfl), .nil⟩⟩
  · obtain ⟨_, rfl, _⟩ := h
    rfl
  · refine ⟨_, PSs.nox (pss_cons (ps_set (i := 1) sc_bad_group.nd rfl locV pe_str)
    (pss_cons (ps_for PassesOwn.never rfl (pi_enumT (by rfl) T.f_enumerate (pa_cons (pv 0) pa_nil)) (pg_tupK (K := K) rfl (n := 2) rfl (pgs_cons (pg_name (i := 2) sc_bad_group.nd rfl locV) (pgs_cons (pg_name (i := 3) sc_bad_group.nd rfl locV) pgs_nil))) pss_never)
    (pss_one (ps_ret (pe_callB (call_lenK (K := K) rfl) (by rfl) T.f_len bt_len (pa_cons (pv 0) pa_nil)))))), ?_⟩
    obtain ⟨a, rfl, ha, hQ⟩ := h
    refine ⟨_, rfl, a, [], rfl, ha.sq, for_it walk_E (fun i σ H1 => Same H H1 ∧ ∃ x, σ = [some (.ref a), some x, none, none, none]) ⟨.refl _, _, rfl⟩ (fun i σ H1 _ hp => (ha.ext (.of hp.1)).sq) (fun i x σ H1 H2 hi => absurd hi (Nat.not_lt_zero _)) fun σ H1 ⟨e, x, eσ⟩ => ?_⟩
    subst eσ
    exact ⟨_, rfl, a, [], rfl, .inr (ha.ext (.of e)).sq, hQ _ e⟩
abbrev N_check_paces : List Str := ["value", "index"]
def sp_check_paces (K : PySem.W.Frag) : Sp := fun vs H Q _ => ∃ (a : Addr) (p : Int), vs = [.ref a] ∧ Tup K H a [.int p] ∧ (-9 ≤ p ∧ p ≤ 9) ∧ ∀ H1, Same H H1 → Q .non H1
theorem cal_check_paces (T : Tx K mg base) : C8.Cal P w K mg base 5 "check_paces" (sp_check_paces K) [] := by
  obtain ⟨fd, F0⟩ := T.D_check_paces
  have F : FunD K "check_paces" "check_paces" (defArgs s_check_paces) (defBody s_check_paces) (defScope s_check_paces) [] [] (He.ga K "check_paces") fd := F0
  refine ⟨⟨_, fd, ["value"], [], F.ok sc_check_paces (fun vs H Q E h => ?_) (fun cdv A outer s H vs Q E hr h => ?_), T.g_check_paces, F.kp, F.bindsN (fun _ _ _ _ _ _ us hl => match us, hl with | [_], _ => rfl), .nil⟩⟩
  · obtain ⟨_, _, rfl, _⟩ := h
    rfl
  · refine ⟨_, PSs.nox (pss_cons (ps_if (pw_or (pt_not (pt_val (pe_callB (call_isiK1 (K := K) rfl) (by rfl) T.f_isinstance bt_isinstance (pa_cons (pv 0) (pa_cons (pe_bltn (v := .ty "tuple") (by rfl) T.f_tuple bt_tuple rfl) pa_nil))))) (pw_or1 (pt_cmpR op_eq (pe_callB (call_lenK (K := K) rfl) (by rfl) T.f_len bt_len (pa_cons (pv 0) pa_nil)) pe_int (nomark _)))).pt (pss_one ps_never) pss_nil)
    (pss_cons (ps_set (i := 1) sc_check_paces.nd rfl locV (C8.pe_c (cal_bad_ascending T) hr (by decide) (by rfl) (pa_cons (pv 0) (pa_cons (pe_glob (v := .ref (He.ga K "is_pace")) (by rfl) T.g_is_pace rfl) pa_nil))))
    (pss_one (ps_if (pt_cmpR op_lt (pv 1) (pe_callB (call_lenK (K := K) rfl) (by rfl) T.f_len bt_len (pa_cons (pv 0) pa_nil)) (nomark _)) (pss_one ps_never) pss_nil)))), ?_⟩
    obtain ⟨a, p, rfl, ha, hp, hQ⟩ := h
    refine ⟨_, rfl, _, _, .type "tuple", .type "tuple", true, rfl, .ty _, ha.ty, kTT, true, rfl, iteF ⟨_, rfl, a, [.int p], rfl, .inr ha.sq, rfl, _, rfl, iteDF (by show ¬ (V.int ((1 : Nat) : Int) = V.int 0); decide) ?_⟩⟩
    refine ⟨_, rfl, _, _, rfl, .inr ⟨rfl, p, ha, hp, fun H1 e => ⟨_, rfl, _, rfl, a, [.int p], rfl, .inr (ha.ext (.of e)).sq, _, _, rfl, rfl, _, rfl, iteDF (by show ¬ ((1 : Int) < ((1 : Nat) : Int)); decide) (hQ _ e)⟩⟩⟩
abbrev N_check_groups : List Str := ["value", "index"]
def sp_check_groups (K : PySem.W.Frag) : Sp := fun vs H Q _ => ∃ a : Addr, vs = [.ref a] ∧ Tup K H a [] ∧ ∀ H1, Same H H1 → Q .non H1
theorem cal_check_groups (T : Tx K mg base) : C8.Cal P w K mg base 2 "check_groups" (sp_check_groups K) [] := by
  obtain ⟨fd, F0⟩ := T.D_check_groups
  have F : FunD K "check_groups" "check_groups" (defArgs s_check_groups) (defBody s_check_groups) (defScope s_check_groups) [] [] (He.ga K "check_groups") fd := F0
  refine ⟨⟨_, fd, ["value"], [], F.ok sc_check_groups (fun vs H Q E h => ?_) (fun cdv A outer s H vs Q E hr h => ?_), T.g_check_groups, F.kp, F.bindsN (fun _ _ _ _ _ _ us hl => match us, hl with | [_], _ => rfl), .nil⟩⟩
  · obtain ⟨_, rfl, _⟩ := h
    rfl
  · refine ⟨_, PSs.nox (pss_cons (ps_if (pt_not (pt_val (pe_callB (call_isiK1 (K := K) rfl) (by rfl) T.f_isinstance bt_isinstance (pa_cons (pv 0) (pa_cons (pe_bltn (v := .ty "tuple") (by rfl) T.f_tuple bt_tuple rfl) pa_nil))))) (pss_one ps_never) pss_nil)
    (pss_cons (ps_set (i := 1) sc_check_groups.nd rfl locV (C8.pe_c (cal_bad_group T) hr (by decide) (by rfl) (pa_cons (pv 0) pa_nil)))
    (pss_one (ps_if (pt_cmpR op_lt (pv 1) (pe_callB (call_lenK (K := K) rfl) (by rfl) T.f_len bt_len (pa_cons (pv 0) pa_nil)) (nomark _)) (pss_one ps_never) pss_nil)))), ?_⟩
    obtain ⟨a, rfl, ha, hQ⟩ := h
    refine ⟨_, rfl, _, _, .type "tuple", .type "tuple", true, rfl, .ty _, ha.ty, kTT, true, rfl, iteF ⟨_, rfl, a, rfl, ha, fun H1 e => ⟨_, rfl, _, rfl, a, [], rfl, .inr (ha.ext (.of e)).sq, _, _, rfl, rfl, _, rfl, iteDF (by decide) (hQ _ e)⟩⟩⟩
abbrev N_Sign_init : List Str := ["self", "text", "pace"]
def sp_Sign_init (K : PySem.W.Frag) : Sp := fun vs H Q _ => ∃ (a dx : Addr) (l : List Nat) (p : Int), vs = [.ref a, .str (SX.S l), .int p] ∧ H a = some (.ins (He.ga K "Sign") dx []) ∧ 1 ≤ l.length ∧ l.length ≤ 40 ∧ (∀ c ∈ l, c ∈ al) ∧ (-9 ≤ p ∧ p ≤ 9) ∧ ∀ H1, Sab a H H1 → H1 a = some (.ins (He.ga K "Sign") dx [("text", .str (SX.S l)), ("pace", .int p)]) → Q .non H1
theorem mak_Sign (T : Tx K mg base) : C8.Mak P w K mg base 4 "Sign" (He.ga K "Sign") (sp_Sign_init K) [] := by
  obtain ⟨fd, F0⟩ := T.D_Sign_init
  have F : FunD K "__init__" "Sign.__init__" (defArgs s_Sign_init) (defBody s_Sign_init) (defScope s_Sign_init) [.int 1] [] (He.ma K (He.ga K "Sign") "__init__") fd := F0
  obtain ⟨ds, rds, bb⟩ := F.binds1 (ps := ["self", "text", "pace"]) 3 1 (by decide) rfl (fun T kV doc pm an cdv ct us its l1 l2 => match us, its, l1, l2 with | [_, _, _], [_], _, _ => ⟨_, rfl, rfl⟩)
  refine ⟨⟨_, fd, ["self", "text", "pace"], ds, T.mk_Sign, F.ok sc_Sign_init (fun vs H Q E h => ?_) (fun cdv A outer s H vs Q E hr h => ?_), T.g_Sign, bb, rds⟩⟩
  · obtain ⟨_, _, _, _, rfl, _⟩ := h
    rfl
  · refine ⟨_, PSs.nox (pss_cons (ps_if (pt_not (pt_val (C8.pe_c (cal_is_text T) hr (by decide) (by rfl) (pa_cons (pv 1) pa_nil)))) (pss_one ps_never) pss_nil)
    (pss_cons (ps_if (pt_not (pt_val (C8.pe_c (cal_is_pace T) hr (by decide) (by rfl) (pa_cons (pv 2) pa_nil)))) (pss_one ps_never) pss_nil)
    (pss_cons (ps_fld (pv 0) (pv 1) rfl)
    (pss_one (ps_fld (pv 0) (pv 2) rfl))))), ?_⟩
    obtain ⟨a, dx, l, p, rfl, ha, h1, h2, h3, hp, hQ⟩ := h
    refine ⟨_, rfl, l, rfl, h1, h2, h3, fun H1 e => ⟨true, rfl, iteF ⟨_, rfl, p, rfl, hp.1, hp.2, true, rfl, iteF ?_⟩⟩⟩
    have ha1 := e _ _ ha
    refine ⟨_, rfl, _, rfl, a, _, dx, [], rfl, ha1, T.c_Sign, T.na_Sign_text, by decide, ?_⟩
    refine ⟨_, rfl, _, rfl, a, _, dx, _, rfl, upd_same, T.c_Sign, T.na_Sign_pace, by show 1 < 1000; decide, ?_⟩
    exact hQ _ (Sab.put (Sab.put (Sab.of e))) upd_same
abbrev N_Known_init : List Str := ["self", "parts"]
def sp_Known_init (K : PySem.W.Frag) : Sp := fun vs H Q _ => ∃ (a dx : Addr) (v : V), vs = [.ref a, v] ∧ H a = some (.ins (He.ga K "Known") dx []) ∧ ∀ H1, Sab a H H1 → H1 a = some (.ins (He.ga K "Known") dx [("parts", v)]) → Q .non H1
theorem mak_Known (T : Tx K mg base) : C8.Mak P w K mg base 1 "Known" (He.ga K "Known") (sp_Known_init K) [] := by
  obtain ⟨fd, F0⟩ := T.D_Known_init
  have F : FunD K "__init__" "Known.__init__" (defArgs s_Known_init) (defBody s_Known_init) (defScope s_Known_init) [] [] (He.ma K (He.ga K "Known") "__init__") fd := F0
  refine ⟨⟨_, fd, ["self", "parts"], [], T.mk_Known, F.ok sc_Known_init (fun vs H Q E h => ?_) (fun cdv A outer s H vs Q E hr h => ?_), T.g_Known, F.bindsN (fun _ _ _ _ _ _ us hl => match us, hl with | [_, _], _ => rfl), .nil⟩⟩
  · obtain ⟨_, _, _, rfl, _⟩ := h
    rfl
  · refine ⟨_, PSs.nox (pss_one (ps_fld (pv 0) (pv 1) rfl)), ?_⟩
    obtain ⟨a, dx, v, rfl, ha, hQ⟩ := h
    refine ⟨_, rfl, _, rfl, a, _, dx, [], rfl, ha, T.c_Known, T.na_Known_parts, by decide, ?_⟩
    exact hQ _ (Sab.put (Sab.refl _ _)) upd_same
abbrev N_check_record : List Str := ["value"]
def sp_check_record (K : PySem.W.Frag) : Sp := fun vs H Q _ => ∃ (a dx : Addr) (fs : List (Str × V)), vs = [.ref a] ∧ H a = some (.ins (He.ga K "Record") dx fs) ∧ Q .non H
theorem cal_check_record (T : Tx K mg base) : C8.Cal P w K mg base 1 "check_record" (sp_check_record K) [] := by
  obtain ⟨fd, F0⟩ := T.D_check_record
  have F : FunD K "check_record" "check_record" (defArgs s_check_record) (defBody s_check_record) (defScope s_check_record) [] [] (He.ga K "check_record") fd := F0
  refine ⟨⟨_, fd, ["value"], [], F.ok sc_check_record (fun vs H Q E h => ?_) (fun cdv A outer s H vs Q E hr h => ?_), T.g_check_record, F.kp, F.bindsN (fun _ _ _ _ _ _ us hl => match us, hl with | [_], _ => rfl), .nil⟩⟩
  · obtain ⟨_, _, _, rfl, _⟩ := h
    rfl
  · refine ⟨_, PSs.nox (pss_one (ps_if (pt_not (pt_val (pe_callB (call_isiK1 (K := K) rfl) (by rfl) T.f_isinstance bt_isinstance (pa_cons (pv 0) (pa_cons (pe_glob (v := .ref (He.ga K "Record")) (by rfl) T.g_Record rfl) pa_nil))))) (pss_one ps_never) pss_nil)), ?_⟩
    obtain ⟨a, dx, fs, rfl, ha, hQ⟩ := h
    exact ⟨_, rfl, _, _, _, _, true, rfl, .own _, T.ty_Record ha, T.k_Record, true, rfl, iteF hQ⟩
abbrev N_check_reading : List Str := ["value", "record"]
def sp_check_reading (K : PySem.W.Frag) : Sp := fun vs H Q _ => ∃ (l : List Nat) (a : Addr) (r : Rec), vs = [.str (SX.S l), .ref a] ∧ RecO K H a r ∧ l.length = r.W ∧ r.W ≤ 8 ∧ RdOk l ∧ ∀ H1, Same H H1 → Q .non H1
theorem cal_check_reading (T : Tx K mg base) : C8.Cal P w K mg base 3 "check_reading" (sp_check_reading K) [] := by
  obtain ⟨fd, F0⟩ := T.D_check_reading
  have F : FunD K "check_reading" "check_reading" (defArgs s_check_reading) (defBody s_check_reading) (defScope s_check_reading) [] [] (He.ga K "check_reading") fd := F0
  refine ⟨⟨_, fd, ["value", "record"], [], F.ok sc_check_reading (fun vs H Q E h => ?_) (fun cdv A outer s H vs Q E hr h => ?_), T.g_check_reading, F.kp, F.bindsN (fun _ _ _ _ _ _ us hl => match us, hl with | [_, _], _ => rfl), .nil⟩⟩
  · obtain ⟨_, _, _, rfl, _⟩ := h
    rfl
  · refine ⟨_, PSs.nox (pss_one (ps_if (pt_not (pt_val (C8.pe_c (cal_is_reading T) hr (by decide) (by rfl) (pa_cons (pv 0) (pa_cons (pe_fldK (K := K) rfl (pv 1) rfl) (pa_cons (pe_fldK (K := K) rfl (pv 1) rfl) pa_nil)))))) (pss_one ps_never) pss_nil)), ?_⟩
    obtain ⟨l, a, r, rfl, ⟨dx, t, d, ps, gs, gl, R⟩, hl, h8, h3, hQ⟩ := h
    refine ⟨_, rfl, _, rfl, _, _, _, _, _, rfl, R.o, T.c_Record, T.na_Record_width, rfl, _, rfl, _, _, _, _, _, rfl, R.o, T.c_Record, T.na_Record_groups, rfl, l, _, by rw [hl]; rfl, by omega, h3, fun H1 e => ⟨true, rfl, iteF (hQ _ e)⟩⟩
abbrev N_Sign_str : List Str := ["self"]
def sp_Sign_str (K : PySem.W.Frag) : Sp := fun vs H Q _ => ∃ (a dx : Addr) (l : List Nat) (p : Int), vs = [.ref a] ∧ H a = some (.ins (He.ga K "Sign") dx [("text", .str (SX.S l)), ("pace", .int p)]) ∧ l.length ≤ 1000 ∧ (-9 ≤ p ∧ p ≤ 9) ∧ Q (.str (((Str.empty ++ SX.S l) ++ Str.ofString " at ") ++ Str.ofString (toString p))) H
theorem mt_Sign_str (T : Tx K mg base) : Mt P w K mg base 1 (He.ga K "Sign") "__str__" (sp_Sign_str K) := by
  obtain ⟨fd, F0⟩ := T.D_Sign_str
  have F : FunD K "__str__" "Sign.__str__" (defArgs s_Sign_str) (defBody s_Sign_str) (defScope s_Sign_str) [] [] (He.ma K (He.ga K "Sign") "__str__") fd := F0
  refine ⟨⟨_, fd, ["self"], T.c_Sign, T.m_Sign_str, F.ok sc_Sign_str (fun vs H Q E h => ?_) (fun cdv A outer s H vs Q E hr h => ?_), F.bindsN (fun _ _ _ _ _ _ us hl => match us, hl with | [_], _ => rfl)⟩⟩
  · obtain ⟨_, _, _, _, rfl, _⟩ := h
    rfl
  · refine ⟨_, PSs.nox (pss_one (ps_ret (pe_joined (PJ.cons (pe_fmt (pe_fldK (K := K) rfl (pv 0) rfl)) (PJ.cons pe_str (PJ.cons (pe_fmt (pe_fldK (K := K) rfl (pv 0) rfl)) PJ.nil)))))), ?_⟩
    obtain ⟨a, dx, l, p, rfl, ha, hl, hp, hQ⟩ := h
    have hz := sx_len p (by omega)
    refine ⟨_, rfl, _, _, _, _, _, rfl, ha, T.c_Sign, T.na_Sign_text, rfl, .inl ⟨_, rfl, lineS (by omega), _, rfl, ?_, _, rfl, ?_, _, rfl, _, _, _, _, _, rfl, ha, T.c_Sign, T.na_Sign_pace, rfl, .inr ⟨p, rfl, log_small (by omega), _, rfl, ?_, hQ⟩⟩⟩
    · exact len_le (by rw [len_cat, len_emp, S_ln]; omega)
    · exact len_le (by rw [len_cat, len_cat, len_emp, S_ln, show (Str.ofString " at ").length = 4 from rfl]; omega)
    · exact len_le (by rw [len_cat, len_cat, len_cat, len_emp, S_ln, show (Str.ofString " at ").length = 4 from rfl]; omega)
end
end Gz
set_option maxHeartbeats 4000000
namespace Gz
open PySem PySem.Spec PyProof.Rows L2
section
variable {P : Program} {w : World} {K : PySem.W.Frag} {mg : Str → Option Value} {base : Heap}
theorem Tx.tup_dead (T : Tx K mg base) (H : Hp) : Tup K H (kdAt "dead" K) [] := .inr ⟨(T.kd_dead H).2, fun H1 => (T.kd_dead H1).1⟩
theorem Tx.tup_groups (T : Tx K mg base) (H : Hp) : Tup K H (kdAt "groups" K) [] := .inr ⟨(T.kd_groups H).2, fun H1 => (T.kd_groups H1).1⟩
abbrev N_check_dead : List Str := ["value", "width", "index"]
def sp_check_dead (K : PySem.W.Frag) : Sp := fun vs H Q _ => ∃ n : Int, vs = [.ref (kdAt "dead" K), .int n] ∧ LamX.Tabs (TB K) H ∧ ∀ H1, LamX.ExtN H H1 → LamX.Tabs (TB K) H1 → Q .non H1
theorem cal_check_dead (T : Tx K mg base) : C8.Cal P w K mg base 5 "check_dead" (sp_check_dead K) [] := by
  obtain ⟨fd, F0⟩ := T.D_check_dead
  have F : FunD K "check_dead" "check_dead" (defArgs s_check_dead) (defBody s_check_dead) (defScope s_check_dead) [] [] (He.ga K "check_dead") fd := F0
  have hb : Binds K fd ["value", "width"] [] := F.bindsN fun _ _ _ _ _ _ us hl => match us, hl with | [_, _], _ => rfl
  have kp := F.kp
  obtain ⟨oc, od, dV, kV, doc, pm, an, cdv, ct, osl, rfl, lk, hcd, _, _⟩ := F.ex
  obtain ⟨c, rfl⟩ := He.codeIn_ref hcd
  have ec : (Cd K).1 = c := He.codeOf_eq (p := ("check_dead", none)) lk rfl
  refine ⟨⟨_, _, ["value", "width"], [], fn_of lk hcd sc_check_dead (fun vs H Q E h => ?_) (fun A outer s H vs Q E hr h => ?_), T.g_check_dead, kp, hb, .nil⟩⟩
  · obtain ⟨_, rfl, _⟩ := h
    rfl
  · refine ⟨_, PSs.nox (pss_cons (ps_if (pt_not (pt_val (pe_callB (call_isiK1 (K := K) rfl) (by rfl) T.f_isinstance bt_isinstance (pa_cons (pv 0) (pa_cons (pe_bltn (v := .ty "tuple") (by rfl) T.f_tuple bt_tuple rfl) pa_nil))))) (pss_one ps_never) pss_nil)
    (pss_cons (ps_set (i := 2) sc_check_dead.nd rfl locV (C8.pe_c (cal_bad_ascending T) hr (by decide) (by rfl) (pa_cons (pv 0) (pa_cons (pe_lam (T := TB K) T.tab (congrArg Value.ref ec.symm) (List.mem_singleton.mpr rfl) (fun p hp _ => by rw [List.mem_singleton.mp hp]; rfl) rfl (lamF (sc := defScope s_check_dead) (by decide +kernel))) pa_nil))))
    (pss_one (ps_if (pt_cmpR op_lt (pv 2) (pe_callB (call_lenK (K := K) rfl) (by rfl) T.f_len bt_len (pa_cons (pv 0) pa_nil)) (nomark _)) (pss_one ps_never) pss_nil)))), ?_⟩
    obtain ⟨n, rfl, hT, hQ⟩ := h
    refine ⟨_, rfl, _, _, .type "tuple", .type "tuple", true, rfl, .ty _, (T.tup_dead H).ty, kTT, true, rfl, iteF ⟨_, rfl, hT, fun f H1 e1 t1 => ⟨_, _, rfl, .inl ⟨T.tup_dead H1, fun H2 e2 => ⟨_, rfl, _, rfl, _, [], rfl, .inr (T.tup_dead H2).sq, _, _, rfl, rfl, _, rfl, iteDF (by decide) (hQ _ (e1.trans (.of e2)) (t1.ext e2))⟩⟩⟩⟩⟩
/-! ### lists put together -/
theorem tupL_cat {α : Type} {F : α → List V} {H : Hp} {a b : Addr} {l m : List α} (h1 : TupL H a F l) (h2 : TupL H b F m) : ∃ xs zs, H a = some (.lst xs) ∧ H b = some (.lst zs) ∧ xs.length = l.length ∧ zs.length = m.length ∧ ∀ p, H p = none → TupL (upd H p (.lst (xs ++ zs))) p F (l ++ m) := by
  obtain ⟨as, ha, hp⟩ := h1
  obtain ⟨bs, hb, hq⟩ := h2
  refine ⟨_, _, ha, hb, by rw [List.length_map, pair_len hp], by rw [List.length_map, pair_len hq], fun p np => ⟨as ++ bs, ?_, ?_⟩⟩
  · rw [upd_same, List.map_append]
  · exact pair_app (Paired.imp hp fun _ _ z => same_new np _ _ z) (Paired.imp hq fun _ _ z => same_new np _ _ z)
abbrev kwR (K : PySem.W.Frag) : List (Str × V) := [("dead", .ref (kdAt "dead" K)), ("least", .int 1), ("most", .int 20), ("paces", .ref (kdAt "paces" K)), ("groups", .ref (kdAt "groups" K))]
def inA (K : PySem.W.Frag) (x dx kn : Addr) (H : Hp) (Q : VK) : Prop := ∃ (kdx t d ps gs gl : Addr) (r : Rec), H x = some (.ins (He.ga K "Record") dx []) ∧ H kn = some (.ins (He.ga K "Known") kdx [("parts", .ref t)]) ∧ H t = some (.tup (toldL r d ps gs gl)) ∧
  ∀ H1, Sab x H H1 → H1 x = some (.ins (He.ga K "Record") dx (recF r t d ps gs gl)) → Q .non H1
def inB (K : PySem.W.Frag) (x dx ps : Addr) (W lo hi : Int) (H : Hp) (Q : VK) : Prop := ∃ r : Rec, W = (r.W : Int) ∧ lo = (r.lo : Int) ∧ hi = (r.hi : Int) ∧ r.Ok ∧ r.gl = [] ∧ H x = some (.ins (He.ga K "Record") dx []) ∧ Tup K H ps [.int r.p] ∧ LamX.Tabs (TB K) H ∧
  ∀ H1 t gl, (∀ b o, b ≠ x → H b = some o → (∀ qs, o ≠ .tbl qs) → H1 b = some o) → LamX.Tabs (TB K) H1 → H1 x = some (.ins (He.ga K "Record") dx (recF r t (kdAt "dead" K) ps (kdAt "groups" K) gl)) → H1 t = some (.tup (toldL r (kdAt "dead" K) ps (kdAt "groups" K) gl)) → Told K H1 r (kdAt "dead" K) ps (kdAt "groups" K) gl → Q .non H1
def sp_Record_init (K : PySem.W.Frag) : Sp := fun vs H Q _ => ∃ v0 v1 v2 v3 v4 v5 v6, vs = [v0, v1, v2, v3, v4, v5, v6] ∧
  ((∃ x dx kn, v0 = .ref x ∧ v1 = .ref kn ∧ inA K x dx kn H Q) ∨ (∃ x dx ps W lo hi, v0 = .ref x ∧ v1 = .int W ∧ v2 = .ref (kdAt "dead" K) ∧ v3 = .int lo ∧ v4 = .int hi ∧ v5 = .ref ps ∧ v6 = .ref (kdAt "groups" K) ∧ inB K x dx ps W lo hi H Q))
theorem fn_Record_init {fd : FuncData} (T : Tx K mg base) (F : FunD K "__init__" "Record.__init__" (defArgs s_Record_init) (defBody s_Record_init) (defScope s_Record_init) [] (kwR K) (He.ma K (He.ga K "Record") "__init__") fd) : FnOk P w K mg base C8.CX0 6 (He.ma K (He.ga K "Record") "__init__") fd ["self", "width", "dead", "least", "most", "paces", "groups"] (sp_Record_init K) := by
  refine F.ok sc_Record_init (fun vs H Q E h => ?_) (fun cdv A outer s H vs Q E hr h => ?_)
  · obtain ⟨_, _, _, _, _, _, _, rfl, _⟩ := h
    rfl
  · refine ⟨_, PSs.nox (pss_cons (ps_if (pt_val (pe_callB (call_isiK1 (K := K) rfl) (by rfl) T.f_isinstance bt_isinstance (pa_cons (pv 1) (pa_cons (pe_glob (v := .ref (He.ga K "Known")) (by rfl) T.g_Known rfl) pa_nil)))) (pss_one (ps_fld (pv 0) (pe_fldK (K := K) rfl (pv 1) rfl) rfl)) (pss_cons (ps_expr (C8.pe_c (cal_check_width T) hr (by decide) (by rfl) (pa_cons (pv 1) pa_nil)))
    (pss_cons (ps_expr (C8.pe_c (cal_check_dead T) hr (by decide) (by rfl) (pa_cons (pv 2) (pa_cons (pv 1) pa_nil))))
    (pss_cons (ps_expr (C8.pe_c (cal_check_lengths T) hr (by decide) (by rfl) (pa_cons (pv 3) (pa_cons (pv 4) pa_nil))))
    (pss_cons (ps_expr (C8.pe_c (cal_check_paces T) hr (by decide) (by rfl) (pa_cons (pv 5) pa_nil)))
    (pss_cons (ps_expr (C8.pe_c (cal_check_groups T) hr (by decide) (by rfl) (pa_cons (pv 6) pa_nil)))
    (pss_one (ps_fld (pv 0) (pe_tup (pa_cons (pv 1) (pa_cons (pv 2) (pa_cons (pv 3) (pa_cons (pv 4) (pa_cons (pv 5) (pa_cons (pv 6) (pa_cons (pe_tup pa_nil) pa_nil)))))))) rfl))))))))
    (pss_one (ps_asg (pe_fldK (K := K) rfl (pv 0) rfl) (pg_tupK (K := K) rfl (n := 7) rfl (pgs_cons (pg_attr (pv 0)) (pgs_cons (pg_attr (pv 0)) (pgs_cons (pg_attr (pv 0)) (pgs_cons (pg_attr (pv 0)) (pgs_cons (pg_attr (pv 0)) (pgs_cons (pg_attr (pv 0)) (pgs_cons (pg_attr (pv 0)) pgs_nil))))))))))), ?_⟩
    have seven : ∀ {H : Hp} {x dx t d ps gs gl : Addr} {r : Rec} {v1 v2 v3 v4 v5 v6 : V} {Q : VK}, H x = some (.ins (He.ga K "Record") dx [("told", .ref t)]) → H t = some (.tup (toldL r d ps gs gl)) → (∀ H1, Sab x H H1 → H1 x = some (.ins (He.ga K "Record") dx (recF r t d ps gs gl)) → Q .non H1) →
        tAsg (tFld K (tVar 0) "told") (gTup K 7 (gCons (gAttr K (tVar 0) "width") (gCons (gAttr K (tVar 0) "dead") (gCons (gAttr K (tVar 0) "least") (gCons (gAttr K (tVar 0) "most") (gCons (gAttr K (tVar 0) "paces") (gCons (gAttr K (tVar 0) "groups") (gCons (gAttr K (tVar 0) "glances") gNil)))))))) { nx := fun _ H' => Q .non H', rt := Q } [some (.ref x), some v1, some v2, some v3, some v4, some v5, some v6] H := by
      intro H x dx t d ps gs gl r v1 v2 v3 v4 v5 v6 Q hx ht hq
      refine ⟨_, rfl, x, _, dx, _, .ref t, rfl, hx, T.c_Record, T.na_Record_told, rfl, t, _, rfl, SqT.of ht, rfl, ?_⟩
      refine ⟨_, _, rfl, _, rfl, x, _, dx, _, rfl, hx, T.c_Record, T.na_Record_width, by show 1 < 1000; decide, ?_⟩
      refine ⟨_, _, rfl, _, rfl, x, _, dx, _, rfl, upd_same, T.c_Record, T.na_Record_dead, by show 2 < 1000; decide, ?_⟩
      refine ⟨_, _, rfl, _, rfl, x, _, dx, _, rfl, upd_same, T.c_Record, T.na_Record_least, by show 3 < 1000; decide, ?_⟩
      refine ⟨_, _, rfl, _, rfl, x, _, dx, _, rfl, upd_same, T.c_Record, T.na_Record_most, by show 4 < 1000; decide, ?_⟩
      refine ⟨_, _, rfl, _, rfl, x, _, dx, _, rfl, upd_same, T.c_Record, T.na_Record_paces, by show 5 < 1000; decide, ?_⟩
      refine ⟨_, _, rfl, _, rfl, x, _, dx, _, rfl, upd_same, T.c_Record, T.na_Record_groups, by show 6 < 1000; decide, ?_⟩
      refine ⟨_, _, rfl, _, rfl, x, _, dx, _, rfl, upd_same, T.c_Record, T.na_Record_glances, by show 7 < 1000; decide, ?_⟩
      refine ⟨rfl, hq _ ?_ ?_⟩
      · exact (((((((Sab.refl x H).put).put).put).put).put).put).put
      · exact upd_same
    obtain ⟨v0, v1, v2, v3, v4, v5, v6, rfl, h⟩ := h
    rcases h with ⟨x, dx, kn, rfl, rfl, kdx, t, d, ps, gs, gl, r, hx, hk, ht, hQ⟩ | ⟨x, dx, ps, W, lo, hi, rfl, rfl, rfl, rfl, rfl, rfl, rfl, r, rfl, rfl, rfl, ok, hgl, hx, hps, hT, hQ⟩
    · refine ⟨_, rfl, _, _, _, _, true, rfl, .own _, T.ty_Known hk, T.k_Known, true, rfl, iteT ?_⟩
      refine ⟨_, rfl, kn, _, kdx, _, .ref t, rfl, hk, T.c_Known, T.na_Known_parts, rfl, _, rfl, x, _, dx, [], rfl, hx, T.c_Record, T.na_Record_told, by decide, ?_⟩
      refine seven (t := t) (r := r) upd_same (by rw [upd_ne (ne_of ht hx (by intro z; cases z))]; exact ht) fun H1 e h1 => hQ H1 (Sab.trans (sab_put) e) h1
    · have k1 := ok.w1
      have k2 := ok.w8
      have k3 := ok.l1
      have k4 := ok.lh
      have k5 := ok.h40
      refine ⟨_, rfl, _, _, _, _, false, rfl, .own _, .base (.int _), T.k_int, false, rfl, iteF ?_⟩
      refine ⟨_, rfl, _, rfl, by omega, by omega, ?_⟩
      refine ⟨_, rfl, _, rfl, _, rfl, hT, fun H1 e1 t1 => ?_⟩
      refine ⟨_, rfl, _, rfl, _, _, rfl, by omega, by omega, by omega, ?_⟩
      have e1t : SameT H H1 := fun b xs hb => e1 b _ hb (fun qs z => by cases z)
      have hps1 := hps.ext e1t
      have hx1 := e1 _ _ hx (fun qs z => by cases z)
      refine ⟨_, rfl, _, _, rfl, hps1, ⟨ok.p1, ok.p9⟩, fun H2 e2 => ?_⟩
      refine ⟨_, rfl, _, rfl, T.tup_groups _, fun H3 e3 => ?_⟩
      refine ⟨_, rfl, _, rfl, _, rfl, _, rfl, _, rfl, _, rfl, lnk, fun q nq => ⟨lnk, fun t nt => ?_⟩⟩
      have e23 := e2.trans e3
      have hx3 := same_new (o := .tup (toldL r (kdAt "dead" K) ps (kdAt "groups" K) q)) nt _ _ (same_new nq _ _ (e23 _ _ hx1))
      refine ⟨_, rfl, x, _, dx, [], rfl, hx3, T.c_Record, T.na_Record_told, by decide, ?_⟩
      have htx : t ≠ x := fun z => by
        rw [z] at nt
        have := same_new (o := .tup []) nq _ _ (e23 _ _ hx1)
        rw [this] at nt
        cases nt
      have ee := (e23.trans (same_new (o := .tup []) nq)).trans (same_new (o := .tup (toldL r (kdAt "dead" K) ps (kdAt "groups" K) q)) nt)
      refine seven (t := t) (r := r) (d := kdAt "dead" K) (ps := ps) (gs := kdAt "groups" K) (gl := q) upd_same (by rw [upd_ne htx]; exact upd_same) fun H4 e4 h4 => ?_
      have e5 : ∀ b o, b ≠ x → upd (upd H3 q (.tup [])) t (.tup (toldL r (kdAt "dead" K) ps (kdAt "groups" K) q)) b = some o → H4 b = some o := fun b o n hb => e4 b o n (by rw [upd_ne n]; exact hb)
      have hx4 : ∀ qs, (.ins (He.ga K "Record") dx [] : HO) ≠ .tbl qs := fun qs z => by cases z
      have tup5 : ∀ b xs, (upd (upd H3 q (.tup [])) t (.tup (toldL r (kdAt "dead" K) ps (kdAt "groups" K) q))) b = some (.tup xs) → H4 b = some (.tup xs) := fun b xs hb => e5 b _ (fun z => by
        rw [z] at hb
        rw [hx3] at hb
        cases hb) hb
      refine hQ H4 t q (fun b o n hb no => e5 b o n (ee _ _ (e1 b o hb no))) ?_ h4 (tup5 _ _ upd_same) ⟨T.tup_dead _, hps1.ext (SameT.trans (.of ee) tup5), T.tup_groups _, ?_⟩
      · intro p hp
        obtain ⟨qs, h1, h2, h3⟩ := t1 p hp
        refine ⟨qs, e5 _ _ (fun z => ?_) (ee _ _ h1), h2, fun pos cv hcv => ?_⟩
        · rw [z, hx1] at h1
          cases h1
        · obtain ⟨c, hc1, hc2⟩ := h3 pos cv hcv
          refine ⟨c, hc1, e5 _ _ (fun z => ?_) (ee _ _ hc2)⟩
          rw [z, hx1] at hc2
          cases hc2
      · rw [hgl]
        have hqt : q ≠ t := fun z => by
          rw [z] at nt
          rw [upd_same] at nt
          cases nt
        exact ⟨[], .inl (tup5 _ _ (by rw [upd_ne hqt]; exact upd_same)), .nil⟩
theorem mak_Record (T : Tx K mg base) : C8.Mak P w K mg base 6 "Record" (He.ga K "Record") (sp_Record_init K) ((kwR K).map (·.2)) := by
  obtain ⟨fd, F0⟩ := T.D_Record_init
  have F : FunD K "__init__" "Record.__init__" (defArgs s_Record_init) (defBody s_Record_init) (defScope s_Record_init) [] (kwR K) (He.ma K (He.ga K "Record") "__init__") fd := F0
  obtain ⟨ds, rds, bb⟩ := F.binds0 (ps := ["self", "width", "dead", "least", "most", "paces", "groups"]) 2 (by intro z; cases z) rfl (fun D doc pm an cdv ct us ks l1 l2 => match us, ks, l1, l2 with | [_, _], [_, _, _, _, _], _, _ => ⟨_, _, _, _, _, _, rfl, rfl, _, _, _, _, _, _, rfl, rfl, _, _, _, _, _, _, rfl, rfl, _, _, _, _, _, _, rfl, rfl, _, _, _, _, _, _, rfl, rfl, rfl⟩)
  exact ⟨⟨_, fd, _, ds, T.mk_Record, fn_Record_init T F, T.g_Record, bb, rds⟩⟩
end
end Gz
set_option maxHeartbeats 4000000
namespace Gz
open PySem PySem.Spec PyProof.Rows L2
section
variable {P : Program} {w : World} {K : PySem.W.Frag} {mg : Str → Option Value} {base : Heap}
abbrev N_with_glances : List Str := ["record", "glances"]
def sp_with_glances (K : PySem.W.Frag) : Sp := fun vs H Q _ => ∃ (a g : Addr) (r : Rec) (gl : List (Int × List Nat)), vs = [.ref a, .ref g] ∧ RecO K H a r ∧ GlT K H g gl ∧ ∀ b H1, Same H H1 → RecO K H1 b { r with gl := gl } → Q (.ref b) H1
theorem cal_with_glances (T : Tx K mg base) : C8.Cal P w K mg base 8 "with_glances" (sp_with_glances K) [] := by
  obtain ⟨fd, F0⟩ := T.D_with_glances
  have F : FunD K "with_glances" "with_glances" (defArgs s_with_glances) (defBody s_with_glances) (defScope s_with_glances) [] [] (He.ga K "with_glances") fd := F0
  refine ⟨⟨_, fd, ["record", "glances"], [], F.ok sc_with_glances (fun vs H Q E h => ?_) (fun cdv A outer s H vs Q E hr h => ?_), T.g_with_glances, F.kp, F.bindsN (fun _ _ _ _ _ _ us hl => match us, hl with | [_, _], _ => rfl), .nil⟩⟩
  · obtain ⟨_, _, _, _, rfl, _⟩ := h
    rfl
  · refine ⟨_, PSs.nox (pss_one (ps_ret (C8.pe_mk (mak_Record T) hr (by decide) (by rfl) (pa_cons (C8.pe_mk (mak_Known T) hr (by decide) (by rfl) (pa_cons (pe_tup (pa_cons (pe_fldK (K := K) rfl (pv 0) rfl) (pa_cons (pe_fldK (K := K) rfl (pv 0) rfl) (pa_cons (pe_fldK (K := K) rfl (pv 0) rfl) (pa_cons (pe_fldK (K := K) rfl (pv 0) rfl) (pa_cons (pe_fldK (K := K) rfl (pv 0) rfl) (pa_cons (pe_fldK (K := K) rfl (pv 0) rfl) (pa_cons (pv 1) pa_nil)))))))) pa_nil)) pa_nil)))), ?_⟩
    obtain ⟨a, g, r, gl, rfl, ⟨dx0, t0, d, ps, gs, gl0, R⟩, hg, hQ⟩ := h
    refine ⟨_, rfl, _, _, _, _, _, rfl, R.o, T.c_Record, T.na_Record_width, rfl, _, rfl, _, _, _, _, _, rfl, R.o, T.c_Record, T.na_Record_dead, rfl, _, rfl, _, _, _, _, _, rfl, R.o, T.c_Record, T.na_Record_least, rfl, _, rfl, _, _, _, _, _, rfl, R.o, T.c_Record, T.na_Record_most, rfl, _, rfl, _, _, _, _, _, rfl, R.o, T.c_Record, T.na_Record_paces, rfl, _, rfl, _, _, _, _, _, rfl, R.o, T.c_Record, T.na_Record_groups, rfl, _, rfl, lnk, fun t nt => fun kn kdx nk nkd kne => ⟨kn, kdx, .ref t, rfl, upd_same, fun H1 e h1 => ⟨rfl, fun x dx nx ndx xne => ?_⟩⟩⟩
    have sa : Same H (upd H t (.tup (toldL { r with gl := gl } d ps gs g))) := same_new nt
    have s1 : Same (upd H t (.tup (toldL { r with gl := gl } d ps gs g))) H1 := Same.made nk nkd fun b o h n => e b o n h
    have s2 : Same H1 (upd (upd H1 dx (.own x)) x (.ins (He.ga K "Record") dx [])) := fun b o hb => by
      rw [upd_ne (ne_of_none hb nx), upd_ne (ne_of_none hb ndx)]
      exact hb
    refine ⟨_, _, _, _, _, _, _, rfl, .inl ⟨x, dx, kn, rfl, rfl, kdx, t, d, ps, gs, g, { r with gl := gl }, upd_same, s2 _ _ h1, s2 _ _ (s1 _ _ upd_same), fun H2 e2 h2 => ⟨rfl, ?_⟩⟩⟩
    have s3 : Same H1 H2 := Same.made nx ndx fun b o h n => e2 b o n h
    have sT := sa.trans (s1.trans s3)
    refine hQ x H2 sT ⟨dx, t, d, ps, gs, g, h2, e2 _ _ xne (by rw [upd_ne xne]; exact upd_same), s3 _ _ (s1 _ _ upd_same), ⟨R.p.d.ext (.of sT), R.p.ps.ext (.of sT), R.p.gs.ext (.of sT), hg.ext (.of sT)⟩⟩
abbrev N_Record_readings : List Str := ["self", "found", "time", "window"]
def sp_Record_readings (K : PySem.W.Frag) : Sp := fun vs H Q _ => ∃ (a : Addr) (r : Rec), vs = [.ref a] ∧ RecO K H a r ∧ r.Ok ∧ ∀ b H1, Same H H1 → RdsL H1 b (rds r.gl) → Q (.ref b) H1
theorem mt_Record_readings (T : Tx K mg base) : Mt P w K mg base 3 (He.ga K "Record") "readings" (sp_Record_readings K) := by
  obtain ⟨fd, F0⟩ := T.D_Record_readings
  have F : FunD K "readings" "Record.readings" (defArgs s_Record_readings) (defBody s_Record_readings) (defScope s_Record_readings) [] [] (He.ma K (He.ga K "Record") "readings") fd := F0
  refine ⟨⟨_, fd, ["self"], T.c_Record, T.m_Record_readings, F.ok sc_Record_readings (fun vs H Q E h => ?_) (fun cdv A outer s H vs Q E hr h => ?_), F.bindsN (fun _ _ _ _ _ _ us hl => match us, hl with | [_], _ => rfl)⟩⟩
  · obtain ⟨_, _, rfl, _⟩ := h
    rfl
  · refine ⟨_, PSs.nox (pss_cons (ps_set (i := 1) sc_Record_readings.nd rfl locV (pe_lst pa_nil))
    (pss_cons (ps_for PassesOwn.never rfl (pi_tupK (K := K) rfl (pe_fldK (K := K) rfl (pv 0) rfl)) (pg_tupK (K := K) rfl (n := 2) rfl (pgs_cons (pg_name (i := 2) sc_Record_readings.nd rfl locV) (pgs_cons (pg_name (i := 3) sc_Record_readings.nd rfl locV) pgs_nil))) (pss_one (ps_set (i := 1) sc_Record_readings.nd rfl locV (pe_op op_cat (pv 1) (C8.pe_c (cal_readings_in T) hr (by decide) (by rfl) (pa_cons (pv 2) (pa_cons (pv 3) (pa_cons (pe_fldK (K := K) rfl (pv 0) rfl) pa_nil))))))))
    (pss_one (ps_ret (pv 1))))), ?_⟩
    obtain ⟨a, r, rfl, ⟨dx, t, d, ps, gs, gl, R⟩, ok, hQ⟩ := h
    obtain ⟨as, hgl, hP⟩ := R.p.gl
    have hl : (as.map V.ref).length = r.gl.length := by rw [List.length_map, pair_len hP]
    have k8 := ok.w8
    have kn := ok.gn
    have lns : ∀ i, (rds (r.gl.take i)).length ≤ 100 := fun i => by
      have h1 := rds_len (gl := r.gl.take i) (W := r.W) fun g hg => ok.gw g (List.mem_of_mem_take hg)
      have h2 : (r.gl.take i).length ≤ 12 := by rw [List.length_take]; omega
      have h3 : (r.gl.take i).length * r.W ≤ 12 * 8 := Nat.mul_le_mul h2 k8
      omega
    refine ⟨lnk, fun f0 nf => ⟨_, rfl, _, _, _, _, _, rfl, (R.ext (same_new nf)).o, T.c_Record, T.na_Record_glances, rfl, _, rfl, ⟨_, (hgl.ext (.of (same_new nf))).sq⟩, for_tup (xs := as.map V.ref) (fun i σ H1 => Same H H1 ∧ ∃ b x y, σ = [some (.ref a), some (.ref b), x, y] ∧ RdsL H1 b (rds (r.gl.take i))) ⟨same_new nf, f0, none, none, rfl, tupL_nil upd_same⟩ (fun i σ H1 _ hp => (hgl.ext (.of hp.1)).sq) (fun i v σ H1 hv ⟨e, b, x, y, eσ, hb⟩ => ?_) fun σ H1 ⟨e, b, x, y, eσ, hb⟩ => ?_⟩⟩
    · subst eσ
      obtain ⟨q, hq, rfl⟩ : ∃ q, as[i]? = some q ∧ v = .ref q := by
        rw [List.getElem?_map] at hv
        cases z : as[i]? with
        | none => rw [z] at hv; cases hv
        | some q => rw [z] at hv; exact ⟨q, rfl, (Option.some.inj hv).symm⟩
      obtain ⟨⟨t1, w1⟩, hx, hq1⟩ := pair_at1 hP hq
      have hm := List.mem_of_getElem? hx
      have hw := ok.gw _ hm
      have R1 := R.ext e
      have hlw := readW_len (t := t1) w1 0
      have hw' : w1.length = r.W := hw
      refine ⟨_, _, rfl, (hq1.ext (.of e)).sq, rfl, _, _, rfl, _, _, rfl, rfl, ?_⟩
      refine ⟨_, rfl, _, rfl, _, rfl, _, rfl, _, _, _, _, _, rfl, R1.o, T.c_Record, T.na_Record_groups, rfl, t1, w1, _, rfl, by omega, ok.ga _ hm, fun c H2 e2 hc => ?_⟩
      obtain ⟨xs, zs, h1, h2, h3, h4, h5⟩ := tupL_cat (hb.ext e2) hc
      have l1 := lns i
      refine ⟨b, c, xs, zs, rfl, rfl, h1, h2, Nat.le_of_lt (small (by omega)), fun p np => ⟨(e.trans e2).trans (same_new np), p, _, _, rfl, ?_⟩⟩
      rw [take_snoc hx, rds_snoc]
      exact h5 p np
    · subst eσ
      rw [hl, List.take_length] at hb
      exact ⟨_, rfl, hQ b H1 e hb⟩
abbrev N_Record_seen : List Str := ["self", "time", "window", "place"]
def sp_Record_seen (K : PySem.W.Frag) : Sp := fun vs H Q _ => ∃ (a : Addr) (r : Rec) (t : Int) (w : List Nat), vs = [.ref a, .int t, .str (SX.S w)] ∧ RecO K H a r ∧ (0 ≤ t ∧ t ≤ 10 ^ 30) ∧ w.length = r.W ∧ r.W ≤ 8 ∧ RdOk w ∧ r.gl.length < 12 ∧ ∀ b H1, Same H H1 → RecO K H1 b { r with gl := r.gl ++ [(t, w)] } → Q (.ref b) H1
theorem mt_Record_seen (T : Tx K mg base) : Mt P w K mg base 9 (He.ga K "Record") "seen" (sp_Record_seen K) := by
  obtain ⟨fd, F0⟩ := T.D_Record_seen
  have F : FunD K "seen" "Record.seen" (defArgs s_Record_seen) (defBody s_Record_seen) (defScope s_Record_seen) [] [] (He.ma K (He.ga K "Record") "seen") fd := F0
  refine ⟨⟨_, fd, ["self", "time", "window"], T.c_Record, T.m_Record_seen, F.ok sc_Record_seen (fun vs H Q E h => ?_) (fun cdv A outer s H vs Q E hr h => ?_), F.bindsN (fun _ _ _ _ _ _ us hl => match us, hl with | [_, _, _], _ => rfl)⟩⟩
  · obtain ⟨_, _, _, _, rfl, _⟩ := h
    rfl
  · refine ⟨_, PSs.nox (pss_cons (ps_expr (C8.pe_c (cal_check_time T) hr (by decide) (by rfl) (pa_cons (pv 1) pa_nil)))
    (pss_cons (ps_expr (C8.pe_c (cal_check_reading T) hr (by decide) (by rfl) (pa_cons (pv 2) (pa_cons (pv 0) pa_nil))))
    (pss_cons (ps_if (pt_val (pe_callB (cr_anyK (K := K) rfl rfl) (by rfl) T.f_any bt_any (pa_cons (pe_lc (own := [("place", 3)]) rfl sc_Record_seen.nd (pi_tupK (K := K) rfl (pe_fldK (K := K) rfl (pv 0) rfl)) (blkOk_by (own := [("place", 3)]) (N := N_Record_seen) (sc := defScope s_Record_seen) (by decide +kernel)) (fun _ _ _ _ _ => (pg_name (i := 3) sc_Record_seen.nd rfl locV)) (fun _ _ _ _ _ => pts_nil) (fun _ _ _ _ _ => (pe_cmpR op_ne (pe_ix ix_str (pv 2) (pv 3) (fun _ _ => rfl)) (C8.pe_gc (by rfl) T.s_UNREAD) (nomark _)))) pa_nil))) (pss_one ps_never) pss_nil)
    (pss_cons (ps_if (pt_cmpR op_eq (pe_callB (call_lenK (K := K) rfl) (by rfl) T.f_len bt_len (pa_cons (pe_fldK (K := K) rfl (pv 0) rfl) pa_nil)) (C8.pe_gc (by rfl) T.i_MOST_GLANCES) (nomark _)) (pss_one ps_never) pss_nil)
    (pss_one (ps_ret (C8.pe_c (cal_with_glances T) hr (by decide) (by rfl) (pa_cons (pv 0) (pa_cons (pe_op (op_catK (K := K) rfl) (pe_fldK (K := K) rfl (pv 0) rfl) (pe_tup (pa_cons (pe_tup (pa_cons (pv 1) (pa_cons (pv 2) pa_nil))) pa_nil))) pa_nil))))))))), ?_⟩
    obtain ⟨a, r, t, w, rfl, RO, ht, hw, h8, hr8, h12, hQ⟩ := h
    refine ⟨_, rfl, t, rfl, ht.1, ht.2, ?_⟩
    refine ⟨_, rfl, _, rfl, w, a, r, rfl, RO, hw, h8, hr8, fun H1 e1 => ?_⟩
    obtain ⟨dx, tt, d, ps, gs, gl, R⟩ := RO.ext e1
    obtain ⟨as, hgl, hP⟩ := R.p.gl
    refine ⟨_, rfl, _, _, _, _, _, rfl, R.o, T.c_Record, T.na_Record_dead, rfl, _, rfl, ⟨_, R.p.d.sq⟩, fun D nD => lc_it (walk_tup (xs := [])) (fun i H2 => Same H1 H2 ∧ H2 D = some (.lst (List.replicate i (.bl false)))) ⟨same_new nD, upd_same⟩ (fun i H2 _ hp => (R.p.d.ext (.of hp.1)).sq) (fun i x H1 H2 hi => absurd hi (Nat.not_lt_zero _)) fun H2 ⟨e2, hD⟩ => ⟨D, [], rfl, SqL.of hD, _, rfl, iteF ?_⟩⟩
    have R2 := R.ext e2
    have hgl2 := hgl.ext (.of e2)
    have hl : (as.map V.ref).length = r.gl.length := by rw [List.length_map, pair_len hP]
    refine ⟨_, rfl, _, _, _, _, _, rfl, R2.o, T.c_Record, T.na_Record_glances, rfl, _, _, rfl, .inr hgl2.sq, rfl, _, rfl, iteDF (fun z => by
      have := V.int.inj z
      rw [hl] at this
      omega) ?_⟩
    refine ⟨_, rfl, _, rfl, _, _, _, _, _, rfl, R2.o, T.c_Record, T.na_Record_glances, rfl, _, rfl, _, rfl, lnk, fun q nq => ⟨lnk, fun u nu => ?_⟩⟩
    have s2 : Same H2 (upd (upd H2 q (.tup [.int t, .str (SX.S w)])) u (.tup [.ref q])) := (same_new nq).trans (same_new nu)
    have nqu : q ≠ u := fun z => by
      rw [z] at nu
      rw [upd_same] at nu
      cases nu
    have hqq : (upd (upd H2 q (.tup [.int t, .str (SX.S w)])) u (.tup [.ref q])) q = some (.tup [.int t, .str (SX.S w)]) := by
      rw [upd_ne nqu]
      exact upd_same
    refine ⟨_, _, _, _, rfl, rfl, (hgl2.ext (.of s2)).sq, SqT.of upd_same, ?_, fun hx => ?_, fun _ hy => absurd hy (by intro z; cases z), fun hx _ p np => ?_⟩
    · rw [hl]
      exact Nat.le_of_lt (small (by show r.gl.length + 1 < 1000000; omega))
    · have h0 : r.gl = [] := by
        cases z : r.gl with
        | nil => rfl
        | cons g l =>
          rw [z, hx] at hl
          cases hl
      refine ⟨a, u, r, [(t, w)], rfl, ⟨dx, tt, d, ps, gs, gl, R2.ext s2⟩, ⟨[q], .inl upd_same, .cons (.inl hqq) .nil⟩, fun b H3 e3 hb => ?_⟩
      refine hQ b H3 (e1.trans (e2.trans (s2.trans e3))) ?_
      rw [h0, List.nil_append]
      exact hb
    · have s3 := s2.trans (same_new (o := .tup (as.map V.ref ++ [.ref q])) np)
      refine ⟨a, p, r, r.gl ++ [(t, w)], rfl, ⟨dx, tt, d, ps, gs, gl, R2.ext s3⟩, ⟨as ++ [q], .inl ?_, pair_snoc (Paired.imp hP fun b y z => (z.ext (.of e2)).ext (.of s3)) (.inl (same_new np _ _ hqq))⟩, fun b H3 e3 hb => hQ b H3 (e1.trans (e2.trans (s3.trans e3))) hb⟩
      rw [upd_same, List.map_append]
      rfl
abbrev N_Record_repr : List Str := ["self"]
def sp_Record_repr (K : PySem.W.Frag) : Sp := fun vs H Q _ => ∃ (a : Addr) (r : Rec), vs = [.ref a] ∧ RecO K H a r ∧ r.Ok ∧ Q (.str (((((Str.empty ++ Str.ofString "Record of ") ++ Str.ofString (toString (r.W : Int))) ++ Str.ofString " places, ") ++ Str.ofString (toString (r.gl.length : Int))) ++ Str.ofString " glances")) H
theorem mt_Record_repr (T : Tx K mg base) : Mt P w K mg base 1 (He.ga K "Record") "__repr__" (sp_Record_repr K) := by
  obtain ⟨fd, F0⟩ := T.D_Record_repr
  have F : FunD K "__repr__" "Record.__repr__" (defArgs s_Record_repr) (defBody s_Record_repr) (defScope s_Record_repr) [] [] (He.ma K (He.ga K "Record") "__repr__") fd := F0
  refine ⟨⟨_, fd, ["self"], T.c_Record, T.m_Record_repr, F.ok sc_Record_repr (fun vs H Q E h => ?_) (fun cdv A outer s H vs Q E hr h => ?_), F.bindsN (fun _ _ _ _ _ _ us hl => match us, hl with | [_], _ => rfl)⟩⟩
  · obtain ⟨_, _, rfl, _⟩ := h
    rfl
  · refine ⟨_, PSs.nox (pss_one (ps_ret (pe_joined (PJ.cons pe_str (PJ.cons (pe_fmt (pe_fldK (K := K) rfl (pv 0) rfl)) (PJ.cons pe_str (PJ.cons (pe_fmt (pe_callB (call_lenK (K := K) rfl) (by rfl) T.f_len bt_len (pa_cons (pe_fldK (K := K) rfl (pv 0) rfl) pa_nil))) (PJ.cons pe_str PJ.nil)))))))), ?_⟩
    obtain ⟨a, r, rfl, ⟨dx, t, d, ps, gs, gl, R⟩, ok, hQ⟩ := h
    obtain ⟨as, hgl, hP⟩ := R.p.gl
    have hl : (as.map V.ref).length = r.gl.length := by rw [List.length_map, pair_len hP]
    have k8 := ok.w8
    have kn := ok.gn
    have z1 := sx_len (r.W : Int) (by omega)
    have z2 := sx_len (r.gl.length : Int) (by omega)
    have y1 : (Str.ofString "Record of ").length = 10 := rfl
    have y2 : (Str.ofString " places, ").length = 9 := rfl
    have y3 : (Str.ofString " glances").length = 8 := rfl
    refine ⟨_, rfl, len_le (by rw [len_cat, len_emp]; omega), _, rfl, _, _, _, _, _, rfl, R.o, T.c_Record, T.na_Record_width, rfl, .inr ⟨_, rfl, log_small (by omega), _, rfl, len_le (by rw [len_cat, len_cat, len_emp]; omega), _, rfl, len_le (by rw [len_cat, len_cat, len_cat, len_emp]; omega), _, rfl, _, _, _, _, _, rfl, R.o, T.c_Record, T.na_Record_glances, rfl, _, _, rfl, .inr hgl.sq, .inr ⟨_, rfl, log_small (by rw [hl]; omega), _, rfl, ?_, _, rfl, ?_, ?_⟩⟩⟩
    · rw [hl]
      exact len_le (by rw [len_cat, len_cat, len_cat, len_cat, len_emp]; omega)
    · rw [hl]
      exact len_le (by rw [len_cat, len_cat, len_cat, len_cat, len_cat, len_emp]; omega)
    · rw [hl]
      exact hQ
end
end Gz
set_option maxHeartbeats 4000000
namespace Gz
open PySem PySem.Spec PyProof.Rows L2
section
variable {P : Program} {w : World} {K : PySem.W.Frag} {mg : Str → Option Value} {base : Heap}
def lsP (r : Rec) (i : Nat) : List Nat := (List.range' r.lo i).filter r.fits
theorem lsP_step (r : Rec) (i : Nat) : lsP r (i + 1) = lsP r i ++ (if r.fits (r.lo + i) = true then [r.lo + i] else []) := by
  unfold lsP
  rw [range'_snoc, List.filter_append]
  congr 1
  rw [List.filter_cons]
  split <;> rfl
theorem lsP_all (r : Rec) : lsP r (r.hi + 1 - r.lo) = r.Ls := rfl
theorem lsP_len (r : Rec) (i : Nat) : (lsP r i).length ≤ i := Nat.le_trans (List.length_filter_le _ _) (by rw [List.length_range']; exact Nat.le_refl _)
theorem mem_Ls {r : Rec} (ok : r.Ok) {L : Nat} (h : L ∈ r.Ls) : 1 ≤ L ∧ L ≤ 40 ∧ r.fits L = true := by
  obtain ⟨h1, h2⟩ := List.mem_filter.mp h
  obtain ⟨i, h3, h4⟩ := List.mem_range'.mp h1
  have k1 := ok.l1
  have k2 := ok.lh
  have k3 := ok.h40
  exact ⟨by omega, by omega, h2⟩
theorem F_shp {r : Rec} (ok : r.Ok) (L : Nat) (n : Int) : Shp (r.F L n) := FL_shp (rds_al ok.ga) n
theorem F_len {r : Rec} (ok : r.Ok) (L : Nat) (n : Int) : (r.F L n).length ≤ 27 := (F_shp ok L n).len
theorem F_ne {r : Rec} {L : Nat} (hL : 0 < L) (h : r.fits L = true) {n : Nat} (hn : n < L) : r.F L (n : Int) ≠ [] := fun z => by
  have h1 : okB L r.p (rds r.gl) = true := h
  rw [okB_wds hL] at h1
  have h2 : ([] : List Nat) ∈ Gz.wds L r.p (rds r.gl) := List.mem_map.mpr ⟨n, List.mem_range.mpr hn, z⟩
  have h3 : (Gz.wds L r.p (rds r.gl)).contains [] = true := by simpa using h2
  rw [h3] at h1
  cases h1
theorem rds_sz {r : Rec} (ok : r.Ok) : (rds r.gl).length ≤ 96 := by
  have h1 := rds_len (gl := r.gl) (W := r.W) ok.gw
  have h2 : r.gl.length * r.W ≤ 12 * 8 := Nat.mul_le_mul ok.gn ok.w8
  omega
/-- a tuple of pairs -/
def PrsT (H : Hp) (a : Addr) (p : Int) (Ls : List Nat) : Prop := ∃ as : List Addr, H a = some (.tup (as.map V.ref)) ∧ Paired (fun b (L : Nat) => H b = some (.tup (prV p L))) as Ls
theorem PrsT.ext {H H' : Hp} {a : Addr} {p : Int} {Ls : List Nat} (e : SameT H H') (h : PrsT H a p Ls) : PrsT H' a p Ls := by
  obtain ⟨as, h1, h2⟩ := h
  exact ⟨as, e _ _ h1, Paired.imp h2 fun _ _ z => e _ _ z⟩
theorem Ls_len {r : Rec} (ok : r.Ok) : r.Ls.length ≤ 40 := by
  have := lsP_len r (r.hi + 1 - r.lo)
  rw [lsP_all] at this
  have k3 := ok.h40
  have k1 := ok.l1
  omega
/-- what is sure of some letters -/
theorem sg_filter {h : List Nat} (hs : ∀ c ∈ h, c ∈ al) : (if (al.filter fun c => decide (c ∈ h)).length = 1 then al.filter fun c => decide (c ∈ h) else [63]) = [sg h] := by
  cases h with
  | nil =>
    have : (al.filter fun c => decide (c ∈ ([] : List Nat))) = [] := by simp
    rw [this]
    rfl
  | cons c r =>
    by_cases q : r.all (· == c) = true
    · have hr : ∀ d ∈ r, d = c := fun d hd => by
        have := List.all_eq_true.mp q d hd
        exact beq_iff_eq.mp this
      have hf : (al.filter fun d => decide (d ∈ c :: r)) = al.filter fun d => decide (d ∈ [c]) := by
        congr 1
        funext d
        refine decide_eq_decide.mpr ⟨fun z => ?_, fun z => ?_⟩
        · rcases List.mem_cons.mp z with z | z
          · rw [z]; exact List.mem_cons_self
          · rw [hr d z]; exact List.mem_cons_self
        · rw [List.mem_singleton.mp z]
          exact List.mem_cons_self
      rw [hf, filt1 al_nd, if_pos (hs c List.mem_cons_self)]
      have e : sg (c :: r) = c := by
        show (if r.all (· == c) = true then c else 63) = c
        rw [if_pos q]
      rw [e]
      rfl
    · have e : sg (c :: r) = 63 := by
        show (if r.all (· == c) = true then c else 63) = 63
        rw [if_neg q]
      rw [e]
      obtain ⟨d, hd, hdc⟩ : ∃ d ∈ r, d ≠ c := by
        refine Classical.byContradiction fun n => q (List.all_eq_true.mpr fun d hd => ?_)
        refine beq_iff_eq.mpr (Classical.byContradiction fun m => n ⟨d, hd, m⟩)
      rw [if_neg]
      intro hl
      have m1 : c ∈ al.filter fun x => decide (x ∈ c :: r) := List.mem_filter.mpr ⟨hs c List.mem_cons_self, decide_eq_true List.mem_cons_self⟩
      have m2 : d ∈ al.filter fun x => decide (x ∈ c :: r) := List.mem_filter.mpr ⟨hs d (List.mem_cons_of_mem _ hd), decide_eq_true (List.mem_cons_of_mem _ hd)⟩
      obtain ⟨x, hx⟩ := List.length_eq_one_iff.mp hl
      rw [hx] at m1 m2
      exact hdc ((List.mem_singleton.mp m2).trans (List.mem_singleton.mp m1).symm)
theorem tupL_sab {H H' : Hp} {a f : Addr} {α : Type} {F : α → List V} {l : List α} {fx : List V} (h : TupL H a F l) (n : a ≠ f) (hf : H f = some (.lst fx)) (e : Sab f H H') : TupL H' a F l := by
  obtain ⟨as, h1, h2⟩ := h
  exact ⟨as, e _ _ n h1, Paired.imp h2 fun b x z => e _ _ (ne_of z hf (by intro y; cases y)) z⟩
theorem at_map {as : List Addr} {i : Nat} {v : V} (hv : (as.map V.ref)[i]? = some v) : ∃ q, as[i]? = some q ∧ v = .ref q := by
  rw [List.getElem?_map] at hv
  cases z : as[i]? with
  | none => rw [z] at hv; cases hv
  | some q => rw [z] at hv; exact ⟨q, rfl, (Option.some.inj hv).symm⟩
abbrev N_all_left : List Str := ["record", "more", "readings", "found", "length", "pace", "left"]
def sp_all_left (K : PySem.W.Frag) : Sp := fun vs H Q _ => ∃ (a b : Addr) (r : Rec), vs = [.ref a, .ref b] ∧ RecO K H a r ∧ r.Ok ∧ H b = some (.lst []) ∧ ∀ c H1, Same H H1 → RefL (lfV r.p r.F) H1 c r.Ls → Q (.ref c) H1
theorem cal_all_left (T : Tx K mg base) : C8.Cal P w K mg base 4 "all_left" (sp_all_left K) [] := by
  obtain ⟨fd, F0⟩ := T.D_all_left
  have F : FunD K "all_left" "all_left" (defArgs s_all_left) (defBody s_all_left) (defScope s_all_left) [] [] (He.ga K "all_left") fd := F0
  refine ⟨⟨_, fd, ["record", "more"], [], F.ok sc_all_left (fun vs H Q E h => ?_) (fun cdv A outer s H vs Q E hr h => ?_), T.g_all_left, F.kp, F.bindsN (fun _ _ _ _ _ _ us hl => match us, hl with | [_, _], _ => rfl), .nil⟩⟩
  · obtain ⟨_, _, _, rfl, _⟩ := h
    rfl
  · refine ⟨_, PSs.nox (pss_cons (ps_set (i := 2) sc_all_left.nd rfl locV (pe_op op_cat (C8.pe_mt0 (mt_Record_readings T).met hr (by decide) (pv 0)) (pv 1)))
    (pss_cons (ps_set (i := 3) sc_all_left.nd rfl locV (pe_lst pa_nil))
    (pss_cons (ps_for PassesOwn.never rfl (pi_listK (K := K) rfl (C8.pe_c (cal_let_by T) hr (by decide) (by rfl) (pa_cons (pv 0) pa_nil))) (pg_tupK (K := K) rfl (n := 2) rfl (pgs_cons (pg_name (i := 4) sc_all_left.nd rfl locV) (pgs_cons (pg_name (i := 5) sc_all_left.nd rfl locV) pgs_nil))) (pss_cons (ps_set (i := 6) sc_all_left.nd rfl locV (C8.pe_c (cal_left_by T) hr (by decide) (by rfl) (pa_cons (pv 2) (pa_cons (pv 4) (pa_cons (pv 5) pa_nil)))))
    (pss_one (ps_if (pt_cmp (pc_notN (pv 6))) (pss_one (ps_expr (pe_bmK (K := K) rfl PySem.F.plainAttrs_list PySem.F.slot_list_append PySem.F.type_list_append mt_append (pv 3) (pa_cons (pe_tup (pa_cons (pv 4) (pa_cons (pv 5) (pa_cons (pv 6) pa_nil)))) pa_nil)))) pss_nil))))
    (pss_one (ps_ret (pv 3)))))), ?_⟩
    obtain ⟨a, b, r, rfl, RO, ok, hb, hQ⟩ := h
    have k1 := ok.l1
    have k2 := ok.lh
    have k3 := ok.h40
    have RO0 := RO
    obtain ⟨dx, t, d, ps, gs, gl, R⟩ := RO0
    refine ⟨_, rfl, a, _, _, rfl, R.o, rfl, a, r, rfl, RO, ok, fun b1 H1 e1 hb1 => ?_⟩
    obtain ⟨xs, zs, h1, h2, h3, h4, h5⟩ := tupL_cat hb1 (tupL_nil (F := rdV) (e1 _ _ hb))
    have hsz := rds_sz ok
    refine ⟨_, rfl, b1, b, xs, zs, rfl, rfl, h1, h2, Nat.le_of_lt (small (by rw [h3, h4, List.length_nil]; omega)), fun p np => ?_⟩
    have hp := h5 p np
    rw [List.append_nil] at hp
    have e2 := e1.trans (same_new (o := .lst (xs ++ zs)) np)
    refine ⟨lnk, fun f nf => ?_⟩
    have e3 := e2.trans (same_new (o := .lst []) nf)
    have nf0 : H f = none := Same.free e2 nf
    refine ⟨_, rfl, a, r, rfl, RO.ext e3, ok, fun c H2 e4 hc => ?_⟩
    have e5 := e3.trans e4
    obtain ⟨cs, hcs, hP⟩ := hc
    have hl : (cs.map V.ref).length = r.hi + 1 - r.lo := by rw [List.length_map, pair_len hP, List.length_range']
    have hp2 := (hp.ext (same_new (o := .lst []) nf)).ext e4
    have hf2 : H2 f = some (.lst []) := e4 _ _ upd_same
    have ncf : c ≠ f := fun z => by
      rw [z, hf2] at hcs
      have h0 : [] = cs.map V.ref := HO.lst.inj (Option.some.inj hcs)
      rw [← h0] at hl
      have : 0 = r.hi + 1 - r.lo := hl
      omega
    have npf : p ≠ f := fun z => by
      rw [← z, upd_same] at nf
      cases nf
    refine ⟨_, rfl, ⟨_, SqL.of hcs⟩, for_list (xs := cs.map V.ref) (fun i σ H3 => Same H H3 ∧ Sab f H2 H3 ∧ RefL (lfV r.p r.F) H3 f (lsP r i) ∧ ∃ x y z, σ = [some (.ref a), some (.ref b), some (.ref p), some (.ref f), x, y, z]) ⟨e5, .refl _ _, ⟨[], hf2, .nil⟩, none, none, none, rfl⟩ (fun i σ H3 _ hp => SqL.of (hp.2.1 _ _ ncf hcs)) (fun i v σ H3 hv ⟨eH, e6, hf, x, y, z, eσ⟩ => ?_) fun σ H3 ⟨eH, e6, hf, x, y, z, eσ⟩ => ?_⟩
    · subst eσ
      obtain ⟨q, hq, rfl⟩ := at_map hv
      obtain ⟨L, hx, hqL⟩ := pair_at1 hP hq
      have hi : i < r.hi + 1 - r.lo := by
        have := (List.getElem?_eq_some_iff.mp hx).1
        rw [List.length_range'] at this
        exact this
      have eL : L = r.lo + i := by
        rw [List.getElem?_range' hi] at hx
        have := Option.some.inj hx
        omega
      subst eL
      have hst := lsP_step r i
      refine ⟨_, _, rfl, SqT.of (e6 _ _ (ne_of hqL hf2 (by intro y; cases y)) hqL), rfl, _, _, rfl, _, _, rfl, rfl, ?_⟩
      refine ⟨_, rfl, _, rfl, _, rfl, p, rds r.gl, r.lo + i, r.p, rfl, tupL_sab hp2 npf hf2 e6, rds_al ok.ga, by omega, by omega, ⟨ok.p1, ok.p9⟩, fun hno H4 e7 => ?_, fun hyes dd H4 e7 hd => ?_⟩
      · have hfit : r.fits (r.lo + i) = false := hno
        refine ⟨_, rfl, _, rfl, iteDN rfl ⟨eH.trans e7, e6.trans (.of e7), ?_, _, _, _, rfl⟩⟩
        rw [hst, hfit, if_neg Bool.false_ne_true, List.append_nil]
        obtain ⟨as, h1, h2⟩ := hf
        exact ⟨as, e7 _ _ h1, Paired.imp h2 fun _ _ g => lf_gs e7 g⟩
      · have hfit : r.fits (r.lo + i) = true := hyes
        obtain ⟨as, hf1, hf2⟩ := hf
        refine ⟨_, rfl, _, rfl, iteDNF (by intro z; cases z) ⟨_, rfl, .inl ⟨rfl, _, SqL.of (e7 _ _ hf1)⟩, _, rfl, _, rfl, _, rfl, lnk, fun u nu => ?_⟩⟩
        obtain ⟨acc, g1, g2, g3, g4⟩ := refL_step (G := lfV r.p r.F) lf_gs lf_gl nf0 eH ⟨as, hf1, hf2⟩ (e7.trans (same_new nu)) (p := u) (x := r.lo + i) ⟨dd, upd_same, hd.ext (same_new nu)⟩ (by have := lsP_len r i; omega)
        refine ⟨f, acc, .ref u, rfl, rfl, g1, g2, g3, (e6.trans (.of (e7.trans (same_new nu)))).put, ?_, _, _, _, rfl⟩
        rw [hst, hfit, if_pos rfl]
        exact g4
    · subst eσ
      rw [hl, lsP_all] at hf
      exact ⟨_, rfl, hQ f H3 eH hf⟩
abbrev N_pairs : List Str := ["record", "length", "pace", "left"]
def sp_pairs (K : PySem.W.Frag) : Sp := fun vs H Q _ => ∃ (a : Addr) (r : Rec), vs = [.ref a] ∧ RecO K H a r ∧ r.Ok ∧ ∀ c H1, Same H H1 → PrsT H1 c r.p r.Ls → Q (.ref c) H1
theorem cal_pairs (T : Tx K mg base) : C8.Cal P w K mg base 5 "pairs" (sp_pairs K) [] := by
  obtain ⟨fd, F0⟩ := T.D_pairs
  have F : FunD K "pairs" "pairs" (defArgs s_pairs) (defBody s_pairs) (defScope s_pairs) [] [] (He.ga K "pairs") fd := F0
  refine ⟨⟨_, fd, ["record"], [], F.ok sc_pairs (fun vs H Q E h => ?_) (fun cdv A outer s H vs Q E hr h => ?_), T.g_pairs, F.kp, F.bindsN (fun _ _ _ _ _ _ us hl => match us, hl with | [_], _ => rfl), .nil⟩⟩
  · obtain ⟨_, _, rfl, _⟩ := h
    rfl
  · refine ⟨_, PSs.nox (pss_cons (ps_expr (C8.pe_c (cal_check_record T) hr (by decide) (by rfl) (pa_cons (pv 0) pa_nil)))
    (pss_one (ps_ret (pe_callTy (call_tupleK (K := K) rfl) (by rfl) T.f_tuple bt_tuple (pa_cons (pe_lc (own := [("length", 1), ("pace", 2), ("left", 3)]) rfl sc_pairs.nd (pi_listK (K := K) rfl (C8.pe_c (cal_all_left T) hr (by decide) (by rfl) (pa_cons (pv 0) (pa_cons (pe_lst pa_nil) pa_nil)))) (blkOk_by (own := [("length", 1), ("pace", 2), ("left", 3)]) (N := N_pairs) (sc := defScope s_pairs) (by decide +kernel)) (fun _ _ _ _ _ => (pg_tupK (K := K) rfl (n := 3) rfl (pgs_cons (pg_name (i := 1) sc_pairs.nd rfl locV) (pgs_cons (pg_name (i := 2) sc_pairs.nd rfl locV) (pgs_cons (pg_name (i := 3) sc_pairs.nd rfl locV) pgs_nil))))) (fun _ _ _ _ _ => pts_nil) (fun _ _ _ _ _ => (pe_tup (pa_cons (pv 1) (pa_cons (pv 2) pa_nil))))) pa_nil))))), ?_⟩
    obtain ⟨a, r, rfl, RO, ok, hQ⟩ := h
    have RO0 := RO
    obtain ⟨dx, t, d, ps, gs, gl, R⟩ := RO0
    have hll := Ls_len ok
    refine ⟨_, rfl, a, dx, _, rfl, R.o, ?_⟩
    refine ⟨_, rfl, lnk, fun q nq => ⟨a, q, r, rfl, RO.ext (same_new nq), ok, upd_same, fun c H1 e1 ⟨cs, hcs, hP⟩ => ?_⟩⟩
    have hl : (cs.map V.ref).length = r.Ls.length := by rw [List.length_map, pair_len hP]
    have e2 := (same_new (o := .lst []) nq).trans e1
    refine ⟨_, rfl, ⟨_, SqL.of hcs⟩, fun D nD => lc_it (walk_list (xs := cs.map V.ref)) (fun i H2 => Same H1 H2 ∧ TupL H2 D (prV r.p) (r.Ls.take i)) ⟨same_new nD, tupL_nil upd_same⟩ (fun i H2 _ hp => SqL.of (hp.1 _ _ hcs)) (fun i x H2 H3 hi ⟨e, hD⟩ ⟨e3, hv⟩ => ?_) fun H2 ⟨e, hD⟩ => ?_⟩
    · subst e3
      obtain ⟨u, hu, rfl⟩ := at_map hv
      obtain ⟨L, hx, dd, hqL, _⟩ := pair_at1 hP hu
      refine ⟨_, _, rfl, SqT.of (e _ _ hqL), rfl, _, _, rfl, _, _, rfl, _, _, rfl, rfl, rfl, ?_⟩
      refine ⟨_, rfl, _, rfl, lnk, fun p np => ?_⟩
      rw [take_snoc hx]
      exact tupL_step (F := prV r.p) nD e hD (same_new np) upd_same (by rw [List.length_take]; omega)
    · rw [hl, List.take_length] at hD
      obtain ⟨as, h1, h2⟩ := hD
      exact ⟨D, _, rfl, .inl ⟨SqL.of h1, fun l nl => hQ l _ ((e2.trans e).trans (same_new nl)) ⟨as, upd_same, Paired.imp h2 fun b x z => same_new nl _ _ z⟩⟩⟩
abbrev N_number_of : List Str := ["record", "total", "length", "pace", "left"]
def sp_number_of (K : PySem.W.Frag) : Sp := fun vs H Q _ => ∃ (a : Addr) (r : Rec), vs = [.ref a] ∧ RecO K H a r ∧ r.Ok ∧ ∀ H1, Same H H1 → Q (.int r.total) H1
theorem cal_number_of (T : Tx K mg base) : C8.Cal P w K mg base 5 "number_of" (sp_number_of K) [] := by
  obtain ⟨fd, F0⟩ := T.D_number_of
  have F : FunD K "number_of" "number_of" (defArgs s_number_of) (defBody s_number_of) (defScope s_number_of) [] [] (He.ga K "number_of") fd := F0
  refine ⟨⟨_, fd, ["record"], [], F.ok sc_number_of (fun vs H Q E h => ?_) (fun cdv A outer s H vs Q E hr h => ?_), T.g_number_of, F.kp, F.bindsN (fun _ _ _ _ _ _ us hl => match us, hl with | [_], _ => rfl), .nil⟩⟩
  · obtain ⟨_, _, rfl, _⟩ := h
    rfl
  · refine ⟨_, PSs.nox (pss_cons (ps_expr (C8.pe_c (cal_check_record T) hr (by decide) (by rfl) (pa_cons (pv 0) pa_nil)))
    (pss_cons (ps_set (i := 1) sc_number_of.nd rfl locV pe_int)
    (pss_cons (ps_for PassesOwn.never rfl (pi_listK (K := K) rfl (C8.pe_c (cal_all_left T) hr (by decide) (by rfl) (pa_cons (pv 0) (pa_cons (pe_lst pa_nil) pa_nil)))) (pg_tupK (K := K) rfl (n := 3) rfl (pgs_cons (pg_name (i := 2) sc_number_of.nd rfl locV) (pgs_cons (pg_name (i := 3) sc_number_of.nd rfl locV) (pgs_cons (pg_name (i := 4) sc_number_of.nd rfl locV) pgs_nil)))) (pss_one (ps_set (i := 1) sc_number_of.nd rfl locV (pe_op op_add (pv 1) (C8.pe_c (cal_texts_left T) hr (by decide) (by rfl) (pa_cons (pv 2) (pa_cons (pv 4) pa_nil)))))))
    (pss_one (ps_ret (pv 1)))))), ?_⟩
    obtain ⟨a, r, rfl, RO, ok, hQ⟩ := h
    have RO0 := RO
    obtain ⟨dx, t, d, ps, gs, gl, R⟩ := RO0
    refine ⟨_, rfl, a, dx, _, rfl, R.o, ?_⟩
    refine ⟨_, rfl, lnk, fun q nq => ⟨a, q, r, rfl, RO.ext (same_new nq), ok, upd_same, fun c H1 e1 ⟨cs, hcs, hP⟩ => ?_⟩⟩
    have hl : (cs.map V.ref).length = r.Ls.length := by rw [List.length_map, pair_len hP]
    have e2 := (same_new (o := .lst []) nq).trans e1
    refine ⟨_, rfl, ⟨_, SqL.of hcs⟩, for_list (xs := cs.map V.ref) (fun i σ H2 => H2 = H1 ∧ ∃ x y z, σ = [some (.ref a), some (.int ((r.Ls.take i).foldl (fun a L => a + prodL (r.wds L)) 0)), x, y, z]) ⟨rfl, none, none, none, rfl⟩ (fun i σ H2 _ hp => by rw [hp.1]; exact SqL.of hcs) (fun i v σ H2 hv ⟨e, x, y, z, eσ⟩ => ?_) fun σ H2 ⟨e, x, y, z, eσ⟩ => ?_⟩
    · subst e eσ
      obtain ⟨u, hu, rfl⟩ := at_map hv
      obtain ⟨L, hx, dd, hqL, hd⟩ := pair_at1 hP hu
      obtain ⟨m1, m2, m3⟩ := mem_Ls ok (List.mem_of_getElem? hx)
      refine ⟨_, _, rfl, SqT.of hqL, rfl, _, _, rfl, _, _, rfl, _, _, rfl, rfl, ?_⟩
      refine ⟨_, rfl, _, rfl, _, rfl, L, dd, r.F L, rfl, m2, hd, F_len ok L, _, _, rfl, rfl, rfl, some (.int (L : Int)), some (.int r.p), some (.ref dd), ?_⟩
      rw [take_snoc hx, List.foldl_append]
      rfl
    · subst e eσ
      rw [hl, List.take_length]
      exact ⟨_, rfl, hQ _ e2⟩
abbrev N_shortest : List Str := ["record", "length", "pace", "left"]
def sp_shortest (K : PySem.W.Frag) : Sp := fun vs H Q _ => ∃ (a : Addr) (r : Rec), vs = [.ref a] ∧ RecO K H a r ∧ r.Ok ∧ (r.Ls = [] → ∀ H1, Same H H1 → Q .non H1) ∧ ∀ L ls, r.Ls = L :: ls → ∀ c dx H1, Same H H1 → H1 c = some (.ins (He.ga K "Sign") dx [("text", .str (SX.S (lst (r.wds L)))), ("pace", .int r.p)]) → Q (.ref c) H1
theorem cal_shortest (T : Tx K mg base) : C8.Cal P w K mg base 6 "shortest" (sp_shortest K) [] := by
  obtain ⟨fd, F0⟩ := T.D_shortest
  have F : FunD K "shortest" "shortest" (defArgs s_shortest) (defBody s_shortest) (defScope s_shortest) [] [] (He.ga K "shortest") fd := F0
  refine ⟨⟨_, fd, ["record"], [], F.ok sc_shortest (fun vs H Q E h => ?_) (fun cdv A outer s H vs Q E hr h => ?_), T.g_shortest, F.kp, F.bindsN (fun _ _ _ _ _ _ us hl => match us, hl with | [_], _ => rfl), .nil⟩⟩
  · obtain ⟨_, _, rfl, _⟩ := h
    rfl
  · refine ⟨_, PSs.nox (pss_cons (ps_expr (C8.pe_c (cal_check_record T) hr (by decide) (by rfl) (pa_cons (pv 0) pa_nil)))
    (pss_cons (ps_for PassesOwn.never rfl (pi_listK (K := K) rfl (C8.pe_c (cal_all_left T) hr (by decide) (by rfl) (pa_cons (pv 0) (pa_cons (pe_lst pa_nil) pa_nil)))) (pg_tupK (K := K) rfl (n := 3) rfl (pgs_cons (pg_name (i := 1) sc_shortest.nd rfl locV) (pgs_cons (pg_name (i := 2) sc_shortest.nd rfl locV) (pgs_cons (pg_name (i := 3) sc_shortest.nd rfl locV) pgs_nil)))) (pss_one (ps_ret (C8.pe_mk (mak_Sign T) hr (by decide) (by rfl) (pa_cons (C8.pe_c (cal_least_text T) hr (by decide) (by rfl) (pa_cons (pv 1) (pa_cons (pv 3) pa_nil))) (pa_cons (pv 2) pa_nil))))))
    (pss_one (ps_ret pe_non)))), ?_⟩
    obtain ⟨a, r, rfl, RO, ok, hQ0, hQ⟩ := h
    have RO0 := RO
    obtain ⟨dx, t, d, ps, gs, gl, R⟩ := RO0
    refine ⟨_, rfl, a, dx, _, rfl, R.o, ?_⟩
    refine ⟨_, rfl, lnk, fun q nq => ⟨a, q, r, rfl, RO.ext (same_new nq), ok, upd_same, fun c H1 e1 ⟨cs, hcs, hP⟩ => ?_⟩⟩
    have hl : (cs.map V.ref).length = r.Ls.length := by rw [List.length_map, pair_len hP]
    have e2 := (same_new (o := .lst []) nq).trans e1
    refine ⟨_, rfl, ⟨_, SqL.of hcs⟩, for_list (xs := cs.map V.ref) (fun i σ H2 => H2 = H1 ∧ i = 0 ∧ σ = [some (.ref a), none, none, none]) ⟨rfl, rfl, rfl⟩ (fun i σ H2 _ hp => by rw [hp.1]; exact SqL.of hcs) (fun i v σ H2 hv ⟨e, i0, eσ⟩ => ?_) fun σ H2 ⟨e, i0, eσ⟩ => ?_⟩
    · subst e i0 eσ
      obtain ⟨u, hu, rfl⟩ := at_map hv
      obtain ⟨L, hx, dd, hqL, hd⟩ := pair_at1 hP hu
      obtain ⟨m1, m2, m3⟩ := mem_Ls ok (List.mem_of_getElem? hx)
      obtain ⟨ls, hls⟩ : ∃ ls, r.Ls = L :: ls := by
        cases z : r.Ls with
        | nil => rw [z] at hx; cases hx
        | cons y ls => rw [z] at hx; exact ⟨ls, by rw [Option.some.inj hx]⟩
      have hlst : ((List.range L).map fun (n : Nat) => (r.F L (n : Int)).headD 63) = lst (r.wds L) := by
        show _ = ((List.range L).map fun (n : Nat) => r.F L (n : Int)).map fun w => w.headD 63
        rw [List.map_map]
        rfl
      refine ⟨_, _, rfl, SqT.of hqL, rfl, _, _, rfl, _, _, rfl, _, _, rfl, rfl, ?_⟩
      refine ⟨_, rfl, _, rfl, L, dd, r.F L, rfl, m2, hd, F_len ok L, fun n hn => F_ne m1 m3 hn, fun H3 e3 => ⟨_, rfl, fun x dx nx ndx xne => ?_⟩⟩
      rw [hlst]
      have hln : (lst (r.wds L)).length = L := by
        rw [← hlst, List.length_map, List.length_range]
      refine ⟨x, dx, lst (r.wds L), r.p, rfl, upd_same, by omega, by omega, fun ch hch => ?_, ⟨ok.p1, ok.p9⟩, fun H4 e4 h4 => ⟨rfl, hQ L ls hls x dx H4 (e2.trans (e3.trans (Same.made nx ndx fun b o h n => e4 b o n h))) h4⟩⟩
      rw [← hlst] at hch
      obtain ⟨n, hn, rfl⟩ := List.mem_map.mp hch
      have hne := F_ne m1 m3 (List.mem_range.mp hn)
      refine (F_shp ok L n).sub _ ?_
      cases z : r.F L (n : Int) with
      | nil => exact absurd z hne
      | cons y ys => exact List.mem_cons_self
    · subst e eσ
      rw [hl] at i0
      exact hQ0 (List.length_eq_zero_iff.mp i0) _ e2
abbrev N_sure : List Str := ["record", "time", "some", "found", "place", "here", "length", "pace", "left"]
def sp_sure (K : PySem.W.Frag) : Sp := fun vs H Q _ => ∃ (a : Addr) (r : Rec) (t : Int), vs = [.ref a, .int t] ∧ RecO K H a r ∧ r.Ok ∧ (0 ≤ t ∧ t ≤ 10 ^ 30) ∧ (r.Ls = [] → ∀ H1, Same H H1 → Q .non H1) ∧ (r.Ls ≠ [] → ∀ H1, Same H H1 → Q (.str (SX.S (r.sureL t))) H1)
theorem cal_sure (T : Tx K mg base) : C8.Cal P w K mg base 7 "sure" (sp_sure K) [] := by
  obtain ⟨fd, F0⟩ := T.D_sure
  have F : FunD K "sure" "sure" (defArgs s_sure) (defBody s_sure) (defScope s_sure) [] [] (He.ga K "sure") fd := F0
  refine ⟨⟨_, fd, ["record", "time"], [], F.ok sc_sure (fun vs H Q E h => ?_) (fun cdv A outer s H vs Q E hr h => ?_), T.g_sure, F.kp, F.bindsN (fun _ _ _ _ _ _ us hl => match us, hl with | [_, _], _ => rfl), .nil⟩⟩
  · obtain ⟨_, _, _, rfl, _⟩ := h
    rfl
  · refine ⟨_, PSs.nox (pss_cons (ps_expr (C8.pe_c (cal_check_record T) hr (by decide) (by rfl) (pa_cons (pv 0) pa_nil)))
    (pss_cons (ps_expr (C8.pe_c (cal_check_time T) hr (by decide) (by rfl) (pa_cons (pv 1) pa_nil)))
    (pss_cons (ps_set (i := 2) sc_sure.nd rfl locV (C8.pe_c (cal_all_left T) hr (by decide) (by rfl) (pa_cons (pv 0) (pa_cons (pe_lst pa_nil) pa_nil))))
    (pss_cons (ps_if (pt_cmpR op_eq (pe_callB (call_lenK (K := K) rfl) (by rfl) T.f_len bt_len (pa_cons (pv 2) pa_nil)) pe_int (nomark _)) (pss_one (ps_ret pe_non)) pss_nil)
    (pss_cons (ps_set (i := 3) sc_sure.nd rfl locV pe_str)
    (pss_cons (ps_for PassesOwn.never rfl (pi_range1 (by rfl) T.f_range (pa_cons (pe_fldK (K := K) rfl (pv 0) rfl) pa_nil)) (pg_name (i := 4) sc_sure.nd rfl locV) (pss_cons (ps_set (i := 5) sc_sure.nd rfl locV (C8.pe_c (cal_all_in T) hr (by decide) (by rfl) (pa_cons (pe_lc (own := [("length", 6), ("pace", 7), ("left", 8)]) rfl sc_sure.nd (pi_listK (K := K) rfl (pv 2)) (blkOk_by (own := [("length", 6), ("pace", 7), ("left", 8)]) (N := N_sure) (sc := defScope s_sure) (by decide +kernel)) (fun _ _ _ _ _ => (pg_tupK (K := K) rfl (n := 3) rfl (pgs_cons (pg_name (i := 6) sc_sure.nd rfl locV) (pgs_cons (pg_name (i := 7) sc_sure.nd rfl locV) (pgs_cons (pg_name (i := 8) sc_sure.nd rfl locV) pgs_nil))))) (fun _ _ _ _ _ => pts_nil) (fun _ _ _ _ _ => (C8.pe_c (cal_left_at T) hr (by decide) (by rfl) (pa_cons (pv 4) (pa_cons (pv 1) (pa_cons (pv 6) (pa_cons (pv 7) (pa_cons (pv 8) pa_nil)))))))) pa_nil)))
    (pss_one (ps_set (i := 3) sc_sure.nd rfl locV (pe_op op_add_str (pv 3) (pe_ifExp (pt_cmpR op_eq (pe_callB call_len_str (by rfl) T.f_len bt_len (pa_cons (pv 5) pa_nil)) pe_int (nomark _)) (pv 5) (C8.pe_gc (by rfl) T.s_UNREAD)))))))
    (pss_one (ps_ret (pv 3))))))))), ?_⟩
    obtain ⟨a, r, t, rfl, RO, ok, ht, hQ0, hQ⟩ := h
    have RO0 := RO
    obtain ⟨dx, tt, d, ps, gs, gl, R⟩ := RO0
    have k8 := ok.w8
    refine ⟨_, rfl, a, dx, _, rfl, R.o, ?_⟩
    refine ⟨_, rfl, t, rfl, ht.1, ht.2, ?_⟩
    refine ⟨_, rfl, lnk, fun q nq => ⟨a, q, r, rfl, RO.ext (same_new nq), ok, upd_same, fun c H1 e1 ⟨cs, hcs, hP⟩ => ?_⟩⟩
    have hl : (cs.map V.ref).length = r.Ls.length := by rw [List.length_map, pair_len hP]
    have hll := Ls_len ok
    have e2 := (same_new (o := .lst []) nq).trans e1
    refine ⟨_, rfl, _, _, rfl, .inl (SqL.of hcs), rfl, _, rfl, ?_⟩
    by_cases h0 : r.Ls = []
    · refine iteD (by rw [hl, h0]; rfl) (hQ0 h0 _ e2)
    refine iteDF (fun z => h0 ?_) ?_
    · have := V.int.inj z
      rw [hl] at this
      exact List.length_eq_zero_iff.mp (by omega)
    have R1 := R.ext e2
    refine ⟨_, rfl, _, _, _, _, _, rfl, R1.o, T.c_Record, T.na_Record_width, rfl, _, rfl, by omega, by omega, for_range (n := r.W) (fun j σ H2 => Same H1 H2 ∧ ∃ x y, σ = [some (.ref a), some (.int t), some (.ref c), some (.str (SX.S ((List.range j).map fun j => sg (r.here t j)))), x, y, none, none, none]) ⟨.refl _, none, none, rfl⟩ (fun j σ H2 hj ⟨e, x, y, eσ⟩ => ?_) fun σ H2 ⟨e, x, y, eσ⟩ => ?_⟩
    · subst eσ
      have ej : (0 + (j : Int)) = j := Int.zero_add _
      refine ⟨_, rfl, _, rfl, ⟨_, SqL.of (e _ _ hcs)⟩, fun D nD => lc_it (walk_list (xs := cs.map V.ref)) (fun i H3 => Same H2 H3 ∧ H3 D = some (.lst (txs ((r.Ls.take i).map fun L => r.F L (num L r.p t j))))) ⟨same_new nD, upd_same⟩ (fun i H3 _ hp => SqL.of (hp.1 _ _ (e _ _ hcs))) (fun i x H3 H4 hi ⟨e3, hD⟩ ⟨e4, hv⟩ => ?_) fun H3 ⟨e3, hD⟩ => ?_⟩
      · subst e4
        obtain ⟨u, hu, rfl⟩ := at_map hv
        obtain ⟨L, hx, dd, hqL, hd⟩ := pair_at1 hP hu
        obtain ⟨m1, m2, m3⟩ := mem_Ls ok (List.mem_of_getElem? hx)
        have e5 := e.trans e3
        refine ⟨_, _, rfl, SqT.of (e5 _ _ hqL), rfl, _, _, rfl, _, _, rfl, _, _, rfl, rfl, rfl, ?_⟩
        refine ⟨_, rfl, _, rfl, _, rfl, _, rfl, _, rfl, (0 + (j : Int)), t, r.p, L, dd, r.F L, rfl, ⟨ok.p1, ok.p9⟩, m1, hd.ext e5, ?_⟩
        rw [take_snoc hx, List.map_append, ej]
        exact txStep nD e3 hD (by rw [List.length_map, List.length_take]; omega)
      · rw [hl, List.take_length] at hD
        have hfl : (r.Ls.map fun L => r.F L (num L r.p t j)).flatten = r.here t j := by
          show _ = r.Ls.flatMap fun L => r.F L (num L r.p t j)
          rw [List.flatMap_def]
        have hal : ∀ ch ∈ r.here t j, ch ∈ al := fun ch hch => by
          obtain ⟨L, _, h2⟩ := List.mem_flatMap.mp hch
          exact (F_shp ok L _).sub ch h2
        have hsum : ∀ l : List Nat, ((l.map fun L => r.F L (num L r.p t j)).map (·.length)).sum ≤ l.length * 27 := fun l => by
          induction l with
          | nil => exact Nat.zero_le _
          | cons L l ih =>
            have := F_len ok L (num L r.p t j)
            simp only [List.map_cons, List.sum_cons, List.length_cons]
            omega
        refine ⟨D, _, rfl, hD, Nat.le_trans (hsum _) (by omega), fun H4 e4 => ?_⟩
        rw [hfl]
        have hfl2 := List.length_filter_le (fun c => decide (c ∈ r.here t j)) al
        have hal27 : al.length = 27 := rfl
        refine ⟨_, rfl, _, rfl, _, rfl, lineS (by omega), rfl, _, rfl, ?_⟩
        have key := sg_filter hal
        have ln : (List.map (fun j => sg (r.here t j)) (List.range j)).length = j := by rw [List.length_map, List.length_range]
        by_cases h1 : (al.filter fun c => decide (c ∈ r.here t j)).length = 1
        · refine iteD (by rw [S_ln, h1]; rfl) ⟨_, rfl, _, _, rfl, rfl, ?_, ?_⟩
          · rw [S_ln, S_ln, h1, ln]
            exact Nat.le_of_lt (small (by omega))
          · rw [if_pos h1] at key
            rw [key, SX.S_cat]
            refine ⟨e.trans (e3.trans e4), some (.int (0 + (j : Int))), some (.str (SX.S [sg (r.here t j)])), ?_⟩
            rw [List.range_succ, List.map_append]
            rfl
        · refine iteDF (fun z => h1 ?_) ⟨_, _, rfl, rfl, ?_, ?_⟩
          · have := V.int.inj z
            rw [S_ln] at this
            omega
          · rw [unr_S, S_ln, S_ln, ln]
            exact Nat.le_of_lt (small (by show j + 1 < 1000000; omega))
          · rw [if_neg h1] at key
            have hk : sg (r.here t j) = 63 := (List.head_eq_of_cons_eq key).symm
            refine ⟨e.trans (e3.trans e4), some (.int (0 + (j : Int))), some (.str (SX.S (al.filter fun c => decide (c ∈ r.here t j)))), ?_⟩
            rw [unr_S, SX.S_cat, List.range_succ, List.map_append, List.map_singleton, hk]
            rfl
    · subst eσ
      exact ⟨_, rfl, hQ h0 _ (e2.trans e)⟩
end
end Gz
set_option maxHeartbeats 4000000
namespace Gz
open PySem PySem.Spec PyProof.Rows L2
section
variable {P : Program} {w : World} {K : PySem.W.Frag} {mg : Str → Option Value} {base : Heap}
def tJoin (ts : List TE) : TE := fun σ H Q => tJs ts Str.empty σ H fun out H1 => Q (.str out) H1
theorem pe_joinedT {X : Cx} {v1 v2 : Expr} {rest : List Expr} {ts : List TE} {pos : Pos} (h : PJ X (v1 :: v2 :: rest) ts) : PE X (.JoinedStr (v1 :: v2 :: rest) pos) (tJoin ts) := pe_joined h
/-- the text of a length and a pace -/
def prS (p : Int) (L : Nat) : List Nat := iS (L : Int) ++ 32 :: iS p
def noneS : List Nat := [110, 111, 110, 101]
def prTxt (p : Int) (Ls : List Nat) : List Nat := if Ls = [] then noneS else TL.joinL [44, 32] (Ls.map (prS p))
theorem prS_eq (p : Int) (L : Nat) : ((Str.empty ++ Str.ofString (toString (L : Int))) ++ Str.ofString " ") ++ Str.ofString (toString p) = SX.S (prS p L) := by
  rw [iS_eq, iS_eq, show Str.empty = SX.S [] from rfl, show Str.ofString " " = SX.S [32] from rfl, SX.S_cat, SX.S_cat, SX.S_cat]
  unfold prS
  rw [List.nil_append, List.append_assoc]
  rfl
theorem prS_len {p : Int} (hp : -9 ≤ p ∧ p ≤ 9) {L : Nat} (hL : L ≤ 40) : (prS p L).length ≤ 10 := by
  unfold prS
  have h1 := iS_len (i := (L : Int)) (k := 2) (by decide) (by omega)
  have h2 := iS_len (i := p) (k := 1) (by decide) (by omega)
  rw [List.length_append, List.length_cons]
  omega
theorem joinS {K : PySem.W.Frag} {H : Hp} {p : Addr} {sep : List Nat} {l : List (List Nat)} {Q : VK} (h : H p = some (.lst (txs l))) (hl : (l.map (·.length)).sum + l.length * sep.length ≤ 1000000) (q : Q (.str (SX.S (TL.joinL sep l))) H) :
    ∃ a p', ∃ ys : List Str, V.str (SX.S sep) = .str a ∧ [V.ref p] = [.ref p'] ∧ (SqL K H p' (ys.map V.str) ∨ SqT K H p' (ys.map V.str)) ∧ (ys.map (·.length)).sum + ys.length * a.length ≤ 16777216 ∧ Q (.str (Txt.join a ys)) H := by
  refine ⟨_, _, l.map SX.S, rfl, rfl, .inl (SqL.of (by rw [txs_eq]; exact h)), ?_, ?_⟩
  · rw [SX.lens, S_ln, List.length_map]
    omega
  · rw [SX.join_S]
    exact q
theorem sum_le {l : List (List Nat)} {n : Nat} (h : ∀ x ∈ l, x.length ≤ n) : (l.map (·.length)).sum ≤ l.length * n := by
  induction l with
  | nil => exact Nat.zero_le _
  | cons x l ih =>
    have h1 := h x List.mem_cons_self
    have h2 := ih fun y hy => h y (List.mem_cons_of_mem _ hy)
    simp only [List.map_cons, List.sum_cons, List.length_cons, Nat.succ_mul]
    omega
/-! ### whole numbers and their texts -/
theorem numL_dig (n : Nat) : ∀ c ∈ TL.numL n, 48 ≤ c ∧ c ≤ 57 := TL.numL_digits n
theorem dig_mem {c : Nat} (h : 48 ≤ c ∧ c ≤ 57) : c ∈ dig := by
  obtain ⟨h1, h2⟩ := h
  have : c = 48 ∨ c = 49 ∨ c = 50 ∨ c = 51 ∨ c = 52 ∨ c = 53 ∨ c = 54 ∨ c = 55 ∨ c = 56 ∨ c = 57 := by omega
  rcases this with e | e | e | e | e | e | e | e | e | e <;> rw [e] <;> decide
theorem int_nat (n : Nat) (h : n < 10 ^ 31) : PySem.intText? (SX.S (TL.numL n)) = some (n : Int) := by
  have hl : (TL.numL n).length ≤ 31 := TL.numL_len (by decide) h
  have e := SX.int_S (a := TL.numL n) (List.all_eq_true.mpr fun c hc => by
    have := numL_dig n c hc
    rw [Bool.and_eq_true, decide_eq_true_eq, decide_eq_true_eq]
    exact this) (TL.numL_ne n) (by omega)
  rw [TL.numL_val] at e
  exact e
abbrev N_text_of_pairs : List Str := ["some", "length", "pace"]
def sp_text_of_pairs (K : PySem.W.Frag) : Sp := fun vs H Q _ => ∃ (a : Addr) (p : Int) (Ls : List Nat), vs = [.ref a] ∧ PrsT H a p Ls ∧ Ls.length ≤ 40 ∧ (∀ L ∈ Ls, L ≤ 40) ∧ (-9 ≤ p ∧ p ≤ 9) ∧ ∀ H1, Same H H1 → Q (.str (SX.S (prTxt p Ls))) H1
theorem cal_text_of_pairs (T : Tx K mg base) : C8.Cal P w K mg base 1 "text_of_pairs" (sp_text_of_pairs K) [] := by
  obtain ⟨fd, F0⟩ := T.D_text_of_pairs
  have F : FunD K "text_of_pairs" "text_of_pairs" (defArgs s_text_of_pairs) (defBody s_text_of_pairs) (defScope s_text_of_pairs) [] [] (He.ga K "text_of_pairs") fd := F0
  refine ⟨⟨_, fd, ["some"], [], F.ok sc_text_of_pairs (fun vs H Q E h => ?_) (fun cdv A outer s H vs Q E hr h => ?_), T.g_text_of_pairs, F.kp, F.bindsN (fun _ _ _ _ _ _ us hl => match us, hl with | [_], _ => rfl), .nil⟩⟩
  · obtain ⟨_, _, _, rfl, _⟩ := h
    rfl
  · refine ⟨_, PSs.nox (pss_one (ps_ret (pe_ifExp (pt_cmpR op_gt (pe_callB (call_lenK (K := K) rfl) (by rfl) T.f_len bt_len (pa_cons (pv 0) pa_nil)) pe_int (nomark _)) (pe_joinK (K := K) rfl pe_str (pe_lc (own := [("length", 1), ("pace", 2)]) rfl sc_text_of_pairs.nd (pi_tupK (K := K) rfl (pv 0)) (blkOk_by (own := [("length", 1), ("pace", 2)]) (N := N_text_of_pairs) (sc := defScope s_text_of_pairs) (by decide +kernel)) (fun _ _ _ _ _ => (pg_tupK (K := K) rfl (n := 2) rfl (pgs_cons (pg_name (i := 1) sc_text_of_pairs.nd rfl locV) (pgs_cons (pg_name (i := 2) sc_text_of_pairs.nd rfl locV) pgs_nil)))) (fun _ _ _ _ _ => pts_nil) (fun _ _ _ _ _ => (pe_joinedT (PJ.cons (pe_fmt (pv 1)) (PJ.cons pe_str (PJ.cons (pe_fmt (pv 2)) PJ.nil))))))) pe_str))), ?_⟩
    obtain ⟨a, p, Ls, rfl, ⟨as, ha, hP⟩, hl, hL, hp, hQ⟩ := h
    have hln : (as.map V.ref).length = Ls.length := by rw [List.length_map, pair_len hP]
    refine ⟨_, rfl, _, _, rfl, .inr (SqT.of ha), _, _, rfl, rfl, _, rfl, ?_⟩
    by_cases h0 : Ls = []
    · refine iteDF (by rw [hln, h0]; decide) ?_
      have := hQ H (.refl _)
      unfold prTxt at this
      rw [if_pos h0] at this
      exact this
    refine iteD (by
      rw [hln]
      have := List.length_pos_iff.mpr h0
      omega) ?_
    refine ⟨⟨_, rfl⟩, _, rfl, _, rfl, ⟨_, SqT.of ha⟩, fun D nD => lc_it (walk_tup (xs := as.map V.ref)) (fun i H2 => Same H H2 ∧ H2 D = some (.lst (txs ((Ls.take i).map (prS p))))) ⟨same_new nD, upd_same⟩ (fun i H2 _ hp => SqT.of (hp.1 _ _ ha)) (fun i x H2 H3 hi ⟨e, hD⟩ ⟨e3, hv⟩ => ?_) fun H2 ⟨e, hD⟩ => ?_⟩
    · subst e3
      obtain ⟨u, hu, rfl⟩ := at_map hv
      obtain ⟨L, hx, hq⟩ := pair_at1 hP hu
      have hm := hL L (List.mem_of_getElem? hx)
      have hz := prS_len hp hm
      rw [← S_ln, ← prS_eq] at hz
      rw [len_cat, len_cat, len_cat] at hz
      refine ⟨_, _, rfl, SqT.of (e _ _ hq), rfl, _, _, rfl, _, _, rfl, rfl, rfl, ?_⟩
      refine ⟨_, rfl, .inr ⟨_, rfl, log_small (by omega), _, rfl, len_le (by rw [len_cat]; omega), _, rfl, len_le (by rw [len_cat, len_cat]; omega), _, rfl, .inr ⟨_, rfl, log_small (by omega), _, rfl, len_le (by rw [len_cat, len_cat, len_cat]; omega), ?_⟩⟩⟩
      rw [prS_eq, take_snoc hx, List.map_append]
      exact txStep nD e hD (by rw [List.length_map, List.length_take]; omega)
    · rw [hln, List.take_length] at hD
      have hQ2 := hQ H2 e
      unfold prTxt at hQ2
      rw [if_neg h0] at hQ2
      refine joinS (sep := [44, 32]) hD ?_ hQ2
      have h1 := sum_le (l := Ls.map (prS p)) (n := 10) fun x hx => by
        obtain ⟨L, hL1, rfl⟩ := List.mem_map.mp hx
        exact prS_len hp (hL L hL1)
      rw [List.length_map] at h1 ⊢
      show _ + Ls.length * 2 ≤ _
      omega
theorem int_neg (n : Nat) (h : n < 10 ^ 31) : PySem.intText? (SX.S (45 :: TL.numL n)) = some (-(n : Int)) := by
  have hl : (TL.numL n).length ≤ 31 := TL.numL_len (by decide) h
  have e := PySem.intText_neg (x := SX.S (45 :: TL.numL n)) (cs := TL.numL n) rfl (TL.numL_digits n) (TL.numL_ne n) (by rw [S_ln, List.length_cons]; omega)
  rw [TL.numL_val] at e
  exact e
theorem int_iS (i : Int) (h : i.natAbs < 10 ^ 31) : PySem.intText? (SX.S (iS i)) = some i := by
  cases i with
  | ofNat n =>
    have e : iS (Int.ofNat n) = TL.numL n := iS_nat n
    rw [e]
    exact int_nat n h
  | negSucc n =>
    rw [iS_neg]
    exact int_neg (n + 1) h
/-- the digits of a whole number's text, and whether a sign stands ahead -/
def digS (i : Int) : List Nat := TL.numL i.natAbs
theorem digS_len (i : Int) (h : i.natAbs < 10 ^ 31) : 1 ≤ (digS i).length ∧ (digS i).length ≤ 31 := ⟨List.length_pos_iff.mpr (TL.numL_ne _), TL.numL_len (by decide) h⟩
theorem digS_mem (i : Int) : ∀ c ∈ digS i, c ∈ dig := fun c hc => dig_mem (numL_dig _ c hc)
theorem iS_cases (i : Int) : (iS i = digS i ∧ (iS i).take 1 ≠ [45]) ∨ iS i = 45 :: digS i := by
  cases i with
  | ofNat n =>
    have e : iS (Int.ofNat n) = TL.numL n := iS_nat n
    refine .inl ⟨e, fun z => ?_⟩
    rw [e] at z
    have hm : 45 ∈ TL.numL n := List.mem_of_mem_take (by rw [z]; exact List.mem_singleton_self _)
    have := numL_dig n 45 hm
    omega
  | negSucc n => exact .inr (iS_neg n)
theorem iS_ln (i : Int) (h : i.natAbs < 10 ^ 31) : (iS i).length ≤ 32 := iS_len (by decide) h
abbrev N_integer_in : List Str := ["word", "digits", "digit"]
def sp_integer_in (K : PySem.W.Frag) : Sp := fun vs H Q _ => ∃ i : Int, vs = [.str (SX.S (iS i))] ∧ i.natAbs < 10 ^ 31 ∧ ∀ H1, Same H H1 → Q (.int i) H1
theorem cal_integer_in (T : Tx K mg base) : C8.Cal P w K mg base 1 "integer_in" (sp_integer_in K) [] := by
  obtain ⟨fd, F0⟩ := T.D_integer_in
  have F : FunD K "integer_in" "integer_in" (defArgs s_integer_in) (defBody s_integer_in) (defScope s_integer_in) [] [] (He.ga K "integer_in") fd := F0
  refine ⟨⟨_, fd, ["word"], [], F.ok sc_integer_in (fun vs H Q E h => ?_) (fun cdv A outer s H vs Q E hr h => ?_), T.g_integer_in, F.kp, F.bindsN (fun _ _ _ _ _ _ us hl => match us, hl with | [_], _ => rfl), .nil⟩⟩
  · obtain ⟨_, rfl, _⟩ := h
    rfl
  · refine ⟨_, PSs.nox (pss_cons (ps_set (i := 1) sc_integer_in.nd rfl locV (pe_ifExp (pt_cmpR op_eq (pe_slice C8.sl_txt (pv 0) po_none (po_some pe_int)) pe_str (nomark _)) (pe_slice C8.sl_txt (pv 0) (po_some pe_int) po_none) (pv 0)))
    (pss_cons (ps_if (pw_or (pt_not (pt_chain op_le op_le pe_int (pe_callB call_len_str (by rfl) T.f_len bt_len (pa_cons (pv 1) pa_nil)) (C8.pe_gc (by rfl) T.i_MOST_DIGITS))) (pw_or1 (pt_val (pe_callB (cr_anyK (K := K) rfl rfl) (by rfl) T.f_any bt_any (pa_cons (pe_lc (own := [("digit", 2)]) rfl sc_integer_in.nd (pi_str (pv 1)) (blkOk_by (own := [("digit", 2)]) (N := N_integer_in) (sc := defScope s_integer_in) (by decide +kernel)) (fun _ _ _ _ _ => (pg_name (i := 2) sc_integer_in.nd rfl locV)) (fun _ _ _ _ _ => pts_nil) (fun _ _ _ _ _ => (pe_cmpR op_notIn_sign (pv 2) (C8.pe_gc (by rfl) T.s_DIGITS) rfl))) pa_nil))))).pt (pss_one (ps_ret pe_non)) pss_nil)
    (pss_one (ps_ret (pe_ifExp (pt_cmpR op_eq (pe_joined1 (pe_fmt (pe_callTy call_int_str (by rfl) T.f_int bt_int (pa_cons (pv 0) pa_nil)))) (pv 0) (nomark _)) (pe_callTy call_int_str (by rfl) T.f_int bt_int (pa_cons (pv 0) pa_nil)) pe_non))))), ?_⟩
    obtain ⟨i, rfl, hi, hQ⟩ := h
    have hln := iS_ln i hi
    have hd := digS_len i hi
    have rest : ∀ (De : Ends), De.rt = Q → tSeq (tIfS (tOr (tNot (tTest (tChain (rI0 fun i j => .bl (decide (i ≤ j))) (rI0 fun i j => .bl (decide (i ≤ j))) (tC (.int 1)) (tCB (fun xs H Q => ∃ z, xs = [.str z] ∧ z.length ≤ sizeLine ∧ Q (.int z.length) H) (tCons (tVar 1) tNil)) (tC (.int 31))))) (tB (tCB (rAny K) (tCons (tLc (iStr (tVar 1)) (gName 2) tYes (tOp (fun x y H Q => ∃ c z, x = .str ⟨#[c]⟩ ∧ y = .str z ∧ Q (.bl (!decide (c ∈ z.cps.toList))) H) (tVar 2) (tC (.str (Str.ofString "0123456789")))) [2]) tNil)))) (tRet (tC .non)) tNext)
        (tRet (tIf (tTest (tOp rEq (tFmt (tCB (fun xs H Q => ∃ a n, xs = [.str a] ∧ PySem.intText? a = some n ∧ a.length ≤ 640 ∧ Q (.int n) H) (tCons (tVar 0) tNil))) (tVar 0))) (tCB (fun xs H Q => ∃ a n, xs = [.str a] ∧ PySem.intText? a = some n ∧ a.length ≤ 640 ∧ Q (.int n) H) (tCons (tVar 0) tNil)) (tC .non))) De [some (.str (SX.S (iS i))), some (.str (SX.S (digS i))), none] H := by
      intro De hDe
      refine ⟨_, rfl, _, rfl, lineS (by omega), _, _, rfl, rfl, _, rfl, iteD (by rw [S_ln]; omega) ⟨_, _, rfl, rfl, _, rfl, iteDN (by rw [S_ln]; omega) ?_⟩⟩
      refine ⟨_, rfl, _, rfl, fun D nD => lc_it walk_S (fun k H1 => Same H H1 ∧ H1 D = some (.lst (List.replicate k (.bl false)))) ⟨same_new nD, upd_same⟩ (fun _ _ _ _ => trivial) (fun k x H1 H2 hk ⟨e, hD⟩ ⟨e2, c, hc, ex⟩ => ?_) fun H1 ⟨e, hD⟩ => ?_⟩
      · subst e2 ex
        exact ⟨rfl, ⟨_, rfl, c, SX.S dig, rfl, rfl, anyStep nD e hD (by omega) (by rw [memS (digS_mem i c (List.mem_of_getElem? hc))]; rfl)⟩⟩
      · have hb : (List.replicate (digS i).length false).any id = false := by simp
        refine ⟨D, List.replicate (digS i).length false, rfl, SqL.of (by rw [List.map_replicate]; exact hD), _, rfl, ?_⟩
        rw [hb]
        refine iteF ?_
        refine ⟨_, rfl, _, i, rfl, int_iS i hi, by rw [S_ln]; omega, .inr ⟨i, rfl, log_small (by omega), _, rfl, rfl, _, rfl, iteD (by rw [iS_eq]) ⟨_, rfl, _, i, rfl, int_iS i hi, by rw [S_ln]; omega, ?_⟩⟩⟩
        show De.rt (.int i) H1
        rw [hDe]
        exact hQ _ e
    rcases iS_cases i with ⟨e1, e2⟩ | e1
    · refine ⟨_, rfl, 1, rfl, _, rfl, lineS (by omega), rfl, _, rfl, iteDF (fun z => e2 ?_) ⟨_, rfl, ?_⟩⟩
      · have := V.str.inj z
        rw [SX.slice_to (by decide)] at this
        exact SX.S_inj this
      · have := rest { nx := fun _ H' => Q .non H', rt := Q } rfl
        rw [← e1] at this
        exact this
    · refine ⟨_, rfl, 1, rfl, _, rfl, lineS (by omega), rfl, _, rfl, iteD (by rw [SX.slice_to (by decide), e1]; rfl) ⟨_, rfl, 1, rfl, _, rfl, lineS (by omega), ?_⟩⟩
      rw [SX.slice_from (by decide), show (iS i).drop (1 : Int).toNat = digS i by rw [e1]; rfl]
      exact rest { nx := fun _ H' => Q .non H', rt := Q } rfl
end
end Gz
set_option maxHeartbeats 4000000
namespace Gz
open PySem PySem.Spec PyProof.Rows L2
section
variable {P : Program} {w : World} {K : PySem.W.Frag} {mg : Str → Option Value} {base : Heap}
theorem intStep {H H1 : Hp} {D : Addr} {l : List Int} {n : Int} (nD : H D = none) (e : Same H H1) (hD : H1 D = some (.lst (l.map V.int))) (hi : l.length < 1000000) :
    ∃ acc, H1 D = some (.lst acc) ∧ acc.length < sizeLine ∧ Same H (upd H1 D (.lst (acc ++ [.int n]))) ∧ (upd H1 D (.lst (acc ++ [.int n]))) D = some (.lst ((l ++ [n]).map V.int)) :=
  ⟨_, hD, by rw [List.length_map]; exact small hi, same_put e nD, by rw [upd_same, List.map_append]; rfl⟩
def gR {α : Type} (vs mz zs : List α) : List α := vs ++ (mz.take 1 ++ (zs ++ mz.drop 1))
theorem gR_rel {vs mz zs : List V} {us mv ws : List Value} (a : Vals vs us) (b : Vals mz mv) (c : Vals zs ws) : Vals (gR vs mz zs) (gR us mv ws) := a.append ((b.take 1).append (c.append (b.drop 1)))
abbrev N_record_in : List Str := ["words", "width", "least", "most", "pace", "word"]
def sp_record_in (K : PySem.W.Frag) : Sp := fun vs H Q _ => ∃ (a : Addr) (r : Rec), vs = [.ref a] ∧ H a = some (.lst (txs ([(r.W : Int), (r.lo : Int), (r.hi : Int), r.p].map iS))) ∧ r.Ok ∧ r.gl = [] ∧ LamX.Tabs (TB K) H ∧ ∀ b H1, LamX.ExtN H H1 → LamX.Tabs (TB K) H1 → RecO K H1 b r → Q (.ref b) H1
theorem cal_record_in (T : Tx K mg base) : C8.Cal P w K mg base 8 "record_in" (sp_record_in K) [] := by
  obtain ⟨fd, F0⟩ := T.D_record_in
  have F : FunD K "record_in" "record_in" (defArgs s_record_in) (defBody s_record_in) (defScope s_record_in) [] [] (He.ga K "record_in") fd := F0
  refine ⟨⟨_, fd, ["words"], [], F.ok sc_record_in (fun vs H Q E h => ?_) (fun cdv A outer s H vs Q E hr h => ?_), T.g_record_in, F.kp, F.bindsN (fun _ _ _ _ _ _ us hl => match us, hl with | [_], _ => rfl), .nil⟩⟩
  · obtain ⟨_, _, rfl, _⟩ := h
    rfl
  · obtain ⟨fdR, FR0⟩ := T.D_Record_init
    have FR : FunD K "__init__" "Record.__init__" (defArgs s_Record_init) (defBody s_Record_init) (defScope s_Record_init) [] (kwR K) (He.ma K (He.ga K "Record") "__init__") fdR := FR0
    obtain ⟨mv, kb⟩ := FR.kbinds0 (ps := ["self", "width", "dead", "least", "most", "paces", "groups"]) 2 ["least", "most", "paces"] [("dead", .ref (kdAt "dead" K)), ("groups", .ref (kdAt "groups" K))] gR (by intro z; cases z) (fun q hq => by
      rcases List.mem_cons.mp hq with e | hq
      · rw [e]; exact List.mem_cons_self
      · rw [List.mem_singleton.mp hq]
        exact List.mem_cons_of_mem _ (List.mem_cons_of_mem _ (List.mem_cons_of_mem _ (List.mem_cons_of_mem _ List.mem_cons_self)))) gR_rel (fun D doc pm an cdv ct us mv ws l1 l2 l3 => match us, mv, ws, l1, l2, l3 with | [_, _], [_, _], [_, _, _], _, _, _ => ⟨_, _, _, _, _, _, rfl, rfl, _, _, _, _, _, _, rfl, rfl, rfl⟩)
    refine ⟨_, PSs.nox (pss_cons (ps_asg (pe_lc (own := [("word", 5)]) rfl sc_record_in.nd (pi_listK (K := K) rfl (pv 0)) (blkOk_by (own := [("word", 5)]) (N := N_record_in) (sc := defScope s_record_in) (by decide +kernel)) (fun _ _ _ _ _ => (pg_name (i := 5) sc_record_in.nd rfl locV)) (fun _ _ _ _ _ => pts_nil) (fun _ _ _ _ _ => (C8.pe_c (cal_integer_in T) hr (by decide) (by rfl) (pa_cons (pv 5) pa_nil)))) (pg_unlK (K := K) rfl (n := 4) rfl (pgs_cons (pg_name (i := 1) sc_record_in.nd rfl locV) (pgs_cons (pg_name (i := 2) sc_record_in.nd rfl locV) (pgs_cons (pg_name (i := 3) sc_record_in.nd rfl locV) (pgs_cons (pg_name (i := 4) sc_record_in.nd rfl locV) pgs_nil))))))
    (pss_cons (ps_if (pw_or (pt_not (pt_val (C8.pe_c (cal_is_between T) hr (by decide) (by rfl) (pa_cons (pv 1) (pa_cons pe_int (pa_cons (C8.pe_gc (by rfl) T.i_MOST_WIDTH) pa_nil)))))) (pw_or1 (pt_not (pt_val (C8.pe_c (cal_is_between T) hr (by decide) (by rfl) (pa_cons (pv 2) (pa_cons pe_int (pa_cons (C8.pe_gc (by rfl) T.i_MOST_LENGTH) pa_nil)))))))).pt (pss_one (ps_ret pe_non)) pss_nil)
    (pss_cons (ps_if (pw_or (pt_not (pt_val (C8.pe_c (cal_is_between T) hr (by decide) (by rfl) (pa_cons (pv 3) (pa_cons (pv 2) (pa_cons (C8.pe_gc (by rfl) T.i_MOST_LENGTH) pa_nil)))))) (pw_or1 (pt_not (pt_val (C8.pe_c (cal_is_pace T) hr (by decide) (by rfl) (pa_cons (pv 4) pa_nil)))))).pt (pss_one (ps_ret pe_non)) pss_nil)
    (pss_one (ps_ret (pe_makeK (n := 1) (E := C8.E0) T.mk_Record (fn_Record_init (P := P) (w := w) T FR) (hr.mono (by decide)) (by rfl) T.g_Record kb C8.pass0 (pa_cons (pv 1) pa_nil) (pk_cons (pv 2) (pk_cons (pv 3) (pk_cons (pe_tup (pa_cons (pv 4) pa_nil)) pk_nil))))))))), ?_⟩
    obtain ⟨a, r, rfl, ha, ok, hgl, hT, hQ⟩ := h
    have k1 := ok.w1
    have k2 := ok.w8
    have k3 := ok.l1
    have k4 := ok.lh
    have k5 := ok.h40
    have k6 := ok.p1
    have k7 := ok.p9
    refine ⟨_, rfl, _, rfl, ⟨_, SqL.of ha⟩, fun D nD => lc_it (walk_list (xs := txs ([(r.W : Int), (r.lo : Int), (r.hi : Int), r.p].map iS))) (fun i H1 => Same H H1 ∧ H1 D = some (.lst (([(r.W : Int), (r.lo : Int), (r.hi : Int), r.p].take i).map V.int))) ⟨same_new nD, upd_same⟩ (fun i H1 _ hp => SqL.of (hp.1 _ _ ha)) (fun i x H1 H2 hi ⟨e, hD⟩ ⟨e2, hv⟩ => ?_) fun H1 ⟨e, hD⟩ => ?_⟩
    · subst e2
      obtain ⟨n, hn, rfl, hb⟩ : ∃ n, [(r.W : Int), (r.lo : Int), (r.hi : Int), r.p][i]? = some n ∧ x = .str (SX.S (iS n)) ∧ n.natAbs < 10 ^ 31 := by
        have : i < 4 := hi
        have : i = 0 ∨ i = 1 ∨ i = 2 ∨ i = 3 := by omega
        rcases this with z | z | z | z <;> subst z
        · exact ⟨_, rfl, (Option.some.inj hv).symm, by omega⟩
        · exact ⟨_, rfl, (Option.some.inj hv).symm, by omega⟩
        · exact ⟨_, rfl, (Option.some.inj hv).symm, by omega⟩
        · exact ⟨_, rfl, (Option.some.inj hv).symm, by omega⟩
      refine ⟨rfl, ⟨_, rfl, n, rfl, hb, fun H3 e3 => ?_⟩⟩
      rw [take_snoc hn]
      exact intStep nD (e.trans e3) (e3 _ _ hD) (by
        have : i < 4 := hi
        rw [List.length_take]
        omega)
    · refine ⟨D, [.int (r.W : Int), .int (r.lo : Int), .int (r.hi : Int), .int r.p], rfl, SqL.of hD, rfl, _, _, rfl, _, _, rfl, _, _, rfl, _, _, rfl, rfl, ?_⟩
      refine ⟨_, rfl, _, _, _, rfl, by omega, by omega, true, rfl, iteF ⟨_, rfl, _, _, _, rfl, by omega, by omega, true, rfl, iteF ?_⟩⟩
      refine ⟨_, rfl, _, rfl, _, _, _, rfl, by omega, by omega, true, rfl, iteF ⟨_, rfl, _, rfl, by omega, by omega, true, rfl, iteF ?_⟩⟩
      refine ⟨_, rfl, _, rfl, _, rfl, _, rfl, lnk, fun ps nps => ⟨rfl, rfl, fun x dx nx ndx xne => ?_⟩⟩
      have e1 := e.trans (same_new (o := .tup [.int r.p]) nps)
      have nmx := ndx
      have e2 : Same H (upd (upd (upd H1 ps (.tup [.int r.p])) dx (.own x)) x (.ins (He.ga K "Record") dx [])) := fun b o hb => by
        have hb1 := e1 b o hb
        rw [upd_ne (ne_of_none hb1 nx), upd_ne (ne_of_none hb1 ndx)]
        exact hb1
      have hps : (upd (upd (upd H1 ps (.tup [.int r.p])) dx (.own x)) x (.ins (He.ga K "Record") dx [])) ps = some (.tup [.int r.p]) := by
        have hp0 : (upd H1 ps (.tup [.int r.p])) ps = some (.tup [.int r.p]) := upd_same
        rw [upd_ne (ne_of_none hp0 nx), upd_ne (ne_of_none hp0 ndx)]
        exact hp0
      refine ⟨_, _, _, _, _, _, _, rfl, .inr ⟨x, dx, ps, _, _, _, rfl, rfl, rfl, rfl, rfl, rfl, rfl, r, rfl, rfl, rfl, ok, hgl, upd_same, .inl hps, hT.ext e2, fun H4 t gl k4 t4 x4 tt4 told => ⟨rfl, ?_⟩⟩⟩
      refine hQ x H4 (fun b o hb no => ?_) t4 ⟨dx, t, kdAt "dead" K, ps, kdAt "groups" K, gl, x4, ?_, tt4, told⟩
      · have hb2 := e2 b o hb
        refine k4 b o (fun z => ?_) hb2 no
        have hb1 := e1 b o hb
        rw [z, nx] at hb1
        cases hb1
      · refine k4 dx _ xne (by rw [upd_ne xne]; exact upd_same) (fun qs z => by cases z)
end
end Gz
set_option maxHeartbeats 4000000
namespace Gz
open PySem PySem.Spec PyProof.Rows L2
section
variable {P : Program} {w : World} {K : PySem.W.Frag} {mg : Str → Option Value} {base : Heap}
/-! ### what a book holds -/
abbrev Ent : Type := Addr × (List Nat × Rec)
def esK (es : List Ent) : List (Key × V) := es.map fun e => (Sum.inr (SX.S e.2.1), V.ref e.1)
def isN (l : List Nat) (b : List Nat × Rec) : Bool := decide (b.1 = l)
def findB (bs : List (List Nat × Rec)) (l : List Nat) : Option (List Nat × Rec) := bs.find? (isN l)
def putB (bs : List (List Nat × Rec)) (l : List Nat) (r : Rec) : List (List Nat × Rec) := if bs.any (isN l) = true then bs.map (fun b => if isN l b = true then (b.1, r) else b) else bs ++ [(l, r)]
def putE (es : List Ent) (l : List Nat) (q : Addr) (r : Rec) : List Ent := if es.any (fun e => isN l e.2) = true then es.map (fun e => if isN l e.2 = true then (q, (e.2.1, r)) else e) else es ++ [(q, (l, r))]
theorem key_S (a b : List Nat) : decide ((Sum.inr (SX.S a) : Key) = Sum.inr (SX.S b)) = decide (a = b) := by
  refine decide_eq_decide.mpr ⟨fun z => SX.S_inj (Sum.inr.inj z), fun z => by rw [z]⟩
theorem esK_find (es : List Ent) (l : List Nat) : ((esK es).find? fun kv => decide (kv.1 = (Sum.inr (SX.S l) : Key))) = (es.find? fun e => isN l e.2).map fun e => ((Sum.inr (SX.S e.2.1) : Key), V.ref e.1) := by
  unfold esK
  rw [List.find?_map]
  congr 1
  congr 1
  funext e
  exact key_S _ _
theorem esK_val (es : List Ent) (l : List Nat) : valV (esK es) (.inr (SX.S l)) = (es.find? fun e => isN l e.2).map fun e => V.ref e.1 := by
  unfold valV
  rw [esK_find, Option.map_map]
  rfl
theorem es_find {es : List Ent} {bs : List (List Nat × Rec)} (h : es.map (·.2) = bs) (l : List Nat) : findB bs l = (es.find? fun e => isN l e.2).map (·.2) := by
  subst h
  unfold findB
  rw [List.find?_map]
  rfl
theorem es_any {es : List Ent} {bs : List (List Nat × Rec)} (h : es.map (·.2) = bs) (l : List Nat) : (es.any fun e => isN l e.2) = bs.any (isN l) := by
  subst h
  rw [List.any_map]
  rfl
theorem putE_map {es : List Ent} {bs : List (List Nat × Rec)} (h : es.map (·.2) = bs) (l : List Nat) (q : Addr) (r : Rec) : (putE es l q r).map (·.2) = putB bs l r := by
  unfold putE putB
  rw [es_any h]
  split
  · subst h
    rw [List.map_map, List.map_map]
    refine List.map_congr_left fun e _ => ?_
    show (if isN l e.2 = true then (q, (e.2.1, r)) else e).2 = if isN l e.2 = true then (e.2.1, r) else e.2
    split <;> rfl
  · subst h
    rw [List.map_append]
    rfl
theorem putE_kv (es : List Ent) (l : List Nat) (q : Addr) (r : Rec) : putK (esK es) (.inr (SX.S l)) (.ref q) = esK (putE es l q r) := by
  unfold putK putE
  have e : ((esK es).any fun kv => decide (kv.1 = (Sum.inr (SX.S l) : Key))) = es.any fun e => isN l e.2 := by
    unfold esK
    rw [List.any_map]
    congr 1
    funext e
    exact key_S _ _
  rw [e]
  split
  · unfold esK
    rw [List.map_map, List.map_map]
    refine List.map_congr_left fun e _ => ?_
    show (if (Sum.inr (SX.S e.2.1) : Key) = Sum.inr (SX.S l) then ((Sum.inr (SX.S e.2.1) : Key), V.ref q) else (Sum.inr (SX.S e.2.1), V.ref e.1)) = _
    by_cases z : e.2.1 = l
    · have z1 : isN l e.2 = true := decide_eq_true z
      rw [if_pos (by rw [z])]
      show _ = ((Sum.inr (SX.S (if isN l e.2 = true then (q, (e.2.1, r)) else e).2.1) : Key), V.ref (if isN l e.2 = true then (q, (e.2.1, r)) else e).1)
      rw [if_pos z1]
    · have z1 : ¬ isN l e.2 = true := fun y => z (of_decide_eq_true y)
      rw [if_neg (fun y => z (SX.S_inj (Sum.inr.inj y)))]
      show _ = ((Sum.inr (SX.S (if isN l e.2 = true then (q, (e.2.1, r)) else e).2.1) : Key), V.ref (if isN l e.2 = true then (q, (e.2.1, r)) else e).1)
      rw [if_neg z1]
  · unfold esK
    rw [List.map_append]
    rfl
theorem putE_all {es : List Ent} {l : List Nat} {q : Addr} {r : Rec} {G : Addr → Rec → Prop} (h : ∀ e ∈ es, G e.1 e.2.2) (hq : G q r) : ∀ e ∈ putE es l q r, G e.1 e.2.2 := fun e he => by
  unfold putE at he
  split at he
  · obtain ⟨x, hx, rfl⟩ := List.mem_map.mp he
    split
    · exact hq
    · exact h x hx
  · rcases List.mem_append.mp he with he | he
    · exact h e he
    · rw [List.mem_singleton.mp he]
      exact hq
theorem putE_len (es : List Ent) (l : List Nat) (q : Addr) (r : Rec) : (putE es l q r).length ≤ es.length + 1 := by
  unfold putE
  split
  · rw [List.length_map]
    omega
  · rw [List.length_append]
    exact Nat.le_refl _
def bkF (rd md pd : Addr) : List (Str × V) := [("records", .ref rd), ("made", .ref md), ("past", .ref pd)]
structure BookP (K : PySem.W.Frag) (H : Hp) (a dx rd md pd : Addr) (es : List Ent) (n : Nat) : Prop where
  o : H a = some (.ins (He.ga K "Book") dx (bkF rd md pd))
  r : H rd = some (.dK (esK es))
  m : Tup K H md []
  p : ∃ pv, H pd = some (.tup pv) ∧ pv.length = n
  e : ∀ e ∈ es, RecO K H e.1 e.2.2
  z : es.length ≤ 100
theorem BookP.ext {H H' : Hp} {a dx rd md pd : Addr} {es : List Ent} {n : Nat} (e : Same H H') (h : BookP K H a dx rd md pd es n) : BookP K H' a dx rd md pd es n := by
  obtain ⟨pv, h1, h2⟩ := h.p
  exact ⟨e _ _ h.o, e _ _ h.r, h.m.ext (.of e), ⟨pv, e _ _ h1, h2⟩, fun x hx => (h.e x hx).ext e, h.z⟩
def BookO (K : PySem.W.Frag) (H : Hp) (a : Addr) (bs : List (List Nat × Rec)) (n : Nat) : Prop := ∃ dx rd md pd es, BookP K H a dx rd md pd es n ∧ es.map (·.2) = bs
theorem BookO.ext {H H' : Hp} {a : Addr} {bs : List (List Nat × Rec)} {n : Nat} (e : Same H H') (h : BookO K H a bs n) : BookO K H' a bs n := by
  obtain ⟨dx, rd, md, pd, es, h, q⟩ := h
  exact ⟨dx, rd, md, pd, es, h.ext e, q⟩
abbrev N_Book_init : List Str := ["self"]
def sp_Book_init (K : PySem.W.Frag) : Sp := fun vs H Q _ => ∃ (a dx : Addr), vs = [.ref a] ∧ H a = some (.ins (He.ga K "Book") dx []) ∧ ∀ H1, Sab a H H1 → BookO K H1 a [] 0 → Q .non H1
theorem mak_Book (T : Tx K mg base) : C8.Mak P w K mg base 1 "Book" (He.ga K "Book") (sp_Book_init K) [] := by
  obtain ⟨fd, F0⟩ := T.D_Book_init
  have F : FunD K "__init__" "Book.__init__" (defArgs s_Book_init) (defBody s_Book_init) (defScope s_Book_init) [] [] (He.ma K (He.ga K "Book") "__init__") fd := F0
  refine ⟨⟨_, fd, ["self"], [], T.mk_Book, F.ok sc_Book_init (fun vs H Q E h => ?_) (fun cdv A outer s H vs Q E hr h => ?_), T.g_Book, F.bindsN (fun _ _ _ _ _ _ us hl => match us, hl with | [_], _ => rfl), .nil⟩⟩
  · obtain ⟨_, _, rfl, _⟩ := h
    rfl
  · refine ⟨_, PSs.nox (pss_cons (ps_fld (pv 0) pe_dnewK rfl)
    (pss_cons (ps_fld (pv 0) (pe_tup pa_nil) rfl)
    (pss_one (ps_fld (pv 0) (pe_tup pa_nil) rfl)))), ?_⟩
    obtain ⟨a, dx, rfl, ha, hQ⟩ := h
    refine fun rd nrd => ⟨_, rfl, a, _, dx, [], rfl, same_new nrd _ _ ha, T.c_Book, T.na_Book_records, by decide, ?_⟩
    refine ⟨lnk, fun md nmd => ⟨_, rfl, a, _, dx, _, rfl, same_new nmd _ _ upd_same, T.c_Book, T.na_Book_made, by show 1 < 1000; decide, ?_⟩⟩
    refine ⟨lnk, fun pd npd => ⟨_, rfl, a, _, dx, _, rfl, same_new npd _ _ upd_same, T.c_Book, T.na_Book_past, by show 2 < 1000; decide, ?_⟩⟩
    have na1 : rd ≠ a := fun z => by rw [z, ha] at nrd; cases nrd
    have na2 : md ≠ a := fun z => by rw [z, upd_same] at nmd; cases nmd
    have na3 : pd ≠ a := fun z => by rw [z, upd_same] at npd; cases npd
    have hr1 : (upd (upd H rd (.dK [])) a (.ins (He.ga K "Book") dx (putF "records" (.ref rd) []))) rd = some (.dK []) := by rw [upd_ne na1]; exact upd_same
    have n21 : md ≠ rd := fun z => by rw [z, hr1] at nmd; cases nmd
    have hr2 : (upd (upd (upd (upd H rd (.dK [])) a (.ins (He.ga K "Book") dx (putF "records" (.ref rd) []))) md (.tup [])) a (.ins (He.ga K "Book") dx (putF "made" (.ref md) (putF "records" (.ref rd) [])))) rd = some (.dK []) := by
      rw [upd_ne na1, upd_ne n21.symm]
      exact hr1
    have hm2 : (upd (upd (upd (upd H rd (.dK [])) a (.ins (He.ga K "Book") dx (putF "records" (.ref rd) []))) md (.tup [])) a (.ins (He.ga K "Book") dx (putF "made" (.ref md) (putF "records" (.ref rd) [])))) md = some (.tup []) := by
      rw [upd_ne na2]
      exact upd_same
    refine hQ _ ?_ ⟨dx, rd, md, pd, [], ⟨upd_same, ?_, .inl ?_, ⟨[], ?_, rfl⟩, fun e he => absurd he List.not_mem_nil, Nat.zero_le _⟩, rfl⟩
    · exact (Sab.trans (Sab.trans (Sab.of (same_new (o := .dK []) nrd)).put (Sab.of (same_new (o := .tup []) nmd)).put) (Sab.of (same_new (o := .tup []) npd)).put)
    · rw [upd_ne na1]
      exact same_new npd _ _ hr2
    · rw [upd_ne na2]
      exact same_new npd _ _ hm2
    · rw [upd_ne na3]
      exact upd_same
abbrev N_Book_contains : List Str := ["self", "name"]
def sp_Book_contains (K : PySem.W.Frag) : Sp := fun vs H Q _ => ∃ (a : Addr) (l : List Nat) (bs : List (List Nat × Rec)) (n : Nat), vs = [.ref a, .str (SX.S l)] ∧ BookO K H a bs n ∧ Q (.bl (findB bs l).isSome) H
theorem mt_Book_contains (T : Tx K mg base) : Mt P w K mg base 1 (He.ga K "Book") "__contains__" (sp_Book_contains K) := by
  obtain ⟨fd, F0⟩ := T.D_Book_contains
  have F : FunD K "__contains__" "Book.__contains__" (defArgs s_Book_contains) (defBody s_Book_contains) (defScope s_Book_contains) [] [] (He.ma K (He.ga K "Book") "__contains__") fd := F0
  refine ⟨⟨_, fd, ["self", "name"], T.c_Book, T.m_Book_contains, F.ok sc_Book_contains (fun vs H Q E h => ?_) (fun cdv A outer s H vs Q E hr h => ?_), F.bindsN (fun _ _ _ _ _ _ us hl => match us, hl with | [_, _], _ => rfl)⟩⟩
  · obtain ⟨_, _, _, _, rfl, _⟩ := h
    rfl
  · refine ⟨_, PSs.nox (pss_one (ps_ret (pe_and (pe_callB (call_isiK1 (K := K) rfl) (by rfl) T.f_isinstance bt_isinstance (pa_cons (pv 1) (pa_cons (pe_bltn (v := .ty "str") (by rfl) T.f_str bt_str rfl) pa_nil))) (pe_one (pe_cmp (pc_din (hu_of hr) (pv 1) (pe_fldK (K := K) rfl (pv 0) rfl))))))), ?_⟩
    obtain ⟨a, l, bs, n, rfl, ⟨dx, rd, md, pd, es, B, hb⟩, hQ⟩ := h
    refine ⟨_, rfl, _, _, .type "str", .type "str", true, rfl, .ty _, .base (.str _), kSS, true, rfl, iteT ⟨_, rfl, _, rfl, _, _, _, _, _, rfl, B.o, T.c_Book, T.na_Book_records, rfl, _, _, rfl, DGet.k (k := .inr (SX.S l)) B.r, ?_⟩⟩
    rw [es_find hb, Option.isSome_map] at hQ
    rw [esK_val, Option.isSome_map]
    exact hQ
abbrev N_Book_check_known : List Str := ["self", "name"]
def sp_Book_check_known (K : PySem.W.Frag) : Sp := fun vs H Q _ => ∃ (a : Addr) (l : List Nat) (bs : List (List Nat × Rec)) (n : Nat), vs = [.ref a, .str (SX.S l)] ∧ BookO K H a bs n ∧ (findB bs l).isSome = true ∧ Q .non H
theorem mt_Book_check_known (T : Tx K mg base) : Mt P w K mg base 2 (He.ga K "Book") "check_known" (sp_Book_check_known K) := by
  obtain ⟨fd, F0⟩ := T.D_Book_check_known
  have F : FunD K "check_known" "Book.check_known" (defArgs s_Book_check_known) (defBody s_Book_check_known) (defScope s_Book_check_known) [] [] (He.ma K (He.ga K "Book") "check_known") fd := F0
  refine ⟨⟨_, fd, ["self", "name"], T.c_Book, T.m_Book_check_known, F.ok sc_Book_check_known (fun vs H Q E h => ?_) (fun cdv A outer s H vs Q E hr h => ?_), F.bindsN (fun _ _ _ _ _ _ us hl => match us, hl with | [_, _], _ => rfl)⟩⟩
  · obtain ⟨_, _, _, _, rfl, _⟩ := h
    rfl
  · refine ⟨_, PSs.nox (pss_one (ps_if (pt_cmpR (op_notInO (mt_Book_contains T) hr (by decide)) (pv 1) (pv 0) rfl) (pss_one ps_never) pss_nil)), ?_⟩
    obtain ⟨a, l, bs, n, rfl, BO, hf, hQ⟩ := h
    have BO2 := BO
    obtain ⟨dx, rd, md, pd, es, B, hb⟩ := BO2
    refine ⟨_, rfl, _, rfl, a, dx, _, rfl, B.o, a, l, bs, n, rfl, BO, _, rfl, _, rfl, ?_⟩
    rw [hf]
    exact iteF hQ
abbrev N_Book_len : List Str := ["self"]
def sp_Book_len (K : PySem.W.Frag) : Sp := fun vs H Q _ => ∃ (a : Addr) (bs : List (List Nat × Rec)) (n : Nat), vs = [.ref a] ∧ BookO K H a bs n ∧ Q (.int (bs.length : Nat)) H
theorem mt_Book_len (T : Tx K mg base) : Mt P w K mg base 1 (He.ga K "Book") "__len__" (sp_Book_len K) := by
  obtain ⟨fd, F0⟩ := T.D_Book_len
  have F : FunD K "__len__" "Book.__len__" (defArgs s_Book_len) (defBody s_Book_len) (defScope s_Book_len) [] [] (He.ma K (He.ga K "Book") "__len__") fd := F0
  refine ⟨⟨_, fd, ["self"], T.c_Book, T.m_Book_len, F.ok sc_Book_len (fun vs H Q E h => ?_) (fun cdv A outer s H vs Q E hr h => ?_), F.bindsN (fun _ _ _ _ _ _ us hl => match us, hl with | [_], _ => rfl)⟩⟩
  · obtain ⟨_, _, _, rfl, _⟩ := h
    rfl
  · refine ⟨_, PSs.nox (pss_one (ps_ret (pe_callB call_lenD (by rfl) T.f_len bt_len (pa_cons (pe_fldK (K := K) rfl (pv 0) rfl) pa_nil)))), ?_⟩
    obtain ⟨a, bs, n, rfl, ⟨dx, rd, md, pd, es, B, hb⟩, hQ⟩ := h
    refine ⟨_, rfl, _, _, _, _, _, rfl, B.o, T.c_Book, T.na_Book_records, rfl, rd, _, rfl, B.r, ?_⟩
    have e : (esK es).length = bs.length := by
      rw [← hb]
      simp [esK]
    rw [e]
    exact hQ
abbrev N_Book_getitem : List Str := ["self", "name"]
def sp_Book_getitem (K : PySem.W.Frag) : Sp := fun vs H Q _ => ∃ (a : Addr) (l : List Nat) (bs : List (List Nat × Rec)) (n : Nat) (m : List Nat) (r : Rec), vs = [.ref a, .str (SX.S l)] ∧ BookO K H a bs n ∧ findB bs l = some (m, r) ∧ ∀ q, RecO K H q r → Q (.ref q) H
theorem mt_Book_getitem (T : Tx K mg base) : Mt P w K mg base 3 (He.ga K "Book") "__getitem__" (sp_Book_getitem K) := by
  obtain ⟨fd, F0⟩ := T.D_Book_getitem
  have F : FunD K "__getitem__" "Book.__getitem__" (defArgs s_Book_getitem) (defBody s_Book_getitem) (defScope s_Book_getitem) [] [] (He.ma K (He.ga K "Book") "__getitem__") fd := F0
  refine ⟨⟨_, fd, ["self", "name"], T.c_Book, T.m_Book_getitem, F.ok sc_Book_getitem (fun vs H Q E h => ?_) (fun cdv A outer s H vs Q E hr h => ?_), F.bindsN (fun _ _ _ _ _ _ us hl => match us, hl with | [_, _], _ => rfl)⟩⟩
  · obtain ⟨_, _, _, _, _, _, rfl, _⟩ := h
    rfl
  · refine ⟨_, PSs.nox (pss_cons (ps_expr (C8.pe_mt (mt_Book_check_known T).met hr (by decide) (pv 0) (pa_cons (pv 1) pa_nil)))
    (pss_one (ps_ret (pe_dget (hu_of hr) (pe_fldK (K := K) rfl (pv 0) rfl) (pv 1) (fun _ _ => rfl))))), ?_⟩
    obtain ⟨a, l, bs, n, m, r, rfl, BO, hf, hQ⟩ := h
    have BO2 := BO
    obtain ⟨dx, rd, md, pd, es, B, hb⟩ := BO2
    refine ⟨_, rfl, a, dx, _, rfl, B.o, rfl, _, rfl, a, l, bs, n, rfl, BO, by rw [hf]; rfl, ?_⟩
    obtain ⟨e, he, hem, her⟩ : ∃ e, (es.find? fun e => isN l e.2) = some e ∧ e ∈ es ∧ e.2 = (m, r) := by
      have h1 := es_find hb l
      rw [hf] at h1
      cases z : es.find? fun e => isN l e.2 with
      | none => rw [z] at h1; cases h1
      | some e => rw [z] at h1; exact ⟨e, rfl, List.mem_of_find?_eq_some z, (Option.some.inj h1).symm⟩
    have hv : valV (esK es) (.inr (SX.S l)) = some (.ref e.1) := by rw [esK_val, he]; rfl
    have hg := DGet.k (k := .inr (SX.S l)) B.r
    rw [hv] at hg
    refine ⟨_, rfl, _, _, _, _, _, rfl, B.o, T.c_Book, T.na_Book_records, rfl, _, rfl, rd, _, rfl, hg, hQ _ ?_⟩
    have := B.e e hem
    rw [her] at this
    exact this
abbrev N_Book_become : List Str := ["self", "records", "made"]
def sp_Book_become (K : PySem.W.Frag) : Sp := fun vs H Q _ => ∃ (a dx rd md pd rd2 md2 : Addr) (pv : List V), vs = [.ref a, .ref rd2, .ref md2] ∧ H a = some (.ins (He.ga K "Book") dx (bkF rd md pd)) ∧ H pd = some (.tup pv) ∧ pv.length ≤ 1000 ∧ ∀ H1 pd2 pv2, Sab a H H1 → H1 a = some (.ins (He.ga K "Book") dx (bkF rd2 md2 pd2)) → H1 pd2 = some (.tup pv2) → pv2.length = pv.length + 1 → Q .non H1
theorem mt_Book_become (T : Tx K mg base) : Mt P w K mg base 1 (He.ga K "Book") "become" (sp_Book_become K) := by
  obtain ⟨fd, F0⟩ := T.D_Book_become
  have F : FunD K "become" "Book.become" (defArgs s_Book_become) (defBody s_Book_become) (defScope s_Book_become) [] [] (He.ma K (He.ga K "Book") "become") fd := F0
  refine ⟨⟨_, fd, ["self", "records", "made"], T.c_Book, T.m_Book_become, F.ok sc_Book_become (fun vs H Q E h => ?_) (fun cdv A outer s H vs Q E hr h => ?_), F.bindsN (fun _ _ _ _ _ _ us hl => match us, hl with | [_, _, _], _ => rfl)⟩⟩
  · obtain ⟨_, _, _, _, _, _, _, _, rfl, _⟩ := h
    rfl
  · refine ⟨_, PSs.nox (pss_cons (ps_fld (pv 0) (pe_op (op_catK (K := K) rfl) (pe_fldK (K := K) rfl (pv 0) rfl) (pe_tup (pa_cons (pe_tup (pa_cons (pe_fldK (K := K) rfl (pv 0) rfl) (pa_cons (pe_fldK (K := K) rfl (pv 0) rfl) pa_nil))) pa_nil))) rfl)
    (pss_cons (ps_fld (pv 0) (pv 1) rfl)
    (pss_one (ps_fld (pv 0) (pv 2) rfl)))), ?_⟩
    obtain ⟨a, dx, rd, md, pd, rd2, md2, pv, rfl, ha, hpd, hn, hQ⟩ := h
    have fin : ∀ (H2 : Hp) (pd2 : Addr) (pv2 : List V), Same H H2 → H2 pd2 = some (.tup pv2) → pv2.length = pv.length + 1 → ∃ aa C dx' fs, V.ref a = .ref aa ∧ H2 aa = some (.ins C dx' fs) ∧ Cls K C ∧ NoAttr K C "past" ∧ fs.length < 1000 ∧
        (tSeq (sFld K (tVar 0) (tVar 1) "records") (sFld K (tVar 0) (tVar 2) "made")) { nx := fun _ H' => Q .non H', rt := Q } [some (.ref a), some (.ref rd2), some (.ref md2)] (upd H2 aa (.ins C dx' (putF "past" (.ref pd2) fs))) := by
      intro H2 pd2 pv2 e h2 h3
      refine ⟨a, _, dx, _, rfl, e _ _ ha, T.c_Book, T.na_Book_past, by show 3 < 1000; decide, ?_⟩
      refine ⟨_, rfl, _, rfl, a, _, dx, _, rfl, upd_same, T.c_Book, T.na_Book_records, by show 3 < 1000; decide, ?_⟩
      refine ⟨_, rfl, _, rfl, a, _, dx, _, rfl, upd_same, T.c_Book, T.na_Book_made, by show 3 < 1000; decide, ?_⟩
      have npa : pd2 ≠ a := ne_of h2 (e _ _ ha) (by intro z; cases z)
      refine hQ _ pd2 pv2 ((Sab.of e).put.put.put) upd_same ?_ h3
      rw [upd_ne npa, upd_ne npa, upd_ne npa]
      exact h2
    refine ⟨_, rfl, _, _, _, _, _, rfl, ha, T.c_Book, T.na_Book_past, rfl, _, rfl, _, _, _, _, _, rfl, ha, T.c_Book, T.na_Book_records, rfl, _, rfl, _, _, _, _, _, rfl, ha, T.c_Book, T.na_Book_made, rfl, lnk, fun u nu => ⟨lnk, fun v nv => ?_⟩⟩
    have e1 : Same H (upd (upd H u (.tup [.ref rd, .ref md])) v (.tup [.ref u])) := (same_new nu).trans (same_new nv)
    refine ⟨_, _, _, _, rfl, rfl, SqT.of (e1 _ _ hpd), SqT.of upd_same, Nat.le_of_lt (small (by show pv.length + 1 < 1000000; omega)), fun hz => ?_, fun _ hy => absurd hy (by intro z; cases z), fun hx _ p np => ?_⟩
    · exact ⟨_, rfl, fin _ v [.ref u] e1 upd_same (by rw [hz]; rfl)⟩
    · exact ⟨_, rfl, fin _ p (pv ++ [.ref u]) (e1.trans (same_new np)) upd_same (by rw [List.length_append]; rfl)⟩
end
end Gz
set_option maxHeartbeats 4000000
namespace Gz
open PySem PySem.Spec PyProof.Rows L2
section
variable {P : Program} {w : World} {K : PySem.W.Frag} {mg : Str → Option Value} {base : Heap}
theorem recSab {H H' : Hp} {a q : Addr} {r : Rec} {dx : Addr} {fs : List (Str × V)} (h : RecO K H q r) (ha : H a = some (.ins (He.ga K "Book") dx fs)) (e : Sab a H H') (hl : fs.length = 3 := by rfl) : RecO K H' q r := by
  obtain ⟨rdx, t, d, ps, gs, gl, R⟩ := h
  have eT : SameT H H' := SameT.sab e ha (by intro xs z; cases z)
  have nq : q ≠ a := fun z => by
    have h1 := R.o
    rw [z, ha] at h1
    have h2 := congrArg List.length (HO.ins.inj (Option.some.inj h1)).2.2
    rw [hl] at h2
    cases h2
  refine ⟨rdx, t, d, ps, gs, gl, e _ _ nq R.o, e _ _ (fun z => ?_) R.x, eT _ _ R.t, R.p.ext eT⟩
  have h1 := R.x
  rw [z, ha] at h1
  cases h1
theorem sameT_put {H H' : Hp} {a : Addr} {o : HO} (h : H a = some o) (n : ∀ xs, o ≠ .tup xs) (e : Sab a H H') : SameT H H' := SameT.sab e h n
abbrev N_Book_setitem : List Str := ["self", "name", "record", "records", "index", "claim"]
def sp_Book_setitem (K : PySem.W.Frag) : Sp := fun vs H Q _ => ∃ (a : Addr) (l : List Nat) (q : Addr) (r : Rec) (bs : List (List Nat × Rec)) (n : Nat), vs = [.ref a, .str (SX.S l), .ref q] ∧ BookO K H a bs n ∧ 1 ≤ l.length ∧ l.length ≤ 8 ∧ (∀ c ∈ l, c ∈ sml) ∧ RecO K H q r ∧ n ≤ 1000 ∧ bs.length ≤ 50 ∧ ∀ H1, Sab a H H1 → BookO K H1 a (putB bs l r) (n + 1) → Q .non H1
theorem mt_Book_setitem (T : Tx K mg base) : Mt P w K mg base 2 (He.ga K "Book") "__setitem__" (sp_Book_setitem K) := by
  obtain ⟨fd, F0⟩ := T.D_Book_setitem
  have F : FunD K "__setitem__" "Book.__setitem__" (defArgs s_Book_setitem) (defBody s_Book_setitem) (defScope s_Book_setitem) [] [] (He.ma K (He.ga K "Book") "__setitem__") fd := F0
  refine ⟨⟨_, fd, ["self", "name", "record"], T.c_Book, T.m_Book_setitem, F.ok sc_Book_setitem (fun vs H Q E h => ?_) (fun cdv A outer s H vs Q E hr h => ?_), F.bindsN (fun _ _ _ _ _ _ us hl => match us, hl with | [_, _, _], _ => rfl)⟩⟩
  · obtain ⟨_, _, _, _, _, _, rfl, _⟩ := h
    rfl
  · refine ⟨_, PSs.nox (pss_cons (ps_if (pt_not (pt_val (C8.pe_c (cal_is_name T) hr (by decide) (by rfl) (pa_cons (pv 1) pa_nil)))) (pss_one ps_never) pss_nil)
    (pss_cons (ps_expr (C8.pe_c (cal_check_record T) hr (by decide) (by rfl) (pa_cons (pv 2) pa_nil)))
    (pss_cons (ps_set (i := 3) sc_Book_setitem.nd rfl locV (pe_callTy call_dictD (by rfl) T.f_dict bt_dict (pa_cons (pe_fldK (K := K) rfl (pv 0) rfl) pa_nil)))
    (pss_cons (ps_dput (hu_of hr) (pv 3) (pv 1) (pv 2) rfl)
    (pss_cons (ps_for PassesOwn.never rfl (pi_enumT (by rfl) T.f_enumerate (pa_cons (pe_fldK (K := K) rfl (pv 0) rfl) pa_nil)) (pg_tupK (K := K) rfl (n := 2) rfl (pgs_cons (pg_name (i := 4) sc_Book_setitem.nd rfl locV) (pgs_cons (pg_name (i := 5) sc_Book_setitem.nd rfl locV) pgs_nil))) pss_never)
    (pss_one (ps_expr (C8.pe_mt (mt_Book_become T).met hr (by decide) (pv 0) (pa_cons (pv 3) (pa_cons (pe_fldK (K := K) rfl (pv 0) rfl) pa_nil)))))))))), ?_⟩
    obtain ⟨a, l, q, r, bs, n, rfl, BO, h1, h2, h3, RO, hn, hbl, hQ⟩ := h
    refine ⟨_, rfl, l, rfl, h1, h2, h3, fun H1 e1 => ⟨true, rfl, iteF ?_⟩⟩
    obtain ⟨dx, rd, md, pd, es, B, hb⟩ := BO.ext e1
    obtain ⟨rdx, t, d, ps, gs, gl, R⟩ := RO.ext e1
    refine ⟨_, rfl, q, rdx, _, rfl, R.o, ?_⟩
    refine ⟨_, rfl, _, _, _, _, _, rfl, B.o, T.c_Book, T.na_Book_records, rfl, rd, esK es, rfl, Rd.of B.r, fun u nu => ?_⟩
    have el : es.length = bs.length := by rw [← hb, List.length_map]
    refine ⟨_, rfl, _, rfl, _, rfl, u, _, rfl, DPut.k (k := .inr (SX.S l)) upd_same (small (by rw [show (esK es).length = es.length from List.length_map ..]; omega)), ?_⟩
    rw [putE_kv]
    have e2 : Same H1 (upd (upd H1 u (.dK (esK es))) u (.dK (esK (putE es l q r)))) := same_put (same_new nu) nu
    refine ⟨_, rfl, _, _, _, _, _, rfl, (e2 _ _ B.o), T.c_Book, T.na_Book_made, rfl, md, [], rfl, (B.m.ext (.of e2)).sq, for_it walk_E (fun i σ H2 => H2 = upd (upd H1 u (.dK (esK es))) u (.dK (esK (putE es l q r))) ∧ σ = [some (.ref a), some (.str (SX.S l)), some (.ref q), some (.ref u), none, none]) ⟨rfl, rfl⟩ (fun i σ H2 _ hp => by rw [hp.1]; exact (B.m.ext (.of e2)).sq) (fun i x σ H2 H3 hi => absurd hi (Nat.not_lt_zero _)) fun σ H2 ⟨eH, eσ⟩ => ?_⟩
    subst eH eσ
    have B2 := B.ext e2
    obtain ⟨pv, hp1, hp2⟩ := B2.p
    refine ⟨_, rfl, a, dx, _, rfl, B2.o, rfl, _, rfl, _, rfl, _, _, _, _, _, rfl, B2.o, T.c_Book, T.na_Book_made, rfl, a, dx, rd, md, pd, u, md, pv, rfl, B2.o, hp1, by omega, fun H3 pd2 pv2 e3 h4 h5 h6 => ?_⟩
    have e4 : Sab a H H3 := Sab.trans (Sab.of (e1.trans e2)) e3
    have eT := sameT_put B2.o (by intro xs z; cases z) e3
    refine hQ H3 e4 ⟨dx, u, md, pd2, putE es l q r, ⟨h4, e3 _ _ ?_ upd_same, B2.m.ext eT, ⟨pv2, h5, by omega⟩, putE_all (G := fun x y => RecO K H3 x y) (fun e he => ?_) ?_, by have := putE_len es l q r; omega⟩, putE_map hb l q r⟩
    · exact fun z => by
        rw [z, B.o] at nu
        cases nu
    · exact recSab (B2.e e he) B2.o e3
    · exact recSab ⟨rdx, t, d, ps, gs, gl, R.ext e2⟩ B2.o e3
/-- the promise of a claim-free book's see -/
def gl1 (r : Rec) (t : Int) (w : List Nat) : Rec := { r with gl := r.gl ++ [(t, w)] }
theorem gl1_ok {r : Rec} {t : Int} {w : List Nat} (ok : r.Ok) (h1 : r.gl.length < 12) (h2 : 0 ≤ t ∧ t ≤ 10 ^ 30) (h3 : w.length = r.W) (h4 : RdOk w) : (gl1 r t w).Ok := by
  refine ⟨ok.w1, ok.w8, ok.l1, ok.lh, ok.h40, ok.p1, ok.p9, ?_, fun g hg => ?_, fun g hg => ?_, fun g hg => ?_⟩
  · show (r.gl ++ [(t, w)]).length ≤ 12
    rw [List.length_append]
    exact h1
  · rcases List.mem_append.mp hg with hg | hg
    · exact ok.gt g hg
    · rw [List.mem_singleton.mp hg]; exact h2
  · rcases List.mem_append.mp hg with hg | hg
    · exact ok.gw g hg
    · rw [List.mem_singleton.mp hg]; exact h3
  · rcases List.mem_append.mp hg with hg | hg
    · exact ok.ga g hg
    · rw [List.mem_singleton.mp hg]; exact h4
abbrev N_Book_see : List Str := ["self", "name", "time", "window", "record"]
def sp_Book_see (K : PySem.W.Frag) : Sp := fun vs H Q _ => ∃ (a : Addr) (l : List Nat) (t : Int) (w : List Nat) (bs : List (List Nat × Rec)) (n : Nat) (m : List Nat) (r : Rec), vs = [.ref a, .str (SX.S l), .int t, .str (SX.S w)] ∧ BookO K H a bs n ∧ findB bs l = some (m, r) ∧ 1 ≤ l.length ∧ l.length ≤ 8 ∧ (∀ c ∈ l, c ∈ sml) ∧ r.Ok ∧ (0 ≤ t ∧ t ≤ 10 ^ 30) ∧ w.length = r.W ∧ RdOk w ∧ r.gl.length < 12 ∧ n ≤ 1000 ∧ bs.length ≤ 50 ∧ ∀ H1, Sab a H H1 → BookO K H1 a (putB bs l (gl1 r t w)) (n + 1) → Q (.int ((gl1 r t w).Ls.length : Nat)) H1
theorem mt_Book_see (T : Tx K mg base) : Mt P w K mg base 10 (He.ga K "Book") "see" (sp_Book_see K) := by
  obtain ⟨fd, F0⟩ := T.D_Book_see
  have F : FunD K "see" "Book.see" (defArgs s_Book_see) (defBody s_Book_see) (defScope s_Book_see) [] [] (He.ma K (He.ga K "Book") "see") fd := F0
  refine ⟨⟨_, fd, ["self", "name", "time", "window"], T.c_Book, T.m_Book_see, F.ok sc_Book_see (fun vs H Q E h => ?_) (fun cdv A outer s H vs Q E hr h => ?_), F.bindsN (fun _ _ _ _ _ _ us hl => match us, hl with | [_, _, _, _], _ => rfl)⟩⟩
  · obtain ⟨_, _, _, _, _, _, _, _, rfl, _⟩ := h
    rfl
  · refine ⟨_, PSs.nox (pss_cons (ps_expr (C8.pe_mt (mt_Book_check_known T).met hr (by decide) (pv 0) (pa_cons (pv 1) pa_nil)))
    (pss_cons (ps_set (i := 4) sc_Book_see.nd rfl locV (C8.pe_mt (mt_Record_seen T).met hr (by decide) (pe_dget (hu_of hr) (pe_fldK (K := K) rfl (pv 0) rfl) (pv 1) (fun _ _ => rfl)) (pa_cons (pv 2) (pa_cons (pv 3) pa_nil))))
    (pss_cons (ps_asg (pv 4) (pg_sub (pv 0) (pv 1) (set_O (mt_Book_setitem T) T.noSeq hr (by decide))))
    (pss_one (ps_ret (pe_callB (call_lenK (K := K) rfl) (by rfl) T.f_len bt_len (pa_cons (C8.pe_c (cal_pairs T) hr (by decide) (by rfl) (pa_cons (pv 4) pa_nil)) pa_nil))))))), ?_⟩
    obtain ⟨a, l, t, w, bs, n, m, r, rfl, BO, hf, h1, h2, h3, ok, ht, hw, hrd, h12, hn, hbl, hQ⟩ := h
    have BO2 := BO
    obtain ⟨dx, rd, md, pd, es, B, hb⟩ := BO2
    refine ⟨_, rfl, a, dx, _, rfl, B.o, rfl, _, rfl, a, l, bs, n, rfl, BO, by rw [hf]; rfl, ?_⟩
    obtain ⟨e, he, hem, her⟩ : ∃ e, (es.find? fun e => isN l e.2) = some e ∧ e ∈ es ∧ e.2 = (m, r) := by
      have h1 := es_find hb l
      rw [hf] at h1
      cases z : es.find? fun e => isN l e.2 with
      | none => rw [z] at h1; cases h1
      | some e => rw [z] at h1; exact ⟨e, rfl, List.mem_of_find?_eq_some z, (Option.some.inj h1).symm⟩
    have hv : valV (esK es) (.inr (SX.S l)) = some (.ref e.1) := by rw [esK_val, he]; rfl
    have hg := DGet.k (k := .inr (SX.S l)) B.r
    rw [hv] at hg
    have RO : RecO K H e.1 r := by
      have := B.e e hem
      rw [her] at this
      exact this
    obtain ⟨rdx, tt, d, ps, gs, gl, R⟩ := RO
    refine ⟨_, rfl, _, _, _, _, _, rfl, B.o, T.c_Book, T.na_Book_records, rfl, _, rfl, rd, _, rfl, hg, e.1, rdx, _, rfl, R.o, rfl, _, rfl, _, rfl, e.1, r, t, w, rfl, ⟨rdx, tt, d, ps, gs, gl, R⟩, ht, hw, ok.w8, hrd, h12, fun b H1 e1 hb1 => ?_⟩
    have BO1 := BO.ext e1
    have Bo1 := e1 _ _ B.o
    refine ⟨_, rfl, _, rfl, _, rfl, a, dx, _, rfl, Bo1, a, l, b, gl1 r t w, bs, n, rfl, BO1, h1, h2, h3, hb1, hn, hbl, fun H2 e2 BO3 => ?_⟩
    have RO2 := recSab hb1 Bo1 e2
    refine ⟨_, rfl, b, gl1 r t w, rfl, RO2, gl1_ok ok h12 ht hw hrd, fun c H3 e3 ⟨cs, hcs, hP⟩ => ⟨c, _, rfl, .inr (SqT.of hcs), ?_⟩⟩
    rw [List.length_map, pair_len hP]
    exact hQ H3 (Sab.trans (Sab.of e1) (Sab.trans e2 (Sab.of e3))) (BO3.ext e3)
def sp_Book_names (K : PySem.W.Frag) : Sp := fun vs H Q _ => ∃ (a : Addr) (bs : List (List Nat × Rec)) (n : Nat), vs = [.ref a] ∧ BookO K H a bs n ∧ bs.length ≤ 50 ∧ ∀ c H1 ys, Same H H1 → ys.Perm ((bs.map (·.1)).map SX.S) → sortedS ys = true → H1 c = some (.tup (ys.map V.str)) → Q (.ref c) H1
theorem pr_names (T : Tx K mg base) : ∃ fd, FnOk P w K mg base C8.CX0 1 (prG "names" K) fd ["self"] (sp_Book_names K) ∧ Binds K fd ["self"] [] := by
  obtain ⟨fd, F⟩ := T.pf_names
  refine ⟨fd, F.ok sc_Book_names (fun vs H Q E h => ?_) (fun cdv A outer s H vs Q E hr h => ?_), F.bindsN fun _ _ _ _ _ _ us hl => match us, hl with | [_], _ => rfl⟩
  · obtain ⟨_, _, _, rfl, _⟩ := h
    rfl
  · refine ⟨_, PSs.nox (pss_one (ps_ret (pe_callTy (call_tupleK (K := K) rfl) (by rfl) T.f_tuple bt_tuple (pa_cons (pe_callB cr_sortedS (by rfl) T.f_sorted bt_sorted (pa_cons (pe_callTy (call_list_dK rfl) (by rfl) T.f_list bt_list (pa_cons (pe_fldK (K := K) rfl (pv 0) rfl) pa_nil)) pa_nil)) pa_nil)))), ?_⟩
    obtain ⟨a, bs, n, rfl, ⟨dx, rd, md, pd, es, B, hb⟩, hl, hQ⟩ := h
    have ek : (esK es).map (fun kv => kV kv.1) = ((bs.map (·.1)).map SX.S).map V.str := by
      rw [← hb]
      unfold esK
      rw [List.map_map, List.map_map, List.map_map, List.map_map]
      rfl
    refine ⟨_, rfl, _, _, _, _, _, rfl, B.o, T.c_Book, T.na_Book_records, rfl, rd, _, rfl, B.r, fun u nu => ?_⟩
    rw [ek]
    refine ⟨u, (bs.map (·.1)).map SX.S, rfl, SqL.of upd_same, by rw [List.length_map, List.length_map]; omega, fun ys p hp hs np => ⟨p, _, rfl, .inl ⟨SqL.of upd_same, fun c nc => ?_⟩⟩⟩
    exact hQ c _ ys (((same_new nu).trans (same_new np)).trans (same_new nc)) hp hs upd_same
def sp_Book_claims (K : PySem.W.Frag) : Sp := fun vs H Q _ => ∃ (a : Addr) (bs : List (List Nat × Rec)) (n : Nat), vs = [.ref a] ∧ BookO K H a bs n ∧ ∀ md, Tup K H md [] → Q (.ref md) H
theorem pr_claims (T : Tx K mg base) : ∃ fd, FnOk P w K mg base C8.CX0 1 (prG "claims" K) fd ["self"] (sp_Book_claims K) ∧ Binds K fd ["self"] [] := by
  obtain ⟨fd, F⟩ := T.pf_claims
  refine ⟨fd, F.ok sc_Book_claims (fun vs H Q E h => ?_) (fun cdv A outer s H vs Q E hr h => ?_), F.bindsN fun _ _ _ _ _ _ us hl => match us, hl with | [_], _ => rfl⟩
  · obtain ⟨_, _, _, rfl, _⟩ := h
    rfl
  · refine ⟨_, PSs.nox (pss_one (ps_ret (pe_fldK (K := K) rfl (pv 0) rfl))), ?_⟩
    obtain ⟨a, bs, n, rfl, ⟨dx, rd, md, pd, es, B, hb⟩, hQ⟩ := h
    exact ⟨_, rfl, _, _, _, _, _, rfl, B.o, T.c_Book, T.na_Book_made, rfl, hQ md B.m⟩
def sp_Book_changes (K : PySem.W.Frag) : Sp := fun vs H Q _ => ∃ (a : Addr) (bs : List (List Nat × Rec)) (n : Nat), vs = [.ref a] ∧ BookO K H a bs n ∧ Q (.int (n : Nat)) H
theorem pr_changes (T : Tx K mg base) : ∃ fd, FnOk P w K mg base C8.CX0 1 (prG "changes" K) fd ["self"] (sp_Book_changes K) ∧ Binds K fd ["self"] [] := by
  obtain ⟨fd, F⟩ := T.pf_changes
  refine ⟨fd, F.ok sc_Book_changes (fun vs H Q E h => ?_) (fun cdv A outer s H vs Q E hr h => ?_), F.bindsN fun _ _ _ _ _ _ us hl => match us, hl with | [_], _ => rfl⟩
  · obtain ⟨_, _, _, rfl, _⟩ := h
    rfl
  · refine ⟨_, PSs.nox (pss_one (ps_ret (pe_callB (call_lenK (K := K) rfl) (by rfl) T.f_len bt_len (pa_cons (pe_fldK (K := K) rfl (pv 0) rfl) pa_nil)))), ?_⟩
    obtain ⟨a, bs, n, rfl, ⟨dx, rd, md, pd, es, B, hb⟩, hQ⟩ := h
    obtain ⟨pv, hp1, hp2⟩ := B.p
    refine ⟨_, rfl, _, _, _, _, _, rfl, B.o, T.c_Book, T.na_Book_past, rfl, pd, pv, rfl, .inr (SqT.of hp1), ?_⟩
    rw [hp2]
    exact hQ
end
end Gz
set_option maxHeartbeats 4000000
namespace Gz
open PySem PySem.Spec PyProof.Rows L2
section
variable {P : Program} {w : World} {K : PySem.W.Frag} {mg : Str → Option Value} {base : Heap}
def ConsO (K : PySem.W.Frag) (H : Hp) (c b : Addr) : Prop := ∃ dx, H c = some (.ins (He.ga K "Console") dx [("book", .ref b)])
theorem ConsO.ext {H H' : Hp} {c b : Addr} (e : Same H H') (h : ConsO K H c b) : ConsO K H' c b := by
  obtain ⟨dx, h⟩ := h
  exact ⟨dx, e _ _ h⟩
theorem hfGet (T : Tx K mg base) : ∀ f, PySem.W.findIn K (.ref (He.ga K "Book")) "__getitem__" = some (some (.ref f)) → PySem.W.fnIn K f = true := fun f hf => by
  rw [T.m_Book_getitem.at_] at hf
  cases hf
  exact T.fnIn
theorem recLst {H H' : Hp} {D q : Addr} {r : Rec} {xs : List V} (h : RecO K H q r) (hD : H D = some (.lst xs)) (e : Sab D H H') : RecO K H' q r := by
  obtain ⟨rdx, t, d, ps, gs, gl, R⟩ := h
  have eT : SameT H H' := SameT.sab e hD (by intro xs z; cases z)
  exact ⟨rdx, t, d, ps, gs, gl, e _ _ (ne_of R.o hD (by intro z; cases z)) R.o, e _ _ (ne_of R.x hD (by intro z; cases z)) R.x, eT _ _ R.t, R.p.ext eT⟩
theorem bookSab {H H' : Hp} {a b C dx : Addr} {fs : List (Str × V)} {bs : List (List Nat × Rec)} {n : Nat} (h : BookO K H b bs n) (ha : H a = some (.ins C dx fs)) (hl : fs.length < 3) (e : Sab a H H') : BookO K H' b bs n := by
  obtain ⟨dx2, rd, md, pd, es, B, q⟩ := h
  have eT : SameT H H' := SameT.sab e ha (by intro xs z; cases z)
  obtain ⟨pv, h1, h2⟩ := B.p
  refine ⟨dx2, rd, md, pd, es, ⟨e _ _ (fun z => ?_) B.o, e _ _ (ne_of B.r ha (by intro z; cases z)) B.r, B.m.ext eT, ⟨pv, eT _ _ h1, h2⟩, fun x hx => ?_, B.z⟩, q⟩
  · have h3 := B.o
    rw [z, ha] at h3
    have h4 := congrArg List.length (HO.ins.inj (Option.some.inj h3)).2.2
    rw [h4] at hl
    exact absurd hl (by show ¬ 3 < 3; decide)
  · obtain ⟨rdx, t, d, ps, gs, gl, R⟩ := B.e x hx
    refine ⟨rdx, t, d, ps, gs, gl, e _ _ (fun z => ?_) R.o, e _ _ (ne_of R.x ha (by intro z; cases z)) R.x, eT _ _ R.t, R.p.ext eT⟩
    have h3 := R.o
    rw [z, ha] at h3
    have h4 := congrArg List.length (HO.ins.inj (Option.some.inj h3)).2.2
    rw [h4] at hl
    exact absurd hl (by show ¬ 8 < 3; decide)
abbrev N_Console_init : List Str := ["self"]
def sp_Console_init (K : PySem.W.Frag) : Sp := fun vs H Q _ => ∃ (a dx : Addr), vs = [.ref a] ∧ H a = some (.ins (He.ga K "Console") dx []) ∧ ∀ H1 b, H b = none → Sab a H H1 → H1 a = some (.ins (He.ga K "Console") dx [("book", .ref b)]) → BookO K H1 b [] 0 → Q .non H1
theorem mak_Console (T : Tx K mg base) : C8.Mak P w K mg base 3 "Console" (He.ga K "Console") (sp_Console_init K) [] := by
  obtain ⟨fd, F0⟩ := T.D_Console_init
  have F : FunD K "__init__" "Console.__init__" (defArgs s_Console_init) (defBody s_Console_init) (defScope s_Console_init) [] [] (He.ma K (He.ga K "Console") "__init__") fd := F0
  refine ⟨⟨_, fd, ["self"], [], T.mk_Console, F.ok sc_Console_init (fun vs H Q E h => ?_) (fun cdv A outer s H vs Q E hr h => ?_), T.g_Console, F.bindsN (fun _ _ _ _ _ _ us hl => match us, hl with | [_], _ => rfl), .nil⟩⟩
  · obtain ⟨_, _, rfl, _⟩ := h
    rfl
  · refine ⟨_, PSs.nox (pss_one (ps_fld (pv 0) (pe_mk0 (mak_Book T) hr (by decide) (by rfl)) rfl)), ?_⟩
    obtain ⟨a, dx, rfl, ha, hQ⟩ := h
    refine fun x bdx nx ndx xne => ⟨x, bdx, rfl, upd_same, fun H1 e1 BO => ⟨rfl, _, rfl, a, _, dx, [], rfl, ?_, T.c_Console, T.na_Console_book, by decide, ?_⟩⟩
    · exact (Same.made nx ndx fun b o h n => e1 b o n h) _ _ ha
    · have ha1 := (Same.made nx ndx fun b o h n => e1 b o n h) _ _ ha
      refine hQ _ x nx (Sab.put (Sab.of (Same.made nx ndx fun b o h n => e1 b o n h))) upd_same (bookSab BO ha1 (by decide) sab_put)
abbrev N_Console_records_of : List Str := ["self", "names", "name"]
def sp_records_of (K : PySem.W.Frag) : Sp := fun vs H Q _ => ∃ (c b p : Addr) (l : List Nat) (bs : List (List Nat × Rec)) (n : Nat) (m : List Nat) (r : Rec), vs = [.ref c, .ref p] ∧ ConsO K H c b ∧ BookO K H b bs n ∧ H p = some (.tup [.str (SX.S l)]) ∧ findB bs l = some (m, r) ∧ ∀ d q H1, Same H H1 → H1 d = some (.lst [.ref q]) → RecO K H1 q r → Q (.ref d) H1
def sp_recs (K : PySem.W.Frag) : Sp := fun vs H Q E => ∃ v rest, vs = v :: rest ∧ rest.length ≤ 5 ∧ ∀ p, H p = Option.none → sp_records_of K [v, .ref p] (upd H p (.tup rest)) Q E
theorem fn_records_of (T : Tx K mg base) : FnR P w K mg base C8.CX0 5 (He.ma K (He.ga K "Console") "records_of") (sp_recs K) := by
  obtain ⟨fd, F0⟩ := T.D_Console_records_of
  have F : FunD K "records_of" "Console.records_of" (defArgs s_Console_records_of) (defBody s_Console_records_of) (defScope s_Console_records_of) [] [] (He.ma K (He.ga K "Console") "records_of") fd := F0
  obtain ⟨oc, od, dV, kV, doc, pm, an, cdv, ct, osl, rfl, lk, hcd, hD, _⟩ := F.ex
  rcases hD with ⟨_, rfl⟩ | ⟨z, _⟩
  · refine fn_ofV (N := N_Console_records_of) (nmax := 5) lk hcd sc_Console_records_of (by decide) (bindV_of (fun _ => rfl) (fun _ _ => rfl) (fun _ _ _ => rfl) (fun _ _ _ _ => rfl) (fun _ _ _ _ _ => rfl) (fun _ _ _ _ _ _ => rfl)) (fun _ _ _ _ _ _ _ _ _ _ _ _ z => z.elim) (fun A outer s H vs Q E hr h => ?_)
    refine ⟨_, PSs.nox (pss_cons (ps_for PassesOwn.never rfl (pi_tupK (K := K) rfl (pv 1)) (pg_name (i := 2) sc_Console_records_of.nd rfl locV) (pss_one (ps_if (pt_cmpR (op_notInO (mt_Book_contains T) hr (by decide)) (pv 2) (pe_fldK (K := K) rfl (pv 0) rfl) rfl) (pss_one ps_never) pss_nil)))
    (pss_one (ps_ret (pe_lc (own := [("name", 2)]) rfl sc_Console_records_of.nd (pi_tupK (K := K) rfl (pv 1)) (blkOk_by (own := [("name", 2)]) (N := N_Console_records_of) (sc := defScope s_Console_records_of) (by decide +kernel)) (fun _ _ _ _ _ => (pg_name (i := 2) sc_Console_records_of.nd rfl locV)) (fun _ _ _ _ _ => pts_nil) (fun _ _ _ _ _ => (pe_subO (mt_Book_getitem T) (hfGet T) hr (by decide) (pe_fldK (K := K) rfl (pv 0) rfl) (pv 2) (fun _ _ => by with_unfolding_all rfl))))))), ?_⟩
    obtain ⟨c, b, p, l, bs, n, m, r, rfl, ⟨dx, hc⟩, BO, hp, hf, hQ⟩ := h
    have hbf : ∀ {H1 : Hp}, Same H H1 → BookO K H1 b bs n := fun e => BO.ext e
    refine ⟨_, rfl, p, rfl, ⟨_, SqT.of hp⟩, for_tup (xs := [.str (SX.S l)]) (fun i σ H1 => H1 = H ∧ ∃ x, σ = [some (.ref c), some (.ref p), x]) ⟨rfl, _, rfl⟩ (fun i σ H1 _ h => by rw [h.1]; exact SqT.of hp) (fun i v σ H1 hv ⟨eH, x, eσ⟩ => ?_) fun σ H1 ⟨eH, x, eσ⟩ => ?_⟩
    · subst eH eσ
      obtain ⟨bdx, rd, md, pd, es, B, hb⟩ := BO
      have i0 : i = 0 := by
        have := (List.getElem?_eq_some_iff.mp hv).1
        have h1 : i < 1 := this
        omega
      subst i0
      obtain rfl : v = .str (SX.S l) := (Option.some.inj hv).symm
      refine ⟨_, rfl, _, rfl, c, _, dx, _, _, rfl, hc, T.c_Console, T.na_Console_book, rfl, b, bdx, _, rfl, B.o, b, l, bs, n, rfl, ⟨bdx, rd, md, pd, es, B, hb⟩, _, rfl, _, rfl, ?_⟩
      rw [hf]
      exact iteF ⟨rfl, _, rfl⟩
    · subst eH eσ
      refine ⟨_, rfl, p, rfl, ⟨_, SqT.of hp⟩, fun D nD => lc_it (walk_tup (xs := [.str (SX.S l)])) (fun i H2 => Same H1 H2 ∧ ((i = 0 ∧ H2 D = some (.lst [])) ∨ (i = 1 ∧ ∃ q, H2 D = some (.lst [.ref q]) ∧ RecO K H2 q r))) ⟨same_new nD, .inl ⟨rfl, upd_same⟩⟩ (fun i H2 _ hq => SqT.of (hq.1 _ _ hp)) (fun i v H2 H3 hi ⟨e, hD⟩ ⟨e3, hv⟩ => ?_) fun H2 ⟨e, hD⟩ => ?_⟩
      · subst e3
        have i0 : i = 0 := by
          have h1 : i < 1 := hi
          omega
        subst i0
        obtain rfl : v = .str (SX.S l) := (Option.some.inj hv).symm
        rcases hD with ⟨_, hD⟩ | ⟨z, _⟩
        · have BO2 := hbf e
          obtain ⟨bdx, rd, md, pd, es, B, hb⟩ := BO2
          obtain ⟨bdx0, rd0, md0, pd0, es0, B0, hb0⟩ := BO
          refine ⟨rfl, ⟨_, rfl, c, _, dx, _, _, rfl, e _ _ hc, T.c_Console, T.na_Console_book, rfl, _, rfl, b, bdx, _, rfl, B.o, b, l, bs, n, m, r, rfl, ⟨bdx, rd, md, pd, es, B, hb⟩, hf, fun q hq => ⟨[], hD, by decide, same_put e nD, .inr ⟨rfl, q, upd_same, recLst hq hD sab_put⟩⟩⟩⟩
        · cases z
      · rcases hD with ⟨z, _⟩ | ⟨_, q, hD, hq⟩
        · cases z
        · exact hQ D q H2 e hD hq
  · exact absurd rfl z
end
end Gz
set_option maxHeartbeats 4000000
namespace Gz
open PySem PySem.Spec PyProof.Rows L2
section
variable {P : Program} {w : World} {K : PySem.W.Frag} {mg : Str → Option Value} {base : Heap}
theorem iteTeq {b : Bool} {A B : Prop} (h : b = true) (a : A) : if b = true then A else B := by
  rw [if_pos h]
  exact a
theorem iteFeq {b : Bool} {A B : Prop} (h : b = false) (x : B) : if b = true then A else B := by
  rw [if_neg (by rw [h]; exact Bool.false_ne_true)]
  exact x
def wNumber : List Nat := [110, 117, 109, 98, 101, 114]
def wShortest : List Nat := [115, 104, 111, 114, 116, 101, 115, 116]
def wPairs : List Nat := [112, 97, 105, 114, 115]
def wSure : List Nat := [115, 117, 114, 101]
def wSees : List Nat := [115, 101, 101, 115]
def wEq : List Nat := [61]
/-- what the lines tell -/
def shortS (r : Rec) : List Nat := match r.Ls with
  | [] => noneS
  | L :: _ => lst (r.wds L) ++ ([32, 97, 116, 32] ++ iS r.p)
def sureT (r : Rec) (t : Int) : List Nat := if r.Ls = [] then noneS else r.sureL t
theorem none_S : (Str.ofString "none" : Str) = SX.S noneS := rfl
theorem short_eq (l : List Nat) (p : Int) : ((Str.empty ++ SX.S l) ++ Str.ofString " at ") ++ Str.ofString (toString p) = SX.S (l ++ ([32, 97, 116, 32] ++ iS p)) := by
  rw [iS_eq, show Str.empty = SX.S [] from rfl, show Str.ofString " at " = SX.S [32, 97, 116, 32] from rfl, SX.S_cat, SX.S_cat, SX.S_cat, List.nil_append, List.append_assoc]
theorem prodL_bd : ∀ l : List (List Nat), (∀ w ∈ l, w.length ≤ 27) → ∃ n : Nat, prodL l = (n : Int) ∧ n ≤ 27 ^ l.length := by
  have go : ∀ (l : List (List Nat)) (a : Nat), (∀ w ∈ l, w.length ≤ 27) → ∃ n : Nat, l.foldl (fun a w => a * (w.length : Int)) (a : Int) = (n : Int) ∧ n ≤ a * 27 ^ l.length := by
    intro l
    induction l with
    | nil => exact fun a _ => ⟨a, rfl, by simp⟩
    | cons w l ih =>
      intro a h
      obtain ⟨n, h1, h2⟩ := ih (a * w.length) fun x hx => h x (List.mem_cons_of_mem _ hx)
      refine ⟨n, ?_, ?_⟩
      · rw [List.foldl_cons, ← h1]
        congr 1
      · rw [List.length_cons, Nat.pow_succ]
        have := h w List.mem_cons_self
        calc n ≤ a * w.length * 27 ^ l.length := h2
          _ ≤ a * 27 * 27 ^ l.length := Nat.mul_le_mul_right _ (Nat.mul_le_mul_left _ this)
          _ = a * (27 ^ l.length * 27) := by rw [Nat.mul_assoc, Nat.mul_comm 27]
  intro l h
  obtain ⟨n, h1, h2⟩ := go l 1 h
  exact ⟨n, h1, by rw [Nat.one_mul] at h2; exact h2⟩
theorem total_bd {r : Rec} (ok : r.Ok) : r.total.natAbs < 10 ^ 100 := by
  have go : ∀ (ls : List Nat) (a : Nat), (∀ L ∈ ls, L ≤ 40) → ∃ n : Nat, ls.foldl (fun a L => a + prodL (r.wds L)) (a : Int) = (n : Int) ∧ n ≤ a + ls.length * 27 ^ 40 := by
    intro ls
    induction ls with
    | nil => exact fun a _ => ⟨a, rfl, by simp⟩
    | cons L ls ih =>
      intro a h
      obtain ⟨k, hk, hk2⟩ := prodL_bd (r.wds L) fun w hw => by
        obtain ⟨n, _, rfl⟩ := List.mem_map.mp hw
        exact F_len ok L _
      have hk3 : k ≤ 27 ^ 40 := by
        refine Nat.le_trans hk2 (Nat.pow_le_pow_right (by decide) ?_)
        have : (r.wds L).length = L := wds_len L r.p _
        rw [this]
        exact h L List.mem_cons_self
      obtain ⟨n, h1, h2⟩ := ih (a + k) fun x hx => h x (List.mem_cons_of_mem _ hx)
      refine ⟨n, ?_, ?_⟩
      · rw [List.foldl_cons, ← h1, hk]
        congr 1
      · rw [List.length_cons, Nat.succ_mul]
        omega
  obtain ⟨n, h1, h2⟩ := go r.Ls 0 fun L hL => (mem_Ls ok hL).2.1
  have e : r.total = (n : Int) := h1
  rw [e]
  have h3 := Ls_len ok
  have h4 : r.Ls.length * 27 ^ 40 ≤ 40 * 27 ^ 40 := Nat.mul_le_mul_right _ h3
  have h5 : 40 * 27 ^ 40 < 10 ^ 100 := by decide
  show n < _
  omega
theorem PrsT_L {r : Rec} (ok : r.Ok) : ∀ L ∈ r.Ls, L ≤ 40 := fun L hL => (mem_Ls ok hL).2.1
abbrev N_Console_about_one : List Str := ["self", "name", "word", "record", "sign"]
def sp_Console_about_one (K : PySem.W.Frag) : Sp := fun vs H Q _ => ∃ (c b : Addr) (l : List Nat) (bs : List (List Nat × Rec)) (n : Nat) (m : List Nat) (r : Rec) (wd : List Nat), vs = [.ref c, .str (SX.S l), .str (SX.S wd)] ∧ ConsO K H c b ∧ BookO K H b bs n ∧ findB bs l = some (m, r) ∧ r.Ok ∧ ((wd = wNumber ∧ ∀ H1, Same H H1 → Q (.str (SX.S (iS r.total))) H1) ∨ (wd = wShortest ∧ ∀ H1, Same H H1 → Q (.str (SX.S (shortS r))) H1) ∨ (wd = wPairs ∧ ∀ H1, Same H H1 → Q (.str (SX.S (prTxt r.p r.Ls))) H1))
theorem mt_Console_about_one (T : Tx K mg base) : Mt P w K mg base 9 (He.ga K "Console") "about_one" (sp_Console_about_one K) := by
  obtain ⟨fd, F0⟩ := T.D_Console_about_one
  have F : FunD K "about_one" "Console.about_one" (defArgs s_Console_about_one) (defBody s_Console_about_one) (defScope s_Console_about_one) [] [] (He.ma K (He.ga K "Console") "about_one") fd := F0
  refine ⟨⟨_, fd, ["self", "name", "word"], T.c_Console, T.m_Console_about_one, F.ok sc_Console_about_one (fun vs H Q E h => ?_) (fun cdv A outer s H vs Q E hr h => ?_), F.bindsN (fun _ _ _ _ _ _ us hl => match us, hl with | [_, _, _], _ => rfl)⟩⟩
  · obtain ⟨_, _, _, _, _, _, _, _, rfl, _⟩ := h
    rfl
  · refine ⟨_, PSs.nox (pss_cons (ps_if (pt_cmpR (op_notInK (K := K) rfl) (pv 2) (pe_tup (pa_cons pe_str (pa_cons pe_str (pa_cons pe_str (pa_cons pe_str pa_nil))))) rfl) (pss_one (ps_ret pe_non)) pss_nil)
    (pss_cons (ps_set (i := 3) sc_Console_about_one.nd rfl locV (pe_ix (ix_listK (K := K) rfl) (pe_methR (E := C8.E0) (pv 0) T.c_Console T.m_Console_records_of (fn_records_of (P := P) (w := w) T) (hr.mono (by decide)) C8.pass0 (pa_cons (pv 1) pa_nil)) pe_int (fun _ _ => rfl)))
    (pss_cons (ps_if (pt_cmpR op_eq (pv 2) pe_str (nomark _)) pss_never pss_nil)
    (pss_cons (ps_if (pt_cmpR op_eq (pv 2) pe_str (nomark _)) (pss_one (ps_ret (pe_joined1 (pe_fmt (C8.pe_c (cal_number_of T) hr (by decide) (by rfl) (pa_cons (pv 3) pa_nil)))))) pss_nil)
    (pss_cons (ps_if (pt_cmpR op_eq (pv 2) pe_str (nomark _)) (pss_one (ps_ret (C8.pe_c (cal_text_of_pairs T) hr (by decide) (by rfl) (pa_cons (C8.pe_c (cal_pairs T) hr (by decide) (by rfl) (pa_cons (pv 3) pa_nil)) pa_nil)))) pss_nil)
    (pss_cons (ps_set (i := 4) sc_Console_about_one.nd rfl locV (C8.pe_c (cal_shortest T) hr (by decide) (by rfl) (pa_cons (pv 3) pa_nil)))
    (pss_one (ps_ret (pe_ifExp (pt_cmp (pc_isN (pv 4))) pe_str (pe_joined1 (pe_fmtO (mt_Sign_str T) T.fmt T.mroS hr (by decide) (pv 4)))))))))))), ?_⟩
    obtain ⟨c, b, l, bs, n, m, r, wd, rfl, CO, BO, hf, ok, hw⟩ := h
    have hin : inV (.str (SX.S wd)) [.str "fits", .str "number", .str "shortest", .str "pairs"] = true := by
      rcases hw with ⟨rfl, _⟩ | ⟨rfl, _⟩ | ⟨rfl, _⟩ <;> decide +kernel
    have hfits : decide (V.str (SX.S wd) = V.str (Str.ofString "fits")) = false := by
      rcases hw with ⟨rfl, _⟩ | ⟨rfl, _⟩ | ⟨rfl, _⟩ <;> decide +kernel
    refine ⟨_, rfl, lnk, fun u nu => ⟨u, _, rfl, .inr (SqT.of upd_same), rfl, rfl, _, rfl, iteFeq (by rw [hin]; rfl) ?_⟩⟩
    have e0 : Same H (upd H u (.tup [.str "fits", .str "number", .str "shortest", .str "pairs"])) := same_new nu
    obtain ⟨cdx, hc⟩ := CO
    refine ⟨_, rfl, c, _, _, rfl, e0 _ _ hc, rfl, _, rfl, _, [.str (SX.S l)], rfl, by show 1 ≤ 5; decide, fun p np => ?_⟩
    have e1 := e0.trans (same_new (o := .tup [.str (SX.S l)]) np)
    refine ⟨c, b, p, l, bs, n, m, r, rfl, ⟨cdx, e1 _ _ hc⟩, BO.ext e1, upd_same, hf, fun d q H1 e2 hd hq => ⟨_, _, 0, _, rfl, rfl, SqL.of hd, atI_nat (j := 0) rfl, ?_⟩⟩
    have e3 := e1.trans e2
    refine ⟨_, rfl, rfl, _, rfl, iteFeq hfits ?_⟩
    rcases hw with ⟨rfl, hQ⟩ | ⟨rfl, hQ⟩ | ⟨rfl, hQ⟩
    · refine ⟨_, rfl, rfl, _, rfl, iteTeq (by decide +kernel) ⟨_, rfl, q, r, rfl, hq, ok, fun H2 e4 => .inr ⟨_, rfl, log_small ?_, ?_⟩⟩⟩
      · have := total_bd ok
        exact Nat.lt_of_lt_of_le this (by decide)
      · rw [iS_eq]
        exact hQ H2 (e3.trans e4)
    · refine ⟨_, rfl, rfl, _, rfl, iteFeq (by decide +kernel) ⟨_, rfl, rfl, _, rfl, iteFeq (by decide +kernel) ?_⟩⟩
      refine ⟨_, rfl, q, r, rfl, hq, ok, fun h0 H2 e4 => ⟨_, rfl, _, rfl, iteTeq rfl ?_⟩, fun L ls hLs x dx H2 e4 hx => ⟨_, rfl, _, rfl, iteFeq rfl ⟨_, rfl, x, dx, _, rfl, hx, x, dx, lst (r.wds L), r.p, rfl, hx, ?_, ⟨ok.p1, ok.p9⟩, _, rfl, ?_⟩⟩⟩
      · have := hQ H2 (e3.trans e4)
        unfold shortS at this
        rw [h0] at this
        exact this
      · have : (lst (r.wds L)).length = L := by
          unfold lst
          rw [List.length_map]
          exact wds_len L r.p _
        have := (mem_Ls ok (by rw [hLs]; exact List.mem_cons_self)).2.1
        omega
      · rw [short_eq]
        have := hQ H2 (e3.trans e4)
        unfold shortS at this
        rw [hLs] at this
        exact this
    · refine ⟨_, rfl, rfl, _, rfl, iteFeq (by decide +kernel) ⟨_, rfl, rfl, _, rfl, iteTeq (by decide +kernel) ?_⟩⟩
      exact ⟨_, rfl, q, r, rfl, hq, ok, fun cc H2 e4 hcc => ⟨cc, r.p, r.Ls, rfl, hcc, Ls_len ok, PrsT_L ok, ⟨ok.p1, ok.p9⟩, fun H3 e5 => hQ H3 (e3.trans (e4.trans e5))⟩⟩
abbrev N_Console_about_two : List Str := ["self", "name", "word", "item", "time", "window"]
def sp_Console_about_two (K : PySem.W.Frag) : Sp := fun vs H Q _ => ∃ (c b : Addr) (l : List Nat) (bs : List (List Nat × Rec)) (n : Nat) (m : List Nat) (r : Rec) (t : Int), vs = [.ref c, .str (SX.S l), .str (SX.S wSure), .str (SX.S (iS t))] ∧ ConsO K H c b ∧ BookO K H b bs n ∧ findB bs l = some (m, r) ∧ r.Ok ∧ (0 ≤ t ∧ t ≤ 10 ^ 30) ∧ ∀ H1, Same H H1 → Q (.str (SX.S (sureT r t))) H1
theorem mt_Console_about_two (T : Tx K mg base) : Mt P w K mg base 9 (He.ga K "Console") "about_two" (sp_Console_about_two K) := by
  obtain ⟨fd, F0⟩ := T.D_Console_about_two
  have F : FunD K "about_two" "Console.about_two" (defArgs s_Console_about_two) (defBody s_Console_about_two) (defScope s_Console_about_two) [] [] (He.ma K (He.ga K "Console") "about_two") fd := F0
  refine ⟨⟨_, fd, ["self", "name", "word", "item"], T.c_Console, T.m_Console_about_two, F.ok sc_Console_about_two (fun vs H Q E h => ?_) (fun cdv A outer s H vs Q E hr h => ?_), F.bindsN (fun _ _ _ _ _ _ us hl => match us, hl with | [_, _, _, _], _ => rfl)⟩⟩
  · obtain ⟨_, _, _, _, _, _, _, _, rfl, _⟩ := h
    rfl
  · refine ⟨_, PSs.nox (pss_cons (ps_if (pw_and (pt_cmpR (op_inK (K := K) rfl) (pv 2) (pe_glob (v := .ref (He.ga K "PAIRS")) (by rfl) T.g_PAIRS rfl) rfl) (pw_and1 (pt_val (C8.pe_c (cal_is_name T) hr (by decide) (by rfl) (pa_cons (pv 3) pa_nil))))).pt pss_never pss_nil)
    (pss_cons (ps_set (i := 4) sc_Console_about_two.nd rfl locV (pe_ifExp (pt_cmpR op_eq (pv 2) pe_str (nomark _)) (C8.pe_c (cal_integer_in T) hr (by decide) (by rfl) (pa_cons (pv 3) pa_nil)) pe_non))
    (pss_cons (ps_if (pt_not (pt_val (C8.pe_c (cal_is_time T) hr (by decide) (by rfl) (pa_cons (pv 4) pa_nil)))) (pss_one (ps_ret pe_non)) pss_nil)
    (pss_cons (ps_set (i := 5) sc_Console_about_two.nd rfl locV (C8.pe_c (cal_sure T) hr (by decide) (by rfl) (pa_cons (pe_ix (ix_listK (K := K) rfl) (pe_methR (E := C8.E0) (pv 0) T.c_Console T.m_Console_records_of (fn_records_of (P := P) (w := w) T) (hr.mono (by decide)) C8.pass0 (pa_cons (pv 1) pa_nil)) pe_int (fun _ _ => rfl)) (pa_cons (pv 4) pa_nil))))
    (pss_one (ps_ret (pe_ifExp (pt_cmp (pc_isN (pv 5))) pe_str (pv 5)))))))), ?_⟩
    obtain ⟨c, b, l, bs, n, m, r, t, rfl, CO, BO, hf, ok, ht, hQ⟩ := h
    obtain ⟨cdx, hc⟩ := CO
    refine ⟨_, rfl, _, _, rfl, .inr (T.t_PAIRS H), rfl, rfl, _, rfl, iteFeq (by decide +kernel) (iteF ?_)⟩
    refine ⟨_, rfl, rfl, _, rfl, iteTeq (by decide +kernel) ⟨_, rfl, t, rfl, by omega, fun H1 e1 => ?_⟩⟩
    refine ⟨_, rfl, t, rfl, ht.1, ht.2, true, rfl, iteF ?_⟩
    refine ⟨_, rfl, c, _, _, rfl, e1 _ _ hc, rfl, _, rfl, _, [.str (SX.S l)], rfl, by show 1 ≤ 5; decide, fun p np => ?_⟩
    have e2 := e1.trans (same_new (o := .tup [.str (SX.S l)]) np)
    refine ⟨c, b, p, l, bs, n, m, r, rfl, ⟨cdx, e2 _ _ hc⟩, BO.ext e2, upd_same, hf, fun d q H2 e3 hd hq => ⟨_, _, 0, _, rfl, rfl, SqL.of hd, atI_nat (j := 0) rfl, ?_⟩⟩
    refine ⟨_, rfl, q, r, t, rfl, hq, ok, ht, fun h0 H3 e4 => ⟨_, rfl, _, rfl, iteTeq rfl ?_⟩, fun h0 H3 e4 => ⟨_, rfl, _, rfl, iteFeq rfl ⟨_, rfl, ?_⟩⟩⟩
    · have := hQ H3 (e2.trans (e3.trans e4))
      unfold sureT at this
      rw [if_pos h0] at this
      exact this
    · have := hQ H3 (e2.trans (e3.trans e4))
      unfold sureT at this
      rw [if_neg h0] at this
      exact this
abbrev N_Console_about_window : List Str := ["self", "name", "word", "item", "window", "time"]
def sp_Console_about_window (K : PySem.W.Frag) : Sp := fun vs H Q _ => ∃ (c b : Addr) (l : List Nat) (bs : List (List Nat × Rec)) (n : Nat) (m : List Nat) (r : Rec) (t : Int) (wn : List Nat), vs = [.ref c, .str (SX.S l), .str (SX.S wSees), .str (SX.S (iS t)), .str (SX.S wn)] ∧ ConsO K H c b ∧ BookO K H b bs n ∧ findB bs l = some (m, r) ∧ r.Ok ∧ (1 ≤ l.length ∧ l.length ≤ 8 ∧ ∀ ch ∈ l, ch ∈ sml) ∧ (0 ≤ t ∧ t ≤ 10 ^ 30) ∧ wn.length = r.W ∧ RdOk wn ∧ r.gl.length < 12 ∧ n ≤ 1000 ∧ bs.length ≤ 50 ∧ ∀ H1, Sab b H H1 → BookO K H1 b (putB bs l (gl1 r t wn)) (n + 1) → Q (.str (SX.S (iS ((gl1 r t wn).Ls.length : Nat)))) H1
theorem mt_Console_about_window (T : Tx K mg base) : Mt P w K mg base 11 (He.ga K "Console") "about_window" (sp_Console_about_window K) := by
  obtain ⟨fd, F0⟩ := T.D_Console_about_window
  have F : FunD K "about_window" "Console.about_window" (defArgs s_Console_about_window) (defBody s_Console_about_window) (defScope s_Console_about_window) [] [] (He.ma K (He.ga K "Console") "about_window") fd := F0
  refine ⟨⟨_, fd, ["self", "name", "word", "item", "window"], T.c_Console, T.m_Console_about_window, F.ok sc_Console_about_window (fun vs H Q E h => ?_) (fun cdv A outer s H vs Q E hr h => ?_), F.bindsN (fun _ _ _ _ _ _ us hl => match us, hl with | [_, _, _, _, _], _ => rfl)⟩⟩
  · obtain ⟨_, _, _, _, _, _, _, _, _, rfl, _⟩ := h
    rfl
  · refine ⟨_, PSs.nox (pss_cons (ps_set (i := 5) sc_Console_about_window.nd rfl locV (C8.pe_c (cal_integer_in T) hr (by decide) (by rfl) (pa_cons (pv 3) pa_nil)))
    (pss_cons (ps_if (pw_or (pt_not (pt_val (C8.pe_c (cal_is_time T) hr (by decide) (by rfl) (pa_cons (pv 5) pa_nil)))) (pw_or (pt_not (pt_val (C8.pe_c (cal_is_any_reading T) hr (by decide) (by rfl) (pa_cons (pv 4) pa_nil)))) (pw_or1 (pt_cmpR (op_notInK (K := K) rfl) (pv 2) (pe_op (op_catK (K := K) rfl) (pe_tup (pa_cons pe_str pa_nil)) (pe_glob (v := .ref (He.ga K "READ")) (by rfl) T.g_READ rfl)) rfl)))).pt (pss_one (ps_ret pe_non)) pss_nil)
    (pss_cons (ps_expr (pe_methR (E := C8.E0) (pv 0) T.c_Console T.m_Console_records_of (fn_records_of (P := P) (w := w) T) (hr.mono (by decide)) C8.pass0 (pa_cons (pv 1) pa_nil)))
    (pss_one (ps_ret (pe_ifExp (pt_cmpR op_eq (pv 2) pe_str (nomark _)) (pe_joined1 (pe_fmt (C8.pe_mt (mt_Book_see T).met hr (by decide) (pe_fldK (K := K) rfl (pv 0) rfl) (pa_cons (pv 1) (pa_cons (pv 5) (pa_cons (pv 4) pa_nil)))))) pe_never)))))), ?_⟩
    obtain ⟨c, b, l, bs, n, m, r, t, wn, rfl, CO, BO, hf, ok, hl, ht, hw, hrd, h12, hn, hbl, hQ⟩ := h
    obtain ⟨cdx, hc⟩ := CO
    have w1 := ok.w1
    have w8 := ok.w8
    refine ⟨_, rfl, t, rfl, by omega, fun H1 e1 => ?_⟩
    refine ⟨_, rfl, t, rfl, ht.1, ht.2, true, rfl, iteF ⟨_, rfl, wn, rfl, by omega, by omega, hrd, fun H2 e2 => ⟨true, rfl, iteF ?_⟩⟩⟩
    refine ⟨_, rfl, lnk, fun u nu => ⟨_, _, _, _, rfl, rfl, SqT.of upd_same, T.t_READ _, by show 1 + 2 ≤ sizeLine; decide, fun z => absurd z (by intro y; cases y), fun _ z => absurd z (by intro y; cases y), fun _ _ p np => ⟨_, _, rfl, .inr (SqT.of upd_same), rfl, rfl, _, rfl, iteFeq (by decide +kernel) ?_⟩⟩⟩
    have e3 : Same H (upd (upd H2 u (.tup [.str "sees"])) p (.tup ([.str "sees"] ++ [.str "can", .str "must"]))) := (e1.trans e2).trans ((same_new nu).trans (same_new np))
    refine ⟨_, rfl, c, _, _, rfl, e3 _ _ hc, rfl, _, rfl, _, [.str (SX.S l)], rfl, by show 1 ≤ 5; decide, fun p2 np2 => ?_⟩
    have e4 := e3.trans (same_new (o := .tup [.str (SX.S l)]) np2)
    refine ⟨c, b, p2, l, bs, n, m, r, rfl, ⟨cdx, e4 _ _ hc⟩, BO.ext e4, upd_same, hf, fun d q H3 e5 hd hq => ?_⟩
    have e6 := e4.trans e5
    have BO3 := BO.ext e6
    have BO4 := BO3
    obtain ⟨bdx, rd, md, pd, es, B, hb⟩ := BO3
    refine ⟨_, rfl, rfl, _, rfl, iteTeq (by decide +kernel) ⟨_, rfl, _, _, _, _, _, rfl, e6 _ _ hc, T.c_Console, T.na_Console_book, rfl, b, bdx, _, rfl, B.o, rfl, _, rfl, _, rfl, _, rfl, b, l, t, wn, bs, n, m, r, rfl, BO4, hf, hl.1, hl.2.1, hl.2.2, ok, ht, hw, hrd, h12, hn, hbl, fun H4 e7 BO5 => .inr ⟨_, rfl, log_small ?_, ?_⟩⟩⟩
    · have ok2 := gl1_ok ok h12 ht hw hrd
      have := Ls_len ok2
      have h1 : (((gl1 r t wn).Ls.length : Nat) : Int).natAbs = (gl1 r t wn).Ls.length := rfl
      rw [h1]
      exact Nat.lt_of_le_of_lt this (by decide)
    · rw [iS_eq]
      exact hQ H4 (Sab.trans (Sab.of e6) e7) BO5
end
end Gz
set_option maxHeartbeats 4000000
namespace Gz
open PySem PySem.Spec PyProof.Rows L2
section
variable {P : Program} {w : World} {K : PySem.W.Frag} {mg : Str → Option Value} {base : Heap}
theorem BookO.extN {H H' : Hp} {a : Addr} {bs : List (List Nat × Rec)} {n : Nat} (e : LamX.ExtN H H') (h : BookO K H a bs n) : BookO K H' a bs n := by
  obtain ⟨dx, rd, md, pd, es, B, q⟩ := h
  obtain ⟨pv, h1, h2⟩ := B.p
  have eT : SameT H H' := fun b xs hb => e b _ hb (fun qs z => by cases z)
  refine ⟨dx, rd, md, pd, es, ⟨e _ _ B.o (fun qs z => by cases z), e _ _ B.r (fun qs z => by cases z), B.m.ext eT, ⟨pv, eT _ _ h1, h2⟩, fun x hx => ?_, B.z⟩, q⟩
  obtain ⟨rdx, t, d, ps, gs, gl, R⟩ := B.e x hx
  exact ⟨rdx, t, d, ps, gs, gl, e _ _ R.o (fun qs z => by cases z), e _ _ R.x (fun qs z => by cases z), eT _ _ R.t, R.p.ext eT⟩
theorem tabsSab {H H' : Hp} {a C dx : Addr} {fs : List (Str × V)} {T : List (Addr × Str)} (t : LamX.Tabs T H) (ha : H a = some (.ins C dx fs)) (e : Sab a H H') : LamX.Tabs T H' := fun p hp => by
  obtain ⟨qs, h1, h2, h3⟩ := t p hp
  refine ⟨qs, e _ _ (ne_of h1 ha (by intro z; cases z)) h1, h2, fun pos cv hcv => ?_⟩
  obtain ⟨c, hc1, hc2⟩ := h3 pos cv hcv
  exact ⟨c, hc1, e _ _ (ne_of hc2 ha (by intro z; cases z)) hc2⟩
/-- what a line that sets a name tells -/
def rA : List Nat := [82, 101, 99, 111, 114, 100, 32, 111, 102, 32]
def rB : List Nat := [32, 112, 108, 97, 99, 101, 115, 44, 32, 48, 32, 103, 108, 97, 110, 99, 101, 115]
def reprS (r : Rec) : List Nat := rA ++ (iS (r.W : Int) ++ rB)
theorem repr_eq {r : Rec} (h : r.gl = []) : ((((Str.empty ++ Str.ofString "Record of ") ++ Str.ofString (toString (r.W : Int))) ++ Str.ofString " places, ") ++ Str.ofString (toString (r.gl.length : Int))) ++ Str.ofString " glances" = SX.S (reprS r) := by
  rw [h]
  have e0 : (Str.ofString (toString (([] : List (Int × List Nat)).length : Int)) : Str) = SX.S [48] := rfl
  rw [e0, iS_eq, show Str.empty = SX.S [] from rfl, show Str.ofString "Record of " = SX.S rA from rfl, show Str.ofString " places, " = SX.S [32, 112, 108, 97, 99, 101, 115, 44, 32] from rfl, show Str.ofString " glances" = SX.S [32, 103, 108, 97, 110, 99, 101, 115] from rfl]
  rw [SX.S_cat, SX.S_cat, SX.S_cat, SX.S_cat, SX.S_cat]
  unfold reprS
  simp only [List.nil_append, List.append_assoc]
  rfl
/-- all but the book and the tables stays -/
def SabT (b : Addr) (H H' : Hp) : Prop := ∀ a o, a ≠ b → H a = some o → (∀ qs, o ≠ .tbl qs) → H' a = some o
abbrev N_Console_after_equals : List Str := ["self", "name", "words", "record"]
def sp_Console_after_equals (K : PySem.W.Frag) : Sp := fun vs H Q _ => ∃ (c b ws : Addr) (l : List Nat) (bs : List (List Nat × Rec)) (n : Nat) (r : Rec), vs = [.ref c, .str (SX.S l), .ref ws] ∧ H ws = some (.lst (txs ([(r.W : Int), (r.lo : Int), (r.hi : Int), r.p].map iS))) ∧ ConsO K H c b ∧ BookO K H b bs n ∧ (1 ≤ l.length ∧ l.length ≤ 8 ∧ ∀ ch ∈ l, ch ∈ sml) ∧ r.Ok ∧ r.gl = [] ∧ LamX.Tabs (TB K) H ∧ n ≤ 1000 ∧ bs.length ≤ 50 ∧ ∀ H1, SabT b H H1 → LamX.Tabs (TB K) H1 → BookO K H1 b (putB bs l r) (n + 1) → Q (.str (SX.S (reprS r))) H1
theorem mt_Console_after_equals (T : Tx K mg base) : Mt P w K mg base 10 (He.ga K "Console") "after_equals" (sp_Console_after_equals K) := by
  obtain ⟨fd, F0⟩ := T.D_Console_after_equals
  have F : FunD K "after_equals" "Console.after_equals" (defArgs s_Console_after_equals) (defBody s_Console_after_equals) (defScope s_Console_after_equals) [] [] (He.ma K (He.ga K "Console") "after_equals") fd := F0
  refine ⟨⟨_, fd, ["self", "name", "words"], T.c_Console, T.m_Console_after_equals, F.ok sc_Console_after_equals (fun vs H Q E h => ?_) (fun cdv A outer s H vs Q E hr h => ?_), F.bindsN (fun _ _ _ _ _ _ us hl => match us, hl with | [_, _, _], _ => rfl)⟩⟩
  · obtain ⟨_, _, _, _, _, _, _, rfl, _⟩ := h
    rfl
  · refine ⟨_, PSs.nox (pss_cons (ps_set (i := 3) sc_Console_after_equals.nd rfl locV (pe_ifExp (pt_cmpR op_eq (pe_callB (call_lenK (K := K) rfl) (by rfl) T.f_len bt_len (pa_cons (pv 2) pa_nil)) pe_int (nomark _)) (C8.pe_c (cal_record_in T) hr (by decide) (by rfl) (pa_cons (pv 2) pa_nil)) pe_non))
    (pss_cons (ps_if (pt_cmp (pc_isN (pv 3))) (pss_one (ps_ret pe_non)) pss_nil)
    (pss_cons (ps_asg (pv 3) (pg_sub (pe_fldK (K := K) rfl (pv 0) rfl) (pv 1) (set_O (mt_Book_setitem T) T.noSeq hr (by decide))))
    (pss_one (ps_ret (pe_callB (call_reprO (mt_Record_repr T) hr (by decide)) (by rfl) T.f_repr bt_repr (pa_cons (pv 3) pa_nil))))))), ?_⟩
    obtain ⟨c, b, ws, l, bs, n, r, rfl, hws, CO, BO, hl, ok, hgl, hT, hn, hbl, hQ⟩ := h
    obtain ⟨cdx, hc⟩ := CO
    refine ⟨_, rfl, _, _, rfl, .inl (SqL.of hws), rfl, _, rfl, iteD rfl ⟨_, rfl, ws, r, rfl, hws, ok, hgl, hT, fun q H1 e1 t1 hq => ?_⟩⟩
    have hc1 := e1 _ _ hc (fun qs z => by cases z)
    have BO1 := BO.extN e1
    have BO2 := BO1
    obtain ⟨bdx, rd, md, pd, es, B, hb⟩ := BO2
    refine ⟨_, rfl, _, rfl, iteFeq rfl ?_⟩
    refine ⟨_, rfl, _, rfl, _, _, _, _, _, rfl, hc1, T.c_Console, T.na_Console_book, rfl, _, rfl, b, bdx, _, rfl, B.o, b, l, q, r, bs, n, rfl, BO1, hl.1, hl.2.1, hl.2.2, hq, hn, hbl, fun H2 e2 BO3 => ?_⟩
    have RO2 := recSab hq B.o e2
    have RO3 := RO2
    obtain ⟨rdx, t, d, ps, gs, gl, R⟩ := RO3
    refine ⟨_, rfl, q, rdx, _, rfl, R.o, q, r, rfl, RO2, ok, _, rfl, ?_⟩
    rw [repr_eq hgl]
    exact hQ H2 (fun a o na ha no => e2 a o na (e1 a o ha no)) (tabsSab t1 B.o e2) BO3
/-! ### a line's words -/
theorem dp_txs {H : Hp} : ∀ l : List (List Nat), DpAll K H (txs l) (l.map fun x => PyData.str (SX.S x))
  | [] => .nil
  | x :: l => .cons (.str _) (dp_txs l)
def LtOk (l : List Nat) : Prop := ∀ c ∈ l, c < 128
theorem strOk_S {l : List Nat} (h : LtOk l) : PyData.strOk (SX.S l) = true := by
  show (SX.S l).cps.all (· < 0x110000) = true
  rw [← Array.all_toList]
  exact List.all_eq_true.mpr fun c hc => decide_eq_true (by have := h c hc; omega)
theorem lay_txs : ∀ {l : List (List Nat)}, (∀ x ∈ l, LtOk x) → PyData.canLayAll0 (l.map fun x => PyData.str (SX.S x)) = true
  | [], _ => rfl
  | x :: l, h => by
    have h1 := strOk_S (h x List.mem_cons_self)
    have h2 := lay_txs (l := l) fun y hy => h y (List.mem_cons_of_mem _ hy)
    show (PyData.strOk (SX.S x) && PyData.canLayAll0 (l.map fun x => PyData.str (SX.S x))) = true
    rw [h1, h2]
    rfl
theorem dep_txs : ∀ l : List (List Nat), PyData.depthAll (l.map fun x => PyData.str (SX.S x)) = 0
  | [] => rfl
  | x :: l => by
    show max 0 (PyData.depthAll (l.map fun x => PyData.str (SX.S x))) = 0
    rw [dep_txs l]
    rfl
theorem shp_txs {l : List (List Nat)} (h : ∀ x ∈ l, LtOk x) : SeqAt.shaped (.list (l.map fun x => PyData.str (SX.S x))) = true := by
  unfold SeqAt.shaped
  rw [Bool.and_eq_true]
  refine ⟨lay_txs h, decide_eq_true ?_⟩
  show PyData.depthAll _ + 1 ≤ 64
  rw [dep_txs]
  decide
theorem ltOk_iS (i : Int) : LtOk (iS i) := fun c hc => by
  rcases iS_cases i with ⟨e, _⟩ | e
  · rw [e] at hc
    have := numL_dig _ c hc
    omega
  · rw [e] at hc
    rcases List.mem_cons.mp hc with z | z
    · omega
    · have := numL_dig _ c z
      omega
theorem sml_lt : ∀ c ∈ sml, 97 ≤ c ∧ c ≤ 122 := by decide
theorem al_lt : ∀ c ∈ al, 45 ≤ c ∧ c ≤ 122 := by decide
theorem ltOk_sml {l : List Nat} (h : ∀ c ∈ l, c ∈ sml) : LtOk l := fun c hc => by have := sml_lt c (h c hc); omega
theorem ltOk_rd {l : List Nat} (h : RdOk l) : LtOk l := fun c hc => by
  rcases h c hc with e | e
  · omega
  · have := al_lt c e; omega
def wDrop : List Nat := [100, 114, 111, 112]
/-- what a line asks of the console's book, and what is wanted -/
def AnsP (K : PySem.W.Frag) (c b : Addr) (parts : List (List Nat)) (H : Hp) (Q : VK) : Prop := ∃ (l : List Nat) (bs : List (List Nat × Rec)) (n : Nat), ConsO K H c b ∧ BookO K H b bs n ∧ (1 ≤ l.length ∧ l.length ≤ 8 ∧ ∀ ch ∈ l, ch ∈ sml) ∧ l ≠ wDrop ∧ n ≤ 1000 ∧ bs.length ≤ 50 ∧
  ((∃ m r, findB bs l = some (m, r) ∧ r.Ok ∧
      ((parts = [l, wNumber] ∧ ∀ H1, Same H H1 → Q (.str (SX.S (iS r.total))) H1) ∨ (parts = [l, wShortest] ∧ ∀ H1, Same H H1 → Q (.str (SX.S (shortS r))) H1) ∨ (parts = [l, wPairs] ∧ ∀ H1, Same H H1 → Q (.str (SX.S (prTxt r.p r.Ls))) H1) ∨
      (∃ t : Int, parts = [l, wSure, iS t] ∧ (0 ≤ t ∧ t ≤ 10 ^ 30) ∧ ∀ H1, Same H H1 → Q (.str (SX.S (sureT r t))) H1) ∨
      (∃ (t : Int) (wn : List Nat), parts = [l, wSees, iS t, wn] ∧ (0 ≤ t ∧ t ≤ 10 ^ 30) ∧ wn.length = r.W ∧ RdOk wn ∧ r.gl.length < 12 ∧ ∀ H1, Sab b H H1 → BookO K H1 b (putB bs l (gl1 r t wn)) (n + 1) → Q (.str (SX.S (iS ((gl1 r t wn).Ls.length : Nat)))) H1))) ∨
    (∃ r : Rec, parts = [l, wEq, iS (r.W : Int), iS (r.lo : Int), iS (r.hi : Int), iS r.p] ∧ r.Ok ∧ r.gl = [] ∧ LamX.Tabs (TB K) H ∧ ∀ H1, SabT b H H1 → LamX.Tabs (TB K) H1 → BookO K H1 b (putB bs l r) (n + 1) → Q (.str (SX.S (reprS r))) H1))
/-- two words at least, the name ahead -/
theorem AnsP.two {c b : Addr} {parts : List (List Nat)} {H : Hp} {Q : VK} (h : AnsP K c b parts H Q) : ∃ l k rest, parts = l :: k :: rest ∧ (1 ≤ l.length ∧ l.length ≤ 8 ∧ ∀ ch ∈ l, ch ∈ sml) ∧ l ≠ wDrop ∧ (∀ x ∈ parts, LtOk x) ∧ rest.length ≤ 4 := by
  obtain ⟨l, bs, n, _, _, hl, hd, _, _, h⟩ := h
  have w1 : LtOk wNumber := by unfold LtOk; decide
  have w2 : LtOk wShortest := by unfold LtOk; decide
  have w3 : LtOk wPairs := by unfold LtOk; decide
  have w4 : LtOk wSure := by unfold LtOk; decide
  have w5 : LtOk wSees := by unfold LtOk; decide
  have w6 : LtOk wEq := by unfold LtOk; decide
  have hl2 := ltOk_sml hl.2.2
  rcases h with ⟨m, r, _, _, h⟩ | ⟨r, e, _⟩
  · rcases h with ⟨e, _⟩ | ⟨e, _⟩ | ⟨e, _⟩ | ⟨t, e, _⟩ | ⟨t, wn, e, _, _, hw, _⟩
    · exact ⟨l, _, [], e, hl, hd, by rw [e]; simp [hl2, w1], by decide⟩
    · exact ⟨l, _, [], e, hl, hd, by rw [e]; simp [hl2, w2], by decide⟩
    · exact ⟨l, _, [], e, hl, hd, by rw [e]; simp [hl2, w3], by decide⟩
    · exact ⟨l, _, [_], e, hl, hd, by rw [e]; simp [hl2, w4, ltOk_iS], by show 1 ≤ 4; decide⟩
    · exact ⟨l, _, [_, _], e, hl, hd, by rw [e]; simp [hl2, w5, ltOk_iS, ltOk_rd hw], by show 2 ≤ 4; decide⟩
  · exact ⟨l, _, [_, _, _, _], e, hl, hd, by rw [e]; simp [hl2, w6, ltOk_iS], by show 4 ≤ 4; decide⟩
abbrev N_Console_answer : List Str := ["self", "words"]
def sp_Console_answer (K : PySem.W.Frag) : Sp := fun vs H Q _ => ∃ (c b ws : Addr) (parts : List (List Nat)), vs = [.ref c, .ref ws] ∧ H ws = some (.lst (txs parts)) ∧ AnsP K c b parts H Q
theorem mt_Console_answer (T : Tx K mg base) : Mt P w K mg base 12 (He.ga K "Console") "answer" (sp_Console_answer K) := by
  obtain ⟨fd, F0⟩ := T.D_Console_answer
  have F : FunD K "answer" "Console.answer" (defArgs s_Console_answer) (defBody s_Console_answer) (defScope s_Console_answer) [] [] (He.ma K (He.ga K "Console") "answer") fd := F0
  refine ⟨⟨_, fd, ["self", "words"], T.c_Console, T.m_Console_answer, F.ok sc_Console_answer (fun vs H Q E h => ?_) (fun cdv A outer s H vs Q E hr h => ?_), F.bindsN (fun _ _ _ _ _ _ us hl => match us, hl with | [_, _], _ => rfl)⟩⟩
  · obtain ⟨_, _, _, _, rfl, _⟩ := h
    rfl
  · refine ⟨_, PSs.nox (pss_cons (ps_if (pt_cmpR (op_eqK (K := K) rfl (u64 hr)) (pv 1) (pe_lst (pa_cons pe_str pa_nil)) (nomark _)) pss_never pss_nil)
    (C8.pss_cut (ps_if (pw_and (pt_cmpR op_eq (pe_callB (call_lenK (K := K) rfl) (by rfl) T.f_len bt_len (pa_cons (pv 1) pa_nil)) pe_int (nomark _)) (pw_and (pt_cmpR op_eq (pe_ix (ix_listK (K := K) rfl) (pv 1) pe_int (fun _ _ => rfl)) pe_str (nomark _)) (pw_and1 (pt_val (C8.pe_c (cal_is_name T) hr (by decide) (by rfl) (pa_cons (pe_ix (ix_listK (K := K) rfl) (pv 1) pe_int (fun _ _ => rfl)) pa_nil)))))).pt pss_never pss_nil)
    (pss_cons (ps_if (pw_or (pt_cmpR op_lt (pe_callB (call_lenK (K := K) rfl) (by rfl) T.f_len bt_len (pa_cons (pv 1) pa_nil)) pe_int (nomark _)) (pw_or1 (pt_not (pt_val (C8.pe_c (cal_is_name T) hr (by decide) (by rfl) (pa_cons (pe_ix (ix_listK (K := K) rfl) (pv 1) pe_int (fun _ _ => rfl)) pa_nil)))))).pt (pss_one (ps_ret pe_non)) pss_nil)
    (pss_cons (ps_if (pt_cmpR op_eq (pe_ix (ix_listK (K := K) rfl) (pv 1) pe_int (fun _ _ => rfl)) pe_str (nomark _)) (pss_one (ps_ret (C8.pe_mt (mt_Console_after_equals T).met hr (by decide) (pv 0) (pa_cons (pe_ix (ix_listK (K := K) rfl) (pv 1) pe_int (fun _ _ => rfl)) (pa_cons (pe_slice (sl_listK (K := K) rfl) (pv 1) (po_some pe_int) po_none) pa_nil))))) pss_nil)
    (pss_cons (ps_if (pt_cmpR op_eq (pe_callB (call_lenK (K := K) rfl) (by rfl) T.f_len bt_len (pa_cons (pv 1) pa_nil)) pe_int (nomark _)) (pss_one (ps_ret (C8.pe_mt (mt_Console_about_one T).met hr (by decide) (pv 0) (pa_cons (pe_ix (ix_listK (K := K) rfl) (pv 1) pe_int (fun _ _ => rfl)) (pa_cons (pe_ix (ix_listK (K := K) rfl) (pv 1) pe_int (fun _ _ => rfl)) pa_nil))))) pss_nil)
    (pss_cons (ps_if (pt_cmpR op_eq (pe_callB (call_lenK (K := K) rfl) (by rfl) T.f_len bt_len (pa_cons (pv 1) pa_nil)) pe_int (nomark _)) (pss_one (ps_ret (C8.pe_mt (mt_Console_about_two T).met hr (by decide) (pv 0) (pa_cons (pe_ix (ix_listK (K := K) rfl) (pv 1) pe_int (fun _ _ => rfl)) (pa_cons (pe_ix (ix_listK (K := K) rfl) (pv 1) pe_int (fun _ _ => rfl)) (pa_cons (pe_ix (ix_listK (K := K) rfl) (pv 1) pe_int (fun _ _ => rfl)) pa_nil)))))) pss_nil)
    (pss_one (ps_ret (pe_ifExp (pt_cmpR op_eq (pe_callB (call_lenK (K := K) rfl) (by rfl) T.f_len bt_len (pa_cons (pv 1) pa_nil)) pe_int (nomark _)) (C8.pe_mt (mt_Console_about_window T).met hr (by decide) (pv 0) (pa_cons (pe_ix (ix_listK (K := K) rfl) (pv 1) pe_int (fun _ _ => rfl)) (pa_cons (pe_ix (ix_listK (K := K) rfl) (pv 1) pe_int (fun _ _ => rfl)) (pa_cons (pe_ix (ix_listK (K := K) rfl) (pv 1) pe_int (fun _ _ => rfl)) (pa_cons (pe_ix (ix_listK (K := K) rfl) (pv 1) pe_int (fun _ _ => rfl)) pa_nil))))) pe_non))))))))), ?_⟩
    obtain ⟨c, b, ws, parts, rfl, hws, hA⟩ := h
    obtain ⟨l0, k0, rest, hp0, hl0, hd0, hlt, hr4⟩ := hA.two
    refine ⟨_, rfl, lnk, fun u nu => ⟨.list (parts.map fun x => PyData.str (SX.S x)), .list [.str "undo"], .lst (SqL.of (same_new nu _ _ hws)) (dp_txs parts), .lst (SqL.of upd_same) (.cons (.str _) .nil), shp_txs hlt, by decide +kernel, _, rfl, iteFeq ?_ ?_⟩⟩
    · rw [hp0]
      show (PyData.eqv _ _ && (PyData.eqvAll (_ :: _) [])) = false
      rw [show PyData.eqvAll (PyData.str (SX.S k0) :: rest.map fun x => PyData.str (SX.S x)) [] = false from rfl, Bool.and_false]
    have e0 : Same H (upd H u (.lst [.str "undo"])) := same_new nu
    have hw0 := e0 _ _ hws
    have hat0 : atI (txs parts) 0 = some (.str (SX.S l0)) := by rw [hp0]; exact atI_nat (j := 0) rfl
    have hat1 : atI (txs parts) 1 = some (.str (SX.S k0)) := by rw [hp0]; exact atI_nat (j := 1) rfl
    have hln : (txs parts).length = rest.length + 2 := by rw [txs_len, hp0]; rfl
    have nodrop : decide (V.str (SX.S l0) = V.str (Str.ofString "drop")) = false := decide_eq_false fun z => hd0 (SX.S_inj (V.str.inj z))
    refine ⟨fun σ' H' => σ' = [some (.ref c), some (.ref ws)] ∧ H' = upd H u (.lst [.str "undo"]), ⟨_, rfl, _, _, rfl, .inl (SqL.of hw0), rfl, _, rfl, ite2D (fun _ => ⟨_, rfl, _, _, 0, _, rfl, rfl, SqL.of hw0, hat0, rfl, _, rfl, iteFeq nodrop (iteF ⟨rfl, rfl⟩)⟩) fun _ => iteF ⟨rfl, rfl⟩⟩, fun σ' H' ⟨eσ, eH⟩ => ?_⟩
    subst eσ eH
    refine ⟨_, rfl, _, _, rfl, .inl (SqL.of hw0), _, _, rfl, rfl, _, rfl, iteDF (by rw [hln]; omega) ⟨_, rfl, _, _, 0, _, rfl, rfl, SqL.of hw0, hat0, l0, rfl, hl0.1, hl0.2.1, hl0.2.2, fun H2 e2 => ⟨true, rfl, iteF ?_⟩⟩⟩
    have e3 := e0.trans e2
    have hw2 := e2 _ _ hw0
    refine ⟨_, rfl, _, _, 1, _, rfl, rfl, SqL.of hw2, hat1, rfl, _, rfl, ?_⟩
    obtain ⟨l, bs, n, CO, BO, hl, hd, hn, hbl, h⟩ := hA
    obtain ⟨cdx, hc⟩ := CO
    have hc2 := e3 _ _ hc
    rcases h with ⟨m, r, hf, ok, h⟩ | ⟨r, e, ok, hgl, hT, hQ⟩
    · rcases h with ⟨e, hQ⟩ | ⟨e, hQ⟩ | ⟨e, hQ⟩ | ⟨t, e, ht, hQ⟩ | ⟨t, wn, e, ht, hwl, hrd, h12, hQ⟩
      · rw [e] at hp0 hw2 hln hat0 hat1
        obtain ⟨rfl, hp1⟩ := List.cons.inj hp0
        obtain ⟨rfl, rfl⟩ := List.cons.inj hp1
        refine iteFeq (by decide +kernel) ⟨_, rfl, _, _, rfl, .inl (SqL.of hw2), rfl, _, rfl, iteD rfl ?_⟩
        exact ⟨_, rfl, c, cdx, _, rfl, hc2, rfl, _, rfl, _, _, 0, _, rfl, rfl, SqL.of hw2, atI_nat (j := 0) rfl, _, rfl, _, _, 1, _, rfl, rfl, SqL.of hw2, atI_nat (j := 1) rfl, c, b, _, bs, n, m, r, wNumber, rfl, ⟨cdx, hc2⟩, BO.ext e3, hf, ok, .inl ⟨rfl, fun H3 e4 => hQ H3 (e3.trans e4)⟩⟩
      · rw [e] at hp0 hw2 hln hat0 hat1
        obtain ⟨rfl, hp1⟩ := List.cons.inj hp0
        obtain ⟨rfl, rfl⟩ := List.cons.inj hp1
        refine iteFeq (by decide +kernel) ⟨_, rfl, _, _, rfl, .inl (SqL.of hw2), rfl, _, rfl, iteD rfl ?_⟩
        exact ⟨_, rfl, c, cdx, _, rfl, hc2, rfl, _, rfl, _, _, 0, _, rfl, rfl, SqL.of hw2, atI_nat (j := 0) rfl, _, rfl, _, _, 1, _, rfl, rfl, SqL.of hw2, atI_nat (j := 1) rfl, c, b, _, bs, n, m, r, wShortest, rfl, ⟨cdx, hc2⟩, BO.ext e3, hf, ok, .inr (.inl ⟨rfl, fun H3 e4 => hQ H3 (e3.trans e4)⟩)⟩
      · rw [e] at hp0 hw2 hln hat0 hat1
        obtain ⟨rfl, hp1⟩ := List.cons.inj hp0
        obtain ⟨rfl, rfl⟩ := List.cons.inj hp1
        refine iteFeq (by decide +kernel) ⟨_, rfl, _, _, rfl, .inl (SqL.of hw2), rfl, _, rfl, iteD rfl ?_⟩
        exact ⟨_, rfl, c, cdx, _, rfl, hc2, rfl, _, rfl, _, _, 0, _, rfl, rfl, SqL.of hw2, atI_nat (j := 0) rfl, _, rfl, _, _, 1, _, rfl, rfl, SqL.of hw2, atI_nat (j := 1) rfl, c, b, _, bs, n, m, r, wPairs, rfl, ⟨cdx, hc2⟩, BO.ext e3, hf, ok, .inr (.inr ⟨rfl, fun H3 e4 => hQ H3 (e3.trans e4)⟩)⟩
      · rw [e] at hp0 hw2 hln hat0 hat1
        obtain ⟨rfl, hp1⟩ := List.cons.inj hp0
        obtain ⟨rfl, rfl⟩ := List.cons.inj hp1
        refine iteFeq (by decide +kernel) ⟨_, rfl, _, _, rfl, .inl (SqL.of hw2), rfl, _, rfl, iteDF (by show ¬ (V.int ((3 : Nat) : Int) = V.int 2); decide) ⟨_, rfl, _, _, rfl, .inl (SqL.of hw2), rfl, _, rfl, iteD rfl ?_⟩⟩
        exact ⟨_, rfl, c, cdx, _, rfl, hc2, rfl, _, rfl, _, _, 0, _, rfl, rfl, SqL.of hw2, atI_nat (j := 0) rfl, _, rfl, _, _, 1, _, rfl, rfl, SqL.of hw2, atI_nat (j := 1) rfl, _, rfl, _, _, 2, _, rfl, rfl, SqL.of hw2, atI_nat (j := 2) rfl, c, b, _, bs, n, m, r, t, rfl, ⟨cdx, hc2⟩, BO.ext e3, hf, ok, ht, fun H3 e4 => hQ H3 (e3.trans e4)⟩
      · rw [e] at hp0 hw2 hln hat0 hat1
        obtain ⟨rfl, hp1⟩ := List.cons.inj hp0
        obtain ⟨rfl, rfl⟩ := List.cons.inj hp1
        refine iteFeq (by decide +kernel) ⟨_, rfl, _, _, rfl, .inl (SqL.of hw2), rfl, _, rfl, iteDF (by show ¬ (V.int ((4 : Nat) : Int) = V.int 2); decide) ⟨_, rfl, _, _, rfl, .inl (SqL.of hw2), rfl, _, rfl, iteDF (by show ¬ (V.int ((4 : Nat) : Int) = V.int 3); decide) ⟨_, rfl, _, _, rfl, .inl (SqL.of hw2), rfl, _, rfl, iteD rfl ?_⟩⟩⟩
        exact ⟨_, rfl, c, cdx, _, rfl, hc2, rfl, _, rfl, _, _, 0, _, rfl, rfl, SqL.of hw2, atI_nat (j := 0) rfl, _, rfl, _, _, 1, _, rfl, rfl, SqL.of hw2, atI_nat (j := 1) rfl, _, rfl, _, _, 2, _, rfl, rfl, SqL.of hw2, atI_nat (j := 2) rfl, _, rfl, _, _, 3, _, rfl, rfl, SqL.of hw2, atI_nat (j := 3) rfl, c, b, _, bs, n, m, r, t, wn, rfl, ⟨cdx, hc2⟩, BO.ext e3, hf, ok, hl, ht, hwl, hrd, h12, hn, hbl, fun H3 e4 => hQ H3 (Sab.trans (Sab.of e3) e4)⟩
    · rw [e] at hp0 hw2 hln hat0 hat1
      obtain ⟨rfl, hp1⟩ := List.cons.inj hp0
      obtain ⟨rfl, rfl⟩ := List.cons.inj hp1
      refine iteTeq (by decide +kernel) ⟨_, rfl, c, cdx, _, rfl, hc2, rfl, _, rfl, _, _, 0, _, rfl, rfl, SqL.of hw2, atI_nat (j := 0) rfl, _, rfl, _, rfl, ws, _, rfl, SqL.of hw2, fun p np => ?_⟩
      have e5 := e3.trans (same_new (o := .lst (cutV (txs [l, wEq, iS (r.W : Int), iS (r.lo : Int), iS (r.hi : Int), iS r.p]) (some 2) none)) np)
      exact ⟨c, b, p, l, bs, n, r, rfl, upd_same, ⟨cdx, e5 _ _ hc⟩, BO.ext e5, hl, ok, hgl, hT.ext e5, hn, hbl, fun H3 e4 t4 B4 => hQ H3 (fun a o na ha no => e4 a o na (e5 _ _ ha) no) t4 B4⟩
end
end Gz
set_option maxHeartbeats 4000000
namespace Gz
open PySem PySem.Spec PyProof.Rows L2
section
variable {P : Program} {w : World} {K : PySem.W.Frag} {mg : Str → Option Value} {base : Heap}
def NoSp (x : List Nat) : Prop := 32 ∉ x ∧ x.length ≤ 40
theorem nosp_iS {i : Int} (h : i.natAbs < 10 ^ 31) : NoSp (iS i) := by
  refine ⟨fun hc => ?_, Nat.le_trans (iS_ln i h) (by decide)⟩
  rcases iS_cases i with ⟨e, _⟩ | e
  · rw [e] at hc
    have := numL_dig _ _ hc
    omega
  · rw [e] at hc
    rcases List.mem_cons.mp hc with z | z
    · omega
    · have := numL_dig _ _ z
      omega
theorem nosp_sml {l : List Nat} (h1 : l.length ≤ 8) (h : ∀ c ∈ l, c ∈ sml) : NoSp l := ⟨fun hc => by have := sml_lt 32 (h 32 hc); omega, by omega⟩
theorem nosp_rd {l : List Nat} (h1 : l.length ≤ 8) (h : RdOk l) : NoSp l := ⟨fun hc => by
  rcases h 32 hc with e | e
  · omega
  · have := al_lt 32 e; omega, by omega⟩
theorem i31 {i : Int} (h1 : -1000 ≤ i) (h2 : i ≤ 10 ^ 30) : i.natAbs < 10 ^ 31 := by omega
theorem AnsP.parts {c b : Addr} {parts : List (List Nat)} {H : Hp} {Q : VK} (h : AnsP K c b parts H Q) : ∀ x ∈ parts, NoSp x := by
  obtain ⟨l, bs, n, _, _, hl, hd, _, _, h⟩ := h
  have w1 : NoSp wNumber := by unfold NoSp; decide
  have w2 : NoSp wShortest := by unfold NoSp; decide
  have w3 : NoSp wPairs := by unfold NoSp; decide
  have w4 : NoSp wSure := by unfold NoSp; decide
  have w5 : NoSp wSees := by unfold NoSp; decide
  have w6 : NoSp wEq := by unfold NoSp; decide
  have hl2 := nosp_sml hl.2.1 hl.2.2
  rcases h with ⟨m, r, _, ok, h⟩ | ⟨r, e, ok, _⟩
  · rcases h with ⟨e, _⟩ | ⟨e, _⟩ | ⟨e, _⟩ | ⟨t, e, ht, _⟩ | ⟨t, wn, e, ht, hwl, hw, _⟩
    · rw [e]; simp [hl2, w1]
    · rw [e]; simp [hl2, w2]
    · rw [e]; simp [hl2, w3]
    · rw [e]; simp [hl2, w4, nosp_iS (i31 (by omega) ht.2)]
    · have := ok.w8
      rw [e]; simp [hl2, w5, nosp_iS (i31 (by omega) ht.2), nosp_rd (by omega) hw]
  · have k1 := ok.w8
    have k2 := ok.h40
    have k3 := ok.lh
    have k4 := ok.p1
    have k5 := ok.p9
    rw [e]
    simp [hl2, w6, nosp_iS (i31 (i := (r.W : Int)) (by omega) (by omega)), nosp_iS (i31 (i := (r.lo : Int)) (by omega) (by omega)), nosp_iS (i31 (i := (r.hi : Int)) (by omega) (by omega)), nosp_iS (i31 (i := r.p) (by omega) (by omega))]
theorem joinL_len {s : Nat} : ∀ {ps : List (List Nat)}, (∀ x ∈ ps, NoSp x) → (TL.joinL [s] ps).length ≤ 41 * ps.length
  | [], _ => Nat.zero_le _
  | [p], h => by
    have := (h p List.mem_cons_self).2
    show p.length ≤ 41 * 1
    omega
  | p :: q :: r, h => by
    have h1 := (h p List.mem_cons_self).2
    have h2 := joinL_len (s := s) (ps := q :: r) fun x hx => h x (List.mem_cons_of_mem _ hx)
    show (p ++ ([s] ++ TL.joinL [s] (q :: r))).length ≤ _
    rw [List.length_append, List.length_append, List.length_cons (a := p)]
    have : ([s] : List Nat).length = 1 := rfl
    omega
theorem AnsP.strs {c b : Addr} {parts : List (List Nat)} {H H' : Hp} {Q Q' : VK} (k : ∀ z H1, Q (.str z) H1 → Q' (.str z) H1) (e : Same H H') (h : AnsP K c b parts H Q) : AnsP K c b parts H' Q' := by
  obtain ⟨l, bs, n, CO, BO, hl, hd, hn, hbl, h⟩ := h
  refine ⟨l, bs, n, CO.ext e, BO.ext e, hl, hd, hn, hbl, ?_⟩
  rcases h with ⟨m, r, hf, ok, h⟩ | ⟨r, e1, ok, hg, hT, hQ⟩
  · refine .inl ⟨m, r, hf, ok, ?_⟩
    rcases h with ⟨e1, hQ⟩ | ⟨e1, hQ⟩ | ⟨e1, hQ⟩ | ⟨t, e1, ht, hQ⟩ | ⟨t, wn, e1, ht, hwl, hw, h12, hQ⟩
    · exact .inl ⟨e1, fun H1 e2 => k _ _ <| hQ H1 (e.trans e2)⟩
    · exact .inr (.inl ⟨e1, fun H1 e2 => k _ _ <| hQ H1 (e.trans e2)⟩)
    · exact .inr (.inr (.inl ⟨e1, fun H1 e2 => k _ _ <| hQ H1 (e.trans e2)⟩))
    · exact .inr (.inr (.inr (.inl ⟨t, e1, ht, fun H1 e2 => k _ _ <| hQ H1 (e.trans e2)⟩)))
    · exact .inr (.inr (.inr (.inr ⟨t, wn, e1, ht, hwl, hw, h12, fun H1 e2 B => k _ _ <| hQ H1 (Sab.trans (Sab.of e) e2) B⟩)))
  · exact .inr ⟨r, e1, ok, hg, hT.ext e, fun H1 e2 t2 B => k _ _ <| hQ H1 (fun a o na ha no => e2 a o na (e _ _ ha) no) t2 B⟩
abbrev N_Console_say : List Str := ["self", "line", "told"]
def sp_Console_say (K : PySem.W.Frag) : Sp := fun vs H Q _ => ∃ (c b : Addr) (parts : List (List Nat)), vs = [.ref c, .str (SX.S (TL.joinL [32] parts))] ∧ AnsP K c b parts H Q
theorem mt_Console_say (T : Tx K mg base) : Mt P w K mg base 13 (He.ga K "Console") "say" (sp_Console_say K) := by
  obtain ⟨fd, F0⟩ := T.D_Console_say
  have F : FunD K "say" "Console.say" (defArgs s_Console_say) (defBody s_Console_say) (defScope s_Console_say) [] [] (He.ma K (He.ga K "Console") "say") fd := F0
  refine ⟨⟨_, fd, ["self", "line"], T.c_Console, T.m_Console_say, F.ok sc_Console_say (fun vs H Q E h => ?_) (fun cdv A outer s H vs Q E hr h => ?_), F.bindsN (fun _ _ _ _ _ _ us hl => match us, hl with | [_, _], _ => rfl)⟩⟩
  · obtain ⟨_, _, _, rfl, _⟩ := h
    rfl
  · refine ⟨_, PSs.nox (pss_cons (ps_set (i := 2) sc_Console_say.nd rfl locV (pe_ifExp (pt_val (pe_callB (call_isiK1 (K := K) rfl) (by rfl) T.f_isinstance bt_isinstance (pa_cons (pv 1) (pa_cons (pe_bltn (v := .ty "str") (by rfl) T.f_str bt_str rfl) pa_nil)))) (C8.pe_mt (mt_Console_answer T).met hr (by decide) (pv 0) (pa_cons (pe_split (pv 1) pe_str) pa_nil)) pe_non))
    (pss_cons (ps_if (pt_cmp (pc_isN (pv 2))) pss_never pss_nil)
    (pss_one (ps_ret (pv 2))))), ?_⟩
    obtain ⟨c, b, parts, rfl, hA⟩ := h
    obtain ⟨l0, k0, rest, hp0, _, _, _, hr4⟩ := hA.two
    have hns := hA.parts
    have hne : parts ≠ [] := by rw [hp0]; exact fun z => nomatch z
    have hlen : parts.length ≤ 6 := by rw [hp0]; show rest.length + 1 + 1 ≤ 6; omega
    have hjl := joinL_len (s := 32) hns
    have hspl : Txt.split (SX.S (TL.joinL [32] parts)) (Str.ofString " ") = parts.map SX.S := by
      rw [show (Str.ofString " " : Str) = SX.S [32] from rfl, SX.split_S (by decide) (by decide), SX.spl_join hne fun p hp => (hns p hp).1]
    have CO : ∃ cdx, H c = some (.ins (He.ga K "Console") cdx [("book", .ref b)]) := by obtain ⟨l, bs, n, CO, _⟩ := hA; exact CO
    obtain ⟨cdx, hc⟩ := CO
    refine ⟨_, rfl, _, _, .type "str", .type "str", true, rfl, .ty _, .base (.str _), kSS, true, rfl, iteT ⟨_, rfl, c, cdx, _, rfl, hc, rfl, _, rfl, ⟨_, rfl⟩, _, _, rfl, rfl, rfl, ?_, fun p np => ?_⟩⟩
    · rw [SX.S_len]
      exact Nat.le_trans (by omega : (TL.joinL [32] parts).length + 2 ≤ 1000) (by decide)
    rw [hspl, txs_eq]
    have e1 := same_new (o := .lst (txs parts)) np
    exact ⟨c, b, p, parts, rfl, upd_same, hA.strs (fun z H1 q => ⟨_, rfl, _, rfl, iteFeq rfl ⟨_, rfl, q⟩⟩) e1⟩
end
end Gz
set_option maxHeartbeats 4000000
namespace Gz
open PySem PySem.Spec PyProof.Rows L2
section
variable {P : Program} {w : World} {K : PySem.W.Frag} {mg : Str → Option Value} {base : Heap}
theorem pB : (0 : Int) < 2147483477 := by decide
/-- the hand: a great number, a mixed one, how often it was mixed -/
def Hd (H : Hp) (a : Addr) (B : Int) : Prop := ∃ g m c : Int, H a = some (.lst [.int g, .int m, .int c]) ∧ 0 ≤ g ∧ (0 ≤ m ∧ m < 2147483477) ∧ (0 ≤ c ∧ c ≤ B)
theorem Hd.ext {H H' : Hp} {a : Addr} {B : Int} (e : Same H H') (h : Hd H a B) : Hd H' a B := by
  obtain ⟨g, m, c, h, q⟩ := h
  exact ⟨g, m, c, e _ _ h, q⟩
theorem Hd.up {H : Hp} {a : Addr} {B B' : Int} (e : B ≤ B') (h : Hd H a B) : Hd H a B' := by
  obtain ⟨g, m, c, h, q1, q2, q3⟩ := h
  exact ⟨g, m, c, h, q1, q2, q3.1, by omega⟩
theorem Hd.ne {H : Hp} {a D : Addr} {B : Int} (h : Hd H a B) (n : H D = none) : D ≠ a := fun z => by
  obtain ⟨g, m, c, h, _⟩ := h
  rw [← z, n] at h
  cases h
theorem Hd.put {H : Hp} {a D : Addr} {B : Int} {o : HO} (h : Hd H a B) (n : D ≠ a) : Hd (upd H D o) a B := by
  obtain ⟨g, m, c, h, q⟩ := h
  exact ⟨g, m, c, by rw [upd_ne (Ne.symm n)]; exact h, q⟩
theorem Hd.ne' {H : Hp} {a D : Addr} {B : Int} {l : List Nat} (h : Hd H a B) (n : H D = some (.lst (sgs l))) : D ≠ a := fun z => by
  obtain ⟨g, m, c, h, _⟩ := h
  rw [← z, n] at h
  have h1 := HO.lst.inj (Option.some.inj h)
  cases l with
  | nil => cases h1
  | cons x l => exact V.noConfusion (List.cons.inj h1).1
theorem mod_lo {i j : Int} (h : 0 < j) : 0 ≤ i % j := Int.emod_nonneg _ (by omega)
theorem mod_hi {i j : Int} (h : 0 < j) : i % j < j := Int.emod_lt_of_pos _ h
/-- a list that grows beside the hand -/
theorem sgStepS {H H1 : Hp} {hd D : Addr} {l : List Nat} {c : Nat} (nD : H D = none) (e : Sab hd H H1) (hD : H1 D = some (.lst (sgs l))) (hi : l.length < 1000000) :
    ∃ acc, H1 D = some (.lst acc) ∧ acc.length < sizeLine ∧ Sab hd H (upd H1 D (.lst (acc ++ [.str (SX.S [c])]))) ∧ (upd H1 D (.lst (acc ++ [.str (SX.S [c])]))) D = some (.lst (sgs (l ++ [c]))) :=
  ⟨_, hD, by rw [sgs_len]; exact small hi, e.own nD, by rw [upd_same, sgs_snoc]⟩
abbrev N_l_cell : List Str := ["_law_script", "_law_place", "_law_made", "_law_number"]
def sp__law_cell (K : PySem.W.Frag) : Sp := fun vs H Q _ => ∃ (l : Addr) (ns : List Int) (i : Nat), vs = [.ref l, .int (i : Int)] ∧ SqL K H l (ns.map V.int) ∧ i < 3 ∧ ∀ (z : Int) H1, Same H H1 → Q (.int z) H1
theorem cal__law_cell (T : Tx K mg base) : C8.Cal P w K mg base 1 "_law_cell" (sp__law_cell K) [] := by
  obtain ⟨fd, F0⟩ := T.D_l_cell
  have F : FunD K "_law_cell" "_law_cell" (defArgs s_l_cell) (defBody s_l_cell) (defScope s_l_cell) [] [] (He.ga K "_law_cell") fd := F0
  refine ⟨⟨_, fd, ["_law_script", "_law_place"], [], F.ok sc_l_cell (fun vs H Q E h => ?_) (fun cdv A outer s H vs Q E hr h => ?_), T.g__law_cell, F.kp, F.bindsN (fun _ _ _ _ _ _ us hl => match us, hl with | [_, _], _ => rfl), .nil⟩⟩
  · obtain ⟨_, _, _, rfl, _⟩ := h
    rfl
  · refine ⟨_, PSs.nox (pss_cons (ps_if (pt_cmpR op_lt (pv 1) (pe_callB (call_lenK (K := K) rfl) (by rfl) T.f_len bt_len (pa_cons (pv 0) pa_nil)) (nomark _)) (pss_one (ps_ret (pe_callTy call_int1 (by rfl) T.f_int bt_int (pa_cons (pe_ix (ix_listK (K := K) rfl) (pv 0) (pv 1) (fun _ _ => rfl)) pa_nil)))) pss_nil)
    (pss_cons (ps_set (i := 2) sc_l_cell.nd rfl locV (pe_op op_add (pe_op op_mul (pe_op op_mul (pv 1) (pv 1)) pe_int) pe_int))
    (pss_cons (ps_for PassesOwn.never rfl (pi_listK (K := K) rfl (pe_slice (sl_listK (K := K) rfl) (pv 0) po_none (po_some pe_int))) (pg_name (i := 3) sc_l_cell.nd rfl locV) (pss_one (ps_set (i := 2) sc_l_cell.nd rfl locV (pe_op op_mod (pe_callTy call_int1 (by rfl) T.f_int bt_int (pa_cons (pe_op op_add (pe_op op_mul (pv 2) pe_int) (pe_op op_mod (pe_callTy call_int1 (by rfl) T.f_int bt_int (pa_cons (pv 3) pa_nil)) pe_int)) pa_nil)) pe_int))))
    (pss_one (ps_ret (pv 2)))))), ?_⟩
    obtain ⟨l, ns, i, rfl, hl, hi, hQ⟩ := h
    refine ⟨_, rfl, _, rfl, _, _, rfl, .inl hl, _, _, rfl, rfl, _, rfl, ite2D (fun hlt => ?_) fun hge => ?_⟩
    · rw [List.length_map] at hlt
      have hlt2 : i < ns.length := by omega
      have hx : (ns.map V.int)[i]? = some (.int ns[i]) := by rw [List.getElem?_map, List.getElem?_eq_getElem hlt2]; rfl
      exact ⟨_, rfl, _, rfl, _, _, (i : Int), _, rfl, rfl, hl, atI_nat hx, .inl ⟨_, rfl, hQ _ H (.refl H)⟩⟩
    have hii : (0 : Int) ≤ (i : Int) * (i : Int) ∧ (i : Int) * (i : Int) ≤ 4 := by
      have : i = 0 ∨ i = 1 ∨ i = 2 := by omega
      rcases this with rfl | rfl | rfl <;> decide
    refine ⟨_, rfl, _, rfl, _, _, rfl, rfl, .inl (by omega), _, _, rfl, rfl, .inl (by omega), _, _, rfl, rfl, _, rfl, _, rfl, l, _, rfl, hl, fun p np => ⟨p, rfl, ⟨_, SqL.of upd_same⟩, ?_⟩⟩
    refine for_list (xs := cutV (ns.map V.int) none (some 4)) (fun j σ H1 => H1 = upd H p (.lst (cutV (ns.map V.int) none (some 4))) ∧ ∃ (m : Int) (y : Option V), (0 ≤ m ∧ m < 2147483477) ∧ σ = [some (.ref l), some (.int (i : Int)), some (.int m), y]) ⟨rfl, _, none, by omega, rfl⟩ (fun i σ H1 _ hp => by rw [hp.1]; exact SqL.of upd_same) (fun j v σ H1 hv ⟨e, m, y, hm, eσ⟩ => ?_) fun σ H1 ⟨e, m, y, hm, eσ⟩ => ?_
    · subst eσ e
      have hmem : v ∈ ns.map V.int := by
        have h1 := List.mem_of_getElem? hv
        exact List.mem_of_mem_drop (List.mem_of_mem_take h1)
      obtain ⟨z, _, rfl⟩ := List.mem_map.mp hmem
      have z1 := mod_lo (i := z) (j := 2147483477) (by decide)
      have z2 := mod_hi (i := z) (j := 2147483477) (by decide)
      exact ⟨_, rfl, _, _, rfl, rfl, .inl (by omega), _, rfl, .inl ⟨_, rfl, _, _, rfl, rfl, pB, _, _, rfl, rfl, .inl ⟨_, rfl, _, _, rfl, rfl, pB, rfl, _, _, ⟨mod_lo (by decide), mod_hi (by decide)⟩, rfl⟩⟩⟩
    · subst eσ e
      exact ⟨_, rfl, hQ _ _ (same_new np)⟩
abbrev N_l_deal : List Str := ["_law_number", "_law_great"]
def sp__law_deal (K : PySem.W.Frag) : Sp := fun vs H Q _ => ∃ (n : Int), vs = [.int n] ∧ ∀ p H1, H p = none → Same H H1 → Hd H1 p 0 → Q (.ref p) H1
theorem cal__law_deal (T : Tx K mg base) : C8.Cal P w K mg base 1 "_law_deal" (sp__law_deal K) [] := by
  obtain ⟨fd, F0⟩ := T.D_l_deal
  have F : FunD K "_law_deal" "_law_deal" (defArgs s_l_deal) (defBody s_l_deal) (defScope s_l_deal) [] [] (He.ga K "_law_deal") fd := F0
  refine ⟨⟨_, fd, ["_law_number"], [], F.ok sc_l_deal (fun vs H Q E h => ?_) (fun cdv A outer s H vs Q E hr h => ?_), T.g__law_deal, F.kp, F.bindsN (fun _ _ _ _ _ _ us hl => match us, hl with | [_], _ => rfl), .nil⟩⟩
  · obtain ⟨_, rfl, _⟩ := h
    rfl
  · refine ⟨_, PSs.nox (pss_cons (ps_set (i := 1) sc_l_deal.nd rfl locV (pe_ifExp (pw_or (pt_cmpR op_lt (pv 0) pe_int (nomark _)) (pw_or1 (pt_cmpR op_ge (pv 0) (pe_op op_pow pe_int pe_int) (nomark _)))).pt (pe_callB call_abs (by rfl) T.f_abs bt_abs (pa_cons (pv 0) pa_nil)) pe_int))
    (pss_one (ps_ret (pe_lst (pa_cons (pv 1) (pa_cons (pe_op op_mod (pe_callTy call_int1 (by rfl) T.f_int bt_int (pa_cons (pv 0) pa_nil)) pe_int) (pa_cons pe_int pa_nil))))))), ?_⟩
    obtain ⟨n, rfl, hQ⟩ := h
    have fin : ∀ g : Int, 0 ≤ g → ∀ p, H p = none → Q (.ref p) (upd H p (.lst [.int g, .int (n % 2147483477), .int 0])) := fun g hg p np => hQ p _ np (same_new np) ⟨g, _, 0, upd_same, hg, ⟨mod_lo (by decide), mod_hi (by decide)⟩, by decide, by decide⟩
    have rest : ∀ g : Int, 0 ≤ g → ∀ p, H p = none → Q (.ref p) (upd H p (.lst [.int g, .int (n % 2147483477), .int 0])) := fin
    refine ⟨_, rfl, _, _, rfl, rfl, _, rfl, ite2D (fun h0 => iteT ⟨_, rfl, _, rfl, _, rfl, _, rfl, .inl ⟨_, rfl, _, _, rfl, rfl, pB, lnk, fun p np => rest _ ?_ p np⟩⟩) fun h0 => ⟨_, rfl, _, _, rfl, rfl, ⟨by decide, by decide, by decide⟩, _, _, rfl, rfl, _, rfl, ite2D (fun h1 => ⟨_, rfl, _, rfl, _, rfl, _, rfl, .inl ⟨_, rfl, _, _, rfl, rfl, pB, lnk, fun p np => rest _ ?_ p np⟩⟩) fun h1 => ⟨_, rfl, _, rfl, .inl ⟨_, rfl, _, _, rfl, rfl, pB, lnk, fun p np => rest _ (Int.le_refl _) p np⟩⟩⟩⟩
    · split <;> omega
    · split <;> omega
abbrev N_l_pick : List Str := ["_law_hand", "_law_size", "_law_digit"]
def sp__law_pick (K : PySem.W.Frag) : Sp := fun vs H Q _ => ∃ (hd : Addr) (s B : Int), vs = [.ref hd, .int s] ∧ Hd H hd B ∧ (0 < s ∧ s ≤ 1000000) ∧ B ≤ 100000 ∧ ∀ (r : Int) H1, Sab hd H H1 → Hd H1 hd (B + 1) → 0 ≤ r ∧ r < s → Q (.int r) H1
theorem cal__law_pick (T : Tx K mg base) : C8.Cal P w K mg base 1 "_law_pick" (sp__law_pick K) [] := by
  obtain ⟨fd, F0⟩ := T.D_l_pick
  have F : FunD K "_law_pick" "_law_pick" (defArgs s_l_pick) (defBody s_l_pick) (defScope s_l_pick) [] [] (He.ga K "_law_pick") fd := F0
  refine ⟨⟨_, fd, ["_law_hand", "_law_size"], [], F.ok sc_l_pick (fun vs H Q E h => ?_) (fun cdv A outer s H vs Q E hr h => ?_), T.g__law_pick, F.kp, F.bindsN (fun _ _ _ _ _ _ us hl => match us, hl with | [_, _], _ => rfl), .nil⟩⟩
  · obtain ⟨_, _, _, rfl, _⟩ := h
    rfl
  · refine ⟨_, PSs.nox (pss_cons (ps_asg (pe_op op_mod (pe_callTy call_int1 (by rfl) T.f_int bt_int (pa_cons (pe_op op_pow (pe_op op_add (pe_op op_add (pe_ix (ix_listK (K := K) rfl) (pv 0) pe_int (fun _ _ => rfl)) (pe_op op_mul pe_int (pe_ix (ix_listK (K := K) rfl) (pv 0) pe_int (fun _ _ => rfl)))) pe_int) pe_int) pa_nil)) pe_int) (pg_sub (pv 0) pe_int set_list))
    (pss_cons (ps_asg (pe_op op_add (pe_ix (ix_listK (K := K) rfl) (pv 0) pe_int (fun _ _ => rfl)) pe_int) (pg_sub (pv 0) pe_int set_list))
    (pss_cons (ps_if (pt_cmpR op_eq (pe_ix (ix_listK (K := K) rfl) (pv 0) pe_int (fun _ _ => rfl)) pe_int (nomark _)) (pss_one (ps_ret (pe_op op_mod (pe_callTy call_int1 (by rfl) T.f_int bt_int (pa_cons (pe_op op_fdiv (pe_ix (ix_listK (K := K) rfl) (pv 0) pe_int (fun _ _ => rfl)) pe_int) pa_nil)) (pv 1)))) pss_nil)
    (pss_cons (ps_set (i := 2) sc_l_pick.nd rfl locV (pe_op op_mod (pe_callTy call_int1 (by rfl) T.f_int bt_int (pa_cons (pe_ix (ix_listK (K := K) rfl) (pv 0) pe_int (fun _ _ => rfl)) pa_nil)) (pv 1)))
    (pss_cons (ps_asg (pe_op op_fdiv (pe_ix (ix_listK (K := K) rfl) (pv 0) pe_int (fun _ _ => rfl)) (pv 1)) (pg_sub (pv 0) pe_int set_list))
    (pss_one (ps_ret (pv 2)))))))), ?_⟩
    obtain ⟨hd, s, B, rfl, ⟨g, m, c, hH, hg, hm, hc⟩, hs, hB, hQ⟩ := h
    refine ⟨_, rfl, _, _, 1, _, rfl, rfl, SqL.of hH, atI_nat (j := 1) rfl, _, rfl, _, _, 2, _, rfl, rfl, SqL.of hH, atI_nat (j := 2) rfl, _, _, rfl, rfl, .inl (by omega), _, _, rfl, rfl, _, _, rfl, rfl, _, _, rfl, rfl, ⟨by decide, by decide, by omega⟩, .inl ⟨_, rfl, _, _, rfl, rfl, pB, _, rfl, _, _, 1, 1, rfl, rfl, hH, rfl, ?_⟩⟩
    have hm1 : 0 ≤ (m + 37199 * c + 71) ^ (3 : Int).toNat % 2147483477 ∧ (m + 37199 * c + 71) ^ (3 : Int).toNat % 2147483477 < 2147483477 := ⟨mod_lo pB, mod_hi pB⟩
    refine ⟨_, rfl, _, _, 2, _, rfl, rfl, SqL.of upd_same, atI_nat (j := 2) rfl, _, _, rfl, rfl, _, rfl, _, _, 2, 2, rfl, rfl, upd_same, rfl, ?_⟩
    refine ⟨_, rfl, _, _, 0, _, rfl, rfl, SqL.of upd_same, atI_nat (j := 0) rfl, rfl, _, rfl, ite2D (fun h0 => ?_) fun h0 => ?_⟩
    · exact ⟨_, rfl, _, _, 1, _, rfl, rfl, SqL.of upd_same, atI_nat (j := 1) rfl, _, _, rfl, rfl, ⟨by decide, by decide⟩, .inl ⟨_, rfl, _, rfl, _, _, rfl, rfl, hs.1, hQ _ _ sab_put.put ⟨g, _, c + 1, upd_same, hg, hm1, by omega, by omega⟩ ⟨mod_lo hs.1, mod_hi hs.1⟩⟩⟩
    · refine ⟨_, rfl, _, _, 0, _, rfl, rfl, SqL.of upd_same, atI_nat (j := 0) rfl, .inl ⟨_, rfl, _, rfl, _, _, rfl, rfl, hs.1, ?_⟩⟩
      refine ⟨_, rfl, _, _, 0, _, rfl, rfl, SqL.of upd_same, atI_nat (j := 0) rfl, _, rfl, _, _, rfl, rfl, ⟨hs.1, by omega⟩, _, rfl, _, _, 0, 0, rfl, rfl, upd_same, rfl, ?_⟩
      exact ⟨_, rfl, hQ _ _ sab_put.put.put ⟨g / s, _, c + 1, upd_same, Int.ediv_nonneg hg (by omega), hm1, by omega, by omega⟩ ⟨mod_lo hs.1, mod_hi hs.1⟩⟩
abbrev N_l_moment : List Str := ["_law_hand", "_law_way", "_law_low", "_law_high"]
def sp__law_moment (K : PySem.W.Frag) : Sp := fun vs H Q _ => ∃ (hd : Addr) (B : Int), vs = [.ref hd] ∧ Hd H hd B ∧ B ≤ 90000 ∧ ∀ (t : Int) H1, Sab hd H H1 → Hd H1 hd (B + 3) → 0 ≤ t ∧ t ≤ 10 ^ 30 → Q (.int t) H1
theorem cal__law_moment (T : Tx K mg base) : C8.Cal P w K mg base 2 "_law_moment" (sp__law_moment K) [] := by
  obtain ⟨fd, F0⟩ := T.D_l_moment
  have F : FunD K "_law_moment" "_law_moment" (defArgs s_l_moment) (defBody s_l_moment) (defScope s_l_moment) [] [] (He.ga K "_law_moment") fd := F0
  refine ⟨⟨_, fd, ["_law_hand"], [], F.ok sc_l_moment (fun vs H Q E h => ?_) (fun cdv A outer s H vs Q E hr h => ?_), T.g__law_moment, F.kp, F.bindsN (fun _ _ _ _ _ _ us hl => match us, hl with | [_], _ => rfl), .nil⟩⟩
  · obtain ⟨_, _, rfl, _⟩ := h
    rfl
  · refine ⟨_, PSs.nox (pss_cons (ps_par3 (i := 1) (j := 2) (l := 3) rfl sc_l_moment.nd rfl rfl rfl (by decide) (by decide) (by decide) rfl rfl rfl (pa_cons (C8.pe_c (cal__law_pick T) hr (by decide) (by rfl) (pa_cons (pv 0) (pa_cons pe_int pa_nil))) (pa_cons (C8.pe_c (cal__law_pick T) hr (by decide) (by rfl) (pa_cons (pv 0) (pa_cons pe_int pa_nil))) (pa_cons (C8.pe_c (cal__law_pick T) hr (by decide) (by rfl) (pa_cons (pv 0) (pa_cons (pe_op op_pow pe_int pe_int) pa_nil))) pa_nil))) rfl)
    (pss_cons (ps_if (pt_cmpR op_lt (pv 1) pe_int (nomark _)) (pss_one (ps_ret (pv 2))) pss_nil)
    (pss_one (ps_ret (pe_ifExp (pt_cmpR op_eq (pv 1) pe_int (nomark _)) (pe_op op_sub (pe_op op_pow pe_int pe_int) (pv 2)) (pe_op op_add (pe_op op_mul (pv 3) (pe_op op_pow pe_int pe_int)) (pv 2))))))), ?_⟩
    obtain ⟨hd, B, rfl, hH, hB, hQ⟩ := h
    refine ⟨_, rfl, hd, 4, B, rfl, hH, by decide, by omega, fun w H1 e1 h1 hw => ⟨_, rfl, hd, 40, B + 1, rfl, h1, by decide, by omega, fun lo H2 e2 h2 hlo => ?_⟩⟩
    refine ⟨_, rfl, _, _, rfl, rfl, ⟨by decide, by decide, by decide⟩, hd, _, B + 1 + 1, rfl, h2, by decide, by omega, fun hi H3 e3 h3 hhi => ⟨_, _, _, rfl, ?_⟩⟩
    have hh : hi < 1000000 := hhi.2
    have e := e1.trans (e2.trans e3)
    have h3' : Hd H3 hd (B + 3) := h3.up (by omega)
    refine ⟨_, rfl, _, _, rfl, rfl, _, rfl, ite2D (fun _ => ⟨_, rfl, hQ _ _ e h3' (by omega)⟩) fun _ => ⟨_, rfl, rfl, _, rfl, ite2D (fun _ => ?_) fun _ => ?_⟩⟩
    · refine ⟨_, _, rfl, rfl, ⟨by decide, by decide, by decide⟩, _, rfl, _, _, rfl, rfl, hQ _ _ e h3' ?_⟩
      show 0 ≤ (10 : Int) ^ 30 - lo ∧ (10 : Int) ^ 30 - lo ≤ 10 ^ 30
      omega
    · refine ⟨_, rfl, _, _, rfl, rfl, ⟨by decide, by decide, by decide⟩, _, _, rfl, rfl, .inl (by omega), _, rfl, _, _, rfl, rfl, hQ _ _ e h3' ?_⟩
      show 0 ≤ hi * (10 : Int) ^ 24 + lo ∧ hi * (10 : Int) ^ 24 + lo ≤ 10 ^ 30
      omega
abbrev N_l_drawn : List Str := ["_law_hand", "_law_many_here", "_law_stock", "_law_turn"]
def sp__law_drawn (K : PySem.W.Frag) : Sp := fun vs H Q _ => ∃ (hd : Addr) (B : Int) (n : Nat) (st : List Nat), vs = [.ref hd, .int (n : Int), .str (SX.S st)] ∧ Hd H hd B ∧ B + n ≤ 90000 ∧ st ≠ [] ∧ st.length ≤ 1000 ∧ ∀ (l : List Nat) H1, Sab hd H H1 → Hd H1 hd (B + n) → l.length = n → (∀ c ∈ l, c ∈ st) → Q (.str (SX.S l)) H1
theorem cal__law_drawn (T : Tx K mg base) : C8.Cal P w K mg base 2 "_law_drawn" (sp__law_drawn K) [] := by
  obtain ⟨fd, F0⟩ := T.D_l_drawn
  have F : FunD K "_law_drawn" "_law_drawn" (defArgs s_l_drawn) (defBody s_l_drawn) (defScope s_l_drawn) [] [] (He.ga K "_law_drawn") fd := F0
  refine ⟨⟨_, fd, ["_law_hand", "_law_many_here", "_law_stock"], [], F.ok sc_l_drawn (fun vs H Q E h => ?_) (fun cdv A outer s H vs Q E hr h => ?_), T.g__law_drawn, F.kp, F.bindsN (fun _ _ _ _ _ _ us hl => match us, hl with | [_, _, _], _ => rfl), .nil⟩⟩
  · obtain ⟨_, _, _, _, rfl, _⟩ := h
    rfl
  · refine ⟨_, PSs.nox (pss_one (ps_ret (pe_joinK (K := K) rfl pe_str (pe_lc (own := [("_law_turn", 3)]) rfl sc_l_drawn.nd (pi_range1 (by rfl) T.f_range (pa_cons (pv 1) pa_nil)) (blkOk_by (own := [("_law_turn", 3)]) (N := N_l_drawn) (sc := defScope s_l_drawn) (by decide +kernel)) (fun _ _ _ _ _ => (pg_name (i := 3) sc_l_drawn.nd rfl locV)) (fun _ _ _ _ _ => pts_nil) (fun _ _ _ _ _ => (pe_ix ix_str (pv 2) (C8.pe_c (cal__law_pick T) hr (by decide) (by rfl) (pa_cons (pv 0) (pa_cons (pe_callB call_len_str (by rfl) T.f_len bt_len (pa_cons (pv 2) pa_nil)) pa_nil))) (fun _ _ => rfl))))))), ?_⟩
    obtain ⟨hd, B, n, st, rfl, hH, hB, hst, hsl, hQ⟩ := h
    have hpos := List.length_pos_iff.mpr hst
    have hB0 : 0 ≤ B := by obtain ⟨g, m, c, _, _, _, h⟩ := hH; omega
    refine ⟨⟨_, rfl⟩, _, rfl, _, rfl, by omega, by omega, fun D nD => lc_it (walk_range (n := n)) (fun i H2 => Sab hd H H2 ∧ Hd H2 hd (B + i) ∧ ∃ l : List Nat, H2 D = some (.lst (sgs l)) ∧ l.length = i ∧ ∀ c ∈ l, c ∈ st) ⟨(Sab.refl hd H).own nD, (hH.put (hH.ne nD)).up (by omega), [], upd_same, rfl, fun c hc => nomatch hc⟩ (fun i H2 _ hp => trivial) (fun i x H2 H3 hi ⟨e, h2, l, hD, hl, hlm⟩ ⟨e3, hv⟩ => ?_) fun H2 ⟨e, h2, l, hD, hl, hlm⟩ => ?_⟩
    · subst e3 hv
      refine ⟨rfl, _, rfl, _, rfl, _, rfl, _, rfl, lineS (by omega), hd, _, B + i, rfl, h2, by rw [S_ln]; omega, by omega, fun r H4 e4 h4 hr => ?_⟩
      rw [S_ln] at hr
      obtain ⟨k, rfl⟩ := Int.eq_ofNat_of_zero_le hr.1
      have hk : k < st.length := by omega
      have hc1 : st[k]? = some st[k] := List.getElem?_eq_getElem hk
      refine ⟨_, _, _, rfl, rfl, lineS (by omega), atI_nat hc1, ?_⟩
      have hD4 := e4 _ _ (h2.ne' hD) hD
      obtain ⟨acc, a1, a2, a3, a4⟩ := sgStepS nD (e.trans e4) hD4 (c := st[k]) (by omega)
      exact ⟨acc, a1, a2, a3, (h4.put (h2.ne' hD)).up (by omega), l ++ [st[k]], a4, by rw [List.length_append, hl]; rfl, fun c hc => by
        rcases List.mem_append.mp hc with hc | hc
        · exact hlm c hc
        · rw [List.mem_singleton.mp hc]; exact List.getElem_mem hk⟩
    · exact joinG hD (by omega) (hQ l H2 e h2 hl hlm)
end
end Gz
set_option maxHeartbeats 4000000
namespace Gz
open PySem PySem.Spec PyProof.Rows L2
section
variable {P : Program} {w : World} {K : PySem.W.Frag} {mg : Str → Option Value} {base : Heap}
theorem prs_app {H : Hp} {p : Addr} {k : Int} {l1 l2 : List Nat} {as bs : List Addr} (h1 : Paired (fun b (x : Nat) => H b = some (.tup (prV k x))) as l1) (h2 : Paired (fun b (x : Nat) => H b = some (.tup (prV k x))) bs l2) (n : H p = none) : PrsL (upd H p (.lst (as.map V.ref ++ bs.map V.ref))) p k (l1 ++ l2) :=
  ⟨as ++ bs, by rw [upd_same, List.map_append], Paired.imp (pair_app h1 h2) fun b x z => by rw [upd_ne (ne_of_none z n)]; exact z⟩
theorem wds_set {L : Nat} (hL : 0 < L) {p t : Int} {rs : List (Int × Nat × Nat)} {j c n : Nat} (hn : num L p t j = (n : Int)) : (txs (wds L p rs)).set n (.str (SX.S ([c].filter fun d => decide (d ∈ FL L p rs (n : Int))))) = txs (wds L p (rs ++ [(t, j, c)])) := by
  have hlt : n < L := by have := num_hi hL p t j; omega
  unfold txs wds
  rw [List.map_map, List.map_map]
  apply List.ext_getElem?
  intro m
  rw [List.getElem?_set, List.getElem?_map, List.getElem?_map, List.length_map, List.length_range]
  by_cases hm : m < L
  · rw [List.getElem?_range hm]
    by_cases hnm : n = m
    · subst hnm
      rw [if_pos rfl, if_pos hlt]
      show some _ = some (V.str (SX.S (FL L p (rs ++ [(t, j, c)]) (n : Int))))
      rw [FL_snoc]
      unfold stF upF
      show _ = some (V.str (SX.S (if (n : Int) = num L p t j then if c ∈ FL L p rs (num L p t j) then [c] else [] else FL L p rs (n : Int))))
      rw [if_pos hn.symm, hn]
      by_cases hc : c ∈ FL L p rs (n : Int)
      · rw [if_pos hc]; simp [hc]
      · rw [if_neg hc]; simp [hc]
    · rw [if_neg hnm]
      show some (V.str (SX.S (FL L p rs (m : Int)))) = some (V.str (SX.S (FL L p (rs ++ [(t, j, c)]) (m : Int))))
      rw [FL_snoc]
      unfold stF upF
      show _ = some (V.str (SX.S (if (m : Int) = num L p t j then if c ∈ FL L p rs (num L p t j) then [c] else [] else FL L p rs (m : Int))))
      rw [if_neg (by rw [hn]; omega)]
  · rw [List.getElem?_eq_none (by rw [List.length_range]; omega), if_neg (by omega)]
    rfl
theorem ixN_n {n j : Nat} (hj : j < n) : ixN n (j : Int) = some j := by
  unfold ixN
  rw [if_pos (by omega), if_pos (by omega)]
  simp
theorem wds_nil (L : Nat) (p : Int) : (List.replicate ((L : Int)).toNat [V.str (SX.S al)]).flatten = txs (wds L p []) := by
  rw [Int.toNat_natCast, List.flatten_replicate_singleton]
  unfold txs wds
  apply List.ext_getElem?
  intro m
  rw [List.map_map, List.getElem?_map, List.getElem?_replicate]
  by_cases hm : m < L
  · rw [List.getElem?_range hm, if_pos hm]; rfl
  · rw [List.getElem?_eq_none (by rw [List.length_range]; omega), if_neg hm]; rfl
abbrev N_l_window : List Str := ["_law_row", "_law_speed", "_law_time", "_law_wide", "_law_place"]
def sp__law_window (K : PySem.W.Frag) : Sp := fun vs H Q _ => ∃ (row : List Nat) (p t : Int) (n : Nat), vs = [.str (SX.S row), .int p, .int t, .int (n : Int)] ∧ row ≠ [] ∧ row.length ≤ 1000 ∧ (-9 ≤ p ∧ p ≤ 9) ∧ n ≤ 1000 ∧ ∀ (l : List Nat) H1, Same H H1 → l.length = n → (∀ c ∈ l, c ∈ row) → Q (.str (SX.S l)) H1
theorem cal__law_window (T : Tx K mg base) : C8.Cal P w K mg base 1 "_law_window" (sp__law_window K) [] := by
  obtain ⟨fd, F0⟩ := T.D_l_window
  have F : FunD K "_law_window" "_law_window" (defArgs s_l_window) (defBody s_l_window) (defScope s_l_window) [] [] (He.ga K "_law_window") fd := F0
  refine ⟨⟨_, fd, ["_law_row", "_law_speed", "_law_time", "_law_wide"], [], F.ok sc_l_window (fun vs H Q E h => ?_) (fun cdv A outer s H vs Q E hr h => ?_), T.g__law_window, F.kp, F.bindsN (fun _ _ _ _ _ _ us hl => match us, hl with | [_, _, _, _], _ => rfl), .nil⟩⟩
  · obtain ⟨_, _, _, _, rfl, _⟩ := h
    rfl
  · refine ⟨_, PSs.nox (pss_one (ps_ret (pe_joinK (K := K) rfl pe_str (pe_lc (own := [("_law_place", 4)]) rfl sc_l_window.nd (pi_range1 (by rfl) T.f_range (pa_cons (pv 3) pa_nil)) (blkOk_by (own := [("_law_place", 4)]) (N := N_l_window) (sc := defScope s_l_window) (by decide +kernel)) (fun _ _ _ _ _ => (pg_name (i := 4) sc_l_window.nd rfl locV)) (fun _ _ _ _ _ => pts_nil) (fun _ _ _ _ _ => (pe_ix ix_str (pv 0) (pe_op op_mod (pe_callTy call_int1 (by rfl) T.f_int bt_int (pa_cons (pe_op op_add (pv 4) (pe_op op_mul (pv 1) (pv 2))) pa_nil)) (pe_callB call_len_str (by rfl) T.f_len bt_len (pa_cons (pv 0) pa_nil))) (fun _ _ => rfl))))))), ?_⟩
    obtain ⟨row, p, t, n, rfl, hrow, hrl, hp, hn, hQ⟩ := h
    have hpos := List.length_pos_iff.mpr hrow
    refine ⟨⟨_, rfl⟩, _, rfl, _, rfl, by omega, by omega, fun D nD => lc_it (walk_range (n := n)) (fun i H2 => Same H H2 ∧ ∃ l : List Nat, H2 D = some (.lst (sgs l)) ∧ l.length = i ∧ ∀ c ∈ l, c ∈ row) ⟨same_new nD, [], upd_same, rfl, fun c hc => nomatch hc⟩ (fun i H2 _ hp => trivial) (fun i x H2 H3 hi ⟨e, l, hD, hl, hlm⟩ ⟨e3, hv⟩ => ?_) fun H2 ⟨e, l, hD, hl, hlm⟩ => joinG hD (by omega) (hQ l H2 e hl hlm)⟩
    subst e3 hv
    have hr0 : (0 : Int) < (row.length : Int) := by omega
    obtain ⟨k, hk⟩ := Int.eq_ofNat_of_zero_le (mod_lo (i := (0 + (i : Int)) + p * t) hr0)
    have hk2 : k < row.length := by have := mod_hi (i := (0 + (i : Int)) + p * t) hr0; omega
    have hc1 : row[k]? = some row[k] := List.getElem?_eq_getElem hk2
    refine ⟨rfl, _, rfl, _, rfl, _, rfl, _, rfl, _, _, rfl, rfl, .inl (by omega), _, _, rfl, rfl, .inl ⟨_, rfl, _, rfl, _, rfl, lineS (by omega), _, _, rfl, rfl, by rw [S_ln]; exact hr0, _, _, row[k], rfl, rfl, lineS (by omega), ?_, ?_⟩⟩
    · rw [S_ln, hk]
      exact atI_nat hc1
    · obtain ⟨acc, a1, a2, a3, a4⟩ := sgStep nD e hD (c := row[k]) (by omega)
      exact ⟨acc, a1, a2, a3, l ++ [row[k]], a4, by rw [List.length_append, hl]; rfl, fun c hc => by
        rcases List.mem_append.mp hc with hc | hc
        · exact hlm c hc
        · rw [List.mem_singleton.mp hc]; exact List.getElem_mem hk2⟩
abbrev N_l_letters_of : List Str := ["_law_mark", "_law_sets", "_law_word"]
def sp__law_letters_of (K : PySem.W.Frag) : Sp := fun vs H Q _ => ∃ (c : Nat) (g : V), vs = [.str (SX.S [c]), g] ∧ c ∈ al ∧ Q (.str (SX.S [c])) H
theorem cal__law_letters_of (T : Tx K mg base) : C8.Cal P w K mg base 1 "_law_letters_of" (sp__law_letters_of K) [] := by
  obtain ⟨fd, F0⟩ := T.D_l_letters_of
  have F : FunD K "_law_letters_of" "_law_letters_of" (defArgs s_l_letters_of) (defBody s_l_letters_of) (defScope s_l_letters_of) [] [] (He.ga K "_law_letters_of") fd := F0
  refine ⟨⟨_, fd, ["_law_mark", "_law_sets"], [], F.ok sc_l_letters_of (fun vs H Q E h => ?_) (fun cdv A outer s H vs Q E hr h => ?_), T.g__law_letters_of, F.kp, F.bindsN (fun _ _ _ _ _ _ us hl => match us, hl with | [_, _], _ => rfl), .nil⟩⟩
  · obtain ⟨_, _, rfl, _⟩ := h
    rfl
  · refine ⟨_, PSs.nox (pss_cons (ps_if (pt_cmpR op_eq (pv 0) pe_str (nomark _)) (pss_one (ps_ret pe_str)) pss_nil)
    (pss_cons (ps_if (pt_cmpR op_in_sign (pv 0) pe_str rfl) (pss_one (ps_ret (pv 0))) pss_nil)
    pss_never)), ?_⟩
    obtain ⟨c, g, rfl, hc, hQ⟩ := h
    have h63 : c ≠ 63 := fun z => by rw [z] at hc; exact absurd hc (by decide)
    refine ⟨_, rfl, rfl, _, rfl, iteDF (fun z => h63 ?_) ⟨_, rfl, c, SX.S al, rfl, rfl, _, rfl, iteD (by simpa using hc) ⟨_, rfl, hQ⟩⟩⟩
    have z2 := SX.S_inj (V.str.inj z)
    exact List.head_eq_of_cons_eq z2
abbrev N_l_common : List Str := ["_law_one", "_law_two", "_law_letter"]
def sp__law_common (K : PySem.W.Frag) : Sp := fun vs H Q _ => ∃ a b : List Nat, vs = [.str (SX.S a), .str (SX.S b)] ∧ a.length ≤ 1000000 ∧ ∀ H1, Same H H1 → Q (.str (SX.S (a.filter fun c => decide (c ∈ b)))) H1
theorem cal__law_common (T : Tx K mg base) : C8.Cal P w K mg base 1 "_law_common" (sp__law_common K) [] := by
  obtain ⟨fd, F0⟩ := T.D_l_common
  have F : FunD K "_law_common" "_law_common" (defArgs s_l_common) (defBody s_l_common) (defScope s_l_common) [] [] (He.ga K "_law_common") fd := F0
  refine ⟨⟨_, fd, ["_law_one", "_law_two"], [], F.ok sc_l_common (fun vs H Q E h => ?_) (fun cdv A outer s H vs Q E hr h => ?_), T.g__law_common, F.kp, F.bindsN (fun _ _ _ _ _ _ us hl => match us, hl with | [_, _], _ => rfl), .nil⟩⟩
  · obtain ⟨_, _, rfl, _⟩ := h
    rfl
  · refine ⟨_, PSs.nox (pss_one (ps_ret (pe_joinK (K := K) rfl pe_str (pe_lc (own := [("_law_letter", 2)]) rfl sc_l_common.nd (pi_str (pv 0)) (blkOk_by (own := [("_law_letter", 2)]) (N := N_l_common) (sc := defScope s_l_common) (by decide +kernel)) (fun _ _ _ _ _ => (pg_name (i := 2) sc_l_common.nd rfl locV)) (fun _ _ _ _ _ => (pts_one (pt_cmpR op_in_sign (pv 2) (pv 1) rfl))) (fun _ _ _ _ _ => (pv 2)))))), ?_⟩
    obtain ⟨a, b, rfl, hl, hQ⟩ := h
    refine ⟨⟨_, rfl⟩, _, rfl, _, rfl, fun D nD => lc_it walk_S (fun i H1 => Same H H1 ∧ H1 D = some (.lst (sgs ((a.take i).filter fun c => decide (c ∈ b))))) ⟨same_new nD, upd_same⟩ (fun _ _ _ _ => trivial) (fun i x H1 H2 hi ⟨e, hD⟩ ⟨e2, c, hc, ex⟩ => ?_) fun H1 ⟨e, hD⟩ => ?_⟩
    · subst e2 ex
      have et := take_snoc hc
      refine ⟨rfl, _, rfl, _, rfl, c, SX.S b, rfl, rfl, _, rfl, ite2D (fun hb => ?_) fun hb => ?_⟩
      · refine ⟨_, rfl, _, hD, ?_, same_put e nD, ?_⟩
        · rw [sgs_len]
          have h1 := List.length_filter_le (fun c => decide (c ∈ b)) (a.take i)
          have h2 : (a.take i).length ≤ a.length := by rw [List.length_take]; omega
          exact Nat.lt_of_le_of_lt (Nat.le_trans h1 (Nat.le_trans h2 hl)) (by decide)
        · rw [upd_same, et, List.filter_append, sgs, sgs, List.map_append]
          have hb' : c ∈ b := by simpa using hb
          simp [hb']
      · refine ⟨e, ?_⟩
        have hb' : c ∉ b := by simpa using hb
        rw [hD, et, List.filter_append]
        simp [hb']
    · rw [List.take_length] at hD
      exact joinG hD (Nat.le_trans (List.length_filter_le _ _) hl) (hQ _ e)
abbrev N_l_lets : List Str := ["_law_note", "_law_found", "_law_size", "_law_speed"]
def sp__law_lets (K : PySem.W.Frag) : Sp := fun vs H Q _ => ∃ (a : Addr) (r : Rec), vs = [.ref a] ∧ RecT K H a r ∧ r.Ok ∧ ∀ b H1, Same H H1 → PrsL H1 b r.p (List.range' r.lo (r.hi + 1 - r.lo)) → Q (.ref b) H1
theorem cal__law_lets (T : Tx K mg base) : C8.Cal P w K mg base 1 "_law_lets" (sp__law_lets K) [] := by
  obtain ⟨fd, F0⟩ := T.D_l_lets
  have F : FunD K "_law_lets" "_law_lets" (defArgs s_l_lets) (defBody s_l_lets) (defScope s_l_lets) [] [] (He.ga K "_law_lets") fd := F0
  refine ⟨⟨_, fd, ["_law_note"], [], F.ok sc_l_lets (fun vs H Q E h => ?_) (fun cdv A outer s H vs Q E hr h => ?_), T.g__law_lets, F.kp, F.bindsN (fun _ _ _ _ _ _ us hl => match us, hl with | [_], _ => rfl), .nil⟩⟩
  · obtain ⟨_, _, rfl, _⟩ := h
    rfl
  · refine ⟨_, PSs.nox (pss_cons (ps_set (i := 1) sc_l_lets.nd rfl locV (pe_lst pa_nil))
    (pss_cons (ps_for PassesOwn.never rfl (pi_range2 (by rfl) T.f_range (pa_cons (pe_ix (ix_tupK (K := K) rfl) (pv 0) pe_int (fun _ _ => rfl)) (pa_cons (pe_op op_add (pe_ix (ix_tupK (K := K) rfl) (pv 0) pe_int (fun _ _ => rfl)) pe_int) pa_nil))) (pg_name (i := 2) sc_l_lets.nd rfl locV) (pss_one (ps_set (i := 1) sc_l_lets.nd rfl locV (pe_op op_cat (pv 1) (pe_lc (own := [("_law_speed", 3)]) rfl sc_l_lets.nd (pi_tupK (K := K) rfl (pe_ix (ix_tupK (K := K) rfl) (pv 0) pe_int (fun _ _ => rfl))) (blkOk_by (own := [("_law_speed", 3)]) (N := N_l_lets) (sc := defScope s_l_lets) (by decide +kernel)) (fun _ _ _ _ _ => (pg_name (i := 3) sc_l_lets.nd rfl locV)) (fun _ _ _ _ _ => pts_nil) (fun _ _ _ _ _ => (pe_tup (pa_cons (pv 2) (pa_cons (pv 3) pa_nil)))))))))
    (pss_one (ps_ret (pv 1))))), ?_⟩
    obtain ⟨a, r, rfl, ⟨d, ps, gs, gl, ha, R⟩, ok, hQ⟩ := h
    have k1 := ok.l1
    have k2 := ok.lh
    have k3 := ok.h40
    refine ⟨lnk, fun f0 nf => ⟨_, rfl, _, _, 2, _, rfl, rfl, SqT.of (same_new nf _ _ ha), atI_nat (j := 2) rfl, _, rfl, _, _, 3, _, rfl, rfl, SqT.of (same_new nf _ _ ha), atI_nat (j := 3) rfl, _, _, rfl, rfl, _, _, rfl, ⟨by omega, by omega, by omega, by omega⟩, for_range (lo := (r.lo : Int)) (n := ((r.hi : Int) + 1 - (r.lo : Int)).toNat) (fun i σ H1 => Same H H1 ∧ ∃ b x y, σ = [some (.ref a), some (.ref b), x, y] ∧ PrsL H1 b r.p (List.range' r.lo i)) ⟨same_new nf, f0, none, none, rfl, tupL_nil upd_same⟩ (fun i σ H1 hi ⟨e, b, x, y, eσ, hb⟩ => ?_) fun σ H1 ⟨e, b, x, y, eσ, hb⟩ => ?_⟩⟩
    · subst eσ
      refine ⟨_, rfl, _, rfl, _, _, 4, _, rfl, rfl, SqT.of (e _ _ ha), atI_nat (j := 4) rfl, _, rfl, ⟨_, (R.ext (.of e)).ps.sq⟩, fun D nD => lc_it (walk_tup (xs := [.int r.p])) (fun k H2 => Same H1 H2 ∧ PrsL H2 D r.p (if k = 0 then [] else [r.lo + i])) ⟨same_new nD, tupL_nil upd_same⟩ (fun k H2 _ hp => (R.ext (.of (e.trans hp.1))).ps.sq) (fun k y H2 H3 hk ⟨e2, hD2⟩ ⟨e3, hy⟩ => ?_) fun H2 ⟨e2, hD⟩ => ?_⟩
      · subst e3
        have k0 : k = 0 := by
          have : k < 1 := hk
          omega
        subst k0
        obtain rfl : y = .int r.p := (Option.some.inj hy).symm
        rw [if_pos rfl] at hD2
        refine ⟨rfl, ⟨_, rfl, _, rfl, lnk, fun q nq => ?_⟩⟩
        rw [if_neg (by omega)]
        exact tupL_step (F := prV r.p) nD e2 hD2 (same_new nq) (by rw [upd_same]; exact congrArg (fun z => some (HO.tup [V.int z, V.int r.p])) (lo_cast r.lo i)) (by show 0 < 1000000; decide)
      · obtain ⟨as, h1, h2⟩ := hb.ext e2
        obtain ⟨bs, h3, h4⟩ := hD
        have l1 := pair_len h2
        have l2 := pair_len h4
        rw [List.length_range'] at l1
        have l3 : bs.length = 1 := l2
        refine ⟨_, _, _, _, rfl, rfl, h1, h3, by rw [List.length_map, List.length_map]; exact Nat.le_of_lt (small (by omega)), fun p np => ⟨e.trans (e2.trans (same_new np)), p, _, _, rfl, ?_⟩⟩
        rw [range'_snoc]
        exact prs_app h2 h4 np
    · subst eσ
      have en : ((r.hi : Int) + 1 - (r.lo : Int)).toNat = r.hi + 1 - r.lo := by omega
      rw [en] at hb
      exact ⟨_, rfl, hQ b H1 e hb⟩
abbrev N_l_left_for : List Str := ["_law_note", "_law_size", "_law_speed", "_law_found", "_law_time", "_law_mark", "_law_place", "_law_number"]
def sp__law_left_for (K : PySem.W.Frag) : Sp := fun vs H Q _ => ∃ (a : Addr) (r : Rec) (L : Nat) (p : Int), vs = [.ref a, .int (L : Int), .int p] ∧ RecT K H a r ∧ r.Ok ∧ (1 ≤ L ∧ L ≤ 40) ∧ (-9 ≤ p ∧ p ≤ 9) ∧ ∀ b H1, Same H H1 → H1 b = some (.lst (txs (wds L p (rds r.gl)))) → Q (.ref b) H1
theorem cal__law_left_for (T : Tx K mg base) : C8.Cal P w K mg base 2 "_law_left_for" (sp__law_left_for K) [] := by
  obtain ⟨fd, F0⟩ := T.D_l_left_for
  have F : FunD K "_law_left_for" "_law_left_for" (defArgs s_l_left_for) (defBody s_l_left_for) (defScope s_l_left_for) [] [] (He.ga K "_law_left_for") fd := F0
  refine ⟨⟨_, fd, ["_law_note", "_law_size", "_law_speed"], [], F.ok sc_l_left_for (fun vs H Q E h => ?_) (fun cdv A outer s H vs Q E hr h => ?_), T.g__law_left_for, F.kp, F.bindsN (fun _ _ _ _ _ _ us hl => match us, hl with | [_, _, _], _ => rfl), .nil⟩⟩
  · obtain ⟨_, _, _, _, rfl, _⟩ := h
    rfl
  · refine ⟨_, PSs.nox (pss_cons (ps_set (i := 3) sc_l_left_for.nd rfl locV (pe_op op_rep (pe_lst (pa_cons pe_str pa_nil)) (pv 1)))
    (pss_cons (ps_for PassesOwn.never rfl (pi_tupK (K := K) rfl (pe_ix (ix_tupK (K := K) rfl) (pv 0) pe_int (fun _ _ => rfl))) (pg_tupK (K := K) rfl (n := 2) rfl (pgs_cons (pg_name (i := 4) sc_l_left_for.nd rfl locV) (pgs_cons (pg_name (i := 5) sc_l_left_for.nd rfl locV) pgs_nil))) (pss_one (ps_for PassesOwn.never rfl (pi_range1 (by rfl) T.f_range (pa_cons (pe_callB call_len_str (by rfl) T.f_len bt_len (pa_cons (pv 5) pa_nil)) pa_nil)) (pg_name (i := 6) sc_l_left_for.nd rfl locV) (pss_one (ps_if (pt_cmpR op_ne (pe_ix ix_str (pv 5) (pv 6) (fun _ _ => rfl)) pe_str (nomark _)) (pss_cons (ps_set (i := 7) sc_l_left_for.nd rfl locV (pe_op op_mod (pe_callTy call_int1 (by rfl) T.f_int bt_int (pa_cons (pe_op op_add (pv 6) (pe_op op_mul (pv 2) (pv 4))) pa_nil)) (pv 1)))
    (pss_one (ps_asg (C8.pe_c (cal__law_common T) hr (by decide) (by rfl) (pa_cons (C8.pe_c (cal__law_letters_of T) hr (by decide) (by rfl) (pa_cons (pe_ix ix_str (pv 5) (pv 6) (fun _ _ => rfl)) (pa_cons (pe_ix (ix_tupK (K := K) rfl) (pv 0) pe_int (fun _ _ => rfl)) pa_nil))) (pa_cons (pe_ix (ix_listK (K := K) rfl) (pv 3) (pv 7) (fun _ _ => rfl)) pa_nil))) (pg_sub (pv 3) (pv 7) set_list)))) pss_nil)))))
    (pss_one (ps_ret (pv 3))))), ?_⟩
    obtain ⟨a, r, L, p, rfl, ⟨d, ps, gs, gl, ha, R⟩, ok, hL, hp, hQ⟩ := h
    have k8 := ok.w8
    refine ⟨lnk, fun q nq => ⟨_, rfl, _, _, _, rfl, rfl, upd_same, by omega, by omega, ?_, fun f0 nf => ?_⟩⟩
    · show 1 * ((L : Int)).toNat ≤ sizeLine
      exact Nat.le_of_lt (small (by omega))
    have e0 := (same_new (o := .lst [V.str (SX.S al)]) nq).trans (same_new (o := .lst (List.replicate ((L : Int)).toNat [V.str (SX.S al)]).flatten) nf)
    have nf0 : H f0 = none := (same_new nq).free nf
    have hf0 : (upd (upd H q (.lst [V.str (SX.S al)])) f0 (.lst (List.replicate ((L : Int)).toNat [V.str (SX.S al)]).flatten)) f0 = some (.lst (txs (wds L p []))) := by rw [upd_same, wds_nil L p]
    obtain ⟨as, hgl, hP⟩ := R.gl
    have hgl0 := hgl.ext (.of e0)
    refine ⟨_, rfl, _, _, 6, _, rfl, rfl, SqT.of (e0 _ _ ha), atI_nat (j := 6) rfl, _, rfl, ⟨_, hgl0.sq⟩, for_tup (xs := as.map V.ref) (fun i σ H1 => Same H H1 ∧ H1 f0 = some (.lst (txs (wds L p (rds (r.gl.take i))))) ∧ ∃ x y z u, σ = [some (.ref a), some (.int (L : Int)), some (.int p), some (.ref f0), x, y, z, u]) ⟨e0, hf0, none, none, none, none, rfl⟩ (fun i σ H1 _ hp => (hgl.ext (.of hp.1)).sq) (fun i v σ H1 hv ⟨e, hf, x, y, z, u, eσ⟩ => ?_) fun σ H1 ⟨e, hf, x, y, z, u, eσ⟩ => ?_⟩
    · subst eσ
      obtain ⟨b, hb, rfl⟩ := at_map hv
      obtain ⟨⟨t, w⟩, hx, hbx⟩ := pair_at1 hP hb
      have hmem := List.mem_of_getElem? hx
      have hw : w.length = r.W := ok.gw _ hmem
      have hrd : RdOk w := ok.ga _ hmem
      refine ⟨_, [.int t, .str (SX.S w)], rfl, (hbx.ext (.of e)).sq, rfl, _, _, rfl, _, _, rfl, rfl, ?_⟩
      refine ⟨_, rfl, _, rfl, lineS (by omega), _, rfl, by rw [S_ln]; omega, by rw [S_ln]; omega, for_range (n := w.length) (fun j σ H2 => Same H H2 ∧ H2 f0 = some (.lst (txs (wds L p (rds (r.gl.take i) ++ readW t 0 (w.take j))))) ∧ ∃ z u, σ = [some (.ref a), some (.int (L : Int)), some (.int p), some (.ref f0), some (.int t), some (.str (SX.S w)), z, u]) ⟨e, by rw [List.take_zero]; exact (by rw [hf]; show _ = some (HO.lst (txs (wds L p (rds (r.gl.take i) ++ [])))); rw [List.append_nil]), z, u, rfl⟩ (fun j σ H2 hj ⟨e2, hf2, z, u, eσ⟩ => ?_) fun σ H2 ⟨e2, hf2, z, u, eσ⟩ => ?_⟩
      · subst eσ
        have hc : w[j]? = some w[j] := List.getElem?_eq_getElem hj
        generalize w[j] = c at hc
        have ej : (0 + (j : Int)) = j := Int.zero_add _
        have hat : atI (SX.S w).cps.toList (0 + (j : Int)) = some c := by rw [ej]; exact atI_nat hc
        have ht := readW_take (t := t) hc
        refine ⟨_, rfl, _, rfl, _, _, c, rfl, rfl, lineS (by omega), hat, rfl, _, rfl, ?_⟩
        by_cases h63 : c = 63
        · refine iteDN (by rw [h63]; rfl) ⟨e2, ?_, _, _, rfl⟩
          rw [ht, if_pos h63, List.append_nil]
          exact hf2
        · refine iteDNF (fun z => h63 (List.head_eq_of_cons_eq (SX.S_inj (V.str.inj z)))) ?_
          have hcal : c ∈ al := (hrd c (List.mem_of_getElem? hc)).resolve_left h63
          have hL0 : (0 : Int) < (L : Int) := by omega
          obtain ⟨n, hn⟩ := Int.eq_ofNat_of_zero_le (num_lo hL.1 p t j)
          have hnL : n < L := by have := num_hi hL.1 p t j; omega
          have hnum : ((0 + (j : Int)) + p * t) % (L : Int) = (n : Int) := by rw [ej]; exact hn
          refine ⟨_, rfl, _, rfl, _, rfl, _, _, rfl, rfl, .inl (by omega), _, _, rfl, rfl, .inl ⟨_, rfl, _, rfl, _, _, rfl, rfl, hL0, ?_⟩⟩
          refine ⟨_, rfl, _, rfl, _, _, c, rfl, rfl, lineS (by omega), hat, _, rfl, _, _, 5, _, rfl, rfl, SqT.of (e2 _ _ ha), atI_nat (j := 5) rfl, c, _, rfl, hcal, ?_⟩
          refine ⟨_, rfl, _, rfl, _, _, _, V.str (SX.S (FL L p (rds (r.gl.take i) ++ readW t 0 (w.take j)) (n : Int))), rfl, rfl, SqL.of hf2, ?_, [c], _, rfl, by show 1 ≤ 1000000; decide, fun H3 e3 => ?_⟩
          · rw [hnum]
            exact atI_nat (by unfold txs; rw [List.getElem?_map, wds_at hnL]; rfl)
          have hf3 := e3 _ _ hf2
          refine ⟨_, rfl, _, rfl, _, _, _, n, rfl, rfl, hf3, ?_, ?_⟩
          · rw [hnum]
            exact ixN_n (by rw [txs_len, wds_len]; exact hnL)
          refine ⟨same_put (e2.trans e3) nf0, ?_, _, _, rfl⟩
          rw [upd_same, wds_set hL.1 hn, ht, if_neg h63, List.append_assoc]
      · subst eσ
        refine ⟨e2, ?_, _, _, _, _, rfl⟩
        rw [hf2, take_snoc hx, rds_snoc, List.take_length]
    · subst eσ
      rw [List.length_map, pair_len hP, List.take_length] at hf
      exact ⟨_, rfl, hQ f0 H1 e hf⟩
theorem txs_flat : ∀ l : List (List Nat), (txs l).all flatV = true
  | [] => rfl
  | x :: l => txs_flat l
theorem inV_txs (l : List (List Nat)) : (!inV (.str (SX.S [])) (txs l)) = !(l.contains []) := by
  congr 1
  induction l with
  | nil => rfl
  | cons x l ih =>
    show (eqV (.str (SX.S x)) (.str (SX.S [])) || inV (.str (SX.S [])) (txs l)) = _
    rw [ih, List.contains_cons]
    congr 1
    cases x with
    | nil => rfl
    | cons c r =>
      have h1 : eqV (.str (SX.S (c :: r))) (.str (SX.S [])) = false := by
        show (SX.S (c :: r) == SX.S []) = false
        exact beq_eq_false_iff_ne.mpr fun z => List.cons_ne_nil _ _ (SX.S_inj z)
      rw [h1]
      rfl
abbrev N_l_pairs : List Str := ["_law_note", "_law_pair"]
def sp__law_pairs (K : PySem.W.Frag) : Sp := fun vs H Q _ => ∃ (a : Addr) (r : Rec), vs = [.ref a] ∧ RecT K H a r ∧ r.Ok ∧ ∀ b H1, Same H H1 → PrsL H1 b r.p r.Ls → Q (.ref b) H1
theorem cal__law_pairs (T : Tx K mg base) : C8.Cal P w K mg base 3 "_law_pairs" (sp__law_pairs K) [] := by
  obtain ⟨fd, F0⟩ := T.D_l_pairs
  have F : FunD K "_law_pairs" "_law_pairs" (defArgs s_l_pairs) (defBody s_l_pairs) (defScope s_l_pairs) [] [] (He.ga K "_law_pairs") fd := F0
  refine ⟨⟨_, fd, ["_law_note"], [], F.ok sc_l_pairs (fun vs H Q E h => ?_) (fun cdv A outer s H vs Q E hr h => ?_), T.g__law_pairs, F.kp, F.bindsN (fun _ _ _ _ _ _ us hl => match us, hl with | [_], _ => rfl), .nil⟩⟩
  · obtain ⟨_, _, rfl, _⟩ := h
    rfl
  · refine ⟨_, PSs.nox (pss_one (ps_ret (pe_lc (own := [("_law_pair", 1)]) rfl sc_l_pairs.nd (pi_listK (K := K) rfl (C8.pe_c (cal__law_lets T) hr (by decide) (by rfl) (pa_cons (pv 0) pa_nil))) (blkOk_by (own := [("_law_pair", 1)]) (N := N_l_pairs) (sc := defScope s_l_pairs) (by decide +kernel)) (fun _ _ _ _ _ => (pg_name (i := 1) sc_l_pairs.nd rfl locV)) (fun _ _ _ _ _ => (pts_one (pt_cmpR (op_notInK (K := K) rfl) pe_str (C8.pe_c (cal__law_left_for T) hr (by decide) (by rfl) (pa_cons (pv 0) (pa_cons (pe_ix (ix_tupK (K := K) rfl) (pv 1) pe_int (fun _ _ => rfl)) (pa_cons (pe_ix (ix_tupK (K := K) rfl) (pv 1) pe_int (fun _ _ => rfl)) pa_nil)))) rfl))) (fun _ _ _ _ _ => (pv 1))))), ?_⟩
    obtain ⟨a, r, rfl, R, ok, hQ⟩ := h
    have k1 := ok.l1
    have k3 := ok.h40
    refine ⟨_, rfl, a, r, rfl, R, ok, fun b H1 e1 hb => ?_⟩
    obtain ⟨as, has, hP⟩ := hb
    have hl : (as.map V.ref).length = r.hi + 1 - r.lo := by rw [List.length_map, pair_len hP, List.length_range']
    refine ⟨_, rfl, ⟨_, SqL.of has⟩, fun D nD => lc_it (walk_list (xs := as.map V.ref)) (fun i H2 => Same H1 H2 ∧ PrsL H2 D r.p (lsP r i)) ⟨same_new nD, tupL_nil upd_same⟩ (fun i H2 _ hp => SqL.of (hp.1 _ _ has)) (fun i x H2 H3 hi ⟨e, hD⟩ ⟨e3, hv⟩ => ?_) fun H2 ⟨e, hD⟩ => ?_⟩
    · subst e3
      obtain ⟨u, hu, rfl⟩ := at_map hv
      obtain ⟨L, hx, hqL⟩ := pair_at1 hP hu
      have hLi : L = r.lo + i := by
        rw [List.getElem?_range' (by rw [hl] at hi; exact hi)] at hx
        have := Option.some.inj hx
        omega
      have hL1 : 1 ≤ L ∧ L ≤ 40 := by rw [hl] at hi; omega
      have hq2 := e _ _ hqL
      refine ⟨rfl, _, rfl, _, rfl, _, _, 0, _, rfl, rfl, SqT.of hq2, atI_nat (j := 0) rfl, _, rfl, _, _, 1, _, rfl, rfl, SqT.of hq2, atI_nat (j := 1) rfl, a, r, L, r.p, rfl, R.ext (.of (e1.trans e)), ok, hL1, ⟨ok.p1, ok.p9⟩, fun g H3 e3 hg => ?_⟩
      have hfits : r.fits L = !((wds L r.p (rds r.gl)).contains []) := okB_wds (by omega) r.p (rds r.gl)
      refine ⟨g, _, rfl, .inl (SqL.of hg), rfl, txs_flat _, _, rfl, ?_⟩
      rw [if_pos rfl, show (Str.ofString "" : Str) = SX.S [] from rfl, inV_txs, ← hfits, lsP_step, ← hLi]
      by_cases hf : r.fits L = true
      · rw [if_pos hf]
        refine iteTeq hf ?_
        exact ⟨_, rfl, tupL_step (F := prV r.p) nD e hD e3 (e3 _ _ hq2) (by
          have := lsP_len r i
          rw [hl] at hi
          omega)⟩
      · rw [if_neg hf, List.append_nil]
        refine iteFeq (Bool.eq_false_iff.mpr hf) ?_
        exact ⟨e.trans e3, hD.ext e3⟩
    · rw [hl, lsP_all] at hD
      exact hQ D H2 (e1.trans e) hD
end
end Gz
set_option maxHeartbeats 4000000
namespace Gz
open PySem PySem.Spec PyProof.Rows L2
section
variable {P : Program} {w : World} {K : PySem.W.Frag} {mg : Str → Option Value} {base : Heap}
theorem Hd.sabT {H H' : Hp} {a : Addr} {B : Int} (h : Hd H a B) (e : Sab a H H') : SameT H H' := by
  obtain ⟨g, m, c, h, _⟩ := h
  exact SameT.sab e h (by intro xs z; cases z)
theorem Hd.neT {H : Hp} {a D : Addr} {B : Int} {xs : List V} (h : Hd H a B) (n : H D = some (.tup xs)) : D ≠ a := fun z => by
  obtain ⟨g, m, c, h, _⟩ := h
  rw [← z, n] at h
  cases h
theorem Hd.neX {H : Hp} {a D : Addr} {B : Int} {ws : List (List Nat)} (h : Hd H a B) (n : H D = some (.lst (txs ws))) : D ≠ a := fun z => by
  obtain ⟨g, m, c, h, _⟩ := h
  rw [← z, n] at h
  have h1 := HO.lst.inj (Option.some.inj h)
  cases ws with
  | nil => cases h1
  | cons x l => exact V.noConfusion (List.cons.inj h1).1
theorem Hd.neR {H : Hp} {a D : Addr} {B : Int} {as : List Addr} (h : Hd H a B) (n : H D = some (.lst (as.map V.ref))) : D ≠ a := fun z => by
  obtain ⟨g, m, c, h, _⟩ := h
  rw [← z, n] at h
  have h1 := HO.lst.inj (Option.some.inj h)
  cases as with
  | nil => cases h1
  | cons x l => exact V.noConfusion (List.cons.inj h1).1
theorem PrsL.sab {H H' : Hp} {a b : Addr} {B : Int} {p : Int} {Ls : List Nat} (h : Hd H a B) (e : Sab a H H') (q : PrsL H b p Ls) : PrsL H' b p Ls := by
  obtain ⟨as, h1, h2⟩ := q
  exact ⟨as, e _ _ (h.neR h1) h1, Paired.imp h2 fun _ _ z => e _ _ (h.neT z) z⟩
def prD (p : Int) (L : Nat) : PyData := .tuple [.int (L : Int), .int p]
theorem dp_prs {H : Hp} {p : Int} {as : List Addr} {Ls : List Nat} (h : Paired (fun b (L : Nat) => H b = some (.tup (prV p L))) as Ls) : DpAll K H (as.map V.ref) (Ls.map (prD p)) := by
  induction h with
  | nil => exact .nil
  | cons z _ ih => exact .cons (.tup (SqT.of z) (.cons (.int _) (.cons (.int _) .nil))) ih
theorem shp_prs (p : Int) (Ls : List Nat) : SeqAt.shaped (.list (Ls.map (prD p))) = true := by
  have h1 : PyData.canLayAll0 (Ls.map (prD p)) = true := by
    induction Ls with
    | nil => rfl
    | cons L l ih => exact Bool.and_eq_true_iff.mpr ⟨rfl, ih⟩
  have h2 : PyData.depthAll (Ls.map (prD p)) ≤ 1 := by
    induction Ls with
    | nil => exact Nat.zero_le _
    | cons L l ih =>
      show max 1 (PyData.depthAll (l.map (prD p))) ≤ 1
      have := ih (by
        have h3 : PyData.canLayAll0 ((L :: l).map (prD p)) = true := h1
        exact (Bool.and_eq_true_iff.mp h3).2)
      omega
  unfold SeqAt.shaped
  rw [Bool.and_eq_true]
  refine ⟨h1, decide_eq_true ?_⟩
  show PyData.depthAll (Ls.map (prD p)) + 1 ≤ 64
  omega
abbrev N_l_one_of : List Str := ["_law_hand", "_law_some", "_law_other"]
def sp__law_one_of (K : PySem.W.Frag) : Sp := fun vs H Q _ => ∃ (hd b o : Addr) (B p : Int) (Ls : List Nat), vs = [.ref hd, .ref b, .ref o] ∧ Hd H hd B ∧ B ≤ 90000 ∧ PrsL H b p Ls ∧ Ls.length ≤ 1000 ∧ H o = some (.tup (prV 0 1)) ∧ ∀ v (L : Nat) (p1 : Int) H1, Sab hd H H1 → Hd H1 hd (B + 1) → H1 v = some (.tup (prV p1 L)) → (L ∈ Ls ∧ p1 = p ∨ L = 1 ∧ p1 = 0) → Q (.ref v) H1
theorem cal__law_one_of (T : Tx K mg base) : C8.Cal P w K mg base 2 "_law_one_of" (sp__law_one_of K) [] := by
  obtain ⟨fd, F0⟩ := T.D_l_one_of
  have F : FunD K "_law_one_of" "_law_one_of" (defArgs s_l_one_of) (defBody s_l_one_of) (defScope s_l_one_of) [] [] (He.ga K "_law_one_of") fd := F0
  refine ⟨⟨_, fd, ["_law_hand", "_law_some", "_law_other"], [], F.ok sc_l_one_of (fun vs H Q E h => ?_) (fun cdv A outer s H vs Q E hr h => ?_), T.g__law_one_of, F.kp, F.bindsN (fun _ _ _ _ _ _ us hl => match us, hl with | [_, _, _], _ => rfl), .nil⟩⟩
  · obtain ⟨_, _, _, _, _, _, rfl, _⟩ := h
    rfl
  · refine ⟨_, PSs.nox (pss_one (ps_ret (pe_ifExp (pt_cmpR (op_neK (K := K) rfl (u64 hr)) (pv 1) (pe_lst pa_nil) (nomark _)) (pe_ix (ix_listK (K := K) rfl) (pv 1) (C8.pe_c (cal__law_pick T) hr (by decide) (by rfl) (pa_cons (pv 0) (pa_cons (pe_callB (call_lenK (K := K) rfl) (by rfl) T.f_len bt_len (pa_cons (pv 1) pa_nil)) pa_nil))) (fun _ _ => rfl)) (pv 2)))), ?_⟩
    obtain ⟨hd, b, o, B, p, Ls, rfl, hH, hB, hb, hl, ho, hQ⟩ := h
    obtain ⟨as, has, hP⟩ := hb
    have hal := pair_len hP
    refine ⟨_, rfl, lnk, fun u nu => ⟨.list (Ls.map (prD p)), .list [], .lst (SqL.of (same_new nu _ _ has)) (dp_prs (Paired.imp hP fun _ _ z => same_new nu _ _ z)), .lst (SqL.of upd_same) .nil, shp_prs p Ls, by decide +kernel, _, rfl, ?_⟩⟩
    have e0 := same_new (o := .lst []) nu
    cases Ls with
    | nil =>
      refine iteFeq rfl ⟨_, rfl, hQ o 1 0 _ (Sab.of e0) ((hH.ext e0).up (by omega)) (e0 _ _ ho) (.inr ⟨rfl, rfl⟩)⟩
    | cons L0 Ls =>
      refine iteTeq rfl ⟨_, rfl, _, rfl, _, rfl, _, _, rfl, .inl (SqL.of (e0 _ _ has)), hd, _, B, rfl, hH.ext e0, ?_, by omega, fun k H2 e2 h2 hk => ?_⟩
      · rw [List.length_map, hal]
        rw [List.length_cons] at hl ⊢
        omega
      · rw [List.length_map, hal] at hk
        obtain ⟨j, rfl⟩ := Int.eq_ofNat_of_zero_le hk.1
        have hj : j < (L0 :: Ls).length := by omega
        have hx : (L0 :: Ls)[j]? = some (L0 :: Ls)[j] := List.getElem?_eq_getElem hj
        obtain ⟨v, hv, hvq⟩ := pair_at hP hx
        have hE := (hH.ext e0)
        exact ⟨_, _, (j : Int), _, rfl, rfl, SqL.of (e2 _ _ (hE.neR (e0 _ _ has)) (e0 _ _ has)), atI_nat (by rw [List.getElem?_map, hv]; rfl), hQ v _ p H2 (Sab.trans (Sab.of e0) e2) h2 (e2 _ _ (hE.neT (e0 _ _ hvq)) (e0 _ _ hvq)) (.inl ⟨List.getElem_mem hj, rfl⟩)⟩
abbrev N_l_sign : List Str := ["_law_hand", "_law_note", "_law_stock", "_law_size", "_law_speed", "_law_row", "_law_word", "_law_here"]
def sp__law_sign (K : PySem.W.Frag) : Sp := fun vs H Q _ => ∃ (hd a : Addr) (B : Int) (r : Rec) (st : List Nat), vs = [.ref hd, .ref a, .str (SX.S st)] ∧ Hd H hd B ∧ B ≤ 80000 ∧ RecT K H a r ∧ r.Ok ∧ st ≠ [] ∧ st.length ≤ 100 ∧ ∀ v (row : List Nat) (p : Int) H1, Sab hd H H1 → Hd H1 hd (B + 41) → H1 v = some (.tup [.str (SX.S row), .int p]) → row ≠ [] → row.length ≤ 40 → (∀ c ∈ row, c ∈ st) → (-9 ≤ p ∧ p ≤ 9) → Q (.ref v) H1
theorem cal__law_sign (T : Tx K mg base) : C8.Cal P w K mg base 4 "_law_sign" (sp__law_sign K) [] := by
  obtain ⟨fd, F0⟩ := T.D_l_sign
  have F : FunD K "_law_sign" "_law_sign" (defArgs s_l_sign) (defBody s_l_sign) (defScope s_l_sign) [] [] (He.ga K "_law_sign") fd := F0
  refine ⟨⟨_, fd, ["_law_hand", "_law_note", "_law_stock"], [], F.ok sc_l_sign (fun vs H Q E h => ?_) (fun cdv A outer s H vs Q E hr h => ?_), T.g__law_sign, F.kp, F.bindsN (fun _ _ _ _ _ _ us hl => match us, hl with | [_, _, _], _ => rfl), .nil⟩⟩
  · obtain ⟨_, _, _, _, _, rfl, _⟩ := h
    rfl
  · refine ⟨_, PSs.nox (pss_cons (ps_asg (pe_tup (pa_cons (C8.pe_c (cal__law_one_of T) hr (by decide) (by rfl) (pa_cons (pv 0) (pa_cons (C8.pe_c (cal__law_pairs T) hr (by decide) (by rfl) (pa_cons (pv 1) pa_nil)) (pa_cons (pe_tup (pa_cons pe_int (pa_cons pe_int pa_nil))) pa_nil)))) (pa_cons pe_str pa_nil))) (pg_tupK (K := K) rfl (n := 2) rfl (pgs_cons (pg_tupK (K := K) rfl (n := 2) rfl (pgs_cons (pg_name (i := 3) sc_l_sign.nd rfl locV) (pgs_cons (pg_name (i := 4) sc_l_sign.nd rfl locV) pgs_nil))) (pgs_cons (pg_name (i := 5) sc_l_sign.nd rfl locV) pgs_nil))))
    (pss_cons (ps_for PassesOwn.never rfl (pi_listK (K := K) rfl (C8.pe_c (cal__law_left_for T) hr (by decide) (by rfl) (pa_cons (pv 1) (pa_cons (pv 3) (pa_cons (pv 4) pa_nil))))) (pg_name (i := 6) sc_l_sign.nd rfl locV) (C8.pss_cut (ps_set (i := 7) sc_l_sign.nd rfl locV (pe_ifExp (pt_cmpR op_eq (C8.pe_c (cal__law_common T) hr (by decide) (by rfl) (pa_cons (pv 2) (pa_cons (pv 6) pa_nil))) pe_str (nomark _)) (pv 2) (C8.pe_c (cal__law_common T) hr (by decide) (by rfl) (pa_cons (pv 2) (pa_cons (pv 6) pa_nil)))))
    (pss_one (ps_set (i := 5) sc_l_sign.nd rfl locV (pe_op op_add_str (pv 5) (pe_ix ix_str (pv 7) (C8.pe_c (cal__law_pick T) hr (by decide) (by rfl) (pa_cons (pv 0) (pa_cons (pe_callB call_len_str (by rfl) T.f_len bt_len (pa_cons (pv 7) pa_nil)) pa_nil))) (fun _ _ => rfl)))))))
    (pss_one (ps_ret (pe_tup (pa_cons (pv 5) (pa_cons (pv 4) pa_nil))))))), ?_⟩
    obtain ⟨hd, a, B, r, st, rfl, hH, hB, R, ok, hst, hsl, hQ⟩ := h
    refine ⟨_, rfl, _, rfl, a, r, rfl, R, ok, fun b H1 e1 hb => ⟨lnk, fun o no => ?_⟩⟩
    have e2 := e1.trans (same_new (o := .tup (prV 0 1)) no)
    refine ⟨hd, b, o, B, r.p, r.Ls, rfl, hH.ext e2, by omega, hb.ext (same_new no), Nat.le_trans (Ls_len ok) (by decide), upd_same, fun v L p H3 e3 h3 hv hor => ⟨lnk, fun q nq => ?_⟩⟩
    have hLp : (1 ≤ L ∧ L ≤ 40) ∧ (-9 ≤ p ∧ p ≤ 9) := by
      rcases hor with ⟨h1, h2⟩ | ⟨h1, h2⟩
      · have := mem_Ls ok h1
        have k1 := ok.p1
        have k2 := ok.p9
        rw [h2]
        exact ⟨⟨this.1, this.2.1⟩, k1, k2⟩
      · rw [h1, h2]; decide
    have e4 : Sab hd H (upd H3 q (.tup [.ref v, .str (Str.ofString "")])) := Sab.trans (Sab.trans (Sab.of e2) e3) (Sab.of (same_new nq))
    have h4 := h3.ext (same_new (o := .tup [.ref v, .str (Str.ofString "")]) nq)
    have hv4 := same_new (o := .tup [.ref v, .str (Str.ofString "")]) nq _ _ hv
    refine ⟨_, _, rfl, SqT.of upd_same, rfl, _, _, rfl, ⟨_, _, rfl, SqT.of hv4, rfl, _, _, rfl, _, _, rfl, rfl, _, _, rfl, rfl, ?_⟩⟩
    refine ⟨_, rfl, _, rfl, _, rfl, a, r, L, p, rfl, R.ext (hH.sabT e4), ok, hLp.1, hLp.2, fun g H5 e5 hg => ?_⟩
    have e6 := Sab.trans e4 (Sab.of e5)
    refine ⟨_, rfl, ⟨_, SqL.of hg⟩, for_list (xs := txs (wds L p (rds r.gl))) (fun i σ H6 => Sab hd H H6 ∧ Hd H6 hd (B + 1 + i) ∧ H6 g = some (.lst (txs (wds L p (rds r.gl)))) ∧ ∃ (row : List Nat) (x y : Option V), σ = [some (.ref hd), some (.ref a), some (.str (SX.S st)), some (.int (L : Int)), some (.int p), some (.str (SX.S row)), x, y] ∧ row.length = i ∧ ∀ c ∈ row, c ∈ st) ⟨e6, (h4.ext e5).up (by omega), hg, [], none, none, rfl, rfl, fun c hc => nomatch hc⟩ (fun i σ H6 _ hp => SqL.of hp.2.2.1) (fun i w σ H6 hw ⟨e7, h7, hg7, row, x, y, eσ, hrl, hrm⟩ => ?_) fun σ H6 ⟨e7, h7, hg7, row, x, y, eσ, hrl, hrm⟩ => ?_⟩
    · subst eσ
      have hil : i < L := by
        have := (List.getElem?_eq_some_iff.mp hw).1
        rw [txs_len, wds_len] at this
        exact this
      have hw2 : w = .str (SX.S (FL L p (rds r.gl) (i : Int))) := by
        unfold txs at hw
        rw [List.getElem?_map, wds_at hil] at hw
        exact (Option.some.inj hw).symm
      subst hw2
      generalize FL L p (rds r.gl) (i : Int) = w
      refine ⟨fun σ' H' => Same H6 H' ∧ ∃ here : List Nat, σ' = [some (.ref hd), some (.ref a), some (.str (SX.S st)), some (.int (L : Int)), some (.int p), some (.str (SX.S row)), some (.str (SX.S w)), some (.str (SX.S here))] ∧ here ≠ [] ∧ here.length ≤ 100 ∧ ∀ c ∈ here, c ∈ st, ?_, fun σ' H' ⟨e8, here, eσ, hn, hl, hm⟩ => ?_⟩
      · refine ⟨_, rfl, _, rfl, st, w, rfl, by omega, fun H7 e8 => ⟨rfl, _, rfl, ite2D (fun _ => ⟨_, rfl, e8, st, rfl, hst, hsl, fun c hc => hc⟩) fun hne => ⟨_, rfl, _, rfl, st, w, rfl, by omega, fun H8 e9 => ⟨e8.trans e9, _, rfl, fun z => hne (by rw [z]; rfl), Nat.le_trans (List.length_filter_le _ _) hsl, fun c hc => (List.mem_filter.mp hc).1⟩⟩⟩⟩
      · subst eσ
        have hpos := List.length_pos_iff.mpr hn
        refine ⟨_, rfl, _, rfl, _, rfl, _, rfl, _, rfl, lineS (by omega), hd, _, _, rfl, h7.ext e8, by rw [S_ln]; omega, by omega, fun k H8 e9 h8 hk => ?_⟩
        rw [S_ln] at hk
        obtain ⟨j, rfl⟩ := Int.eq_ofNat_of_zero_le hk.1
        have hj : j < here.length := by omega
        have hx : here[j]? = some here[j] := List.getElem?_eq_getElem hj
        have hg8 := e8 _ _ hg7
        refine ⟨_, _, here[j], rfl, rfl, lineS (by omega), atI_nat hx, _, _, rfl, rfl, ?_, Sab.trans (Sab.trans e7 (Sab.of e8)) e9, h8.up (by omega), e9 _ _ ((h7.ext e8).neX hg8) hg8, row ++ [here[j]], some (.str (SX.S w)), some (.str (SX.S here)), ?_, by rw [List.length_append, hrl]; rfl, fun c hc => ?_⟩
        · exact Nat.le_of_lt (small (by rw [S_ln]; show row.length + 1 < 1000000; omega))
        · rw [show (⟨#[here[j]]⟩ : Str) = SX.S [here[j]] from rfl, SX.S_cat]
          rfl
        · rcases List.mem_append.mp hc with hc | hc
          · exact hrm c hc
          · rw [List.mem_singleton.mp hc]; exact hm _ (List.getElem_mem hj)
    · subst eσ
      rw [txs_len, wds_len] at hrl
      refine ⟨_, rfl, _, rfl, lnk, fun v nv => hQ v row p _ (Sab.trans e7 (Sab.of (same_new nv))) ?_ upd_same (fun z => by rw [z] at hrl; have : 0 = L := hrl; omega) (by omega) hrm hLp.2⟩
      refine (h7.ext (same_new nv)).up ?_
      rw [txs_len, wds_len]
      omega
end
end Gz
set_option maxHeartbeats 4000000
namespace Gz
open PySem PySem.Spec PyProof.Rows L2
section
variable {P : Program} {w : World} {K : PySem.W.Frag} {mg : Str → Option Value} {base : Heap}
abbrev N_l_reading : List Str := ["_law_hand", "_law_here", "_law_note", "_law_stock", "_law_found", "_law_place", "_law_way", "_law_other", "_law_letter", "_law_mark"]
def sp__law_reading (K : PySem.W.Frag) : Sp := fun vs H Q _ => ∃ (hd a : Addr) (B : Int) (here : List Nat) (r : Rec) (st : List Nat), vs = [.ref hd, .str (SX.S here), .ref a, .str (SX.S st)] ∧ Hd H hd B ∧ B ≤ 80000 ∧ here.length ≤ 8 ∧ (∀ c ∈ here, c ∈ al) ∧ RecT K H a r ∧ st ≠ [] ∧ st.length ≤ 100 ∧ (∀ c ∈ st, c ∈ al) ∧ ∀ (w : List Nat) H1, Sab hd H H1 → Hd H1 hd (B + 16) → w.length = here.length → RdOk w → Q (.str (SX.S w)) H1
theorem cal__law_reading (T : Tx K mg base) : C8.Cal P w K mg base 2 "_law_reading" (sp__law_reading K) [] := by
  obtain ⟨fd, F0⟩ := T.D_l_reading
  have F : FunD K "_law_reading" "_law_reading" (defArgs s_l_reading) (defBody s_l_reading) (defScope s_l_reading) [] [] (He.ga K "_law_reading") fd := F0
  refine ⟨⟨_, fd, ["_law_hand", "_law_here", "_law_note", "_law_stock"], [], F.ok sc_l_reading (fun vs H Q E h => ?_) (fun cdv A outer s H vs Q E hr h => ?_), T.g__law_reading, F.kp, F.bindsN (fun _ _ _ _ _ _ us hl => match us, hl with | [_, _, _, _], _ => rfl), .nil⟩⟩
  · obtain ⟨_, _, _, _, _, _, rfl, _⟩ := h
    rfl
  · refine ⟨_, PSs.nox (pss_cons (ps_set (i := 4) sc_l_reading.nd rfl locV pe_str)
    (pss_cons (ps_for PassesOwn.never rfl (pi_range1 (by rfl) T.f_range (pa_cons (pe_callB call_len_str (by rfl) T.f_len bt_len (pa_cons (pv 1) pa_nil)) pa_nil)) (pg_name (i := 5) sc_l_reading.nd rfl locV) (pss_cons (ps_par (i := 6) (j := 7) rfl sc_l_reading.nd rfl rfl (by decide) rfl rfl (pa_cons (C8.pe_c (cal__law_pick T) hr (by decide) (by rfl) (pa_cons (pv 0) (pa_cons pe_int pa_nil))) (pa_cons (pe_ix ix_str (pv 3) (C8.pe_c (cal__law_pick T) hr (by decide) (by rfl) (pa_cons (pv 0) (pa_cons (pe_callB call_len_str (by rfl) T.f_len bt_len (pa_cons (pv 3) pa_nil)) pa_nil))) (fun _ _ => rfl)) pa_nil)) rfl)
    (C8.pss_cut (ps_set (i := 8) sc_l_reading.nd rfl locV (pe_ifExp (pt_cmpR op_eq (pv 6) pe_int (nomark _)) (pv 7) (pe_ix ix_str (pv 1) (pv 5) (fun _ _ => rfl))))
    (C8.pss_cut (ps_set (i := 9) sc_l_reading.nd rfl locV (pe_ifExp (pw_and (pt_cmpR op_eq (pe_op op_mod (pe_callTy call_int1 (by rfl) T.f_int bt_int (pa_cons (pv 6) pa_nil)) pe_int) pe_int (nomark _)) (pw_and1 (pt_cmpR op_in_sign (pv 8) (pe_joinK (K := K) rfl pe_str (pe_ix (ix_tupK (K := K) rfl) (pv 2) pe_int (fun _ _ => rfl))) rfl))).pt pe_never (pv 8)))
    (pss_one (ps_set (i := 4) sc_l_reading.nd rfl locV (pe_op op_add_str (pv 4) (pe_ifExp (pw_or (pt_cmpR op_lt (pv 6) pe_int (nomark _)) (pw_or1 (pt_cmpR (op_inK (K := K) rfl) (pv 5) (pe_ix (ix_tupK (K := K) rfl) (pv 2) pe_int (fun _ _ => rfl)) rfl))).pt pe_str (pv 9)))))))))
    (pss_one (ps_ret (pv 4))))), ?_⟩
    obtain ⟨hd, a, B, here, r, st, rfl, hH, hB, hhl, hha, ⟨d, ps, gs, gl, ha, R⟩, hst, hsl, hsa, hQ⟩ := h
    have hpos := List.length_pos_iff.mpr hst
    refine ⟨_, rfl, _, rfl, lineS (by omega), _, rfl, by rw [S_ln]; omega, by rw [S_ln]; omega, for_range (n := here.length) (fun i σ H1 => Sab hd H H1 ∧ Hd H1 hd (B + 2 * i) ∧ ∃ (w : List Nat) (x y z u v : Option V), σ = [some (.ref hd), some (.str (SX.S here)), some (.ref a), some (.str (SX.S st)), some (.str (SX.S w)), x, y, z, u, v] ∧ w.length = i ∧ RdOk w) ⟨.refl _ _, hH.up (by omega), [], none, none, none, none, none, rfl, rfl, fun c hc => nomatch hc⟩ (fun i σ H1 hi ⟨e, h1, w, x, y, z, u, v, eσ, hwl, hwr⟩ => ?_) fun σ H1 ⟨e, h1, w, x, y, z, u, v, eσ, hwl, hwr⟩ => ?_⟩
    · subst eσ
      refine ⟨_, rfl, hd, 9, _, rfl, h1, by decide, by omega, fun k H2 e2 h2 hk => ?_⟩
      refine ⟨_, rfl, _, rfl, _, rfl, _, rfl, lineS (by omega), hd, _, _, rfl, h2, by rw [S_ln]; omega, by omega, fun m H3 e3 h3 hm => ?_⟩
      rw [S_ln] at hm
      obtain ⟨j, rfl⟩ := Int.eq_ofNat_of_zero_le hm.1
      have hj : j < st.length := by omega
      have hx : st[j]? = some st[j] := List.getElem?_eq_getElem hj
      have hsj : st[j] ∈ al := hsa _ (List.getElem_mem hj)
      generalize st[j] = c1 at hx hsj
      have ej : (0 + (i : Int)) = i := Int.zero_add _
      have hc : here[i]? = some here[i] := List.getElem?_eq_getElem hi
      have hci : here[i] ∈ al := hha _ (List.getElem_mem hi)
      generalize here[i] = c2 at hc hci
      have hat : atI (SX.S here).cps.toList (0 + (i : Int)) = some c2 := by rw [ej]; exact atI_nat hc
      have e4 := Sab.trans e (Sab.trans e2 e3)
      have sT := hH.sabT e4
      have ha3 := sT _ _ ha
      have R3 := R.ext sT
      refine ⟨_, _, c1, rfl, rfl, lineS (by omega), atI_nat hx, _, _, rfl, ?_⟩
      refine ⟨fun σ' H' => H3 = H' ∧ ∃ c, c ∈ al ∧ σ' = [some (.ref hd), some (.str (SX.S here)), some (.ref a), some (.str (SX.S st)), some (.str (SX.S w)), some (.int (0 + (i : Int))), some (.int k), some (.str (SX.S [c1])), some (.str (SX.S [c])), v], ⟨_, rfl, rfl, _, rfl, ite2D (fun _ => ⟨_, rfl, rfl, c1, hsj, rfl⟩) fun _ => ⟨_, rfl, _, rfl, _, _, c2, rfl, rfl, lineS (by omega), hat, rfl, c2, hci, rfl⟩⟩, fun σ' H' ⟨eH, c, hca, eσ⟩ => ?_⟩
      subst eσ eH
      refine ⟨fun σ' H' => H3 = H' ∧ σ' = [some (.ref hd), some (.str (SX.S here)), some (.ref a), some (.str (SX.S st)), some (.str (SX.S w)), some (.int (0 + (i : Int))), some (.int k), some (.str (SX.S [c1])), some (.str (SX.S [c])), some (.str (SX.S [c]))], ?_, fun σ' H' ⟨eH, eσ⟩ => ?_⟩
      · refine ⟨_, rfl, .inl ⟨_, rfl, _, _, rfl, rfl, (by decide : (0 : Int) < 2), rfl, _, rfl, ite2D (fun _ => ⟨_, rfl, ⟨_, rfl⟩, _, rfl, _, _, 5, _, rfl, rfl, SqT.of ha3, atI_nat (j := 5) rfl, _, _, [], rfl, rfl, .inr R3.gs.sq, by decide, c, SX.S [], rfl, rfl, _, rfl, (by refine iteDF (by simp) ?_; exact ⟨_, rfl, rfl, rfl⟩)⟩) fun _ => (by refine iteF ?_; exact ⟨_, rfl, rfl, rfl⟩)⟩⟩
      subst eσ eH
      have fin : ∀ x : List Nat, x.length = 1 → RdOk x → ∃ (w1 : List Nat) (x1 y z u v : Option V), [some (V.ref hd), some (.str (SX.S here)), some (.ref a), some (.str (SX.S st)), some (.str (SX.S w ++ SX.S x)), some (.int (0 + (i : Int))), some (.int k), some (.str (SX.S [c1])), some (.str (SX.S [c])), some (.str (SX.S [c]))] = [some (.ref hd), some (.str (SX.S here)), some (.ref a), some (.str (SX.S st)), some (.str (SX.S w1)), x1, y, z, u, v] ∧ w1.length = i + 1 ∧ RdOk w1 := fun x hx1 hx2 => ⟨w ++ x, _, _, _, _, _, by rw [SX.S_cat], by rw [List.length_append, hwl, hx1], fun d hd => by
        rcases List.mem_append.mp hd with hd | hd
        · exact hwr d hd
        · exact hx2 d hd⟩
      have hq : RdOk [63] := fun d hd => .inl (List.mem_singleton.mp hd)
      have hcr : RdOk [c] := fun d hd => .inr (by rw [List.mem_singleton.mp hd]; exact hca)
      have h3' : Hd H3 hd (B + 2 * ((i + 1 : Nat) : Int)) := h3.up (by omega)
      have hz : ∀ x : List Nat, x.length = 1 → (SX.S w).length + (SX.S x).length ≤ sizeLine := fun x hx => Nat.le_of_lt (small (by rw [S_ln, S_ln]; omega))
      refine ⟨_, rfl, _, rfl, _, _, rfl, rfl, _, rfl, ite2D (fun _ => iteT ⟨_, _, rfl, rfl, hz [63] rfl, e4, h3', fin [63] rfl hq⟩) fun _ => ⟨_, rfl, _, rfl, _, _, 1, _, rfl, rfl, SqT.of ha3, atI_nat (j := 1) rfl, _, [], rfl, .inr R3.d.sq, rfl, rfl, _, rfl, iteF ⟨_, rfl, _, _, rfl, rfl, hz [c] rfl, e4, h3', fin [c] rfl hcr⟩⟩⟩
    · subst eσ
      exact ⟨_, rfl, hQ w H1 e (h1.up (by omega)) hwl hwr⟩
abbrev N_l_fitting : List Str := ["_law_hand", "_law_note", "_law_stock", "_law_sign_here", "_law_time"]
def sp__law_fitting (K : PySem.W.Frag) : Sp := fun vs H Q _ => ∃ (hd a : Addr) (B : Int) (r : Rec) (st : List Nat), vs = [.ref hd, .ref a, .str (SX.S st)] ∧ Hd H hd B ∧ B ≤ 70000 ∧ RecT K H a r ∧ r.Ok ∧ st ≠ [] ∧ st.length ≤ 100 ∧ (∀ c ∈ st, c ∈ al) ∧ ∀ v (t : Int) (w : List Nat) H1, Sab hd H H1 → Hd H1 hd (B + 60) → H1 v = some (.tup [.int t, .str (SX.S w)]) → (0 ≤ t ∧ t ≤ 10 ^ 30) → w.length = r.W → RdOk w → Q (.ref v) H1
theorem cal__law_fitting (T : Tx K mg base) : C8.Cal P w K mg base 5 "_law_fitting" (sp__law_fitting K) [] := by
  obtain ⟨fd, F0⟩ := T.D_l_fitting
  have F : FunD K "_law_fitting" "_law_fitting" (defArgs s_l_fitting) (defBody s_l_fitting) (defScope s_l_fitting) [] [] (He.ga K "_law_fitting") fd := F0
  refine ⟨⟨_, fd, ["_law_hand", "_law_note", "_law_stock"], [], F.ok sc_l_fitting (fun vs H Q E h => ?_) (fun cdv A outer s H vs Q E hr h => ?_), T.g__law_fitting, F.kp, F.bindsN (fun _ _ _ _ _ _ us hl => match us, hl with | [_, _, _], _ => rfl), .nil⟩⟩
  · obtain ⟨_, _, _, _, _, rfl, _⟩ := h
    rfl
  · refine ⟨_, PSs.nox (pss_cons (ps_par (i := 3) (j := 4) rfl sc_l_fitting.nd rfl rfl (by decide) rfl rfl (pa_cons (C8.pe_c (cal__law_sign T) hr (by decide) (by rfl) (pa_cons (pv 0) (pa_cons (pv 1) (pa_cons (pv 2) pa_nil)))) (pa_cons (C8.pe_c (cal__law_moment T) hr (by decide) (by rfl) (pa_cons (pv 0) pa_nil)) pa_nil)) rfl)
    (pss_one (ps_ret (pe_tup (pa_cons (pv 4) (pa_cons (C8.pe_c (cal__law_reading T) hr (by decide) (by rfl) (pa_cons (pv 0) (pa_cons (C8.pe_c (cal__law_window T) hr (by decide) (by rfl) (pa_cons (pe_ix (ix_tupK (K := K) rfl) (pv 3) pe_int (fun _ _ => rfl)) (pa_cons (pe_ix (ix_tupK (K := K) rfl) (pv 3) pe_int (fun _ _ => rfl)) (pa_cons (pv 4) (pa_cons (pe_ix (ix_tupK (K := K) rfl) (pv 1) pe_int (fun _ _ => rfl)) pa_nil))))) (pa_cons (pv 1) (pa_cons (pv 2) pa_nil))))) pa_nil)))))), ?_⟩
    obtain ⟨hd, a, B, r, st, rfl, hH, hB, R, ok, hst, hsl, hsa, hQ⟩ := h
    have k8 := ok.w8
    refine ⟨_, rfl, _, rfl, _, rfl, hd, a, B, r, st, rfl, hH, by omega, R, ok, hst, hsl, fun q row p H1 e1 h1 hq hr0 hrl hrm hp => ?_⟩
    refine ⟨_, rfl, hd, _, rfl, h1, by omega, fun t H2 e2 h2 ht => ⟨_, _, rfl, ?_⟩⟩
    have hq2 := h1.sabT e2 _ _ hq
    have e12 := Sab.trans e1 e2
    have R2 := R.ext (hH.sabT e12)
    have R2' := R2
    obtain ⟨d, ps, gs, gl, ha, RR⟩ := R2'
    refine ⟨_, rfl, _, rfl, _, rfl, _, _, 0, _, rfl, rfl, SqT.of hq2, atI_nat (j := 0) rfl, _, rfl, _, _, 1, _, rfl, rfl, SqT.of hq2, atI_nat (j := 1) rfl, _, rfl, _, rfl, _, _, 0, _, rfl, rfl, SqT.of ha, atI_nat (j := 0) rfl, row, p, t, r.W, rfl, hr0, by omega, hp, by omega, fun l H3 e3 hl hlm => ?_⟩
    refine ⟨_, rfl, _, rfl, hd, a, _, l, r, st, rfl, h2.ext e3, by omega, by omega, fun c hc => hsa c (hrm c (hlm c hc)), R2.ext (.of e3), hst, hsl, hsa, fun w H4 e4 h4 hw hwr => ⟨lnk, fun v nv => ?_⟩⟩
    exact hQ v t w _ (Sab.trans (Sab.trans e12 (Sab.of e3)) (Sab.trans e4 (Sab.of (same_new nv)))) ((h4.ext (same_new nv)).up (by omega)) upd_same ht (by omega) hwr
abbrev N_l_many : List Str := ["_law_note", "_law_total", "_law_size", "_law_speed", "_law_many_here", "_law_word"]
def sp__law_many (K : PySem.W.Frag) : Sp := fun vs H Q _ => ∃ (a : Addr) (r : Rec), vs = [.ref a] ∧ RecT K H a r ∧ r.Ok ∧ ∀ H1, Same H H1 → Q (.int r.total) H1
theorem cal__law_many (T : Tx K mg base) : C8.Cal P w K mg base 4 "_law_many" (sp__law_many K) [] := by
  obtain ⟨fd, F0⟩ := T.D_l_many
  have F : FunD K "_law_many" "_law_many" (defArgs s_l_many) (defBody s_l_many) (defScope s_l_many) [] [] (He.ga K "_law_many") fd := F0
  refine ⟨⟨_, fd, ["_law_note"], [], F.ok sc_l_many (fun vs H Q E h => ?_) (fun cdv A outer s H vs Q E hr h => ?_), T.g__law_many, F.kp, F.bindsN (fun _ _ _ _ _ _ us hl => match us, hl with | [_], _ => rfl), .nil⟩⟩
  · obtain ⟨_, _, rfl, _⟩ := h
    rfl
  · refine ⟨_, PSs.nox (pss_cons (ps_set (i := 1) sc_l_many.nd rfl locV pe_int)
    (pss_cons (ps_for PassesOwn.never rfl (pi_listK (K := K) rfl (C8.pe_c (cal__law_pairs T) hr (by decide) (by rfl) (pa_cons (pv 0) pa_nil))) (pg_tupK (K := K) rfl (n := 2) rfl (pgs_cons (pg_name (i := 2) sc_l_many.nd rfl locV) (pgs_cons (pg_name (i := 3) sc_l_many.nd rfl locV) pgs_nil))) (pss_cons (ps_set (i := 4) sc_l_many.nd rfl locV pe_int)
    (pss_cons (ps_for PassesOwn.never rfl (pi_listK (K := K) rfl (C8.pe_c (cal__law_left_for T) hr (by decide) (by rfl) (pa_cons (pv 0) (pa_cons (pv 2) (pa_cons (pv 3) pa_nil))))) (pg_name (i := 5) sc_l_many.nd rfl locV) (pss_one (ps_set (i := 4) sc_l_many.nd rfl locV (pe_op op_mul (pv 4) (pe_callB call_len_str (by rfl) T.f_len bt_len (pa_cons (pv 5) pa_nil))))))
    (pss_one (ps_set (i := 1) sc_l_many.nd rfl locV (pe_op op_add (pv 1) (pv 4)))))))
    (pss_one (ps_ret (pv 1))))), ?_⟩
    obtain ⟨a, r, rfl, R, ok, hQ⟩ := h
    refine ⟨_, rfl, a, r, rfl, R, ok, fun b H1 e1 ⟨as, has, hP⟩ => ?_⟩
    have hl : (as.map V.ref).length = r.Ls.length := by rw [List.length_map, pair_len hP]
    refine ⟨_, rfl, ⟨_, SqL.of has⟩, for_list (xs := as.map V.ref) (fun i σ H2 => Same H1 H2 ∧ ∃ x y z u, σ = [some (.ref a), some (.int ((r.Ls.take i).foldl (fun a L => a + prodL (r.wds L)) 0)), x, y, z, u]) ⟨.refl _, none, none, none, none, rfl⟩ (fun i σ H2 _ hp => SqL.of (hp.1 _ _ has)) (fun i v σ H2 hv ⟨e, x, y, z, u, eσ⟩ => ?_) fun σ H2 ⟨e, x, y, z, u, eσ⟩ => ?_⟩
    · subst eσ
      obtain ⟨q, hu, rfl⟩ := at_map hv
      obtain ⟨L, hx, hqL⟩ := pair_at1 hP hu
      obtain ⟨m1, m2, m3⟩ := mem_Ls ok (List.mem_of_getElem? hx)
      refine ⟨_, _, rfl, SqT.of (e _ _ hqL), rfl, _, _, rfl, _, _, rfl, rfl, ?_⟩
      refine ⟨_, rfl, _, rfl, _, rfl, a, r, L, r.p, rfl, R.ext (.of (e1.trans e)), ok, ⟨m1, m2⟩, ⟨ok.p1, ok.p9⟩, fun g H3 e3 hg => ?_⟩
      refine ⟨_, rfl, ⟨_, SqL.of hg⟩, for_list (xs := txs (r.wds L)) (fun j σ H4 => H4 = H3 ∧ ∃ u, σ = [some (.ref a), some (.int ((r.Ls.take i).foldl (fun a L => a + prodL (r.wds L)) 0)), some (.int (L : Int)), some (.int r.p), some (.int (prodL ((r.wds L).take j))), u]) ⟨rfl, _, rfl⟩ (fun i σ H2 _ hp => by rw [hp.1]; exact SqL.of hg) (fun j v σ H4 hv ⟨eH, u, eσ⟩ => ?_) fun σ H4 ⟨eH, u, eσ⟩ => ?_⟩
      · subst eσ eH
        unfold txs at hv
        rw [List.getElem?_map] at hv
        cases hw : (r.wds L)[j]? with
        | none => rw [hw] at hv; cases hv
        | some w =>
          rw [hw] at hv
          obtain rfl := (Option.some.inj hv).symm
          have hwl : w.length ≤ 27 := by
            obtain ⟨n, _, rfl⟩ := List.mem_map.mp (List.mem_of_getElem? hw)
            exact (FL_shp (rds_al ok.ga) _).len
          refine ⟨_, rfl, _, rfl, _, rfl, lineS (by omega), _, _, rfl, rfl, .inr ⟨by omega, by rw [S_ln]; omega⟩, rfl, some (.str (SX.S w)), ?_⟩
          rw [take_snoc hw, prodL_snoc, S_ln]
          rfl
      · subst eσ eH
        rw [txs_len, List.take_length]
        refine ⟨_, rfl, _, rfl, _, _, rfl, rfl, e.trans e3, some (.int (L : Int)), some (.int r.p), some (.int (prodL (r.wds L))), u, ?_⟩
        rw [take_snoc hx, List.foldl_append]
        rfl
    · subst eσ
      rw [hl, List.take_length]
      exact ⟨_, rfl, hQ H2 (e1.trans e)⟩
end
end Gz
set_option maxHeartbeats 4000000
/-! len(set(list(text))), min(list(text)). -/
namespace Gz
open PySem PySem.Spec PyProof.Rows L2
def stepS (σ : List Str) (v : Str) : List Str := if σ.any (· == v) then σ else σ ++ [v]
def dS (xs : List Str) : List Str := xs.foldl stepS []
theorem stepS_any (σ : List Str) (v k : Str) : (stepS σ v).any (· == k) = (σ.any (· == k) || decide (k = v)) := by
  unfold stepS
  by_cases h : σ.any (· == v) = true
  · rw [if_pos h]
    by_cases e : k = v
    · subst e; rw [h]; simp
    · simp [e]
  · rw [if_neg h, List.any_append]
    by_cases e : k = v
    · subst e; simp
    · have hb : (v == k) = false := beq_eq_false_iff_ne.mpr fun h' => e h'.symm
      simp [hb, e]
theorem stepS_len (σ : List Str) (v : Str) : (stepS σ v).length = if σ.any (· == v) then σ.length else σ.length + 1 := by
  unfold stepS; split <;> simp
theorem dS_le : ∀ (xs : List Str) (σ : List Str), (xs.foldl stepS σ).length ≤ σ.length + xs.length
  | [], σ => Nat.le_refl _
  | x :: xs, σ => by
    have h1 := dS_le xs (stepS σ x)
    have h2 : (stepS σ x).length ≤ σ.length + 1 := by rw [stepS_len]; split <;> omega
    rw [List.foldl_cons, List.length_cons]
    omega
theorem dS_snoc {xs : List Str} {i : Nat} (h : i < xs.length) : dS (xs.take (i + 1)) = stepS (dS (xs.take i)) (xs.getD i Str.empty) := by
  have e : xs[i]? = some (xs.getD i Str.empty) := by simp [h]
  rw [take_snoc e]
  unfold dS
  rw [List.foldl_append]
  rfl
section
variable {prog : Program} {w : World} {A : Around} {R : Result → Shared → Prop} {I : Addr} {fp wr : List Addr} {G : Array GenState → Array GenState → Prop} {n : Nat} {P : Nat → Value → Prop} {St : Nat → Shared → Prop}
theorem loopD (W : WalksS prog w A.in1 I fp wr G n P St) (S : Addr) (hSf : S ∉ fp) (xs : List Str) (hsz : xs.length = n) (hn1 : n + 1 < scanBound)
    (hval : ∀ i v, P i v → ∃ t, v = .str (xs.getD i Str.empty) t) :
    ∀ (k i : Nat) (s : Shared), n - i = k → i ≤ n → St i s →
      s.heap.SetOf (PySem.strKind prog w) S (fun k' => (dS (xs.take i)).any (· == k')) (dS (xs.take i)).length →
      (∀ s', Moved (S :: wr) G s s' → s'.heap.SetOf (PySem.strKind prog w) S (fun k' => (dS (xs.take n)).any (· == k')) (dS (xs.take n)).length → R (.ok (.ret .none)) s') →
      codeAny (model prog w) A (.builtin "set.update.loop" ⟨[.ref S, .ref I], []⟩) R s := by
  have hSw : S ∉ wr := fun h => hSf (W.sub _ h)
  have hsub : ∀ b ∈ wr, b ∈ S :: wr := fun b hb => List.mem_cons_of_mem _ hb
  intro k
  induction k with
  | zero =>
    intro i s hk hi hst hS hR
    have hin : i = n := by omega
    subst hin
    refine codeAny_builtin PyProof.Rows.F.entry_set_update_loop ?_
    rw [Around.under_plainId PyProof.Rows.F.plain_set_update_loop _]
    show wpAny _ A.in1 (pyNext (.ref I) >>= _) _ _ s
    refine wpAny_bind (W.done s _ _ hst fun s' hm => ?_)
    show wpAny _ A.in1 (ret Value.none) _ _ s'
    exact wpAny_pure (hR s' (hm.mono hsub) (by
      obtain ⟨o, es, ep, t, ho, rest⟩ := hS
      exact ⟨o, es, ep, t, hm.heap S _ hSw ho, rest⟩))
  | succ k ih =>
    intro i s hk hi hst hS hR
    have hlt : i < n := by omega
    refine codeAny_builtin PyProof.Rows.F.entry_set_update_loop ?_
    rw [Around.under_plainId PyProof.Rows.F.plain_set_update_loop _]
    show wpAny _ A.in1 (pyNext (.ref I) >>= _) _ _ s
    refine wpAny_bind (W.item i s _ _ hlt hst fun v s' hP hst' hm => ?_)
    obtain ⟨t, rfl⟩ := hval i v hP
    have hS' : s'.heap.SetOf (PySem.strKind prog w) S (fun k' => (dS (xs.take i)).any (· == k')) (dS (xs.take i)).length := by
      obtain ⟨o, es, ep, tb, ho, rest⟩ := hS
      exact ⟨o, es, ep, tb, hm.heap S _ hSw ho, rest⟩
    show wpAny _ A.in1 (holding [Value.str (xs.getD i Str.empty) t] (setAdd S (.str (xs.getD i Str.empty) t)) >>= _) _ _ s'
    refine wpAny_bind (wpAny_holding ?_)
    unfold setAdd
    refine wpAny_holding ?_
    refine wpAny_bind ((PySem.strKind prog w).pyHash (k := xs.getD i Str.empty) (strKind_is _ _ _ _) ?_)
    refine wpAny_setAddHashed_of (knd := PySem.strKind prog w) (s := { s' with toks := s'.toks + 1 }) (strKind_is _ _ _ _) rfl hS' (by have := dS_le (xs.take i) []; rw [List.length_take] at this; have h0 : ([] : List Str).length = 0 := rfl; unfold dS; omega) fun h' hsb hS2 => ?_
    have hSi : h'.SetOf (PySem.strKind prog w) S (fun k' => (dS (xs.take (i + 1))).any (· == k')) (dS (xs.take (i + 1))).length := by
      exact PyProof.Rows.SetOf_congr hS2 (fun k' => by rw [dS_snoc (by omega), stepS_any]) (by rw [dS_snoc (by omega), stepS_len])
    refine wpAny_pure ⟨plainId_quiet PyProof.Rows.F.plain_set_update_loop _, ih (i + 1) _ (by omega) hlt (W.frame _ s' _ _ hst' (Nat.le_succ _) fun b hb o e => ?_) hSi fun s'' hm'' hS'' => ?_⟩
    · rw [hsb.2 b (fun h : b = S => hSf (by rw [← h]; exact hb))]; exact e
    · refine hR s'' (Moved.trans W.gtrans ((hm.mono hsub).then_heap (Nat.le_succ _) fun b o hb e => ?_) hm'') hS''
      rw [hsb.2 b (fun h : b = S => hb (by rw [h]; exact List.mem_cons_self))]; exact e
end
section
variable {prog : Program} {w : World} {A : Around} {E : Value → Shared → Prop} {s : Shared}
set_option maxHeartbeats 6400000 in
theorem call_set_listD {l : Addr} {items : Array Value} {xs : List Str} {Q : Value → Shared → Prop}
    (hh : A.handled = none) (hl : s.heap.IsList l items) (hi : PyProof.Rows.StrsAre items.toList xs) (hn1 : xs.length + 1 < scanBound)
    (h : ∀ (h' : Heap) (tk : Nat), h'.SetOf (PySem.strKind prog w) s.heap.objs.size (fun k' => (dS (xs.take items.size)).any (· == k')) (dS (xs.take items.size)).length →
      (∀ b o, b < s.heap.objs.size → s.heap.get? b = some o → h'.get? b = some o) → Q (.ref s.heap.objs.size) { s with heap := h', toks := tk }) :
    wpAny (model prog w) A (call (.type "set") [.ref l]) Q E s := by
  obtain ⟨c, tl, hmro⟩ := PySem.F.called_set.mro
  have hmade := PySem.F.called_set.made
  have hsub := PySem.F.called_set.sub
  refine wpAny_call (codeAny_of_tree ?_)
  show wpAny _ _ (callAny (.type "set") _) _ _ _
  refine wpAny_pure ⟨Code.quiet_builtin _ (by decide +kernel), codeAny_builtin PySem.F.entry_type_call ?_⟩
  rw [Around.under_plain (weight_type_call_type "set" [.ref l] []) rfl]
  have h1 := PySem.F.called_set.notType
  have h2 := PySem.F.called_set.canCreate
  have hct := PySem.F.typeCall_set_1 (.ref l)
  repeat (any_goals (first | assumption | wp_step))

  refine codeAny_mono (code_set_new_1 (.ref l) (E := E) (Q₁ := fun obj s₁ => ∃ led : Bool, obj = .ref s.heap.objs.size ∧ s₁ = { s with heap := s.heap.push { cls := .type "set", dict := none, data := .set #[] 0 (.fresh 0 0 led) } }) fun led => ⟨led, rfl, rfl⟩) fun r s₁ hr => ?_
  cases r with
  | error e => exact hr
  | ok fl =>
    cases fl with
    | ret obj =>
      obtain ⟨led, rfl, rfl⟩ := hr
      have hS : (s.heap.push { cls := .type "set", dict := none, data := .set #[] 0 (.fresh 0 0 led) }).get? s.heap.objs.size = some { cls := .type "set", dict := none, data := .set #[] 0 (.fresh 0 0 led) } := Heap.get?_push_size _ rfl
      have hT : Shared.TypeIs { s with heap := s.heap.push { cls := .type "set", dict := none, data := .set #[] 0 (.fresh 0 0 led) } } (.ref s.heap.objs.size) "set" := ⟨_, hS, rfl⟩
      have hli := PySem.F.called_set.init.lookup
      have hbi := PySem.F.called_set.init.bind (.ref s.heap.objs.size)
      repeat (any_goals (first | assumption | wp_step))

      refine codeAny_mono (codeAny_call_builtin (R := wants (fun r s₂ => r = .none ∧ ∃ h' tk, s₂ = { s with heap := h', toks := tk } ∧
          h'.SetOf (PySem.strKind prog w) s.heap.objs.size (fun k' => (dS (xs.take items.size)).any (· == k')) (dS (xs.take items.size)).length ∧
          (∀ b o, b < s.heap.objs.size → s.heap.get? b = some o → h'.get? b = some o)) E) PySem.F.called_set.init.plain PySem.F.entry_set_init (check_set_init_1 hT ?_)) fun r₂ s₂ hr₂ => ?_
      · obtain ⟨ol, hol, hcl, nl, hdl⟩ := hl
        obtain ⟨ocls, odict, odata, oslots⟩ := ol
        simp only at hcl hdl
        subst hcl; subst hdl
        have hol' : (s.heap.push { cls := .type "set", dict := none, data := .set #[] 0 (.fresh 0 0 led) }).get? l = some { cls := .type "list", dict := odict, data := .seq items nl, slots := oslots } := Heap.get?_push_of_some _ hol
        have hsls := PySem.F.sub_list_set
        have hslf := PySem.F.sub_list_frozenset
        have hne : (Value.type "list" == Value.type "dict") = false := by decide
        have hl1 : (s.heap.push { cls := .type "set", dict := none, data := .set #[] 0 (.fresh 0 0 led) }).IsList l items := ⟨_, hol', rfl, nl, rfl⟩
        unfold Builtin.«set.__init__» noKeywords Builtin.Frozenset.updateFrom
        generalize hPI : pyIter = PI
        wp_walk
        subst hPI

        refine wpAny_pyIter_list hl1 ?_
        refine wpAny_bind (wpAny_runValue ?_)
        have hlS : l < s.heap.objs.size := Heap.lt_size hol
        have hh3 : A.in1.in1.in1.handled = none := by simp [hh]
        have hneI : l ≠ (s.heap.push { cls := .type "set", dict := none, data := .set #[] 0 (.fresh 0 0 led) }).objs.size := by
          rw [Heap.size_push]; exact Nat.ne_of_lt (Nat.lt_succ_of_lt hlS)
        have hSf : s.heap.objs.size ∉ [(s.heap.push { cls := .type "set", dict := none, data := .set #[] 0 (.fresh 0 0 led) }).objs.size, l] := by
          rw [Heap.size_push]; simp only [List.mem_cons, List.mem_singleton, List.not_mem_nil, or_false, not_or]
          exact ⟨Nat.ne_of_lt (Nat.lt_succ_self _), Nat.ne_of_gt hlS⟩
        have hsz : xs.length = items.size := by rw [← StrsAre.len_eq hi, Array.length_toList]
        have hval : ∀ (i : Nat) (v : Value), items[i]? = some v → ∃ t, v = .str (xs.getD i Str.empty) t := fun i v hv => SS.strs_at hi i v (by rw [Array.getElem?_toList]; exact hv)
        refine loopD ((Walks.list hh3 _ l hneI items).toS) s.heap.objs.size
          hSf xs hsz (by rw [← hsz]; exact hn1) hval (items.size - 0) 0 _ (by omega) (Nat.zero_le _)
          ⟨⟨_, Heap.get?_push_size _ rfl, rfl, rfl⟩, (hl1.push _)⟩ ?hS0 ?hR
        case hS0 =>
          have hget : ((s.heap.push { cls := .type "set", dict := none, data := .set #[] 0 (.fresh 0 0 led) }).push { cls := .type "list_iterator", data := .fields #[.ref l, .int 0 0] }).get? s.heap.objs.size
              = some { cls := .type "set", dict := none, data := .set #[] 0 (.fresh 0 0 led) } := Heap.get?_push_of_some _ hS
          exact PyProof.Rows.SetOf_congr ((PyProof.Rows.setObjOf_fresh (knd := PySem.strKind prog w) led).setOf hget (by unfold scanBound; omega)) (fun _ => rfl) rfl
        case hR =>
          intro s' hm hS'
          obtain ⟨h', g', d', tk', os'⟩ := s'
          have eg : g' = s.gens := hm.gens
          have ed : d' = s.drawn := hm.drawn
          have eo : os' = s.os := hm.os
          subst eg; subst ed; subst eo
          show wpAny _ _ _ _ _ _
          refine wpAny_pure ?_
          show wpAny _ _ (ret Value.none) _ _ _
          refine wpAny_pure ⟨rfl, h', tk', rfl, hS', fun b o hb e => ?_⟩
          have hb1 : b ≠ s.heap.objs.size := Nat.ne_of_lt hb
          have hb2 : b ≠ (s.heap.push { cls := .type "set", dict := none, data := .set #[] 0 (.fresh 0 0 led) }).objs.size := by
            rw [Heap.size_push]; exact Nat.ne_of_lt (Nat.lt_succ_of_lt hb)
          exact hm.heap b o (by simp only [List.mem_cons, List.mem_singleton, List.not_mem_nil, or_false, not_or]; exact ⟨hb1, hb2⟩) (Heap.get?_push_of_some _ (Heap.get?_push_of_some _ e))

      · cases r₂ with
        | error e => exact hr₂
        | ok fl₂ =>
          cases fl₂ with
          | ret r =>
            obtain ⟨rfl, h', tk, rfl, hS', hk'⟩ := hr₂
            repeat (any_goals (first | assumption | wp_step))
            exact h _ _ hS' hk'
          | _ => exact hr₂.elim
    | _ => exact hr.elim

end
end Gz
set_option maxHeartbeats 4000000
/-! len(set(texts)), list(text), min(signs). -/
namespace Gz
open PySem PySem.Spec PyProof.Rows L2
section
variable {X : Cx}
def tLenD (K : PySem.W.Frag) (ta : TE) : TE := fun σ H Q => ta σ H fun x H1 => ∃ l, ∃ xs : List Str, x = .ref l ∧ SqL K H1 l (xs.map V.str) ∧ xs.length ≤ 4000 ∧ Q (.int (dS xs).length) H1
theorem pe_lenSetD {a : Expr} {ta : TE} {p p2 q pos : Pos} (hc : X.calm = true) (hg : Gl X "len") (hm : X.mg "len" = none) (hg2 : Gl X "set") (hm2 : X.mg "set" = none) (ha : PE X a ta)
    (na : starEach [a] X.env = (false, eval a X.env) :: starEach [] X.env := by rfl) : PE X (.Call (.Name "len" p) [.Call (.Name "set" p2) [a] [] q] [] pos) (tLenD X.K ta) := by
  refine ⟨fun pins s σ H Q I h => ?_⟩
  refine Call_ (ld_blt I hg hm PySem.boot_len ?_)
  refine PyProof.Rows.callWith_builtin1 (PyProof.Rows.args_cons ?_ rfl) rfl rfl
  refine Call_ (ld_blt I hg2 hm2 PyProof.Rows.boot_set ?_)
  refine PyProof.Rows.callWith_type1 (PyProof.Rows.args_cons (thn (ha.run pins s σ H _ I h) fun v s1 ⟨x, H1, I1, r1, q1⟩ => PyProof.Rows.args_nil ?_) na) na rfl
  obtain ⟨l, xs, rfl, hq, h1, q1⟩ := q1
  cases r1
  obtain ⟨its, r, pl, hz⟩ := I1.list hq
  refine call_set_listD (I1.ok.hd hc) pl.isList (by simpa using strsAre_of r) (by unfold scanBound; omega) fun h' tk hS hk => ?_
  refine PyProof.Rows.args_nil ?_
  have hl : its.toArray.size = xs.length := by rw [List.size_toArray, ← r.length, List.length_map]
  rw [hl, List.take_length] at hS
  have hd0 : (dS xs).length ≤ xs.length := by
    have := dS_le xs []
    have h0 : ([] : List Str).length = 0 := rfl
    unfold dS
    omega
  obtain ⟨o, es, ep, t, ho, hex, hd, _, _, _, hf, hn⟩ := hS
  have I2 : Inv X pins σ H1 { s1 with heap := h', toks := tk } := I1.kept fun b o e => hk b o (Heap.lt_size e) e
  refine call_len_set ho hex hd hf (by rw [hn] <;> omega) ⟨.int (dS xs).length, H1, I2.tok _, ⟨_, by rw [hn]⟩, q1⟩
theorem call_listS (hc : X.calm = true) : CallR X (.type "list") (fun xs H Q => ∃ l : List Nat, xs = [.str (SX.S l)] ∧ l.length ≤ 100000 ∧ ∀ p, H p = none → Q (.ref p) (upd H p (.lst (sgs l)))) := by
  intro pins s σ H xs us Q I r h
  obtain ⟨l, rfl, hl, q⟩ := h
  obtain ⟨u, rfl, t, rfl⟩ := vals1 r
  have hsz : (SX.S l).cps.size = l.length := by simp
  refine PySem.call_list_str (I.ok.hd hc) (SX.S l) t (fun h' tk acc' c' hk hS hacc => ?_) (by rw [hsz]; exact Nat.le_trans hl (by decide))
  refine ⟨.ref s.heap.objs.size, upd H s.heap.objs.size (.lst (sgs l)), I.laid hk (Nat.le_refl _) (show ObjOk X.prog X.w _ _ _ (.lst (sgs l)) from ⟨?_, acc'.toList, c', ?_, ?_⟩), rfl, q _ (I.hok.fresh (Nat.le_refl _))⟩
  · rw [sgs_len]; exact Nat.le_trans hl (by decide)
  · have el : acc'.toList.length = acc'.size := by simp
    refine vals_of_at (by rw [sgs_len, el, hacc.1, hsz]) fun j x w h1 h2 => ?_
    obtain ⟨c, y, hcy, hi⟩ := hacc.2 j w (by rw [← Array.getElem?_toList]; exact h2)
    have e1 : l[j]? = some c := by simpa using hcy
    have e2 : (sgs l)[j]? = some (.str (SX.S [c])) := by unfold sgs; rw [List.getElem?_map, e1]; rfl
    rw [e2] at h1
    obtain rfl := (Option.some.inj h1).symm
    exact ⟨y, hi⟩
  · rw [Array.toArray_toList]
    exact hS
end
theorem vals_at1 : ∀ {xs : List V} {us : List Value}, Vals xs us → ∀ {i : Nat} {v : Value}, us[i]? = some v → ∃ x, xs[i]? = some x ∧ RelV x v
  | _, _, .nil, i, v, h => by simp at h
  | _, _, .cons r _, 0, v, h => by
    simp at h
    subst h
    exact ⟨_, rfl, r⟩
  | _, _, .cons _ rs, i + 1, v, h => by
    simp only [List.getElem?_cons_succ] at h ⊢
    exact vals_at1 rs h
theorem cmp_strs_lt {prog : Program} {w : World} {A : Around} {P : Nat → Value → Prop} (val : Nat → Str) (hval : ∀ i v, P i v → ∃ t, v = .str (val i) t) :
    CmpOf prog w A .Lt P (fun i j => decide ((val i).cps.toList < (val j).cps.toList)) := fun i j vi vj s Q E hi hj h => by
  obtain ⟨t, rfl⟩ := hval i vi hi
  obtain ⟨u, rfl⟩ := hval j vj hj
  exact richCompare_gives (op := .Lt) (typeIs_str s _ t) (typeIs_str s _ u) F.slot_str_lt F.entry_str_lt (F.args_str_lt_2 _ _) (gives_str_lt _ _ t u) (fun x => nomatch x) h
theorem best0 {bt : Nat → Nat → Bool} : ∀ k, (∀ i, 0 < i → i ≤ k → bt i 0 = false) → argBest bt k = 0
  | 0, _ => rfl
  | k + 1, h => by
    have ih := best0 k fun i h1 h2 => h i h1 (by omega)
    show (if bt (k + 1) (argBest bt k) = true then k + 1 else argBest bt k) = 0
    rw [ih, h (k + 1) (by omega) (Nat.le_refl _)]
    rfl
theorem al_head : ∀ i, i < 27 → 0 < i → decide ([al.getD i 0] < [al.getD 0 0]) = false := by decide
section
variable {X : Cx}
theorem call_minS (hc : X.calm = true) : CallR X (.builtin "min") (fun xs H Q => ∃ p, ∃ l : List Nat, xs = [.ref p] ∧ H p = some (.lst (sgs l)) ∧ (l = al ∨ ∃ c, l = [c]) ∧ Q (.str (SX.S [l.headD 63])) H) := by
  intro pins s σ H xs us Q I r h
  obtain ⟨p, l, rfl, hp, hor, q⟩ := h
  rw [Vals.ref1 r]
  obtain ⟨its, rv, hl, hz⟩ := I.list (SqL.of hp)
  have hlen : its.length = l.length := by rw [← rv.length, sgs_len]
  have hpos : 0 < l.length := by
    rcases hor with e | ⟨c, e⟩
    · rw [e]; decide
    · rw [e]; exact Nat.zero_lt_one
  have hval : ∀ (i : Nat) (v : Value), its.toArray[i]? = some v → ∃ t, v = .str (SX.S [l.getD i 0]) t := fun i v hv => by
    have hv' : its[i]? = some v := by simpa using hv
    obtain ⟨x, hx, rx⟩ := vals_at1 rv hv'
    unfold sgs at hx
    rw [List.getElem?_map] at hx
    cases hc1 : l[i]? with
    | none => rw [hc1] at hx; cases hx
    | some c =>
      rw [hc1] at hx
      obtain rfl := (Option.some.inj hx).symm
      have : l.getD i 0 = c := by simp [List.getD, hc1]
      rw [this]
      exact rx
  refine call_min_walk (iter_anyList hl.isList fun s₂ e st hfp hlI => ?_)
  subst e
  refine ⟨_, _, _, _, _, _, _, rfl, Walks.list (A := X.A.in1) (I.ok.hd hc) _ p hlI its.toArray, st, hfp, by rw [List.size_toArray]; omega, cmp_strs_lt (fun i => SX.S [l.getD i 0]) hval, fun v h' tk hP hk => ?_⟩
  have hb : argBest (fun i j => decide ((SX.S [l.getD i 0]).cps.toList < (SX.S [l.getD j 0]).cps.toList)) (its.toArray.size - 1) = 0 := by
    refine best0 _ fun i h1 h2 => ?_
    rw [List.size_toArray, hlen] at h2
    rcases hor with e | ⟨c, e⟩
    · rw [e] at h2 ⊢
      have : al.length = 27 := rfl
      exact al_head i (by omega) h1
    · rw [e] at h2
      have : ([c] : List Nat).length = 1 := rfl
      omega
  rw [hb] at hP
  obtain ⟨t, rfl⟩ := hval 0 v hP
  have hh : l.getD 0 0 = l.headD 63 := by
    cases l with
    | nil => exact absurd hpos (by decide)
    | cons c r => rfl
  rw [hh]
  exact ⟨.str (SX.S [l.headD 63]), H, I.kept (PySem.old_kept hk), ⟨t, rfl⟩, q⟩
end
/-- how many unlike signs -/
theorem dS_one (l : List Nat) : ((dS ((l.map fun c => [c]).map SX.S)).length = 1 ∧ ∃ c r, l = c :: r ∧ sg l = c) ∨ ((dS ((l.map fun c => [c]).map SX.S)).length ≠ 1 ∧ sg l = 63) ∨ (∃ r, l = 63 :: r) := by
  have mono : ∀ (xs σ : List Str), σ.length ≤ (xs.foldl stepS σ).length := fun xs => by
    induction xs with
    | nil => exact fun σ => Nat.le_refl _
    | cons x xs ih =>
      intro σ
      have h1 := ih (stepS σ x)
      have h2 : σ.length ≤ (stepS σ x).length := by rw [stepS_len]; split <;> omega
      rw [List.foldl_cons]
      omega
  cases l with
  | nil => exact .inr (.inl ⟨by decide, rfl⟩)
  | cons c r =>
    by_cases h63 : c = 63
    · exact .inr (.inr ⟨r, by rw [h63]⟩)
    have h0 : dS (((c :: r).map fun c => [c]).map SX.S) = ((r.map fun c => [c]).map SX.S).foldl stepS [SX.S [c]] := rfl
    have same : ∀ r : List Nat, (∀ d ∈ r, d = c) → ((r.map fun c => [c]).map SX.S).foldl stepS [SX.S [c]] = [SX.S [c]] := fun r => by
      induction r with
      | nil => exact fun _ => rfl
      | cons d r ih =>
        intro h
        obtain rfl := h d List.mem_cons_self
        show ((r.map fun c => [c]).map SX.S).foldl stepS (stepS [SX.S [d]] (SX.S [d])) = _
        have : stepS [SX.S [d]] (SX.S [d]) = [SX.S [d]] := by unfold stepS; simp
        rw [this]
        exact ih fun e he => h e (List.mem_cons_of_mem _ he)
    have other : ∀ r : List Nat, (∃ d ∈ r, d ≠ c) → 2 ≤ (((r.map fun c => [c]).map SX.S).foldl stepS [SX.S [c]]).length := fun r => by
      induction r with
      | nil => exact fun ⟨d, h, _⟩ => nomatch h
      | cons d r ih =>
        intro ⟨e, he, hne⟩
        show 2 ≤ (((r.map fun c => [c]).map SX.S).foldl stepS (stepS [SX.S [c]] (SX.S [d]))).length
        by_cases hd : d = c
        · subst hd
          have : stepS [SX.S [d]] (SX.S [d]) = [SX.S [d]] := by unfold stepS; simp
          rw [this]
          rcases List.mem_cons.mp he with h | h
          · exact absurd h hne
          · exact ih ⟨e, h, hne⟩
        · have : stepS [SX.S [c]] (SX.S [d]) = [SX.S [c], SX.S [d]] := by
            unfold stepS
            rw [if_neg]
            · rfl
            · intro z
              rw [List.any_cons, List.any_nil, Bool.or_false] at z
              exact hd (List.head_eq_of_cons_eq (SX.S_inj (beq_iff_eq.mp z))).symm
          rw [this]
          exact mono ((r.map fun c => [c]).map SX.S) [SX.S [c], SX.S [d]]
    by_cases hall : ∀ d ∈ r, d = c
    · refine .inl ⟨by rw [h0, same r hall]; rfl, c, r, rfl, ?_⟩
      show (if r.all (· == c) = true then c else 63) = c
      rw [if_pos (List.all_eq_true.mpr fun d hd => beq_iff_eq.mpr (hall d hd))]
    · have h1 : ∃ d ∈ r, d ≠ c := by
        refine Classical.byContradiction fun z => hall fun d hd => ?_
        exact Classical.byContradiction fun z2 => z ⟨d, hd, z2⟩
      refine .inr (.inl ⟨fun z => ?_, ?_⟩)
      · have := other r h1
        rw [h0] at z
        omega
      · show (if r.all (· == c) = true then c else 63) = 63
        rw [if_neg fun z => hall fun d hd => beq_iff_eq.mp (List.all_eq_true.mp z d hd)]
end Gz
set_option maxHeartbeats 4000000
namespace Gz
open PySem PySem.Spec PyProof.Rows L2
section
variable {P : Program} {w : World} {K : PySem.W.Frag} {mg : Str → Option Value} {base : Heap}
theorem refs_txs {as : List Addr} {ws : List (List Nat)} (h : as.map V.ref = txs ws) : ws = [] := by
  cases ws with
  | nil => rfl
  | cons w ws =>
    cases as with
    | nil => cases h
    | cons a as => exact V.noConfusion (List.cons.inj h).1
/-- a pair and what is left for it -/
def smV (r : Rec) (H : Hp) (b : Addr) (L : Nat) : Prop := ∃ q g, H b = some (.tup [.ref q, .ref g]) ∧ H q = some (.tup (prV r.p L)) ∧ H g = some (.lst (txs (r.wds L)))
def SmL (r : Rec) (H : Hp) (D : Addr) (Ls : List Nat) : Prop := ∃ as : List Addr, H D = some (.lst (as.map V.ref)) ∧ Paired (smV r H) as Ls
theorem smV.ext {r : Rec} {H H' : Hp} {b : Addr} {L : Nat} (e : Same H H') (h : smV r H b L) : smV r H' b L := by
  obtain ⟨q, g, h1, h2, h3⟩ := h
  exact ⟨q, g, e _ _ h1, e _ _ h2, e _ _ h3⟩
theorem SmL.ext {r : Rec} {H H' : Hp} {D : Addr} {Ls : List Nat} (e : Same H H') (h : SmL r H D Ls) : SmL r H' D Ls := by
  obtain ⟨as, h1, h2⟩ := h
  exact ⟨as, e _ _ h1, Paired.imp h2 fun _ _ z => z.ext e⟩
theorem wds_ne {r : Rec} {L : Nat} (h : 1 ≤ L) : r.wds L ≠ [] := fun z => by
  have := wds_len L r.p (rds r.gl)
  rw [show wds L r.p (rds r.gl) = [] from z] at this
  have h0 : ([] : List (List Nat)).length = 0 := rfl
  omega
theorem smV.put {r : Rec} {H : Hp} {D b : Addr} {L : Nat} {as : List Addr} {ys : List V} (hL : 1 ≤ L) (hD : H D = some (.lst (as.map V.ref))) (h : smV r H b L) : smV r (upd H D (.lst ys)) b L := by
  obtain ⟨q, g, h1, h2, h3⟩ := h
  refine ⟨q, g, ?_, ?_, ?_⟩
  · rw [upd_ne (ne_of h1 hD (by intro z; cases z))]; exact h1
  · rw [upd_ne (ne_of h2 hD (by intro z; cases z))]; exact h2
  · rw [upd_ne (fun z => ?_)]
    · exact h3
    · rw [z, hD] at h3
      exact wds_ne hL (refs_txs (HO.lst.inj (Option.some.inj h3)))
def smD (r : Rec) (L : Nat) : PyData := .tuple [prD r.p L, .list ((r.wds L).map fun x => PyData.str (SX.S x))]
theorem dp_sm {r : Rec} {H : Hp} {as : List Addr} {Ls : List Nat} (h : Paired (smV r H) as Ls) : DpAll K H (as.map V.ref) (Ls.map (smD r)) := by
  induction h with
  | nil => exact .nil
  | cons z _ ih =>
    obtain ⟨q, g, h1, h2, h3⟩ := z
    exact .cons (.tup (SqT.of h1) (.cons (.tup (SqT.of h2) (.cons (.int _) (.cons (.int _) .nil))) (.cons (.lst (SqL.of h3) (dp_txs _)) .nil))) ih
theorem wds_lt {r : Rec} (ok : r.Ok) (L : Nat) : ∀ x ∈ r.wds L, LtOk x := fun x hx c hc => by
  obtain ⟨n, _, rfl⟩ := List.mem_map.mp hx
  have := al_lt c ((FL_shp (rds_al ok.ga) _).sub c hc)
  omega
theorem shp_sm {r : Rec} (ok : r.Ok) (Ls : List Nat) : SeqAt.shaped (.list (Ls.map (smD r))) = true := by
  have h1 : PyData.canLayAll0 (Ls.map (smD r)) = true := by
    induction Ls with
    | nil => rfl
    | cons L l ih =>
      refine Bool.and_eq_true_iff.mpr ⟨?_, ih⟩
      show (PyData.canLayAll0 [prD r.p L, .list ((r.wds L).map fun x => PyData.str (SX.S x))]) = true
      refine Bool.and_eq_true_iff.mpr ⟨rfl, Bool.and_eq_true_iff.mpr ⟨?_, rfl⟩⟩
      exact lay_txs (wds_lt ok L)
  have h2 : PyData.depthAll (Ls.map (smD r)) ≤ 2 := by
    clear h1
    induction Ls with
    | nil => exact Nat.zero_le _
    | cons L l ih =>
      show max (max (PyData.depthAll [PyData.int (L : Int), .int r.p] + 1) (max (PyData.depthAll ((r.wds L).map fun x => PyData.str (SX.S x)) + 1) 0) + 1) (PyData.depthAll (l.map (smD r))) ≤ 2
      rw [dep_txs]
      have h3 : PyData.depthAll [PyData.int (L : Int), .int r.p] = 0 := rfl
      rw [h3]
      omega
  unfold SeqAt.shaped
  rw [Bool.and_eq_true]
  refine ⟨h1, decide_eq_true ?_⟩
  show PyData.depthAll (Ls.map (smD r)) + 1 ≤ 64
  omega
theorem wds_num {r : Rec} {L : Nat} (hL : 1 ≤ L) (t : Int) (j : Nat) : atI (txs (r.wds L)) (((j : Int) + r.p * t) % (L : Int)) = some (.str (SX.S (r.F L (num L r.p t j)))) := by
  obtain ⟨n, hn⟩ := Int.eq_ofNat_of_zero_le (num_lo hL r.p t j)
  have hnL : n < L := by have := num_hi hL r.p t j; omega
  have h2 : ((j : Int) + r.p * t) % (L : Int) = (n : Int) := hn
  rw [h2, hn]
  exact atI_nat (by unfold txs Rec.wds; rw [List.getElem?_map, wds_at hnL]; rfl)
theorem flat_len {r : Rec} (ok : r.Ok) (t : Int) (j : Nat) : ∀ ls : List Nat, (ls.map fun L => r.F L (num L r.p t j)).flatten.length ≤ 27 * ls.length
  | [] => Nat.zero_le _
  | L :: ls => by
    have h1 := flat_len ok t j ls
    have h2 := F_len ok L (num L r.p t j)
    rw [List.map_cons, List.flatten_cons, List.length_append, List.length_cons]
    omega
abbrev N_l_sure : List Str := ["_law_note", "_law_time", "_law_some", "_law_pair", "_law_found", "_law_place", "_law_here", "_law_left"]
def sp__law_sure (K : PySem.W.Frag) : Sp := fun vs H Q _ => ∃ (a : Addr) (r : Rec) (t : Int), vs = [.ref a, .int t] ∧ RecT K H a r ∧ r.Ok ∧ (0 ≤ t ∧ t ≤ 10 ^ 30) ∧ ∀ H1, Same H H1 → Q (.str (SX.S (sureT r t))) H1
theorem cal__law_sure (T : Tx K mg base) : C8.Cal P w K mg base 4 "_law_sure" (sp__law_sure K) [] := by
  obtain ⟨fd, F0⟩ := T.D_l_sure
  have F : FunD K "_law_sure" "_law_sure" (defArgs s_l_sure) (defBody s_l_sure) (defScope s_l_sure) [] [] (He.ga K "_law_sure") fd := F0
  refine ⟨⟨_, fd, ["_law_note", "_law_time"], [], F.ok sc_l_sure (fun vs H Q E h => ?_) (fun cdv A outer s H vs Q E hr h => ?_), T.g__law_sure, F.kp, F.bindsN (fun _ _ _ _ _ _ us hl => match us, hl with | [_, _], _ => rfl), .nil⟩⟩
  · obtain ⟨_, _, _, rfl, _⟩ := h
    rfl
  · refine ⟨_, PSs.nox (pss_cons (ps_setLc (i := 2) (own := [("_law_pair", 3)]) rfl sc_l_sure.nd rfl rfl (sw_true rfl rfl rfl (by decide +kernel)) (pi_listK (K := K) rfl (C8.pe_c (cal__law_pairs T) hr (by decide) (by rfl) (pa_cons (pv 0) pa_nil))) (blkOk_by (own := [("_law_pair", 3)]) (N := N_l_sure) (sc := defScope s_l_sure) (by decide +kernel)) (fun _ _ _ _ _ => (pg_name (i := 3) sc_l_sure.nd rfl locV)) (fun _ _ _ _ _ => pts_nil) (fun _ _ _ _ _ => (pe_tup (pa_cons (pv 3) (pa_cons (C8.pe_c (cal__law_left_for T) hr (by decide) (by rfl) (pa_cons (pv 0) (pa_cons (pe_ix (ix_tupK (K := K) rfl) (pv 3) pe_int (fun _ _ => rfl)) (pa_cons (pe_ix (ix_tupK (K := K) rfl) (pv 3) pe_int (fun _ _ => rfl)) pa_nil)))) pa_nil)))))
    (pss_cons (ps_set (i := 4) sc_l_sure.nd rfl locV pe_str)
    (pss_cons (ps_for PassesOwn.never rfl (pi_range1 (by rfl) T.f_range (pa_cons (pe_ix (ix_tupK (K := K) rfl) (pv 0) pe_int (fun _ _ => rfl)) pa_nil)) (pg_name (i := 5) sc_l_sure.nd rfl locV) (pss_cons (ps_set (i := 6) sc_l_sure.nd rfl locV (pe_joinK (K := K) rfl pe_str (pe_lc (own := [("_law_pair", 3), ("_law_left", 7)]) rfl sc_l_sure.nd (pi_listK (K := K) rfl (pv 2)) (blkOk_by (own := [("_law_pair", 3), ("_law_left", 7)]) (N := N_l_sure) (sc := defScope s_l_sure) (by decide +kernel)) (fun _ _ _ _ _ => (pg_tupK (K := K) rfl (n := 2) rfl (pgs_cons (pg_name (i := 3) sc_l_sure.nd rfl locV) (pgs_cons (pg_name (i := 7) sc_l_sure.nd rfl locV) pgs_nil)))) (fun _ _ _ _ _ => pts_nil) (fun _ _ _ _ _ => (pe_ix (ix_listK (K := K) rfl) (pv 7) (pe_op op_mod (pe_callTy call_int1 (by rfl) T.f_int bt_int (pa_cons (pe_op op_add (pv 5) (pe_op op_mul (pe_ix (ix_tupK (K := K) rfl) (pv 3) pe_int (fun _ _ => rfl)) (pv 1))) pa_nil)) (pe_ix (ix_tupK (K := K) rfl) (pv 3) pe_int (fun _ _ => rfl))) (fun _ _ => rfl))))))
    (pss_one (ps_set (i := 4) sc_l_sure.nd rfl locV (pe_op op_add_str (pv 4) (pe_ifExp (pt_cmpR op_eq (pe_lenSetD rfl (by rfl) T.f_len (by rfl) T.f_set (pe_callTy (call_listS rfl) (by rfl) T.f_list bt_list (pa_cons (pv 6) pa_nil))) pe_int (nomark _)) (pe_slice C8.sl_txt (pv 6) po_none (po_some pe_int)) pe_str))))))
    (pss_one (ps_ret (pe_ifExp (pt_cmpR (op_eqK (K := K) rfl (u64 hr)) (pv 2) (pe_lst pa_nil) (nomark _)) pe_str (pv 4))))))), ?_⟩
    obtain ⟨a, r, t, rfl, R, ok, ht, hQ⟩ := h
    have kp1 := ok.p1
    have kp9 := ok.p9
    have k8 := ok.w8
    refine ⟨_, rfl, a, r, rfl, R, ok, fun b H1 e1 ⟨as, has, hP⟩ => ⟨_, rfl, ⟨_, SqL.of has⟩, fun D nD => ?_⟩⟩
    have hl : (as.map V.ref).length = r.Ls.length := by rw [List.length_map, pair_len hP]
    refine lc_it (walk_list (xs := as.map V.ref)) (fun i H2 => Same H1 H2 ∧ SmL r H2 D (r.Ls.take i)) ⟨same_new nD, [], upd_same, .nil⟩ (fun i H2 _ hp => SqL.of (hp.1 _ _ has)) (fun i x H2 H3 hi ⟨e, hD⟩ ⟨e3, hv⟩ => ?_) fun H2 ⟨e, hD⟩ => ?_
    · subst e3
      obtain ⟨u, hu, rfl⟩ := at_map hv
      obtain ⟨L, hx, hqL⟩ := pair_at1 hP hu
      obtain ⟨m1, m2, m3⟩ := mem_Ls ok (List.mem_of_getElem? hx)
      have hq2 := e _ _ hqL
      refine ⟨rfl, _, rfl, _, rfl, _, rfl, _, _, 0, _, rfl, rfl, SqT.of hq2, atI_nat (j := 0) rfl, _, rfl, _, _, 1, _, rfl, rfl, SqT.of hq2, atI_nat (j := 1) rfl, a, r, L, r.p, rfl, R.ext (.of (e1.trans e)), ok, ⟨m1, m2⟩, ⟨kp1, kp9⟩, fun g H3 e3 hg => ⟨lnk, fun q nq => ?_⟩⟩
      obtain ⟨bs, hb1, hb2⟩ := hD
      have e4 := e3.trans (same_new (o := .tup [.ref u, .ref g]) nq)
      have hb4 := e4 _ _ hb1
      have hlen := pair_len hb2
      rw [List.length_take] at hlen
      refine ⟨_, hb4, ?_, same_put (e.trans e4) nD, bs ++ [q], by rw [upd_same, List.map_append]; rfl, ?_⟩
      · rw [List.length_map]
        have := Ls_len ok
        exact small (by omega)
      · rw [take_snoc hx]
        have hall : ∀ L ∈ r.Ls.take i, 1 ≤ L := fun L hL => (mem_Ls ok (List.mem_of_mem_take hL)).1
        refine pair_snoc ?_ (smV.put m1 hb4 ⟨u, g, upd_same, e4 _ _ hq2, same_new nq _ _ hg⟩)
        clear hb4 hlen hx
        have hb3 : Paired (smV r (upd H3 q (.tup [.ref u, .ref g]))) bs (r.Ls.take i) := Paired.imp hb2 fun _ _ z => z.ext e4
        have hb5 := e4 _ _ hb1
        generalize r.Ls.take i = ls at hb3 hall
        have go : ∀ {cs : List Addr} {ls : List Nat} {ys : List V}, Paired (smV r (upd H3 q (.tup [.ref u, .ref g]))) cs ls → (∀ L ∈ ls, 1 ≤ L) → Paired (smV r (upd (upd H3 q (.tup [.ref u, .ref g])) D (.lst ys))) cs ls := fun h => by
          induction h with
          | nil => exact fun _ => .nil
          | cons z _ ih => exact fun hz => .cons (smV.put (hz _ List.mem_cons_self) hb5 z) (ih fun L hL => hz L (List.mem_cons_of_mem _ hL))
        exact go hb3 hall
    · rw [hl, List.take_length] at hD
      obtain ⟨cs, hcs, hC⟩ := hD
      have hlc : (cs.map V.ref).length = r.Ls.length := by rw [List.length_map, pair_len hC]
      have e12 := e1.trans e
      have R2 := R.ext (.of e12)
      obtain ⟨d, ps, gs, gl, ha, RR⟩ := R2
      refine ⟨_, rfl, _, _, 0, _, rfl, rfl, SqT.of ha, atI_nat (j := 0) rfl, _, rfl, by omega, by omega, for_range (n := r.W) (fun j σ H3 => Same H2 H3 ∧ ∃ x y, σ = [some (.ref a), some (.int t), some (.ref D), none, some (.str (SX.S ((List.range j).map fun j => sg (r.here t j)))), x, y, none]) ⟨.refl _, none, none, rfl⟩ (fun j σ H3 hj ⟨e3, x, y, eσ⟩ => ?_) fun σ H3 ⟨e3, x, y, eσ⟩ => ?_⟩
      · subst eσ
        have ej : (0 + (j : Int)) = j := Int.zero_add _
        refine ⟨⟨_, rfl⟩, _, rfl, _, rfl, ⟨_, SqL.of (e3 _ _ hcs)⟩, fun D2 nD2 => lc_it (walk_list (xs := cs.map V.ref)) (fun i H4 => Same H3 H4 ∧ H4 D2 = some (.lst (txs ((r.Ls.take i).map fun L => r.F L (num L r.p t j))))) ⟨same_new nD2, upd_same⟩ (fun i H4 _ hp => SqL.of (hp.1 _ _ (e3 _ _ hcs))) (fun i x H4 H5 hi ⟨e4, hD4⟩ ⟨e5, hv⟩ => ?_) fun H4 ⟨e4, hD4⟩ => ?_⟩
        · subst e5
          obtain ⟨u, hu, rfl⟩ := at_map hv
          obtain ⟨L, hx, q, g, h1, h2, h3⟩ := pair_at1 hC hu
          obtain ⟨m1, m2, m3⟩ := mem_Ls ok (List.mem_of_getElem? hx)
          have e6 := e3.trans e4
          have hq := e6 _ _ h2
          refine ⟨_, _, rfl, SqT.of (e6 _ _ h1), rfl, _, _, rfl, _, _, rfl, rfl, rfl, ?_⟩
          refine ⟨_, rfl, _, rfl, _, rfl, _, _, 1, _, rfl, rfl, SqT.of hq, atI_nat (j := 1) rfl, _, rfl, _, _, rfl, rfl, .inl (by omega), _, _, rfl, rfl, .inl ⟨_, rfl, _, rfl, _, _, 0, _, rfl, rfl, SqT.of hq, atI_nat (j := 0) rfl, _, _, rfl, rfl, by omega, _, _, _, _, rfl, rfl, SqL.of (e6 _ _ h3), by rw [ej]; exact wds_num m1 t j, ?_⟩⟩
          rw [take_snoc hx, List.map_append]
          exact txStep nD2 e4 hD4 (by rw [List.length_map, List.length_take]; have := Ls_len ok; omega)
        · rw [hlc, List.take_length] at hD4
          have hfl := flat_len ok t j r.Ls
          have hLl := Ls_len ok
          refine ⟨_, _, (r.Ls.map fun L => r.F L (num L r.p t j)).map SX.S, rfl, rfl, .inl (SqL.of (by rw [txs_eq]; exact hD4)), ?_, ?_⟩
          · rw [SX.lens, show (Str.ofString "").length = 0 from rfl, Nat.mul_zero]
            have h9 : ((r.Ls.map fun L => r.F L (num L r.p t j)).map fun x => x.length).sum = (r.Ls.map fun L => r.F L (num L r.p t j)).flatten.length := List.length_flatten.symm
            omega
          rw [join0]
          have hhere : (r.Ls.map fun L => r.F L (num L r.p t j)).flatten = r.here t j := by rw [Rec.here, List.flatMap_def]
          rw [hhere] at hfl ⊢
          have hmem : ∀ c ∈ r.here t j, c ∈ al := fun c hc => by
            obtain ⟨L, _, hL2⟩ := List.mem_flatMap.mp hc
            exact (F_shp ok L _).sub c hL2
          clear hhere
          generalize hh : r.here t j = here at hfl hmem
          refine ⟨_, rfl, _, rfl, here, rfl, by omega, fun p np => ⟨p, (here.map fun c => [c]).map SX.S, rfl, SqL.of (by rw [sgs_eq]; exact upd_same), by rw [List.length_map, List.length_map]; omega, rfl, _, rfl, ?_⟩⟩
          have stepEq : ∀ c, sg here = c → SX.S ((List.range j).map fun j => sg (r.here t j)) ++ SX.S [c] = SX.S ((List.range (j + 1)).map fun j => sg (r.here t j)) := fun c hc => by
            rw [List.range_succ, List.map_append, SX.S_cat, List.map_singleton, hh, hc]
          have sz : ∀ c : Nat, (SX.S ((List.range j).map fun j => sg (r.here t j))).length + (SX.S [c]).length ≤ sizeLine := fun c => Nat.le_of_lt (small (by rw [S_ln, S_ln, List.length_map, List.length_range]; show j + 1 < _; omega))
          have e9 := e3.trans (e4.trans (same_new (o := .lst (sgs here)) np))
          rcases dS_one here with ⟨h1, c, rr, hl2, hsg⟩ | ⟨h1, hsg⟩ | ⟨rr, hl2⟩
          · have hs : Txt.slice (SX.S here) none (some 1) = SX.S [c] := by rw [SX.slice_to (by decide), hl2]; rfl
            refine iteD (by rw [h1]; rfl) ⟨_, rfl, _, rfl, _, rfl, lineS (by omega), _, _, rfl, rfl, by rw [hs]; exact sz c, e9, some (.int (0 + (j : Int))), some (.str (SX.S here)), ?_⟩
            rw [hs, stepEq c hsg]
            rfl
          · refine iteDF (fun z => h1 (by have := V.int.inj z; omega)) ⟨_, _, rfl, rfl, sz 63, e9, some (.int (0 + (j : Int))), some (.str (SX.S here)), ?_⟩
            rw [show (Str.ofString "?" : Str) = SX.S [63] from rfl, stepEq 63 hsg]
            rfl
          · have := hmem 63 (by rw [hl2]; exact List.mem_cons_self)
            exact absurd this (by decide)
      · subst eσ
        have hcs3 := e3 _ _ hcs
        refine ⟨_, rfl, lnk, fun u nu => ⟨.list (r.Ls.map (smD r)), .list [], .lst (SqL.of (same_new nu _ _ hcs3)) (dp_sm (Paired.imp hC fun _ _ z => z.ext (e3.trans (same_new nu)))), .lst (SqL.of upd_same) .nil, shp_sm ok _, by decide +kernel, _, rfl, ?_⟩⟩
        have hq := hQ _ (e12.trans (e3.trans (same_new (o := .lst []) nu)))
        by_cases hLs : r.Ls = []
        · rw [sureT, if_pos hLs] at hq
          exact iteTeq (by rw [hLs]; rfl) hq
        · rw [sureT, if_neg hLs] at hq
          obtain ⟨L, ls, hh⟩ := List.exists_cons_of_ne_nil hLs
          exact iteFeq (by rw [hh]; rfl) ⟨_, rfl, hq⟩
abbrev N_l_least : List Str := ["_law_note", "_law_size", "_law_speed", "_law_word"]
def sp__law_least (K : PySem.W.Frag) : Sp := fun vs H Q _ => ∃ (a : Addr) (r : Rec), vs = [.ref a] ∧ RecT K H a r ∧ r.Ok ∧ ∀ H1, Same H H1 → Q (.str (SX.S (shortS r))) H1
theorem cal__law_least (T : Tx K mg base) : C8.Cal P w K mg base 4 "_law_least" (sp__law_least K) [] := by
  obtain ⟨fd, F0⟩ := T.D_l_least
  have F : FunD K "_law_least" "_law_least" (defArgs s_l_least) (defBody s_l_least) (defScope s_l_least) [] [] (He.ga K "_law_least") fd := F0
  refine ⟨⟨_, fd, ["_law_note"], [], F.ok sc_l_least (fun vs H Q E h => ?_) (fun cdv A outer s H vs Q E hr h => ?_), T.g__law_least, F.kp, F.bindsN (fun _ _ _ _ _ _ us hl => match us, hl with | [_], _ => rfl), .nil⟩⟩
  · obtain ⟨_, _, rfl, _⟩ := h
    rfl
  · refine ⟨_, PSs.nox (pss_cons (ps_for PassesOwn.never rfl (pi_listK (K := K) rfl (C8.pe_c (cal__law_pairs T) hr (by decide) (by rfl) (pa_cons (pv 0) pa_nil))) (pg_tupK (K := K) rfl (n := 2) rfl (pgs_cons (pg_name (i := 1) sc_l_least.nd rfl locV) (pgs_cons (pg_name (i := 2) sc_l_least.nd rfl locV) pgs_nil))) (pss_one (ps_ret (pe_op op_add_str (pe_op op_add_str (pe_joinK (K := K) rfl pe_str (pe_lc (own := [("_law_word", 3)]) rfl sc_l_least.nd (pi_listK (K := K) rfl (C8.pe_c (cal__law_left_for T) hr (by decide) (by rfl) (pa_cons (pv 0) (pa_cons (pv 1) (pa_cons (pv 2) pa_nil))))) (blkOk_by (own := [("_law_word", 3)]) (N := N_l_least) (sc := defScope s_l_least) (by decide +kernel)) (fun _ _ _ _ _ => (pg_name (i := 3) sc_l_least.nd rfl locV)) (fun _ _ _ _ _ => pts_nil) (fun _ _ _ _ _ => (pe_callB (call_minS rfl) (by rfl) T.f_min bt_min (pa_cons (pe_callTy (call_listS rfl) (by rfl) T.f_list bt_list (pa_cons (pv 3) pa_nil)) pa_nil))))) pe_str) (pe_callTy call_str_int (by rfl) T.f_str bt_str (pa_cons (pv 2) pa_nil))))))
    (pss_one (ps_ret pe_str))), ?_⟩
    obtain ⟨a, r, rfl, R, ok, hQ⟩ := h
    have kp1 := ok.p1
    have kp9 := ok.p9
    refine ⟨_, rfl, a, r, rfl, R, ok, fun b H1 e1 ⟨as, has, hP⟩ => ?_⟩
    have hl : (as.map V.ref).length = r.Ls.length := by rw [List.length_map, pair_len hP]
    refine ⟨_, rfl, ⟨_, SqL.of has⟩, for_list (xs := as.map V.ref) (fun i σ H2 => H2 = H1 ∧ i = 0 ∧ σ = [some (.ref a), none, none, none]) ⟨rfl, rfl, rfl⟩ (fun i σ H2 _ hp => by rw [hp.1]; exact SqL.of has) (fun i v σ H2 hv ⟨e, i0, eσ⟩ => ?_) fun σ H2 ⟨e, i0, eσ⟩ => ?_⟩
    · subst eσ e i0
      obtain ⟨q, hu, rfl⟩ := at_map hv
      obtain ⟨L, hx, hqL⟩ := pair_at1 hP hu
      obtain ⟨m1, m2, m3⟩ := mem_Ls ok (List.mem_of_getElem? hx)
      refine ⟨_, _, rfl, SqT.of hqL, rfl, _, _, rfl, _, _, rfl, rfl, ?_⟩
      refine ⟨⟨_, rfl⟩, _, rfl, _, rfl, _, rfl, a, r, L, r.p, rfl, R.ext (.of e1), ok, ⟨m1, m2⟩, ⟨kp1, kp9⟩, fun g H3 e3 hg => ⟨_, rfl, ⟨_, SqL.of hg⟩, fun D nD => ?_⟩⟩
      refine lc_it (walk_list (xs := txs (r.wds L))) (fun j H4 => Same H3 H4 ∧ H4 D = some (.lst (sgs (lst ((r.wds L).take j))))) ⟨same_new nD, upd_same⟩ (fun j H4 _ hp => SqL.of (hp.1 _ _ hg)) (fun j x H4 H5 hj ⟨e4, hD⟩ ⟨e5, hv⟩ => ?_) fun H4 ⟨e4, hD⟩ => ?_
      · subst e5
        unfold txs at hv
        rw [List.getElem?_map] at hv
        cases hw : (r.wds L)[j]? with
        | none => rw [hw] at hv; cases hv
        | some w =>
          rw [hw] at hv
          obtain rfl := (Option.some.inj hv).symm
          have hjL : j < L := by
            have := (List.getElem?_eq_some_iff.mp hw).1
            rw [show (r.wds L).length = L from wds_len L r.p (rds r.gl)] at this
            exact this
          have hwe : w = r.F L (j : Int) := by
            have h2 : (r.wds L)[j]? = some (r.F L (j : Int)) := wds_at hjL
            rw [hw] at h2
            exact Option.some.inj h2
          have hsh : w = al ∨ ∃ c, w = [c] := by
            rcases F_shp ok L (j : Int) with h | ⟨c, _, h⟩ | h
            · exact .inl (hwe.trans h)
            · exact .inr ⟨c, hwe.trans h⟩
            · exact absurd h (F_ne m1 m3 hjL)
          have hwl := F_len ok L (j : Int)
          rw [← hwe] at hwl
          refine ⟨rfl, _, rfl, w, rfl, by omega, fun p np => ⟨p, w, rfl, upd_same, hsh, ?_⟩⟩
          rw [take_snoc hw]
          have hll : (lst ((r.wds L).take j)).length = j := by
            unfold lst
            rw [List.length_map, List.length_take, show (r.wds L).length = L from wds_len L r.p (rds r.gl)]
            omega
          have := sgStep (c := w.headD 63) nD (e4.trans (same_new np)) ((same_new (o := .lst (sgs w)) np) _ _ hD) (by rw [hll]; omega)
          unfold lst at this ⊢
          rw [List.map_append]
          exact this
      · rw [txs_len, List.take_length] at hD
        have hll : (lst (r.wds L)).length = L := by
          unfold lst
          rw [List.length_map, show (r.wds L).length = L from wds_len L r.p (rds r.gl)]
        have hp5 : (iS r.p).length ≤ 32 := iS_ln _ (by omega)
        have s4 : (Str.ofString " at ").length = 4 := rfl
        refine ⟨_, _, ((lst (r.wds L)).map fun c => [c]).map SX.S, rfl, rfl, .inl (SqL.of (by rw [sgs_eq]; exact hD)), ?_, ?_⟩
        · rw [sum1, show (Str.ofString "").length = 0 from rfl, Nat.mul_zero]
          omega
        rw [join0, flat1]
        refine ⟨_, _, rfl, rfl, ?_, _, rfl, _, rfl, log_small (by omega), _, _, rfl, rfl, ?_, ?_⟩
        · rw [S_ln, hll, s4]
          exact Nat.le_of_lt (small (by omega))
        · rw [len_cat, S_ln, hll, s4, iS_eq, S_ln]
          exact Nat.le_of_lt (small (by omega))
        · rw [iS_eq, show (Str.ofString " at " : Str) = SX.S [32, 97, 116, 32] from rfl, SX.S_cat, SX.S_cat, List.append_assoc]
          have hs : shortS r = lst (r.wds L) ++ ([32, 97, 116, 32] ++ iS r.p) := by
            cases hq : r.Ls with
            | nil => rw [hq] at hx; cases hx
            | cons L0 ls =>
              rw [hq] at hx
              obtain rfl : L0 = L := Option.some.inj hx
              unfold shortS
              rw [hq]
          rw [← hs]
          exact hQ _ (e1.trans (e3.trans e4))
    · subst eσ e
      have hq := hQ H2 e1
      have : r.Ls = [] := List.eq_nil_of_length_eq_zero (by omega)
      unfold shortS at hq
      rw [this] at hq
      exact hq
end
end Gz
set_option maxHeartbeats 4000000
/-! str.replace where the sign that goes is a name's. -/
namespace Gz
open PySem PySem.Spec PyProof.Rows L2
section
variable {X : Cx} {pins : List (Addr × Obj)} {σ : L2.St} {H : Hp} {s : Shared}
/-- the name holds this very value -/
def RawN (X : Cx) (x : Str) (u : Value) (s : Shared) : Prop := ∃ m, s.heap.Ns X.env.locals m ∧ m x = some u
/-- a store, and the value itself -/
theorem store_raw {M : Model} {A : Around} {E : Value → Shared → Prop} {i : Nat} {x : Str} {v : V} {u : Value} {Q : Unit → Shared → Prop} (I : Inv X pins σ H s) (hN : X.N.Nodup) (hi : X.N[i]? = some x) (hk : X.env.scope.names.lookup x = some .local) (r : RelV v u)
    (h : ∀ s', Inv X pins (σ.set i (some v)) H s' → RawN X x u s' → s.toks ≤ s'.toks → Q () s') : wpAny M A (storeName X.env x u) Q E s := by
  obtain ⟨m, hn, hl⟩ := id I.loc
  have hcls : (X.env.scope.kind == .class || (X.env.scope.kind == .module && X.env.locals != X.env.globals)) = false := by rw [I.ok.kind]; rfl
  have hiσ : i < σ.length := by rw [I.len]; exact (List.getElem?_eq_some_iff.mp hi).1
  have cne := I.cne
  have hk' : X.env.kindOf x = some .local := by
    have hkd := I.ok.kind
    first
    | exact hk
    | (simp only [Env.kindOf]; exact hk)
    | (unfold Env.kindOf; rw [if_pos hkd]; exact hk)
    | simpa [Env.kindOf, hkd] using hk
  refine wpAny_storeName_local hk' hn (fun h' hn' hs => ?_) hcls
  obtain ⟨oL, _, _, hoL, _⟩ := id hn
  refine h _ ⟨I.ok, I.os, I.bare, ⟨fun b o e n hb hx => ?_, fun b o e n hb hx => ?_, I.base.free, fun b o e hx => ?_, I.base.tups, I.base.frzs, I.base.tbls⟩, ⟨_, hn', fun j y v' e1 e2 e3 => ?_⟩, fun y c e => ?_, I.free, I.freeC, fun p hp => ?_, ?_, by simpa using I.len⟩ ⟨_, hn', if_pos rfl⟩ (Nat.le_succ _)
  · exact (hs.2 b (Nat.ne_of_lt (Nat.lt_of_lt_of_le (Heap.lt_size e) I.ok.above))).trans (I.base.keep b o e n hb hx)
  · obtain ⟨sl, e1⟩ := I.base.slot b o e n hb hx
    exact ⟨sl, (hs.2 b (Nat.ne_of_lt (Nat.lt_of_lt_of_le (Heap.lt_size e) I.ok.above))).trans e1⟩
  · obtain ⟨o', e1⟩ := I.base.there b o e hx
    exact ⟨o', (hs.2 b (Nat.ne_of_lt (Nat.lt_of_lt_of_le (Heap.lt_size e) I.ok.above))).trans e1⟩
  · by_cases hj : j = i
    · subst hj
      rw [hi] at e1; cases e1
      rw [List.getElem?_set_self hiσ] at e2
      cases e2
      exact ⟨u, r, .inl ⟨hk, by simp⟩⟩
    · rw [List.getElem?_set_ne (Ne.symm hj)] at e2
      obtain ⟨u', r', q⟩ := hl j y v' e1 e2 e3
      refine ⟨u', r', ?_⟩
      rcases q with ⟨k, e⟩ | ⟨k, c, e, z⟩
      · refine .inl ⟨k, ?_⟩
        have : y ≠ x := fun e => hj (nodup_ix hN e1 (e ▸ hi))
        simp [this, e]
      · exact .inr ⟨k, c, e, z.sameBut hs (cne y c e)⟩
  · obtain ⟨w', z⟩ := I.cell y c e
    exact ⟨w', z.sameBut hs (cne y c e)⟩
  · obtain ⟨e, n, ne, nf, d⟩ := I.pin p hp
    exact ⟨(hs.2 p.1 ne).trans e, n, ne, nf, d⟩
  · exact fun b ob e => (I.hok b ob e).stay (fun c w' hc q => (hs.2 c (by
      rintro rfl
      rcases hc with rfl | hc
      · rw [I.free] at e; cases e
      · rw [I.free] at hc; cases hc)).trans q) (fun _ q => q) fun _ _ q => q
theorem eval_raw {x : Str} {u : Value} {pos : Pos} {Q E : Value → Shared → Prop} (I : Inv X pins σ H s) (hk : X.env.scope.names.lookup x = some .local) (r : RawN X x u s) (hd : (x == ("__debug__" : Str)) = false) (fin : Q u s) : wpAny (model X.prog X.w) X.A (eval (.Name x pos) X.env) Q E s := by
  obtain ⟨m, hn, hm⟩ := r
  have hk' : X.env.kindOf x = some .local := by
    have hkd := I.ok.kind
    first
    | exact hk
    | (simp only [Env.kindOf]; exact hk)
    | (unfold Env.kindOf; rw [if_pos hkd]; exact hk)
    | simpa [Env.kindOf, hkd] using hk
  first
  | exact wpAny_Name (wpAny_loadName_local I.ok.kind hk hn hm fin) hd
  | exact wpAny_Name (wpAny_loadName_local hk' hn hm fin) hd
end
end Gz
set_option maxHeartbeats 4000000
namespace Gz
open PySem PySem.Spec PyProof.Rows L2
section
variable {X : Cx}
theorem tk1 {M : Model} {A : Around} {α : Type} {t : Sem α} {Q Q' : α → Shared → Prop} {E : Value → Shared → Prop} {s : Shared} (h0 : 1 ≤ s.toks) (h : wpAny M A t Q E s) (k : ∀ a s', 1 ≤ s'.toks → Q a s' → Q' a s') : wpAny M A t Q' E s :=
  wpAny_mono (PySem.wpAny_toks h) (fun a s' q => k a s' (Nat.le_trans h0 q.1) q.2) fun _ _ z => z.2
/-- for, one token out, also in its body -/
theorem pst_forT {tg iter : Expr} {body : List Stmt} {wi : TI} {g : TG} {tb : TS} {pos : Pos} (hp : PassesOwn (model X.prog X.w) X.A X.env X.xe) (hc : X.calm = true) (hi : PI X tg iter wi) (hg : PG X tg g) (hb : PSsT X body tb)
    (hs : ∀ x, foldedSetIterable iter X.env x = pure x := by intro _; rfl) : PST X (.For tg iter body [] pos) (tFor wi g tb) := by
  intro pins s σ H D h0 I h
  refine wpAny_For (tk1 h0 (hi.run pins s σ H _ I h) fun v s1 t1 h1 => tk1 t1 h1 fun itv s2 t2 h2 => ?_) hs
  obtain ⟨it, fp, tn, J, H2, e, I2, T, st2, f2, W, ⟨m0, w0⟩, turn⟩ := h2
  subst e
  have stat : ∀ {H' : Hp}, (∀ b ∈ fp, H' b = none) → ∀ b ∈ fp, FpOk X pins H' b := fun hn b hb => ⟨hn b hb, (f2 b hb).2⟩
  refine codeAny_forLoop_any (fun n s' => 1 ≤ s'.toks ∧ ∃ i σ' H', Inv X pins σ' H' s' ∧ tn i s'.heap ∧ (∀ b ∈ fp, H' b = none) ∧ W i n σ' H') ?_ m0 ⟨t2, 0, σ, H2, I2, st2, fun b hb => (f2 b hb).1, w0⟩
  rintro n s3 ⟨t3, i, σ3, H3, I3, st3, fr3, w3⟩
  rcases turn i n σ3 H3 w3 with ⟨stop, qn⟩ | ⟨go, N, hN, step⟩
  · refine wpAny_passesOwn hp (thn (T.done X rfl rfl rfl hc i pins s3 σ3 H3 X.xe I3 (stat fr3) st3 stop) fun r s4 ⟨hr, I4⟩ => ?_)
    subst hr
    exact wpAny_execs_nil ⟨σ3, H3, I4, qn⟩
  · refine wpAny_passesOwn hp (tk1 t3 (T.item X rfl rfl rfl hc i pins s3 σ3 H3 X.xe I3 (stat fr3) st3 go) fun r s4 t4 ⟨u, hr, h4⟩ => ?_)
    subst hr
    refine wpAny_passesOwn hp (tk1 t4 h4 fun _ s5 t5 ⟨x, H5, I5, r5, y5, st5, fr5⟩ => ?_)
    have I5' := I5.pinned (stat fr5) (T.obj _ _ st5)
    refine wpAny_passesOwn hp (tk1 t5 (hg.run _ s5 σ3 H5 x u _ I5' r5 (step x H5 y5)) fun _ s6 t6 ⟨σ6, H6, I6, q6⟩ => ?_)
    refine wpAny_passesOwn hp (tk1 t6 (hb _ s6 σ6 H6 _ t6 I6 q6) fun f s7 t7 q7 => ?_)
    have again : ∀ {σ7 : L2.St} {H7 : Hp}, Inv X (pins ++ pinsAt fp s5.heap) σ7 H7 s7 → N σ7 H7 → ∃ m, m < n ∧ 1 ≤ s7.toks ∧ ∃ i σ' H', Inv X pins σ' H' s7 ∧ tn i s7.heap ∧ (∀ b ∈ fp, H' b = none) ∧ W i m σ' H' := fun {σ7 H7} I7 n7 => by
      obtain ⟨m', hm, w7⟩ := hN σ7 H7 n7
      refine ⟨m', hm, t7, i + 1, σ7, H7, I7.unpinned, T.keep _ _ _ st5 fun b hb o e => (I7.pin (b, o) (List.mem_append_right _ (List.mem_append_right _ (mem_pinsAt hb e)))).1, fun b hb => ?_, w7⟩
      obtain ⟨o, e, d⟩ := T.obj _ _ st5 b hb
      exact (I7.pin (b, o) (List.mem_append_right _ (List.mem_append_right _ (mem_pinsAt hb e)))).2.1
    cases f with
    | next => obtain ⟨σ7, H7, I7, n7⟩ := q7; exact again I7 n7
    | cont => obtain ⟨σ7, H7, I7, n7⟩ := q7; exact again I7 n7
    | brk => obtain ⟨σ7, H7, I7, q7⟩ := q7; exact ⟨σ7, H7, I7.unpinned, q7⟩
    | ret v => obtain ⟨x7, σ7, H7, I7, r7, q7⟩ := q7; exact ⟨x7, σ7, H7, I7.unpinned, r7, q7⟩
/-- a, b, c = x, y, z, one token out -/
theorem pst_par3 {i j l : Nat} {x y z : Str} {a b c : Expr} {ta : TA} {px py pz pt pos : Pos} {kt k2 pt2} (hc : X.calm = true) (hN : X.N.Nodup) (hi : X.N[i]? = some x) (hj : X.N[j]? = some y) (hl : X.N[l]? = some z) (hij : i ≠ j) (hil : i ≠ l) (hjl : j ≠ l)
    (hx : X.env.scope.names.lookup x = some .local) (hy : X.env.scope.names.lookup y = some .local) (hz : X.env.scope.names.lookup z = some .local) (ha : PAT X [a, b, c] ta)
    (hw : swappedStores [.Tuple [.Name x px, .Name y py, .Name z pz] kt pt] (.Tuple [a, b, c] k2 pt2) X.env = pure (some [x, y, z]))
    (hs : swapsWithSole [.Tuple [.Name x px, .Name y py, .Name z pz] kt pt] (.Tuple [a, b, c] k2 pt2) pos.line X.env = pure false := by rfl) :
    PST X (.Assign [.Tuple [.Name x px, .Name y py, .Name z pz] kt pt] (.Tuple [a, b, c] k2 pt2) pos) (tPar3 i j l ta) := by
  intro pins s σ H D h0 I h
  rw [exec_Assign_arm]
  refine wpAny_bind (wpAny_standAt ?_)
  rw [hs]
  refine wpAny_bind (wpAny_pure ?_)
  rw [if_neg (by decide)]
  refine wpAny_bind (Tuple_ (thn (ha _ pins s σ H _ h0 I h) fun us s1 ⟨vs, H1, I1, r1, q1⟩ => ?_))
  obtain ⟨v1, v2, v3, e1, q1⟩ := q1
  subst e1
  obtain ⟨u1, u2, u3, rfl, r1', r2', r3'⟩ : ∃ u1 u2 u3, us = [u1, u2, u3] ∧ RelV v1 u1 ∧ RelV v2 u2 ∧ RelV v3 u3 := by
    cases r1 with
    | cons p q =>
      cases q with
      | cons p' q' =>
        cases q' with
        | cons p'' q'' =>
          cases q''
          exact ⟨_, _, _, rfl, p, p', p''⟩
  refine wpAny_newObj_type ?_ (by show 3 ≤ sizeLine; decide)
  have I2 : Inv X pins σ H1 { s1 with heap := s1.heap.push { cls := .type "tuple", data := .seq [u1, u2, u3].toArray } } := I1.kept (t' := s1.toks) fun b o e => Heap.get?_push_of_some _ e
  rw [hw]
  refine wpAny_bind (wpAny_pure ?_)
  show wpAny (model X.prog X.w) X.A (do rule "assign.swapped-stores"; let items ← unpackItems (.ref s1.heap.objs.size) 3 none; assignInOrder [fun v => bindName X.env z v, fun v => bindName X.env y v, fun v => bindName X.env x v] items.reverse; pure Flow.next) _ _ _
  refine wpAny_bind (wpAny_rule (wpAny_bind (unpackItems_tuple (items := #[u1, u2, u3]) (I.ok.hd hc) (IsTup.new s1.heap _) fun h' hx' => ?_)))
  have I3 := I2.kept (h' := h') (t' := s1.toks) fun b o e => hx' b o (Nat.ne_of_lt (Heap.lt_size e)) e
  show wpAny _ _ (assignInOrder [fun v => bindName X.env z v, fun v => bindName X.env y v, fun v => bindName X.env x v] [u3, u2, u1] >>= fun _ => pure Flow.next) _ _ _
  refine wpAny_bind (assignInOrder_cons (wpAny_bindName (store_ok I3 hN hl (.inl hz) r3' (fun s2 I4 => ?_) (.inr hz))))
  refine assignInOrder_cons (wpAny_bindName (store_ok I4 hN hj (.inl hy) r2' (fun s3 I5 => ?_) (.inr hy)))
  refine assignInOrder_cons (wpAny_bindName (store_ok I5 hN hi (.inl hx) r1' (fun s4 I6 => assignInOrder_nil (wpAny_pure ?_)) (.inr hx)))
  rw [List.set_comm _ _ (Ne.symm hjl), List.set_comm _ _ (Ne.symm hil), List.set_comm _ _ (Ne.symm hij)] at I6
  exact ⟨_, H1, I6, q1⟩
/-- x = a[i]; a, f = a.replace(x, ""), f + x -/
def tFew (iL iF iX : Nat) (ti : TE) : TS := fun D σ H => ∃ z f : Str, σ[iL]? = some (some (.str z)) ∧ σ[iF]? = some (some (.str f)) ∧ z.length ≤ 100000 ∧ f.length ≤ 100000 ∧ ti σ H fun v H1 => ∃ (k : Int) (c : Nat), v = .int k ∧ atI z.cps.toList k = some c ∧
  D.nx (((σ.set iX (some (.str ⟨#[c]⟩))).set iL (some (.str (Txt.replace z ⟨#[c]⟩ (Str.ofString ""))))).set iF (some (.str (f ++ ⟨#[c]⟩)))) H1
theorem psst_few {iL iF iX : Nat} {xL xF xX : Str} {idx : Expr} {ti : TE} {j0 : Nat} {p1 p2 p3 p4 p5 q1 q2 q3 q4 q5 q6 q7 q8 q9 q10 ap pt2 : Pos} {kt k2} (hc : X.calm = true) (hN : X.N.Nodup) (hiL : X.N[iL]? = some xL) (hiF : X.N[iF]? = some xF) (hiX : X.N[iX]? = some xX) (hLF : iL ≠ iF) (hLX : iX ≠ iL) (hFX : iX ≠ iF)
    (kL : X.env.scope.names.lookup xL = some .local) (kF : X.env.scope.names.lookup xF = some .local) (kX : X.env.scope.names.lookup xX = some .local) (hidx : PE X idx ti) (hpl : PlainIx idx)
    (dL : (xL == ("__debug__" : Str)) = false) (dF : (xF == ("__debug__" : Str)) = false) (dX : (xX == ("__debug__" : Str)) = false)
    (cL : (xL == ("__classdict__" : Str)) = false) (cF : (xF == ("__classdict__" : Str)) = false) (cX : (xX == ("__classdict__" : Str)) = false)
    (hs1 : swapsWith (.Subscript (.Name xL p2) idx p3) (some (.Name xX p1)) p4.line X.env = pure false)
    (hw : swappedStores [.Tuple [.Name xL q1, .Name xF q2] kt q3] (.Tuple [.Call (.Attribute (.Name xL q4) "replace" ap) [.Name xX q5, .Constant (.str "") j0 q6] [] q7, .BinOp (.Name xF q8) .Add (.Name xX q9) q10] k2 pt2) X.env = pure (some [xL, xF]))
    (hs : swapsWithSole [.Tuple [.Name xL q1, .Name xF q2] kt q3] (.Tuple [.Call (.Attribute (.Name xL q4) "replace" ap) [.Name xX q5, .Constant (.str "") j0 q6] [] q7, .BinOp (.Name xF q8) .Add (.Name xX q9) q10] k2 pt2) p5.line X.env = pure false)
    (hst : starEach [.Name xX q5, .Constant (.str "") j0 q6] X.env = [(false, eval (.Name xX q5) X.env), (false, eval (.Constant (.str "") j0 q6) X.env)] := by rfl)
    (hbase : attributeBase (.Name xL q4) "replace" X.env (eval (.Name xL q4) X.env) = eval (.Name xL q4) X.env := by rfl) (hline : (ap.endLine == q7.line) = true := by rfl) :
    PSsT X [.Assign [.Name xX p1] (.Subscript (.Name xL p2) idx p3) p4, .Assign [.Tuple [.Name xL q1, .Name xF q2] kt q3] (.Tuple [.Call (.Attribute (.Name xL q4) "replace" ap) [.Name xX q5, .Constant (.str "") j0 q6] [] q7, .BinOp (.Name xF q8) .Add (.Name xX q9) q10] k2 pt2) p5] (tFew iL iF iX ti) := by
  intro pins s σ H D h0 I h
  obtain ⟨z, f, hσL, hσF, hz, hf, h⟩ := h
  have hz2 : z.length ≤ sizeLine := Nat.le_trans hz (by decide)
  refine wpAny_execs_cons (wpAny_Assign_Name (Subscript_ (raw_name hiL (.inl kL) I hσL (fun u ru => ?_) dL cL)) hs1)
  obtain ⟨tz, rfl⟩ := ru
  refine tk1 h0 (hidx.run pins s σ H _ I h) fun v s1 t1 ⟨x, H1, I1, r1, q⟩ => ?_
  obtain ⟨k, c, rfl, he, q⟩ := q
  obtain ⟨tk, rfl⟩ := r1
  obtain ⟨j, e1, e2, e3, e4, e5⟩ := atI_get he
  have hl : z.cps.toList.length = z.length := by simp [Str.length]
  rw [hl] at e1 e4 e5
  have hn := line63
  refine tail_any (typeIs_str s1 z tz) slot_str_getitem.lookup (getItem_str (c := c) (by
    have e1 : decide (k < -(2 ^ 63 : Int)) = false := decide_eq_false (by omega)
    have e2 : decide (k ≥ 2 ^ 63) = false := decide_eq_false (by omega)
    rw [e1, e2, Bool.or_false]) (by rw [e1]; simpa using e2) ?_) (hpl _ _)
  refine store_raw (v := .str ⟨#[c]⟩) (u := .str ⟨#[c]⟩ s1.toks) (I1.tok (s1.toks + 1)) hN hiX kX ⟨_, rfl⟩ fun s2 I2 raw hk2 => ?_
  have ht2 : s1.toks < s2.toks := hk2
  have hiσX : iX < σ.length := by rw [I1.len]; exact (List.getElem?_eq_some_iff.mp hiX).1
  have hσL2 : (σ.set iX (some (V.str ⟨#[c]⟩)))[iL]? = some (some (.str z)) := by rw [List.getElem?_set_ne hLX]; exact hσL
  have hσF2 : (σ.set iX (some (V.str ⟨#[c]⟩)))[iF]? = some (some (.str f)) := by rw [List.getElem?_set_ne hFX]; exact hσF
  have hσX2 : (σ.set iX (some (V.str ⟨#[c]⟩)))[iX]? = some (some (.str ⟨#[c]⟩)) := by rw [List.getElem?_set_self hiσX]
  refine wpAny_execs_cons ?_
  rw [exec_Assign_arm]
  refine wpAny_bind (wpAny_standAt ?_)
  rw [hs]
  refine wpAny_bind (wpAny_pure ?_)
  rw [if_neg (by decide)]
  refine wpAny_bind (Tuple_ (Calls.spliced_cons ?_))
  refine PySem.Call_method2 hbase hst hline (raw_name hiL (.inl kL) I2 hσL2 (fun u ru => ?_) dL cL)
  obtain ⟨tz2, rfl⟩ := ru
  refine ⟨"str", _, PySem.F.plainAttrs_str, PySem.F.slot_str_replace, PySem.F.type_str_replace, typeIs_str _ _ _, (fun _ e => nomatch e), Calls.callWith_builtin rfl (Calls.evalArgs_plain (Calls.spliced_cons ?_))⟩
  refine eval_raw I2 kX raw dX (Calls.spliced_cons (Calls.Constant_str (Calls.spliced_nil ?_)))
  refine PySem.SC.replace (by show s1.toks ≠ 0; omega) (by show s2.toks ≠ 0; omega) (by show s1.toks ≠ s2.toks; omega) ?_ ?_ fun t' k' => ?_
  · exact beq_eq_false_iff_ne.mpr fun e => by
      have := congrArg Str.length e
      exact absurd this (by show (1 : Nat) ≠ 0; decide)
  · show z.length + (z.length + 1) * 0 ≤ 16777216
    omega
  have I3 := I2.tok k'
  refine Calls.spliced_cons (thn ((pe_op op_add_str (pv iF hiF (.inl kF) dF cF) (pv iX hiX (.inl kX) dX cX)).run pins _ _ H1 (fun v H2 => v = .str (f ++ ⟨#[c]⟩) ∧ H2 = H1) I3 ⟨_, hσF2, _, hσX2, _, _, rfl, rfl, ?_, rfl, rfl⟩) fun u s3 ⟨v, H2, I4, r4, ev, eH⟩ => ?_)
  · show f.length + 1 ≤ sizeLine
    exact Nat.le_trans (Nat.succ_le_succ hf) (by decide)
  subst ev eH
  refine Calls.spliced_nil ?_
  refine wpAny_newObj_type ?_ (by show 2 ≤ sizeLine; decide)
  have I5 : Inv X pins (σ.set iX (some (V.str ⟨#[c]⟩))) H2 { s3 with heap := s3.heap.push { cls := .type "tuple", data := .seq [Value.str (Txt.replace z ⟨#[c]⟩ (Str.ofString "")) t', u].toArray } } := I4.kept (t' := s3.toks) fun b o e => Heap.get?_push_of_some _ e
  rw [hw]
  refine wpAny_bind (wpAny_pure ?_)
  show wpAny (model X.prog X.w) X.A (do rule "assign.swapped-stores"; let items ← unpackItems (.ref s3.heap.objs.size) 2 none; assignInOrder [fun v => bindName X.env xF v, fun v => bindName X.env xL v] items.reverse; pure Flow.next) _ _ _
  refine wpAny_bind (wpAny_rule (wpAny_bind (unpackItems_tuple (items := #[Value.str (Txt.replace z ⟨#[c]⟩ (Str.ofString "")) t', u]) (I.ok.hd hc) (IsTup.new s3.heap _) fun h' hx' => ?_)))
  have I6 := I5.kept (h' := h') (t' := s3.toks) fun b o e => hx' b o (Nat.ne_of_lt (Heap.lt_size e)) e
  show wpAny _ _ (assignInOrder [fun v => bindName X.env xF v, fun v => bindName X.env xL v] [u, Value.str (Txt.replace z ⟨#[c]⟩ (Str.ofString "")) t'] >>= fun _ => pure Flow.next) _ _ _
  refine wpAny_bind (assignInOrder_cons (wpAny_bindName (store_ok I6 hN hiF (.inl kF) r4 (fun s4 I7 => ?_) (.inr kF))))
  refine assignInOrder_cons (wpAny_bindName (store_ok I7 hN hiL (.inl kL) (v := .str (Txt.replace z ⟨#[c]⟩ (Str.ofString ""))) ⟨t', rfl⟩ (fun s5 I8 => assignInOrder_nil (wpAny_pure ?_)) (.inr kL)))
  rw [List.set_comm _ _ (Ne.symm hLF)] at I8
  exact wpAny_execs_nil ⟨_, H2, I8, q⟩
end
end Gz
set_option maxHeartbeats 4000000
namespace Gz
open PySem PySem.Spec PyProof.Rows L2 PySem.StrLaws
theorem PSsT.nox' {X : Cx} {st : List Stmt} {t : TS} (h : PSsT X.nox st t) : PSsT X st t := fun pins s σ H D h0 I hw =>
  wpAny_mono (h pins s σ H D h0 (I.wish _) hw) (fun _ _ q => q.unwish) fun _ _ z => False.elim z
section
variable {P : Program} {w : World} {K : PySem.W.Frag} {mg : Str → Option Value} {base : Heap} {x qual : Str} {params : Arguments} {body : List Stmt} {scope : Scope} {dvs : List V} {kws : List (Str × V)} {f : Addr} {fd : FuncData}
theorem okT {CX : CXT} {N ps : List Str} {k : Nat} {sp : Sp} (F : FunD K x qual params body scope dvs kws f fd) (S : FnScope N ps scope) (hnc : ∀ y ∈ scope.names, y.2 ≠ .cell) (hps : 1 ≤ ps.length) (len : ∀ vs H Q E, sp vs H Q E → vs.length = ps.length)
    (hbody : ∀ (cdv : Value) (A : Around) (outer : List Env) (s : Shared) (H : Hp) (vs : List V) (Q : VK) (E : XK), Room k (A.deeper (envOfC qual scope s.heap.objs.size f cdv)) → sp vs H Q E →
      ∃ t, PSsT (cxOf CX P w K mg base N qual scope f cdv A outer s H E) body t ∧ t { nx := fun _ H' => Q .non H', rt := Q } (start N vs) H) : FnOk P w K mg base CX (k + 1) f fd ps sp := by
  obtain ⟨oc, od, dV, kV, doc, pm, an, cdv, ct, osl, rfl, lk, hcd, _, _⟩ := F.ex
  exact fn_ofT lk hcd S hnc hps len fun A outer s H vs Q E hr hsp => hbody cdv A outer s H vs Q E hr hsp
end
/-- text[::-1] -/
def tRevS (te : TE) : TE := fun σ H Q => te σ H fun x H1 => ∃ z : Str, x = .str z ∧ z.length ≤ 100000 ∧ ∀ z' : Str, z'.length ≤ z.length → Q (.str z') H1
theorem pe_revS {X : Cx} {e : Expr} {te : TE} {k : Nat} {p1 p2 p3 pos : Pos} (he : PE X e te) : PE X (.Subscript e (.Slice none none (some (.UnaryOp .USub (.Constant (.int 1) k p1) p2)) p3) pos) (tRevS te) := by
  refine ⟨fun pins s σ H Q I h => ?_⟩
  refine Subscript_ (thn (he.run pins s σ H _ I h) fun v s1 ⟨x, H1, I1, r1, q1⟩ => ?_)
  obtain ⟨z, ex, hz, q⟩ := q1
  subst ex
  obtain ⟨t, rfl⟩ := r1
  have hst : PO X (some (.UnaryOp .USub (.Constant (.int 1) k p1) p2)) (tPart (tUn (rU fun i => .int (-i)) (tC (.int 1)))) := po_some (pe_un un_neg pe_int)
  refine wpAny_Slice (thn (po_none.run pins s1 σ H1 (fun o H2 => o = none ∧ H2 = H1) I1 ⟨rfl, rfl⟩) fun vl s2 ⟨l, H2, I2, pl, el, e2⟩ => ?_)
  subst el e2
  refine thn (po_none.run pins s2 σ H2 (fun o H3 => o = none ∧ H3 = H2) I2 ⟨rfl, rfl⟩) fun vu s3 ⟨u, H3, I3, pu, eu, e3⟩ => ?_
  subst eu e3
  refine thn (hst.run pins s3 σ H3 (fun o H4 => o = some (-1) ∧ H4 = H3) I3 ⟨1, rfl, -1, rfl, rfl, rfl⟩) fun vs s4 ⟨o, H4, I4, ps, eo, e4⟩ => ?_
  subst eo e4
  have I5 : Inv X pins σ H4 { s4 with heap := s4.heap.push { cls := .type "slice", data := .fields #[vl, vu, vs] } } := I4.kept (t' := s4.toks) fun b ob q => Heap.get?_push_of_some _ q
  obtain ⟨l1, rfl, el1⟩ := IsPart.raw pl
  obtain ⟨u1, rfl, eu1⟩ := IsPart.raw pu
  obtain ⟨st1, rfl, es1⟩ := IsPart.raw ps
  cases l1 with
  | some _ => cases el1
  | none =>
  cases u1 with
  | some _ => cases eu1
  | none =>
  cases st1 with
  | none => cases es1
  | some p =>
  obtain ⟨i1, tk⟩ := p
  obtain rfl : i1 = -1 := Option.some.inj es1
  refine tail_any (ops := [.str z t, .ref s4.heap.objs.size]) (typeIs_str _ z t) (PySem.F.slot_str_getitem.lookup) ?_ (by with_unfolding_all rfl)
  refine wpAny_getItem_str_slice (l := none) (u := none) (st := some (-1, tk)) ⟨_, Heap.get?_push_size _ rfl, rfl, rfl⟩ rfl ?_
  show Made.post (if (((-1 : Int) == 1) && (Builtin.Str.strSliceIndices none none (-1) z.length).length == z.length) = true then Made.val (.str z t)
    else Made.str ⟨((Builtin.Str.strSliceIndices none none (-1) z.length).filterMap (z.cps[·]?)).toArray⟩) (EP X pins σ Q) _
  rw [if_neg (by rw [show (((-1 : Int) == 1)) = false from rfl, Bool.false_and]; exact Bool.false_ne_true)]
  have hlen : (⟨((Builtin.Str.strSliceIndices none none (-1) z.length).filterMap (z.cps[·]?)).toArray⟩ : Str).length ≤ z.length := by
    rw [picked_rev]
    show (List.toArray _).size ≤ _
    rw [List.size_toArray]
    refine Nat.le_trans (List.length_filterMap_le _ _) ?_
    rw [List.length_map, List.length_range]
    exact Nat.le_refl _
  exact ⟨Nat.le_trans hlen (Nat.le_trans hz (by decide)), .str _, H4, I5.tok _, ⟨_, rfl⟩, q _ hlen⟩
/-- a sign goes -/
theorem repl_one (c : Nat) : ∀ l : List Nat, replL [c] [] l = l.filter fun d => decide (d ≠ c)
  | [] => replL_nil
  | d :: r => by
    by_cases h : d = c
    · subst h
      rw [replL_hit (by simp) (by simp)]
      show [] ++ replL [d] [] ((d :: r).drop 1) = _
      rw [List.nil_append, List.drop_one, List.tail_cons, repl_one d r]
      simp
    · rw [replL_miss (by simp [h]), repl_one c r]
      simp [h]
theorem repl_S (c : Nat) (l : List Nat) : Txt.replace (SX.S l) ⟨#[c]⟩ (Str.ofString "") = SX.S (l.filter fun d => decide (d ≠ c)) := by
  have h1 := replace_list (x := SX.S l) (y := ⟨#[c]⟩) (z := Str.ofString "") (by show 1 ≤ 1; decide)
  have h2 : (Txt.replace (SX.S l) ⟨#[c]⟩ (Str.ofString "")).cps.toList = l.filter fun d => decide (d ≠ c) := by
    rw [h1]
    exact repl_one c l
  rw [← SX.S_tl (Txt.replace (SX.S l) ⟨#[c]⟩ (Str.ofString "")), ← h2]
theorem filter_len {c : Nat} : ∀ {l : List Nat}, l.Nodup → c ∈ l → (l.filter fun d => decide (d ≠ c)).length + 1 = l.length
  | [], _, h => nomatch h
  | d :: r, hn, h => by
    obtain ⟨h1, h2⟩ := List.nodup_cons.mp hn
    by_cases e : d = c
    · subst e
      have : r.filter (fun e => decide (e ≠ d)) = r := List.filter_eq_self.mpr fun x hx => decide_eq_true fun z => h1 (z ▸ hx)
      rw [List.filter_cons_of_neg (by simp), this, List.length_cons]
    · rcases List.mem_cons.mp h with z | z
      · exact absurd z.symm e
      · rw [List.filter_cons_of_pos (by simpa using e), List.length_cons, List.length_cons, filter_len h2 z]
end Gz
set_option maxHeartbeats 4000000
namespace Gz
open PySem PySem.Spec PyProof.Rows L2
section
variable {X : Cx}
/-- behind it a token is out -/
def PE1 (X : Cx) (e : Expr) (t : TE) : Prop :=
  ∀ (pins : List (Addr × Obj)) (s : Shared) (σ : L2.St) (H : Hp) (Q : VK), Inv X pins σ H s → t σ H Q → wpAny (model X.prog X.w) X.A (eval e X.env) (fun v s' => 1 ≤ s'.toks ∧ EP X pins σ Q v s') X.xe s
theorem pe1_cop {op : Operator} {r : R2} {f : Expr} {tf : TE} {i : Int} {k : Nat} {p pos : Pos} (ho : OpR X (binaryOp op) r) (hb : PE X f tf) : PE1 X (.BinOp (.Constant (.int i) k p) op f pos) (tOp r (tC (.int i)) tf) := by
  intro pins s σ H Q I h
  refine wpAny_BinOp (wpAny_Constant_int ?_)
  have t1 : 1 ≤ ({ s with toks := s.toks + 1 } : Shared).toks := Nat.le_add_left _ _
  refine tk1 t1 (hb.run pins _ σ H _ (I.tok (s.toks + 1)) h) fun u s2 t2 ⟨y, H2, I2, r2, q2⟩ => ?_
  exact tk1 t2 (ho pins s2 σ H2 (.int i) y (.int i s.toks) u Q I2 ⟨_, rfl⟩ r2 q2) fun v s3 t3 q3 => ⟨t3, q3⟩
theorem pa_cons1 {e : Expr} {es : List Expr} {te : TE} {ta : TA} (ha : PE1 X e te) (hr : PAT X es ta) (hs : starEach (e :: es) X.env = (false, eval e X.env) :: starEach es X.env := by rfl) : PA X (e :: es) (tCons te ta) := by
  refine ⟨fun pos pins s σ H Q I h => ?_⟩
  rw [hs]
  show wpAny _ _ (spliced ((false, eval e X.env) :: backTo pos (starEach es X.env))) _ _ s
  refine Calls.spliced_cons (wpAny_mono (ha pins s σ H _ I h) (fun v s1 q => ?_) fun _ _ z => z)
  obtain ⟨hk, x, H1, I1, r1, q1⟩ := q
  exact thn (hr pos pins s1 σ H1 _ hk I1 q1) fun us s2 ⟨xs, H2, I2, r2, q2⟩ => ⟨x :: xs, H2, I2, .cons r1 r2, q2⟩
end
end Gz
set_option maxHeartbeats 4000000
namespace Gz
open PySem PySem.Spec PyProof.Rows L2
section
variable {P : Program} {w : World} {K : PySem.W.Frag} {mg : Str → Option Value} {base : Heap}
abbrev N_l_few : List Str := ["_law_hand", "_law_many_here", "_law_left", "_law_found", "_law_turn", "_law_letter"]
def sp__law_few (K : PySem.W.Frag) : Sp := fun vs H Q _ => ∃ (hd : Addr) (B : Int), vs = [.ref hd, .int 4] ∧ Hd H hd B ∧ B ≤ 80000 ∧ ∀ (st : List Nat) H1, Sab hd H H1 → Hd H1 hd (B + 4) → st.length = 4 → (∀ c ∈ st, c ∈ al) → Q (.str (SX.S st)) H1
theorem cal__law_few (T : Tx K mg base) : C8.Cal P w K mg base 2 "_law_few" (sp__law_few K) [] := by
  obtain ⟨fd, F0⟩ := T.D_l_few
  have F : FunD K "_law_few" "_law_few" (defArgs s_l_few) (defBody s_l_few) (defScope s_l_few) [] [] (He.ga K "_law_few") fd := F0
  refine ⟨⟨_, fd, ["_law_hand", "_law_many_here"], [], okT F sc_l_few (by decide +kernel) (by decide) (fun vs H Q E h => ?_) (fun cdv A outer s H vs Q E hr h => ?_), T.g__law_few, F.kp, F.bindsN (fun _ _ _ _ _ _ us hl => match us, hl with | [_, _], _ => rfl), .nil⟩⟩
  · obtain ⟨_, _, rfl, _⟩ := h
    rfl
  · refine ⟨_, PSsT.nox' (psst_cons (PST.of (ps_asg (pe_tup (pa_cons pe_str (pa_cons pe_str pa_nil))) (pg_tupK (K := K) rfl (n := 2) rfl (pgs_cons (pg_name (i := 2) sc_l_few.nd rfl locV) (pgs_cons (pg_name (i := 3) sc_l_few.nd rfl locV) pgs_nil))))) (psst_cons (pst_forT PassesOwn.never rfl (pi_range1 (by rfl) T.f_range (pa_cons (pv 1) pa_nil)) (pg_name (i := 4) sc_l_few.nd rfl locV) (psst_few (iL := 2) (iF := 3) (iX := 5) rfl sc_l_few.nd rfl rfl rfl (by decide) (by decide) (by decide) rfl rfl rfl (C8.pe_c (cal__law_pick T) hr (by decide) (by rfl) (pa_cons (pv 0) (pa_cons (pe_callB call_len_str (by rfl) T.f_len bt_len (pa_cons (pv 2) pa_nil)) pa_nil))) (fun _ _ => rfl) (by decide) (by decide) (by decide) (by decide) (by decide) (by decide) rfl rfl rfl)) (PSsT.of (pss_one (ps_ret (pv 3)))))), ?_⟩
    obtain ⟨hd, B, rfl, hH, hB, hQ⟩ := h
    refine ⟨lnk, fun q nq => ⟨_, _, rfl, SqT.of upd_same, rfl, _, _, rfl, _, _, rfl, rfl, _, rfl, _, rfl, by decide, by decide, for_range (n := 4) (fun i σ H1 => Sab hd H H1 ∧ Hd H1 hd (B + i) ∧ ∃ (l st : List Nat) (x y : Option V), σ = [some (.ref hd), some (.int 4), some (.str (SX.S l)), some (.str (SX.S st)), x, y] ∧ l.Nodup ∧ l.length + i = 27 ∧ (∀ c ∈ l, c ∈ al) ∧ st.length = i ∧ ∀ c ∈ st, c ∈ al) ⟨Sab.of (same_new nq), (hH.ext (same_new nq)).up (by omega), al, [], none, none, rfl, al_nd, rfl, fun c hc => hc, rfl, fun c hc => nomatch hc⟩ (fun i σ H1 hi ⟨e, h1, l, st, x, y, eσ, hn, hl, hla, hs, hsa⟩ => ?_) fun σ H1 ⟨e, h1, l, st, x, y, eσ, hn, hl, hla, hs, hsa⟩ => ?_⟩⟩
    · subst eσ
      refine ⟨_, _, rfl, rfl, by rw [S_ln]; omega, by rw [S_ln]; omega, ?_⟩
      refine ⟨_, rfl, _, rfl, _, rfl, lineS (by omega), hd, _, _, rfl, h1, by rw [S_ln]; omega, by omega, fun k H2 e2 h2 hk => ?_⟩
      rw [S_ln] at hk
      obtain ⟨j, rfl⟩ := Int.eq_ofNat_of_zero_le hk.1
      have hj : j < l.length := by omega
      have hx : l[j]? = some l[j] := List.getElem?_eq_getElem hj
      have hm : l[j] ∈ l := List.getElem_mem hj
      generalize l[j] = c at hx hm
      have hlen := filter_len hn hm
      refine ⟨_, c, rfl, atI_nat hx, Sab.trans e e2, h2.up (by omega), l.filter (fun d => decide (d ≠ c)), st ++ [c], some (.int (0 + (i : Int))), some (.str (SX.S [c])), ?_, hn.filter _, by omega, fun d hd => hla d (List.mem_filter.mp hd).1, by rw [List.length_append, hs]; rfl, fun d hd => ?_⟩
      · rw [repl_S, show (⟨#[c]⟩ : Str) = SX.S [c] from rfl, SX.S_cat]
        rfl
      · rcases List.mem_append.mp hd with hd | hd
        · exact hsa d hd
        · rw [List.mem_singleton.mp hd]; exact hla c hm
    · subst eσ
      exact ⟨_, rfl, hQ st H1 e h1 hs hsa⟩
abbrev N_l_grouped : List Str := ["_law_hand", "_law_stock", "_law_cut", "_law_way", "_law_free", "_law_some", "_law_word"]
def sp__law_grouped (K : PySem.W.Frag) : Sp := fun vs H Q _ => ∃ (hd : Addr) (B : Int) (st : List Nat), vs = [.ref hd, .str (SX.S st)] ∧ Hd H hd B ∧ B ≤ 80000 ∧ st.length ≤ 100 ∧ ∀ v H1, Sab hd H H1 → Hd H1 hd (B + 2) → Q (.ref v) H1
theorem cal__law_grouped (T : Tx K mg base) : C8.Cal P w K mg base 2 "_law_grouped" (sp__law_grouped K) [] := by
  obtain ⟨fd, F0⟩ := T.D_l_grouped
  have F : FunD K "_law_grouped" "_law_grouped" (defArgs s_l_grouped) (defBody s_l_grouped) (defScope s_l_grouped) [] [] (He.ga K "_law_grouped") fd := F0
  refine ⟨⟨_, fd, ["_law_hand", "_law_stock"], [], F.ok sc_l_grouped (fun vs H Q E h => ?_) (fun cdv A outer s H vs Q E hr h => ?_), T.g__law_grouped, F.kp, F.bindsN (fun _ _ _ _ _ _ us hl => match us, hl with | [_, _], _ => rfl), .nil⟩⟩
  · obtain ⟨_, _, _, rfl, _⟩ := h
    rfl
  · refine ⟨_, PSs.nox (pss_cons (ps_asg (pe_tup (pa_cons1 (pe1_cop op_add (C8.pe_c (cal__law_pick T) hr (by decide) (by rfl) (pa_cons (pv 0) (pa_cons pe_int pa_nil)))) (pat_cons (CwR.PET.of (C8.pe_c (cal__law_pick T) hr (by decide) (by rfl) (pa_cons (pv 0) (pa_cons pe_int pa_nil)))) (pat_cons (CwR.pet_replC (pv 1)) pat_nil)))) (pg_tupK (K := K) rfl (n := 3) rfl (pgs_cons (pg_name (i := 2) sc_l_grouped.nd rfl locV) (pgs_cons (pg_name (i := 3) sc_l_grouped.nd rfl locV) (pgs_cons (pg_name (i := 4) sc_l_grouped.nd rfl locV) pgs_nil)))))
    (C8.pss_cut (ps_set (i := 5) sc_l_grouped.nd rfl locV (pe_ifExp (pt_cmpR op_gt (pv 3) pe_int (nomark _)) (pe_lst (pa_cons (pe_slice C8.sl_txt (pv 4) po_none (po_some (pv 2))) (pa_cons (pe_revS (pe_slice C8.sl_txt (pv 4) (po_some (pv 2)) (po_some (pe_op op_add (pv 2) pe_int)))) pa_nil))) (pe_lst (pa_cons (pe_slice C8.sl_txt (pv 4) po_none (po_some (pv 2))) pa_nil))))
    (pss_one (ps_ret (pe_callTy (call_tupleK (K := K) rfl) (by rfl) T.f_tuple bt_tuple (pa_cons (pe_lc (own := [("_law_word", 6)]) rfl sc_l_grouped.nd (pi_listK (K := K) rfl (pv 5)) (blkOk_by (own := [("_law_word", 6)]) (N := N_l_grouped) (sc := defScope s_l_grouped) (by decide +kernel)) (fun _ _ _ _ _ => (pg_name (i := 6) sc_l_grouped.nd rfl locV)) (fun _ _ _ _ _ => (pts_one (pw_and (pt_cmpR op_gt (pv 3) pe_int (nomark _)) (pw_and1 (pt_cmpR op_gt (pe_callB call_len_str (by rfl) T.f_len bt_len (pa_cons (pv 6) pa_nil)) pe_int (nomark _)))).pt)) (fun _ _ _ _ _ => (pv 6))) pa_nil)))))), ?_⟩
    obtain ⟨hd, B, st, rfl, hH, hB, hsl, hQ⟩ := h
    refine ⟨_, rfl, hd, 2, B, rfl, hH, by decide, by omega, fun k H1 e1 h1 hk => ⟨_, _, rfl, rfl, _, rfl, hd, 4, _, rfl, h1, by decide, by omega, fun m H2 e2 h2 hm => ⟨_, rfl, _, rfl, ?_, lnk, fun q nq => ⟨_, _, rfl, SqT.of upd_same, rfl, _, _, rfl, _, _, rfl, _, _, rfl, rfl, ?_⟩⟩⟩⟩
    · rw [S_ln]; show st.length + (st.length + 1) * 0 ≤ _; omega
    have hz := TK.replace_len (SX.S st) (Str.ofString "-") (Str.ofString "")
    rw [S_ln st, show (Str.ofString "").length = 0 from rfl, Nat.mul_zero] at hz
    generalize Txt.replace (SX.S st) (Str.ofString "-") (Str.ofString "") = z at hz nq ⊢
    have hz2 : z.length ≤ sizeLine := Nat.le_of_lt (small (by omega))
    have e := (Sab.trans e1 e2).trans (Sab.of (same_new (o := .tup [.int (2 + k), .int m, .str z]) nq))
    have h3 := h2.ext (same_new (o := .tup [.int (2 + k), .int m, .str z]) nq)
    generalize upd H2 q (.tup [.int (2 + k), .int m, .str z]) = H3 at e h3
    have hsl2 : ∀ lo hi, (Txt.slice z lo hi).length ≤ 100 := fun lo hi => by
      rw [← C8.cutS_slice]
      have := cutS_length z lo hi
      omega
    have hd3 := Hd.up (B' := B + 2) (by omega) h3
    refine ⟨fun σ' H' => Same H3 H' ∧ ∃ (D : Addr) (zs : List Str), σ' = [some (.ref hd), some (.str (SX.S st)), some (.int (2 + k)), some (.int m), some (.str z), some (.ref D), none] ∧ H' D = some (.lst (zs.map V.str)) ∧ zs.length ≤ 2 ∧ ∀ z ∈ zs, z.length ≤ 100, ?_, fun σ' H' ⟨e3, D, zs, eσ, hD, hzl, hzs⟩ => ?_⟩
    · refine ⟨_, rfl, _, _, rfl, rfl, _, rfl, ite2D (fun _ => ⟨_, rfl, _, rfl, _, rfl, _, rfl, hz2, _, rfl, _, rfl, _, rfl, _, rfl, _, _, rfl, rfl, _, rfl, _, rfl, hz2, _, rfl, Nat.le_trans (hsl2 _ _) (by decide), fun z' hz' => ⟨lnk, fun D nD => ⟨same_new nD, D, [Txt.slice z none (some (2 + k)), z'], rfl, upd_same, by show 2 ≤ 2; decide, fun y hy => ?_⟩⟩⟩) fun _ => ⟨_, rfl, _, rfl, _, rfl, _, rfl, hz2, lnk, fun D nD => ⟨same_new nD, D, [Txt.slice z none (some (2 + k))], rfl, upd_same, by show 1 ≤ 2; decide, fun y hy => ?_⟩⟩⟩
      · rcases List.mem_cons.mp hy with rfl | hy
        · exact hsl2 _ _
        · rw [List.mem_singleton.mp hy]
          exact Nat.le_trans hz' (hsl2 _ _)
      · rw [List.mem_singleton.mp hy]
        exact hsl2 _ _
    · subst eσ
      refine ⟨_, rfl, _, rfl, ⟨_, SqL.of hD⟩, fun D2 nD2 => lc_it (walk_list (xs := zs.map V.str)) (fun i H4 => Same H' H4 ∧ ∃ acc, H4 D2 = some (.lst acc) ∧ acc.length ≤ i) ⟨same_new nD2, [], upd_same, Nat.le_refl _⟩ (fun i H4 _ hp => SqL.of (hp.1 _ _ hD)) (fun i x H4 H5 hi ⟨e4, acc, hA, hal⟩ ⟨e5, hv⟩ => ?_) fun H4 ⟨e4, acc, hA, hal⟩ => ⟨D2, acc, rfl, .inl ⟨SqL.of hA, fun l nl => ?_⟩⟩⟩
      · subst e5
        rw [List.getElem?_map] at hv
        cases hw : zs[i]? with
        | none => rw [hw] at hv; cases hv
        | some y =>
          rw [hw] at hv
          obtain rfl := (Option.some.inj hv).symm
          have hyl := hzs y (List.mem_of_getElem? hw)
          rw [List.length_map] at hi
          have put : ∃ acc', H5 D2 = some (.lst acc') ∧ acc'.length < sizeLine ∧ (Same H' (upd H5 D2 (.lst (acc' ++ [.str y]))) ∧ ∃ acc, (upd H5 D2 (.lst (acc' ++ [.str y]))) D2 = some (.lst acc) ∧ acc.length ≤ i + 1) := ⟨acc, hA, small (by omega), same_put e4 nD2, _, upd_same, by rw [List.length_append]; exact Nat.succ_le_succ hal⟩
          have skip : Same H' H5 ∧ ∃ acc, H5 D2 = some (.lst acc) ∧ acc.length ≤ i + 1 := ⟨e4, acc, hA, by omega⟩
          exact ⟨rfl, _, rfl, _, _, rfl, rfl, _, rfl, ite2D (fun _ => ⟨_, rfl, _, rfl, Nat.le_trans hyl (by decide), _, _, rfl, rfl, _, rfl, ite2D (fun _ => ⟨_, rfl, put⟩) fun _ => skip⟩) fun _ => (by refine iteF ?_; exact skip)⟩
      · exact hQ l _ (e.trans (Sab.of (e3.trans (e4.trans (same_new nl))))) (hd3.ext (e3.trans (e4.trans (same_new nl))))
end
end Gz
set_option maxHeartbeats 4000000
namespace Gz
open PySem PySem.Spec PyProof.Rows L2
section
variable {P : Program} {w : World} {K : PySem.W.Frag} {mg : Str → Option Value} {base : Heap}
/-- what is told of a record, of which only the width, the lengths and the first pace are read -/
def NtO (K : PySem.W.Frag) (H : Hp) (a : Addr) (W lo hi : Nat) (p : Int) : Prop := ∃ (g s t e : Addr) (ps : List V), H a = some (.tup [.int (W : Int), .ref g, .int (lo : Int), .int (hi : Int), .ref s, .ref t, .ref e]) ∧ H s = some (.tup (.int p :: ps)) ∧ (1 ≤ W ∧ W ≤ 8) ∧ (1 ≤ lo ∧ lo ≤ hi ∧ hi ≤ 40) ∧ (-9 ≤ p ∧ p ≤ 9)
theorem inV_int (z : Int) (xs : List Int) : inV (.int z) (xs.map V.int) = xs.contains z := by
  induction xs with
  | nil => rfl
  | cons x xs ih =>
    show (eqV (.int x) (.int z) || inV (.int z) (xs.map V.int)) = _
    rw [ih, List.contains_cons]
    congr 1
    show (x == z) = (z == x)
    exact Bool.eq_iff_iff.mpr ⟨fun h => by rw [beq_iff_eq] at h ⊢; exact h.symm, fun h => by rw [beq_iff_eq] at h ⊢; exact h.symm⟩
theorem flat_ints : ∀ xs : List Int, (xs.map V.int).all flatV = true
  | [] => rfl
  | _ :: xs => flat_ints xs
theorem inStep {H H1 : Hp} {hd D : Addr} {l : List Int} {c : Int} (nD : H D = none) (e : Sab hd H H1) (hD : H1 D = some (.lst (l.map V.int))) (hi : l.length < 1000000) :
    ∃ acc, H1 D = some (.lst acc) ∧ acc.length < sizeLine ∧ Sab hd H (upd H1 D (.lst (acc ++ [.int c]))) ∧ (upd H1 D (.lst (acc ++ [.int c]))) D = some (.lst ((l ++ [c]).map V.int)) :=
  ⟨_, hD, by rw [List.length_map]; exact small hi, e.own nD, by rw [upd_same, List.map_append]; rfl⟩
theorem iteBoth {b : Bool} {A B : Prop} (x : A) (y : B) : if b = true then A else B := by
  split
  · exact x
  · exact y
theorem cut3 {l : List Int} {m : Int} (hl : l.length = 3) (hm : 0 ≤ m ∧ m < 3) : ∃ l' : List Int, cutV (l.map V.int) none (some (1 + m)) = l'.map V.int ∧ l' ≠ [] ∧ ∀ z ∈ l', z ∈ l := by
  match l, hl with
  | [a, b, c], _ =>
    have : m = 0 ∨ m = 1 ∨ m = 2 := by omega
    rcases this with rfl | rfl | rfl
    · exact ⟨[a], rfl, by simp, by simp⟩
    · exact ⟨[a, b], rfl, by simp, by simp⟩
    · exact ⟨[a, b, c], rfl, by simp, by simp⟩
theorem Hd.neI {H : Hp} {a D : Addr} {B : Int} (h : Hd H a B) {H0 : Hp} {o : HO} (h0 : H0 a = some o) (n : H0 D = none) : D ≠ a := fun z => by
  rw [← z, n] at h0
  cases h0
abbrev N_l_any_note : List Str := ["_law_hand", "_law_size", "_law_many_here", "_law_stock", "_law_wide", "_law_is_far", "_law_low", "_law_more", "_law_dry", "_law_some", "_law_turn", "_law_high", "_law_gone", "_law_place", "_law_speeds", "_law_sets", "_law_speed", "_law_note", "_law_row", "_law_time", "_law_mark"]
def sp__law_any_note (K : PySem.W.Frag) : Sp := fun vs H Q _ => ∃ (hd : Addr) (B : Int) (st : List Nat), vs = [.ref hd, .int 5, .int 0, .str (SX.S st)] ∧ Hd H hd B ∧ B ≤ 70000 ∧ st ≠ [] ∧ st.length ≤ 100 ∧ ∀ v (W lo hi : Nat) (p : Int) H1, Sab hd H H1 → Hd H1 hd (B + 80) → NtO K H1 v W lo hi p → Q (.ref v) H1
theorem cal__law_any_note (T : Tx K mg base) : C8.Cal P w K mg base 3 "_law_any_note" (sp__law_any_note K) [] := by
  obtain ⟨fd, F0⟩ := T.D_l_any_note
  have F : FunD K "_law_any_note" "_law_any_note" (defArgs s_l_any_note) (defBody s_l_any_note) (defScope s_l_any_note) [] [] (He.ga K "_law_any_note") fd := F0
  refine ⟨⟨_, fd, ["_law_hand", "_law_size", "_law_many_here", "_law_stock"], [], F.ok sc_l_any_note (fun vs H Q E h => ?_) (fun cdv A outer s H vs Q E hr h => ?_), T.g__law_any_note, F.kp, F.bindsN (fun _ _ _ _ _ _ us hl => match us, hl with | [_, _, _, _], _ => rfl), .nil⟩⟩
  · obtain ⟨_, _, _, rfl, _⟩ := h
    rfl
  · refine ⟨_, PSs.nox (C8.pss_cut (ps_par (i := 4) (j := 5) rfl sc_l_any_note.nd rfl rfl (by decide) rfl rfl (pa_cons (pe_ix (ix_listK (K := K) rfl) (pe_lst (pa_cons pe_int (pa_cons pe_int (pa_cons pe_int (pa_cons pe_int (pa_cons pe_int (pa_cons pe_int (pa_cons pe_int (pa_cons pe_int pa_nil))))))))) (C8.pe_c (cal__law_pick T) hr (by decide) (by rfl) (pa_cons (pv 0) (pa_cons pe_int pa_nil))) (fun _ _ => rfl)) (pa_cons (pe_and (pe_cmpR op_eq (C8.pe_c (cal__law_pick T) hr (by decide) (by rfl) (pa_cons (pv 0) (pa_cons pe_int pa_nil))) pe_int (nomark _)) (pe_one (pe_cmpR op_gt (pv 1) pe_int (nomark _)))) pa_nil)) rfl)
    (pss_cons (ps_par (i := 6) (j := 7) rfl sc_l_any_note.nd rfl rfl (by decide) rfl rfl (pa_cons (pe_op op_add (pe_op op_add (C8.pe_c (cal__law_pick T) hr (by decide) (by rfl) (pa_cons (pv 0) (pa_cons (pv 1) pa_nil))) pe_int) (pe_op op_mul (pe_op op_sub pe_int (pv 1)) (pe_callTy call_int1 (by rfl) T.f_int bt_int (pa_cons (pv 5) pa_nil)))) (pa_cons (C8.pe_c (cal__law_pick T) hr (by decide) (by rfl) (pa_cons (pv 0) (pa_cons (pv 1) pa_nil))) pa_nil)) rfl)
    (pss_cons (ps_asg (pe_tup (pa_cons (pe_lst (pa_cons (C8.pe_c (cal__law_pick T) hr (by decide) (by rfl) (pa_cons (pv 0) (pa_cons pe_int pa_nil))) (pa_cons (C8.pe_c (cal__law_pick T) hr (by decide) (by rfl) (pa_cons (pv 0) (pa_cons pe_int pa_nil))) pa_nil))) (pa_cons (pe_lc (own := [("_law_turn", 10)]) rfl sc_l_any_note.nd (pi_range1 (by rfl) T.f_range (pa_cons pe_int pa_nil)) (blkOk_by (own := [("_law_turn", 10)]) (N := N_l_any_note) (sc := defScope s_l_any_note) (by decide +kernel)) (fun _ _ _ _ _ => (pg_name (i := 10) sc_l_any_note.nd rfl locV)) (fun _ _ _ _ _ => pts_nil) (fun _ _ _ _ _ => (pe_op op_sub (C8.pe_c (cal__law_pick T) hr (by decide) (by rfl) (pa_cons (pv 0) (pa_cons pe_int pa_nil))) pe_int))) pa_nil))) (pg_tupK (K := K) rfl (n := 2) rfl (pgs_cons (pg_name (i := 8) sc_l_any_note.nd rfl locV) (pgs_cons (pg_name (i := 9) sc_l_any_note.nd rfl locV) pgs_nil))))
    (pss_cons (ps_set (i := 9) sc_l_any_note.nd rfl locV (pe_slice (sl_listK (K := K) rfl) (pv 9) po_none (po_some (pe_op op_add pe_int (C8.pe_c (cal__law_pick T) hr (by decide) (by rfl) (pa_cons (pv 0) (pa_cons pe_int pa_nil)))))))
    (C8.pss_cut (ps_par (i := 11) (j := 12) rfl sc_l_any_note.nd rfl rfl (by decide) rfl rfl (pa_cons (pe_callB (call_min2 rfl) (by rfl) T.f_min bt_min (pa_cons (pe_op op_add (pv 6) (pv 7)) (pa_cons (pe_ifExp (pt_val (pv 5)) pe_int (pv 1)) pa_nil))) (pa_cons (pe_callTy (call_tupleK (K := K) rfl) (by rfl) T.f_tuple bt_tuple (pa_cons (pe_lc (own := [("_law_place", 13)]) rfl sc_l_any_note.nd (pi_range1 (by rfl) T.f_range (pa_cons (pv 4) pa_nil)) (blkOk_by (own := [("_law_place", 13)]) (N := N_l_any_note) (sc := defScope s_l_any_note) (by decide +kernel)) (fun _ _ _ _ _ => (pg_name (i := 13) sc_l_any_note.nd rfl locV)) (fun _ _ _ _ _ => (pts_one (pt_cmpR (op_inK (K := K) rfl) (pv 13) (pv 8) rfl))) (fun _ _ _ _ _ => (pv 13))) pa_nil)) pa_nil)) rfl)
    (pss_cons (ps_par (i := 14) (j := 15) rfl sc_l_any_note.nd rfl rfl (by decide) rfl rfl (pa_cons (pe_callTy (call_tupleK (K := K) rfl) (by rfl) T.f_tuple bt_tuple (pa_cons (pe_lc (own := [("_law_speed", 16)]) rfl sc_l_any_note.nd (pi_range2 (by rfl) T.f_range (pa_cons (pe_un un_neg pe_int) (pa_cons pe_int pa_nil))) (blkOk_by (own := [("_law_speed", 16)]) (N := N_l_any_note) (sc := defScope s_l_any_note) (by decide +kernel)) (fun _ _ _ _ _ => (pg_name (i := 16) sc_l_any_note.nd rfl locV)) (fun _ _ _ _ _ => (pts_one (pt_cmpR (op_inK (K := K) rfl) (pv 16) (pv 9) rfl))) (fun _ _ _ _ _ => (pv 16))) pa_nil)) (pa_cons (C8.pe_c (cal__law_grouped T) hr (by decide) (by rfl) (pa_cons (pv 0) (pa_cons (pv 3) pa_nil))) pa_nil)) rfl)
    (pss_cons (ps_par (i := 17) (j := 16) rfl sc_l_any_note.nd rfl rfl (by decide) rfl rfl (pa_cons (pe_tup (pa_cons (pv 4) (pa_cons (pv 12) (pa_cons (pv 6) (pa_cons (pv 11) (pa_cons (pv 14) (pa_cons (pv 15) (pa_cons (pe_tup pa_nil) pa_nil)))))))) (pa_cons (pe_ix (ix_tupK (K := K) rfl) (pv 14) (C8.pe_c (cal__law_pick T) hr (by decide) (by rfl) (pa_cons (pv 0) (pa_cons (pe_callB (call_lenK (K := K) rfl) (by rfl) T.f_len bt_len (pa_cons (pv 14) pa_nil)) pa_nil))) (fun _ _ => rfl)) pa_nil)) rfl)
    (pss_cons (ps_set (i := 18) sc_l_any_note.nd rfl locV (C8.pe_c (cal__law_drawn T) hr (by decide) (by rfl) (pa_cons (pv 0) (pa_cons (pe_op op_add (pv 6) (C8.pe_c (cal__law_pick T) hr (by decide) (by rfl) (pa_cons (pv 0) (pa_cons (pe_op op_add (pe_op op_sub (pv 11) (pv 6)) pe_int) pa_nil)))) (pa_cons (pv 3) pa_nil)))))
    (pss_cons (ps_for PassesOwn.never rfl (pi_range1 (by rfl) T.f_range (pa_cons (C8.pe_c (cal__law_pick T) hr (by decide) (by rfl) (pa_cons (pv 0) (pa_cons (pe_op op_add (pv 2) pe_int) pa_nil))) pa_nil)) (pg_name (i := 10) sc_l_any_note.nd rfl locV) pss_never)
    (pss_one (ps_ret (pv 17)))))))))))), ?_⟩
    obtain ⟨hd, B, st, rfl, hH, hB, hst, hsl, hQ⟩ := h
    have hHo : ∃ o, H hd = some o := by obtain ⟨g, m, c, h, _⟩ := hH; exact ⟨_, h⟩
    obtain ⟨o0, hHo⟩ := hHo
    refine ⟨fun σ' H' => Sab hd H H' ∧ Hd H' hd (B + 2) ∧ ∃ (W : Nat) (f : Bool), (1 ≤ W ∧ W ≤ 8) ∧ σ' = [some (.ref hd), some (.int 5), some (.int 0), some (.str (SX.S st)), some (.int (W : Int)), some (.bl f), none, none, none, none, none, none, none, none, none, none, none, none, none, none, none], ?_, fun σ' H' ⟨e1, h1, W, f, hW, eσ⟩ => ?_⟩
    · refine ⟨lnk, fun q nq => ⟨_, rfl, hd, 8, B, rfl, hH.ext (same_new nq), by decide, by omega, fun k H2 e2 h2 hk => ?_⟩⟩
      obtain ⟨j, rfl⟩ := Int.eq_ofNat_of_zero_le hk.1
      have hq2 := e2 _ _ (hH.ne nq) (upd_same (H := H) (a := q) (o := .lst [.int 1, .int 2, .int 2, .int 3, .int 3, .int 4, .int 5, .int 8]))
      have hj : ∃ W : Nat, (1 ≤ W ∧ W ≤ 8) ∧ [V.int 1, .int 2, .int 2, .int 3, .int 3, .int 4, .int 5, .int 8][j]? = some (.int (W : Int)) := by
        have : j = 0 ∨ j = 1 ∨ j = 2 ∨ j = 3 ∨ j = 4 ∨ j = 5 ∨ j = 6 ∨ j = 7 := by omega
        rcases this with rfl | rfl | rfl | rfl | rfl | rfl | rfl | rfl
        · exact ⟨1, by decide, rfl⟩
        · exact ⟨2, by decide, rfl⟩
        · exact ⟨2, by decide, rfl⟩
        · exact ⟨3, by decide, rfl⟩
        · exact ⟨3, by decide, rfl⟩
        · exact ⟨4, by decide, rfl⟩
        · exact ⟨5, by decide, rfl⟩
        · exact ⟨8, by decide, rfl⟩
      obtain ⟨W, hW, hx⟩ := hj
      have e02 := Sab.trans (Sab.of (same_new nq)) e2
      refine ⟨_, _, _, _, rfl, rfl, SqL.of hq2, atI_nat hx, _, rfl, hd, 6, _, rfl, h2, by decide, by omega, fun m H3 e3 h3 hm => ⟨rfl, _, rfl, ?_⟩⟩
      have fin : ∀ f : Bool, ∃ (W1 : Nat) (f1 : Bool), (1 ≤ W1 ∧ W1 ≤ 8) ∧ [some (V.ref hd), some (.int 5), some (.int 0), some (.str (SX.S st)), some (.int (W : Int)), some (.bl f), none, none, none, none, none, none, none, none, none, none, none, none, none, none, none] = [some (V.ref hd), some (.int 5), some (.int 0), some (.str (SX.S st)), some (.int (W1 : Int)), some (.bl f1), none, none, none, none, none, none, none, none, none, none, none, none, none, none, none] := fun f => ⟨W, f, hW, rfl⟩
      exact ite2D (fun _ => ⟨_, rfl, _, _, rfl, rfl, _, _, rfl, Sab.trans e02 e3, h3.up (by omega), fin _⟩) fun _ => ⟨_, _, rfl, Sab.trans e02 e3, h3.up (by omega), fin _⟩
    subst eσ
    have hf : (0 : Int) ≤ (if f = true then (1 : Int) else 0) ∧ (if f = true then (1 : Int) else 0) ≤ 1 := by split <;> decide
    refine ⟨_, rfl, _, rfl, hd, 5, _, rfl, h1, by decide, by omega, fun k1 H2 e2 h2 hk1 => ⟨_, _, rfl, rfl, _, rfl, _, _, rfl, rfl, _, rfl, .inr ⟨_, rfl, _, _, rfl, rfl, .inl (by decide), _, _, rfl, rfl, _, rfl, _, rfl, hd, 5, _, rfl, h2, by decide, by omega, fun k2 H3 e3 h3 hk2 => ⟨_, _, rfl, ?_⟩⟩⟩⟩
    generalize hlow : k1 + 1 + (40 - 5) * (if f = true then (1 : Int) else 0) = low
    have hlow2 : (f = true → 36 ≤ low ∧ low ≤ 40) ∧ (f = false → 1 ≤ low ∧ low ≤ 5) := by
      rw [← hlow]
      cases f
      · refine ⟨fun z => (Bool.false_ne_true z).elim, fun _ => ?_⟩
        simp only [Bool.false_eq_true, if_false]
        omega
      · refine ⟨fun _ => ?_, fun z => (Bool.false_ne_true z.symm).elim⟩
        simp only [if_true]
        omega
    refine ⟨_, rfl, hd, 12, _, rfl, h3, by decide, by omega, fun a1 H4 e4 h4 _ => ⟨_, rfl, hd, 12, _, rfl, h4, by decide, by omega, fun a2 H5 e5 h5 _ => ⟨lnk, fun q nq => ⟨_, rfl, by decide, by decide, fun D nD => ?_⟩⟩⟩⟩
    have e05 := Sab.trans e1 (Sab.trans (Sab.trans e2 e3) (Sab.trans (Sab.trans e4 e5) (Sab.of (same_new (o := .lst [V.int a1, .int a2]) nq))))
    have h6 := h5.ext (same_new (o := .lst [V.int a1, .int a2]) nq)
    refine lc_it (walk_range (n := 3)) (fun i H2 => Sab hd (upd H5 q (.lst [.int a1, .int a2])) H2 ∧ Hd H2 hd (B + 6 + i) ∧ ∃ l : List Int, H2 D = some (.lst (l.map V.int)) ∧ l.length = i ∧ ∀ z ∈ l, -9 ≤ z ∧ z ≤ 9) ⟨(Sab.refl _ _).own nD, (h6.put (h6.ne nD)).up (by omega), [], upd_same, rfl, fun c hc => nomatch hc⟩ (fun i H2 _ hp => trivial) (fun i x H2 H3 hi ⟨e, h2, l, hD, hl, hlm⟩ ⟨e3, hv⟩ => ?_) fun H7 ⟨e7, h7, l, hD, hl, hlm⟩ => ?_
    · subst e3 hv
      refine ⟨rfl, _, rfl, hd, 19, _, rfl, h2, by decide, by omega, fun r H9 e9 h9 hr => ⟨_, _, rfl, rfl, ?_⟩⟩
      have nDh : D ≠ hd := h6.ne nD
      obtain ⟨acc, a1, a2, a3, a4⟩ := inStep (c := r - 9) nD (Sab.trans e e9) (e9 _ _ nDh hD) (by omega)
      exact ⟨acc, a1, a2, a3, (h9.put nDh).up (by omega), l ++ [r - 9], a4, by rw [List.length_append, hl]; rfl, fun c hc => by
        rcases List.mem_append.mp hc with hc | hc
        · exact hlm c hc
        · rw [List.mem_singleton.mp hc]; omega⟩
    have hqh : q ≠ hd := h5.ne nq
    have hq7 : H7 q = some (.lst [.int a1, .int a2]) := e7 _ _ hqh upd_same
    have e07 := Sab.trans e05 e7
    have nDh : D ≠ hd := h6.ne nD
    refine ⟨lnk, fun u nu => ⟨_, _, rfl, SqT.of upd_same, rfl, _, _, rfl, _, _, rfl, rfl, ?_⟩⟩
    have hq8 := same_new (o := .tup [.ref q, .ref D]) nu _ _ hq7
    have hD8 := same_new (o := .tup [.ref q, .ref D]) nu _ _ hD
    have h8 := h7.ext (same_new (o := .tup [.ref q, .ref D]) nu)
    have e08 := Sab.trans e07 (Sab.of (same_new (o := .tup [.ref q, .ref D]) nu))
    generalize upd H7 u (.tup [.ref q, .ref D]) = H8 at hq8 hD8 h8 e08
    refine ⟨_, rfl, _, rfl, hd, 3, _, rfl, h8, by decide, by omega, fun m H9 e9 h9 hm => ⟨_, _, rfl, rfl, _, rfl, _, _, rfl, SqL.of (e9 _ _ nDh hD8), fun p np => ?_⟩⟩
    obtain ⟨l', hcut, hl'0, hl'm⟩ := cut3 hl hm
    have hq9 := e9 _ _ hqh hq8
    rw [hcut]
    have e09 := Sab.trans e08 (Sab.trans e9 (Sab.of (same_new (o := .lst (l'.map V.int)) np)))
    have hq10 := same_new (o := .lst (l'.map V.int)) np _ _ hq9
    have hp10 : (upd H9 p (.lst (l'.map V.int))) p = some (.lst (l'.map V.int)) := upd_same
    have h10 := h9.ext (same_new (o := .lst (l'.map V.int)) np)
    have hph : p ≠ hd := h9.ne np
    generalize upd H9 p (.lst (l'.map V.int)) = H10 at e09 hq10 hp10 h10
    have hl9 : ∀ z ∈ l', -9 ≤ z ∧ z ≤ 9 := fun z hz => hlm z (hl'm z hz)
    have hj : ∀ j : Int, (if f = true then j = 40 else j = 5) → 1 ≤ low ∧ low ≤ (if j < low + k2 then j else low + k2) ∧ (if j < low + k2 then j else low + k2) ≤ 40 := fun j hj => by
      cases f
      · have := hlow2.2 rfl
        rw [if_neg Bool.false_ne_true] at hj
        split <;> omega
      · have := hlow2.1 rfl
        rw [if_pos rfl] at hj
        split <;> omega
    subst hlow
    refine ⟨fun σ' H' => Same H10 H' ∧ ∃ (lw hi : Int) (g : Addr), σ' = [some (.ref hd), some (.int 5), some (.int 0), some (.str (SX.S st)), some (.int (W : Int)), some (.bl f), some (.int lw), some (.int k2), some (.ref q), some (.ref p), none, some (.int hi), some (.ref g), none, none, none, none, none, none, none, none] ∧ (1 ≤ lw ∧ lw ≤ hi ∧ hi ≤ 40), ?_, fun σ' H' ⟨e11, lw, hi, g, eσ, hhi⟩ => ?_⟩
    · refine ⟨_, rfl, _, rfl, _, _, rfl, rfl, _, rfl, f, rfl, ?_⟩
      cases f
      · refine ⟨_, rfl, _, _, rfl, _, rfl, _, rfl, by omega, by omega, fun D2 nD2 => lc_it (walk_range (n := W)) (fun i H4 => Same H10 H4 ∧ ∃ acc, H4 D2 = some (.lst acc) ∧ acc.length ≤ i) ⟨same_new nD2, [], upd_same, Nat.le_refl _⟩ (fun _ _ _ _ => trivial) (fun i x H4 H5 hi ⟨e4, acc, hA, hal⟩ ⟨e5, hv⟩ => ?_) fun H4 ⟨e4, acc, hA, hal⟩ => ⟨_, _, rfl, .inl ⟨SqL.of hA, fun l nl => ⟨_, _, rfl, e4.trans (same_new nl), _, _, l, rfl, ?_⟩⟩⟩⟩
        · subst e5 hv
          refine ⟨rfl, _, rfl, _, rfl, _, [.int a1, .int a2], rfl, .inl (SqL.of (e4 _ _ hq10)), rfl, rfl, _, rfl, iteBoth ⟨_, rfl, acc, hA, small (by omega), same_put e4 nD2, _, upd_same, by rw [List.length_append]; exact Nat.succ_le_succ hal⟩ ⟨e4, acc, hA, by omega⟩⟩
        · exact hj 5 rfl
      · refine ⟨_, _, rfl, _, rfl, _, rfl, by omega, by omega, fun D2 nD2 => lc_it (walk_range (n := W)) (fun i H4 => Same H10 H4 ∧ ∃ acc, H4 D2 = some (.lst acc) ∧ acc.length ≤ i) ⟨same_new nD2, [], upd_same, Nat.le_refl _⟩ (fun _ _ _ _ => trivial) (fun i x H4 H5 hi ⟨e4, acc, hA, hal⟩ ⟨e5, hv⟩ => ?_) fun H4 ⟨e4, acc, hA, hal⟩ => ⟨_, _, rfl, .inl ⟨SqL.of hA, fun l nl => ⟨_, _, rfl, e4.trans (same_new nl), _, _, l, rfl, ?_⟩⟩⟩⟩
        · subst e5 hv
          refine ⟨rfl, _, rfl, _, rfl, _, [.int a1, .int a2], rfl, .inl (SqL.of (e4 _ _ hq10)), rfl, rfl, _, rfl, iteBoth ⟨_, rfl, acc, hA, small (by omega), same_put e4 nD2, _, upd_same, by rw [List.length_append]; exact Nat.succ_le_succ hal⟩ ⟨e4, acc, hA, by omega⟩⟩
        · exact hj 40 rfl
    subst eσ
    have h11 := h10.ext e11
    have hp11 := e11 _ _ hp10
    have e011 := Sab.trans e09 (Sab.of e11)
    obtain ⟨s0, ls, hls⟩ := List.exists_cons_of_ne_nil hl'0
    have hs0 : s0 ∈ l' := by rw [hls]; exact List.mem_cons_self
    refine ⟨_, rfl, _, _, rfl, ⟨by decide, by decide, by decide, by decide⟩, fun D2 nD2 => lc_it (walk_range (lo := -9) (n := 19)) (fun i H4 => Same H' H4 ∧ ∃ acc : List Int, H4 D2 = some (.lst (acc.map V.int)) ∧ acc.length ≤ i ∧ (∀ z ∈ acc, -9 ≤ z ∧ z ≤ 9) ∧ (s0 < -9 + (i : Int) → acc ≠ [])) ⟨same_new nD2, [], upd_same, Nat.le_refl _, (fun z hz => nomatch hz), fun z => by have := (hl9 s0 hs0).1; omega⟩ (fun _ _ _ _ => trivial) (fun i x H4 H5 hi ⟨e4, acc, hA, hal, ham, ha0⟩ ⟨e5, hv⟩ => ?_) fun H4 ⟨e4, acc, hA, hal, ham, ha0⟩ => ?_⟩
    · subst e5 hv
      refine ⟨rfl, _, rfl, _, rfl, _, l'.map V.int, rfl, .inl (SqL.of (e4 _ _ hp11)), rfl, flat_ints _, _, rfl, ?_⟩
      rw [inV_int]
      by_cases hb : l'.contains (-9 + (i : Int)) = true
      · refine iteTeq hb ⟨_, rfl, acc.map V.int, hA, by rw [List.length_map]; exact small (by omega), same_put e4 nD2, acc ++ [-9 + (i : Int)], by rw [upd_same, List.map_append]; rfl, by rw [List.length_append]; exact Nat.succ_le_succ hal, fun z hz => ?_, fun _ => by simp⟩
        rcases List.mem_append.mp hz with hz | hz
        · exact ham z hz
        · rw [List.mem_singleton.mp hz]; omega
      · refine iteFeq (Bool.eq_false_iff.mpr hb) ⟨e4, acc, hA, by omega, ham, fun hlt => ha0 ?_⟩
        have : s0 ≠ -9 + (i : Int) := fun z => hb (by rw [← z]; simpa using hs0)
        omega
    have hac : acc ≠ [] := ha0 (by have := (hl9 s0 hs0).2; omega)
    refine ⟨_, _, rfl, .inl ⟨SqL.of hA, fun sp nsp => ⟨_, rfl, _, rfl, hd, _, st, rfl, (h11.ext (e4.trans (same_new nsp))), by omega, hsl, fun ts H6 e6 h6 => ⟨_, _, rfl, ?_⟩⟩⟩⟩
    have hE := e4.trans (same_new (o := .tup (acc.map V.int)) nsp)
    have hh5 := h11.ext hE
    have hsp6 : H6 sp = some (.tup (acc.map V.int)) := e6 _ _ (hh5.neT upd_same) upd_same
    have e06 := Sab.trans (Sab.trans e011 (Sab.of hE)) e6
    refine ⟨_, rfl, _, rfl, _, rfl, _, rfl, _, rfl, _, rfl, lnk, fun em nem => ⟨lnk, fun v nv => ?_⟩⟩
    have e67 := (same_new (o := .tup []) nem).trans (same_new (o := .tup [.int (W : Int), .ref g, .int lw, .int hi, .ref sp, .ref ts, .ref em]) nv)
    have hsp7 := e67 _ _ hsp6
    have h7' := h6.ext e67
    have hv7 : (upd (upd H6 em (.tup [])) v (.tup [.int (W : Int), .ref g, .int lw, .int hi, .ref sp, .ref ts, .ref em])) v = some (.tup [.int (W : Int), .ref g, .int lw, .int hi, .ref sp, .ref ts, .ref em]) := upd_same
    generalize upd (upd H6 em (.tup [])) v (.tup [.int (W : Int), .ref g, .int lw, .int hi, .ref sp, .ref ts, .ref em]) = H7' at e67 hsp7 h7' hv7
    have hapos := List.length_pos_iff.mpr hac
    refine ⟨_, rfl, _, rfl, _, rfl, _, _, rfl, .inr (SqT.of hsp7), hd, _, _, rfl, h7', ?_, by omega, fun k H8' e8' h8' hk => ?_⟩
    · rw [List.length_map]; omega
    rw [List.length_map] at hk
    obtain ⟨k', rfl⟩ := Int.eq_ofNat_of_zero_le hk.1
    have hk' : k' < acc.length := by omega
    have hsp8 := h7'.sabT e8' _ _ hsp7
    have hv8 := h7'.sabT e8' _ _ hv7
    refine ⟨_, _, _, _, rfl, rfl, SqT.of hsp8, atI_nat (v := .int acc[k']) (by rw [List.getElem?_map, List.getElem?_eq_getElem hk']; rfl), _, _, rfl, ?_⟩
    refine ⟨_, rfl, _, rfl, _, rfl, _, rfl, _, rfl, _, _, rfl, rfl, _, _, rfl, rfl, hd, _, _, rfl, h8', ⟨by omega, by omega⟩, by omega, fun m2 H9' e9' h9' hm2 => ⟨_, _, rfl, rfl, _, rfl, hd, _, (lw + m2).toNat, st, ?_, h9', ?_, hst, by omega, fun row H10' e10' h10' hr1 hr2 => ?_⟩⟩
    · exact congrArg (fun z => [V.ref hd, V.int z, V.str (SX.S st)]) (Int.toNat_of_nonneg (by omega)).symm
    · omega
    have hB0 : 0 ≤ B := by obtain ⟨_, _, _, _, _, _, hc0⟩ := hH; omega
    refine ⟨_, rfl, _, rfl, _, _, rfl, rfl, hd, _, _, rfl, h10', by decide, by omega, fun z H11' e11' h11' hz => ?_⟩
    obtain rfl : z = 0 := by omega
    refine ⟨_, rfl, by decide, by decide, for_range (n := 0) (fun i σ H1 => H1 = H11' ∧ σ[17]? = some (some (.ref v))) ⟨rfl, rfl⟩ (fun i σ H1 hi => absurd hi (Nat.not_lt_zero _)) fun σ H1 ⟨eH, eσ⟩ => ⟨_, eσ, ?_⟩⟩
    subst eH
    have hs1 := h8'.sabT e9'
    have e8a := Sab.trans e9' (Sab.trans e10' e11')
    have hvz := h8'.sabT e8a _ _ hv8
    have hsz := h8'.sabT e8a _ _ hsp8
    obtain ⟨lo, rfl⟩ := Int.eq_ofNat_of_zero_le (a := lw) (by omega)
    obtain ⟨hi1, rfl⟩ := Int.eq_ofNat_of_zero_le (a := hi) (by omega)
    obtain ⟨p1, ps, hps⟩ := List.exists_cons_of_ne_nil hac
    have hp1 := ham p1 (by rw [hps]; exact List.mem_cons_self)
    refine hQ v W lo hi1 p1 _ (Sab.trans e06 (Sab.trans (Sab.of e67) (Sab.trans e8' e8a))) (h11'.up ?_) ⟨g, sp, ts, em, ps.map V.int, hvz, by rw [hsz, hps]; rfl, hW, by omega, hp1⟩
    omega
end
end Gz
set_option maxHeartbeats 4000000
/-! Defs that run where no repr runs beneath; repr of data. -/
namespace Gz
open PySem PySem.Spec PyProof.Rows L2
/-- a def's promise where no guard lies beneath -/
structure FnOkG (P : Program) (w : World) (K : PySem.W.Frag) (mg : Str → Option Value) (base : Heap) (CX : CXT) (k : Nat) (f : Addr) (fd : FuncData) (ps : List Str) (sp : Sp) : Prop where
  len : ∀ vs H Q E, sp vs H Q E → vs.length = ps.length
  run : ∀ (A : Around) (outer : List Env) (s : Shared) (H : Hp) (args : Args) (us : List Value) (vs : List V) (Q : VK) (E : XK), A.guards = some [] → Room k A → Env0 P w K mg base A outer s H → BindsTo s fd args (ps.zip us) → Vals vs us → sp vs H Q E →
    codeAny (model P w) A (.call (.ref f) args) (CR CX outer P w H s Q E) s
theorem FnOkG.mono {P : Program} {w : World} {K : PySem.W.Frag} {mg : Str → Option Value} {base : Heap} {CX : CXT} {j k : Nat} {f : Addr} {fd : FuncData} {ps : List Str} {sp : Sp} (F : FnOkG P w K mg base CX j f fd ps sp) (h : j ≤ k) :
    FnOkG P w K mg base CX k f fd ps sp := ⟨F.len, fun A outer s H args us vs Q E hg hr => F.run A outer s H args us vs Q E hg (hr.mono h)⟩
theorem fn_ofG {CX : CXT} {P : Program} {w : World} {K : PySem.W.Frag} {mg : Str → Option Value} {base : Heap} {k : Nat} {f : Addr} {name qual : Str} {params : Arguments} {body : List Stmt} {scope : Scope} {dV kV doc pm cdv ct oc : Value} {an od : Option Addr}
    {osl : Array (Option Value)} {N ps : List Str} {sp : Sp} (lk : K.lookup f = some ⟨oc, od, .func (PySem.W.fnOf name qual params body scope dV kV doc pm an cdv ct), osl⟩) (hcd : PySem.W.codeIn K cdv qual = true) (S : FnScope N ps scope)
    (len : ∀ vs H Q E, sp vs H Q E → vs.length = ps.length)
    (hbody : ∀ (A : Around) (outer : List Env) (s : Shared) (H : Hp) (vs : List V) (Q : VK) (E : XK), A.guards = some [] → Room k (A.deeper (envOfC qual scope s.heap.objs.size f cdv)) → sp vs H Q E →
      ∃ t, PSs (cxOf CX P w K mg base N qual scope f cdv A outer s H E) body t ∧ t { nx := fun _ H' => Q .non H', rt := Q } (start N vs) H) :
    FnOkG P w K mg base CX (k + 1) f (PySem.W.fnOf name qual params body scope dV kV doc pm an cdv ct) ps sp := by
  refine ⟨len, fun A outer s H args us vs Q E hgd hr e0 hb r hsp => ?_⟩
  have hl := len _ _ _ _ hsp
  have KX : K.In s.heap := e0.mod.kin.keeps fun b o e => (e0.bs b o e).1
  have lim : s.heap.NoLimit := e0.mod.nolimit.keeps fun b o e => (e0.bs b o e).1
  have hkind : ∀ y ∈ ps.zip us, scope.names.lookup y.1 = some .local ∨ (scope.names.lookup y.1 = some .cell ∧ ((cellsFrom (s.heap.objs.size + 1) scope.names []).lookup y.1).isSome = true) := fun ⟨n, v⟩ hy => by
    rcases S.par n (List.of_mem_zip hy).1 with q | q
    · exact .inl q
    · exact .inr ⟨q, PySem.W.cellsFrom_some _ _ _ (.inl q)⟩
  refine codeAny_call_function hr.depth (KX _ _ lk) rfl S.co S.gen rfl (PySem.W.codeRec_of KX hcd) (hb _ _ _ _ ?_)
  refine wpAny_newFunctionEnv_cells S.kind hkind fun env he s1 x => ?_
  subst he
  refine ⟨lim.keeps x.toInCall.keep, codeAny_func ?_⟩
  obtain ⟨t, ht, hq⟩ := hbody A outer s H vs Q E hgd (hr.deeper _) hsp
  have I : Inv (cxOf CX P w K mg base N qual scope f cdv A outer s H E) [] (start N vs) H s1 := inv_start S hr.hd e0 hl r x
  refine wpAny_mono (ht.run [] s1 (start N vs) H _ I hq) (fun fl s' hs => ?_) fun e s' hs => hs
  have fin : ∀ {σ' : L2.St} {H' : Hp} {v : V} {u : Value}, Inv (cxOf CX P w K mg base N qual scope f cdv A outer s H E) [] σ' H' s' → RelV v u → Q v H' → CE outer P w H s Q u s' :=
    fun {σ' H' v u} J rv q => ⟨v, H', J.os, J.bare, J.base, J.hok, rv, q⟩
  cases fl with
  | ret u =>
    obtain ⟨v, σ', H', J, rv, q⟩ := hs
    exact fin J rv q
  | next =>
    obtain ⟨σ', H', J, q⟩ := hs
    exact fin (v := V.non) (u := Value.none) J rfl q
  | brk =>
    obtain ⟨_, _, _, q⟩ := hs
    exact False.elim q
  | cont =>
    obtain ⟨_, _, _, q⟩ := hs
    exact False.elim q
section
variable {P : Program} {w : World} {K : PySem.W.Frag} {mg : Str → Option Value} {base : Heap} {x qual : Str} {params : Arguments} {body : List Stmt} {scope : Scope} {dvs : List V} {kws : List (Str × V)} {f : Addr} {fd : FuncData}
theorem okG {CX : CXT} {N ps : List Str} {k : Nat} {sp : Sp} (F : FunD K x qual params body scope dvs kws f fd) (S : FnScope N ps scope) (len : ∀ vs H Q E, sp vs H Q E → vs.length = ps.length)
    (hbody : ∀ (cdv : Value) (A : Around) (outer : List Env) (s : Shared) (H : Hp) (vs : List V) (Q : VK) (E : XK), A.guards = some [] → Room k (A.deeper (envOfC qual scope s.heap.objs.size f cdv)) → sp vs H Q E →
      ∃ t, PSs (cxOf CX P w K mg base N qual scope f cdv A outer s H E) body t ∧ t { nx := fun _ H' => Q .non H', rt := Q } (start N vs) H) : FnOkG P w K mg base CX (k + 1) f fd ps sp := by
  obtain ⟨oc, od, dV, kV, doc, pm, an, cdv, ct, osl, rfl, lk, hcd, _, _⟩ := F.ex
  exact fn_ofG lk hcd S len fun A outer s H vs Q E hg hr hsp => hbody cdv A outer s H vs Q E hg hr hsp
end
structure CalG (P : Program) (w : World) (K : PySem.W.Frag) (mg : Str → Option Value) (base : Heap) (k : Nat) (x : Str) (sp : Sp) (dvs : List V) : Prop where
  ex : ∃ (f : Addr) (fd : FuncData) (ps : List Str) (ds : List Value), FnOkG P w K mg base C8.CX0 k f fd ps sp ∧ mg x = some (.ref f) ∧ PySem.W.keepIn K (.ref f) = true ∧ Binds K fd ps ds ∧ Vals dvs ds
section
variable {X : Cx} {k j : Nat} {f : Addr} {fd : FuncData} {ps : List Str} {sp : Sp} {dvs : List V} {ds : List Value} {E : XK} {x : Str} {p pos : Pos} {e : Expr} {es : List Expr} {t : TA} {CX : CXT}
theorem run_fnG {pins : List (Addr × Obj)} {σ : L2.St} {H : Hp} {s : Shared} {Q : VK} {us : List Value} {vs : List V} (F : FnOkG X.prog X.w X.K X.mg X.base CX k f fd ps sp) (hgd : X.A.guards = some []) (hr : Room k X.A) (hb : Binds X.K fd ps ds) (hd : Vals dvs ds) (hx : Passes CX X E)
    (I : Inv X pins σ H s) (r : Vals vs us) (h : sp (vs ++ dvs) H Q E) : wpAny (model X.prog X.w) X.A (call (.ref f) us) (EP X pins σ Q) X.xe s := by
  have r2 : Vals (vs ++ dvs) (us ++ ds) := r.append hd
  have hl : (us ++ ds).length = ps.length := by rw [← r2.length]; exact F.len _ _ _ _ h
  refine wpAny_call (codeAny_mono (F.run X.A X.stack s H ⟨us, []⟩ (us ++ ds) (vs ++ dvs) Q E hgd hr I.env0 (hb s us I.kIn hl) r2 h) fun r s' hq => ?_)
  cases r with
  | error e => exact hx pins σ H s e s' I hq
  | ok fl =>
    cases fl with
    | ret u => exact I.after hq
    | next => exact False.elim hq
    | brk => exact False.elim hq
    | cont => exact False.elim hq
theorem pe_cG (c : CalG X.prog X.w X.K X.mg X.base k x sp dvs) (hgd : X.A.guards = some []) (hr : Room j X.A) (hk : k ≤ j) (hg : Gl X x) (ha : PA X (e :: es) t)
    (hdb : (x == ("__debug__" : Str)) = false := by decide) (he : starEach (e :: es) X.env = (false, eval e X.env) :: starEach es X.env := by rfl) (hpl : (backTo pos (starEach es X.env)).any (·.1) = false := by rfl) :
    PE X (.Call (.Name x p) (e :: es) [] pos) (tCall sp dvs C8.E0 t) := by
  obtain ⟨f, fd, ps, ds, F, hm, kp, b, d⟩ := c.ex
  refine ⟨fun pins s σ H Q I h => ?_⟩
  refine wpAny_Call_Name_kw (ld_glob I hg hm ?_ hdb)
  refine PySem.W.callWith_K (h₀ := X.base) I.ok.mod.kin kp (thn (ha.run pos pins s σ H _ I h) fun us s1 ⟨vs, H1, I1, r, q⟩ => ⟨I1.kIn, ?_⟩) he hpl
  exact run_fnG F hgd (hr.mono hk) b d C8.pass0 I1 r q
/-- repr of data -/
def rReprD (K : PySem.W.Frag) : List V → Hp → VK → Prop := fun xs H Q => ∃ p d, xs = [.ref p] ∧ Dp K H (.ref p) d ∧ d.showable = true ∧ d.hasDict = false ∧ d.depth ≤ 60 ∧ d.shown.length ≤ sizeLine ∧ Q (.str d.shown) H
theorem call_reprD (hgd : X.A.guards = some []) (hu : X.A.units + 64 < cLine) : CallR X (.builtin "repr") (rReprD X.K) := by
  intro pins s σ H xs us Q I r h
  obtain ⟨p, d, rfl, hd, hs, hdd, hdp, hsz, q⟩ := h
  rw [Vals.ref1 r]
  obtain ⟨as, hr⟩ := Dp.reads I d (.ref p) (.ref p) hd rfl
  exact repr_of_reads' hr hs (fun z => by rw [hdd] at z; cases z) hgd (by omega) (fun b o e => e) (fun h' u tk hk => ⟨.str d.shown, H, I.kept (t' := tk) hk, ⟨u, rfl⟩, q⟩) hsz
end
end Gz
set_option maxHeartbeats 4000000
/-! Data that repr shows in few signs. -/
namespace Gz
open PySem PySem.Spec PyProof.Rows L2
def Fine (d : PyData) (m k : Nat) : Prop := d.showable = true ∧ d.hasDict = false ∧ d.depth ≤ k ∧ d.leavesShort 40 = true ∧ d.weight ≤ m
def FineAll (ds : List PyData) (m k : Nat) : Prop := PyData.showableAll ds = true ∧ PyData.hasDictAll ds = false ∧ PyData.depthAll ds ≤ k ∧ PyData.leavesShortAll 40 ds = true ∧ PyData.weightAll ds ≤ m
theorem Fine.up {d : PyData} {m k m' k' : Nat} (h : Fine d m k) (h1 : m ≤ m') (h2 : k ≤ k') : Fine d m' k' := ⟨h.1, h.2.1, Nat.le_trans h.2.2.1 h2, h.2.2.2.1, Nat.le_trans h.2.2.2.2 h1⟩
theorem FineAll.nil {k : Nat} : FineAll [] 0 k := ⟨rfl, rfl, Nat.zero_le _, rfl, Nat.le_refl _⟩
theorem FineAll.cons {d : PyData} {ds : List PyData} {m m' k : Nat} (h : Fine d m k) (hs : FineAll ds m' k) : FineAll (d :: ds) (m + 1 + m') k := by
  obtain ⟨a1, a2, a3, a4, a5⟩ := h
  obtain ⟨b1, b2, b3, b4, b5⟩ := hs
  refine ⟨?_, ?_, ?_, ?_, ?_⟩
  · show (PyData.showable d && PyData.showableAll ds) = true
    rw [a1, b1]; rfl
  · show (PyData.hasDict d || PyData.hasDictAll ds) = false
    rw [a2, b2]; rfl
  · show max (PyData.depth d) (PyData.depthAll ds) ≤ k
    omega
  · show (PyData.leavesShort 40 d && PyData.leavesShortAll 40 ds) = true
    rw [a4, b4]; rfl
  · show PyData.weight d + 1 + PyData.weightAll ds ≤ _
    omega
theorem FineAll.map {α : Type} {f : α → PyData} {m k : Nat} : ∀ {l : List α}, (∀ x ∈ l, Fine (f x) m k) → FineAll (l.map f) ((m + 1) * l.length) k
  | [], _ => .nil
  | x :: l, h => by
    have h1 := FineAll.cons (h x List.mem_cons_self) (FineAll.map (l := l) fun y hy => h y (List.mem_cons_of_mem _ hy))
    rw [List.length_cons, Nat.mul_succ]
    rw [Nat.add_comm ((m + 1) * l.length)]
    exact h1
theorem Fine.list {ds : List PyData} {m k : Nat} (h : FineAll ds m k) : Fine (.list ds) m (k + 1) := ⟨h.1, h.2.1, Nat.succ_le_succ h.2.2.1, h.2.2.2.1, h.2.2.2.2⟩
theorem Fine.tuple {ds : List PyData} {m k : Nat} (h : FineAll ds m k) : Fine (.tuple ds) m (k + 1) := ⟨h.1, h.2.1, Nat.succ_le_succ h.2.2.1, h.2.2.2.1, h.2.2.2.2⟩
theorem Fine.str {l : List Nat} {m k : Nat} (h : LtOk l) (hm : l.length ≤ m) : Fine (.str (SX.S l)) m k := by
  refine ⟨rfl, rfl, Nat.zero_le _, ?_, ?_⟩
  · show (SX.S l).cps.toList.all (fun c => decide (c < 16 ^ 8)) = true
    exact List.all_eq_true.mpr fun c hc => decide_eq_true (Nat.lt_trans (h c hc) (by decide))
  · show (SX.S l).length ≤ m
    rw [S_ln]; exact hm
theorem Fine.int {i : Int} {k : Nat} (h : i.natAbs < 10 ^ 31) : Fine (.int i) 110 k := by
  have h2 : i.natAbs.log2 < 109 := by
    by_cases z : i.natAbs = 0
    · rw [z]; decide
    · exact (Nat.log2_lt z).mpr (Nat.lt_trans h (by decide))
  refine ⟨decide_eq_true (by omega), rfl, Nat.zero_le _, decide_eq_true ?_, ?_⟩
  · rw [PyData.shown_int, iS_eq, S_ln]
    exact Nat.le_trans (iS_ln i h) (by decide)
  · show (if (i == 0) = true then 0 else i.natAbs.log2 + 1) ≤ 110
    split <;> omega
theorem reprG {K : PySem.W.Frag} {H : Hp} {p : Addr} {d : PyData} {m k : Nat} {Q : VK} (hd : Dp K H (.ref p) d) (h : Fine d m k) (hm : m ≤ 100000) (hk : k ≤ 60) (q : Q (.str d.shown) H) : rReprD K [.ref p] H Q := by
  obtain ⟨h1, h2, h3, h4, h5⟩ := h
  have h6 := PyData.shown_le 40 (by decide) d h4
  exact ⟨p, d, rfl, hd, h1, h2, by omega, Nat.le_trans (Nat.le_trans h6 (by omega : _ ≤ 5000000)) (by decide), q⟩
end Gz
set_option maxHeartbeats 4000000
namespace Gz
open PySem PySem.Spec PyProof.Rows L2
section
variable {P : Program} {w : World} {K : PySem.W.Frag} {mg : Str → Option Value} {base : Heap}
def gD (g : Int × List Nat) : PyData := .tuple [.int g.1, .str (SX.S g.2)]
def toldD (r : Rec) : PyData := .tuple [.int (r.W : Int), .tuple [], .int (r.lo : Int), .int (r.hi : Int), .tuple [.int r.p], .tuple [], .tuple (r.gl.map gD)]
def lookD (w : List Nat) (r0 r1 : Rec) (n : Nat) : PyData := .list [.tuple [.str (SX.S w), .str (SX.S (w ++ [122]))], .tuple [], .int (n : Int), .int 2, .list [toldD r0, toldD r1]]
theorem dp_gl {K : PySem.W.Frag} {H : Hp} {as : List Addr} {gl : List (Int × List Nat)} (h : Paired (fun b (g : Int × List Nat) => Tup K H b [.int g.1, .str (SX.S g.2)]) as gl) : DpAll K H (as.map V.ref) (gl.map gD) := by
  induction h with
  | nil => exact .nil
  | cons z _ ih => exact .cons (.tup z.sq (.cons (.int _) (.cons (.str _) .nil))) ih
theorem dp_told {K : PySem.W.Frag} {H : Hp} {a : Addr} {r : Rec} (h : RecT K H a r) : Dp K H (.ref a) (toldD r) := by
  obtain ⟨d, ps, gs, gl, h1, R⟩ := h
  obtain ⟨as, g1, g2⟩ := R.gl
  exact .tup (SqT.of h1) (.cons (.int _) (.cons (.tup R.d.sq .nil) (.cons (.int _) (.cons (.int _) (.cons (.tup R.ps.sq (.cons (.int _) .nil)) (.cons (.tup R.gs.sq .nil) (.cons (.tup g1.sq (dp_gl g2)) .nil)))))))
theorem fine_told {r : Rec} (ok : r.Ok) : Fine (toldD r) 3000 3 := by
  have k8 := ok.w8
  have k40 := ok.h40
  have kl := ok.lh
  have kp1 := ok.p1
  have kp9 := ok.p9
  have kg := ok.gn
  have hg : FineAll (r.gl.map gD) ((130 + 1) * r.gl.length) 1 := FineAll.map fun g hg => by
    have h1 := ok.gt g hg
    have h2 := ok.gw g hg
    have h3 := ok.ga g hg
    refine (Fine.tuple (k := 0) (.cons (Fine.int (by omega)) (.cons (Fine.str (m := 8) (ltOk_rd h3) (by omega)) .nil))).up (by decide) (Nat.le_refl _)
  refine (Fine.tuple (k := 2) (.cons (Fine.int (i := (r.W : Int)) (by omega)) (.cons (Fine.up (k := 1) (Fine.tuple .nil) (Nat.le_refl _) (by decide)) (.cons (Fine.int (i := (r.lo : Int)) (by omega)) (.cons (Fine.int (i := (r.hi : Int)) (by omega)) (.cons (Fine.up (k := 1) (Fine.tuple (k := 0) (.cons (Fine.int (i := r.p) (by omega)) .nil)) (Nat.le_refl _) (by decide)) (.cons (Fine.up (k := 1) (Fine.tuple .nil) (Nat.le_refl _) (by decide)) (.cons (Fine.tuple hg) .nil)))))))).up ?_ (Nat.le_refl _)
  omega
theorem recT_gl {K : PySem.W.Frag} {H : Hp} {D b : Addr} {xs ys : List V} {r : Rec} (hD : H D = some (.lst xs)) (g : RecT K H b r) : RecT K (upd H D (.lst ys)) b r := g.ext fun b xs hb => by
  rw [upd_ne (ne_of hb hD (by intro z; cases z))]
  exact hb
theorem lt_pre : ∀ w : List Nat, ltCps w (w ++ [122]) = true
  | [] => rfl
  | c :: r => by
    have ih := lt_pre r
    simp_all [ltCps]
theorem names_uniq {w : List Nat} {r0 r1 : Rec} {ys : List Str} (hp : ys.Perm (([(w, r0), (w ++ [122], r1)].map (·.1)).map SX.S)) (hs : sortedS ys = true) : ys = [SX.S w, SX.S (w ++ [122])] := by
  have hp2 : ys.Perm [SX.S w, SX.S (w ++ [122])] := hp
  have hl : ys.length = 2 := hp2.length_eq
  match ys, hl with
  | [y1, y2], _ =>
    have m1 := hp2.subset (List.mem_cons_self (a := y1))
    have hne : SX.S w ≠ SX.S (w ++ [122]) := fun z => by
      have := congrArg List.length (SX.S_inj z)
      rw [List.length_append] at this
      have h1 : ([122] : List Nat).length = 1 := rfl
      omega
    rcases List.mem_cons.mp m1 with e | m1
    · subst e
      have h2 := (List.perm_cons _).mp hp2
      rw [List.singleton_perm_singleton.mp h2]
    · obtain rfl := List.mem_singleton.mp m1
      have h2 := (List.perm_cons _).mp (hp2.trans (List.Perm.swap _ _ _))
      obtain rfl := List.singleton_perm_singleton.mp h2
      exfalso
      have h3 : (!ltCps w (w ++ [122]) && true) = true := hs
      rw [lt_pre w] at h3
      cases h3
theorem find0 (w : List Nat) (r0 r1 : Rec) : findB [(w, r0), (w ++ [122], r1)] w = some (w, r0) := by simp [findB, isN]
theorem find1 (w : List Nat) (r0 r1 : Rec) : findB [(w, r0), (w ++ [122], r1)] (w ++ [122]) = some (w ++ [122], r1) := by simp [findB, isN]
abbrev N_l_look : List Str := ["_law_shelf", "_law_word"]
def sp__law_look (K : PySem.W.Frag) : Sp := fun vs H Q _ => ∃ (b : Addr) (w : List Nat) (r0 r1 : Rec) (n : Nat), vs = [.ref b] ∧ BookO K H b [(w, r0), (w ++ [122], r1)] n ∧ r0.Ok ∧ r1.Ok ∧ (w.length ≤ 7 ∧ ∀ c ∈ w, c ∈ sml) ∧ n ≤ 1000 ∧ ∀ H1, Same H H1 → Q (.str (lookD w r0 r1 n).shown) H1
theorem cal__law_look (T : Tx K mg base) : CalG P w K mg base 5 "_law_look" (sp__law_look K) [] := by
  obtain ⟨fd, F0⟩ := T.D_l_look
  have F : FunD K "_law_look" "_law_look" (defArgs s_l_look) (defBody s_l_look) (defScope s_l_look) [] [] (He.ga K "_law_look") fd := F0
  refine ⟨⟨_, fd, ["_law_shelf"], [], okG F sc_l_look (fun vs H Q E h => ?_) (fun cdv A outer s H vs Q E hgd hr h => ?_), T.g__law_look, F.kp, F.bindsN (fun _ _ _ _ _ _ us hl => match us, hl with | [_], _ => rfl), .nil⟩⟩
  · obtain ⟨_, _, _, _, _, rfl, _⟩ := h
    rfl
  · obtain ⟨nfd, nF, nB⟩ := pr_names (P := P) (w := w) T
    obtain ⟨lfd, lF, lB⟩ := pr_claims (P := P) (w := w) T
    obtain ⟨gfd, gF, gB⟩ := pr_changes (P := P) (w := w) T
    refine ⟨_, PSs.nox (pss_one (ps_ret (pe_callB (call_reprD hgd (u64 hr)) (by rfl) T.f_repr bt_repr (pa_cons (pe_lst (pa_cons (pe_prop (E := C8.E0) (pv 0) T.c_Book T.p_names nF (hr.mono (by decide)) nB .nil C8.pass0 (by rfl)) (pa_cons (pe_prop (E := C8.E0) (pv 0) T.c_Book T.p_claims lF (hr.mono (by decide)) lB .nil C8.pass0 (by rfl)) (pa_cons (pe_prop (E := C8.E0) (pv 0) T.c_Book T.p_changes gF (hr.mono (by decide)) gB .nil C8.pass0 (by rfl)) (pa_cons (pe_callB (call_lenO (mt_Book_len T) hr (by decide)) (by rfl) T.f_len bt_len (pa_cons (pv 0) pa_nil)) (pa_cons (pe_lc (own := [("_law_word", 1)]) rfl sc_l_look.nd (pi_tupK (K := K) rfl (pe_prop (E := C8.E0) (pv 0) T.c_Book T.p_names nF (hr.mono (by decide)) nB .nil C8.pass0 (by rfl))) (blkOk_by (own := [("_law_word", 1)]) (N := N_l_look) (sc := defScope s_l_look) (by decide +kernel)) (fun _ _ _ _ _ => (pg_name (i := 1) sc_l_look.nd rfl locV)) (fun _ _ _ _ _ => pts_nil) (fun _ _ _ _ _ => (pe_fldK (K := K) rfl (pe_subO (mt_Book_getitem T) (hfGet T) hr (by decide) (pv 0) (pv 1) (fun _ _ => by with_unfolding_all rfl)) rfl))) pa_nil)))))) pa_nil)))), ?_⟩
    obtain ⟨b, w, r0, r1, n, rfl, BO, ok0, ok1, hw, hn, hQ⟩ := h
    obtain ⟨dx, rd, md, pd, es, B, hb⟩ := id BO
    refine ⟨_, rfl, b, dx, _, rfl, B.o, b, _, n, rfl, BO, (by show 2 ≤ 50; decide), fun c H1 ys e1 hp hs hc => ?_⟩
    refine ⟨_, rfl, b, dx, _, rfl, e1 _ _ B.o, b, _, n, rfl, BO.ext e1, fun md1 hmd => ?_⟩
    refine ⟨_, rfl, b, dx, _, rfl, e1 _ _ B.o, b, _, n, rfl, BO.ext e1, ?_⟩
    refine ⟨_, rfl, b, dx, _, rfl, e1 _ _ B.o, b, _, n, rfl, BO.ext e1, _, rfl, (by show 2 ≤ 2 ^ 60; decide), ?_⟩
    refine ⟨_, rfl, b, dx, _, rfl, e1 _ _ B.o, b, _, n, rfl, BO.ext e1, (by show 2 ≤ 50; decide), fun c2 H2 ys2 e2 hp2 hs2 hc2 => ?_⟩
    obtain rfl := names_uniq hp hs
    obtain rfl := names_uniq hp2 hs2
    have e12 := e1.trans e2
    refine ⟨_, rfl, ⟨_, SqT.of hc2⟩, fun D nD => lc_it (walk_tup (xs := [.str (SX.S w), .str (SX.S (w ++ [122]))])) (fun i H3 => Same H2 H3 ∧ RefL (RecT K) H3 D ([r0, r1].take i)) ⟨same_new nD, [], upd_same, .nil⟩ (fun i H3 _ hp => SqT.of (hp.1 _ _ hc2)) (fun i x H3 H4 hi ⟨e, hD⟩ ⟨e4, hv⟩ => ?_) fun H3 ⟨e, hD⟩ => ?_⟩
    · subst e4
      obtain ⟨l, r, m, hx, hf, hxl⟩ : ∃ (l : List Nat) (r : Rec) (m : List Nat), [r0, r1][i]? = some r ∧ findB [(w, r0), (w ++ [122], r1)] l = some (m, r) ∧ x = .str (SX.S l) := by
        have : i = 0 ∨ i = 1 := by have : i < 2 := hi; omega
        rcases this with rfl | rfl
        · exact ⟨w, r0, _, rfl, find0 w r0 r1, (Option.some.inj hv).symm⟩
        · exact ⟨w ++ [122], r1, _, rfl, find1 w r0 r1, (Option.some.inj hv).symm⟩
      subst hxl
      refine ⟨rfl, _, rfl, _, rfl, b, dx, _, rfl, (e12.trans e) _ _ B.o, b, l, _, n, m, r, rfl, BO.ext (e12.trans e), hf, fun q RO => ?_⟩
      obtain ⟨rdx, t, d, ps, gs, gl, R⟩ := RO
      refine ⟨_, _, _, _, _, rfl, R.o, T.c_Record, T.na_Record_told, rfl, ?_⟩
      rw [take_snoc hx]
      exact refL_step (fun e h => h.ext (.of e)) recT_gl nD e hD (.refl _) ⟨d, ps, gs, gl, R.t, R.p⟩ (by rw [List.length_take]; exact Nat.lt_of_le_of_lt (Nat.min_le_right _ _) (by show 2 < 1000000; decide))
    · obtain ⟨as, h1, h2⟩ := hD
      refine ⟨lnk, fun p np => ?_⟩
      have e3 := e.trans (same_new (o := .lst [V.ref c, V.ref md1, V.int (n : Int), V.int 2, V.ref D]) np)
      have e23 := e2.trans e3
      have h2' : DpAll K (upd H3 p (.lst [V.ref c, V.ref md1, V.int (n : Int), V.int 2, V.ref D])) (as.map V.ref) [toldD r0, toldD r1] := by
        have h3 : Paired (RecT K H3) as [r0, r1] := h2
        match as, h3 with
        | [a0, a1], .cons g0 (.cons g1 .nil) => exact .cons (dp_told (g0.ext (.of (same_new np)))) (.cons (dp_told (g1.ext (.of (same_new np)))) .nil)
      have hlt : LtOk w := ltOk_sml hw.2
      have hlt2 : LtOk (w ++ [122]) := fun c hc => by
        rcases List.mem_append.mp hc with hc | hc
        · exact hlt c hc
        · rw [List.mem_singleton.mp hc]; decide
      have hfine : Fine (lookD w r0 r1 n) 10000 5 := by
        refine (Fine.list (k := 4) (.cons (Fine.up (k := 1) (Fine.tuple (k := 0) (.cons (Fine.str (m := 8) hlt (by omega)) (.cons (Fine.str (m := 8) hlt2 (by rw [List.length_append]; show w.length + 1 ≤ 8; omega)) .nil))) (Nat.le_refl _) (by decide)) (.cons (Fine.up (k := 1) (Fine.tuple .nil) (Nat.le_refl _) (by decide)) (.cons (Fine.int (i := (n : Int)) (by omega)) (.cons (Fine.int (i := 2) (by decide)) (.cons (Fine.list (k := 3) (.cons (fine_told ok0) (.cons (fine_told ok1) .nil))) .nil)))))).up (by decide) (Nat.le_refl _)
      exact reprG (d := lookD w r0 r1 n) (.lst (SqL.of upd_same) (.cons (.tup (SqT.of (e23 _ _ hc)) (.cons (.str _) (.cons (.str _) .nil))) (.cons (.tup (hmd.ext (.of e23)).sq .nil) (.cons (.int _) (.cons (.int _) (.cons (.lst (SqL.of (same_new np _ _ h1)) h2') .nil)))))) hfine (by decide) (by decide) (hQ _ (e1.trans e23))
end
end Gz
set_option maxHeartbeats 4000000
namespace Gz
open PySem PySem.Spec PyProof.Rows L2
section
variable {P : Program} {w : World} {K : PySem.W.Frag} {mg : Str → Option Value} {base : Heap}
theorem ltOk_app {a b : List Nat} (ha : LtOk a) (hb : LtOk b) : LtOk (a ++ b) := fun c hc => by
  rcases List.mem_append.mp hc with hc | hc
  · exact ha c hc
  · exact hb c hc
theorem ltOk_join {s : List Nat} (hs : LtOk s) : ∀ {ps : List (List Nat)}, (∀ p ∈ ps, LtOk p) → LtOk (TL.joinL s ps)
  | [], _ => fun c hc => nomatch hc
  | [p], h => h p List.mem_cons_self
  | p :: q :: r, h => ltOk_app (h p List.mem_cons_self) (ltOk_app hs (ltOk_join hs fun x hx => h x (List.mem_cons_of_mem _ hx)))
theorem join_len2 {s : List Nat} {M : Nat} : ∀ {ps : List (List Nat)}, (∀ p ∈ ps, p.length ≤ M) → (TL.joinL s ps).length ≤ (M + s.length) * ps.length
  | [], _ => Nat.zero_le _
  | [p], h => by
    have := h p List.mem_cons_self
    show p.length ≤ (M + s.length) * 1
    omega
  | p :: q :: r, h => by
    have h1 := h p List.mem_cons_self
    have h2 := join_len2 (s := s) (ps := q :: r) fun x hx => h x (List.mem_cons_of_mem _ hx)
    show (p ++ (s ++ TL.joinL s (q :: r))).length ≤ _
    rw [List.length_append, List.length_append, List.length_cons (a := p), Nat.mul_succ]
    omega
theorem ltOk_none : LtOk noneS := by unfold LtOk; decide
theorem ltOk_prS (p : Int) (L : Nat) : LtOk (prS p L) := ltOk_app (ltOk_iS _) (fun c hc => by
  rcases List.mem_cons.mp hc with hc | hc
  · rw [hc]; decide
  · exact ltOk_iS p c hc)
theorem ltOk_prTxt (p : Int) (Ls : List Nat) : LtOk (prTxt p Ls) := by
  unfold prTxt
  split
  · exact ltOk_none
  · refine ltOk_join (by unfold LtOk; decide) fun x hx => ?_
    obtain ⟨L, _, rfl⟩ := List.mem_map.mp hx
    exact ltOk_prS p L
theorem ltOk_sure {r : Rec} (ok : r.Ok) (t : Int) : LtOk (sureT r t) := by
  unfold sureT
  split
  · exact ltOk_none
  · intro c hc
    obtain ⟨j, _, rfl⟩ := List.mem_map.mp hc
    have hmem : ∀ c ∈ r.here t j, c ∈ al := fun c hc => by
      obtain ⟨L, _, hL2⟩ := List.mem_flatMap.mp hc
      exact (F_shp ok L _).sub c hL2
    cases q : r.here t j with
    | nil => decide
    | cons d s =>
      show (if s.all (· == d) = true then d else 63) < 128
      split
      · have := al_lt d (hmem d (by rw [q]; exact List.mem_cons_self)); omega
      · decide
theorem ltOk_short {r : Rec} (ok : r.Ok) : LtOk (shortS r) := by
  unfold shortS
  split
  · exact ltOk_none
  · refine ltOk_app (fun c hc => ?_) (ltOk_app (by unfold LtOk; decide) (ltOk_iS _))
    obtain ⟨w, hw, rfl⟩ := List.mem_map.mp hc
    have h1 := wds_lt ok _ w hw
    cases w with
    | nil => decide
    | cons d s => exact h1 d List.mem_cons_self
theorem prS_ln {p : Int} {L : Nat} (hp : -9 ≤ p ∧ p ≤ 9) (hL : L ≤ 40) : (prS p L).length ≤ 65 := by
  have h1 := iS_ln (L : Int) (by omega)
  have h2 := iS_ln p (by omega)
  unfold prS
  rw [List.length_append, List.length_cons]
  omega
theorem sum65 : ∀ {l : List (List Nat)}, (∀ x ∈ l, x.length ≤ 65) → (l.map fun x => x.length).sum ≤ 65 * l.length
  | [], _ => Nat.zero_le _
  | x :: l, h => by
    have h1 := h x List.mem_cons_self
    have h2 := sum65 (l := l) fun y hy => h y (List.mem_cons_of_mem _ hy)
    rw [List.map_cons, List.sum_cons, List.length_cons]
    omega
theorem pr_ln {r : Rec} (ok : r.Ok) : (prTxt r.p r.Ls).length ≤ 3000 := by
  unfold prTxt
  split
  · decide
  · have h := join_len2 (s := [44, 32]) (M := 65) (ps := r.Ls.map (prS r.p)) fun x hx => by
      obtain ⟨L, hL, rfl⟩ := List.mem_map.mp hx
      exact prS_ln ⟨ok.p1, ok.p9⟩ (mem_Ls ok hL).2.1
    rw [List.length_map] at h
    have := Ls_len ok
    have h0 : ([44, 32] : List Nat).length = 2 := rfl
    rw [h0] at h
    omega
theorem sure_ln {r : Rec} (ok : r.Ok) (t : Int) : (sureT r t).length ≤ 8 := by
  unfold sureT
  split
  · decide
  · unfold Rec.sureL
    rw [List.length_map, List.length_range]
    exact ok.w8
theorem short_ln {r : Rec} (ok : r.Ok) : (shortS r).length ≤ 200 := by
  have h2 := iS_ln r.p (by have := ok.p1; have := ok.p9; omega)
  unfold shortS
  split
  · decide
  · rename_i L ls hq
    have hL := (mem_Ls ok (L := L) (by rw [hq]; exact List.mem_cons_self)).2.1
    unfold lst
    rw [List.length_append, List.length_map, show (r.wds L).length = L from wds_len L r.p (rds r.gl), List.length_append]
    have h0 : ([32, 97, 116, 32] : List Nat).length = 4 := rfl
    omega
theorem tot_ln {r : Rec} (ok : r.Ok) : (iS r.total).length ≤ 101 := iS_len (by decide) (total_bd ok)
theorem say_sure (l : List Nat) (t : Int) : (SX.S l ++ Str.ofString " sure ") ++ Str.ofString (toString t) = SX.S (TL.joinL [32] [l, wSure, iS t]) := by
  rw [iS_eq, show (Str.ofString " sure " : Str) = SX.S ([32] ++ (wSure ++ [32])) from rfl, SX.S_cat, SX.S_cat]
  simp [TL.joinL, List.append_assoc]
theorem say_number (l : List Nat) : SX.S l ++ Str.ofString " number" = SX.S (TL.joinL [32] [l, wNumber]) := by
  rw [show (Str.ofString " number" : Str) = SX.S ([32] ++ wNumber) from rfl, SX.S_cat]
  rfl
theorem say_shortest (l : List Nat) : SX.S l ++ Str.ofString " shortest" = SX.S (TL.joinL [32] [l, wShortest]) := by
  rw [show (Str.ofString " shortest" : Str) = SX.S ([32] ++ wShortest) from rfl, SX.S_cat]
  rfl
theorem say_pairs (l : List Nat) : SX.S l ++ Str.ofString " pairs" = SX.S (TL.joinL [32] [l, wPairs]) := by
  rw [show (Str.ofString " pairs" : Str) = SX.S ([32] ++ wPairs) from rfl, SX.S_cat]
  rfl
theorem prS_eq2 (p : Int) (L : Nat) : (Str.ofString (toString (L : Int)) ++ Str.ofString " ") ++ Str.ofString (toString p) = SX.S (prS p L) := by
  rw [iS_eq, iS_eq, show (Str.ofString " " : Str) = SX.S [32] from rfl, SX.S_cat, SX.S_cat]
  unfold prS
  rw [List.append_assoc]
  rfl
def ansD (r : Rec) (t : Int) : PyData := .list ([sureT r t, iS r.total, shortS r, prTxt r.p r.Ls].map fun x => PyData.str (SX.S x))
theorem fine_ans {r : Rec} (ok : r.Ok) (t : Int) : Fine (ansD r t) 5000 1 :=
  (Fine.list (k := 0) (.cons (Fine.str (m := 8) (ltOk_sure ok t) (sure_ln ok t)) (.cons (Fine.str (m := 101) (ltOk_iS _) (tot_ln ok)) (.cons (Fine.str (m := 200) (ltOk_short ok) (short_ln ok)) (.cons (Fine.str (m := 3000) (ltOk_prTxt _ _) (pr_ln ok)) .nil))))).up (by decide) (Nat.le_refl _)
theorem sz2 {l : List Nat} (h : l.length ≤ 100) (k : Str) (hk : k.length ≤ 100) : (SX.S l).length + k.length ≤ sizeLine := Nat.le_of_lt (small (by rw [S_ln]; omega))
abbrev N_l_answers : List Str := ["_law_desk", "_law_word", "_law_note", "_law_time", "_law_some", "_law_size", "_law_speed", "_law_due", "_law_found"]
def sp__law_answers (K : PySem.W.Frag) : Sp := fun vs H Q _ => ∃ (c b a : Addr) (l : List Nat) (t : Int) (bs : List (List Nat × Rec)) (n : Nat) (m : List Nat) (r : Rec), vs = [.ref c, .str (SX.S l), .ref a, .int t] ∧ ConsO K H c b ∧ BookO K H b bs n ∧ (1 ≤ l.length ∧ l.length ≤ 8 ∧ ∀ ch ∈ l, ch ∈ sml) ∧ l ≠ wDrop ∧ n ≤ 1000 ∧ bs.length ≤ 50 ∧ findB bs l = some (m, r) ∧ r.Ok ∧ RecT K H a r ∧ (0 ≤ t ∧ t ≤ 10 ^ 30) ∧ ∀ H1, Same H H1 → Q (.bl true) H1
theorem cal__law_answers (T : Tx K mg base) : CalG P w K mg base 14 "_law_answers" (sp__law_answers K) [] := by
  obtain ⟨fd, F0⟩ := T.D_l_answers
  have F : FunD K "_law_answers" "_law_answers" (defArgs s_l_answers) (defBody s_l_answers) (defScope s_l_answers) [] [] (He.ga K "_law_answers") fd := F0
  refine ⟨⟨_, fd, ["_law_desk", "_law_word", "_law_note", "_law_time"], [], okG F sc_l_answers (fun vs H Q E h => ?_) (fun cdv A outer s H vs Q E hgd hr h => ?_), T.g__law_answers, F.kp, F.bindsN (fun _ _ _ _ _ _ us hl => match us, hl with | [_, _, _, _], _ => rfl), .nil⟩⟩
  · obtain ⟨_, _, _, _, _, _, _, _, _, rfl, _⟩ := h
    rfl
  · refine ⟨_, PSs.nox (pss_cons (ps_setLc (i := 4) (own := [("_law_size", 5), ("_law_speed", 6)]) rfl sc_l_answers.nd rfl rfl (sw_true rfl rfl rfl (by decide +kernel)) (pi_listK (K := K) rfl (C8.pe_c (cal__law_pairs T) hr (by decide) (by rfl) (pa_cons (pv 2) pa_nil))) (blkOk_by (own := [("_law_size", 5), ("_law_speed", 6)]) (N := N_l_answers) (sc := defScope s_l_answers) (by decide +kernel)) (fun _ _ _ _ _ => (pg_tupK (K := K) rfl (n := 2) rfl (pgs_cons (pg_name (i := 5) sc_l_answers.nd rfl locV) (pgs_cons (pg_name (i := 6) sc_l_answers.nd rfl locV) pgs_nil)))) (fun _ _ _ _ _ => pts_nil) (fun _ _ _ _ _ => (pe_op op_add_str (pe_op op_add_str (pe_callTy call_str_int (by rfl) T.f_str bt_str (pa_cons (pv 5) pa_nil)) pe_str) (pe_callTy call_str_int (by rfl) T.f_str bt_str (pa_cons (pv 6) pa_nil)))))
    (C8.pss_cut (ps_set (i := 7) sc_l_answers.nd rfl locV (pe_lst (pa_cons (C8.pe_c (cal__law_sure T) hr (by decide) (by rfl) (pa_cons (pv 2) (pa_cons (pv 3) pa_nil))) (pa_cons (pe_callTy call_str_int (by rfl) T.f_str bt_str (pa_cons (C8.pe_c (cal__law_many T) hr (by decide) (by rfl) (pa_cons (pv 2) pa_nil)) pa_nil)) (pa_cons (C8.pe_c (cal__law_least T) hr (by decide) (by rfl) (pa_cons (pv 2) pa_nil)) (pa_cons (pe_ifExp (pt_cmpR (op_neK (K := K) rfl (u64 hr)) (pv 4) (pe_lst pa_nil) (nomark _)) (pe_joinK (K := K) rfl pe_str (pv 4)) pe_str) pa_nil))))))
    (pss_cons (ps_set (i := 8) sc_l_answers.nd rfl locV (pe_lst (pa_cons (C8.pe_mt (mt_Console_say T).met hr (by decide) (pv 0) (pa_cons (pe_op op_add_str (pe_op op_add_str (pv 1) pe_str) (pe_callTy call_str_int (by rfl) T.f_str bt_str (pa_cons (pv 3) pa_nil))) pa_nil)) (pa_cons (C8.pe_mt (mt_Console_say T).met hr (by decide) (pv 0) (pa_cons (pe_op op_add_str (pv 1) pe_str) pa_nil)) (pa_cons (C8.pe_mt (mt_Console_say T).met hr (by decide) (pv 0) (pa_cons (pe_op op_add_str (pv 1) pe_str) pa_nil)) pa_nil)))))
    (pss_one (ps_ret (pe_cmpR op_eq (pe_callB (call_reprD hgd (u64 hr)) (by rfl) T.f_repr bt_repr (pa_cons (pe_op op_cat (pv 8) (pe_lst (pa_cons (C8.pe_mt (mt_Console_say T).met hr (by decide) (pv 0) (pa_cons (pe_op op_add_str (pv 1) pe_str) pa_nil)) pa_nil))) pa_nil)) (pe_callB (call_reprD hgd (u64 hr)) (by rfl) T.f_repr bt_repr (pa_cons (pv 7) pa_nil)) (nomark _))))))), ?_⟩
    obtain ⟨c, b, a, l, t, bs, n, m, r, rfl, CO, BO, hl, hd, hn, hbl, hf, ok, R, ht, hQ⟩ := h
    have kp1 := ok.p1
    have kp9 := ok.p9
    obtain ⟨cdx, hc⟩ := id CO
    refine ⟨_, rfl, a, r, rfl, R, ok, fun q H1 e1 ⟨as, has, hP⟩ => ⟨_, rfl, ⟨_, SqL.of has⟩, fun D nD => lc_it (walk_list (xs := as.map V.ref)) (fun i H2 => Same H1 H2 ∧ H2 D = some (.lst (txs ((r.Ls.take i).map (prS r.p))))) ⟨same_new nD, upd_same⟩ (fun i H2 _ hp => SqL.of (hp.1 _ _ has)) (fun i x H2 H3 hi ⟨e, hD⟩ ⟨e3, hv⟩ => ?_) fun H2 ⟨e, hD⟩ => ?_⟩⟩
    · subst e3
      obtain ⟨u, hu, rfl⟩ := at_map hv
      obtain ⟨L, hx, hq⟩ := pair_at1 hP hu
      obtain ⟨m1, m2, m3⟩ := mem_Ls ok (List.mem_of_getElem? hx)
      have hz := prS_ln ⟨kp1, kp9⟩ m2
      rw [← S_ln, ← prS_eq2] at hz
      rw [len_cat, len_cat] at hz
      refine ⟨_, _, rfl, SqT.of (e _ _ hq), rfl, _, _, rfl, _, _, rfl, rfl, rfl, ?_⟩
      refine ⟨_, rfl, _, rfl, log_small (by omega), _, _, rfl, rfl, Nat.le_of_lt (small (by omega)), _, rfl, _, rfl, log_small (by omega), _, _, rfl, rfl, Nat.le_of_lt (small (by rw [len_cat]; omega)), ?_⟩
      rw [take_snoc hx, List.map_append]
      have := txStep (c := prS r.p L) nD e hD (by rw [List.length_map, List.length_take]; have := Ls_len ok; omega)
      rw [← prS_eq2] at this
      exact this
    have hl2 : (as.map V.ref).length = r.Ls.length := by rw [List.length_map, pair_len hP]
    rw [hl2, List.take_length] at hD
    have e12 := e1.trans e
    have hLl := Ls_len ok
    refine ⟨fun σ' H' => Same H2 H' ∧ ∃ d, H' d = some (.lst (txs [sureT r t, iS r.total, shortS r, prTxt r.p r.Ls])) ∧ σ' = [some (.ref c), some (.str (SX.S l)), some (.ref a), some (.int t), some (.ref D), none, none, some (.ref d), none], ?_, fun σ' H' ⟨e3, d, hd2, eσ⟩ => ?_⟩
    · refine ⟨_, rfl, _, rfl, a, r, t, rfl, R.ext (.of e12), ok, ht, fun H3 e3 => ?_⟩
      refine ⟨_, rfl, a, r, rfl, R.ext (.of (e12.trans e3)), ok, fun H4 e4 => ⟨_, rfl, log_small (Nat.lt_trans (total_bd ok) (by decide +kernel)), ?_⟩⟩
      have e34 := e3.trans e4
      refine ⟨_, rfl, a, r, rfl, R.ext (.of (e12.trans e34)), ok, fun H5 e5 => ?_⟩
      have e35 := e34.trans e5
      have hD5 := e35 _ _ hD
      refine ⟨_, rfl, lnk, fun u nu => ⟨.list ((r.Ls.map (prS r.p)).map fun x => PyData.str (SX.S x)), .list [], .lst (SqL.of (same_new nu _ _ hD5)) (dp_txs _), .lst (SqL.of upd_same) .nil, shp_txs fun x hx => ?_, by decide +kernel, _, rfl, ?_⟩⟩
      · obtain ⟨L, _, rfl⟩ := List.mem_map.mp hx
        exact ltOk_prS _ L
      have e36 := e35.trans (same_new (o := .lst []) nu)
      have hD6 := same_new (o := .lst []) nu _ _ hD5
      by_cases hLs : r.Ls = []
      · refine iteFeq (by rw [hLs]; rfl) ⟨lnk, fun d nd => ⟨e36.trans (same_new nd), d, ?_, rfl⟩⟩
        rw [upd_same, iS_eq]
        unfold prTxt
        rw [if_pos hLs]
        rfl
      · obtain ⟨L, ls, hh⟩ := List.exists_cons_of_ne_nil hLs
        refine iteTeq (by rw [hh]; rfl) ⟨⟨_, rfl⟩, _, rfl, _, D, (r.Ls.map (prS r.p)).map SX.S, rfl, rfl, .inl (SqL.of (by rw [txs_eq]; exact hD6)), ?_, lnk, fun d nd => ⟨e36.trans (same_new nd), d, ?_, rfl⟩⟩
        · rw [SX.lens, List.length_map, List.length_map, show (Str.ofString ", ").length = 2 from rfl]
          have := sum65 (l := r.Ls.map (prS r.p)) fun x hx => by
            obtain ⟨L, hL, rfl⟩ := List.mem_map.mp hx
            exact prS_ln ⟨kp1, kp9⟩ (mem_Ls ok hL).2.1
          rw [List.length_map] at this
          omega
        · rw [upd_same, iS_eq]
          unfold prTxt
          rw [if_neg hLs, show (Str.ofString ", " : Str) = SX.S [44, 32] from rfl, SX.join_S]
          rfl
    subst eσ
    have e13 := e12.trans e3
    have AP : ∀ (H' : Hp) (e' : Same H H') (parts : List (List Nat)) (Q' : VK) (k : (parts = [l, wNumber] ∧ ∀ H1, Same H' H1 → Q' (.str (SX.S (iS r.total))) H1) ∨ (parts = [l, wShortest] ∧ ∀ H1, Same H' H1 → Q' (.str (SX.S (shortS r))) H1) ∨ (parts = [l, wPairs] ∧ ∀ H1, Same H' H1 → Q' (.str (SX.S (prTxt r.p r.Ls))) H1) ∨ (∃ t : Int, parts = [l, wSure, iS t] ∧ (0 ≤ t ∧ t ≤ 10 ^ 30) ∧ ∀ H1, Same H' H1 → Q' (.str (SX.S (sureT r t))) H1)), AnsP K c b parts H' Q' := fun H' e' parts Q' k => ⟨l, bs, n, CO.ext e', BO.ext e', hl, hd, hn, hbl, .inl ⟨m, r, hf, ok, by
      rcases k with k | k | k | k
      · exact .inl k
      · exact .inr (.inl k)
      · exact .inr (.inr (.inl k))
      · exact .inr (.inr (.inr (.inl k)))⟩⟩
    have hl8 : l.length ≤ 100 := by omega
    have hts : (Str.ofString (toString t)).length ≤ 32 := by rw [iS_eq, S_ln]; exact iS_ln t (by omega)
    refine ⟨_, rfl, c, cdx, _, rfl, e13 _ _ hc, rfl, _, rfl, _, _, rfl, rfl, sz2 hl8 _ (by decide), _, rfl, _, rfl, log_small (by omega), _, _, rfl, rfl, ?_, c, b, [l, wSure, iS t], congrArg (fun z => [V.ref c, V.str z]) (say_sure l t), AP _ e13 _ _ (.inr (.inr (.inr ⟨t, rfl, ht, fun H3 e4 => ?_⟩)))⟩
    · rw [len_cat, S_ln]
      have : (Str.ofString " sure ").length = 6 := rfl
      exact Nat.le_of_lt (small (by omega))
    have e14 := e13.trans e4
    refine ⟨_, rfl, c, cdx, _, rfl, e14 _ _ hc, rfl, _, rfl, _, _, rfl, rfl, sz2 hl8 _ (by decide), c, b, [l, wNumber], congrArg (fun z => [V.ref c, V.str z]) (say_number l), AP _ e14 _ _ (.inl ⟨rfl, fun H4 e5 => ?_⟩)⟩
    have e15 := e14.trans e5
    refine ⟨_, rfl, c, cdx, _, rfl, e15 _ _ hc, rfl, _, rfl, _, _, rfl, rfl, sz2 hl8 _ (by decide), c, b, [l, wShortest], congrArg (fun z => [V.ref c, V.str z]) (say_shortest l), AP _ e15 _ _ (.inr (.inl ⟨rfl, fun H5 e6 => ⟨lnk, fun f nf => ?_⟩⟩))⟩
    have e16 := e15.trans (e6.trans (same_new (o := .lst [V.str (SX.S (sureT r t)), V.str (SX.S (iS r.total)), V.str (SX.S (shortS r))]) nf))
    have hf0 : (upd H5 f (.lst [V.str (SX.S (sureT r t)), V.str (SX.S (iS r.total)), V.str (SX.S (shortS r))])) f = some (.lst [V.str (SX.S (sureT r t)), V.str (SX.S (iS r.total)), V.str (SX.S (shortS r))]) := upd_same
    have hd3 := (e4.trans (e5.trans (e6.trans (same_new (o := .lst [V.str (SX.S (sureT r t)), V.str (SX.S (iS r.total)), V.str (SX.S (shortS r))]) nf)))) _ _ hd2
    refine ⟨_, rfl, _, rfl, c, cdx, _, rfl, e16 _ _ hc, rfl, _, rfl, _, _, rfl, rfl, sz2 hl8 _ (by decide), c, b, [l, wPairs], congrArg (fun z => [V.ref c, V.str z]) (say_pairs l), AP _ e16 _ _ (.inr (.inr (.inl ⟨rfl, fun H6 e7 => ⟨lnk, fun g ng => ?_⟩⟩)))⟩
    have e8 := e7.trans (same_new (o := .lst [V.str (SX.S (prTxt r.p r.Ls))]) ng)
    refine ⟨_, _, _, _, rfl, rfl, e8 _ _ hf0, upd_same, by show 4 ≤ sizeLine; decide, fun p np => ?_⟩
    have e9 := e8.trans (same_new (o := .lst ([V.str (SX.S (sureT r t)), V.str (SX.S (iS r.total)), V.str (SX.S (shortS r))] ++ [V.str (SX.S (prTxt r.p r.Ls))])) np)
    dsimp only [tNil]
    refine reprG (d := ansD r t) (.lst (SqL.of upd_same) (dp_txs [sureT r t, iS r.total, shortS r, prTxt r.p r.Ls])) (fine_ans ok t) (by decide) (by decide) ?_
    refine ⟨_, rfl, ?_⟩
    dsimp only [tNil]
    refine reprG (d := ansD r t) (.lst (SqL.of (e9 _ _ hd3)) (dp_txs [sureT r t, iS r.total, shortS r, prTxt r.p r.Ls])) (fine_ans ok t) (by decide) (by decide) ?_
    exact ⟨rfl, dT rfl (hQ _ (e16.trans e9))⟩
end
end Gz
set_option maxHeartbeats 4000000
/-! What stands in the heap while a case runs. -/
namespace Gz
open PySem PySem.Spec PyProof.Rows L2
/-- all but lists stays -/
def NoL (H H' : Hp) : Prop := ∀ a o, H a = some o → (∀ xs, o ≠ .lst xs) → H' a = some o
theorem NoL.of {H H' : Hp} (e : Same H H') : NoL H H' := fun a o h _ => e a o h
theorem NoL.hd {H H' : Hp} {a : Addr} {B : Int} (h : Hd H a B) (e : Sab a H H') : NoL H H' := fun b o hb n => e b o (fun z => by
  obtain ⟨g, m, c, h, _⟩ := h
  rw [z, h] at hb
  exact n _ (Option.some.inj hb).symm) hb
theorem NoL.put {H : Hp} {a : Addr} {xs ys : List V} (h : H a = some (.lst xs)) : NoL H (upd H a (.lst ys)) := fun b o hb n => by
  rw [upd_ne (fun z => by rw [z, h] at hb; exact n _ (Option.some.inj hb).symm)]
  exact hb
theorem NoL.sT {H H' : Hp} (e : NoL H H') : SameT H H' := fun b xs h => e b _ h (by intro ys z; cases z)
section
variable {K : PySem.W.Frag}
theorem BookO.noL {H H' : Hp} {a : Addr} {bs : List (List Nat × Rec)} {n : Nat} (e : NoL H H') (h : BookO K H a bs n) : BookO K H' a bs n := by
  obtain ⟨dx, rd, md, pd, es, B, q⟩ := h
  obtain ⟨pv, h1, h2⟩ := B.p
  have eT := e.sT
  refine ⟨dx, rd, md, pd, es, ⟨e _ _ B.o (by intro ys z; cases z), e _ _ B.r (by intro ys z; cases z), B.m.ext eT, ⟨pv, eT _ _ h1, h2⟩, fun x hx => ?_, B.z⟩, q⟩
  obtain ⟨rdx, t, d, ps, gs, gl, R⟩ := B.e x hx
  exact ⟨rdx, t, d, ps, gs, gl, e _ _ R.o (by intro ys z; cases z), e _ _ R.x (by intro ys z; cases z), eT _ _ R.t, R.p.ext eT⟩
theorem tabs_noL {H H' : Hp} {T : List (Addr × Str)} (t : LamX.Tabs T H) (e : NoL H H') : LamX.Tabs T H' := fun p hp => by
  obtain ⟨qs, h1, h2, h3⟩ := t p hp
  refine ⟨qs, e _ _ h1 (by intro ys z; cases z), h2, fun pos cv hcv => ?_⟩
  obtain ⟨c, hc1, hc2⟩ := h3 pos cv hcv
  exact ⟨c, hc1, e _ _ hc2 (by intro ys z; cases z)⟩
theorem cons_noL {H H' : Hp} {c b : Addr} (h : ConsO K H c b) (e : NoL H H') : ConsO K H' c b := by
  obtain ⟨dx, h⟩ := h
  exact ⟨dx, e _ _ h (by intro ys z; cases z)⟩
def bsOf (w : List Nat) : List Rec → List (List Nat × Rec)
  | [] => []
  | [r0] => [(w, r0)]
  | r0 :: r1 :: _ => [(w, r0), (w ++ [122], r1)]
def RsL (K : PySem.W.Frag) (H : Hp) (a : Addr) (rs : List Rec) : Prop := ∃ as : List Addr, H a = some (.lst (as.map V.ref)) ∧ Paired (RecT K H) as rs
/-- all that a case holds -/
structure CS (K : PySem.W.Frag) (H : Hp) (hd c b nl wl : Addr) (w : List Nat) (rs rn : List Rec) (n : Nat) (B : Int) : Prop where
  co : ConsO K H c b
  bo : BookO K H b (bsOf w rs) n
  h : Hd H hd B
  nl : RsL K H nl rn
  wl : H wl = some (.lst (txs [w, w ++ [122]]))
  tb : LamX.Tabs (TB K) H
theorem Paired.recs {H H' : Hp} {as : List Addr} {rs : List Rec} (e : SameT H H') (h : Paired (RecT K H) as rs) : Paired (RecT K H') as rs := Paired.imp h fun _ _ z => z.ext e
variable {H H' : Hp} {hd c b nl wl : Addr} {w : List Nat} {rs rn : List Rec} {n : Nat} {B B' : Int}
theorem CS.same (S : CS K H hd c b nl wl w rs rn n B) (e : Same H H') : CS K H' hd c b nl wl w rs rn n B := by
  obtain ⟨as, h1, h2⟩ := S.nl
  exact ⟨S.co.ext e, S.bo.ext e, S.h.ext e, ⟨as, e _ _ h1, Paired.recs (.of e) h2⟩, e _ _ S.wl, S.tb.ext e⟩
theorem CS.up (S : CS K H hd c b nl wl w rs rn n B) (e : B ≤ B') : CS K H hd c b nl wl w rs rn n B' := ⟨S.co, S.bo, S.h.up e, S.nl, S.wl, S.tb⟩
/-- the hand draws -/
theorem CS.hand (S : CS K H hd c b nl wl w rs rn n B) (e : Sab hd H H') (h : Hd H' hd B') : CS K H' hd c b nl wl w rs rn n B' := by
  have eN := NoL.hd S.h e
  obtain ⟨as, h1, h2⟩ := S.nl
  exact ⟨cons_noL S.co eN, S.bo.noL eN, h, ⟨as, e _ _ (S.h.neR h1) h1, Paired.recs eN.sT h2⟩, e _ _ (S.h.neX S.wl) S.wl, tabs_noL S.tb eN⟩
theorem cons_ne (h1 : ConsO K H c b) (h2 : BookO K H b (bsOf w rs) n) : c ≠ b := fun z => by
  obtain ⟨dx, h1⟩ := h1
  obtain ⟨dx2, rd, md, pd, es, B, _⟩ := h2
  have h3 := B.o
  rw [z, h3] at h1
  have h4 := Option.some.inj h1
  injection h4 with a1 a2 a3
  exact absurd (congrArg List.length a3) (by show ¬ (3 = 1); decide)
/-- the book changes, and perhaps the tables -/
theorem CS.book {rs' : List Rec} {n' : Nat} (S : CS K H hd c b nl wl w rs rn n B) (e : SabT b H H') (t : LamX.Tabs (TB K) H') (bo : BookO K H' b (bsOf w rs') n') : CS K H' hd c b nl wl w rs' rn n' B := by
  obtain ⟨cdx, hc⟩ := S.co
  obtain ⟨dx2, rd, md, pd, es, BB, _⟩ := S.bo
  have hb := BB.o
  obtain ⟨as, h1, h2⟩ := S.nl
  obtain ⟨g, m, k, hh, hq⟩ := S.h
  have eT : SameT H H' := fun a xs ha => e a _ (ne_of ha hb (by intro z; cases z)) ha (by intro qs z; cases z)
  exact ⟨⟨cdx, e _ _ (cons_ne S.co S.bo) hc (by intro qs z; cases z)⟩, bo, ⟨g, m, k, e _ _ (ne_of hh hb (by intro z; cases z)) hh (by intro qs z; cases z), hq⟩, ⟨as, e _ _ (ne_of h1 hb (by intro z; cases z)) h1 (by intro qs z; cases z), Paired.recs eT h2⟩, e _ _ (ne_of S.wl hb (by intro z; cases z)) S.wl (by intro qs z; cases z), t⟩
/-- the notes change -/
theorem CS.notes {as' : List Addr} {rn' : List Rec} (S : CS K H hd c b nl wl w rs rn n B) (h : Paired (RecT K H) as' rn') : CS K (upd H nl (.lst (as'.map V.ref))) hd c b nl wl w rs rn' n B := by
  obtain ⟨as, h1, h2⟩ := S.nl
  have eN : NoL H (upd H nl (.lst (as'.map V.ref))) := NoL.put h1
  have hne : nl ≠ hd := S.h.neR h1
  refine ⟨cons_noL S.co eN, S.bo.noL eN, S.h.put hne, ⟨as', upd_same, Paired.recs eN.sT h⟩, ?_, tabs_noL S.tb eN⟩
  rw [upd_ne (fun z => ?_)]
  · exact S.wl
  · have hw := S.wl
    rw [z, h1] at hw
    exact absurd (refs_txs (HO.lst.inj (Option.some.inj hw))) (by intro z; cases z)
end
end Gz
set_option maxHeartbeats 4000000
namespace Gz
open PySem PySem.Spec PyProof.Rows L2
theorem SabT.refl (d : Addr) (H : Hp) : SabT d H H := fun _ _ _ h _ => h
theorem SabT.same {d : Addr} {H H1 H2 : Hp} (a : SabT d H H1) (e : Same H1 H2) : SabT d H H2 := fun x o n h k => e _ _ (a x o n h k)
theorem SabT.hand {d : Addr} {H H1 H2 : Hp} (a : SabT d H H1) (e : Sab d H1 H2) : SabT d H H2 := fun x o n h k => e _ _ n (a x o n h k)
theorem SabT.own {d b : Addr} {H H1 H2 : Hp} (nb : H b = none) (a : SabT d H H1) (e : SabT b H1 H2) : SabT d H H2 := fun x o n h k => e _ _ (fun z => by rw [z, nb] at h; cases h) (a x o n h k) k
theorem SabT.put {d p : Addr} {H H1 : Hp} {o : HO} (n : H p = none) (a : SabT d H H1) : SabT d H (upd H1 p o) := fun x u nx h k => by
  rw [upd_ne (ne_of_none h n)]
  exact a x u nx h k
theorem SabT.of {b : Addr} {H H' : Hp} (e : Sab b H H') : SabT b H H' := fun x o n h _ => e x o n h
/-- one more glance in what is told -/
theorem rec_more {K : PySem.W.Frag} {H : Hp} {a q u g : Addr} {r : Rec} {t : Int} {w : List Nat} {d ps gs gl : Addr} {as : List Addr} (R : Told K H r d ps gs gl) (hgl : Tup K H gl (as.map V.ref)) (hP : Paired (fun b (g : Int × List Nat) => Tup K H b [.int g.1, .str (SX.S g.2)]) as r.gl)
    (hg : H g = some (.tup [.int t, .str (SX.S w)])) (hq : Tup K H q (as.map V.ref ++ [.ref g])) (ha : H a = some (.tup (toldL (gl1 r t w) d ps gs q))) : RecT K H a (gl1 r t w) := by
  refine ⟨d, ps, gs, q, ha, R.d, R.ps, R.gs, as ++ [g], ?_, pair_snoc hP (.inl hg)⟩
  rw [List.map_append]
  exact hq
def nt (W lo hi : Nat) (p : Int) : Rec := ⟨W, lo, hi, p, []⟩
theorem nt_ok {W lo hi : Nat} {p : Int} (h1 : 1 ≤ W ∧ W ≤ 8) (h2 : 1 ≤ lo ∧ lo ≤ hi ∧ hi ≤ 40) (h3 : -9 ≤ p ∧ p ≤ 9) : (nt W lo hi p).Ok :=
  ⟨h1.1, h1.2, h2.1, h2.2.1, h2.2.2, h3.1, h3.2, Nat.zero_le _, fun g hg => (nomatch hg), fun g hg => (nomatch hg), fun g hg => (nomatch hg)⟩
theorem put0 (w : List Nat) (r : Rec) : putB (bsOf w []) w r = bsOf w [r] := by simp [putB, bsOf]
theorem put1 (w : List Nat) (r0 r1 : Rec) : putB (bsOf w [r0]) (w ++ [122]) r1 = bsOf w [r0, r1] := by simp [putB, bsOf, isN]
theorem put2 (w : List Nat) (r0 r1 r : Rec) : putB (bsOf w [r0, r1]) w r = bsOf w [r, r1] := by simp [putB, bsOf, isN]
theorem put3 (w : List Nat) (r0 r1 r : Rec) : putB (bsOf w [r0, r1]) (w ++ [122]) r = bsOf w [r0, r] := by simp [putB, bsOf, isN]
theorem say_eq (l : List Nat) (W lo hi : Nat) (p : Int) : (SX.S l ++ Str.ofString " = ") ++ SX.S (TL.joinL [32] [iS (W : Int), iS (lo : Int), iS (hi : Int), iS p]) = SX.S (TL.joinL [32] [l, wEq, iS (W : Int), iS (lo : Int), iS (hi : Int), iS p]) := by
  rw [show (Str.ofString " = " : Str) = SX.S ([32] ++ (wEq ++ [32])) from rfl, SX.S_cat, SX.S_cat]
  simp [TL.joinL, List.append_assoc]
theorem say_sees (l : List Nat) (t : Int) (wn : List Nat) : (((SX.S l ++ Str.ofString " sees ") ++ Str.ofString (toString t)) ++ Str.ofString " ") ++ SX.S wn = SX.S (TL.joinL [32] [l, wSees, iS t, wn]) := by
  rw [iS_eq, show (Str.ofString " sees " : Str) = SX.S ([32] ++ (wSees ++ [32])) from rfl, show (Str.ofString " " : Str) = SX.S [32] from rfl, SX.S_cat, SX.S_cat, SX.S_cat, SX.S_cat]
  simp [TL.joinL, List.append_assoc]
theorem told_eq (r : Rec) : (Str.ofString "Record of " ++ Str.ofString (toString (r.W : Int))) ++ Str.ofString " places, 0 glances" = SX.S (reprS r) := by
  rw [iS_eq, show (Str.ofString "Record of " : Str) = SX.S rA from rfl, show (Str.ofString " places, 0 glances" : Str) = SX.S rB from rfl, SX.S_cat, SX.S_cat]
  unfold reprS
  rw [List.append_assoc]
end Gz
set_option maxHeartbeats 4000000
namespace Gz
open PySem PySem.Spec PyProof.Rows L2
section
variable {P : Program} {w : World} {K : PySem.W.Frag} {mg : Str → Option Value} {base : Heap}
theorem sIx1 (n : Nat) : HT.sIx (n + 1) 0 none = 0 ∧ HT.sIx (n + 1) (n + 1) (some 1) = 1 := by
  constructor
  · rfl
  · simp [HT.sIx]
theorem sl1 {K : PySem.W.Frag} {H : Hp} {a : Addr} {p : Int} {ps : List V} {Q : VK} (h : H a = some (.tup (.int p :: ps))) (q : ∀ s H1, Same H H1 → H1 s = some (.tup [.int p]) → Q (.ref s) H1) : rSlA K (.ref a) none (some 1) H Q := by
  obtain ⟨h1, h2⟩ := sIx1 ps.length
  refine ⟨a, _, rfl, SqT.of h, fun ⟨_, z⟩ => ?_, fun _ s ns => q s _ (same_new ns) ?_⟩
  · have z2 : HT.sIx (ps.length + 1) (ps.length + 1) (some 1) = ps.length + 1 := z
    rw [h2] at z2
    have : ps = [] := List.eq_nil_of_length_eq_zero (by omega)
    subst this
    exact q a H (.refl H) h
  · rw [upd_same]
    have : cutV (V.int p :: ps) none (some 1) = [V.int p] := by
      show ((V.int p :: ps).drop (HT.sIx (ps.length + 1) 0 none)).take (HT.sIx (ps.length + 1) (ps.length + 1) (some 1) - HT.sIx (ps.length + 1) 0 none) = _
      rw [h1, h2]
      rfl
    rw [this]
theorem catQ {K : PySem.W.Frag} {H : Hp} {a b : Addr} {xs ys : List V} {Q : VK} (ha : Tup K H a xs) (hb : Tup K H b ys) (hl : xs.length + ys.length ≤ sizeLine) (q : ∀ p H1, Same H H1 → Tup K H1 p (xs ++ ys) → Q (.ref p) H1) : rCatA K (.ref a) (.ref b) H Q :=
  ⟨a, b, xs, ys, rfl, rfl, ha.sq, hb.sq, hl, fun hx => q b H (.refl H) (by rw [hx]; exact hb), fun _ hy => q a H (.refl H) (by rw [hy, List.append_nil]; exact ha), fun _ _ p np => q p _ (same_new np) (.inl upd_same)⟩
theorem sl6 {K : PySem.W.Frag} {H : Hp} {a : Addr} {x0 x1 x2 x3 x4 x5 x6 : V} {Q : VK} (h : H a = some (.tup [x0, x1, x2, x3, x4, x5, x6])) (q : ∀ s H1, Same H H1 → H1 s = some (.tup [x0, x1, x2, x3, x4, x5]) → Q (.ref s) H1) : rSlA K (.ref a) none (some 6) H Q :=
  ⟨a, _, rfl, SqT.of h, fun z => absurd (show HT.sIx 7 7 (some 6) = 7 from z.2) (by decide), fun _ s ns => q s _ (same_new ns) upd_same⟩
theorem pair_set {α β : Type} {G : α → β → Prop} {l1 : List α} {l2 : List β} (h : Paired G l1 l2) {i : Nat} {a : α} {b : β} (g : G a b) : Paired G (l1.set i a) (l2.set i b) := by
  induction h generalizing i with
  | nil => exact .nil
  | cons r _ ih =>
    cases i with
    | zero => exact .cons g (by assumption)
    | succ i => exact .cons r ih
def WOk (w : List Nat) : Prop := (1 ≤ w.length ∧ w.length ≤ 7) ∧ (∀ c ∈ w, c ∈ sml) ∧ w ≠ wDrop ∧ w ++ [122] ≠ wDrop
theorem w_ok {l : List Nat} (h1 : l.length ≤ 6) (h2 : ∀ c ∈ l, c ∈ sml) : WOk (l ++ [97]) := by
  have hl : (l ++ [97]).length = l.length + 1 := by rw [List.length_append]; rfl
  refine ⟨⟨by omega, by omega⟩, fun c hc => ?_, fun z => ?_, fun z => ?_⟩
  · rcases List.mem_append.mp hc with hc | hc
    · exact h2 c hc
    · rw [List.mem_singleton.mp hc]; decide
  · have := congrArg List.getLast? z
    rw [List.getLast?_append] at this
    exact absurd (show (some 97 : Option Nat) = some 112 from this) (by decide)
  · have := congrArg List.getLast? z
    rw [List.getLast?_append] at this
    exact absurd (show (some 122 : Option Nat) = some 112 from this) (by decide)
abbrev N_l_case : List Str := ["_law_hand", "_law_desk", "_law_stock", "_law_notes", "_law_word", "_law_words", "_law_turn", "_law_note", "_law_ends", "_law_told", "_law_at", "_law_glance", "_law_line_here", "_law_ahead", "_law_time", "_law_each"]
def sp__law_case (K : PySem.W.Frag) : Sp := fun vs H Q _ => ∃ (hd : Addr), vs = [.ref hd] ∧ Hd H hd 0 ∧ LamX.Tabs (TB K) H ∧ ∀ H1, SabT hd H H1 → LamX.Tabs (TB K) H1 → Q (.bl true) H1
theorem cal__law_case (T : Tx K mg base) : CalG P w K mg base 15 "_law_case" (sp__law_case K) [] := by
  obtain ⟨fd, F0⟩ := T.D_l_case
  have F : FunD K "_law_case" "_law_case" (defArgs s_l_case) (defBody s_l_case) (defScope s_l_case) [] [] (He.ga K "_law_case") fd := F0
  refine ⟨⟨_, fd, ["_law_hand"], [], okG F sc_l_case (fun vs H Q E h => ?_) (fun cdv A outer s H vs Q E hgd hr h => ?_), T.g__law_case, F.kp, F.bindsN (fun _ _ _ _ _ _ us hl => match us, hl with | [_], _ => rfl), .nil⟩⟩
  · obtain ⟨_, rfl, _⟩ := h
    rfl
  · refine ⟨_, PSs.nox (pss_cons (ps_asg (pe_tup (pa_cons (pe_mk0 (mak_Console T) hr (by decide) (by rfl)) (pa_cons (C8.pe_c (cal__law_few T) hr (by decide) (by rfl) (pa_cons (pv 0) (pa_cons pe_int pa_nil))) (pa_cons (pe_lst pa_nil) pa_nil)))) (pg_tupK (K := K) rfl (n := 3) rfl (pgs_cons (pg_name (i := 1) sc_l_case.nd rfl locV) (pgs_cons (pg_name (i := 2) sc_l_case.nd rfl locV) (pgs_cons (pg_name (i := 3) sc_l_case.nd rfl locV) pgs_nil)))))
    (pss_cons (ps_set (i := 4) sc_l_case.nd rfl locV (pe_op op_add_str (C8.pe_c (cal__law_drawn T) hr (by decide) (by rfl) (pa_cons (pv 0) (pa_cons (C8.pe_c (cal__law_pick T) hr (by decide) (by rfl) (pa_cons (pv 0) (pa_cons pe_int pa_nil))) (pa_cons pe_str pa_nil)))) pe_str))
    (pss_cons (ps_set (i := 5) sc_l_case.nd rfl locV (pe_lst (pa_cons (pv 4) (pa_cons (pe_op op_add_str (pv 4) pe_str) pa_nil))))
    (pss_cons (ps_for PassesOwn.never rfl (pi_range1 (by rfl) T.f_range (pa_cons pe_int pa_nil)) (pg_name (i := 6) sc_l_case.nd rfl locV) (pss_cons (ps_set (i := 7) sc_l_case.nd rfl locV (C8.pe_c (cal__law_any_note T) hr (by decide) (by rfl) (pa_cons (pv 0) (pa_cons pe_int (pa_cons pe_int (pa_cons (pv 2) pa_nil))))))
    (pss_cons (ps_expr (pe_bmK (K := K) rfl PySem.F.plainAttrs_list PySem.F.slot_list_append PySem.F.type_list_append mt_append (pv 3) (pa_cons (pe_tup (pa_cons (pe_ix (ix_tupK (K := K) rfl) (pv 7) pe_int (fun _ _ => rfl)) (pa_cons (pe_tup pa_nil) (pa_cons (pe_ix (ix_tupK (K := K) rfl) (pv 7) pe_int (fun _ _ => rfl)) (pa_cons (pe_ix (ix_tupK (K := K) rfl) (pv 7) pe_int (fun _ _ => rfl)) (pa_cons (pe_slice (sl_tupK (K := K) rfl) (pe_ix (ix_tupK (K := K) rfl) (pv 7) pe_int (fun _ _ => rfl)) po_none (po_some pe_int)) (pa_cons (pe_tup pa_nil) (pa_cons (pe_tup pa_nil) pa_nil)))))))) pa_nil)))
    (pss_cons (ps_set (i := 8) sc_l_case.nd rfl locV (pe_lst (pa_cons (pe_callTy call_str_int (by rfl) T.f_str bt_str (pa_cons (pe_ix (ix_tupK (K := K) rfl) (pv 7) pe_int (fun _ _ => rfl)) pa_nil)) (pa_cons (pe_callTy call_str_int (by rfl) T.f_str bt_str (pa_cons (pe_ix (ix_tupK (K := K) rfl) (pv 7) pe_int (fun _ _ => rfl)) pa_nil)) (pa_cons (pe_callTy call_str_int (by rfl) T.f_str bt_str (pa_cons (pe_ix (ix_tupK (K := K) rfl) (pv 7) pe_int (fun _ _ => rfl)) pa_nil)) (pa_cons (pe_callTy call_str_int (by rfl) T.f_str bt_str (pa_cons (pe_ix (ix_tupK (K := K) rfl) (pe_ix (ix_tupK (K := K) rfl) (pv 7) pe_int (fun _ _ => rfl)) pe_int (fun _ _ => rfl)) pa_nil)) pa_nil))))))
    (pss_cons (ps_set (i := 9) sc_l_case.nd rfl locV (C8.pe_mt (mt_Console_say T).met hr (by decide) (pv 1) (pa_cons (pe_op op_add_str (pe_op op_add_str (pe_ix (ix_listK (K := K) rfl) (pv 5) (pv 6) (fun _ _ => rfl)) pe_str) (pe_joinK (K := K) rfl pe_str (pv 8))) pa_nil)))
    (pss_one (ps_if (pt_cmpR op_ne (pv 9) (pe_op op_add_str (pe_op op_add_str pe_str (pe_callTy call_str_int (by rfl) T.f_str bt_str (pa_cons (pe_ix (ix_tupK (K := K) rfl) (pv 7) pe_int (fun _ _ => rfl)) pa_nil))) pe_str) (nomark _)) (pss_one (ps_ret pe_bl)) pss_nil)))))))
    (pss_cons (ps_for PassesOwn.never rfl (pi_range1 (by rfl) T.f_range (pa_cons (pe_op op_add pe_int (C8.pe_c (cal__law_pick T) hr (by decide) (by rfl) (pa_cons (pv 0) (pa_cons pe_int pa_nil)))) pa_nil)) (pg_name (i := 6) sc_l_case.nd rfl locV) (C8.pss_cut (ps_set (i := 10) sc_l_case.nd rfl locV (pe_op op_mod (pe_callTy call_int1 (by rfl) T.f_int bt_int (pa_cons (pv 6) pa_nil)) pe_int))
    (pss_cons (ps_set (i := 11) sc_l_case.nd rfl locV (C8.pe_c (cal__law_fitting T) hr (by decide) (by rfl) (pa_cons (pv 0) (pa_cons (pe_ix (ix_listK (K := K) rfl) (pv 3) (pv 10) (fun _ _ => rfl)) (pa_cons (pv 2) pa_nil)))))
    (pss_cons (ps_asg (pe_op (op_catK (K := K) rfl) (pe_slice (sl_tupK (K := K) rfl) (pe_ix (ix_listK (K := K) rfl) (pv 3) (pv 10) (fun _ _ => rfl)) po_none (po_some pe_int)) (pe_tup (pa_cons (pe_op (op_catK (K := K) rfl) (pe_ix (ix_tupK (K := K) rfl) (pe_ix (ix_listK (K := K) rfl) (pv 3) (pv 10) (fun _ _ => rfl)) pe_int (fun _ _ => rfl)) (pe_tup (pa_cons (pv 11) pa_nil))) pa_nil))) (pg_sub (pv 3) (pv 10) set_list))
    (pss_cons (ps_set (i := 12) sc_l_case.nd rfl locV (pe_op op_add_str (pe_op op_add_str (pe_op op_add_str (pe_op op_add_str (pe_ix (ix_listK (K := K) rfl) (pv 5) (pv 10) (fun _ _ => rfl)) pe_str) (pe_callTy call_str_int (by rfl) T.f_str bt_str (pa_cons (pe_ix (ix_tupK (K := K) rfl) (pv 11) pe_int (fun _ _ => rfl)) pa_nil))) pe_str) (pe_ix (ix_tupK (K := K) rfl) (pv 11) pe_int (fun _ _ => rfl))))
    (pss_cons (ps_if (pt_cmpR op_ne (C8.pe_mt (mt_Console_say T).met hr (by decide) (pv 1) (pa_cons (pv 12) pa_nil)) (pe_callTy call_str_int (by rfl) T.f_str bt_str (pa_cons (pe_callB (call_lenK (K := K) rfl) (by rfl) T.f_len bt_len (pa_cons (C8.pe_c (cal__law_pairs T) hr (by decide) (by rfl) (pa_cons (pe_ix (ix_listK (K := K) rfl) (pv 3) (pv 10) (fun _ _ => rfl)) pa_nil)) pa_nil)) pa_nil)) (nomark _)) (pss_one (ps_ret pe_bl)) pss_nil)
    (pss_cons (ps_asg (pe_tup (pa_cons (pe_cG (cal__law_look T) hgd hr (by decide) (by rfl) (pa_cons (pe_fldK (K := K) rfl (pv 1) rfl) pa_nil)) (pa_cons (C8.pe_c (cal__law_moment T) hr (by decide) (by rfl) (pa_cons (pv 0) pa_nil)) pa_nil))) (pg_tupK (K := K) rfl (n := 2) rfl (pgs_cons (pg_name (i := 13) sc_l_case.nd rfl locV) (pgs_cons (pg_name (i := 14) sc_l_case.nd rfl locV) pgs_nil))))
    (pss_cons (ps_if (pt_not (pt_val (pe_callB (cr_allK (K := K) rfl rfl) (by rfl) T.f_all bt_all (pa_cons (pe_lc (own := [("_law_each", 15)]) rfl sc_l_case.nd (pi_listK (K := K) rfl (pe_lst (pa_cons pe_int (pa_cons pe_int pa_nil)))) (blkOk_by (own := [("_law_each", 15)]) (N := N_l_case) (sc := defScope s_l_case) (by decide +kernel)) (fun _ _ _ _ _ => (pg_name (i := 15) sc_l_case.nd rfl locV)) (fun _ _ _ _ _ => pts_nil) (fun _ _ _ _ _ => (pe_cG (cal__law_answers T) hgd hr (by decide) (by rfl) (pa_cons (pv 1) (pa_cons (pe_ix (ix_listK (K := K) rfl) (pv 5) (pv 15) (fun _ _ => rfl)) (pa_cons (pe_ix (ix_listK (K := K) rfl) (pv 3) (pv 15) (fun _ _ => rfl)) (pa_cons (pv 14) pa_nil))))))) pa_nil)))) (pss_one (ps_ret pe_bl)) pss_nil)
    (pss_one (ps_if (pt_cmpR op_ne (pe_cG (cal__law_look T) hgd hr (by decide) (by rfl) (pa_cons (pe_fldK (K := K) rfl (pv 1) rfl) pa_nil)) (pv 13) (nomark _)) (pss_one (ps_ret pe_bl)) pss_nil))))))))))
    (pss_one (ps_ret pe_bl))))))), ?_⟩
    obtain ⟨hd, rfl, hH, hT, hQ⟩ := h
    refine fun c cdx nc ncdx cne => ⟨c, cdx, rfl, upd_same, fun H1 b nb e1 hc1 BO => ⟨rfl, ?_⟩⟩
    have e01 : Same H H1 := Same.made nc ncdx fun x o h n => e1 x o n h
    have nbH : H b = none := by
      cases q : H b with
      | none => rfl
      | some o =>
        exfalso
        have := (Same.made (H := H) (H1 := upd (upd H cdx (.own c)) c (.ins (He.ga K "Console") cdx [])) nc ncdx fun x o h n => h) _ _ q
        have h9 : none = some o := nb.symm.trans this
        cases h9
    have hH1 := hH.ext e01
    refine ⟨_, rfl, hd, 0, rfl, hH1, by decide, fun st H2 e2 h2 hst hsta => ⟨lnk, fun nl nnl => ⟨lnk, fun q nq => ⟨_, _, rfl, SqT.of upd_same, rfl, _, _, rfl, _, _, rfl, _, _, rfl, rfl, ?_⟩⟩⟩⟩
    have hst0 : st ≠ [] := fun z => by rw [z] at hst; cases hst
    have E23 : Same H2 (upd (upd H2 nl (.lst [])) q (.tup [.ref c, .str (SX.S st), .ref nl])) := (same_new nnl).trans (same_new nq)
    have hnl3 : (upd (upd H2 nl (.lst [])) q (.tup [.ref c, .str (SX.S st), .ref nl])) nl = some (.lst []) := same_new nq _ _ upd_same
    have h3 := h2.ext E23
    have eN2 := NoL.hd hH1 e2
    have co3 := (cons_noL ⟨cdx, hc1⟩ eN2).ext E23
    have bo3 := (BO.noL eN2).ext E23
    have tb3 := (tabs_noL (hT.ext e01) eN2).ext E23
    have s3 := (((SabT.refl hd H).same e01).hand e2).same E23
    have hnlh : nl ≠ hd := h2.ne nnl
    have nnlH : H nl = none := by
      cases q : H nl with
      | none => rfl
      | some o =>
        exfalso
        by_cases z : nl = hd
        · exact hnlh z
        · have := e2 _ _ z (e01 _ _ q)
          rw [nnl] at this
          cases this
    generalize upd (upd H2 nl (.lst [])) q (.tup [.ref c, .str (SX.S st), .ref nl]) = H3 at hnl3 h3 co3 bo3 tb3 s3
    refine ⟨_, rfl, _, rfl, hd, 7, _, rfl, h3, by decide, by decide, fun k H4 e4 h4 hk => ?_⟩
    obtain ⟨n, rfl⟩ := Int.eq_ofNat_of_zero_le hk.1
    refine ⟨hd, _, n, sml, rfl, h4, by omega, by decide, by decide, fun l H5 e5 h5 hl hls => ⟨_, _, rfl, rfl, Nat.le_of_lt (small (by rw [S_ln]; show l.length + 1 < _; omega)), ?_⟩⟩
    rw [show SX.S l ++ Str.ofString "a" = SX.S (l ++ [97]) from SX.S_cat l [97]]
    have hw := w_ok (l := l) (by omega) hls
    generalize l ++ [97] = w at hw
    refine ⟨_, rfl, _, rfl, _, _, rfl, rfl, Nat.le_of_lt (small (by rw [S_ln]; show w.length + 1 < _; have := hw.1.2; omega)), lnk, fun wl nwl => ?_⟩
    have e35 := Sab.trans e4 e5
    have eN5 := NoL.hd h3 e35
    have S0 : CS K (upd H5 wl (.lst [.str (SX.S w), .str (SX.S w ++ Str.ofString "z")])) hd c b nl wl w [] [] 0 11 := by
      have eW := same_new (o := .lst [V.str (SX.S w), .str (SX.S w ++ Str.ofString "z")]) nwl
      refine ⟨(cons_noL co3 eN5).ext eW, (bo3.noL eN5).ext eW, (h5.ext eW).up (by omega), ⟨[], eW _ _ (e35 _ _ hnlh hnl3), .nil⟩, ?_, (tabs_noL tb3 eN5).ext eW⟩
      rw [upd_same, show (Str.ofString "z" : Str) = SX.S [122] from rfl, SX.S_cat]
      rfl
    have s6 := (s3.hand e35).same (same_new (o := .lst [V.str (SX.S w), .str (SX.S w ++ Str.ofString "z")]) nwl)
    generalize upd H5 wl (.lst [V.str (SX.S w), .str (SX.S w ++ Str.ofString "z")]) = H6 at S0 s6
    refine ⟨_, rfl, by decide, by decide, for_range (n := 2) (fun i σ H' => SabT hd H H' ∧ ∃ (rs : List Rec) (x y z u : Option V), rs.length = i ∧ (∀ r ∈ rs, r.Ok ∧ r.gl = []) ∧ CS K H' hd c b nl wl w rs rs i (11 + 80 * (i : Int)) ∧ σ = [some (.ref hd), some (.ref c), some (.str (SX.S st)), some (.ref nl), some (.str (SX.S w)), some (.ref wl), x, y, z, u, none, none, none, none, none, none]) ⟨s6, [], none, none, none, none, rfl, (fun r hr => nomatch hr), S0, rfl⟩ (fun i σ H' hi ⟨s', rs, x, y, z, u, hrl, hro, S, eσ⟩ => ?_) fun σ H' ⟨s', rs, x, y, z, u, hrl, hro, S, eσ⟩ => ?_⟩
    · subst eσ
      refine ⟨_, rfl, _, rfl, hd, _, st, rfl, S.h, by omega, hst0, by omega, fun v W lo hi1 p H7 e7 h7 N => ?_⟩
      obtain ⟨g, sp, tt, em, ps, hv, hsp, hW, hlh, hp⟩ := N
      have S7 := S.hand e7 h7
      have s7 := s'.hand e7
      obtain ⟨as, hnl, hP⟩ := S7.nl
      refine ⟨_, rfl, .inl ⟨rfl, _, SqL.of hnl⟩, _, rfl, _, _, 0, _, rfl, rfl, SqT.of hv, atI_nat (j := 0) rfl, lnk, fun d nd => ⟨_, rfl, _, _, 2, _, rfl, rfl, SqT.of (same_new nd _ _ hv), atI_nat (j := 2) rfl, _, rfl, _, _, 3, _, rfl, rfl, SqT.of (same_new nd _ _ hv), atI_nat (j := 3) rfl, _, rfl, _, _, 4, _, rfl, rfl, SqT.of (same_new nd _ _ hv), atI_nat (j := 4) rfl, _, rfl, sl1 (same_new nd _ _ hsp) fun s9 H9 e9 hs9 => ⟨lnk, fun gs ngs => ⟨lnk, fun gl ngl => ⟨lnk, fun a na => ?_⟩⟩⟩⟩⟩
      have ea := (same_new (o := .tup []) ngs).trans ((same_new (o := .tup []) ngl).trans (same_new (o := .tup [V.int (W : Int), .ref d, .int (lo : Int), .int (hi1 : Int), .ref s9, .ref gs, .ref gl]) na))
      have e79 := (same_new (o := .tup []) nd).trans (e9.trans ea)
      have RT : RecT K (upd (upd (upd H9 gs (.tup [])) gl (.tup [])) a (.tup [V.int (W : Int), .ref d, .int (lo : Int), .int (hi1 : Int), .ref s9, .ref gs, .ref gl])) a (nt W lo hi1 p) :=
        ⟨d, s9, gs, gl, upd_same, .inl ((e9.trans ea) _ _ upd_same), .inl (ea _ _ hs9), .inl (((same_new ngl).trans (same_new na)) _ _ upd_same), ⟨[], .inl (same_new na _ _ upd_same), .nil⟩⟩
      have S8 := S7.same e79
      have hnl8 := e79 _ _ hnl
      have hv8 := e79 _ _ hv
      have hsp8 := e79 _ _ hsp
      have hP8 := Paired.recs (.of e79) hP
      have s8 := s7.same e79
      generalize upd (upd (upd H9 gs (.tup [])) gl (.tup [])) a (.tup [V.int (W : Int), .ref d, .int (lo : Int), .int (hi1 : Int), .ref s9, .ref gs, .ref gl]) = H8 at RT S8 hnl8 hv8 hsp8 hP8 s8
      have hasl := pair_len hP8
      refine ⟨_, _, _, rfl, rfl, hnl8, small (by rw [List.length_map, hasl, hrl]; omega), ?_⟩
      have S9 : CS K (upd H8 nl (.lst (as.map V.ref ++ [.ref a]))) hd c b nl wl w rs (rs ++ [nt W lo hi1 p]) i (11 + 80 * (i : Int) + 80) := by
        have := S8.notes (pair_snoc hP8 RT)
        rw [List.map_append] at this
        exact this
      have eT9 := (NoL.put (ys := as.map V.ref ++ [V.ref a]) hnl8).sT
      have hv9 := eT9 _ _ hv8
      have hsp9 := eT9 _ _ hsp8
      have s9' := s8.put (o := .lst (as.map V.ref ++ [V.ref a])) nnlH
      generalize upd H8 nl (.lst (as.map V.ref ++ [V.ref a])) = H10 at S9 hv9 hsp9 s9'
      have ok := nt_ok hW hlh hp
      refine ⟨_, rfl, _, _, 0, _, rfl, rfl, SqT.of hv9, atI_nat (j := 0) rfl, _, rfl, log_small (by omega), _, rfl, _, _, 2, _, rfl, rfl, SqT.of hv9, atI_nat (j := 2) rfl, _, rfl, log_small (by omega), _, rfl, _, _, 3, _, rfl, rfl, SqT.of hv9, atI_nat (j := 3) rfl, _, rfl, log_small (by omega), _, rfl, _, _, 4, _, rfl, rfl, SqT.of hv9, atI_nat (j := 4) rfl, _, _, 0, _, rfl, rfl, SqT.of hsp9, atI_nat (j := 0) rfl, _, rfl, log_small (by omega), lnk, fun en nen => ?_⟩
      rw [iS_eq, iS_eq, iS_eq, iS_eq]
      have een := same_new (o := .lst [V.str (SX.S (iS (W : Int))), .str (SX.S (iS (lo : Int))), .str (SX.S (iS (hi1 : Int))), .str (SX.S (iS p))]) nen
      have hen : (upd H10 en (.lst [V.str (SX.S (iS (W : Int))), .str (SX.S (iS (lo : Int))), .str (SX.S (iS (hi1 : Int))), .str (SX.S (iS p))])) en = some (.lst (txs [iS (W : Int), iS (lo : Int), iS (hi1 : Int), iS p])) := upd_same
      have S10 := S9.same een
      have hv10 := een _ _ hv9
      have s10 := s9'.same een
      generalize upd H10 en (.lst [V.str (SX.S (iS (W : Int))), .str (SX.S (iS (lo : Int))), .str (SX.S (iS (hi1 : Int))), .str (SX.S (iS p))]) = H11 at hen S10 hv10 s10
      obtain ⟨cdx2, hc10⟩ := id S10.co
      obtain ⟨li, hat, hli, hdr, hput⟩ : ∃ li : List Nat, atI (txs [w, w ++ [122]]) (0 + (i : Int)) = some (.str (SX.S li)) ∧ (1 ≤ li.length ∧ li.length ≤ 8 ∧ ∀ ch ∈ li, ch ∈ sml) ∧ li ≠ wDrop ∧ putB (bsOf w rs) li (nt W lo hi1 p) = bsOf w (rs ++ [nt W lo hi1 p]) := by
        have hi2 : i = 0 ∨ i = 1 := by omega
        rcases hi2 with rfl | rfl
        · have : rs = [] := List.eq_nil_of_length_eq_zero hrl
          subst this
          exact ⟨w, rfl, ⟨hw.1.1, by have := hw.1.2; omega, hw.2.1⟩, hw.2.2.1, put0 w _⟩
        · match rs, hrl with
          | [r0], _ =>
            exact ⟨w ++ [122], rfl, ⟨by rw [List.length_append]; show 1 ≤ w.length + 1; omega, by rw [List.length_append]; show w.length + 1 ≤ 8; have := hw.1.2; omega, fun ch hch => by
              rcases List.mem_append.mp hch with hch | hch
              · exact hw.2.1 ch hch
              · rw [List.mem_singleton.mp hch]; decide⟩, hw.2.2.2, put1 w r0 _⟩
      have l1 := iS_ln (W : Int) (by omega)
      have l2 := iS_ln (lo : Int) (by omega)
      have l3 := iS_ln (hi1 : Int) (by omega)
      have l4 := iS_ln p (by omega)
      have hbl : (bsOf w rs).length ≤ 50 := by
        match rs, hrl with
        | [], _ => exact Nat.zero_le _
        | [r0], _ => show 1 ≤ 50; decide
        | r0 :: r1 :: _, _ => show 2 ≤ 50; decide
      have hjn : (TL.joinL [32] [iS (W : Int), iS (lo : Int), iS (hi1 : Int), iS p]).length ≤ 200 := by
        have := join_len2 (s := [32]) (M := 40) (ps := [iS (W : Int), iS (lo : Int), iS (hi1 : Int), iS p]) (by simp; omega)
        have h0 : ([32] : List Nat).length = 1 := rfl
        have h4 : [iS (W : Int), iS (lo : Int), iS (hi1 : Int), iS p].length = 4 := rfl
        rw [h0, h4] at this
        omega
      refine ⟨_, rfl, c, cdx2, _, rfl, hc10, rfl, _, rfl, _, rfl, _, _, _, _, rfl, rfl, SqL.of S10.wl, hat, _, _, rfl, rfl, sz2 (by omega) _ (by decide), ⟨_, rfl⟩, _, rfl, _, en, [iS (W : Int), iS (lo : Int), iS (hi1 : Int), iS p].map SX.S, rfl, rfl, .inl (SqL.of (by rw [txs_eq]; exact hen)), ?_, ?_⟩
      · rw [SX.lens, show (Str.ofString " ").length = 1 from rfl]
        simp
        omega
      rw [show (Str.ofString " " : Str) = SX.S [32] from rfl, SX.join_S]
      refine ⟨_, _, rfl, rfl, ?_, c, b, [li, wEq, iS (W : Int), iS (lo : Int), iS (hi1 : Int), iS p], congrArg (fun z => [V.ref c, V.str z]) (say_eq li W lo hi1 p), li, bsOf w rs, i, S10.co, S10.bo, hli, hdr, by omega, hbl, .inr ⟨nt W lo hi1 p, rfl, ok, rfl, S10.tb, fun H12 e12 t12 B12 => ?_⟩⟩
      · rw [len_cat, S_ln li, S_ln (TL.joinL [32] [iS (W : Int), iS (lo : Int), iS (hi1 : Int), iS p])]
        have : (Str.ofString " = ").length = 3 := rfl
        exact Nat.le_of_lt (small (by omega))
      rw [hput] at B12
      have S12 := S10.book e12 t12 B12
      have s12 := s10.own nbH e12
      obtain ⟨bdx, rd, md, pd, es, BB, _⟩ := S10.bo
      have hv12 := e12 _ _ (ne_of hv10 BB.o (by intro z; cases z)) hv10 (by intro qs z; cases z)
      refine ⟨_, rfl, _, rfl, _, _, 0, _, rfl, rfl, SqT.of hv12, atI_nat (j := 0) rfl, _, rfl, log_small (by omega), _, _, rfl, rfl, ?_, _, _, rfl, rfl, ?_, ?_⟩
      · rw [iS_eq, S_ln (iS (W : Int))]
        have : (Str.ofString "Record of ").length = 10 := rfl
        exact Nat.le_of_lt (small (by omega))
      · rw [len_cat, iS_eq, S_ln (iS (W : Int))]
        have h1 : (Str.ofString "Record of ").length = 10 := rfl
        have h2 : (Str.ofString " places, 0 glances").length = 18 := rfl
        exact Nat.le_of_lt (small (by omega))
      have hte : (Str.ofString "Record of " ++ Str.ofString (toString (W : Int))) ++ Str.ofString " places, 0 glances" = SX.S (reprS (nt W lo hi1 p)) := told_eq (nt W lo hi1 p)
      rw [hte]
      refine ⟨rfl, _, rfl, iteDN rfl ?_⟩
      exact ⟨s12, rs ++ [nt W lo hi1 p], _, _, _, _, by rw [List.length_append, hrl]; rfl, fun r hr => by
        rcases List.mem_append.mp hr with hr | hr
        · exact hro r hr
        · rw [List.mem_singleton.mp hr]; exact ⟨ok, rfl⟩, S12.up (by omega), rfl⟩
    · subst eσ
      obtain ⟨r0, r1, rfl⟩ : ∃ r0 r1, rs = [r0, r1] := by
        match rs, hrl with
        | [r0, r1], _ => exact ⟨r0, r1, rfl⟩
      have hr0 := hro r0 (by simp)
      have hr1 := hro r1 (by simp)
      refine ⟨_, rfl, hd, 4, _, rfl, S.h, by decide, by decide, fun k H1' e1' h1' hk => ⟨_, _, rfl, rfl, _, rfl, by omega, by omega, ?_⟩⟩
      have S1 := (S.hand e1' h1').up (B' := 200) (by decide)
      have s1 := s'.hand e1'
      obtain ⟨n2, hn2⟩ := Int.eq_ofNat_of_zero_le (a := 1 + k) (by omega)
      rw [hn2]
      refine for_range (n := n2) (fun i σ H' => SabT hd H H' ∧ ∃ (r0 r1 : Rec) (n : Nat) (x y z u v a t q q1 : Option V), (r0.Ok ∧ r1.Ok) ∧ (r0.gl.length ≤ i ∧ r1.gl.length ≤ i) ∧ n ≤ 2 + i ∧ CS K H' hd c b nl wl w [r0, r1] [r0, r1] n (200 + 100 * (i : Int)) ∧ σ = [some (.ref hd), some (.ref c), some (.str (SX.S st)), some (.ref nl), some (.str (SX.S w)), some (.ref wl), x, y, z, u, v, a, t, q, q1, none]) ⟨s1, r0, r1, 2, x, y, z, u, none, none, none, none, none, ⟨hr0.1, hr1.1⟩, ⟨by rw [hr0.2]; exact Nat.zero_le _, by rw [hr1.2]; exact Nat.zero_le _⟩, Nat.le_refl _, S1.up (by omega), rfl⟩ (fun i σ H' hi ⟨s', r0, r1, n, x, y, z, u, v, a, t, q, q1, ⟨ok0, ok1⟩, ⟨g0, g1⟩, hn, S, eσ⟩ => ?_) fun σ H' ⟨s', r0, r1, n, x, y, z, u, v, a, t, q, q1, ⟨ok0, ok1⟩, ⟨g0, g1⟩, hn, S, eσ⟩ => ?_
      · subst eσ
        refine ⟨fun σ2 H2 => H' = H2 ∧ ∃ jj : Nat, (jj = 0 ∨ jj = 1) ∧ σ2 = [some (.ref hd), some (.ref c), some (.str (SX.S st)), some (.ref nl), some (.str (SX.S w)), some (.ref wl), some (.int (0 + (i : Int))), y, z, u, some (.int (jj : Int)), a, t, q, q1, none], ?_, fun σ2 H2 ⟨eH, jj, hjj, eσ⟩ => ?_⟩
        · have m1 := mod_lo (i := 0 + (i : Int)) (j := 2) (by decide)
          have m2 := mod_hi (i := 0 + (i : Int)) (j := 2) (by decide)
          obtain ⟨jj, hjj⟩ := Int.eq_ofNat_of_zero_le m1
          exact ⟨_, rfl, .inl ⟨_, rfl, _, _, rfl, rfl, (by decide : (0 : Int) < 2), rfl, jj, by omega, by rw [← hjj]; rfl⟩⟩
        subst eσ eH
        obtain ⟨as, hnl, hP⟩ := S.nl
        obtain ⟨ra, li, hra, okr, hga, hat, hli, hdr, hfb, hput⟩ : ∃ (ra : Rec) (li : List Nat), [r0, r1][jj]? = some ra ∧ ra.Ok ∧ ra.gl.length ≤ i ∧ atI (txs [w, w ++ [122]]) (jj : Int) = some (.str (SX.S li)) ∧ (1 ≤ li.length ∧ li.length ≤ 8 ∧ ∀ ch ∈ li, ch ∈ sml) ∧ li ≠ wDrop ∧ (∃ m, findB (bsOf w [r0, r1]) li = some (m, ra)) ∧ ∀ r, ∃ r0' r1', putB (bsOf w [r0, r1]) li r = bsOf w [r0', r1'] ∧ [r0, r1].set jj r = [r0', r1'] := by
          rcases hjj with rfl | rfl
          · exact ⟨r0, w, rfl, ok0, g0, rfl, ⟨hw.1.1, by have := hw.1.2; omega, hw.2.1⟩, hw.2.2.1, ⟨_, find0 w r0 r1⟩, fun r => ⟨r, r1, put2 w r0 r1 r, rfl⟩⟩
          · exact ⟨r1, w ++ [122], rfl, ok1, g1, rfl, ⟨by rw [List.length_append]; show 1 ≤ w.length + 1; omega, by rw [List.length_append]; show w.length + 1 ≤ 8; have := hw.1.2; omega, fun ch hch => by
              rcases List.mem_append.mp hch with hch | hch
              · exact hw.2.1 ch hch
              · rw [List.mem_singleton.mp hch]; decide⟩, hw.2.2.2, ⟨_, find1 w r0 r1⟩, fun r => ⟨r0, r, put3 w r0 r1 r, rfl⟩⟩
        obtain ⟨ar, har, RA⟩ := pair_at hP hra
        have har2 : (as.map V.ref)[jj]? = some (.ref ar) := by rw [List.getElem?_map, har]; rfl
        refine ⟨_, rfl, _, rfl, _, rfl, _, _, _, _, rfl, rfl, SqL.of hnl, atI_nat har2, _, rfl, hd, ar, _, ra, st, rfl, S.h, by omega, RA, okr, hst0, by omega, hsta, fun gv tg wg H7 e7 h7 hgv htg hwg hrg => ?_⟩
        have S7 := S.hand e7 h7
        have s7 := s'.hand e7
        obtain ⟨d, pa, gs, gl, har7, R⟩ := RA.ext (S.h.sabT e7)
        obtain ⟨gas, hgt, hgp⟩ := R.gl
        have hnl7 := e7 _ _ (S.h.neR hnl) hnl
        have hP7 := Paired.recs (S.h.sabT e7) hP
        have hgl := pair_len hgp
        refine ⟨_, rfl, _, rfl, _, _, _, _, rfl, rfl, SqL.of hnl7, atI_nat har2, _, rfl, sl6 har7 fun p6 H8 e8 hp6 => ?_⟩
        refine ⟨_, rfl, _, rfl, _, _, _, _, rfl, rfl, SqL.of (e8 _ _ hnl7), atI_nat har2, _, _, 6, _, rfl, rfl, SqT.of (e8 _ _ har7), atI_nat (j := 6) rfl, _, rfl, lnk, fun u1 nu1 => ?_⟩
        have e9 := e8.trans (same_new (o := .tup [V.ref gv]) nu1)
        refine catQ (hgt.ext (.of e9)) (.inl upd_same) ?_ fun q2 H10 e10 hq2 => ⟨lnk, fun u2 nu2 => ?_⟩
        · rw [List.length_map, hgl]
          exact Nat.le_of_lt (small (by show ra.gl.length + 1 < _; omega))
        have e11 := e10.trans (same_new (o := .tup [V.ref q2]) nu2)
        have e81 := (same_new (o := .tup [V.ref gv]) nu1).trans e11
        refine ⟨_, _, _, _, rfl, rfl, SqT.of (e81 _ _ hp6), SqT.of upd_same, by show 7 ≤ sizeLine; decide, fun hx => absurd hx (by intro z; cases z), fun _ hy => absurd hy (by intro z; cases z), fun _ _ nr nnr => ?_⟩
        have eX := e9.trans (e11.trans (same_new (o := .tup ([V.int (ra.W : Int), .ref d, .int (ra.lo : Int), .int (ra.hi : Int), .ref pa, .ref gs] ++ [V.ref q2])) nnr))
        have eXq := (same_new (o := .tup [V.ref q2]) nu2).trans (same_new (o := .tup ([V.int (ra.W : Int), .ref d, .int (ra.lo : Int), .int (ra.hi : Int), .ref pa, .ref gs] ++ [V.ref q2])) nnr)
        have RX : RecT K (upd (upd H10 u2 (.tup [V.ref q2])) nr (.tup ([V.int (ra.W : Int), .ref d, .int (ra.lo : Int), .int (ra.hi : Int), .ref pa, .ref gs] ++ [V.ref q2]))) nr (gl1 ra tg wg) := rec_more (u := nr) (R.ext (.of eX)) (hgt.ext (.of eX)) (Paired.imp hgp fun _ _ z => z.ext (.of eX)) (eX _ _ hgv) (hq2.ext (.of eXq)) upd_same
        have S8 := S7.same eX
        have hnl8 := eX _ _ hnl7
        have hP8 := Paired.recs (.of eX) hP7
        have hgv8 := eX _ _ hgv
        have s8 := s7.same eX
        generalize upd (upd H10 u2 (.tup [V.ref q2])) nr (.tup ([V.int (ra.W : Int), .ref d, .int (ra.lo : Int), .int (ra.hi : Int), .ref pa, .ref gs] ++ [V.ref q2])) = H12 at RX S8 hnl8 hP8 hgv8 s8
        refine ⟨_, rfl, _, rfl, _, _, _, jj, rfl, rfl, hnl8, ixN_n (List.getElem?_eq_some_iff.mp har2).1, ?_⟩
        obtain ⟨r0', r1', hputB, hset⟩ := hput (gl1 ra tg wg)
        have S9 : CS K (upd H12 nl (.lst ((as.map V.ref).set jj (.ref nr)))) hd c b nl wl w [r0, r1] [r0', r1'] n (200 + 100 * (i : Int) + 60) := by
          have := S8.notes (pair_set hP8 (i := jj) RX)
          rw [hset, List.map_set] at this
          exact this
        have hgv9 := (NoL.put (ys := (as.map V.ref).set jj (.ref nr)) hnl8).sT _ _ hgv8
        have s9 := s8.put (o := .lst ((as.map V.ref).set jj (.ref nr))) nnlH
        generalize upd H12 nl (.lst ((as.map V.ref).set jj (.ref nr))) = H13 at S9 hgv9 s9
        have okn := gl1_ok okr (by omega) htg hwg hrg
        have lt1 := iS_ln tg (by omega)
        have hw8 := okr.w8
        refine ⟨_, rfl, _, rfl, _, _, _, _, rfl, rfl, SqL.of S9.wl, hat, _, _, rfl, rfl, sz2 (by omega) _ (by decide), _, rfl, _, _, 0, _, rfl, rfl, SqT.of hgv9, atI_nat (j := 0) rfl, _, rfl, log_small (by omega), _, _, rfl, rfl, ?_, _, _, rfl, rfl, ?_, _, rfl, _, _, 1, _, rfl, rfl, SqT.of hgv9, atI_nat (j := 1) rfl, _, _, rfl, rfl, ?_, ?_⟩
        · rw [len_cat, iS_eq, S_ln li, S_ln (iS tg)]
          have : (Str.ofString " sees ").length = 6 := rfl
          exact Nat.le_of_lt (small (by omega))
        · rw [len_cat, len_cat, iS_eq, S_ln li, S_ln (iS tg)]
          have h1 : (Str.ofString " sees ").length = 6 := rfl
          have h2 : (Str.ofString " ").length = 1 := rfl
          exact Nat.le_of_lt (small (by omega))
        · rw [len_cat, len_cat, len_cat, iS_eq, S_ln li, S_ln (iS tg), S_ln wg]
          have h1 : (Str.ofString " sees ").length = 6 := rfl
          have h2 : (Str.ofString " ").length = 1 := rfl
          exact Nat.le_of_lt (small (by omega))
        rw [say_sees li tg wg]
        obtain ⟨cdx3, hc13⟩ := id S9.co
        obtain ⟨mm, hfb⟩ := hfb
        refine ⟨_, rfl, c, cdx3, _, rfl, hc13, rfl, _, rfl, c, b, [li, wSees, iS tg, wg], rfl, li, bsOf w [r0, r1], n, S9.co, S9.bo, hli, hdr, by omega, (by show 2 ≤ 50; decide), .inl ⟨mm, ra, hfb, okr, .inr (.inr (.inr (.inr ⟨tg, wg, rfl, htg, hwg, hrg, by omega, fun H14 e14 B14 => ?_⟩)))⟩⟩
        rw [hputB] at B14
        obtain ⟨bdx, rd, md, pd, es, BB, _⟩ := id S9.bo
        have S14 := S9.book (SabT.of e14) (tabsSab S9.tb BB.o e14) B14
        have s14 := s9.own nbH (SabT.of e14)
        obtain ⟨as14, hnl14, hP14⟩ := S14.nl
        have hjx : [r0', r1'][jj]? = some (gl1 ra tg wg) := by
          rw [← hset]
          rcases hjj with rfl | rfl
          · rfl
          · rfl
        obtain ⟨a14, ha14, R14⟩ := pair_at hP14 hjx
        have ha14' : (as14.map V.ref)[jj]? = some (.ref a14) := by rw [List.getElem?_map, ha14]; rfl
        refine ⟨_, rfl, _, rfl, _, _, _, _, rfl, rfl, SqL.of hnl14, atI_nat ha14', a14, _, rfl, R14, okn, fun pb H15 e15 hpb => ?_⟩
        obtain ⟨pas, hpas, hpP⟩ := hpb
        have hpl : (pas.map V.ref).length = (gl1 ra tg wg).Ls.length := by rw [List.length_map, pair_len hpP]
        have hLl := Ls_len okn
        refine ⟨_, _, rfl, .inl (SqL.of hpas), _, rfl, ?_⟩
        rw [hpl, iS_eq]
        refine ⟨log_small (by omega), rfl, _, rfl, iteDN rfl ?_⟩
        have S15 := S14.same e15
        have s15 := s14.same e15
        have hoks : (r0'.Ok ∧ r1'.Ok) ∧ (r0'.gl.length ≤ i + 1 ∧ r1'.gl.length ≤ i + 1) := by
          have hgn : (gl1 ra tg wg).gl.length ≤ i + 1 := by
            show (ra.gl ++ [(tg, wg)]).length ≤ i + 1
            rw [List.length_append]
            exact Nat.succ_le_succ hga
          rcases hjj with rfl | rfl
          · have h1 : [gl1 ra tg wg, r1] = [r0', r1'] := hset
            injection h1 with h1 h2
            injection h2 with h2 h3
            subst h1 h2
            exact ⟨⟨okn, ok1⟩, hgn, by omega⟩
          · have h1 : [r0, gl1 ra tg wg] = [r0', r1'] := hset
            injection h1 with h1 h2
            injection h2 with h2 h3
            subst h1 h2
            exact ⟨⟨ok0, okn⟩, by omega, hgn⟩
        obtain ⟨cdx4, hc15⟩ := id S15.co
        refine ⟨_, rfl, _, _, _, _, _, rfl, hc15, T.c_Console, T.na_Console_book, rfl, b, w, r0', r1', n + 1, rfl, S15.bo, hoks.1.1, hoks.1.2, ⟨hw.1.2, hw.2.1⟩, by omega, fun H16 e16 => ?_⟩
        have S16 := S15.same e16
        have s16 := s15.same e16
        refine ⟨_, rfl, hd, _, rfl, S16.h, by omega, fun tm H17 e17 h17 htm => ⟨lnk, fun q3 nq3 => ?_⟩⟩
        have S17 := (S16.hand e17 h17).same (same_new (o := .tup [V.str (lookD w r0' r1' (n + 1)).shown, .int tm]) nq3)
        have s17 := (s16.hand e17).same (same_new (o := .tup [V.str (lookD w r0' r1' (n + 1)).shown, .int tm]) nq3)
        refine ⟨_, _, rfl, SqT.of upd_same, rfl, _, _, rfl, _, _, rfl, rfl, ?_⟩
        generalize upd H17 q3 (.tup [V.str (lookD w r0' r1' (n + 1)).shown, .int tm]) = H18 at S17 s17
        refine ⟨lnk, fun Lz nLz => ⟨_, rfl, ⟨_, SqL.of upd_same⟩, fun Dz nDz => ?_⟩⟩
        have S19 := S17.same (same_new (o := .lst [V.int 0, .int 1]) nLz)
        have s19 := s17.same (same_new (o := .lst [V.int 0, .int 1]) nLz)
        have hLz : (upd H18 Lz (.lst [V.int 0, .int 1])) Lz = some (.lst [V.int 0, .int 1]) := upd_same
        generalize upd H18 Lz (.lst [V.int 0, .int 1]) = H19 at S19 s19 hLz nDz
        refine lc_it (walk_list (xs := [.int 0, .int 1])) (fun m H2 => Same H19 H2 ∧ H2 Dz = some (.lst (List.replicate m (.bl true)))) ⟨same_new nDz, upd_same⟩ (fun m H2 _ hp => SqL.of (hp.1 _ _ hLz)) (fun m x H2 H3 hm ⟨e, hD⟩ ⟨e3, hv⟩ => ?_) fun H20 ⟨e20, hD20⟩ => ⟨_, [true, true], rfl, SqL.of hD20, true, rfl, iteF ?_⟩
        · subst e3
          have S20 := S19.same e
          obtain ⟨asz, hnlz, hPz⟩ := S20.nl
          obtain ⟨rz, lz, kz, hxz, hrz, okz, hatz, hlz, hdz, mz, hfz⟩ : ∃ (rz : Rec) (lz : List Nat) (kz : Nat), x = .int (kz : Int) ∧ [r0', r1'][kz]? = some rz ∧ rz.Ok ∧ atI (txs [w, w ++ [122]]) (kz : Int) = some (.str (SX.S lz)) ∧ (1 ≤ lz.length ∧ lz.length ≤ 8 ∧ ∀ ch ∈ lz, ch ∈ sml) ∧ lz ≠ wDrop ∧ ∃ m, findB (bsOf w [r0', r1']) lz = some (m, rz) := by
            have hm2 : m = 0 ∨ m = 1 := by have : m < 2 := hm; omega
            rcases hm2 with rfl | rfl
            · exact ⟨r0', w, 0, (Option.some.inj hv).symm, rfl, hoks.1.1, rfl, ⟨hw.1.1, by have := hw.1.2; omega, hw.2.1⟩, hw.2.2.1, _, find0 w r0' r1'⟩
            · exact ⟨r1', w ++ [122], 1, (Option.some.inj hv).symm, rfl, hoks.1.2, rfl, ⟨by rw [List.length_append]; show 1 ≤ w.length + 1; omega, by rw [List.length_append]; show w.length + 1 ≤ 8; have := hw.1.2; omega, fun ch hch => by
                rcases List.mem_append.mp hch with hch | hch
                · exact hw.2.1 ch hch
                · rw [List.mem_singleton.mp hch]; decide⟩, hw.2.2.2, _, find1 w r0' r1'⟩
          subst hxz
          obtain ⟨az, haz, Rz⟩ := pair_at hPz hrz
          have haz' : (asz.map V.ref)[kz]? = some (.ref az) := by rw [List.getElem?_map, haz]; rfl
          refine ⟨rfl, _, rfl, _, rfl, _, rfl, _, _, _, _, rfl, rfl, SqL.of S20.wl, hatz, _, rfl, _, rfl, _, _, _, _, rfl, rfl, SqL.of hnlz, atI_nat haz', _, rfl, c, b, az, lz, tm, bsOf w [r0', r1'], n + 1, mz, rz, rfl, S20.co, S20.bo, hlz, hdz, by omega, (by show 2 ≤ 50; decide), hfz, okz, Rz, htm, fun H4 e4 => ?_⟩
          exact allStep nDz (e.trans e4) (e4 _ _ hD) (by have : m < 2 := hm; omega) rfl
        have S20 := S19.same e20
        have s20 := s19.same e20
        obtain ⟨cdx5, hc20⟩ := id S20.co
        refine ⟨_, rfl, _, _, _, _, _, rfl, hc20, T.c_Console, T.na_Console_book, rfl, b, w, r0', r1', n + 1, rfl, S20.bo, hoks.1.1, hoks.1.2, ⟨hw.1.2, hw.2.1⟩, by omega, fun H21 e21 => ?_⟩
        generalize (lookD w r0' r1' (n + 1)).shown = sh
        generalize SX.S (TL.joinL [32] [li, wSees, iS tg, wg]) = ln
        refine ⟨_, rfl, rfl, _, rfl, iteDN rfl ?_⟩
        refine ⟨s20.same e21, r0', r1', n + 1, some (.int (0 + (i : Int))), y, z, u, some (.int (jj : Int)), some (.ref gv), some (.str ln), some (.str sh), some (.int tm), hoks.1, hoks.2, by omega, (S20.same e21).up (by omega), ?_⟩
        rfl
      · subst eσ
        exact hQ H' s' S.tb
end
end Gz
set_option maxHeartbeats 4000000
namespace Gz
open PySem PySem.Spec PyProof.Rows L2
section
variable {P : Program} {w : World} {K : PySem.W.Frag} {mg : Str → Option Value} {base : Heap}
theorem sqL_extN {K : PySem.W.Frag} {H H1 : Hp} {l : Addr} {xs : List V} (h : SqL K H l xs) (e : LamX.ExtN H H1) : SqL K H1 l xs := by
  rcases h with h | h
  · refine .inl ?_
    rcases h with h | ⟨o, h⟩
    · exact .inl (e _ _ h fun ps z => by cases z)
    · exact .inr ⟨o, e _ _ h fun ps z => by cases z⟩
  · exact .inr h
theorem tabs_nil {K : PySem.W.Frag} {H : Hp} (h : H (Cd K).2 = some (.tbl #[])) : LamX.Tabs (TB K) H := fun p hp => by
  rw [List.mem_singleton.mp hp]
  exact LamX.TabS.nil h
abbrev N_law : List Str := ["_law_script", "_law_place"]
def sp_law (K : PySem.W.Frag) : Sp := fun vs H Q _ => ∃ (l : Addr) (ns : List Int), vs = [.ref l] ∧ SqL K H l (ns.map V.int) ∧ ns.length ≤ 63 ∧ LamX.Tabs (TB K) H ∧ ∀ H1, Q (.bl true) H1
theorem fn_law (T : Tx K mg base) {fd : FuncData} (F : FunD K "law" "law" (defArgs s_law) (defBody s_law) (defScope s_law) [] [] (He.ga K "law") fd) : FnOkG P w K mg base C8.CX0 16 (He.ga K "law") fd ["_law_script"] (sp_law K) := by
  refine okG F sc_law (fun vs H Q E h => ?_) (fun cdv A outer s H vs Q E hgd hr h => ?_)
  · obtain ⟨_, _, rfl, _⟩ := h
    rfl
  · refine ⟨_, PSs.nox (pss_one (ps_ret (pe_callB (cr_allK (K := K) rfl rfl) (by rfl) T.f_all bt_all (pa_cons (pe_lc (own := [("_law_place", 1)]) rfl sc_law.nd (pi_range1 (by rfl) T.f_range (pa_cons (pe_callB (call_max2 rfl) (by rfl) T.f_max bt_max (pa_cons pe_int (pa_cons (pe_callB (call_min2 rfl) (by rfl) T.f_min bt_min (pa_cons (pe_callB (call_lenK (K := K) rfl) (by rfl) T.f_len bt_len (pa_cons (pv 0) pa_nil)) (pa_cons pe_int pa_nil))) pa_nil))) pa_nil)) (blkOk_by (own := [("_law_place", 1)]) (N := N_law) (sc := defScope s_law) (by decide +kernel)) (fun _ _ _ _ _ => (pg_name (i := 1) sc_law.nd rfl locV)) (fun _ _ _ _ _ => pts_nil) (fun _ _ _ _ _ => (pe_cG (cal__law_case T) hgd hr (by decide) (by rfl) (pa_cons (C8.pe_c (cal__law_deal T) hr (by decide) (by rfl) (pa_cons (C8.pe_c (cal__law_cell T) hr (by decide) (by rfl) (pa_cons (pv 0) (pa_cons (pv 1) pa_nil))) pa_nil)) pa_nil)))) pa_nil)))), ?_⟩
    obtain ⟨l, ns, rfl, hS, hl, hT, hQ⟩ := h
    refine ⟨_, rfl, _, _, rfl, .inl hS, _, _, rfl, _, _, rfl, ?_⟩
    refine ⟨_, rfl, ?_⟩
    have hm : ∀ L : Int, 0 ≤ (if (if (3 : Int) < L then 3 else L) > 2 then (if (3 : Int) < L then 3 else L) else 2) ∧ (if (if (3 : Int) < L then 3 else L) > 2 then (if (3 : Int) < L then 3 else L) else 2) ≤ 3 := fun L => by
      constructor <;> (split <;> (try split) <;> omega)
    have hz3 := hm ((ns.map V.int).length : Int)
    generalize (if (if (3 : Int) < ((ns.map V.int).length : Int) then 3 else ((ns.map V.int).length : Int)) > 2 then (if (3 : Int) < ((ns.map V.int).length : Int) then 3 else ((ns.map V.int).length : Int)) else 2) = z at hz3 ⊢
    obtain ⟨n2, rfl⟩ := Int.eq_ofNat_of_zero_le hz3.1
    refine ⟨by omega, by omega, fun D nD => lc_it (walk_range (n := n2)) (fun i H2 => LamX.ExtN H H2 ∧ LamX.Tabs (TB K) H2 ∧ H2 D = some (.lst (List.replicate i (.bl true)))) ⟨.of (same_new nD), hT.ext (same_new nD), upd_same⟩ (fun i H2 _ hp => trivial) (fun i x H2 H3 hi ⟨e, t2, hD⟩ ⟨e3, hv⟩ => ?_) fun H2 ⟨e, t2, hD⟩ => ?_⟩
    · subst e3 hv
      refine ⟨rfl, _, rfl, _, rfl, l, ns, i, congrArg (fun z => [V.ref l, V.int z]) (Int.zero_add _), sqL_extN hS e, by omega, fun z H4 e4 => ⟨z, rfl, fun p H5 np e5 h5 => ⟨p, rfl, h5, t2.ext (e4.trans e5), fun H6 e6 t6 => ?_⟩⟩⟩
      have hD4 := e4 _ _ hD
      have hD6 := e6 _ _ (ne_of_none hD4 np) (e5 _ _ hD4) (by intro qs z; cases z)
      refine ⟨_, hD6, by rw [List.length_replicate]; exact small (by omega), fun a o ha hn => ?_, tabs_noL t6 (NoL.put hD6), by rw [upd_same, rep_snoc]⟩
      rw [upd_ne (ne_of_none ha nD)]
      have h4 := e4 _ _ (e _ _ ha hn)
      exact e6 _ _ (ne_of_none h4 np) (e5 _ _ h4) hn
    · exact allT hD (hQ _)
end
end Gz
set_option maxHeartbeats 2000000
/-! The law's end: one table, no guard beneath. -/
namespace Gz
open PySem PySem.Spec PyProof.Rows L2
section
variable {P : Program} {w : World} {K : PySem.W.Frag} {mg mb : Str → Option Value} {CX : CXT} {k : Nat} {fa a c p : Addr} {fd : FuncData} {x : Str} {sp : Sp} {s1 : Shared} {vs : List Value} {ns : List Int}
/-- what the outermost caller asks of a heap H: the script may be in it, and the table -/
structure Out (P : Program) (w : World) (K : PySem.W.Frag) (H : Hp) (h : Heap) (a p : Addr) (ns : List Int) : Prop where
  tb : H p = some (.tbl #[])
  few : ∀ b, H b = none ∨ b = p ∨ ∃ o xs, H b = some (.frz o (.lst xs))
  sc : SqL K H a (ns.map V.int)
  ok : HOk P w H h
  two : ∀ b, H b ≠ none → b = a ∨ b = p
  out : H a ≠ none → K.lookup a = none
theorem out_made (ha : s1.heap.get? a = some { cls := .type "list", data := .seq vs.toArray }) (hi : IntsAre vs ns) (hl : ns.length ≤ sizeLine) (KX : K.In s1.heap) (hT : s1.heap.get? p = some { cls := .none, data := .fields #[] }) :
    ∃ H, Out P w K H s1.heap a p ns := by
  have rv := vals_ints hi
  have lenV := hi.length
  have ap : a ≠ p := fun z => by
    rw [z, hT] at ha
    have q := congrArg Obj.data (Option.some.inj ha)
    cases q
  cases hk : K.lookup a with
  | some o =>
    have e := KX a o hk
    rw [ha] at e
    cases e
    refine ⟨fun b => if b = p then some (.tbl #[]) else none, if_pos rfl, fun b => ?_, .inr ⟨_, vs.toArray, _, hk, rfl, rfl, rfl, ?_, by simpa using rv⟩, fun b u z => ?_, fun b z => ?_, fun z => absurd (if_neg ap) z⟩
    · by_cases hb : b = p
      · exact .inr (.inl hb)
      · exact .inl (if_neg hb)
    · rw [List.size_toArray, lenV]
      exact hl
    · by_cases hb : b = p
      · rw [show (if b = p then some (HO.tbl #[]) else none) = some (HO.tbl #[]) from if_pos hb] at z
        cases z
        rw [hb]
        exact hT
      · rw [show (if b = p then some (HO.tbl #[]) else none) = none from if_neg hb] at z
        cases z
    · by_cases hb : b = p
      · exact .inr hb
      · exact absurd (if_neg hb) z
  | none =>
    let S : HO := .frz { cls := .type "list", data := .seq vs.toArray } (.lst (ns.map V.int))
    let H : Hp := fun b => if b = a then some S else if b = p then some (.tbl #[]) else none
    have Ha : H a = some S := if_pos rfl
    have Hp' : H p = some (.tbl #[]) := (if_neg (fun z => ap z.symm)).trans (if_pos rfl)
    have Hn : ∀ b, b ≠ a → b ≠ p → H b = none := fun b h1 h2 => (if_neg h1).trans (if_neg h2)
    refine ⟨H, Hp', fun b => ?_, .inl (.inr ⟨_, Ha⟩), fun b u z => ?_, fun b z => ?_, fun _ => hk⟩
    · by_cases h1 : b = a
      · exact .inr (.inr ⟨_, _, by rw [h1]; exact Ha⟩)
      · by_cases h2 : b = p
        · exact .inr (.inl h2)
        · exact .inl (Hn b h1 h2)
    · by_cases h1 : b = a
      · rw [h1, Ha] at z
        cases z
        rw [h1]
        exact ⟨ha, by rw [List.length_map]; exact hl, vs, _, rv, ha⟩
      · by_cases h2 : b = p
        · rw [h2, Hp'] at z
          cases z
          rw [h2]
          exact hT
        · rw [Hn b h1 h2] at z
          cases z
    · by_cases h1 : b = a
      · exact .inl h1
      · by_cases h2 : b = p
        · exact .inr h2
        · exact absurd (Hn b h1 h2) z
/-- the outermost call of the law -/
theorem law_callG (KX : K.In s1.heap) (hns : s1.heap.Ns mainGlobals mg) (hb : s1.heap.Ns builtinsNs mb) (hbb : ∀ x : Str, x ≠ "__name__" → mb x = bootBuiltins x) (hlim : s1.heap.NoLimit) (hg : s1.gens = #[])
    (hT : s1.heap.get? p = some { cls := .none, data := .fields #[] }) (nT : K.lookup p = none) (C : PySem.W.CodeHd s1.heap c p)
    (hbm : ∃ (bm : Addr) (ob : Obj), mg "__builtins__" = some (.ref bm) ∧ bm ≠ builtinsNs ∧ s1.heap.get? bm = some ob ∧ ob.cls = .type "module" ∧ ob.dict = some builtinsNs ∧ ob.data = .plain)
    (ha : s1.heap.get? a = some { cls := .type "list", data := .seq vs.toArray }) (hi : IntsAre vs ns) (hl : ns.length ≤ sizeLine) (hr : Room k callerA)
    (F : ∀ base : Heap, K.In base → base.Ns mainGlobals mg → LamX.TabB base mg c p → FnOkG P w K mg base CX k fa fd [x] sp) (hbind : ∀ (s : Shared) (u : Value), BindsTo s fd ⟨[u], []⟩ [(x, u)])
    (hsp : ∀ H : Hp, H p = some (.tbl #[]) → SqL K H a (ns.map V.int) → sp [.ref a] H (fun v _ => v = .bl true) fun _ _ _ => False)
    (hCX : ∀ H e s', CX [] H s1 (fun _ _ _ => False) e s' → False) :
    codeAny (model P w) callerA (.call (.ref fa) ⟨[.ref a], []⟩) (fun r s' => r = .ok (.ret (.bool true)) ∧ OldK s1.heap s'.heap ∧ s'.os = s1.os ∧ AllBare s'.gens) s1 := by
  obtain ⟨H, O⟩ := out_made (P := P) (w := w) ha hi hl KX hT
  have off : ∀ {b : Addr} {o : Obj}, s1.heap.get? b = some o → (∀ us n, o.data ≠ .seq us n) → o.data ≠ .fields #[] → H b = none := fun {b o} e h1 h2 => by
    cases q : H b with
    | none => rfl
    | some u =>
      exfalso
      rcases O.two b (fun z => by rw [q] at z; cases z) with z | z
      · rw [z, ha] at e
        cases e
        exact h1 _ _ rfl
      · rw [z, hT] at e
        cases e
        exact h2 rfl
  have seen : ∀ {b : Addr} {o : Obj}, s1.heap.get? b = some o → (∀ us n, o.data ≠ .seq us n) → o.data ≠ .fields #[] → (hidT s1.heap H).get? b = some o := fun e h1 h2 => hidT_get e (off e h1 h2)
  have dicts : ∀ {b : Addr} {m : Str → Option Value}, s1.heap.Ns b m → (hidT s1.heap H).Ns b m := fun {b m} ⟨o, es, ep, e, d, r⟩ => by
    refine ⟨o, es, ep, seen e (fun us n z => ?_) (fun z => ?_), d, r⟩
    · rw [d] at z
      cases z
    · rw [d] at z
      cases z
  have hKb : K.In (hidT s1.heap H) := fun b o e => by
    refine hidT_get (KX b o e) ?_
    cases q : H b with
    | none => rfl
    | some u =>
      exfalso
      have q2 : H b ≠ none := fun z => by rw [q] at z; cases z
      rcases O.two b q2 with z | z
      · rw [z] at q2 e
        rw [O.out q2] at e
        cases e
      · rw [z, nT] at e
        cases e
  have hM : L2.Mod K mg (hidT s1.heap H) := ⟨hKb, dicts hns, ⟨mb, dicts hb, hbb⟩, let ⟨mc, h1, h2⟩ := hlim; ⟨mc, dicts h1, h2⟩⟩
  have TB : LamX.TabB (hidT s1.heap H) mg c p := by
    refine ⟨?_, ?_, fun z => ?_⟩
    · obtain ⟨o, us, file, tf, flags, tg, inF, text, tt, e1, r1, r2, r3, r⟩ := C
      refine ⟨o, us, file, tf, flags, tg, inF, text, tt, seen e1 (fun vs n z => ?_) (fun z => ?_), r1, r2, r3, r⟩
      · rw [r2] at z
        cases z
      · rw [r2] at z
        cases z
        simp at r3
    · obtain ⟨bm, ob, b1, b2, b3, b4, b5, b6⟩ := hbm
      refine ⟨bm, ob, b1, b2, fun q => ?_, fun q => ?_, seen b3 (fun vs n z => ?_) (fun z => ?_), b4, b5, b6⟩
      · obtain ⟨o, es, ep, e, hd, _⟩ := hns
        rw [q, e] at b3
        cases b3
        rw [hd] at b6
        cases b6
      · rw [q, hT] at b3
        cases b3
        cases b6
      · rw [b6] at z
        cases z
      · rw [b6] at z
        cases z
    · obtain ⟨o, es, ep, e, hd, _⟩ := hns
      rw [z, hT] at e
      cases e
      cases hd
  have e0 : Env0 P w K mg (hidT s1.heap H) callerA [] s1 H := ⟨rfl, hM, fun b o e => of_hidT e, Nat.le_of_eq (hidT_size _ _), trivial, fun b hb => absurd (show b ∈ ([] : List Addr) from hb) (by simp), O.ok, .of_eq hg⟩
  refine codeAny_mono ((F _ hKb (dicts hns) TB).run callerA [] s1 H ⟨[.ref a], []⟩ [.ref a] [.ref a] _ _ rfl hr e0 (hbind s1 (.ref a)) (.cons rfl .nil) (hsp H O.tb O.sc)) fun r s' h => ?_
  cases r with
  | error e => exact (hCX H e s' h).elim
  | ok fl =>
    cases fl with
    | next => exact False.elim h
    | brk => exact False.elim h
    | cont => exact False.elim h
    | ret u =>
      obtain ⟨v, H', os, bare, un, hok', r', q⟩ := h
      have q' : v = .bl true := q
      subst q'
      obtain rfl : u = Value.bool true := r'
      have stay : ∀ b o, b ≠ p → s1.heap.get? b = some o → s'.heap.get? b = some o := fun b o nb e => by
        rcases O.few b with z | z | ⟨ob, xs, z⟩
        · exact un.keep b o e z (by intro y; exact absurd (show b ∈ ([] : List Addr) from y) (by simp)) (by simp)
        · exact absurd z nb
        · obtain ⟨e1, _⟩ := O.ok b _ z
          obtain ⟨e2, _⟩ := hok' b _ (un.frzs b ob _ z)
          rw [e] at e1
          cases e1
          exact e2
      obtain ⟨more, hm⟩ : ∃ more : Array Value, s'.heap.get? p = some { cls := .none, data := .fields more } := by
        obtain ⟨more, z⟩ := un.tbls p #[] O.tb
        exact ⟨_, hok' p _ z⟩
      refine ⟨rfl, ⟨fun b o e => ?_, fun b o e => ?_⟩, os, bare⟩
      · by_cases hb : b = p
        · rw [hb] at e ⊢
          rw [hT] at e
          cases e
          exact .inr (.inl ⟨(C.tab hT).isCodeTable, rfl, #[], more, rfl, by rw [Array.empty_append]; exact hm⟩)
        · exact .inl (stay b o hb e)
      · by_cases hb : b = p
        · rw [hb]
          exact ⟨_, hm⟩
        · exact ⟨o, stay b o hb e⟩
end
/-- the end by a Hook -/
theorem walk_G {l : PySem.W.OpenLaw} {n k : Nat} {q : Program} {loose : List Str} {XP : (Str → Option Value) → Heap → Prop} {YP : World → Heap → Prop} {d : DefRec} {CX : CXT} {x : Str}
    (hn : l.most = some n) (hn2 : n ≤ sizeLine) (hdf : d.params.defaults = []) (hr : Room k callerA)
    (F : ∀ (w : World) (mg : Str → Option Value) (fa : Addr) (h : Heap), YP w h → h.Ns mainGlobals mg → mg d.name = some (.ref fa) →
      ∃ (K : PySem.W.Frag) (fd : FuncData) (c p : Addr) (sp : Sp), K.In h ∧ h.get? p = some { cls := .none, data := .fields #[] } ∧ K.lookup p = none ∧ PySem.W.CodeHd h c p ∧ (∀ (s : Shared) (u : Value), BindsTo s fd ⟨[u], []⟩ [(x, u)]) ∧
        (∀ (H : Hp) (a : Addr) (ns : List Int), ns.length ≤ n → H p = some (.tbl #[]) → SqL K H a (ns.map V.int) → sp [.ref a] H (fun v _ => v = .bl true) fun _ _ _ => False) ∧
        ∀ base : Heap, K.In base → base.Ns mainGlobals mg → LamX.TabB base mg c p → FnOkG l.prog w K mg base CX k fa fd [x] sp)
    (hCX : ∀ (H : Hp) (s : Shared) (e : Value) (s' : Shared), CX [] H s (fun _ _ _ => False) e s' → False) :
    PySem.W.WalkO q loose XP YP l.row.toRowW d [] (fun f vs => PySem.call f vs) := by
  refine Att.attach_callB hn hdf fun w s0 s1 mg mb fa o pm cd doc a vs ns G Y ho hd hcd hmg hobj hints hlen hbits hg => ?_
  obtain ⟨K, fd, c, p, sp, KX, hT, nT, C, hb, hsp, hF⟩ := F w mg fa _ Y G.T.g hmg
  exact law_callG KX G.T.g G.T.b G.T.builtins G.T.nolimit hg hT nT C G.T.bmain hobj hints (Nat.le_trans hlen hn2) hr hF hb (fun H hH hS => hsp H a ns hlen hH hS) fun H e s' => hCX H s1 e s'
end Gz
set_option maxHeartbeats 0
/-! The law is kept. -/
namespace Gz
open PySem PySem.W PySem.Calls PyProof.Rows
theorem facts {P : Program} {w : World} {mg : PySem.Str → Option Value} {fa : Addr} {h : Heap} {K : PySem.W.Frag} (X : K.In h) (G : h.Ns mainGlobals mg) (hfa : mg ("law" : PySem.Str) = some (.ref fa)) (c : Says h K) :
    ∃ (fd : FuncData), (∀ (s : Shared) (u : Value), BindsTo s fd ⟨[u], []⟩ [("_law_script", u)]) ∧ ∀ base : Heap, K.In base → base.Ns mainGlobals mg → LamX.TabB base mg (Cd K).1 (Cd K).2 → FnOkG P w K mg base C8.CX0 16 fa fd ["_law_script"] (sp_law K) := by
  obtain ⟨fd, F⟩ := c.d.def_ 62 (d := d_law) rfl
  have F1 : L2.FunD K "law" "law" (L2.defArgs s_law) (L2.defBody s_law) (L2.defScope s_law) [] [] (He.ga K "law") fd := F
  have e := hfa.symm.trans (He.glo_ok X G (c.d.fact 62 (f := .glo "law") rfl))
  cases e
  have b := L2.FunD.bindsA (ps := ["_law_script"]) F1 fun _ _ _ _ _ _ us hl => match us, hl with | [_], _ => rfl
  exact ⟨fd, fun s v => b s [v] rfl, fun base hk hn ht => fn_law ⟨hk, hn, c.d, c.ex, c.g, c.gk, ht⟩ F1⟩
end Gz
open PySem PySem.W PySem.Calls PyProof.Rows
theorem PySem.Challenge.cw_glimpserounds_k80_whole_lines_that_ask_holds : PySem.Challenge.rw_glimpserounds_k80_whole_lines_that_ask.Holds := by
  w_on; o_law
  refine HandSHeadRun.head_any (r := Gz.R) (q := Gz.qv) (H := Gz.hookG) (ob := Gz.ob) (M := 20000) (loose := Gz.names) (d := HandSHeadRun.topDef Gz.R.prog 133) (kwd := []) Gz.ob_eq
    (by kernel_rfl) (fun s => by kernel_rfl) Gz.run (by kernel_rfl) (by kernel_rfl) (by kernel_rfl) (by rfl) (by first | assumption | decide +kernel) (by decide +kernel) ⟨rfl, rfl, rfl, rfl, rfl, by decide +kernel⟩ ?hw ?hc
  case hw => w_witness2
  case hc =>
    refine Gz.walk_G (l := PySem.Challenge.rw_glimpserounds_k80_whole_lines_that_ask) (n := 63) (k := 16) (x := "_law_script") (CX := C8.CX0) rfl (by decide) (by kernel_rfl) ⟨rfl, by decide, by decide⟩ ?F (fun _ _ _ _ z => z)
    intro w mg fa h Y G hmg0
    obtain ⟨K, KX, c⟩ := Y
    have hmg : mg ("law" : PySem.Str) = some (.ref fa) := by
      have e : (HandSHeadRun.topDef Gz.R.prog 133).name = ("law" : PySem.Str) := by kernel_rfl
      rw [← e]
      exact hmg0
    obtain ⟨fd, hb, hF⟩ := Gz.facts (P := (PySem.Challenge.rw_glimpserounds_k80_whole_lines_that_ask).prog) (w := w) KX G hmg c
    have hm : (("check_dead", none) : He.Defn) ∈ Gz.tf := List.mem_cons_self
    exact ⟨K, fd, (Gz.Cd K).1, (Gz.Cd K).2, Gz.sp_law K, KX, c.empty _ hm, c.out _ hm, PySem.W.codeHd_of_K KX (c.hd _ hm), hb, fun H a ns hl hp hS => ⟨a, ns, rfl, hS, hl, Gz.tabs_nil hp, fun _ => rfl⟩, hF⟩
