import PyProof.Rows.All
import Wide.All
import OpenK.AllK
import Wide.FinOn
import Open.SpecLaws
import KE.OsHead
import KE.OsGo
import KE.KStateDown
import Lean
import KE.HD0
import KE.HD1
import KE.HD2
import KE.HD3
import KE.HD4
import HandS.ForSpec
import HandS.Defaults
import HandS.HeadHook1
import HandS.HeadHook2
import PySem.Challenge.RW_sheetpages_s01_answers
import PySi32
import HandS.Comp
import HandS.Dict
import HandS.WordsDict
import HandS.Iter
import HandS.NoneIn
import HandS.Evl
import KE.KEqSeq
set_option Elab.async false
set_option linter.all false
set_option maxRecDepth 100000
set_option maxHeartbeats 0
namespace ShH
open PySem PySem.Spec PyProof.Rows L2
def top (i : Nat) : Stmt := PySem.Challenge.pw_sheetpages_s01_answers.main.body.getD i (.Pass ⟨0, 0, 0, 0⟩)
/-! ### what the head tells -/
def dfn (i : Nat) (x : Str) : He.FnD := ⟨(x, none), x, x, defArgs (top i), defBody (top i), defScope (top i)⟩
def dme (i : Nat) (c q : Str) : He.FnD := ⟨(c, some "__init__"), "__init__", q, defArgs (inClass (top i) 0), defBody (inClass (top i) 0), defScope (inClass (top i) 0)⟩
def fn : List He.FnD := [dfn 17 "within",
  dfn 18 "space_of",
  dfn 19 "is_span",
  dfn 20 "set_size",
  dfn 21 "set_paper",
  dfn 22 "set_areas",
  dfn 23 "set_titles",
  dfn 24 "set_breaks",
  dfn 25 "set_scale",
  dfn 26 "set_fit",
  dfn 27 "set_how",
  dfn 31 "sums_of",
  dfn 32 "again_span",
  dfn 33 "again_size",
  dfn 34 "has_room",
  dfn 35 "bands_of",
  dfn 36 "all_bands",
  dfn 37 "do_fit",
  dfn 38 "both_sums",
  dfn 39 "layout_of",
  dfn 40 "page_at",
  dfn 41 "number_in_area",
  dfn 42 "how_long",
  dfn 43 "start_of",
  dfn 44 "stands_at",
  dfn 45 "band_number",
  dfn 56 "marks_of",
  dfn 57 "digits_of",
  dfn 58 "bytes_of",
  dfn 59 "parts_told",
  dfn 67 "begun",
  dfn 68 "heads",
  dfn 69 "layout_now",
  dfn 70 "pages_told",
  dfn 71 "page_told",
  dfn 72 "pages_before",
  dfn 73 "has_cell",
  dfn 74 "cell_told",
  dfn 75 "where",
  dfn 76 "texts",
  dfn 77 "changed",
  dfn 78 "asked",
  dfn 79 "answered",
  dfn 80 "answers",
  dme 15 "Area" "Area.__init__",
  dme 16 "Settings" "Settings.__init__",
  dme 29 "Layout" "Layout.__init__",
  dme 30 "Page" "Page.__init__",
  dme 66 "Desk" "Desk.__init__"]
def fa : List He.Fa := [.glo "within",
  .glo "space_of",
  .glo "is_span",
  .glo "set_size",
  .glo "set_paper",
  .glo "set_areas",
  .glo "set_titles",
  .glo "set_breaks",
  .glo "set_scale",
  .glo "set_fit",
  .glo "set_how",
  .glo "sums_of",
  .glo "again_span",
  .glo "again_size",
  .glo "has_room",
  .glo "bands_of",
  .glo "all_bands",
  .glo "do_fit",
  .glo "both_sums",
  .glo "layout_of",
  .glo "page_at",
  .glo "number_in_area",
  .glo "how_long",
  .glo "start_of",
  .glo "stands_at",
  .glo "band_number",
  .glo "marks_of",
  .glo "digits_of",
  .glo "bytes_of",
  .glo "parts_told",
  .glo "begun",
  .glo "heads",
  .glo "layout_now",
  .glo "pages_told",
  .glo "page_told",
  .glo "pages_before",
  .glo "has_cell",
  .glo "cell_told",
  .glo "where",
  .glo "texts",
  .glo "changed",
  .glo "asked",
  .glo "answered",
  .glo "answers",
  .keep "within",
  .keep "space_of",
  .keep "is_span",
  .keep "set_size",
  .keep "set_paper",
  .keep "set_areas",
  .keep "set_titles",
  .keep "set_breaks",
  .keep "set_scale",
  .keep "set_fit",
  .keep "set_how",
  .keep "sums_of",
  .keep "again_span",
  .keep "again_size",
  .keep "has_room",
  .keep "bands_of",
  .keep "all_bands",
  .keep "do_fit",
  .keep "both_sums",
  .keep "layout_of",
  .keep "page_at",
  .keep "number_in_area",
  .keep "how_long",
  .keep "start_of",
  .keep "stands_at",
  .keep "band_number",
  .keep "marks_of",
  .keep "digits_of",
  .keep "bytes_of",
  .keep "parts_told",
  .keep "begun",
  .keep "heads",
  .keep "layout_now",
  .keep "pages_told",
  .keep "page_told",
  .keep "pages_before",
  .keep "has_cell",
  .keep "cell_told",
  .keep "where",
  .keep "texts",
  .keep "changed",
  .keep "asked",
  .keep "answered",
  .keep "answers",
  .glo "Area",
  .cls "Area",
  .mkr "Area",
  .meth "Area" "__init__",
  .glo "Settings",
  .cls "Settings",
  .mkr "Settings",
  .meth "Settings" "__init__",
  .glo "Layout",
  .cls "Layout",
  .mkr "Layout",
  .meth "Layout" "__init__",
  .glo "Page",
  .cls "Page",
  .mkr "Page",
  .meth "Page" "__init__",
  .glo "Desk",
  .cls "Desk",
  .mkr "Desk",
  .meth "Desk" "__init__",
  .noat "Area" "first",
  .noat "Area" "last",
  .noat "Settings" "sizes",
  .noat "Settings" "told",
  .noat "Settings" "paper",
  .noat "Settings" "ahead",
  .noat "Settings" "behind",
  .noat "Settings" "titles",
  .noat "Settings" "breaks",
  .noat "Settings" "middle",
  .noat "Settings" "areas",
  .noat "Settings" "scale",
  .noat "Settings" "fit",
  .noat "Settings" "over",
  .noat "Settings" "first",
  .noat "Settings" "head",
  .noat "Settings" "foot",
  .noat "Layout" "scale",
  .noat "Layout" "bands",
  .noat "Layout" "pages",
  .noat "Page" "area",
  .noat "Page" "numbers",
  .noat "Desk" "settings",
  .noat "Desk" "layout",
  .free "len",
  .free "range",
  .free "min",
  .free "sum",
  .int "MOST_SIZE" (10000),
  .int "MOST_SIZES" (200),
  .int "MOST_PAPER" (100000),
  .int "MOST_AREAS" (32),
  .int "MOST_BREAKS" (500),
  .int "LEAST_SCALE" (10),
  .int "FIRST_SCALE" (100),
  .int "MOST_SCALE" (400),
  .int "MOST_FIT" (1000),
  .int "FARTHEST" (1000000),
  .int "OUT_OF_RANGE" (-1),
  .int "TOO_MANY" (-5),
  .int "AND" (38),
  .int "MIDDLE" (67),
  .int "MINUS" (45),
  .int "PAGE" (-1),
  .int "PAGES" (-2),
  .int "AREA" (-3),
  .int "LONGEST" (255),
  .int "NOT_TOLD" (-3),
  .int "NO_PAGE" (-6),
  .int "HEADS" (9),
  .glo "MANY",
  .glo "FIRST_SIZES",
  .glo "WHOLES",
  .glo "LISTS",
  .glo "PARTS",
  .glo "NUMBERS"]
/-- a written dict of ints: its rows -/
def rowI (e : DictEntry) (k v : Int) : Bool := decide (e.hash = hashInt k) && (match e.key, e.val with
  | .int i _, .int j _ => decide (i = k) && decide (j = v)
  | _, _ => false)
def rowsI : List DictEntry → List (Int × Int) → Bool
  | [], [] => true
  | e :: es, (k, v) :: r => rowI e k v && rowsI es r
  | _, _ => false
def tabI (K : PySem.W.Frag) (x : Str) (kvs : List (Int × Int)) : Bool := match K.lookup (He.ga K x) with
  | some ⟨.type c, none, .dict es _, sl⟩ => decide (c = "dict") && (decide (sl = #[]) && (rowsI es.toList kvs && decide (¬ He.ga K x = sysModules)))
  | _ => false
def ex (K : PySem.W.Frag) : Bool := He.tupB K "MANY" [.int 4096, .int 256] && (He.tupB K "FIRST_SIZES" [.int 20, .int 64] && (He.tupB K "WHOLES" [.int 0, .int 4, .int 6, .int 0, .int 1, .int 1, .int 1, .int 2, .int 4, .int 0, .int 0, .int 1, .int 2, .int 1] && (He.tupB K "LISTS" [.int 0, .int 0, .int 0, .int 1, .int 1, .int 1, .int 0, .int 0, .int 0, .int 2, .int 0, .int 0, .int 0, .int 0] && (tabI K "PARTS" [(76, 0), (67, 1), (82, 2)] && (tabI K "NUMBERS" [(80, -1), (78, -2), (65, -3), (38, 38)])))))
abbrev Al : Type := Bool × List He.FnV
def obsS (K : PySem.W.Frag) : Al := (ex K && (He.obsE fa fn K).1, (He.obsE fa fn K).2)
def SaysS (K : PySem.W.Frag) : Prop := obsS K = (true, fn.map He.FnD.val)
def obsSG (n : Nat) (g : Addr → Option Obj) : Al := obsS (He.frG g (He.asG g n))
def hookS (n : Nat) : PySem.W.Hook where
  α := Al
  obs := fun s => obsSG n s.heap.get?
  val := fun _ => (true, fn.map He.FnD.val)
  says := fun _ h => ∃ K : PySem.W.Frag, K.In h ∧ SaysS K
  of := fun _ _ e => ⟨_, He.frG_in, e⟩
  keeps := fun _ _ _ ⟨K, hK, c⟩ k => ⟨K, PySem.W.Frag.In.keeps hK k, c⟩
/-! ### the run -/
abbrev R : PySem.W.OpenSpec := PySem.Challenge.rw_sheetpages_s01_answers
def nm0 : List Str := ["MANY", "FIRST_SIZES", "MOST_SIZE", "MOST_SIZES", "MOST_PAPER", "MOST_AREAS", "MOST_BREAKS", "LEAST_SCALE", "FIRST_SCALE", "MOST_SCALE", "MOST_FIT", "FARTHEST", "OUT_OF_RANGE", "TOO_MANY", "Area", "Settings", "within", "space_of", "is_span"]
def nm1 : List Str := ["set_size", "set_paper", "set_areas", "set_titles", "set_breaks", "set_scale", "set_fit", "set_how", "Layout", "Page", "sums_of", "again_span", "again_size", "has_room", "bands_of", "all_bands", "do_fit", "both_sums", "layout_of"]
def nm2 : List Str := ["page_at", "number_in_area", "how_long", "start_of", "stands_at", "band_number", "AND", "MIDDLE", "MINUS", "PAGE", "PAGES", "AREA", "LONGEST", "PARTS", "NUMBERS", "marks_of", "digits_of", "bytes_of", "parts_told"]
def nm3 : List Str := ["NOT_TOLD", "NO_PAGE", "WHOLES", "LISTS", "HEADS", "Desk", "begun", "heads", "layout_now", "pages_told", "page_told", "pages_before", "has_cell", "cell_told", "where", "texts", "changed", "asked", "answered"]
def names : List Str := nm0 ++ nm1 ++ nm2 ++ nm3
abbrev qv : Program := PySem.W.view R.prog [80]
abbrev hk : PySem.W.Hook := hookS 5
def ob (s : PySem.W.SharedT) : Al := obsSG 5 (HeadRun.getT s)
theorem ob_eq (s : PySem.W.SharedT) : ob s = hk.obs s.abs := by
  have e : HeadRun.getT s = s.abs.heap.get? := funext fun a => HeadRun.getT_eq s a
  show obsSG 5 (HeadRun.getT s) = obsSG 5 s.abs.heap.get?
  rw [e]
theorem run_f (w : World) : HeadRun.RunEqS R qv hk ob 6200 names (w.withFollow "special-get-raises" false) := by
  intro os
  kernel_rfl
theorem run_t (w : World) : HeadRun.RunEqS R qv hk ob 6200 names (w.withFollow "special-get-raises" true) := by
  intro os
  kernel_rfl
theorem run (w : World) : HeadRun.RunEqS R qv hk ob 6200 names w := PySem.W.byRow2 "special-get-raises" (P := fun w => HeadRun.RunEqS R qv hk ob 6200 names w) run_f run_t w
end ShH
namespace Sh
open Si32
/-! ### the two ways -/
def wi (r : Bool) : Int := if r then 0 else 1
def wn (r : Bool) : Nat := if r then 0 else 1
def spc (s : St) (r : Bool) : Nat := if r then s.tall else s.wide
def edg (s : St) (r : Bool) : Nat := if r then s.paper.top else s.paper.left
def mid (s : St) (r : Bool) : Bool := if r then s.down else s.across
def a0 (a : Area) (r : Bool) : Nat := if r then a.row0 else a.col0
def a1 (a : Area) (r : Bool) : Nat := if r then a.row1 else a.col1
def bnd (s : St) (r : Bool) (p : Nat) (a : Area) : List Band := (s.way r).bands (spc s r) p (a0 a r) (a1 a r)
/-! ### sums -/
theorem total_nil : total [] = 0 := rfl
theorem total_cons (a : Nat) (l : List Nat) : total (a :: l) = a + total l := rfl
theorem total_append : ∀ (a b : List Nat), total (a ++ b) = total a + total b
  | [], b => by rw [List.nil_append, total_nil, Nat.zero_add]
  | x :: a, b => by rw [List.cons_append, total_cons, total_cons, total_append a b, Nat.add_assoc]
def pre (w : Way) (i : Nat) : Nat := total ((List.range i).map w.size)
theorem pre_zero (w : Way) : pre w 0 = 0 := rfl
theorem pre_succ (w : Way) (i : Nat) : pre w (i + 1) = pre w i + w.size i := by
  unfold pre
  rw [List.range_succ, List.map_append, total_append]
  rfl
theorem pre_mono (w : Way) {i j : Nat} (h : i ≤ j) : pre w i ≤ pre w j := by
  induction h with
  | refl => exact Nat.le_refl _
  | step _ ih => rw [pre_succ]; omega
/-! ### places in a row -/
def rg (a n : Nat) : List Nat := (List.range n).map fun i => a + i
theorem range_rg (a b : Nat) : range a b = rg a (b + 1 - a) := rfl
theorem rg_zero (a : Nat) : rg a 0 = [] := rfl
theorem rg_snoc (a n : Nat) : rg a (n + 1) = rg a n ++ [a + n] := by
  unfold rg
  rw [List.range_succ, List.map_append]
  rfl
theorem rg_cons (a n : Nat) : rg a (n + 1) = a :: rg (a + 1) n := by
  unfold rg
  rw [List.range_succ_eq_map, List.map_cons, List.map_map]
  congr 1
  apply List.map_congr_left
  intro i _
  show a + (i + 1) = a + 1 + i
  omega
theorem rg_length (a n : Nat) : (rg a n).length = n := by
  unfold rg
  rw [List.length_map, List.length_range]
theorem rg_sum (w : Way) (a : Nat) : ∀ n, pre w a + total ((rg a n).map w.size) = pre w (a + n)
  | 0 => rfl
  | n + 1 => by
    have ih := rg_sum w a n
    rw [rg_snoc, List.map_append, total_append, show a + (n + 1) = (a + n) + 1 by omega, pre_succ]
    show pre w a + (total ((rg a n).map w.size) + (w.size (a + n) + 0)) = _
    omega
theorem rg_filter (a i : Nat) : ∀ n, (rg a n).filter (fun j => decide (j < i)) = rg a (min n (i - a))
  | 0 => by rw [rg_zero, Nat.zero_min, rg_zero]; rfl
  | n + 1 => by
    rw [rg_snoc, List.filter_append, rg_filter a i n]
    by_cases h : a + n < i
    · have e : min (n + 1) (i - a) = min n (i - a) + 1 := by omega
      have e2 : min n (i - a) = n := by omega
      rw [List.filter_cons, if_pos (by exact decide_eq_true h), e, e2, rg_snoc]
      rfl
    · have e : min (n + 1) (i - a) = min n (i - a) := by omega
      rw [List.filter_cons, if_neg (by simp; omega), e]
      exact List.append_nil _
theorem sizes_rg (w : Way) (a n : Nat) : w.sizes (rg a n) = pre w (a + n) - pre w a := by
  have h := rg_sum w a n
  show total ((rg a n).map w.size) = _
  omega
/-! ### what comes again -/
def again0 (w : Way) (i : Nat) : Nat := match w.titles with
  | some t => min t.1 i
  | none => 0
def again1 (w : Way) (i : Nat) : Nat := match w.titles with
  | some t => min (t.2 + 1) i
  | none => 0
def TitOk (w : Way) : Prop := ∀ t, w.titles = some t → t.1 ≤ t.2 ∧ t.2 < w.most
theorem again_rg {w : Way} (ok : TitOk w) (i : Nat) : w.again i = rg (again0 w i) (again1 w i - again0 w i) := by
  unfold Way.again again0 again1
  cases e : w.titles with
  | none => rfl
  | some t =>
    have := ok t e
    show (range t.1 t.2).filter _ = _
    rw [range_rg, rg_filter]
    show rg t.1 (min (t.2 + 1 - t.1) (i - t.1)) = rg (min t.1 i) (min (t.2 + 1) i - min t.1 i)
    by_cases h : t.1 ≤ i
    · rw [Nat.min_eq_left h]
      congr 1
      omega
    · have e1 : min (t.2 + 1 - t.1) (i - t.1) = 0 := by omega
      have e2 : min (t.2 + 1) i - min t.1 i = 0 := by omega
      rw [e1, e2, rg_zero, rg_zero]
theorem again_le {w : Way} (ok : TitOk w) (i : Nat) : again0 w i ≤ again1 w i ∧ again1 w i ≤ i := by
  unfold again0 again1
  cases e : w.titles with
  | none => exact ⟨Nat.le_refl _, Nat.zero_le _⟩
  | some t =>
    have := ok t e
    show min t.1 i ≤ min (t.2 + 1) i ∧ min (t.2 + 1) i ≤ i
    omega
theorem again_len {w : Way} (ok : TitOk w) (i : Nat) : (w.again i).length = again1 w i - again0 w i := by
  rw [again_rg ok, rg_length]
def agz (w : Way) (i : Nat) : Nat := w.sizes (w.again i)
theorem again_sz {w : Way} (ok : TitOk w) (i : Nat) : agz w i = pre w (again1 w i) - pre w (again0 w i) := by
  unfold agz
  have := again_le ok i
  rw [again_rg ok, sizes_rg]
  congr 2
  omega
theorem again_int {w : Way} (ok : TitOk w) (i : Nat) : (pre w (again1 w i) : Int) - (pre w (again0 w i) : Int) = (agz w i : Int) := by
  have := again_le ok i
  have := pre_mono w this.1
  rw [again_sz ok]
  omega
/-! ### bands -/
def Part (b : Nat) : Nat → List Band → Prop
  | a, [] => a = b + 1
  | a, x :: l => x.1 = a ∧ a ≤ x.2 ∧ x.2 ≤ b ∧ Part b (x.2 + 1) l
theorem bands_start (w : Way) (space p : Nat) {a b : Nat} (h : a ≤ b) : w.bands space p a b = w.bandsFrom space p a a (pre w (a + 1) - pre w a) (rg (a + 1) (b - a)) := by
  unfold Way.bands
  rw [range_rg, show b + 1 - a = (b - a) + 1 by omega, rg_cons]
  show w.bandsFrom space p a a (w.size a) _ = _
  rw [pre_succ]
  congr 1
  omega
theorem bands_new (w : Way) (space p : Nat) {i j b : Nat} (hij : i ≤ j) (hj : j < b) (h : w.breaks.contains (j + 1) = true ∨ w.room space p i (pre w (j + 2) - pre w i) = false) :
    w.bandsFrom space p i j (pre w (j + 1) - pre w i) (rg (j + 1) (b - j)) = (i, j) :: w.bandsFrom space p (j + 1) (j + 1) (pre w (j + 2) - pre w (j + 1)) (rg (j + 2) (b - (j + 1))) := by
  rw [show b - j = (b - (j + 1)) + 1 by omega, rg_cons]
  have e : pre w (j + 2) = pre w (j + 1) + w.size (j + 1) := pre_succ w (j + 1)
  have m := pre_mono w (show i ≤ j + 1 by omega)
  have e2 : pre w (j + 1) - pre w i + w.size (j + 1) = pre w (j + 2) - pre w i := by omega
  show (if w.breaks.contains (j + 1) = true ∨ w.room space p i (pre w (j + 1) - pre w i + w.size (j + 1)) = false then _ else _) = _
  rw [e2, if_pos h]
  congr 2
  omega
theorem bands_on (w : Way) (space p : Nat) {i j b : Nat} (hij : i ≤ j) (hj : j < b) (h : ¬ (w.breaks.contains (j + 1) = true ∨ w.room space p i (pre w (j + 2) - pre w i) = false)) :
    w.bandsFrom space p i j (pre w (j + 1) - pre w i) (rg (j + 1) (b - j)) = w.bandsFrom space p i (j + 1) (pre w (j + 2) - pre w i) (rg (j + 2) (b - (j + 1))) := by
  rw [show b - j = (b - (j + 1)) + 1 by omega, rg_cons]
  have e : pre w (j + 2) = pre w (j + 1) + w.size (j + 1) := pre_succ w (j + 1)
  have m := pre_mono w (show i ≤ j + 1 by omega)
  have e2 : pre w (j + 1) - pre w i + w.size (j + 1) = pre w (j + 2) - pre w i := by omega
  show (if w.breaks.contains (j + 1) = true ∨ w.room space p i (pre w (j + 1) - pre w i + w.size (j + 1)) = false then _ else _) = _
  rw [e2, if_neg h]
theorem from_part (w : Way) (space p : Nat) (b : Nat) : ∀ (m i j n : Nat), i ≤ j → j + m = b → Part b i (w.bandsFrom space p i j n (rg (j + 1) m))
  | 0, i, j, n, hij, hb => by
    rw [rg_zero]
    exact ⟨rfl, hij, by omega, (by show j + 1 = b + 1; omega)⟩
  | m + 1, i, j, n, hij, hb => by
    rw [rg_cons]
    show Part b i (if _ then _ else _)
    split
    · exact ⟨rfl, hij, by omega, from_part w space p b m (j + 1) (j + 1) _ (Nat.le_refl _) (by omega)⟩
    · exact from_part w space p b m i (j + 1) _ (by omega) (by omega)
theorem bands_part (w : Way) (space p : Nat) {a b : Nat} (h : a ≤ b) : Part b a (w.bands space p a b) := by
  rw [bands_start w space p h]
  exact from_part w space p b (b - a) a a _ (Nat.le_refl _) (by omega)
theorem Part.ge {b : Nat} : ∀ {l : List Band} {a k : Nat} {x : Band}, Part b a l → l[k]? = some x → a ≤ x.1 ∧ x.1 ≤ x.2 ∧ x.2 ≤ b
  | [], a, k, x, _, h => by simp at h
  | y :: l, a, 0, x, ⟨h1, h2, h3, _⟩, h => by
    have e : y = x := Option.some.inj h
    subst e
    omega
  | y :: l, a, k + 1, x, ⟨h1, h2, h3, h4⟩, h => by
    have := Part.ge h4 (show l[k]? = some x from h)
    omega
theorem Part.length {b : Nat} : ∀ {l : List Band} {a : Nat}, Part b a l → l.length + a ≤ b + 1
  | [], a, h => by
    have h : a = b + 1 := h
    simp; omega
  | y :: l, a, ⟨h1, h2, h3, h4⟩ => by
    have := Part.length h4
    simp only [List.length_cons]
    omega
theorem Part.pos {b a : Nat} {l : List Band} (h : Part b a l) (hab : a ≤ b) : 0 < l.length := by
  cases l with
  | nil =>
    have h : a = b + 1 := h
    omega
  | cons x l => simp
/-- where a place is -/
theorem Part.find {b place : Nat} : ∀ {l : List Band} {a : Nat} (n : Nat), Part b a l → a ≤ place → place ≤ b →
    ∃ (m : Nat) (x : Band), l[m]? = some x ∧ inside x place = true ∧ (∀ (k : Nat) (y : Band), l[k]? = some y → (y.1 ≤ place ↔ k ≤ m)) ∧
      (l.zipIdx n).find? (fun (z : Band × Nat) => inside z.1 place) = some (x, n + m)
  | [], a, n, h, h1, h2 => by
    have h : a = b + 1 := h
    omega
  | y :: l, a, n, ⟨h1, h2, h3, h4⟩, g1, g2 => by
    by_cases c : place ≤ y.2
    · have ins : inside y place = true := by
        show (decide (y.1 ≤ place) && decide (place ≤ y.2)) = true
        rw [decide_eq_true (show y.1 ≤ place by omega), decide_eq_true c]
        rfl
      refine ⟨0, y, rfl, ins, fun k z hz => ?_, ?_⟩
      · cases k with
        | zero =>
          have e : y = z := Option.some.inj hz
          subst e
          omega
        | succ k =>
          have := Part.ge h4 (show l[k]? = some z from hz)
          omega
      · rw [List.zipIdx_cons, List.find?_cons_of_pos (by exact ins)]
        rfl
    · obtain ⟨m, x, e1, e2, e3, e4⟩ := Part.find (n + 1) h4 (by omega) g2
      refine ⟨m + 1, x, e1, e2, fun k z hz => ?_, ?_⟩
      · cases k with
        | zero =>
          have e : y = z := Option.some.inj hz
          subst e
          omega
        | succ k =>
          have := e3 k z hz
          omega
      · rw [List.zipIdx_cons, List.find?_cons_of_neg (by
          show ¬ (decide (y.1 ≤ place) && decide (place ≤ y.2)) = true
          rw [decide_eq_false c, Bool.and_false]
          exact Bool.false_ne_true), e4]
        congr 2
        omega
theorem Part.miss {b place : Nat} : ∀ {l : List Band} {a : Nat} (n : Nat), Part b a l → (place < a ∨ b < place) → (l.zipIdx n).find? (fun (z : Band × Nat) => inside z.1 place) = none
  | [], a, n, h, _ => rfl
  | y :: l, a, n, ⟨h1, h2, h3, h4⟩, g => by
    rw [List.zipIdx_cons, List.find?_cons_of_neg (by
      show ¬ (decide (y.1 ≤ place) && decide (place ≤ y.2)) = true
      intro q
      rw [Bool.and_eq_true] at q
      have q1 := of_decide_eq_true q.1
      have q2 := of_decide_eq_true q.2
      omega)]
    exact Part.miss (n + 1) h4 (by omega)
theorem bandAt_in {b a place : Nat} {l : List Band} (h : Part b a l) (h1 : a ≤ place) (h2 : place ≤ b) :
    ∃ (m : Nat) (x : Band), l[m]? = some x ∧ x.1 ≤ place ∧ place ≤ x.2 ∧ (∀ (k : Nat) (y : Band), l[k]? = some y → (y.1 ≤ place ↔ k ≤ m)) ∧ bandAt l place = some (m, x) := by
  obtain ⟨m, x, e1, e2, e3, e4⟩ := h.find 0 h1 h2
  have e2 : (decide (x.1 ≤ place) && decide (place ≤ x.2)) = true := e2
  rw [Bool.and_eq_true] at e2
  refine ⟨m, x, e1, of_decide_eq_true e2.1, of_decide_eq_true e2.2, e3, ?_⟩
  unfold bandAt
  rw [e4, Nat.zero_add]
  rfl
theorem bandAt_out {b a place : Nat} {l : List Band} (h : Part b a l) (g : place < a ∨ b < place) : bandAt l place = none := by
  unfold bandAt
  rw [h.miss 0 g]
  rfl
/-! ### on a page -/
theorem extent_eq {w : Way} {b : Band} (h : b.1 ≤ b.2) : w.extent b = agz w b.1 + (pre w (b.2 + 1) - pre w b.1) := by
  unfold Way.extent Way.shown Way.sizes
  rw [List.map_append, total_append]
  have e : total ((range b.1 b.2).map w.size) = pre w (b.2 + 1) - pre w b.1 := by
    rw [range_rg]
    have := sizes_rg w b.1 (b.2 + 1 - b.1)
    rw [show b.1 + (b.2 + 1 - b.1) = b.2 + 1 by omega] at this
    exact this
  rw [e]
  rfl
theorem ahead_eq {w : Way} {b : Band} {i : Nat} (h1 : b.1 ≤ i) (h2 : i ≤ b.2) : w.sizes ((range b.1 b.2).filter fun j => decide (j < i)) = pre w i - pre w b.1 := by
  rw [range_rg, rg_filter, sizes_rg]
  congr 2
  omega
end Sh
namespace Sh
open Si32
/-! ### digits -/
theorem dec_small {n : Nat} (h : n < 10) : dec n = [48 + n] := by
  have : n = 0 ∨ n = 1 ∨ n = 2 ∨ n = 3 ∨ n = 4 ∨ n = 5 ∨ n = 6 ∨ n = 7 ∨ n = 8 ∨ n = 9 := by omega
  rcases this with rfl | rfl | rfl | rfl | rfl | rfl | rfl | rfl | rfl | rfl <;> rfl
theorem digitChar_small {n : Nat} (h : n < 10) : (Nat.digitChar n).toNat = 48 + n := by
  have : n = 0 ∨ n = 1 ∨ n = 2 ∨ n = 3 ∨ n = 4 ∨ n = 5 ∨ n = 6 ∨ n = 7 ∨ n = 8 ∨ n = 9 := by omega
  rcases this with rfl | rfl | rfl | rfl | rfl | rfl | rfl | rfl | rfl | rfl <;> rfl
theorem dec_more {n : Nat} (h : 9 < n) : dec n = dec (n / 10) ++ [48 + n % 10] := by
  unfold dec
  rw [Nat.toDigits_of_base_le (by omega) (by omega : 10 ≤ n), List.map_append]
  show _ ++ [(Nat.digitChar (n % 10)).toNat] = _
  rw [digitChar_small (Nat.mod_lt _ (by omega))]
/-- what the loop has told of a number -/
def Told (N n : Nat) (tl : List Nat) : Prop := if 9 < n then dec N = dec (n / 10) ++ tl else dec N = tl
theorem told_start (N : Nat) : Told N N [48 + N % 10] := by
  unfold Told
  by_cases h : 9 < N
  · rw [if_pos h, dec_more h]
  · rw [if_neg h, dec_small (by omega), Nat.mod_eq_of_lt (by omega)]
theorem told_step {N n : Nat} {tl : List Nat} (h : Told N n tl) (hn : 9 < n) : Told N (n / 10) ((48 + n / 10 % 10) :: tl) := by
  unfold Told at h ⊢
  rw [if_pos hn] at h
  by_cases c : 9 < n / 10
  · rw [if_pos c, h, dec_more c, List.append_assoc]
    rfl
  · rw [if_neg c, h, dec_small (by omega), Nat.mod_eq_of_lt (by omega)]
    rfl
theorem told_end {N n : Nat} {tl : List Nat} (h : Told N n tl) (hn : ¬ 9 < n) : dec N = tl := by
  unfold Told at h
  rw [if_neg hn] at h
  exact h
theorem dec_len : ∀ (k n : Nat), n < 10 ^ (k + 1) → (dec n).length ≤ k + 1
  | 0, n, h => by
    rw [dec_small (by omega)]
    exact Nat.le_refl _
  | k + 1, n, h => by
    by_cases c : 9 < n
    · rw [dec_more c, List.length_append]
      have : n / 10 < 10 ^ (k + 1) := by
        rw [Nat.div_lt_iff_lt_mul (by omega), ← Nat.pow_succ]
        exact h
      have := dec_len k (n / 10) this
      show _ + 1 ≤ _
      omega
    · rw [dec_small (by omega)]
      show 1 ≤ _
      omega
theorem int_len (z : Int) (h : z.natAbs < 10 ^ 12) : (Si32.int z).length ≤ 13 := by
  unfold Si32.int
  have := dec_len 11 z.natAbs h
  split
  · simp only [List.length_cons]; omega
  · omega
/-! ### marks -/
abbrev Mark := Nat × Int
def partOf (c : Nat) : Option Nat := if c = 76 then some 0 else if c = 67 then some 1 else if c = 82 then some 2 else none
def numOf (c : Nat) : Option Int := if c = 80 then some (-1) else if c = 78 then some (-2) else if c = 65 then some (-3) else if c = 38 then some 38 else none
def marksFrom : Nat → Bytes → Option (List Mark)
  | _, [] => some []
  | at_, [c] => if c = 38 then none else some [(at_, (c : Int))]
  | at_, c :: d :: q => if c = 38 then (match partOf d with
      | some k => marksFrom k q
      | none => match numOf d with
        | some m => (marksFrom at_ q).map ((at_, m) :: ·)
        | none => none)
    else (marksFrom at_ (d :: q)).map ((at_, (c : Int)) :: ·)
theorem marks_byte {at_ c : Nat} {r : Bytes} (h : c ≠ 38) : marksFrom at_ (c :: r) = (marksFrom at_ r).map ((at_, (c : Int)) :: ·) := by
  cases r with
  | nil =>
    show (if c = 38 then none else some [(at_, (c : Int))]) = _
    rw [if_neg h]
    rfl
  | cons d q => exact if_neg h
theorem marks_end {at_ : Nat} : marksFrom at_ [38] = none := rfl
theorem marks_two {at_ d : Nat} {q : Bytes} : marksFrom at_ (38 :: d :: q) = match partOf d with
    | some k => marksFrom k q
    | none => match numOf d with
      | some m => (marksFrom at_ q).map ((at_, m) :: ·)
      | none => none := if_pos rfl
def says (page : Int) (pages area : Nat) (m : Int) : Bytes := if m = -1 then Si32.int page else if m = -2 then dec pages else if m = -3 then dec area else [m.toNat]
def tellAll (page : Int) (pages area : Nat) (x : Parts) (ms : List Mark) : Parts := ms.foldl (fun x m => x.add m.1 (says page pages area m.2)) x
theorem parts_byte {page : Int} {pages area at_ c : Nat} {x : Parts} {r : Bytes} (h : c ≠ 38) : partsFrom page pages area at_ x (c :: r) = partsFrom page pages area at_ (x.add at_ (says page pages area (c : Int))) r := by
  have e : says page pages area (c : Int) = [c] := by
    unfold says
    rw [if_neg (by omega), if_neg (by omega), if_neg (by omega)]
    rfl
  rw [e, partsFrom.eq_def]
  exact if_neg h
theorem parts_end {page : Int} {pages area at_ : Nat} {x : Parts} : partsFrom page pages area at_ x [38] = none := rfl
theorem parts_two {page : Int} {pages area at_ d : Nat} {x : Parts} {q : Bytes} : partsFrom page pages area at_ x (38 :: d :: q) = match partOf d with
    | some k => partsFrom page pages area k x q
    | none => match numOf d with
      | some m => partsFrom page pages area at_ (x.add at_ (says page pages area m)) q
      | none => none := by
  by_cases h1 : d = 76
  · subst h1; rfl
  by_cases h2 : d = 67
  · subst h2; rfl
  by_cases h3 : d = 82
  · subst h3; rfl
  by_cases h4 : d = 80
  · subst h4; rfl
  by_cases h5 : d = 78
  · subst h5; rfl
  by_cases h6 : d = 65
  · subst h6; rfl
  by_cases h7 : d = 38
  · subst h7; rfl
  have e1 : partOf d = none := by
    unfold partOf
    rw [if_neg h1, if_neg h2, if_neg h3]
  have e2 : numOf d = none := by
    unfold numOf
    rw [if_neg h4, if_neg h5, if_neg h6, if_neg h7]
  rw [e1, e2]
  show partsFrom page pages area at_ x (38 :: d :: q) = none
  unfold partsFrom
  rw [if_pos rfl]
  split <;> first | rfl | (rename_i e; injection e; contradiction)
theorem parts_marks (page : Int) (pages area : Nat) : ∀ (n at_ : Nat) (x : Parts) (b : Bytes), b.length ≤ n → partsFrom page pages area at_ x b = (marksFrom at_ b).map (tellAll page pages area x)
  | _, at_, x, [], _ => rfl
  | 0, at_, x, c :: r, h => by simp at h
  | n + 1, at_, x, c :: r, h => by
    have h : r.length ≤ n := by simpa using h
    by_cases hc : c = 38
    · subst hc
      cases r with
      | nil => rfl
      | cons d q =>
        have h : q.length ≤ n := by simp at h; omega
        rw [parts_two, marks_two]
        cases partOf d with
        | some k => exact parts_marks page pages area n _ _ _ h
        | none => cases numOf d with
          | some m =>
            show partsFrom page pages area at_ _ q = Option.map _ (Option.map _ _)
            rw [parts_marks page pages area n _ _ _ h, Option.map_map]
            rfl
          | none => rfl
    · rw [parts_byte hc, marks_byte hc, parts_marks page pages area n _ _ _ h, Option.map_map]
      rfl
def marksOf (b : Bytes) : Option (List Mark) := marksFrom 1 b
theorem parts_eq (page : Int) (pages area : Nat) (b : Bytes) : parts page pages area b = (marksOf b).map (tellAll page pages area ⟨[], [], []⟩) := parts_marks page pages area b.length 1 _ b (Nat.le_refl _)
theorem goodText_eq (b : Bytes) : goodText b = (decide (b.length ≤ 255) && (marksOf b).isSome) := by
  unfold goodText
  rw [parts_eq, Option.isSome_map]
  rfl
theorem partOf_lt {c k : Nat} (h : partOf c = some k) : k < 3 := by
  unfold partOf at h
  split at h
  · cases h; omega
  · split at h
    · cases h; omega
    · split at h
      · cases h; omega
      · cases h
theorem numOf_ge {c : Nat} {m : Int} (h : numOf c = some m) : -3 ≤ m := by
  unfold numOf at h
  repeat' split at h
  all_goals first | (have e := Option.some.inj h; omega) | cases h
theorem marks_part : ∀ (n at_ : Nat) (b : Bytes) (ms : List Mark), b.length ≤ n → at_ < 3 → marksFrom at_ b = some ms → ms.length ≤ b.length ∧ ∀ m ∈ ms, m.1 < 3 ∧ -3 ≤ m.2
  | _, at_, [], ms, _, _, h => by
    rw [marksFrom] at h
    cases h
    exact ⟨Nat.le_refl _, fun m hm => by cases hm⟩
  | 0, at_, c :: r, ms, hl, _, h => by simp at hl
  | n + 1, at_, c :: r, ms, hl, ha, h => by
    have hl : r.length ≤ n := by simpa using hl
    by_cases hc : c = 38
    · subst hc
      cases r with
      | nil =>
        rw [marks_end] at h
        cases h
      | cons d q =>
        have hl : q.length ≤ n := by simp at hl; omega
        rw [marks_two] at h
        cases hp : partOf d with
        | some k =>
          rw [hp] at h
          have := marks_part n k q ms hl (partOf_lt hp) h
          exact ⟨by simp only [List.length_cons]; omega, this.2⟩
        | none =>
          rw [hp] at h
          cases hm : numOf d with
          | none => rw [hm] at h; cases h
          | some m =>
            rw [hm] at h
            have h : (marksFrom at_ q).map ((at_, m) :: ·) = some ms := h
            cases e : marksFrom at_ q with
            | none => rw [e] at h; cases h
            | some ms' =>
              rw [e] at h
              cases h
              have := marks_part n at_ q ms' hl ha e
              refine ⟨by simp only [List.length_cons]; omega, fun m' hm' => ?_⟩
              rcases List.mem_cons.mp hm' with rfl | hm'
              · refine ⟨ha, ?_⟩
                exact numOf_ge hm
              · exact this.2 m' hm'
    · rw [marks_byte hc] at h
      cases e : marksFrom at_ r with
      | none => rw [e] at h; cases h
      | some ms' =>
        rw [e] at h
        cases h
        have := marks_part n at_ r ms' hl ha e
        refine ⟨by simp only [List.length_cons]; omega, fun m' hm' => ?_⟩
        rcases List.mem_cons.mp hm' with rfl | hm'
        · exact ⟨ha, by show (-3 : Int) ≤ (c : Int); omega⟩
        · exact this.2 m' hm'
theorem marksOf_ok {b : Bytes} {ms : List Mark} (h : marksOf b = some ms) : ms.length ≤ b.length ∧ ∀ m ∈ ms, m.1 < 3 ∧ -3 ≤ m.2 := marks_part b.length 1 b ms (Nat.le_refl _) (by omega) h
end Sh
namespace Sh
open Si32
/-! ### the settings' invariant -/
structure WayOk (w : Way) (m : Nat) : Prop where
  most : w.most = m
  tit : TitOk w
  told : w.told.length ≤ 200
  brk : w.breaks.length ≤ 500
structure Good (s : St) : Prop where
  rows : WayOk s.rows 4096
  cols : WayOk s.cols 256
  paper : goodPaper s.paper = true
  areas : s.areas.all goodArea = true
  alen : s.areas.length ≤ 32
  scale : goodScale s.scale = true
  first : -1000000 ≤ s.first ∧ s.first ≤ 1000000
  head : goodText s.head = true
  foot : goodText s.foot = true
def mostOf (r : Bool) : Nat := if r then 4096 else 256
theorem Good.way {s : St} (g : Good s) (r : Bool) : WayOk (s.way r) (mostOf r) := by
  cases r
  · exact g.cols
  · exact g.rows
theorem Good.init : Good init := ⟨⟨rfl, fun t h => (by cases h), by decide, by decide⟩, ⟨rfl, fun t h => (by cases h), by decide, by decide⟩, rfl, rfl, by decide, rfl, by decide, rfl, rfl⟩
theorem Good.with {s : St} (g : Good s) {r : Bool} {w : Way} (h : WayOk w (mostOf r)) : Good (s.with r w) := by
  cases r
  · exact ⟨g.rows, h, g.paper, g.areas, g.alen, g.scale, g.first, g.head, g.foot⟩
  · exact ⟨h, g.cols, g.paper, g.areas, g.alen, g.scale, g.first, g.head, g.foot⟩
theorem bool_of_ne {b : Bool} (h : ¬ b = false) : b = true := by
  cases b
  · exact absurd rfl h
  · rfl
theorem Good.step {s : St} (g : Good s) (q : Call) : Good (step s q).1 := by
  cases q with
  | begins => exact Good.init
  | size r a b n =>
    show Good (if _ then _ else _ : St × Ans).1
    split
    · exact g
    · split
      · exact g
      · rename_i h1 h2
        have w := g.way r
        have h2 : ¬ 200 ≤ (s.way r).told.length := h2
        exact g.with ⟨w.most, w.tit, (by show (s.way r).told.length + 1 ≤ 200; omega), w.brk⟩
  | paper p =>
    show Good (if _ then _ else _ : St × Ans).1
    split
    · exact g
    · rename_i h
      exact ⟨g.rows, g.cols, bool_of_ne h, g.areas, g.alen, g.scale, g.first, g.head, g.foot⟩
  | areas l =>
    show Good (if _ then _ else _ : St × Ans).1
    split
    · exact g
    · split
      · exact g
      · rename_i h1 h2
        have h2 : ¬ 32 < l.length := h2
        exact ⟨g.rows, g.cols, g.paper, bool_of_ne h1, (by show l.length ≤ 32; omega), g.scale, g.first, g.head, g.foot⟩
  | titles r t =>
    show Good (if _ then _ else _ : St × Ans).1
    split
    · exact g
    · rename_i h
      have w := g.way r
      refine g.with ⟨w.most, fun t' e => ?_, w.told, w.brk⟩
      have e : t = some t' := e
      subst e
      have h := bool_of_ne h
      have h : (decide (t'.1 ≤ t'.2) && decide (t'.2 < (s.way r).most)) = true := h
      rw [Bool.and_eq_true] at h
      exact ⟨of_decide_eq_true h.1, of_decide_eq_true h.2⟩
  | breaks r l =>
    show Good (if _ then _ else _ : St × Ans).1
    split
    · exact g
    · split
      · exact g
      · rename_i h1 h2
        have h2 : ¬ 500 < l.length := h2
        have w := g.way r
        exact g.with ⟨w.most, w.tit, w.told, (by show l.length ≤ 500; omega)⟩
  | scale x =>
    show Good (if _ then _ else _ : St × Ans).1
    split
    · exact g
    · rename_i h
      exact ⟨g.rows, g.cols, g.paper, g.areas, g.alen, bool_of_ne h, g.first, g.head, g.foot⟩
  | how o a d f =>
    show Good (if _ then _ else _ : St × Ans).1
    split
    · exact g
    · rename_i h
      have h : ¬ (f < -1000000 ∨ 1000000 < f) := h
      exact ⟨g.rows, g.cols, g.paper, g.areas, g.alen, g.scale, (by show -1000000 ≤ f ∧ f ≤ 1000000; omega), g.head, g.foot⟩
  | heads h f =>
    show Good (if _ then _ else _ : St × Ans).1
    split
    · exact g
    · rename_i h
      have h := bool_of_ne h
      rw [Bool.and_eq_true] at h
      exact ⟨g.rows, g.cols, g.paper, g.areas, g.alen, g.scale, g.first, h.1, h.2⟩
  | pages => exact g
  | page n => exact g
  | where_ r c => exact g
  | texts n => exact g
/-! ### paper, areas -/
theorem goodPaper_iff {p : Paper} : goodPaper p = true ↔ p.width ≤ 100000 ∧ p.height ≤ 100000 ∧ p.left + p.right < p.width ∧ p.top + p.bottom < p.height := by
  unfold goodPaper
  rw [Bool.and_eq_true, Bool.and_eq_true, Bool.and_eq_true, decide_eq_true_iff, decide_eq_true_iff, decide_eq_true_iff, decide_eq_true_iff]
  rfl
theorem goodArea_iff {a : Area} : goodArea a = true ↔ a.row0 ≤ a.row1 ∧ a.row1 < 4096 ∧ a.col0 ≤ a.col1 ∧ a.col1 < 256 := by
  unfold goodArea
  rw [Bool.and_eq_true, Bool.and_eq_true, Bool.and_eq_true, decide_eq_true_iff, decide_eq_true_iff, decide_eq_true_iff, decide_eq_true_iff]
  rfl
theorem Good.area {s : St} (g : Good s) {a : Area} (h : a ∈ s.areas) (r : Bool) : a0 a r ≤ a1 a r ∧ a1 a r < mostOf r := by
  have := goodArea_iff.mp (List.all_eq_true.mp g.areas a h)
  cases r
  · exact ⟨this.2.2.1, this.2.2.2⟩
  · exact ⟨this.1, this.2.1⟩
theorem Good.part {s : St} (g : Good s) {a : Area} (h : a ∈ s.areas) (r : Bool) (p : Nat) : Part (a1 a r) (a0 a r) (bnd s r p a) := bands_part _ _ _ (g.area h r).1
/-- height less top less bottom, as Python says it -/
theorem Good.space {s : St} (g : Good s) (r : Bool) : (if r then (s.paper.height : Int) - s.paper.top - s.paper.bottom else (s.paper.width : Int) - s.paper.left - s.paper.right) = (spc s r : Int) := by
  have := goodPaper_iff.mp g.paper
  cases r
  · show (s.paper.width : Int) - s.paper.left - s.paper.right = ((s.paper.width - (s.paper.left + s.paper.right) : Nat) : Int)
    omega
  · show (s.paper.height : Int) - s.paper.top - s.paper.bottom = ((s.paper.height - (s.paper.top + s.paper.bottom) : Nat) : Int)
    omega
theorem rowBands_eq (s : St) (p : Nat) (a : Area) : s.rowBands p a = bnd s true p a := rfl
theorem colBands_eq (s : St) (p : Nat) (a : Area) : s.colBands p a = bnd s false p a := rfl
/-! ### the scale -/
def fit (s : St) (w h p : Nat) : Bool := s.fits w h p
theorem percent_told {s : St} {p : Nat} (h : s.scale = .told p) : s.percent = p := by
  unfold St.percent
  rw [h]
theorem percent_fit {s : St} {w h p : Nat} (hs : s.scale = .fit w h) (h1 : 10 ≤ p) (h2 : p ≤ 100) (hi : ∀ q, p < q → q ≤ 100 → s.fits w h q = false) (hp : p = 10 ∨ s.fits w h p = true) : s.percent = p := by
  unfold St.percent
  rw [hs]
  show (((List.range 91).map fun i => 100 - i).find? (s.fits w h)).getD 10 = p
  by_cases c : s.fits w h p = true
  · have e : ((List.range 91).map fun i => 100 - i).find? (s.fits w h) = some p := by
      rw [List.find?_eq_some_iff_getElem]
      refine ⟨c, 100 - p, by rw [List.length_map, List.length_range]; omega, ?_, fun j hj => ?_⟩
      · rw [List.getElem_map, List.getElem_range]
        omega
      · rw [List.getElem_map, List.getElem_range, hi (100 - j) (by omega) (by omega)]
        rfl
    rw [e]
    rfl
  · have e10 : p = 10 := by
      rcases hp with h | h
      · exact h
      · exact absurd h c
    subst e10
    have e : ((List.range 91).map fun i => 100 - i).find? (s.fits w h) = none := by
      rw [List.find?_eq_none]
      intro x hx
      obtain ⟨i, hi', rfl⟩ := List.mem_map.mp hx
      have hi' := List.mem_range.mp hi'
      by_cases c2 : 10 < 100 - i
      · rw [hi (100 - i) c2 (by omega)]
        exact Bool.false_ne_true
      · have e : 100 - i = 10 := by omega
        rw [e]
        exact c
    rw [e]
    rfl
theorem Good.percent {s : St} (g : Good s) : 10 ≤ s.percent ∧ s.percent ≤ 400 := by
  have h := g.scale
  unfold St.percent
  cases e : s.scale with
  | told p =>
    rw [e] at h
    have h : (decide (10 ≤ p) && decide (p ≤ 400)) = true := h
    rw [Bool.and_eq_true] at h
    exact ⟨of_decide_eq_true h.1, of_decide_eq_true h.2⟩
  | fit w h =>
    show 10 ≤ (((List.range 91).map fun i => 100 - i).find? (s.fits w h)).getD 10 ∧ (((List.range 91).map fun i => 100 - i).find? (s.fits w h)).getD 10 ≤ 400
    cases e2 : ((List.range 91).map fun i => 100 - i).find? (s.fits w h) with
    | none => decide
    | some x =>
      have m := List.mem_of_find?_eq_some e2
      obtain ⟨i, hi, rfl⟩ := List.mem_map.mp m
      have hi := List.mem_range.mp hi
      show 10 ≤ 100 - i ∧ 100 - i ≤ 400
      omega
/-! ### pages -/
def cnt (s : St) (p : Nat) (a : Area) : Nat := (bnd s true p a).length * (bnd s false p a).length
theorem count_eq (s : St) : s.count = total (s.areas.map (cnt s s.percent)) := rfl
theorem len_le {s : St} (g : Good s) {a : Area} (h : a ∈ s.areas) (r : Bool) (p : Nat) : 0 < (bnd s r p a).length ∧ (bnd s r p a).length ≤ 4096 := by
  have := g.area h r
  have q := g.part h r p
  have l := q.length
  refine ⟨q.pos this.1, ?_⟩
  have : mostOf r ≤ 4096 := by cases r <;> decide
  omega
theorem cnt_le {s : St} (g : Good s) {a : Area} (h : a ∈ s.areas) (p : Nat) : cnt s p a ≤ 16777216 := by
  have h1 := (len_le g h true p).2
  have h2 := (len_le g h false p).2
  exact Nat.mul_le_mul h1 h2
theorem total_le {α : Type} {f : α → Nat} {M : Nat} : ∀ {l : List α}, (∀ a ∈ l, f a ≤ M) → total (l.map f) ≤ l.length * M
  | [], _ => Nat.zero_le _
  | a :: l, h => by
    rw [List.map_cons, total_cons, List.length_cons, Nat.add_mul, Nat.one_mul]
    have h1 := h a (List.mem_cons_self ..)
    have h2 := total_le fun b hb => h b (List.mem_cons_of_mem a hb)
    omega
theorem count_le {s : St} (g : Good s) : s.count ≤ 1000000000 := by
  rw [count_eq]
  have h := total_le (M := 16777216) (f := cnt s s.percent) fun a ha => cnt_le g ha s.percent
  have := g.alen
  omega
theorem page_next {s : St} {p k n : Nat} {a : Area} {l : List Area} (h : ¬ n < cnt s p a) : s.pageFrom p k (a :: l) n = s.pageFrom p (k + 1) l (n - cnt s p a) := by
  rw [St.pageFrom]
  exact if_neg h
def pgR (s : St) (p n : Nat) (a : Area) : Nat := if s.over = true then n / (bnd s false p a).length else n % (bnd s true p a).length
def pgC (s : St) (p n : Nat) (a : Area) : Nat := if s.over = true then n % (bnd s false p a).length else n / (bnd s true p a).length
theorem page_hit {s : St} {p k n : Nat} {a : Area} {l : List Area} (h : n < cnt s p a) :
    ∃ x y, (bnd s true p a)[pgR s p n a]? = some x ∧ (bnd s false p a)[pgC s p n a]? = some y ∧ s.pageFrom p k (a :: l) n = some ⟨k, x, y⟩ := by
  have h' : n < (bnd s true p a).length * (bnd s false p a).length := h
  have p1 : 0 < (bnd s true p a).length := by
    rcases Nat.eq_zero_or_pos (bnd s true p a).length with e | e
    · rw [e, Nat.zero_mul] at h'; omega
    · exact e
  have p2 : 0 < (bnd s false p a).length := by
    rcases Nat.eq_zero_or_pos (bnd s false p a).length with e | e
    · rw [e, Nat.mul_zero] at h'; omega
    · exact e
  have hr : pgR s p n a < (bnd s true p a).length := by
    unfold pgR
    split
    · rw [Nat.div_lt_iff_lt_mul p2]; exact h'
    · exact Nat.mod_lt _ p1
  have hc : pgC s p n a < (bnd s false p a).length := by
    unfold pgC
    split
    · exact Nat.mod_lt _ p2
    · rw [Nat.div_lt_iff_lt_mul p1, Nat.mul_comm]; exact h'
  refine ⟨(bnd s true p a)[pgR s p n a], (bnd s false p a)[pgC s p n a], List.getElem?_eq_getElem hr, List.getElem?_eq_getElem hc, ?_⟩
  rw [St.pageFrom]
  show (if n < cnt s p a then (match (bnd s true p a)[pgR s p n a]?, (bnd s false p a)[pgC s p n a]? with
      | some x, some y => some (⟨k, x, y⟩ : Page)
      | _, _ => none) else _) = _
  rw [if_pos h, List.getElem?_eq_getElem hr, List.getElem?_eq_getElem hc]
/-! ### where a cell is -/
def hasA (a : Area) (row col : Nat) : Bool := decide (a.row0 ≤ row ∧ row ≤ a.row1) && decide (a.col0 ≤ col ∧ col ≤ a.col1)
def num (s : St) (p : Nat) (a : Area) (r c : Nat) : Nat := if s.over = true then r * (bnd s false p a).length + c else c * (bnd s true p a).length + r
def spt (s : St) (r : Bool) (b : Band) (i : Nat) : Nat := (s.way r).spot (edg s r) (spc s r) s.percent (mid s r) b i
def triA (s : St) (row col n : Nat) (a : Area) : Option (Nat × Nat × Nat) := match bandAt (bnd s true s.percent a) row, bandAt (bnd s false s.percent a) col with
  | some r, some c => some (n + num s s.percent a r.1 c.1, spt s false c.2 col, spt s true r.2 row)
  | _, _ => none
theorem where_cons (s : St) (row col n : Nat) (a : Area) (l : List Area) : s.whereFrom s.percent row col n (a :: l) = (triA s row col n a).toList ++ s.whereFrom s.percent row col (n + cnt s s.percent a) l := by
  rw [St.whereFrom]
  unfold triA
  rw [rowBands_eq, colBands_eq]
  cases bandAt (bnd s true s.percent a) row with
  | none => rfl
  | some r =>
    cases bandAt (bnd s false s.percent a) col with
    | none => rfl
    | some c => rfl
theorem triA_has {s : St} (g : Good s) {a : Area} (h : a ∈ s.areas) (row col n : Nat) (hh : hasA a row col = true) :
    ∃ (m k : Nat) (x y : Band), (bnd s true s.percent a)[m]? = some x ∧ x.1 ≤ row ∧ row ≤ x.2 ∧ (∀ (j : Nat) (z : Band), (bnd s true s.percent a)[j]? = some z → (z.1 ≤ row ↔ j ≤ m)) ∧
      (bnd s false s.percent a)[k]? = some y ∧ y.1 ≤ col ∧ col ≤ y.2 ∧ (∀ (j : Nat) (z : Band), (bnd s false s.percent a)[j]? = some z → (z.1 ≤ col ↔ j ≤ k)) ∧
      triA s row col n a = some (n + num s s.percent a m k, spt s false y col, spt s true x row) := by
  unfold hasA at hh
  rw [Bool.and_eq_true, decide_eq_true_iff, decide_eq_true_iff] at hh
  obtain ⟨m, x, e1, e2, e3, e4, e5⟩ := bandAt_in (g.part h true s.percent) hh.1.1 hh.1.2
  obtain ⟨k, y, f1, f2, f3, f4, f5⟩ := bandAt_in (g.part h false s.percent) hh.2.1 hh.2.2
  refine ⟨m, k, x, y, e1, e2, e3, e4, f1, f2, f3, f4, ?_⟩
  unfold triA
  rw [e5, f5]
theorem triA_not {s : St} (g : Good s) {a : Area} (h : a ∈ s.areas) (row col n : Nat) (hh : hasA a row col = false) : triA s row col n a = none := by
  unfold triA
  by_cases c : a.row0 ≤ row ∧ row ≤ a.row1
  · have c2 : ¬ (a.col0 ≤ col ∧ col ≤ a.col1) := by
      intro c2
      unfold hasA at hh
      rw [decide_eq_true c, decide_eq_true c2] at hh
      cases hh
    rw [bandAt_out (g.part h false s.percent) (show col < a.col0 ∨ a.col1 < col by omega)]
    cases bandAt (bnd s true s.percent a) row <;> rfl
  · rw [bandAt_out (g.part h true s.percent) (show row < a.row0 ∨ a.row1 < row by omega)]
def before (s : St) (k : Nat) : Nat := total ((s.areas.take k).map (cnt s s.percent))
def noArea : Area := ⟨0, 0, 0, 0⟩
def hasK (s : St) (row col k : Nat) : Bool := hasA (s.areas.getD k noArea) row col
def tri (s : St) (row col k : Nat) : Nat × Nat × Nat := (triA s row col (before s k) (s.areas.getD k noArea)).getD (0, 0, 0)
theorem getD_of {α : Type} {l : List α} {k : Nat} {x d : α} (h : l[k]? = some x) : l.getD k d = x := by
  rw [List.getD_eq_getElem?_getD, h]
  rfl
theorem before_succ {s : St} {k : Nat} {a : Area} (h : s.areas[k]? = some a) : before s (k + 1) = before s k + cnt s s.percent a := by
  unfold before
  rw [List.take_add_one, h, List.map_append, total_append]
  show _ + (cnt s s.percent a + 0) = _
  omega
theorem where_from {s : St} (g : Good s) (row col : Nat) : ∀ (l : List Area) (k : Nat), s.areas.drop k = l → s.whereFrom s.percent row col (before s k) l = ((List.range' k l.length).filter (hasK s row col)).map (tri s row col)
  | [], k, h => rfl
  | a :: l, k, h => by
    have hk : s.areas[k]? = some a := by
      have := congrArg (fun l : List Area => l[0]?) h
      simpa using this
    have hd : s.areas.drop (k + 1) = l := by
      have := congrArg (fun l : List Area => l.drop 1) h
      simpa [List.drop_drop] using this
    have ha : a ∈ s.areas := List.mem_of_getElem? hk
    have eK : hasK s row col k = hasA a row col := by
      unfold hasK
      rw [getD_of hk]
    rw [where_cons, ← before_succ hk, where_from g row col l (k + 1) hd, List.length_cons, List.range'_succ, List.filter_cons]
    cases hh : hasA a row col with
    | false =>
      rw [triA_not g ha row col _ hh, if_neg (by rw [eK, hh]; exact Bool.false_ne_true)]
      rfl
    | true =>
      obtain ⟨m, j, x, y, _, _, _, _, _, _, _, _, e⟩ := triA_has g ha row col (before s k) hh
      rw [if_pos (by rw [eK, hh]), List.map_cons]
      have et : tri s row col k = (before s k + num s s.percent a m j, spt s false y col, spt s true x row) := by
        unfold tri
        rw [getD_of hk, e]
        rfl
      rw [e, et]
      rfl
theorem where_eq {s : St} (g : Good s) (row col : Nat) : s.where_ row col = ((List.range s.areas.length).filter (hasK s row col)).map (tri s row col) := by
  have := where_from g row col s.areas 0 rfl
  rw [← List.range_eq_range'] at this
  exact this
end Sh
namespace Sh
open PySem PySem.Spec PyProof.Rows L2 Evl
/-! ### the text by places -/
def top (i : Nat) : Stmt := PySem.Challenge.pw_sheetpages_s01_answers.main.body.getD i (.Pass ⟨0, 0, 0, 0⟩)
/-! ### more of what evaluates to what -/
/-- what a def makes: P of the heap ahead, the new object, the heap behind -/
abbrev PB := Hp → Addr → Hp → Prop
def RetB (P : PB) (H : Hp) (Q : VK) : Prop := ∀ p H2, Ex H H2 → P H p H2 → Q (.ref p) H2
def Anti (P : PB) : Prop := ∀ H H1 p H2, Ex H H1 → P H1 p H2 → P H p H2
theorem RetB.mono {P : PB} (an : Anti P) {H H' : Hp} {Q : VK} (k : RetB P H Q) (e : Ex H H') : RetB P H' Q := fun p H2 e2 h => k p H2 (e.trans e2) (an _ _ _ _ e h)
theorem RetV.mono {v : V} {H H' : Hp} {Q : VK} (k : RetV v H Q) (e : Ex H H') : RetV v H' Q := fun H2 e2 => k H2 (e.trans e2)
/-- a new list, a new tuple -/
def LstB (xs : List V) : PB := fun H p H2 => H p = none ∧ H2 p = some (.lst xs)
def TupB (xs : List V) : PB := fun H p H2 => H p = none ∧ H2 p = some (.tup xs)
theorem LstB.anti (xs : List V) : Anti (LstB xs) := fun _ _ _ _ e h => ⟨fresh_back e h.1, h.2⟩
theorem TupB.anti (xs : List V) : Anti (TupB xs) := fun _ _ _ _ e h => ⟨fresh_back e h.1, h.2⟩
def EvB (te : TE) (σ : L2.St) (H : Hp) (P : PB) : Prop := ∀ H1, Ex H H1 → ∀ Q : VK, RetB P H1 Q → te σ H1 Q
theorem EvB.mono {te : TE} {σ : L2.St} {H H' : Hp} {P : PB} (e : Ex H H') (h : EvB te σ H P) : EvB te σ H' P := fun H1 a Q q => h H1 (e.trans a) Q q
section
variable {K : PySem.W.Frag} {σ : L2.St} {H H' : Hp} {ta tb te tx : TE} {t u : TT} {x y z v : V} {r : R2} {D : Ends} {tz : TS}
/-- a call that hands back a value, a new object -/
theorem ev_callS {sp : Sp} {vs : List V} {E : XK} {ta : TA} (h : EvA ta σ H vs) (hs : ∀ H1, Ex H H1 → ∀ Q : VK, RetV z H1 Q → sp vs H1 Q E) : Ev (tCall sp [] E ta) σ H z := fun H1 e Q q =>
  h H1 e _ fun H2 e2 => by
    show sp (vs ++ []) H2 Q E
    rw [List.append_nil]
    exact hs H2 (e.trans e2) Q fun H3 e3 => q H3 (e2.trans e3)
theorem eb_callS {sp : Sp} {vs : List V} {E : XK} {ta : TA} {P : PB} (an : Anti P) (h : EvA ta σ H vs) (hs : ∀ H1, Ex H H1 → ∀ Q : VK, RetB P H1 Q → sp vs H1 Q E) : EvB (tCall sp [] E ta) σ H P := fun H1 e Q q =>
  h H1 e _ fun H2 e2 => by
    show sp (vs ++ []) H2 Q E
    rw [List.append_nil]
    exact hs H2 (e.trans e2) Q (q.mono an e2)
theorem s_asgB {i : Nat} {P : PB} (h : EvB te σ H P) (k : ∀ p H1, Ex H H1 → P H p H1 → D.nx (σ.set i (some (.ref p))) H1) : tAsg te (gName i) D σ H := h H (Ex.refl H) _ fun p H1 e h1 => k p H1 e h1
theorem q_asgB {i : Nat} {P : PB} (h : EvB te σ H P) (k : ∀ p H1, Ex H H1 → P H p H1 → tz D (σ.set i (some (.ref p))) H1) : tSeq (tAsg te (gName i)) tz D σ H := s_asgB (D := { D with nx := tz D }) h k
theorem s_retB {P : PB} (h : EvB te σ H P) (k : RetB P H D.rt) : tRet te D σ H := h H (Ex.refl H) _ k
/-- a new list, a new tuple as one that is made -/
theorem eb_L {xs : List V} (h : EvL te σ H xs) : EvB te σ H (LstB xs) := fun H1 e Q q => h H1 e Q fun p H2 hp e2 h2 => q p H2 e2 ⟨hp, h2⟩
theorem eb_U {xs : List V} (h : EvU te σ H xs) : EvB te σ H (TupB xs) := fun H1 e Q q => h H1 e Q fun p H2 hp e2 h2 => q p H2 e2 ⟨hp, h2⟩
theorem el_B {xs : List V} (h : EvB te σ H (LstB xs)) : EvL te σ H xs := fun H1 e Q q => h H1 e Q fun p H2 e2 h2 => q p H2 h2.1 e2 h2.2
theorem eu_B {xs : List V} (h : EvB te σ H (TupB xs)) : EvU te σ H xs := fun H1 e Q q => h H1 e Q fun p H2 e2 h2 => q p H2 h2.1 e2 h2.2
theorem s_retV (h : Ev te σ H v) (k : RetV v H D.rt) : tRet te D σ H := h H (Ex.refl H) _ k
theorem ev_fld {a C dx : Addr} {fs : List (Str × V)} {f : Str} (ha : Ev ta σ H (.ref a)) (h : H a = some (.ins C dx fs)) (hc : Cls K C) (hn : NoAttr K C f) (hl : fs.lookup f = some v) : Ev (tFld K ta f) σ H v := fun H1 e Q q =>
  ha H1 e _ fun H2 e2 => ⟨a, C, dx, fs, v, rfl, e2 _ _ (e _ _ h), hc, hn, hl, q H2 e2⟩
theorem ev_ixL {p : Addr} {xs : List V} {i : Int} (ha : Ev ta σ H (.ref p)) (hb : Ev tb σ H (.int i)) (h : SqL K H p xs) (hi : atI xs i = some v) : Ev (tOp (rIxL K) ta tb) σ H v := ev_op ha hb (rv_ixL h hi)
theorem ev_ixT {p : Addr} {xs : List V} {i : Int} (ha : Ev ta σ H (.ref p)) (hb : Ev tb σ H (.int i)) (h : SqT K H p xs) (hi : atI xs i = some v) : Ev (tOp (rIxT K) ta tb) σ H v := ev_op ha hb (rv_ixT h hi)
theorem ev_i {g : Int → Int → V} {i j : Int} (ha : Ev ta σ H (.int i)) (hb : Ev tb σ H (.int j)) : Ev (tOp (rI0 g) ta tb) σ H (g i j) := ev_op ha hb rv_I0
theorem ev_iC {C : Int → Int → Prop} {g : Int → Int → V} {i j : Int} (ha : Ev ta σ H (.int i)) (hb : Ev tb σ H (.int j)) (hc : C i j) : Ev (tOp (rI C g) ta tb) σ H (g i j) := ev_op ha hb (rv_I hc)
theorem ev_v {i : Nat} (h : σ[i]? = some (some v) := by rfl) : Ev (tVar i) σ H v := ev_var h
theorem et_op {b : Bool} {r : R2} (h : Ev (tOp r ta tb) σ H (.bl b)) : EvT (tTest (tOp r ta tb)) σ H b := et_test h
theorem ev_len2 {p : Addr} {xs : List V} (ha : Ev ta σ H (.ref p)) (h : SqL K H p xs) : Ev (tCB (rLenS K) (tCons ta tNil)) σ H (.int (xs.length : Int)) := ev_len ha h
end
/-! ### numbers as values -/
abbrev nV (n : Nat) : V := .int (n : Int)
abbrev nVs (l : List Nat) : List V := l.map nV
abbrev bV (b : Bool) : V := .int (if b then 1 else 0)
theorem at_two {x y : V} (r : Bool) : atI [x, y] (wi r) = some (if r then x else y) := by
  cases r
  · exact at_of (j := 1) rfl rfl
  · exact at_of (j := 0) rfl rfl
/-! ### the constants of the top -/
structure Con1 (mg : Str → Option Value) (x : Str) (i : Int) : Prop where
  g : ∃ t, mg x = some (.int i t)
section
variable {X : Cx}
theorem pe_k {x : Str} {i : Int} {pos : Pos} (hg : Gl X x) (h : ∃ t, X.mg x = some (.int i t)) (hd : (x == ("__debug__" : Str)) = false := by decide) : PE X (.Name x pos) (tC (.int i)) := by
  obtain ⟨t, e⟩ := h
  exact pe_glob hg e ⟨t, rfl⟩ hd
end
/-- a written tuple of the top -/
def KTup (K : PySem.W.Frag) (mg : Str → Option Value) (x : Str) (a : Addr) (ns : List Int) : Prop := mg x = some (.ref a) ∧ ∀ H, SqT K H a (ns.map V.int)
/-! ### what stands in the heap -/
def Im (M : List Addr) (H : Hp) (b : Addr) (o : HO) : Prop := H b = some o ∧ b ∉ M
/-- a list at p of new things, each as P says -/
def RefsAt {α : Type} (Fr : Addr → Prop) (P : Addr → α → Prop) (H : Hp) (p : Addr) (l : List α) : Prop :=
  Fr p ∧ ∃ qs : List Addr, H p = some (.lst (qs.map V.ref)) ∧ qs.length = l.length ∧ ∀ (i : Nat) (x : α), l[i]? = some x → ∃ q, qs[i]? = some q ∧ P q x
theorem RefsAt.imp {α : Type} {Fr Fr' : Addr → Prop} {P P' : Addr → α → Prop} {H H' : Hp} {p : Addr} {l : List α} (h : RefsAt Fr P H p l) (hf : Fr p → Fr' p) (ho : ∀ o, Fr p → H p = some o → H' p = some o) (hp : ∀ q x, x ∈ l → P q x → P' q x) : RefsAt Fr' P' H' p l := by
  obtain ⟨f, qs, h1, h2, h3⟩ := h
  refine ⟨hf f, qs, ho _ f h1, h2, fun i x e => ?_⟩
  obtain ⟨q, e1, e2⟩ := h3 i x e
  exact ⟨q, e1, hp q x (List.mem_of_getElem? e) e2⟩
theorem RefsAt.nil {α : Type} {Fr : Addr → Prop} {P : Addr → α → Prop} {H : Hp} {p : Addr} (f : Fr p) (h : H p = some (.lst [])) : RefsAt Fr P H p ([] : List α) := ⟨f, [], h, rfl, fun i x e => by simp at e⟩
theorem RefsAt.get {α : Type} {Fr : Addr → Prop} {P : Addr → α → Prop} {H : Hp} {p : Addr} {l : List α} (h : RefsAt Fr P H p l) {i : Nat} {x : α} (e : l[i]? = some x) : ∃ (xs : List V) (q : Addr), H p = some (.lst xs) ∧ xs.length = l.length ∧ xs[i]? = some (V.ref q) ∧ P q x := by
  obtain ⟨_, qs, h1, h2, h3⟩ := h
  obtain ⟨q, e1, e2⟩ := h3 i x e
  exact ⟨_, q, h1, by rw [List.length_map, h2], by rw [List.getElem?_map, e1]; rfl, e2⟩
theorem RefsAt.lst {α : Type} {Fr : Addr → Prop} {P : Addr → α → Prop} {H : Hp} {p : Addr} {l : List α} (h : RefsAt Fr P H p l) : ∃ xs : List V, H p = some (.lst xs) ∧ xs.length = l.length ∧ ∀ (i : Nat) (x : α), l[i]? = some x → ∃ q, xs[i]? = some (V.ref q) ∧ P q x := by
  obtain ⟨_, qs, h1, h2, h3⟩ := h
  refine ⟨_, h1, by rw [List.length_map, h2], fun i x e => ?_⟩
  obtain ⟨q, e1, e2⟩ := h3 i x e
  exact ⟨q, by rw [List.getElem?_map, e1]; rfl, e2⟩
/-- one more -/
theorem RefsAt.snoc {α : Type} {Fr : Addr → Prop} {P P' : Addr → α → Prop} {H H' : Hp} {p q : Addr} {l : List α} {x : α} {xs : List V} (h : RefsAt Fr P H p l) (hx : H p = some (.lst xs)) (h' : H' p = some (.lst (xs ++ [V.ref q]))) (hp : ∀ q x, x ∈ l → P q x → P' q x) (hq : P' q x) : RefsAt Fr P' H' p (l ++ [x]) := by
  obtain ⟨f, qs, h1, h2, h3⟩ := h
  obtain rfl : qs.map V.ref = xs := by
    rw [h1] at hx
    injection Option.some.inj hx
  refine ⟨f, qs ++ [q], by rw [h', List.map_append]; rfl, by rw [List.length_append, List.length_append, h2]; rfl, fun i y e => ?_⟩
  by_cases hi : i < l.length
  · rw [List.getElem?_append_left hi] at e
    obtain ⟨q', e1, e2⟩ := h3 i y e
    exact ⟨q', by rw [List.getElem?_append_left (by omega)]; exact e1, hp q' y (List.mem_of_getElem? e) e2⟩
  · rw [List.getElem?_append_right (by omega)] at e
    have e0 : i - l.length = 0 := by
      cases c : i - l.length with
      | zero => rfl
      | succ k => rw [c] at e; simp at e
    rw [e0] at e
    have e : x = y := Option.some.inj e
    subst e
    exact ⟨q, by rw [List.getElem?_append_right (by omega), h2, e0]; rfl, hq⟩
/-- bands, of an area by both ways, of all areas: new behind H0 -/
def BandAt (H0 H : Hp) (q : Addr) (b : Si32.Band) : Prop := H0 q = none ∧ H q = some (.tup [nV b.1, nV b.2])
def BandsAt (H0 : Hp) (l : List Si32.Band) : Addr → Hp → Prop := fun p H => RefsAt (fun p => H0 p = none) (BandAt H0 H) H p l
def OwnAt (H0 : Hp) (x y : List Si32.Band) : Addr → Hp → Prop := fun p H => H0 p = none ∧ ∃ p0 p1, H p = some (.lst [.ref p0, .ref p1]) ∧ BandsAt H0 x p0 H ∧ BandsAt H0 y p1 H
def AllAt (H0 : Hp) (s : Si32.St) (sc : Nat) (as : List Si32.Area) : Addr → Hp → Prop := fun p H => RefsAt (fun p => H0 p = none) (fun q a => OwnAt H0 (bnd s true sc a) (bnd s false sc a) q H) H p as
def LayAt (H0 : Hp) (CL : Addr) (s : Si32.St) : Addr → Hp → Prop := fun p H => H0 p = none ∧ ∃ dx bl, H p = some (.ins CL dx [("scale", nV s.percent), ("bands", .ref bl), ("pages", nV s.count)]) ∧ AllAt H0 s s.percent s.areas bl H
/-- what is new behind H0 stands on -/
def On (H0 H H' : Hp) : Prop := ∀ b o, H0 b = none → H b = some o → H' b = some o
theorem On.of {H0 H H' : Hp} (e : Ex H H') : On H0 H H' := fun b o _ h => e b o h
theorem BandAt.on {H0 H H' : Hp} {q : Addr} {b : Si32.Band} (h : BandAt H0 H q b) (e : On H0 H H') : BandAt H0 H' q b := ⟨h.1, e _ _ h.1 h.2⟩
theorem BandsAt.on {H0 H H' : Hp} {l : List Si32.Band} {p : Addr} (h : BandsAt H0 l p H) (e : On H0 H H') : BandsAt H0 l p H' := h.imp id (fun o f h => e _ _ f h) fun q x _ h => h.on e
theorem OwnAt.on {H0 H H' : Hp} {x y : List Si32.Band} {p : Addr} (h : OwnAt H0 x y p H) (e : On H0 H H') : OwnAt H0 x y p H' := by
  obtain ⟨f, p0, p1, h1, h2, h3⟩ := h
  exact ⟨f, p0, p1, e _ _ f h1, h2.on e, h3.on e⟩
theorem AllAt.on {H0 H H' : Hp} {s : Si32.St} {sc : Nat} {as : List Si32.Area} {p : Addr} (h : AllAt H0 s sc as p H) (e : On H0 H H') : AllAt H0 s sc as p H' := h.imp id (fun o f h => e _ _ f h) fun q x _ h => h.on e
theorem LayAt.on {H0 H H' : Hp} {CL : Addr} {s : Si32.St} {p : Addr} (h : LayAt H0 CL s p H) (e : On H0 H H') : LayAt H0 CL s p H' := by
  obtain ⟨f, dx, bl, h1, h2⟩ := h
  exact ⟨f, dx, bl, e _ _ f h1, h2.on e⟩
/-- .. is new behind less -/
def Less (H00 H0 : Hp) : Prop := ∀ b, H0 b = none → H00 b = none
theorem Less.of {H00 H0 : Hp} (e : Ex H00 H0) : Less H00 H0 := fun b h => fresh_back e h
theorem BandsAt.less {H00 H0 H : Hp} {l : List Si32.Band} {p : Addr} (h : BandsAt H0 l p H) (e : Less H00 H0) : BandsAt H00 l p H := h.imp (e _) (fun o _ h => h) fun q x _ h => ⟨e _ h.1, h.2⟩
theorem OwnAt.less {H00 H0 H : Hp} {x y : List Si32.Band} {p : Addr} (h : OwnAt H0 x y p H) (e : Less H00 H0) : OwnAt H00 x y p H := by
  obtain ⟨f, p0, p1, h1, h2, h3⟩ := h
  exact ⟨e _ f, p0, p1, h1, h2.less e, h3.less e⟩
theorem AllAt.less {H00 H0 H : Hp} {s : Si32.St} {sc : Nat} {as : List Si32.Area} {p : Addr} (h : AllAt H0 s sc as p H) (e : Less H00 H0) : AllAt H00 s sc as p H := h.imp (e _) (fun o _ h => h) fun q x _ h => h.less e
theorem LayAt.less {H00 H0 H : Hp} {CL : Addr} {s : Si32.St} {p : Addr} (h : LayAt H0 CL s p H) (e : Less H00 H0) : LayAt H00 CL s p H := by
  obtain ⟨f, dx, bl, h1, h2⟩ := h
  exact ⟨e _ f, dx, bl, h1, h2.less e⟩
def noH : Hp := fun _ => none
theorem Less.no (H : Hp) : Less noH H := fun _ _ => rfl
def BandsB (l : List Si32.Band) : PB := fun H0 p H => BandsAt H0 l p H
def AllB (s : Si32.St) (sc : Nat) : PB := fun H0 p H => AllAt H0 s sc s.areas p H
def LayB (CL : Addr) (s : Si32.St) : PB := fun H0 p H => LayAt H0 CL s p H
theorem BandsB.anti (l : List Si32.Band) : Anti (BandsB l) := fun _ _ _ _ e h => BandsAt.less h (.of e)
theorem AllB.anti (s : Si32.St) (sc : Nat) : Anti (AllB s sc) := fun _ _ _ _ e h => AllAt.less h (.of e)
theorem LayB.anti (CL : Addr) (s : Si32.St) : Anti (LayB CL s) := fun _ _ _ _ e h => LayAt.less h (.of e)
/-! ### the settings in the heap -/
structure Ads where
  sl : Addr
  sr : Addr
  sc : Addr
  tl : Addr
  pl : Addr
  al : Addr
  bl : Addr
  ti : Addr
  bk : Addr
  b0 : Addr
  b1 : Addr
  mi : Addr
  ar : Addr
  fi : Addr
  hd : Addr
  ft : Addr
  t0 : V
  t1 : V
  fx : Int
  fy : Int
  ex : List Addr
/-- what is written to in place -/
def Ads.own (A : Ads) (st : Addr) : List Addr := [st, A.sr, A.sc, A.tl, A.ti, A.bk]
/-- that, and what stands apart from the settings -/
def Ads.mut (A : Ads) (st : Addr) : List Addr := A.own st ++ A.ex
def scV : Si32.Scale → V
  | .told p => nV p
  | .fit _ _ => .non
def fsS (A : Ads) (s : Si32.St) : List (Str × V) :=
  [("sizes", .ref A.sl), ("told", .ref A.tl), ("paper", .ref A.pl), ("ahead", .ref A.al), ("behind", .ref A.bl), ("titles", .ref A.ti), ("breaks", .ref A.bk), ("middle", .ref A.mi), ("areas", .ref A.ar),
    ("scale", scV s.scale), ("fit", .ref A.fi), ("over", bV s.over), ("first", .int s.first), ("head", .ref A.hd), ("foot", .ref A.ft)]
def sizesV (w : Si32.Way) (n : Nat) : List V := (List.range n).map fun i => nV (w.size i)
def TitAt (M : List Addr) (H : Hp) (v : V) (t : Option (Nat × Nat)) : Prop := match t with
  | none => v = .non
  | some t => ∃ p, v = .ref p ∧ Im M H p (.tup [nV t.1, nV t.2])
def BrkAt (M : List Addr) (H : Hp) (b : Addr) (l : List Nat) : Prop := ∃ kvs : List (Key × V), Im M H b (.dK kvs) ∧ ∀ k : Nat, (valV kvs (Sum.inl (k : Int))).isSome = l.contains k
def AreaAt (CA : Addr) (M : List Addr) (H : Hp) (p : Addr) (a : Si32.Area) : Prop := ∃ dx f l, Im M H p (.ins CA dx [("first", .ref f), ("last", .ref l)]) ∧ Im M H f (.lst [nV a.row0, nV a.col0]) ∧ Im M H l (.lst [nV a.row1, nV a.col1])
def MarkAt (M : List Addr) (H : Hp) (q : Addr) (m : Mark) : Prop := Im M H q (.tup [nV m.1, .int m.2])
def MarksAt (M : List Addr) (H : Hp) (p : Addr) (ms : List Mark) : Prop := RefsAt (fun p => p ∉ M) (MarkAt M H) H p ms
structure SetAt (CS CA : Addr) (H : Hp) (st : Addr) (A : Ads) (s : Si32.St) : Prop where
  good : Good s
  nd : (A.mut st).Nodup
  ins : ∃ dx, H st = some (.ins CS dx (fsS A s))
  sl : Im (A.mut st) H A.sl (.lst [.ref A.sr, .ref A.sc])
  sr : H A.sr = some (.lst (sizesV s.rows 4096))
  sc : H A.sc = some (.lst (sizesV s.cols 256))
  tl : H A.tl = some (.lst [nV s.rows.told.length, nV s.cols.told.length])
  pl : Im (A.mut st) H A.pl (.lst [nV s.paper.height, nV s.paper.width])
  al : Im (A.mut st) H A.al (.lst [nV s.paper.top, nV s.paper.left])
  bl : Im (A.mut st) H A.bl (.lst [nV s.paper.bottom, nV s.paper.right])
  ti : H A.ti = some (.lst [A.t0, A.t1])
  t0 : TitAt (A.mut st) H A.t0 s.rows.titles
  t1 : TitAt (A.mut st) H A.t1 s.cols.titles
  bk : H A.bk = some (.lst [.ref A.b0, .ref A.b1])
  b0 : BrkAt (A.mut st) H A.b0 s.rows.breaks
  b1 : BrkAt (A.mut st) H A.b1 s.cols.breaks
  mi : Im (A.mut st) H A.mi (.lst [bV s.down, bV s.across])
  ar : RefsAt (fun p => p ∉ A.mut st) (AreaAt CA (A.mut st) H) H A.ar s.areas
  fi : Im (A.mut st) H A.fi (.lst [.int A.fx, .int A.fy])
  fit : ∀ w h, s.scale = .fit w h → A.fx = (h : Int) ∧ A.fy = (w : Int)
  hd : ∃ ms, marksOf s.head = some ms ∧ MarksAt (A.mut st) H A.hd ms
  ft : ∃ ms, marksOf s.foot = some ms ∧ MarksAt (A.mut st) H A.ft ms
  exs : ∀ b ∈ A.ex, ∃ xs, H b = some (.lst xs)
/-- no desk -/
def DeskF (fs : List (Str × V)) : Prop := fs = [] ∨ (∃ v : V, fs = [(("settings" : Str), v)]) ∨ ∃ v w : V, fs = [(("settings" : Str), v), (("layout" : Str), w)]
def NoDesk (o : HO) : Prop := ∀ C dx fs, o = .ins C dx fs → ¬ DeskF fs
theorem noDesk_lst {xs : List V} : NoDesk (.lst xs) := fun _ _ _ h => nomatch h
theorem noDesk_tup {xs : List V} : NoDesk (.tup xs) := fun _ _ _ h => nomatch h
theorem noDesk_dK {xs : List (Key × V)} : NoDesk (.dK xs) := fun _ _ _ h => nomatch h
theorem noDesk_first {C dx : Addr} {x : Str} {v : V} {r : List (Str × V)} (hx : x ≠ "settings") : NoDesk (.ins C dx ((x, v) :: r)) := fun C' dx' fs h q => by
  injection h with _ _ h
  rcases q with q | ⟨v', q⟩ | ⟨v', w', q⟩ <;> rw [q] at h
  · cases h
  · injection h with h _
    injection h with h _
    exact hx h
  · injection h with h _
    injection h with h _
    exact hx h
theorem noDesk_set {C dx : Addr} {A : Ads} {s : Si32.St} : NoDesk (.ins C dx (fsS A s)) := noDesk_first (by decide +kernel)
theorem noDesk_area {C dx : Addr} {v w : V} : NoDesk (.ins C dx [("first", v), ("last", w)]) := noDesk_first (by decide +kernel)
theorem noDesk_lay {C dx : Addr} {v w u : V} : NoDesk (.ins C dx [("scale", v), ("bands", w), ("pages", u)]) := noDesk_first (by decide +kernel)
/-- all but desks stands -/
def Stay (H H' : Hp) : Prop := ∀ b o, H b = some o → NoDesk o → H' b = some o
theorem Stay.of {H H' : Hp} (e : Ex H H') : Stay H H' := fun b o h _ => e b o h
section
variable {M : List Addr} {H H' : Hp} {CS CA st : Addr} {A : Ads} {s : Si32.St}
theorem Im.ex {b : Addr} {o : HO} (h : Im M H b o) (e : Ex H H') : Im M H' b o := ⟨e _ _ h.1, h.2⟩
theorem Im.stay {b : Addr} {o : HO} (h : Im M H b o) (e : Stay H H') (n : NoDesk o) : Im M H' b o := ⟨e _ _ h.1 n, h.2⟩
theorem TitAt.stay {v : V} {t : Option (Nat × Nat)} (h : TitAt M H v t) (e : Stay H H') : TitAt M H' v t := by
  cases t with
  | none => exact h
  | some t =>
    obtain ⟨p, h1, h2⟩ := h
    exact ⟨p, h1, h2.stay e noDesk_tup⟩
theorem BrkAt.stay {b : Addr} {l : List Nat} (h : BrkAt M H b l) (e : Stay H H') : BrkAt M H' b l := by
  obtain ⟨kvs, h1, h2⟩ := h
  exact ⟨kvs, h1.stay e noDesk_dK, h2⟩
theorem AreaAt.stay {p : Addr} {a : Si32.Area} (h : AreaAt CA M H p a) (e : Stay H H') : AreaAt CA M H' p a := by
  obtain ⟨dx, f, l, h1, h2, h3⟩ := h
  exact ⟨dx, f, l, h1.stay e noDesk_area, h2.stay e noDesk_lst, h3.stay e noDesk_lst⟩
theorem MarksAt.stay {p : Addr} {ms : List Mark} (h : MarksAt M H p ms) (e : Stay H H') : MarksAt M H' p ms := h.imp id (fun o _ h => by
    obtain ⟨_, qs, h1, _⟩ := ‹MarksAt M H p ms›
    rw [h] at h1
    cases Option.some.inj h1
    exact e _ _ h noDesk_lst) fun q x _ h => Im.stay h e noDesk_tup
theorem SetAt.stay (S : SetAt CS CA H st A s) (e : Stay H H') : SetAt CS CA H' st A s := by
  obtain ⟨dx, h⟩ := S.ins
  obtain ⟨m1, e1, h1⟩ := S.hd
  obtain ⟨m2, e2, h2⟩ := S.ft
  exact { good := S.good, nd := S.nd, ins := ⟨dx, e _ _ h noDesk_set⟩, sl := S.sl.stay e noDesk_lst, sr := e _ _ S.sr noDesk_lst, sc := e _ _ S.sc noDesk_lst, tl := e _ _ S.tl noDesk_lst, pl := S.pl.stay e noDesk_lst, al := S.al.stay e noDesk_lst, bl := S.bl.stay e noDesk_lst,
          ti := e _ _ S.ti noDesk_lst, t0 := S.t0.stay e, t1 := S.t1.stay e, bk := e _ _ S.bk noDesk_lst, b0 := S.b0.stay e, b1 := S.b1.stay e, mi := S.mi.stay e noDesk_lst,
          ar := S.ar.imp id (fun o _ h => by
            obtain ⟨_, qs, h1, _⟩ := S.ar
            rw [h] at h1
            cases Option.some.inj h1
            exact e _ _ h noDesk_lst) (fun q x _ h => h.stay e),
          fi := S.fi.stay e noDesk_lst, fit := S.fit, hd := ⟨m1, e1, h1.stay e⟩, ft := ⟨m2, e2, h2.stay e⟩, exs := fun b hb => by
            obtain ⟨xs, h⟩ := S.exs b hb
            exact ⟨xs, e _ _ h noDesk_lst⟩ }
theorem SetAt.ex (S : SetAt CS CA H st A s) (e : Ex H H') : SetAt CS CA H' st A s := S.stay (.of e)
end
/-! ### def within -/
abbrev sWithin : Stmt := top 17
def spWithin : Sp := fun vs H Q _ => ∃ a b c : Int, vs = [.int a, .int b, .int c] ∧ RetV (.bl (decide (b ≤ a) && decide (a ≤ c))) H Q
section
variable {P : Program} {w : World} {K : PySem.W.Frag} {mg : Str → Option Value} {base : Heap} {f : Addr} {fd : FuncData}
theorem sc_within : FnScope ["number", "least", "most"] ["number", "least", "most"] (defScope sWithin) := ⟨rfl, rfl, rfl, by decide +kernel, rfl, by decide +kernel, by decide +kernel⟩
theorem ok_within (F : Fun K "within" "within" sWithin f fd) : FnOk P w K mg base CX0 1 f fd ["number", "least", "most"] spWithin := by
  refine F.ok sc_within (fun vs H Q E h => ?_) (fun cdv A outer s H vs Q E hr h => ?_)
  · obtain ⟨a, b, c, rfl, _⟩ := h
    rfl
  · obtain ⟨a, b, c, rfl, k⟩ := h
    refine ⟨_, pss_one (ps_ret (pe_and (pe_cmpR op_le (pv 1) (pv 0) (nomark _)) (pe_one (pe_cmpR op_le (pv 0) (pv 2) (nomark _))))), ?_⟩
    exact s_retV (ev_andV (ev_i ev_v ev_v) fun _ => ev_i ev_v ev_v) k
end
end Sh
namespace Sh
open PySem PySem.Spec PyProof.Rows L2 Evl
/-! ### what the top has written -/
/-- a written dict of whole numbers -/
structure KTab (K : PySem.W.Frag) (a : Addr) (kvs : List (Int × Int)) : Prop where
  low : (a == sysModules) = false
  at_ : ∃ (es : Array DictEntry) (n : Nat), K.lookup a = some ⟨.type "dict", none, .dict es n, #[]⟩ ∧ (∀ e ∈ es, ∃ i t, e.key = .int i t ∧ e.hash = hashInt i) ∧
    ∀ i : Int, (∀ v, kvs.lookup i = some v → ∃ t, findBy Value.isInt es i = some (.int v t)) ∧ (kvs.lookup i = none → findBy Value.isInt es i = none)
structure Txt (K : PySem.W.Frag) (mg : Str → Option Value) (CA CS CL CP CD aM aF aW aL aP aN : Addr) : Prop where
  clA : Cls K CA
  clS : Cls K CS
  clL : Cls K CL
  clP : Cls K CP
  clD : Cls K CD
  nA_first : NoAttr K CA "first"
  nA_last : NoAttr K CA "last"
  nS_sizes : NoAttr K CS "sizes"
  nS_told : NoAttr K CS "told"
  nS_paper : NoAttr K CS "paper"
  nS_ahead : NoAttr K CS "ahead"
  nS_behind : NoAttr K CS "behind"
  nS_titles : NoAttr K CS "titles"
  nS_breaks : NoAttr K CS "breaks"
  nS_middle : NoAttr K CS "middle"
  nS_areas : NoAttr K CS "areas"
  nS_scale : NoAttr K CS "scale"
  nS_fit : NoAttr K CS "fit"
  nS_over : NoAttr K CS "over"
  nS_first : NoAttr K CS "first"
  nS_head : NoAttr K CS "head"
  nS_foot : NoAttr K CS "foot"
  nL_scale : NoAttr K CL "scale"
  nL_bands : NoAttr K CL "bands"
  nL_pages : NoAttr K CL "pages"
  nP_area : NoAttr K CP "area"
  nP_numbers : NoAttr K CP "numbers"
  nD_settings : NoAttr K CD "settings"
  nD_layout : NoAttr K CD "layout"
  gA : mg "Area" = some (.ref CA)
  gS : mg "Settings" = some (.ref CS)
  gL : mg "Layout" = some (.ref CL)
  gP : mg "Page" = some (.ref CP)
  gD : mg "Desk" = some (.ref CD)
  b_len : mg "len" = none
  b_range : mg "range" = none
  b_min : mg "min" = none
  b_sum : mg "sum" = none
  many : mg "MANY" = some (.ref aM)
  many_ : ∀ H, SqT K H aM [.int 4096, .int 256]
  firsts : mg "FIRST_SIZES" = some (.ref aF)
  firsts_ : ∀ H, SqT K H aF [.int 20, .int 64]
  wholes : mg "WHOLES" = some (.ref aW)
  wholes_ : ∀ H, SqT K H aW ([0, 4, 6, 0, 1, 1, 1, 2, 4, 0, 0, 1, 2, 1].map V.int)
  lists : mg "LISTS" = some (.ref aL)
  lists_ : ∀ H, SqT K H aL ([0, 0, 0, 1, 1, 1, 0, 0, 0, 2, 0, 0, 0, 0].map V.int)
  parts : mg "PARTS" = some (.ref aP)
  parts_ : KTab K aP [(76, 0), (67, 1), (82, 2)]
  numbers : mg "NUMBERS" = some (.ref aN)
  numbers_ : KTab K aN [(80, -1), (78, -2), (65, -3), (38, 38)]
  k_MOST_SIZE : ∃ t, mg "MOST_SIZE" = some (.int 10000 t)
  k_MOST_SIZES : ∃ t, mg "MOST_SIZES" = some (.int 200 t)
  k_MOST_PAPER : ∃ t, mg "MOST_PAPER" = some (.int 100000 t)
  k_MOST_AREAS : ∃ t, mg "MOST_AREAS" = some (.int 32 t)
  k_MOST_BREAKS : ∃ t, mg "MOST_BREAKS" = some (.int 500 t)
  k_LEAST_SCALE : ∃ t, mg "LEAST_SCALE" = some (.int 10 t)
  k_FIRST_SCALE : ∃ t, mg "FIRST_SCALE" = some (.int 100 t)
  k_MOST_SCALE : ∃ t, mg "MOST_SCALE" = some (.int 400 t)
  k_MOST_FIT : ∃ t, mg "MOST_FIT" = some (.int 1000 t)
  k_FARTHEST : ∃ t, mg "FARTHEST" = some (.int 1000000 t)
  k_OUT_OF_RANGE : ∃ t, mg "OUT_OF_RANGE" = some (.int (-1) t)
  k_TOO_MANY : ∃ t, mg "TOO_MANY" = some (.int (-5) t)
  k_AND : ∃ t, mg "AND" = some (.int 38 t)
  k_MIDDLE : ∃ t, mg "MIDDLE" = some (.int 67 t)
  k_MINUS : ∃ t, mg "MINUS" = some (.int 45 t)
  k_PAGE : ∃ t, mg "PAGE" = some (.int (-1) t)
  k_PAGES : ∃ t, mg "PAGES" = some (.int (-2) t)
  k_AREA : ∃ t, mg "AREA" = some (.int (-3) t)
  k_LONGEST : ∃ t, mg "LONGEST" = some (.int 255 t)
  k_NOT_TOLD : ∃ t, mg "NOT_TOLD" = some (.int (-3) t)
  k_NO_PAGE : ∃ t, mg "NO_PAGE" = some (.int (-6) t)
  k_HEADS : ∃ t, mg "HEADS" = some (.int 9 t)
/-- a def that stands as the text has it; one that keeps its promise -/
def Src (K : PySem.W.Frag) (mg : Str → Option Value) (x : Str) (st : Stmt) (ps : List Str) : Prop := ∃ f fd, Fun K x x st f fd ∧ mg x = some (.ref f) ∧ Binds K fd ps []
def Def (P : Program) (w : World) (K : PySem.W.Frag) (mg : Str → Option Value) (base : Heap) (k : Nat) (x : Str) (ps : List Str) (sp : Sp) : Prop :=
  ∃ f fd, mg x = some (.ref f) ∧ PySem.W.keepIn K (.ref f) = true ∧ Binds K fd ps [] ∧ FnOk P w K mg base CX0 k f fd ps sp
/-- a class whose instances are made so -/
def Cla (P : Program) (w : World) (K : PySem.W.Frag) (mg : Str → Option Value) (base : Heap) (k : Nat) (C : Addr) (ps : List Str) (sp : Sp) : Prop :=
  ∃ f fd, Mk K C f ∧ Binds K fd ps [] ∧ FnOk P w K mg base CX0 k f fd ps sp
section
variable {P : Program} {w : World} {K : PySem.W.Frag} {mg : Str → Option Value} {base : Heap} {x : Str} {st : Stmt} {ps N : List Str} {k : Nat} {sp : Sp}
theorem Def.mk (S : Src K mg x st ps) (h : ∀ f fd, Fun K x x st f fd → FnOk P w K mg base CX0 k f fd ps sp) : Def P w K mg base k x ps sp := by
  obtain ⟨f, fd, F, g, b⟩ := S
  exact ⟨f, fd, g, F.kp, b, h f fd F⟩
end
section
variable {X : Cx} {k : Nat} {ps : List Str} {sp : Sp} {x : Str} {p pos : Pos} {e : Expr} {es : List Expr} {t : TA} {C : Addr}
theorem pe_def (D : Def X.prog X.w X.K X.mg X.base k x ps sp) (hr : Room k X.A) (hg : Gl X x) (ha : PA X (e :: es) t) (hdb : (x == ("__debug__" : Str)) = false := by decide)
    (he : starEach (e :: es) X.env = (false, eval e X.env) :: starEach es X.env := by rfl) (hpl : (backTo pos (starEach es X.env)).any (·.1) = false := by rfl) : PE X (.Call (.Name x p) (e :: es) [] pos) (tCall sp [] E0 t) := by
  obtain ⟨f, fd, g, kp, b, F⟩ := D
  exact pe_call F hr hg g kp b .nil pass0 ha hdb he hpl
theorem pe_new (D : Cla X.prog X.w X.K X.mg X.base k C ps sp) (hr : Room (k + 1) X.A) (hg : Gl X x) (hm : X.mg x = some (.ref C)) (ha : PA X (e :: es) t) (hdb : (x == ("__debug__" : Str)) = false := by decide)
    (he : starEach (e :: es) X.env = (false, eval e X.env) :: starEach es X.env := by rfl) (hpl : (backTo pos (starEach es X.env)).any (·.1) = false := by rfl) : PE X (.Call (.Name x p) (e :: es) [] pos) (tMake C sp [] E0 t) := by
  obtain ⟨f, fd, M, b, F⟩ := D
  exact pe_make M F hr hg hm b .nil pass0 ha hdb he hpl
theorem pe_new0 (D : Cla X.prog X.w X.K X.mg X.base k C ps sp) (hr : Room (k + 1) X.A) (hg : Gl X x) (hm : X.mg x = some (.ref C)) (hdb : (x == ("__debug__" : Str)) = false := by decide) : PE X (.Call (.Name x p) [] [] pos) (tMake C sp [] E0 tNil) := by
  obtain ⟨f, fd, M, b, F⟩ := D
  exact pe_make0 M F hr hg hm b .nil pass0 hdb
/-- a tuple, a table of the top by its name -/
theorem pe_kr {a : Addr} (hg : Gl X x) (h : X.mg x = some (.ref a)) (hd : (x == ("__debug__" : Str)) = false := by decide) : PE X (.Name x pos) (tC (.ref a)) := pe_glob hg h rfl hd
end
/-! ### reading the settings -/
section
variable {K : PySem.W.Frag} {mg : Str → Option Value} {CA CS CL CP CD aM aF aW aL aP aN : Addr} {σ : L2.St} {H : Hp} {st : Addr} {A : Ads} {s : Si32.St} {ta tb : TE} {r : Bool}
theorem SetAt.fld (S : SetAt CS CA H st A s) (hc : Cls K CS) {f : Str} {v : V} (hn : NoAttr K CS f) (hl : (fsS A s).lookup f = some v) (ha : Ev ta σ H (.ref st)) : Ev (tFld K ta f) σ H v := by
  obtain ⟨dx, h⟩ := S.ins
  exact ev_fld ha h hc hn hl
theorem ev_two {p : Addr} {x y : V} (ha : Ev ta σ H (.ref p)) (hb : Ev tb σ H (.int (wi r))) (h : H p = some (.lst [x, y])) : Ev (tOp (rIxL K) ta tb) σ H (if r then x else y) := ev_ixL ha hb (sq_of h) (at_two r)
theorem ev_twoT {p : Addr} {x y : V} (ha : Ev ta σ H (.ref p)) (hb : Ev tb σ H (.int (wi r))) (h : SqT K H p [x, y]) : Ev (tOp (rIxT K) ta tb) σ H (if r then x else y) := ev_ixT ha hb h (at_two r)
def Ads.sz (A : Ads) (r : Bool) : Addr := if r then A.sr else A.sc
def Ads.tv (A : Ads) (r : Bool) : V := if r then A.t0 else A.t1
def Ads.bd (A : Ads) (r : Bool) : Addr := if r then A.b0 else A.b1
def Ads.fv (A : Ads) (r : Bool) : Int := if r then A.fx else A.fy
variable (T : Txt K mg CA CS CL CP CD aM aF aW aL aP aN) (S : SetAt CS CA H st A s) (ha : Ev ta σ H (.ref st)) (hb : Ev tb σ H (.int (wi r)))
include T S ha in
theorem S_areas : Ev (tFld K ta "areas") σ H (.ref A.ar) := S.fld T.clS T.nS_areas rfl ha
include T S ha in
theorem S_scale : Ev (tFld K ta "scale") σ H (scV s.scale) := S.fld T.clS T.nS_scale rfl ha
include T S ha in
theorem S_over : Ev (tFld K ta "over") σ H (bV s.over) := S.fld T.clS T.nS_over rfl ha
include T S ha in
theorem S_first : Ev (tFld K ta "first") σ H (.int s.first) := S.fld T.clS T.nS_first rfl ha
include T S ha in
theorem S_head : Ev (tFld K ta "head") σ H (.ref A.hd) := S.fld T.clS T.nS_head rfl ha
include T S ha in
theorem S_foot : Ev (tFld K ta "foot") σ H (.ref A.ft) := S.fld T.clS T.nS_foot rfl ha
include T S ha in
theorem S_titles : Ev (tFld K ta "titles") σ H (.ref A.ti) := S.fld T.clS T.nS_titles rfl ha
include T S ha in
theorem S_breaks : Ev (tFld K ta "breaks") σ H (.ref A.bk) := S.fld T.clS T.nS_breaks rfl ha
include T S ha in
theorem S_told : Ev (tFld K ta "told") σ H (.ref A.tl) := S.fld T.clS T.nS_told rfl ha
include T S ha in
theorem S_sizes : Ev (tFld K ta "sizes") σ H (.ref A.sl) := S.fld T.clS T.nS_sizes rfl ha
include T S ha hb
theorem S_sizes2 : Ev (tOp (rIxL K) (tFld K ta "sizes") tb) σ H (.ref (A.sz r)) := ev_is (ev_two (S_sizes T S ha) hb S.sl.1) (by cases r <;> rfl)
theorem S_told2 : Ev (tOp (rIxL K) (tFld K ta "told") tb) σ H (nV (s.way r).told.length) := ev_is (ev_two (S_told T S ha) hb S.tl) (by cases r <;> rfl)
theorem S_titles2 : Ev (tOp (rIxL K) (tFld K ta "titles") tb) σ H (A.tv r) := ev_is (ev_two (S_titles T S ha) hb S.ti) (by cases r <;> rfl)
theorem S_breaks2 : Ev (tOp (rIxL K) (tFld K ta "breaks") tb) σ H (.ref (A.bd r)) := ev_is (ev_two (S_breaks T S ha) hb S.bk) (by cases r <;> rfl)
theorem S_paper2 : Ev (tOp (rIxL K) (tFld K ta "paper") tb) σ H (nV (if r then s.paper.height else s.paper.width)) := ev_is (ev_two (S.fld T.clS T.nS_paper rfl ha) hb S.pl.1) (by cases r <;> rfl)
theorem S_ahead2 : Ev (tOp (rIxL K) (tFld K ta "ahead") tb) σ H (nV (edg s r)) := ev_is (ev_two (S.fld T.clS T.nS_ahead rfl ha) hb S.al.1) (by cases r <;> rfl)
theorem S_behind2 : Ev (tOp (rIxL K) (tFld K ta "behind") tb) σ H (nV (if r then s.paper.bottom else s.paper.right)) := ev_is (ev_two (S.fld T.clS T.nS_behind rfl ha) hb S.bl.1) (by cases r <;> rfl)
theorem S_middle2 : Ev (tOp (rIxL K) (tFld K ta "middle") tb) σ H (bV (mid s r)) := ev_is (ev_two (S.fld T.clS T.nS_middle rfl ha) hb S.mi.1) (by cases r <;> rfl)
theorem S_fit2 : Ev (tOp (rIxL K) (tFld K ta "fit") tb) σ H (.int (A.fv r)) := ev_is (ev_two (S.fld T.clS T.nS_fit rfl ha) hb S.fi.1) (by cases r <;> rfl)
end
end Sh
namespace Sh
open PySem PySem.Spec PyProof.Rows L2 Evl
/-! ### more readings -/
section
variable {K : PySem.W.Frag} {σ : L2.St} {H : Hp} {ta tb te : TE} {x v : V} {D : Ends} {tz : TS}
theorem rv_isN : RV (fun x y H Q => y = .non ∧ Q (.bl (decide (x = .non))) H) x .non H (.bl (decide (x = .non))) := fun H1 _ _ q => ⟨rfl, q H1 (Ex.refl H1)⟩
theorem rv_notN : RV (fun x y H Q => y = .non ∧ Q (.bl (!decide (x = .non))) H) x .non H (.bl (!decide (x = .non))) := fun H1 _ _ q => ⟨rfl, q H1 (Ex.refl H1)⟩
theorem ev_isN (ha : Ev ta σ H x) : Ev (tOp (fun x y H Q => y = .non ∧ Q (.bl (decide (x = .non))) H) ta (tC .non)) σ H (.bl (decide (x = .non))) := ev_op ha ev_c rv_isN
theorem ev_notN (ha : Ev ta σ H x) : Ev (tOp (fun x y H Q => y = .non ∧ Q (.bl (!decide (x = .non))) H) ta (tC .non)) σ H (.bl (!decide (x = .non))) := ev_op ha ev_c rv_notN
theorem ev_min {i j : Int} (ha : Ev ta σ H (.int i)) (hb : Ev tb σ H (.int j)) : Ev (tCB (fun xs H Q => ∃ i j, xs = [.int i, .int j] ∧ Q (.int (if j < i then j else i)) H) (tCons ta (tCons tb tNil))) σ H (.int (if j < i then j else i)) := fun H1 e Q q =>
  ha H1 e _ fun H2 e2 => hb H2 (e.trans e2) _ fun H3 e3 => ⟨i, j, rfl, q H3 (e2.trans e3)⟩
theorem ev_lenS {p : Addr} {xs : List V} {n : Nat} (ha : Ev ta σ H (.ref p)) (h : SqL K H p xs) (hn : xs.length = n) : Ev (tCB (fun xs H Q => ∃ p ys, xs = [.ref p] ∧ (SqL K H p ys ∨ SqT K H p ys) ∧ Q (.int ys.length) H) (tCons ta tNil)) σ H (nV n) := fun H1 e Q q =>
  ha H1 e _ fun H2 e2 => ⟨p, xs, rfl, Or.inl (ex_l (e.trans e2) h), by rw [hn]; exact q H2 e2⟩
/-- a, b = a tuple that stands, a new one -/
theorem q_unT {a : Addr} {xs : List V} {n : Nat} {g : TGs} (h : Ev te σ H (.ref a)) (hx : SqT K H a xs) (hn : xs.length = n) (k : ∀ H1, Ex H H1 → g xs σ H1 (tz D)) : tSeq (tAsg te (gTup K n g)) tz D σ H :=
  h H (Ex.refl H) _ fun H1 e => ⟨a, xs, rfl, ex_t e hx, hn, k H1 e⟩
theorem q_unB {xs : List V} {n : Nat} {g : TGs} (h : EvB te σ H (TupB xs)) (hn : xs.length = n) (k : ∀ H1, Ex H H1 → g xs σ H1 (tz D)) : tSeq (tAsg te (gTup K n g)) tz D σ H :=
  h H (Ex.refl H) _ fun p H1 e hp => ⟨p, xs, rfl, st_of hp.2, hn, k H1 e⟩
theorem g_two {i j : Nat} {x y : V} {Q : L2.St → Hp → Prop} (q : Q ((σ.set i (some x)).set j (some y)) H) : gCons (gName i) (gCons (gName j) gNil) [x, y] σ H Q := ⟨x, [y], rfl, y, [], rfl, rfl, q⟩
theorem ea1 {x : V} (h : Ev ta σ H x) : EvA (tCons ta tNil) σ H [x] := ea_cons h ea_nil
theorem ea2 {x y : V} {tb : TE} (h : Ev ta σ H x) (h2 : Ev tb σ H y) : EvA (tCons ta (tCons tb tNil)) σ H [x, y] := ea_cons h (ea1 h2)
theorem eb_tup {ta : TA} {vs : List V} (h : EvA ta σ H vs) (hl : vs.length ≤ 100000) : EvB (tTup ta) σ H (TupB vs) := eb_U (eu_tup h hl)
theorem eb_lst {ta : TA} {vs : List V} (h : EvA ta σ H vs) (hl : vs.length ≤ 100000) : EvB (tLst ta) σ H (LstB vs) := eb_L (el_lst h hl)
end
/-- sums of the sizes -/
def sumsV (w : Si32.Way) (n : Nat) : List V := (List.range (n + 1)).map fun i => nV (pre w i)
theorem at_sums (w : Si32.Way) {n i : Nat} {z : Int} (e : z = (i : Int)) (h : i ≤ n) : atI (sumsV w n) z = some (nV (pre w i)) := by
  refine at_of e ?_
  unfold sumsV
  rw [List.getElem?_map, List.getElem?_range (by omega)]
  rfl
theorem mostOf_le (r : Bool) : mostOf r ≤ 4096 := by cases r <;> decide
section
variable {P : Program} {w : World} {K : PySem.W.Frag} {mg : Str → Option Value} {base : Heap} {CA CS CL CP CD aM aF aW aL aP aN : Addr}
/-! ### space_of, is_span -/
abbrev sSpace : Stmt := top 18
def spSpace (CS CA : Addr) : Sp := fun vs H Q _ => ∃ st A s r, vs = [.ref st, .int (wi r)] ∧ SetAt CS CA H st A s ∧ RetV (nV (spc s r)) H Q
theorem sc_space : FnScope ["settings", "way"] ["settings", "way"] (defScope sSpace) := ⟨rfl, rfl, rfl, by decide +kernel, rfl, by decide +kernel, by decide +kernel⟩
theorem d_space (T : Txt K mg CA CS CL CP CD aM aF aW aL aP aN) (F0 : Src K mg "space_of" sSpace ["settings", "way"]) : Def P w K mg base 1 "space_of" ["settings", "way"] (spSpace CS CA) := by
  refine .mk F0 fun f fd F => F.ok sc_space (fun vs H Q E h => ?_) (fun cdv A outer s H vs Q E hr h => ?_)
  · obtain ⟨_, _, _, _, rfl, _⟩ := h
    rfl
  · obtain ⟨st, A, s, r, rfl, S, k⟩ := h
    refine ⟨_, pss_one (ps_ret (pe_op op_sub (pe_op op_sub (pe_ix ix_list (pe_fld (pv 0) rfl) (pv 1) (fun _ _ => rfl)) (pe_ix ix_list (pe_fld (pv 0) rfl) (pv 1) (fun _ _ => rfl))) (pe_ix ix_list (pe_fld (pv 0) rfl) (pv 1) (fun _ _ => rfl)))), ?_⟩
    refine s_retV (ev_is (ev_i (ev_i (S_paper2 T S ev_v ev_v) (S_ahead2 T S ev_v ev_v)) (S_behind2 T S ev_v ev_v)) ?_) k
    refine congrArg V.int ?_
    have := S.good.space r
    cases r <;> exact this
abbrev sSpan : Stmt := top 19
def spSpan : Sp := fun vs H Q _ => ∃ (r : Bool) (a b : Nat), vs = [.int (wi r), nV a, nV b] ∧ RetV (.bl (decide (a ≤ b ∧ b < mostOf r))) H Q
theorem sc_span : FnScope ["way", "first", "last"] ["way", "first", "last"] (defScope sSpan) := ⟨rfl, rfl, rfl, by decide +kernel, rfl, by decide +kernel, by decide +kernel⟩
theorem d_span (T : Txt K mg CA CS CL CP CD aM aF aW aL aP aN) (F0 : Src K mg "is_span" sSpan ["way", "first", "last"]) : Def P w K mg base 1 "is_span" ["way", "first", "last"] spSpan := by
  refine .mk F0 fun f fd F => F.ok sc_span (fun vs H Q E h => ?_) (fun cdv A outer s H vs Q E hr h => ?_)
  · obtain ⟨_, _, _, rfl, _⟩ := h
    rfl
  · obtain ⟨r, a, b, rfl, k⟩ := h
    refine ⟨_, pss_one (ps_ret (pe_and (pe_cmpR op_le (pv 1) (pv 2) (nomark _)) (pe_one (pe_cmpR op_lt (pv 2) (pe_ix ix_tup (pe_kr rfl T.many) (pv 0) (fun _ _ => rfl)) (nomark _))))), ?_⟩
    refine s_retV (ev_is (ev_andV (b := decide ((b : Int) < mostOf r)) (ev_i ev_v ev_v) fun _ => ev_is (ev_i ev_v (ev_is (w := nV (mostOf r)) (ev_twoT ev_c ev_v (T.many_ _)) (by cases r <;> rfl))) rfl) ?_) k
    refine congrArg V.bl ?_
    rw [Bool.eq_iff_iff]
    simp only [Bool.and_eq_true, decide_eq_true_iff]
    omega
/-! ### what comes again -/
abbrev sAgSpan : Stmt := top 32
def spAgSpan (CS CA : Addr) : Sp := fun vs H Q _ => ∃ st A s r, ∃ i : Nat, vs = [.ref st, .int (wi r), nV i] ∧ SetAt CS CA H st A s ∧ RetB (TupB [nV (again0 (s.way r) i), nV (again1 (s.way r) i)]) H Q
theorem sc_agspan : FnScope ["settings", "way", "first", "start", "last"] ["settings", "way", "first"] (defScope sAgSpan) := ⟨rfl, rfl, rfl, by decide +kernel, rfl, by decide +kernel, by decide +kernel⟩
theorem min_nat (a b : Nat) : (if (b : Int) < (a : Int) then (b : Int) else (a : Int)) = ((min a b : Nat) : Int) := by
  split <;> omega
theorem tit_of {CS CA : Addr} {H : Hp} {st : Addr} {A : Ads} {s : Si32.St} (S : SetAt CS CA H st A s) (r : Bool) : TitAt (A.mut st) H (A.tv r) (s.way r).titles := by
  cases r
  · exact S.t1
  · exact S.t0
theorem d_agspan (T : Txt K mg CA CS CL CP CD aM aF aW aL aP aN) (F0 : Src K mg "again_span" sAgSpan ["settings", "way", "first"]) : Def P w K mg base 1 "again_span" ["settings", "way", "first"] (spAgSpan CS CA) := by
  refine .mk F0 fun f fd F => F.ok sc_agspan (fun vs H Q E h => ?_) (fun cdv A outer s H vs Q E hr h => ?_)
  · obtain ⟨_, _, _, _, _, rfl, _⟩ := h
    rfl
  · obtain ⟨st, A, s, r, i, rfl, S, k⟩ := h
    refine ⟨_, pss_cons (ps_if (pt_cmpR op_isN (pe_ix ix_list (pe_fld (pv 0) rfl) (pv 1) (fun _ _ => rfl)) pe_non (nomark _)) (pss_one (ps_ret (pe_tup (pa_cons pe_int (pa_cons pe_int pa_nil))))) pss_nil)
      (pss_cons (ps_asg (pe_ix ix_list (pe_fld (pv 0) rfl) (pv 1) (fun _ _ => rfl)) (pg_tup rfl (pgs_cons (pg_name (i := 3) sc_agspan.nd rfl (.inl rfl)) (pgs_cons (pg_name (i := 4) sc_agspan.nd rfl (.inl rfl)) pgs_nil))))
      (pss_one (ps_ret (pe_tup (pa_cons (pe_callB (call_min2 rfl) (by rfl) T.b_min (by decide +kernel) (pa_cons (pv 3) (pa_cons (pv 2) pa_nil))) (pa_cons (pe_callB (call_min2 rfl) (by rfl) T.b_min (by decide +kernel) (pa_cons (pe_op op_add (pv 4) pe_int) (pa_cons (pv 2) pa_nil))) pa_nil)))))), ?_⟩
    have ht := tit_of S r
    refine q_when (et_test (ev_isN (S_titles2 T S ev_v ev_v))) (fun c H1 e => ?_) (fun c H1 e => ?_)
    · have c := of_decide_eq_true c
      have e2 : (s.way r).titles = none := by
        cases q : (s.way r).titles with
        | none => rfl
        | some t =>
          rw [q] at ht
          obtain ⟨p, h1, _⟩ := ht
          rw [h1] at c
          cases c
      have z : [nV (again0 (s.way r) i), nV (again1 (s.way r) i)] = [V.int 0, V.int 0] := by
        unfold again0 again1
        rw [e2]
        rfl
      rw [z] at k
      exact s_retB (eb_tup (ea2 ev_c ev_c) (by decide)) (k.mono (TupB.anti _) e)
    · have c := of_decide_eq_false c
      cases q : (s.way r).titles with
      | none =>
        rw [q] at ht
        exact absurd ht c
      | some t =>
        rw [q] at ht
        obtain ⟨p, h1, h2⟩ := ht
        refine q_unT (ev_is (S_titles2 T (S.ex e) ev_v ev_v) h1) (st_of (e _ _ h2.1)) rfl fun H2 e2 => g_two ?_
        have z : [nV (again0 (s.way r) i), nV (again1 (s.way r) i)] = [V.int (if (i : Int) < (t.1 : Int) then (i : Int) else t.1), V.int (if (i : Int) < (t.2 : Int) + 1 then (i : Int) else (t.2 : Int) + 1)] := by
          unfold again0 again1
          rw [q]
          have e1 := min_nat t.1 i
          have e2 := min_nat (t.2 + 1) i
          rw [e1, show (t.2 : Int) + 1 = ((t.2 + 1 : Nat) : Int) by omega, e2]
        rw [z] at k
        exact s_retB (eb_tup (ea2 (ev_min ev_v ev_v) (ev_min (ev_i ev_v ev_c) ev_v)) (by show 2 ≤ 100000; decide)) (k.mono (TupB.anti _) (e.trans e2))
abbrev sAgSize : Stmt := top 33
def spAgSize (CS CA : Addr) : Sp := fun vs H Q _ => ∃ st A s r p, ∃ i : Nat, vs = [.ref st, .int (wi r), .ref p, nV i] ∧ SetAt CS CA H st A s ∧ H p = some (.lst (sumsV (s.way r) (mostOf r))) ∧ i ≤ mostOf r ∧ RetV (nV (agz (s.way r) i)) H Q
theorem sc_agsize : FnScope ["settings", "way", "sums", "first", "start", "behind"] ["settings", "way", "sums", "first"] (defScope sAgSize) := ⟨rfl, rfl, rfl, by decide +kernel, rfl, by decide +kernel, by decide +kernel⟩
theorem d_agsize (T : Txt K mg CA CS CL CP CD aM aF aW aL aP aN) (F0 : Src K mg "again_size" sAgSize ["settings", "way", "sums", "first"]) (D1 : Def P w K mg base 1 "again_span" ["settings", "way", "first"] (spAgSpan CS CA)) :
    Def P w K mg base 2 "again_size" ["settings", "way", "sums", "first"] (spAgSize CS CA) := by
  refine .mk F0 fun f fd F => F.ok sc_agsize (fun vs H Q E h => ?_) (fun cdv A outer s H vs Q E hr h => ?_)
  · obtain ⟨_, _, _, _, _, _, rfl, _⟩ := h
    rfl
  · obtain ⟨st, A, s, r, p, i, rfl, S, hp, hi, k⟩ := h
    refine ⟨_, pss_cons (ps_asg (pe_def D1 hr rfl (pa_cons (pv 0) (pa_cons (pv 1) (pa_cons (pv 3) pa_nil)))) (pg_tup rfl (pgs_cons (pg_name (i := 4) sc_agsize.nd rfl (.inl rfl)) (pgs_cons (pg_name (i := 5) sc_agsize.nd rfl (.inl rfl)) pgs_nil))))
      (pss_one (ps_ret (pe_op op_sub (pe_ix ix_list (pv 2) (pv 5) (fun _ _ => rfl)) (pe_ix ix_list (pv 2) (pv 4) (fun _ _ => rfl))))), ?_⟩
    have le := again_le (S.good.way r).tit i
    refine q_unB (eb_callS (TupB.anti _) (ea_cons ev_v (ea_cons ev_v (ea1 ev_v))) fun H1 e Q q => ⟨st, A, s, r, i, rfl, S.ex e, q⟩) rfl fun H1 e => g_two ?_
    refine s_retV (ev_is (ev_i (ev_ixL ev_v ev_v (sq_of (e _ _ hp)) (at_sums _ rfl (by omega))) (ev_ixL ev_v ev_v (sq_of (e _ _ hp)) (at_sums _ rfl (by omega)))) ?_) (RetV.mono k e)
    exact congrArg V.int (again_int (S.good.way r).tit i)
end
end Sh
namespace Sh
open PySem PySem.Spec PyProof.Rows L2 Evl
/-! ### a list of two by a comprehension over the ways -/
def TwoB (P0 P1 : PB) : PB := fun H0 p H => H0 p = none ∧ ∃ p0 p1, H p = some (.lst [.ref p0, .ref p1]) ∧ P0 H0 p0 H ∧ P1 H0 p1 H
def Firm (P : PB) : Prop := ∀ H0 p H H', On H0 H H' → P H0 p H → P H0 p H'
theorem LstB.firm (xs : List V) : Firm (LstB xs) := fun H0 p H H' e h => ⟨h.1, e _ _ h.1 h.2⟩
theorem TupB.firm (xs : List V) : Firm (TupB xs) := fun H0 p H H' e h => ⟨h.1, e _ _ h.1 h.2⟩
theorem BandsB.firm (l : List Si32.Band) : Firm (BandsB l) := fun H0 p H H' e h => BandsAt.on h e
theorem TwoB.anti {P0 P1 : PB} (a0 : Anti P0) (a1 : Anti P1) : Anti (TwoB P0 P1) := fun H H1 p H2 e ⟨h1, p0, p1, h2, h3, h4⟩ => ⟨fresh_back e h1, p0, p1, h2, a0 _ _ _ _ e h3, a1 _ _ _ _ e h4⟩
theorem TwoB.firm {P0 P1 : PB} (a0 : Firm P0) (a1 : Firm P1) : Firm (TwoB P0 P1) := fun H0 p H H' e ⟨h1, p0, p1, h2, h3, h4⟩ => ⟨h1, p0, p1, e _ _ h1 h2, a0 _ _ _ _ e h3, a1 _ _ _ _ e h4⟩
theorem on_upd {H0 H : Hp} {p : Addr} {o : HO} (h : ¬ H0 p = none) : On H0 H (upd H p o) := fun b u h0 e => by
  rw [upd_ne (fun z => h (by rw [← z]; exact h0))]
  exact e
theorem On.trans {H0 H H1 H2 : Hp} (a : On H0 H H1) (b : On H0 H1 H2) : On H0 H H2 := fun c o h0 h => b c o h0 (a c o h0 h)
theorem not_none {H : Hp} {p : Addr} {o : HO} (h : H p = some o) : ¬ H p = none := fun e => by
  rw [h] at e
  cases e
theorem eb_two {te : TE} {σ : L2.St} {H : Hp} {j : Nat} {P : Bool → PB} (an : ∀ r, Anti (P r)) (fi : ∀ r, Firm (P r)) (hw : ∀ x, wipe ((wipe σ [j]).set j (some x)) [j] = wipe σ [j])
    (he : ∀ r H1, Ex H H1 → EvB te ((wipe σ [j]).set j (some (.int (wi r)))) H1 (P r)) : EvB (tLc (iRng1 (tCons (tC (.int 2)) tNil)) (gName j) tYes te [j]) σ H (TwoB (P true) (P false)) := fun H1 e Q q =>
  ⟨2, rfl, by decide, by decide, fun L hL => by
    have hHL : H L = none := fresh_back e hL
    refine lc_range (lo := 0) (n := 2) (fun i H' => match i with
      | 0 => H' = upd H1 L (.lst [])
      | 1 => ∃ p0, Ex H1 H' ∧ H' L = some (.lst [.ref p0]) ∧ P true (upd H1 L (.lst [])) p0 H'
      | _ => TwoB (P true) (P false) H1 L H' ∧ Ex H1 H') rfl ?_ (fun H' h => q L H' h.2 h.1)
    intro i H' hi hp
    match i, hi, hp with
    | 0, _, hp =>
      subst hp
      refine ⟨hw _, ?_⟩
      show te ((wipe σ [j]).set j (some (.int (wi true)))) (upd H1 L (.lst [])) _
      refine he true (upd H1 L (.lst [])) (Ex.mut e hHL) _ (Ex.refl _) _ fun p0 H2 e2 h2 => ⟨[], e2 _ _ upd_same, by decide, p0, ?_, upd_same, fi true _ _ _ _ (on_upd (not_none upd_same)) h2⟩
      exact Ex.mut ((Ex.new hL).trans e2) hL
    | 1, _, ⟨p0, e0, hD, h0⟩ =>
      refine ⟨hw _, ?_⟩
      show te ((wipe σ [j]).set j (some (.int (wi false)))) H' _
      refine he false H' (e.trans e0) _ (Ex.refl _) _ fun p1 H2 e2 h2 => ⟨[.ref p0], e2 _ _ hD, by show 1 < sizeLine; decide, ⟨hL, p0, p1, upd_same, ?_, ?_⟩, Ex.mut (e0.trans e2) hL⟩
      · exact an true _ _ _ _ (Ex.new hL) (fi true _ _ _ _ ((On.of e2).trans (on_upd (not_none upd_same))) h0)
      · exact an false _ _ _ _ e0 (fi false _ _ _ _ (on_upd (not_none hD)) h2)⟩
/-! ### sums_of -/
abbrev sSums : Stmt := top 31
def spSums : Sp := fun vs H Q _ => ∃ (p : Addr) (w : Si32.Way) (n : Nat), vs = [.ref p] ∧ H p = some (.lst (sizesV w n)) ∧ n ≤ 4096 ∧ RetB (LstB (sumsV w n)) H Q
theorem sumsV_succ (w : Si32.Way) (n : Nat) : sumsV w (n + 1) = sumsV w n ++ [nV (pre w (n + 1))] := by
  unfold sumsV
  rw [List.range_succ, List.map_append]
  rfl
theorem sumsV_len (w : Si32.Way) (n : Nat) : (sumsV w n).length = n + 1 := by
  unfold sumsV
  rw [List.length_map, List.length_range]
theorem sizesV_len (w : Si32.Way) (n : Nat) : (sizesV w n).length = n := by
  unfold sizesV
  rw [List.length_map, List.length_range]
theorem sizesV_get {w : Si32.Way} {n i : Nat} {x : V} (h : (sizesV w n)[i]? = some x) : i < n ∧ x = nV (w.size i) := by
  unfold sizesV at h
  rw [List.getElem?_map] at h
  by_cases hi : i < n
  · rw [List.getElem?_range hi] at h
    exact ⟨hi, (Option.some.inj h).symm⟩
  · rw [List.getElem?_eq_none (by rw [List.length_range]; omega)] at h
    cases h
section
variable {P : Program} {w : World} {K : PySem.W.Frag} {mg : Str → Option Value} {base : Heap} {CA CS CL CP CD aM aF aW aL aP aN : Addr}
theorem sc_sums : FnScope ["sizes", "found", "size"] ["sizes"] (defScope sSums) := ⟨rfl, rfl, rfl, by decide +kernel, rfl, by decide +kernel, by decide +kernel⟩
theorem d_sums (F0 : Src K mg "sums_of" sSums ["sizes"]) : Def P w K mg base 1 "sums_of" ["sizes"] spSums := by
  refine .mk F0 fun f fd F => F.ok sc_sums (fun vs H Q E h => ?_) (fun cdv A outer s H vs Q E hr h => ?_)
  · obtain ⟨_, _, _, rfl, _⟩ := h
    rfl
  · obtain ⟨p, w', n, rfl, hp, hn, k⟩ := h
    refine ⟨_, pss_cons (ps_set (i := 1) sc_sums.nd rfl (.inl rfl) (pe_lst (pa_cons pe_int pa_nil)))
      (pss_cons (ps_for PassesOwn.never rfl (pi_list (pv 0)) (pg_name (i := 2) sc_sums.nd rfl (.inl rfl))
        (pss_one (ps_expr (pe_bm PySem.F.plainAttrs_list PySem.F.slot_list_append PySem.F.type_list_append mt_append (pv 1) (pa_cons (pe_op op_add (pe_ix ix_list (pv 1) (pe_un un_neg pe_int) (fun _ _ => rfl)) (pv 2)) pa_nil)))))
      (pss_one (ps_ret (pv 1)))), ?_⟩
    refine q_asgL (el_lst (ea1 ev_c) (by decide)) fun q H1 hq e hq1 => ?_
    refine q_forLn (a := p) (xs := sizesV w' n) ev_v (sq_of (e _ _ hp)) (fun i σ H' => ∃ v, σ = [some (.ref p), some (.ref q), v] ∧ Ex H H' ∧ H' q = some (.lst (sumsV w' i))) (fun H2 e2 => ⟨none, rfl, e.trans e2, e2 _ _ hq1⟩)
      (fun i σ H' _ ⟨_, _, e2, _⟩ => sq_of (e2 _ _ hp)) ?_ ?_
    · rintro i x σ H' hi ⟨v, rfl, e2, h2⟩
      obtain ⟨hin, rfl⟩ := sizesV_get hi
      have last : atI (sumsV w' i) (-1) = some (nV (pre w' i)) := by
        cases i with
        | zero => rfl
        | succ i => rw [sumsV_succ]; exact atI_last _ _
      refine s_app h2 ev_v (ev_i (ev_ixL ev_v (ev_un ev_c ru_neg) (sq_of h2) last) ev_v) (by rw [sumsV_len]; omega) fun H3 e3 => ?_
      refine ⟨_, rfl, Ex.mut (e2.trans e3) hq, ?_⟩
      rw [sumsV_succ, pre_succ]
      exact upd_same
    · rintro σ H' ⟨v, rfl, e2, h2⟩
      rw [sizesV_len] at h2
      exact s_retV ev_v fun H3 e3 => k q H3 (e2.trans e3) ⟨hq, e3 _ _ h2⟩
/-! ### both_sums -/
abbrev sBoth : Stmt := top 38
def BothB (s : Si32.St) : PB := TwoB (LstB (sumsV s.rows 4096)) (LstB (sumsV s.cols 256))
def spBoth (CS CA : Addr) : Sp := fun vs H Q _ => ∃ st A s, vs = [.ref st] ∧ SetAt CS CA H st A s ∧ RetB (BothB s) H Q
theorem sc_both : FnScope ["settings", "way"] ["settings"] (defScope sBoth) := ⟨rfl, rfl, rfl, by decide +kernel, rfl, by decide +kernel, by decide +kernel⟩
theorem size_at {CS CA : Addr} {H : Hp} {st : Addr} {A : Ads} {s : Si32.St} (S : SetAt CS CA H st A s) (r : Bool) : H (A.sz r) = some (.lst (sizesV (s.way r) (mostOf r))) := by
  cases r
  · exact S.sc
  · exact S.sr
theorem d_both (T : Txt K mg CA CS CL CP CD aM aF aW aL aP aN) (F0 : Src K mg "both_sums" sBoth ["settings"]) (D1 : Def P w K mg base 1 "sums_of" ["sizes"] spSums) : Def P w K mg base 2 "both_sums" ["settings"] (spBoth CS CA) := by
  refine .mk F0 fun f fd F => F.ok sc_both (fun vs H Q E h => ?_) (fun cdv A outer s H vs Q E hr h => ?_)
  · obtain ⟨_, _, _, rfl, _⟩ := h
    rfl
  · obtain ⟨st, A, s, rfl, S, k⟩ := h
    refine ⟨_, pss_one (ps_ret (pe_lc (own := [("way", 1)]) (g := gName 1) (tt := tYes) (te := tCall spSums [] E0 (tCons (tOp (rIxL K) (tFld K (tVar 0) "sizes") (tVar 1)) tNil)) rfl sc_both.nd (pi_range1 rfl T.b_range (pa_cons pe_int pa_nil)) (blkOk_by (own := [("way", 1)]) (N := ["settings", "way"]) (sc := defScope sBoth) (by decide +kernel))
      (fun _ _ _ _ _ => pg_name (i := 1) sc_both.nd rfl (Or.inl rfl)) (fun _ _ _ _ _ => pts_nil) (fun _ _ _ _ _ => by exact pe_def D1 hr rfl (pa_cons (pe_ix ix_list (pe_fld (pv 0) rfl) (pv 1) (fun _ _ => rfl)) pa_nil)))), ?_⟩
    refine s_retB (eb_two (P := fun r => LstB (sumsV (s.way r) (mostOf r))) (fun r => LstB.anti _) (fun r => LstB.firm _) (fun x => rfl) fun r H1 e => ?_) k
    exact eb_callS (LstB.anti _) (ea1 (S_sizes2 T (S.ex e) ev_v ev_v)) fun H2 e2 Q q => ⟨A.sz r, s.way r, mostOf r, rfl, e2 _ _ (e _ _ (size_at S r)), mostOf_le r, q⟩
end
end Sh
namespace Sh
open PySem PySem.Spec PyProof.Rows L2 Evl
theorem le_cast (x y a b : Nat) : decide ((x : Int) * (y : Int) ≤ (a : Int) * (b : Int)) = decide (x * y ≤ a * b) := by
  rw [Bool.eq_iff_iff, decide_eq_true_iff, decide_eq_true_iff, ← Int.natCast_mul, ← Int.natCast_mul]
  omega
theorem cmul_r {i : Int} {n : Nat} (h : n ≤ 4096) : CMul i (n : Int) := Or.inr ⟨by omega, by omega⟩
theorem cmul_l {j : Int} {n : Nat} (h : n ≤ 4096) : CMul (n : Int) j := Or.inl ⟨by omega, by omega⟩
theorem decV (i j : Int) : decide (V.int i = V.int j) = decide (i = j) := by
  rw [Bool.eq_iff_iff, decide_eq_true_iff, decide_eq_true_iff]
  exact ⟨fun h => by injection h, fun h => by rw [h]⟩
section
variable {P : Program} {w : World} {K : PySem.W.Frag} {mg : Str → Option Value} {base : Heap} {CA CS CL CP CD aM aF aW aL aP aN : Addr}
/-! ### has_room -/
abbrev sRoom : Stmt := top 34
def spRoom (CS CA : Addr) : Sp := fun vs H Q _ => ∃ st A s r p b, ∃ i j k sc : Nat, vs = [.ref st, .int (wi r), .ref p, .ref b, nV k, nV sc] ∧ SetAt CS CA H st A s ∧ H p = some (.lst (sumsV (s.way r) (mostOf r))) ∧
  H b = some (.tup [nV i, nV j]) ∧ i ≤ k ∧ k < mostOf r ∧ sc ≤ 400 ∧ RetV (.bl ((s.way r).room (spc s r) sc i (pre (s.way r) (k + 1) - pre (s.way r) i))) H Q
theorem sc_room : FnScope ["settings", "way", "sums", "band", "place", "scale", "whole"] ["settings", "way", "sums", "band", "place", "scale"] (defScope sRoom) := ⟨rfl, rfl, rfl, by decide +kernel, rfl, by decide +kernel, by decide +kernel⟩
theorem d_room (F0 : Src K mg "has_room" sRoom ["settings", "way", "sums", "band", "place", "scale"]) (D1 : Def P w K mg base 2 "again_size" ["settings", "way", "sums", "first"] (spAgSize CS CA)) (D2 : Def P w K mg base 1 "space_of" ["settings", "way"] (spSpace CS CA)) :
    Def P w K mg base 3 "has_room" ["settings", "way", "sums", "band", "place", "scale"] (spRoom CS CA) := by
  refine .mk F0 fun f fd F => F.ok sc_room (fun vs H Q E h => ?_) (fun cdv A outer s H vs Q E hr h => ?_)
  · obtain ⟨_, _, _, _, _, _, _, _, _, _, rfl, _⟩ := h
    rfl
  · obtain ⟨st, A, s, r, p, b, i, j, kk, sc, rfl, S, hp, hb, hi, hk, hsc, k⟩ := h
    have hr1 : Room 1 _ := hr.mono (by decide)
    refine ⟨_, pss_cons (ps_set (i := 6) sc_room.nd rfl (.inl rfl) (pe_op op_sub (pe_op op_add (pe_def D1 hr rfl (pa_cons (pv 0) (pa_cons (pv 1) (pa_cons (pv 2) (pa_cons (pe_ix ix_tup (pv 3) pe_int (fun _ _ => rfl)) pa_nil))))) (pe_ix ix_list (pv 2) (pe_op op_add (pv 4) pe_int) (fun _ _ => rfl)))
        (pe_ix ix_list (pv 2) (pe_ix ix_tup (pv 3) pe_int (fun _ _ => rfl)) (fun _ _ => rfl))))
      (pss_one (ps_ret (pe_cmpR op_le (pe_op op_mul (pv 6) (pv 5)) (pe_op op_mul pe_int (pe_def D2 hr1 rfl (pa_cons (pv 0) (pa_cons (pv 1) pa_nil)))) (nomark _)))), ?_⟩
    have m := pre_mono (s.way r) (show i ≤ kk + 1 by omega)
    have ix : ∀ (σ : L2.St) (H' : Hp), σ[3]? = some (some (.ref b)) → Ex H H' → Ev (tOp (rIxT K) (tVar 3) (tC (.int 0))) σ H' (nV i) := fun σ H' hσ e => ev_ixT (ev_var hσ) ev_c (st_of (e _ _ hb)) rfl
    refine q_asg (v := nV (agz (s.way r) i + (pre (s.way r) (kk + 1) - pre (s.way r) i))) (ev_is (ev_i (ev_i (ev_callS (ea_cons ev_v (ea_cons ev_v (ea_cons ev_v (ea1 (ix _ _ rfl (Ex.refl _)))))) fun H1 e Q q => ⟨st, A, s, r, p, i, rfl, S.ex e, e _ _ hp, by omega, q⟩)
      (ev_ixL ev_v (ev_i ev_v ev_c) (sq_of hp) (at_sums _ (i := kk + 1) (by omega) (by omega)))) (ev_ixL ev_v (ix _ _ rfl (Ex.refl _)) (sq_of hp) (at_sums _ rfl (by omega)))) (congrArg V.int (by omega))) fun H1 e => ?_
    refine s_retV (ev_is (ev_i (ev_iC ev_v ev_v (cmul_r (by omega))) (ev_iC ev_c (ev_callS (ea2 ev_v ev_v) fun H2 e2 Q q => ⟨st, A, s, r, rfl, S.ex (e.trans e2), q⟩) (Or.inl ⟨by decide, by decide⟩))) ?_) (RetV.mono k e)
    exact congrArg V.bl (le_cast _ sc 100 _)
/-! ### how_long, start_of, stands_at -/
abbrev sLong : Stmt := top 42
/-- a band in the heap, a scale -/
structure BandIn (H : Hp) (r : Bool) (b : Addr) (x : Si32.Band) : Prop where
  at_ : H b = some (.tup [nV x.1, nV x.2])
  le : x.1 ≤ x.2
  lt : x.2 < mostOf r
theorem BandIn.ex {H H' : Hp} {r : Bool} {b : Addr} {x : Si32.Band} (h : BandIn H r b x) (e : Ex H H') : BandIn H' r b x := ⟨e _ _ h.at_, h.le, h.lt⟩
def spLong (CS CA : Addr) : Sp := fun vs H Q _ => ∃ st A s r p b x, ∃ sc : Nat, vs = [.ref st, .int (wi r), .ref p, .ref b, nV sc] ∧ SetAt CS CA H st A s ∧ H p = some (.lst (sumsV (s.way r) (mostOf r))) ∧ BandIn H r b x ∧ sc ≤ 400 ∧ RetV (nV ((s.way r).extent x * sc)) H Q
theorem sc_long : FnScope ["settings", "way", "sums", "band", "scale"] ["settings", "way", "sums", "band", "scale"] (defScope sLong) := ⟨rfl, rfl, rfl, by decide +kernel, rfl, by decide +kernel, by decide +kernel⟩
theorem d_long (F0 : Src K mg "how_long" sLong ["settings", "way", "sums", "band", "scale"]) (D1 : Def P w K mg base 2 "again_size" ["settings", "way", "sums", "first"] (spAgSize CS CA)) :
    Def P w K mg base 3 "how_long" ["settings", "way", "sums", "band", "scale"] (spLong CS CA) := by
  refine .mk F0 fun f fd F => F.ok sc_long (fun vs H Q E h => ?_) (fun cdv A outer s H vs Q E hr h => ?_)
  · obtain ⟨_, _, _, _, _, _, _, _, rfl, _⟩ := h
    rfl
  · obtain ⟨st, A, s, r, p, b, x, sc, rfl, S, hp, hb, hsc, k⟩ := h
    refine ⟨_, pss_one (ps_ret (pe_op op_mul (pe_op op_sub (pe_op op_add (pe_def D1 hr rfl (pa_cons (pv 0) (pa_cons (pv 1) (pa_cons (pv 2) (pa_cons (pe_ix ix_tup (pv 3) pe_int (fun _ _ => rfl)) pa_nil))))) (pe_ix ix_list (pv 2) (pe_op op_add (pe_ix ix_tup (pv 3) pe_int (fun _ _ => rfl)) pe_int) (fun _ _ => rfl)))
        (pe_ix ix_list (pv 2) (pe_ix ix_tup (pv 3) pe_int (fun _ _ => rfl)) (fun _ _ => rfl))) (pv 4))), ?_⟩
    have le := hb.le
    have lt := hb.lt
    have m := pre_mono (s.way r) (show x.1 ≤ x.2 + 1 by omega)
    refine s_retV (ev_is (ev_iC (i := (((s.way r).extent x : Nat) : Int)) (ev_is (ev_i (ev_i (ev_callS (ea_cons ev_v (ea_cons ev_v (ea_cons ev_v (ea1 (ev_ixT ev_v ev_c (st_of hb.at_) rfl))))) fun H1 e Q q => ⟨st, A, s, r, p, x.1, rfl, S.ex e, e _ _ hp, by omega, q⟩)
      (ev_ixL ev_v (ev_i (ev_ixT ev_v ev_c (st_of hb.at_) rfl) ev_c) (sq_of hp) (at_sums _ (i := x.2 + 1) (by omega) (by omega)))) (ev_ixL ev_v (ev_ixT ev_v ev_c (st_of hb.at_) rfl) (sq_of hp) (at_sums _ rfl (by omega)))) ?_) ev_v (cmul_r (by omega))) ?_) k
    · rw [extent_eq hb.le]
      exact congrArg V.int (by omega)
    · exact congrArg V.int (Int.natCast_mul _ _).symm
abbrev sStart : Stmt := top 43
def spStart (CS CA : Addr) : Sp := fun vs H Q _ => ∃ st A s r p b x, ∃ sc : Nat, vs = [.ref st, .int (wi r), .ref p, .ref b, nV sc] ∧ SetAt CS CA H st A s ∧ H p = some (.lst (sumsV (s.way r) (mostOf r))) ∧ BandIn H r b x ∧ sc ≤ 400 ∧
  RetV (nV ((s.way r).begin_ (edg s r) (spc s r) sc (mid s r) x)) H Q
theorem sc_start : FnScope ["settings", "way", "sums", "band", "scale", "found", "left"] ["settings", "way", "sums", "band", "scale"] (defScope sStart) := ⟨rfl, rfl, rfl, by decide +kernel, rfl, by decide +kernel, by decide +kernel⟩
theorem d_start (T : Txt K mg CA CS CL CP CD aM aF aW aL aP aN) (F0 : Src K mg "start_of" sStart ["settings", "way", "sums", "band", "scale"]) (D1 : Def P w K mg base 3 "how_long" ["settings", "way", "sums", "band", "scale"] (spLong CS CA)) (D2 : Def P w K mg base 1 "space_of" ["settings", "way"] (spSpace CS CA)) :
    Def P w K mg base 4 "start_of" ["settings", "way", "sums", "band", "scale"] (spStart CS CA) := by
  refine .mk F0 fun f fd F => F.ok sc_start (fun vs H Q E h => ?_) (fun cdv A outer s H vs Q E hr h => ?_)
  · obtain ⟨_, _, _, _, _, _, _, _, rfl, _⟩ := h
    rfl
  · obtain ⟨st, A, s, r, p, b, x, sc, rfl, S, hp, hb, hsc, k⟩ := h
    have hr1 : Room 1 _ := hr.mono (by decide)
    refine ⟨_, pss_cons (ps_set (i := 5) sc_start.nd rfl (.inl rfl) (pe_op op_mul pe_int (pe_ix ix_list (pe_fld (pv 0) rfl) (pv 1) (fun _ _ => rfl))))
      (pss_cons (ps_set (i := 6) sc_start.nd rfl (.inl rfl) (pe_op op_sub (pe_op op_mul pe_int (pe_def D2 hr1 rfl (pa_cons (pv 0) (pa_cons (pv 1) pa_nil)))) (pe_def D1 hr rfl (pa_cons (pv 0) (pa_cons (pv 1) (pa_cons (pv 2) (pa_cons (pv 3) (pa_cons (pv 4) pa_nil))))))))
      (pss_cons (ps_if (PW.pt (pw_and (pt_cmpR op_eq (pe_ix ix_list (pe_fld (pv 0) rfl) (pv 1) (fun _ _ => rfl)) pe_int (nomark _)) (pw_and1 (pt_cmpR op_ge (pv 6) pe_int (nomark _))))) (pss_one (ps_ret (pe_op op_add (pv 5) (pe_op op_fdiv (pv 6) pe_int)))) pss_nil)
      (pss_one (ps_ret (pv 5))))), ?_⟩
    refine q_asg (ev_iC ev_c (S_ahead2 T S ev_v ev_v) (Or.inl ⟨by decide, by decide⟩)) fun H1 e1 => ?_
    have S1 := S.ex e1
    refine q_asg (ev_i (ev_iC ev_c (ev_callS (ea2 ev_v ev_v) fun H2 e2 Q q => ⟨st, A, s, r, rfl, S1.ex e2, q⟩) (Or.inl ⟨by decide, by decide⟩)) (ev_callS (ea_cons ev_v (ea_cons ev_v (ea_cons ev_v (ea2 ev_v ev_v)))) fun H2 e2 Q q => ⟨st, A, s, r, p, b, x, sc, rfl, S1.ex e2, e2 _ _ (e1 _ _ hp), (hb.ex e1).ex e2, hsc, q⟩)) fun H2 e2 => ?_
    have S2 := S1.ex e2
    refine q_when (et_and (b := decide ((0 : Int) ≤ (100 : Int) * (spc s r : Int) - (((s.way r).extent x * sc : Nat) : Int))) (et_test (ev_op (S_middle2 T S2 ev_v ev_v) ev_c (rv_eq rfl))) (fun _ => et_test (ev_i ev_v ev_c))) (fun c H3 e3 => ?_) (fun c H3 e3 => ?_)
    · rw [Bool.and_eq_true, decV, decide_eq_true_iff, decide_eq_true_iff] at c
      obtain ⟨c1, c2⟩ := c
      have hm : mid s r = true := by
        cases q : mid s r with
        | true => rfl
        | false => rw [q] at c1; cases c1
      refine s_retV (ev_is (ev_i ev_v (ev_iC ev_v ev_c ⟨by decide, by decide⟩)) ?_) (RetV.mono k ((e1.trans e2).trans e3))
      unfold Si32.Way.begin_
      rw [if_pos ⟨hm, by omega⟩]
      exact congrArg V.int (by omega)
    · refine s_retV (ev_is ev_v ?_) (RetV.mono k ((e1.trans e2).trans e3))
      unfold Si32.Way.begin_
      rw [if_neg]
      · exact congrArg V.int (by omega)
      · intro ⟨h1, h2⟩
        rw [h1, decV, decide_eq_true (show (0 : Int) ≤ (100 : Int) * (spc s r : Int) - (((s.way r).extent x * sc : Nat) : Int) by omega)] at c
        cases c
abbrev sStands : Stmt := top 44
def spStands (CS CA : Addr) : Sp := fun vs H Q _ => ∃ st A s r p b x, ∃ sc i : Nat, vs = [.ref st, .int (wi r), .ref p, .ref b, nV sc, nV i] ∧ SetAt CS CA H st A s ∧ H p = some (.lst (sumsV (s.way r) (mostOf r))) ∧ BandIn H r b x ∧ sc ≤ 400 ∧ x.1 ≤ i ∧ i ≤ x.2 ∧
  RetV (nV ((s.way r).spot (edg s r) (spc s r) sc (mid s r) x i)) H Q
theorem sc_stands : FnScope ["settings", "way", "sums", "band", "scale", "place", "ahead"] ["settings", "way", "sums", "band", "scale", "place"] (defScope sStands) := ⟨rfl, rfl, rfl, by decide +kernel, rfl, by decide +kernel, by decide +kernel⟩
theorem d_stands (F0 : Src K mg "stands_at" sStands ["settings", "way", "sums", "band", "scale", "place"]) (D1 : Def P w K mg base 2 "again_size" ["settings", "way", "sums", "first"] (spAgSize CS CA)) (D2 : Def P w K mg base 4 "start_of" ["settings", "way", "sums", "band", "scale"] (spStart CS CA)) :
    Def P w K mg base 5 "stands_at" ["settings", "way", "sums", "band", "scale", "place"] (spStands CS CA) := by
  refine .mk F0 fun f fd F => F.ok sc_stands (fun vs H Q E h => ?_) (fun cdv A outer s H vs Q E hr h => ?_)
  · obtain ⟨_, _, _, _, _, _, _, _, _, rfl, _⟩ := h
    rfl
  · obtain ⟨st, A, s, r, p, b, x, sc, i, rfl, S, hp, hb, hsc, h1, h2, k⟩ := h
    have hr2 : Room 2 _ := hr.mono (by decide)
    refine ⟨_, pss_cons (ps_set (i := 6) sc_stands.nd rfl (.inl rfl) (pe_op op_sub (pe_op op_add (pe_def D1 hr2 rfl (pa_cons (pv 0) (pa_cons (pv 1) (pa_cons (pv 2) (pa_cons (pe_ix ix_tup (pv 3) pe_int (fun _ _ => rfl)) pa_nil))))) (pe_ix ix_list (pv 2) (pv 5) (fun _ _ => rfl)))
        (pe_ix ix_list (pv 2) (pe_ix ix_tup (pv 3) pe_int (fun _ _ => rfl)) (fun _ _ => rfl))))
      (pss_one (ps_ret (pe_op op_add (pe_def D2 hr rfl (pa_cons (pv 0) (pa_cons (pv 1) (pa_cons (pv 2) (pa_cons (pv 3) (pa_cons (pv 4) pa_nil)))))) (pe_op op_mul (pv 6) (pv 4))))), ?_⟩
    have lt := hb.lt
    have m := pre_mono (s.way r) h1
    refine q_asg (v := nV (agz (s.way r) x.1 + (pre (s.way r) i - pre (s.way r) x.1))) (ev_is (ev_i (ev_i (ev_callS (ea_cons ev_v (ea_cons ev_v (ea_cons ev_v (ea1 (ev_ixT ev_v ev_c (st_of hb.at_) rfl))))) fun H1 e Q q => ⟨st, A, s, r, p, x.1, rfl, S.ex e, e _ _ hp, by omega, q⟩)
      (ev_ixL ev_v ev_v (sq_of hp) (at_sums _ rfl (by omega)))) (ev_ixL ev_v (ev_ixT ev_v ev_c (st_of hb.at_) rfl) (sq_of hp) (at_sums _ rfl (by omega)))) (congrArg V.int (by omega))) fun H1 e => ?_
    refine s_retV (ev_is (ev_i (ev_callS (ea_cons ev_v (ea_cons ev_v (ea_cons ev_v (ea2 ev_v ev_v)))) fun H2 e2 Q q => ⟨st, A, s, r, p, b, x, sc, rfl, S.ex (e.trans e2), e2 _ _ (e _ _ hp), (hb.ex e).ex e2, hsc, q⟩) (ev_iC ev_v ev_v (cmul_r (by omega)))) ?_) (RetV.mono k e)
    unfold Si32.Way.spot
    rw [ahead_eq h1 h2, Nat.mul_comm sc]
    refine congrArg V.int ?_
    simp only [Int.natCast_add, Int.natCast_mul]
    rfl
end
end Sh
namespace Sh
open PySem PySem.Spec PyProof.Rows L2 Evl
/-! ### lists of new things that grow -/
def LstOf {α : Type} (P : Addr → α → Prop) (xs : List V) (l : List α) : Prop := ∃ qs : List Addr, xs = qs.map V.ref ∧ qs.length = l.length ∧ ∀ (i : Nat) (x : α), l[i]? = some x → ∃ q, qs[i]? = some q ∧ P q x
theorem LstOf.nil {α : Type} {P : Addr → α → Prop} : LstOf P [] ([] : List α) := ⟨[], rfl, rfl, fun i x e => by simp at e⟩
theorem LstOf.len {α : Type} {P : Addr → α → Prop} {xs : List V} {l : List α} (h : LstOf P xs l) : xs.length = l.length := by
  obtain ⟨qs, rfl, h2, _⟩ := h
  rw [List.length_map, h2]
theorem LstOf.imp {α : Type} {P P' : Addr → α → Prop} {xs : List V} {l : List α} (h : LstOf P xs l) (hp : ∀ q x, P q x → P' q x) : LstOf P' xs l := by
  obtain ⟨qs, h1, h2, h3⟩ := h
  refine ⟨qs, h1, h2, fun i x e => ?_⟩
  obtain ⟨q, e1, e2⟩ := h3 i x e
  exact ⟨q, e1, hp q x e2⟩
theorem LstOf.snoc {α : Type} {P : Addr → α → Prop} {xs : List V} {l : List α} {q : Addr} {x : α} (h : LstOf P xs l) (hq : P q x) : LstOf P (xs ++ [.ref q]) (l ++ [x]) := by
  obtain ⟨qs, rfl, h2, h3⟩ := h
  refine ⟨qs ++ [q], by rw [List.map_append]; rfl, by rw [List.length_append, List.length_append, h2]; rfl, fun i y e => ?_⟩
  by_cases hi : i < l.length
  · rw [List.getElem?_append_left hi] at e
    obtain ⟨q', e1, e2⟩ := h3 i y e
    exact ⟨q', by rw [List.getElem?_append_left (by omega)]; exact e1, e2⟩
  · rw [List.getElem?_append_right (by omega)] at e
    have e0 : i - l.length = 0 := by
      cases c : i - l.length with
      | zero => rfl
      | succ k => rw [c] at e; simp at e
    rw [e0] at e
    have e : x = y := Option.some.inj e
    subst e
    exact ⟨q, by rw [List.getElem?_append_right (by omega), h2, e0]; rfl, hq⟩
theorem LstOf.refs {α : Type} {Fr : Addr → Prop} {P : Addr → α → Prop} {H : Hp} {p : Addr} {xs : List V} {l : List α} (h : LstOf P xs l) (f : Fr p) (hp : H p = some (.lst xs)) : RefsAt Fr P H p l := by
  obtain ⟨qs, rfl, h2, h3⟩ := h
  exact ⟨f, qs, hp, h2, h3⟩
theorem RefsAt.of {α : Type} {Fr : Addr → Prop} {P : Addr → α → Prop} {H : Hp} {p : Addr} {l : List α} (h : RefsAt Fr P H p l) : Fr p ∧ ∃ xs, H p = some (.lst xs) ∧ LstOf P xs l := by
  obtain ⟨f, qs, h1, h2, h3⟩ := h
  exact ⟨f, _, h1, qs, rfl, h2, h3⟩
theorem LstOf.get {α : Type} {P : Addr → α → Prop} {xs : List V} {l : List α} (h : LstOf P xs l) {i : Nat} {x : α} (e : l[i]? = some x) : ∃ q, xs[i]? = some (.ref q) ∧ P q x := by
  obtain ⟨qs, rfl, h2, h3⟩ := h
  obtain ⟨q, e1, e2⟩ := h3 i x e
  exact ⟨q, by rw [List.getElem?_map, e1]; rfl, e2⟩
theorem LstOf.of {α : Type} {P : Addr → α → Prop} {xs : List V} {l : List α} (h : LstOf P xs l) {i : Nat} {v : V} (e : xs[i]? = some v) : ∃ q x, v = .ref q ∧ l[i]? = some x ∧ P q x := by
  have hi : i < l.length := by
    rw [← h.len]
    exact (List.getElem?_eq_some_iff.mp e).1
  obtain ⟨q, e1, e2⟩ := h.get (List.getElem?_eq_getElem hi)
  rw [e] at e1
  exact ⟨q, _, Option.some.inj e1, List.getElem?_eq_getElem hi, e2⟩
section
variable {K : PySem.W.Frag} {σ : L2.St} {H : Hp} {ta tb te : TE} {x v : V} {D : Ends} {tz : TS} {P : PB}
/-- xs.append(e), e new; xs[-1] = e, e new -/
theorem s_appB {l : Addr} {xs : List V} (an : Anti P) (hl : H l = some (.lst xs)) (ha : Ev ta σ H (.ref l)) (h : EvB te σ H P) (hz : xs.length < 100000) (k : ∀ p H1, Ex H H1 → P H p H1 → D.nx σ (upd H1 l (.lst (xs ++ [.ref p])))) :
    tDrop (tBM K "list" rAppend ta (tCons te tNil)) D σ H := ha H (Ex.refl H) _ fun H1 e1 =>
  ⟨Or.inl ⟨rfl, xs, sq_of (e1 l _ hl)⟩, h H1 e1 _ fun p H2 e2 hp => ⟨l, xs, .ref p, rfl, rfl, e2 l _ (e1 l _ hl), sz_lt hz, k p H2 (e1.trans e2) (an _ _ _ _ e1 hp)⟩⟩
theorem q_appB {l : Addr} {xs : List V} (an : Anti P) (hl : H l = some (.lst xs)) (ha : Ev ta σ H (.ref l)) (h : EvB te σ H P) (hz : xs.length < 100000) (k : ∀ p H1, Ex H H1 → P H p H1 → tz D σ (upd H1 l (.lst (xs ++ [.ref p])))) :
    tSeq (tDrop (tBM K "list" rAppend ta (tCons te tNil))) tz D σ H := s_appB (D := { D with nx := tz D }) an hl ha h hz k
theorem ixN_last (xs : List V) (y : V) : ixN (xs ++ [y]).length (-1) = some xs.length := by
  unfold ixN
  rw [List.length_append, if_neg (by omega), if_pos (by simp; omega)]
  refine congrArg some ?_
  simp only [List.length_cons, List.length_nil]
  omega
theorem s_setLast {l : Addr} {xs : List V} {y : V} (hl : H l = some (.lst (xs ++ [y]))) (h : EvB te σ H P) (ho : Ev ta σ H (.ref l)) (hi : Ev tb σ H (.int (-1))) (k : ∀ p H1, Ex H H1 → (∃ H2, Ex H H2 ∧ Ex H2 H1 ∧ P H p H2) → D.nx σ (upd H1 l (.lst (xs ++ [.ref p])))) :
    tAsg te (gSub ta tb rSetL) D σ H := h H (Ex.refl H) _ fun p H1 e1 hp => ho H1 e1 _ fun H2 e2 => hi H2 (e1.trans e2) _ fun H3 e3 =>
  ⟨l, xs ++ [y], -1, xs.length, rfl, rfl, ((e1.trans e2).trans e3) l _ hl, ixN_last xs y, by
    rw [List.set_append_right _ _ (Nat.le_refl _), Nat.sub_self]
    exact k p H3 ((e1.trans e2).trans e3) ⟨H1, e1, e2.trans e3, hp⟩⟩
/-- [e], e new -/
def OneB (P : PB) : PB := fun H0 p H => H0 p = none ∧ ∃ q, H p = some (.lst [.ref q]) ∧ P H0 q H
theorem eb_one (fi : Firm P) (h : EvB te σ H P) : EvB (tLst (tCons te tNil)) σ H (OneB P) := fun H1 e Q q => by
  show te σ H1 _
  exact h H1 e _ fun t H2 e2 ht => ⟨by show 1 ≤ sizeLine; decide, fun p hp => q p _ (e2.trans (Ex.new hp)) ⟨fresh_back e2 hp, t, upd_same, fi _ _ _ _ (.of (Ex.new hp)) ht⟩⟩
theorem ev_din {b : Addr} {k : Nat} {M : List Addr} {l : List Nat} (ha : Ev ta σ H (nV k)) (hb : Ev tb σ H (.ref b)) (h : BrkAt M H b l) : Ev (tDIn ta tb) σ H (.bl (l.contains k)) := fun H1 e Q q =>
  ha H1 e _ fun H2 e2 => hb H2 (e.trans e2) _ fun H3 e3 => by
    obtain ⟨kvs, h1, h2⟩ := h
    have g := DGet.k (k := Sum.inl (k : Int)) (((e.trans e2).trans e3) _ _ h1.1)
    refine ⟨b, _, rfl, g, ?_⟩
    rw [h2 k]
    exact q H3 (e2.trans e3)
end
section
variable {P : Program} {w : World} {K : PySem.W.Frag} {mg : Str → Option Value} {base : Heap} {CA CS CL CP CD aM aF aW aL aP aN : Addr}
/-! ### number_in_area, band_number -/
abbrev sNum : Stmt := top 41
def spNum (CS CA : Addr) : Sp := fun vs H Q _ => ∃ st A s o nn H0 x y, ∃ a b : Nat, vs = [.ref st, .ref o, .ref nn] ∧ SetAt CS CA H st A s ∧ OwnAt H0 x y o H ∧ H nn = some (.lst [nV a, nV b]) ∧ x.length ≤ 4096 ∧ y.length ≤ 4096 ∧
  RetV (nV (if s.over = true then a * y.length + b else b * x.length + a)) H Q
theorem sc_num : FnScope ["settings", "own", "numbers"] ["settings", "own", "numbers"] (defScope sNum) := ⟨rfl, rfl, rfl, by decide +kernel, rfl, by decide +kernel, by decide +kernel⟩
theorem d_num (T : Txt K mg CA CS CL CP CD aM aF aW aL aP aN) (F0 : Src K mg "number_in_area" sNum ["settings", "own", "numbers"]) : Def P w K mg base 1 "number_in_area" ["settings", "own", "numbers"] (spNum CS CA) := by
  refine .mk F0 fun f fd F => F.ok sc_num (fun vs H Q E h => ?_) (fun cdv A outer s H vs Q E hr h => ?_)
  · obtain ⟨_, _, _, _, _, _, _, _, _, _, rfl, _⟩ := h
    rfl
  · obtain ⟨st, A, s, o, nn, H0, x, y, a, b, rfl, S, ⟨_, p0, p1, ho, h0, h1⟩, hn, hx, hy, k⟩ := h
    obtain ⟨xs, hxs, lxs, _⟩ := h0.lst
    obtain ⟨ys, hys, lys, _⟩ := h1.lst
    refine ⟨_, pss_cons (ps_if (pt_cmpR op_eq (pe_fld (pv 0) rfl) pe_int (nomark _)) (pss_one (ps_ret (pe_op op_add (pe_op op_mul (pe_ix ix_list (pv 2) pe_int (fun _ _ => rfl)) (pe_callB call_len_seq (by rfl) T.b_len PySem.boot_len (pa_cons (pe_ix ix_list (pv 1) pe_int (fun _ _ => rfl)) pa_nil))) (pe_ix ix_list (pv 2) pe_int (fun _ _ => rfl))))) pss_nil)
      (pss_one (ps_ret (pe_op op_add (pe_op op_mul (pe_ix ix_list (pv 2) pe_int (fun _ _ => rfl)) (pe_callB call_len_seq (by rfl) T.b_len PySem.boot_len (pa_cons (pe_ix ix_list (pv 1) pe_int (fun _ _ => rfl)) pa_nil))) (pe_ix ix_list (pv 2) pe_int (fun _ _ => rfl))))), ?_⟩
    have n0 : ∀ {H' : Hp} (σ : L2.St), σ[2]? = some (some (.ref nn)) → Ex H H' → Ev (tOp (rIxL K) (tVar 2) (tC (.int 0))) σ H' (nV a) := fun σ hσ e => ev_ixL (ev_var hσ) ev_c (sq_of (e _ _ hn)) rfl
    have n1 : ∀ {H' : Hp} (σ : L2.St), σ[2]? = some (some (.ref nn)) → Ex H H' → Ev (tOp (rIxL K) (tVar 2) (tC (.int 1))) σ H' (nV b) := fun σ hσ e => ev_ixL (ev_var hσ) ev_c (sq_of (e _ _ hn)) rfl
    refine q_when (et_test (ev_op (S_over T S ev_v) ev_c (rv_eq rfl))) (fun c H1 e => ?_) (fun c H1 e => ?_)
    · have ov : s.over = true := by
        rw [decV, decide_eq_true_iff] at c
        cases q : s.over with
        | true => rfl
        | false => rw [q] at c; cases c
      rw [if_pos ov] at k
      refine s_retV (ev_is (ev_i (ev_iC (n0 _ rfl e) (ev_lenS (ev_ixL ev_v ev_c (sq_of (e _ _ ho)) rfl) (sq_of (e _ _ hys)) lys) (cmul_r hy)) (n1 _ rfl e)) ?_) (RetV.mono k e)
      refine congrArg V.int ?_
      simp only [Int.natCast_add, Int.natCast_mul]
    · have ov : ¬ s.over = true := by
        intro ov
        rw [decV, ov] at c
        cases c
      rw [if_neg ov] at k
      refine s_retV (ev_is (ev_i (ev_iC (n1 _ rfl e) (ev_lenS (ev_ixL ev_v ev_c (sq_of (e _ _ ho)) rfl) (sq_of (e _ _ hxs)) lxs) (cmul_r hx)) (n0 _ rfl e)) ?_) (RetV.mono k e)
      refine congrArg V.int ?_
      simp only [Int.natCast_add, Int.natCast_mul]
abbrev sBno : Stmt := top 45
def spBno : Sp := fun vs H Q _ => ∃ p H0 l, ∃ place m : Nat, vs = [.ref p, nV place] ∧ BandsAt H0 l p H ∧ (∀ (j : Nat) (z : Si32.Band), l[j]? = some z → (z.1 ≤ place ↔ j ≤ m)) ∧ m < l.length ∧ l.length ≤ 4096 ∧ RetV (nV m) H Q
theorem sc_bno : FnScope ["bands", "place", "found", "number"] ["bands", "place"] (defScope sBno) := ⟨rfl, rfl, rfl, by decide +kernel, rfl, by decide +kernel, by decide +kernel⟩
theorem d_bno (T : Txt K mg CA CS CL CP CD aM aF aW aL aP aN) (F0 : Src K mg "band_number" sBno ["bands", "place"]) : Def P w K mg base 1 "band_number" ["bands", "place"] spBno := by
  refine .mk F0 fun f fd F => F.ok sc_bno (fun vs H Q E h => ?_) (fun cdv A outer s H vs Q E hr h => ?_)
  · obtain ⟨_, _, _, _, _, rfl, _⟩ := h
    rfl
  · obtain ⟨p, H0, l, place, m, rfl, hb, hm, hml, hl, k⟩ := h
    obtain ⟨_, xs, hxs, lo⟩ := hb.of
    have lxs := lo.len
    refine ⟨_, pss_cons (ps_set (i := 2) sc_bno.nd rfl (.inl rfl) pe_int)
      (pss_cons (ps_for PassesOwn.never rfl (pi_range1 rfl T.b_range (pa_cons (pe_callB call_len_seq (by rfl) T.b_len PySem.boot_len (pa_cons (pv 0) pa_nil)) pa_nil)) (pg_name (i := 3) sc_bno.nd rfl (.inl rfl))
        (pss_one (ps_if (pt_cmpR op_le (pe_ix ix_tup (pe_ix ix_list (pv 0) (pv 3) (fun _ _ => rfl)) pe_int (fun _ _ => rfl)) (pv 1) (nomark _)) (pss_one (ps_set (i := 2) sc_bno.nd rfl (.inl rfl) (pv 3))) pss_nil)))
      (pss_one (ps_ret (pv 2)))), ?_⟩
    refine q_asg ev_c fun H1 e1 => ?_
    refine q_forR1 (n := ((l.length : Nat) : Int)) (ea1 (ev_lenS ev_v (sq_of (e1 _ _ hxs)) lxs)) (by omega) (fun i σ H' => ∃ v, σ = [some (.ref p), some (nV place), some (nV (min (i - 1) m)), v] ∧ Ex H H') (fun H2 e2 => ⟨none, by simp; rfl, e1.trans e2⟩) ?_ ?_
    · rintro i σ H' hi ⟨v, rfl, e⟩
      have hi : i < l.length := by omega
      obtain ⟨q, hq, _, hq2⟩ := lo.get (List.getElem?_eq_getElem hi)
      have hz := hm i _ (List.getElem?_eq_getElem hi)
      refine s_when (et_test (ev_i (ev_ixT (ev_ixL ev_v ev_v (sq_of (e _ _ hxs)) (atI_nat hq)) ev_c (st_of (e _ _ hq2)) rfl) ev_v)) (fun c H2 e2 => ?_) (fun c H2 e2 => ?_)
      · have c := of_decide_eq_true c
        refine s_asg ev_v fun H3 e3 => ⟨some (nV i), ?_, (e.trans e2).trans e3⟩
        have : min (i + 1 - 1) m = i := by
          have := hz.mp (by omega)
          omega
        rw [this]
        rfl
      · have c := of_decide_eq_false c
        refine ⟨some (nV i), ?_, e.trans e2⟩
        have : min (i + 1 - 1) m = min (i - 1) m := by
          have : ¬ i ≤ m := fun q => c (by have := hz.mpr q; omega)
          omega
        rw [this]
        rfl
    · rintro σ H' ⟨v, rfl, e⟩
      have : min (((l.length : Nat) : Int).toNat - 1) m = m := by omega
      rw [this]
      exact s_retV ev_v (RetV.mono k e)
/-! ### bands_of -/
abbrev sBands : Stmt := top 35
def spBands (CS CA : Addr) : Sp := fun vs H Q _ => ∃ st A s r p a M ar, ∃ sc : Nat, vs = [.ref st, .int (wi r), .ref p, .ref a, nV sc] ∧ SetAt CS CA H st A s ∧ H p = some (.lst (sumsV (s.way r) (mostOf r))) ∧ AreaAt CA M H a ar ∧ a0 ar r ≤ a1 ar r ∧ a1 ar r < mostOf r ∧ sc ≤ 400 ∧
  RetB (BandsB (bnd s r sc ar)) H Q
theorem sc_bands : FnScope ["settings", "way", "sums", "area", "scale", "found", "place", "band"] ["settings", "way", "sums", "area", "scale"] (defScope sBands) := ⟨rfl, rfl, rfl, by decide +kernel, rfl, by decide +kernel, by decide +kernel⟩
theorem brk_of {CS CA : Addr} {H : Hp} {st : Addr} {A : Ads} {s : Si32.St} (S : SetAt CS CA H st A s) (r : Bool) : BrkAt (A.mut st) H (A.bd r) (s.way r).breaks := by
  cases r
  · exact S.b1
  · exact S.b0
theorem d_bands (T : Txt K mg CA CS CL CP CD aM aF aW aL aP aN) (F0 : Src K mg "bands_of" sBands ["settings", "way", "sums", "area", "scale"]) (D1 : Def P w K mg base 3 "has_room" ["settings", "way", "sums", "band", "place", "scale"] (spRoom CS CA)) :
    Def P w K mg base 4 "bands_of" ["settings", "way", "sums", "area", "scale"] (spBands CS CA) := by
  refine .mk F0 fun f fd F => F.ok sc_bands (fun vs H Q E h => ?_) (fun cdv A outer s H vs Q E hr h => ?_)
  · obtain ⟨_, _, _, _, _, _, _, _, _, rfl, _⟩ := h
    rfl
  · obtain ⟨st, A, s, r, p, a, M, ar, sc, rfl, S, hp, hA, hle, hlt, hsc, k⟩ := h
    have most := mostOf_le r
    refine ⟨_, pss_cons (ps_set (i := 5) sc_bands.nd rfl (.inl rfl) (pe_lst (pa_cons (pe_tup (pa_cons (pe_ix ix_list (pe_fld (pv 3) rfl) (pv 1) (fun _ _ => rfl)) (pa_cons (pe_ix ix_list (pe_fld (pv 3) rfl) (pv 1) (fun _ _ => rfl)) pa_nil))) pa_nil)))
      (pss_cons (ps_for PassesOwn.never rfl (pi_range2 rfl T.b_range (pa_cons (pe_op op_add (pe_ix ix_list (pe_fld (pv 3) rfl) (pv 1) (fun _ _ => rfl)) pe_int) (pa_cons (pe_op op_add (pe_ix ix_list (pe_fld (pv 3) rfl) (pv 1) (fun _ _ => rfl)) pe_int) pa_nil))) (pg_name (i := 6) sc_bands.nd rfl (.inl rfl))
        (pss_cons (ps_set (i := 7) sc_bands.nd rfl (.inl rfl) (pe_ix ix_list (pv 5) (pe_un un_neg pe_int) (fun _ _ => rfl)))
        (pss_one (ps_if (PW.pt (pw_or (pt_cmp (pc_din (hu_of hr) (pv 6) (pe_ix ix_list (pe_fld (pv 0) rfl) (pv 1) (fun _ _ => rfl))) rfl) (pw_or1 (pt_not (pt_val (pe_def D1 hr rfl (pa_cons (pv 0) (pa_cons (pv 1) (pa_cons (pv 2) (pa_cons (pv 7) (pa_cons (pv 6) (pa_cons (pv 4) pa_nil))))))))))))
          (pss_one (ps_expr (pe_bm PySem.F.plainAttrs_list PySem.F.slot_list_append PySem.F.type_list_append mt_append (pv 5) (pa_cons (pe_tup (pa_cons (pv 6) (pa_cons (pv 6) pa_nil))) pa_nil))))
          (pss_one (ps_asg (pe_tup (pa_cons (pe_ix ix_tup (pv 7) pe_int (fun _ _ => rfl)) (pa_cons (pv 6) pa_nil))) (pg_sub (pv 5) (pe_un un_neg pe_int) set_list)))))))
      (pss_one (ps_ret (pv 5)))), ?_⟩
    obtain ⟨dx, af, al, hA1, hA2, hA3⟩ := hA
    have rf : ∀ {H' : Hp} (σ : L2.St), σ[3]? = some (some (.ref a)) → σ[1]? = some (some (.int (wi r))) → Ex H H' → Ev (tOp (rIxL K) (tFld K (tVar 3) "first") (tVar 1)) σ H' (nV (a0 ar r)) := fun σ h3 h1 e =>
      ev_is (ev_two (ev_fld (ev_var h3) (e _ _ hA1.1) T.clA T.nA_first rfl) (ev_var h1) (e _ _ hA2.1)) (by cases r <;> rfl)
    have rl : ∀ {H' : Hp} (σ : L2.St), σ[3]? = some (some (.ref a)) → σ[1]? = some (some (.int (wi r))) → Ex H H' → Ev (tOp (rIxL K) (tFld K (tVar 3) "last") (tVar 1)) σ H' (nV (a1 ar r)) := fun σ h3 h1 e =>
      ev_is (ev_two (ev_fld (ev_var h3) (e _ _ hA1.1) T.clA T.nA_last rfl) (ev_var h1) (e _ _ hA3.1)) (by cases r <;> rfl)
    -- found = [(first, first)]
    refine q_asgB (eb_one (TupB.firm _) (eb_tup (ea2 (rf _ rfl rfl (Ex.refl _)) (rf _ rfl rfl (Ex.refl _))) (by show 2 ≤ 100000; decide))) fun fo H1 e1 ⟨hfo, q0, hf1, hq0⟩ => ?_
    refine q_forR2 (lo := (a0 ar r : Int) + 1) (n := (a1 ar r : Int) + 1) (ea2 (ev_i (rf _ rfl rfl e1) ev_c) (ev_i (rl _ rfl rfl e1) ev_c)) (by omega)
      (fun t σ H' => ∃ v6 v7 dn i xs q, σ = [some (.ref st), some (.int (wi r)), some (.ref p), some (.ref a), some (nV sc), some (.ref fo), v6, v7] ∧ Ex H H' ∧ H' fo = some (.lst (xs ++ [.ref q])) ∧ LstOf (BandAt H H') xs dn ∧ BandAt H H' q (i, a0 ar r + t) ∧ i ≤ a0 ar r + t ∧
        bnd s r sc ar = dn ++ (s.way r).bandsFrom (spc s r) sc i (a0 ar r + t) (pre (s.way r) (a0 ar r + t + 1) - pre (s.way r) i) (rg (a0 ar r + t + 1) (a1 ar r - (a0 ar r + t))))
      (fun H2 e2 => ⟨none, none, [], a0 ar r, [], q0, rfl, e1.trans e2, e2 _ _ hf1, .nil, BandAt.on hq0 (.of e2), Nat.le_refl _, bands_start _ _ _ hle⟩) ?_ ?_
    · rintro t σ H' ht ⟨v6, v7, dn, i, xs, q, rfl, e, hf, hdn, hq, hi, hbn⟩
      have eq : ((a0 ar r : Int) + 1 + (t : Int)) = ((a0 ar r + t + 1 : Nat) : Int) := by omega
      have ht : a0 ar r + t < a1 ar r := by omega
      rw [eq]
      have S' := S.ex e
      refine q_asg (ev_ixL ev_v (ev_un ev_c ru_neg) (sq_of hf) (atI_last _ _)) fun H2 e2 => ?_
      have S2 := S'.ex e2
      have hq2 : H2 q = some (.tup [nV i, nV (a0 ar r + t)]) := e2 _ _ hq.2
      have keep : ∀ {H3 : Hp} {xs' : List V}, Ex H' H3 → ∀ (q : Addr) (b : Si32.Band), BandAt H H' q b → BandAt H (upd H3 fo (.lst xs')) q b := fun {H3 xs'} e3 q b h => ⟨h.1, by
        rw [upd_ne (ne_of h.2 hf (by intro z; cases z))]
        exact e3 _ _ h.2⟩
      have fup : ∀ {H3 : Hp} {xs' : List V}, Ex H' H3 → Ex H (upd H3 fo (.lst xs')) := fun e3 => Ex.mut (e.trans e3) hfo
      refine s_if (et_or (b := !((s.way r).room (spc s r) sc i (pre (s.way r) (a0 ar r + t + 2) - pre (s.way r) i))) (et_B (ev_din ev_v (S_breaks2 T S2 ev_v ev_v) (brk_of S2 r))) (fun _ => et_not (et_B (ev_callS (ea_cons ev_v (ea_cons ev_v (ea_cons ev_v (ea_cons ev_v (ea2 ev_v ev_v))))) fun H3 e3 Q qq =>
        ⟨st, A, s, r, p, q, i, a0 ar r + t, a0 ar r + t + 1, sc, rfl, S2.ex e3, e3 _ _ (e2 _ _ (e _ _ hp)), e3 _ _ hq2, by omega, by omega, hsc, qq⟩)))) (fun c H3 e3 => ?_) (fun c H3 e3 => ?_)
      · rw [Bool.or_eq_true] at c
        have c : (s.way r).breaks.contains (a0 ar r + t + 1) = true ∨ (s.way r).room (spc s r) sc i (pre (s.way r) (a0 ar r + t + 2) - pre (s.way r) i) = false := c.imp id (fun h => by rw [Bool.not_eq_true'] at h; exact h)
        refine s_appU (e3 _ _ (e2 _ _ hf)) ev_v (eu_tup (ea2 ev_v ev_v) (by show 2 ≤ 100000; decide)) ?_ fun u H4 hu e4 hu2 => ?_
        · have := hdn.len
          have l1 := (bands_part (s.way r) (spc s r) sc hle).length
          have l2 : (bnd s r sc ar).length = (dn ++ _).length := congrArg List.length hbn
          rw [List.length_append] at l2
          have l3 : (bnd s r sc ar).length ≤ 4096 := by
            show ((s.way r).bands (spc s r) sc (a0 ar r) (a1 ar r)).length ≤ 4096
            omega
          rw [List.length_append]
          show xs.length + 1 < 100000
          omega
        · have e24 := (e2.trans e3).trans e4
          refine ⟨_, _, dn ++ [(i, a0 ar r + t)], a0 ar r + t + 1, xs ++ [.ref q], u, rfl, fup e24, upd_same, (hdn.imp (keep e24)).snoc (keep e24 q _ hq), ⟨fresh_back (((e.trans e2).trans e3)) hu, ?_⟩, Nat.le_refl _, ?_⟩
          · rw [upd_ne (ne_of hu2 (e24 _ _ hf) (by intro z; cases z))]
            exact hu2
          · rw [hbn, bands_new _ _ _ hi ht c, List.append_assoc]
            rfl
      · have c : ¬ ((s.way r).breaks.contains (a0 ar r + t + 1) = true ∨ (s.way r).room (spc s r) sc i (pre (s.way r) (a0 ar r + t + 2) - pre (s.way r) i) = false) := by
          rw [Bool.or_eq_false_iff] at c
          rintro (h | h)
          · rw [c.1] at h; cases h
          · rw [h] at c; cases c.2
        refine s_setLast (e3 _ _ (e2 _ _ hf)) (eb_tup (vs := [nV i, nV (a0 ar r + t + 1)]) (ea2 (ev_ixT ev_v ev_c (st_of (e3 _ _ hq2)) rfl) ev_v) (by show 2 ≤ 100000; decide)) ev_v (ev_un ev_c ru_neg) fun u H4 e4 ⟨H5, e5, e6, hu, hu2⟩ => ?_
        have e24 := (e2.trans e3).trans e4
        refine ⟨_, _, dn, i, xs, u, rfl, fup e24, upd_same, hdn.imp (keep e24), ⟨fresh_back ((e.trans e2).trans e3) hu, ?_⟩, by omega, ?_⟩
        · rw [upd_ne (ne_of (e6 _ _ hu2) (e24 _ _ hf) (by intro z; cases z))]
          exact e6 _ _ hu2
        · rw [hbn, bands_on _ _ _ hi ht c]
          rfl
    · rintro σ H' ⟨v6, v7, dn, i, xs, q, rfl, e, hf, hdn, hq, hi, hbn⟩
      have e0 : a0 ar r + ((a1 ar r : Int) + 1 - ((a0 ar r : Int) + 1)).toNat = a1 ar r := by omega
      rw [e0] at hbn hq
      rw [Nat.sub_self, rg_zero] at hbn
      refine s_retV ev_v fun H3 e3 => k fo H3 (e.trans e3) ?_
      show BandsAt H (bnd s r sc ar) fo H3
      rw [hbn]
      exact BandsAt.on ((hdn.snoc hq).refs (Fr := fun p => H p = none) hfo hf) (.of e3)
end
end Sh
namespace Sh
open PySem PySem.Spec PyProof.Rows L2 Evl
/-! ### arguments some of which are new; new instances; fields stored -/
def EvAP (ta : TA) (σ : L2.St) (H : Hp) (PA : Hp → List V → Hp → Prop) : Prop := ∀ H1, Ex H H1 → ∀ Q : List V → Hp → Prop, (∀ vs H2, Ex H1 H2 → PA H1 vs H2 → Q vs H2) → ta σ H1 Q
def AntiA (PA : Hp → List V → Hp → Prop) : Prop := ∀ H H1 vs H2, Ex H H1 → PA H1 vs H2 → PA H vs H2
def NilA : Hp → List V → Hp → Prop := fun _ vs _ => vs = []
def ValA (v : V) (PA : Hp → List V → Hp → Prop) : Hp → List V → Hp → Prop := fun H0 vs H2 => ∃ r, vs = v :: r ∧ PA H0 r H2
def NewA (P : PB) (PA : Hp → List V → Hp → Prop) : Hp → List V → Hp → Prop := fun H0 vs H2 => ∃ p r, vs = .ref p :: r ∧ P H0 p H2 ∧ PA H0 r H2
theorem NilA.anti : AntiA NilA := fun _ _ _ _ _ h => h
theorem ValA.anti {v : V} {PA : Hp → List V → Hp → Prop} (a : AntiA PA) : AntiA (ValA v PA) := fun _ _ _ _ e ⟨r, h1, h2⟩ => ⟨r, h1, a _ _ _ _ e h2⟩
theorem NewA.anti {P : PB} {PA : Hp → List V → Hp → Prop} (an : Anti P) (a : AntiA PA) : AntiA (NewA P PA) := fun _ _ _ _ e ⟨p, r, h1, h2, h3⟩ => ⟨p, r, h1, an _ _ _ _ e h2, a _ _ _ _ e h3⟩
section
variable {K : PySem.W.Frag} {σ : L2.St} {H : Hp} {ta tb te tv : TE} {tr : TA} {x v y : V} {D : Ends} {tz : TS} {P : PB} {PA : Hp → List V → Hp → Prop} {C : Addr}
theorem eap_nil : EvAP tNil σ H NilA := fun H1 _ Q q => q [] H1 (Ex.refl _) rfl
theorem eap_v (h : Ev te σ H v) (hr : EvAP tr σ H PA) (a : AntiA PA) : EvAP (tCons te tr) σ H (ValA v PA) := fun H1 e Q q =>
  h H1 e _ fun H2 e2 => hr H2 (e.trans e2) _ fun vs H3 e3 h3 => q _ H3 (e2.trans e3) ⟨vs, rfl, a _ _ _ _ e2 h3⟩
theorem eap_b (fi : Firm P) (h : EvB te σ H P) (hr : EvAP tr σ H PA) (a : AntiA PA) : EvAP (tCons te tr) σ H (NewA P PA) := fun H1 e Q q =>
  h H1 e _ fun p H2 e2 h2 => hr H2 (e.trans e2) _ fun vs H3 e3 h3 => q _ H3 (e2.trans e3) ⟨p, vs, rfl, fi _ _ _ _ (.of e3) h2, a _ _ _ _ e2 h3⟩
theorem eb_make {sp : Sp} {E : XK} {t : TA} (hargs : EvAP t σ H PA)
    (hi : ∀ H1 vs H2 p dx, Ex H H1 → Ex H1 H2 → PA H1 vs H2 → H2 p = none → H2 dx = none → dx ≠ p → ∀ Q : VK, (∀ H3, Ex H2 H3 → P H1 p H3 → Q .non H3) → sp (.ref p :: vs) (upd (upd H2 dx (.own p)) p (.ins C dx [])) Q E) :
    EvB (tMake C sp [] E t) σ H P := fun H1 e Q q => hargs H1 e _ fun vs H2 e2 h2 p dx hp hdx hne => by
  rw [List.append_nil]
  exact hi H1 vs H2 p dx e e2 h2 hp hdx hne _ fun H3 e3 h3 => ⟨rfl, q p H3 (e2.trans e3) h3⟩
theorem s_fld {a dx : Addr} {fs : List (Str × V)} {f : Str} (h : Ev tv σ H y) (ho : Ev ta σ H (.ref a)) (hi : H a = some (.ins C dx fs)) (hc : Cls K C) (hn : NoAttr K C f) (hl : fs.length < 1000) (k : ∀ H1, Ex H H1 → D.nx σ (upd H1 a (.ins C dx (putF f y fs)))) : sFld K ta tv f D σ H :=
  h H (Ex.refl H) _ fun H1 e1 => ho H1 e1 _ fun H2 e2 => ⟨a, C, dx, fs, rfl, e2 _ _ (e1 _ _ hi), hc, hn, hl, k H2 (e1.trans e2)⟩
theorem q_fld {a dx : Addr} {fs : List (Str × V)} {f : Str} (h : Ev tv σ H y) (ho : Ev ta σ H (.ref a)) (hi : H a = some (.ins C dx fs)) (hc : Cls K C) (hn : NoAttr K C f) (hl : fs.length < 1000) (k : ∀ H1, Ex H H1 → tz D σ (upd H1 a (.ins C dx (putF f y fs)))) : tSeq (sFld K ta tv f) tz D σ H :=
  s_fld (D := { D with nx := tz D }) h ho hi hc hn hl k
theorem s_fldB {a dx : Addr} {fs : List (Str × V)} {f : Str} (fi : Firm P) (h : EvB tv σ H P) (ho : Ev ta σ H (.ref a)) (hi : H a = some (.ins C dx fs)) (hc : Cls K C) (hn : NoAttr K C f) (hl : fs.length < 1000) (k : ∀ p H1, Ex H H1 → P H p H1 → D.nx σ (upd H1 a (.ins C dx (putF f (.ref p) fs)))) : sFld K ta tv f D σ H :=
  h H (Ex.refl H) _ fun p H1 e1 hp => ho H1 e1 _ fun H2 e2 => ⟨a, C, dx, fs, rfl, e2 _ _ (e1 _ _ hi), hc, hn, hl, k p H2 (e1.trans e2) (fi _ _ _ _ (.of e2) hp)⟩
theorem q_fldB {a dx : Addr} {fs : List (Str × V)} {f : Str} (fi : Firm P) (h : EvB tv σ H P) (ho : Ev ta σ H (.ref a)) (hi : H a = some (.ins C dx fs)) (hc : Cls K C) (hn : NoAttr K C f) (hl : fs.length < 1000) (k : ∀ p H1, Ex H H1 → P H p H1 → tz D σ (upd H1 a (.ins C dx (putF f (.ref p) fs)))) : tSeq (sFld K ta tv f) tz D σ H :=
  s_fldB (D := { D with nx := tz D }) fi h ho hi hc hn hl k
end
theorem AllB.firm (s : Si32.St) (sc : Nat) : Firm (AllB s sc) := fun H0 p H H' e h => AllAt.on h e
theorem LayB.firm (CL : Addr) (s : Si32.St) : Firm (LayB CL s) := fun H0 p H H' e h => LayAt.on h e
/-- what stands behind the making of an instance at p -/
theorem made_ex {H2 H3 : Hp} {C p dx : Addr} (hp : H2 p = none) (hdx : H2 dx = none) (k : ∀ b o, (upd (upd H2 dx (.own p)) p (.ins C dx [])) b = some o → b ≠ p → H3 b = some o) : Ex H2 H3 := fun b o e =>
  k b o (by rw [upd_ne (ne_of_none e hp), upd_ne (ne_of_none e hdx)]; exact e) (ne_of_none e hp)
theorem take_snoc' {α : Type} {l : List α} {i : Nat} {x : α} (h : l[i]? = some x) : l.take (i + 1) = l.take i ++ [x] := by
  rw [List.take_add_one, h]
  rfl
theorem less_upd {H1 H2 : Hp} {p : Addr} {o : HO} (h : Less H1 H2) : Less H1 (upd H2 p o) := fun b hb => by
  by_cases e : b = p
  · rw [e, upd_same] at hb
    cases hb
  · rw [upd_ne e] at hb
    exact h b hb
theorem Less.ex {H1 H2 H3 : Hp} (h : Less H1 H2) (e : Ex H2 H3) : Less H1 H3 := fun b hb => h b (fresh_back e hb)
theorem total_int {α : Type} (f : α → Nat) : ∀ l : List α, (l.map fun a => (f a : Int)).sum = (Si32.total (l.map f) : Int)
  | [] => rfl
  | a :: l => by
    rw [List.map_cons, List.sum_cons, total_int f l, List.map_cons, total_cons, Int.natCast_add]
theorem range_getD {α β : Type} (f : α → β) (d : α) (l : List α) : (List.range l.length).map (fun i => f (l.getD i d)) = l.map f := by
  apply List.ext_getElem?
  intro i
  rw [List.getElem?_map, List.getElem?_map]
  by_cases h : i < l.length
  · rw [List.getElem?_range h, List.getElem?_eq_getElem h]
    show some (f (l.getD i d)) = some (f l[i])
    rw [getD_of (List.getElem?_eq_getElem h)]
  · rw [List.getElem?_eq_none (by rw [List.length_range]; omega), List.getElem?_eq_none (by omega)]
    rfl
section
variable {P : Program} {w : World} {K : PySem.W.Frag} {mg : Str → Option Value} {base : Heap} {CA CS CL CP CD aM aF aW aL aP aN : Addr}
/-! ### all_bands -/
abbrev sAll : Stmt := top 36
def spAll (CS CA : Addr) : Sp := fun vs H Q _ => ∃ st A s p p0 p1, ∃ sc : Nat, vs = [.ref st, .ref p, nV sc] ∧ SetAt CS CA H st A s ∧ H p = some (.lst [.ref p0, .ref p1]) ∧ H p0 = some (.lst (sumsV s.rows 4096)) ∧ H p1 = some (.lst (sumsV s.cols 256)) ∧ sc ≤ 400 ∧ RetB (AllB s sc) H Q
theorem sc_all : FnScope ["settings", "sums", "scale", "found", "area", "way"] ["settings", "sums", "scale"] (defScope sAll) := ⟨rfl, rfl, rfl, by decide +kernel, rfl, by decide +kernel, by decide +kernel⟩
theorem d_all (T : Txt K mg CA CS CL CP CD aM aF aW aL aP aN) (F0 : Src K mg "all_bands" sAll ["settings", "sums", "scale"]) (D1 : Def P w K mg base 4 "bands_of" ["settings", "way", "sums", "area", "scale"] (spBands CS CA)) :
    Def P w K mg base 5 "all_bands" ["settings", "sums", "scale"] (spAll CS CA) := by
  refine .mk F0 fun f fd F => F.ok sc_all (fun vs H Q E h => ?_) (fun cdv A outer s H vs Q E hr h => ?_)
  · obtain ⟨_, _, _, _, _, _, _, rfl, _⟩ := h
    rfl
  · obtain ⟨st, A, s, p, p0, p1, sc, rfl, S, hp, h0, h1, hsc, k⟩ := h
    refine ⟨_, pss_cons (ps_set (i := 3) sc_all.nd rfl (.inl rfl) (pe_lst pa_nil))
      (pss_cons (ps_for PassesOwn.never rfl (pi_list (pe_fld (pv 0) rfl)) (pg_name (i := 4) sc_all.nd rfl (.inr rfl))
        (pss_one (ps_expr (pe_bm PySem.F.plainAttrs_list PySem.F.slot_list_append PySem.F.type_list_append mt_append (pv 3) (pa_cons (pe_lc (own := [("way", 5)]) (g := gName 5) (tt := tYes) (te := tCall (spBands CS CA) [] E0 (tCons (tVar 0) (tCons (tVar 5) (tCons (tOp (rIxL K) (tVar 1) (tVar 5)) (tCons (tVar 4) (tCons (tVar 2) tNil)))))) rfl sc_all.nd
          (pi_range1 rfl T.b_range (pa_cons pe_int pa_nil)) (blkOk_by (own := [("way", 5)]) (N := ["settings", "sums", "scale", "found", "area", "way"]) (sc := defScope sAll) (by decide +kernel)) (fun _ _ _ _ _ => pg_name (i := 5) sc_all.nd rfl (Or.inl rfl)) (fun _ _ _ _ _ => pts_nil)
          (fun _ _ _ _ _ => by exact pe_def D1 hr rfl (pa_cons (pv 0) (pa_cons (pv 5) (pa_cons (pe_ix ix_list (pv 1) (pv 5) (fun _ _ => rfl)) (pa_cons (pv 4) (pa_cons (pv 2) pa_nil))))))) pa_nil)))))
      (pss_one (ps_ret (pv 3)))), ?_⟩
    refine q_asgL (el_lst ea_nil (by decide)) fun fo H1 hfo e1 hf1 => ?_
    have S1 := S.ex e1
    obtain ⟨_, xs0, hx0, lo0⟩ := S.ar.of
    refine q_forLn (a := A.ar) (xs := xs0) (S_areas T S1 ev_v) (sq_of (e1 _ _ hx0)) (fun i σ H' => ∃ v4 xs, σ = [some (.ref st), some (.ref p), some (nV sc), some (.ref fo), v4, none] ∧ Ex H H' ∧ Less H1 H' ∧ H' fo = some (.lst xs) ∧ LstOf (fun q a => OwnAt H1 (bnd s true sc a) (bnd s false sc a) q H') xs (s.areas.take i))
      (fun H2 e2 => ⟨none, [], rfl, e1.trans e2, .of e2, e2 _ _ hf1, .nil⟩) (fun i σ H' _ ⟨_, _, _, e, _⟩ => sq_of (e _ _ hx0)) ?_ ?_
    · rintro i v σ H' hi ⟨v4, xs, rfl, e, le, hf, hl⟩
      obtain ⟨a, ar, rfl, har, hA⟩ := lo0.of hi
      have hm : ar ∈ s.areas := List.mem_of_getElem? har
      have hA' : AreaAt CA (A.mut st) H' a ar := hA.stay (.of e)
      have S' := S.ex e
      refine s_appB (P := TwoB (BandsB (bnd s true sc ar)) (BandsB (bnd s false sc ar))) (TwoB.anti (BandsB.anti _) (BandsB.anti _)) hf ev_v (eb_two (P := fun r => BandsB (bnd s r sc ar)) (fun r => BandsB.anti _) (fun r => BandsB.firm _) (fun x => rfl) fun r H2 e2 => ?_) ?_ fun q H2 e2 hq => ?_
      · have S2 := S'.ex e2
        refine eb_callS (BandsB.anti _) (ea_cons ev_v (ea_cons ev_v (ea_cons (ev_is (w := .ref (if r then p0 else p1)) (ev_two ev_v ev_v (e2 _ _ (e _ _ hp))) (by cases r <;> rfl)) (ea2 ev_v ev_v)))) fun H3 e3 Q qq =>
          ⟨st, A, s, r, _, a, A.mut st, ar, sc, rfl, S2.ex e3, ?_, (hA'.stay (.of e2)).stay (.of e3), (S.good.area hm r).1, (S.good.area hm r).2, hsc, qq⟩
        cases r
        · exact e3 _ _ (e2 _ _ (e _ _ h1))
        · exact e3 _ _ (e2 _ _ (e _ _ h0))
      · have := hl.len
        rw [List.length_take] at this
        have := S.good.alen
        omega
      · refine ⟨_, _, rfl, Ex.mut (e.trans e2) hfo, less_upd (le.ex e2), upd_same, ?_⟩
        have on1 : ∀ {H3 H4 : Hp} {xs' : List V}, Ex H3 H4 → On H1 H3 (upd H4 fo (.lst xs')) := fun e34 => (On.of e34).trans (on_upd (not_none hf1))
        rw [take_snoc' har]
        refine (hl.imp fun q a h => OwnAt.on h (on1 e2)).snoc ?_
        have hq : OwnAt H' (bnd s true sc ar) (bnd s false sc ar) q H2 := hq
        exact OwnAt.on (OwnAt.less hq le) (on1 (Ex.refl _))
    · rintro σ H' ⟨v4, xs, rfl, e, le, hf, hl⟩
      rw [lo0.len, List.take_length] at hl
      refine s_retV ev_v fun H3 e3 => k fo H3 (e.trans e3) ?_
      exact AllAt.on (RefsAt.imp (hl.refs (Fr := fun p => H p = none) hfo hf) id (fun o _ h => h) fun q a _ h => OwnAt.less h (.of e1)) (.of e3)
end
end Sh
namespace Sh
open PySem PySem.Spec PyProof.Rows L2 Evl
theorem wi_of {i : Nat} (h : (i : Int) < 2) : ∃ r, (i : Int) = wi r ∧ i = wn r := by
  have : i = 0 ∨ i = 1 := by omega
  rcases this with rfl | rfl
  · exact ⟨true, rfl, rfl⟩
  · exact ⟨false, rfl, rfl⟩
theorem ev_sumL {K : PySem.W.Frag} {te : TE} {σ : L2.St} {H : Hp} {ns : List Int} (h : EvL te σ H (ns.map V.int)) : Ev (tCB (rSum K) (tCons te tNil)) σ H (.int ns.sum) := fun H1 e Q q =>
  h H1 e _ fun p H2 _ e2 h2 => ⟨p, ns, rfl, sq_of h2, q H2 e2⟩
theorem et_yes {σ : L2.St} {H : Hp} : EvT tYes σ H true := fun H1 _ Q q => q H1 (Ex.refl _)
/-- lists and tuples stand -/
def Lists (H H' : Hp) : Prop := ∀ b, (∀ xs, H b = some (.lst xs) → H' b = some (.lst xs)) ∧ ∀ xs, H b = some (.tup xs) → H' b = some (.tup xs)
theorem RefsAt.lists {α : Type} {Fr : Addr → Prop} {P P' : Addr → α → Prop} {H H' : Hp} {p : Addr} {l : List α} (h : RefsAt Fr P H p l) (e : Lists H H') (hp : ∀ q x, P q x → P' q x) : RefsAt Fr P' H' p l := by
  obtain ⟨f, xs, h1, h2⟩ := h.of
  exact (h2.imp hp).refs f ((e p).1 _ h1)
theorem BandsAt.lists {H0 H H' : Hp} {l : List Si32.Band} {p : Addr} (h : BandsAt H0 l p H) (e : Lists H H') : BandsAt H0 l p H' := RefsAt.lists h e fun q x h => ⟨h.1, (e q).2 _ h.2⟩
theorem OwnAt.lists {H0 H H' : Hp} {x y : List Si32.Band} {p : Addr} (h : OwnAt H0 x y p H) (e : Lists H H') : OwnAt H0 x y p H' := by
  obtain ⟨f, p0, p1, h1, h2, h3⟩ := h
  exact ⟨f, p0, p1, (e p).1 _ h1, h2.lists e, h3.lists e⟩
theorem AllAt.lists {H0 H H' : Hp} {s : Si32.St} {sc : Nat} {as : List Si32.Area} {p : Addr} (h : AllAt H0 s sc as p H) (e : Lists H H') : AllAt H0 s sc as p H' := RefsAt.lists h e fun q x h => h.lists e
theorem Lists.of {H H' : Hp} (e : Ex H H') : Lists H H' := fun b => ⟨fun _ h => e _ _ h, fun _ h => e _ _ h⟩
theorem Lists.ins {H : Hp} {x C dx : Addr} {fs : List (Str × V)} {o : HO} (h : H x = some (.ins C dx fs)) : Lists H (upd H x o) := fun b => ⟨fun xs hb => by
    rw [upd_ne (ne_of hb h (by intro z; cases z))]
    exact hb, fun xs hb => by
    rw [upd_ne (ne_of hb h (by intro z; cases z))]
    exact hb⟩
theorem Lists.trans {H H1 H2 : Hp} (a : Lists H H1) (b : Lists H1 H2) : Lists H H2 := fun c => ⟨fun xs h => (b c).1 xs ((a c).1 xs h), fun xs h => (b c).2 xs ((a c).2 xs h)⟩
/-- f in a row of bounds -/
def over1 (s : Si32.St) (w h sc : Nat) (a : Si32.Area) (r : Bool) : Bool := decide (0 < (if r then h else w) ∧ (if r then h else w) < (bnd s r sc a).length)
theorem fits_eq (s : Si32.St) (w h sc : Nat) : s.fits w h sc = s.areas.all fun a => !over1 s w h sc a false && !over1 s w h sc a true := by
  show (s.areas.all fun a => (w == 0 || decide ((bnd s false sc a).length ≤ w)) && (h == 0 || decide ((bnd s true sc a).length ≤ h))) = _
  congr 1
  funext a
  unfold over1
  rw [Bool.eq_iff_iff]
  simp only [Bool.and_eq_true, Bool.or_eq_true, beq_iff_eq, decide_eq_true_iff, Bool.not_eq_true', decide_eq_false_iff_not]
  show ((w = 0 ∨ _) ∧ (h = 0 ∨ _)) ↔ (¬ (0 < w ∧ w < _) ∧ ¬ (0 < h ∧ h < _))
  omega
section
variable {P : Program} {w : World} {K : PySem.W.Frag} {mg : Str → Option Value} {base : Heap} {CA CS CL CP CD aM aF aW aL aP aN : Addr}
/-! ### do_fit -/
abbrev sFit : Stmt := top 37
def spFit (CS CA : Addr) : Sp := fun vs H Q _ => ∃ st A s b H0, ∃ sc w h : Nat, vs = [.ref st, .ref b] ∧ SetAt CS CA H st A s ∧ AllAt H0 s sc s.areas b H ∧ s.scale = .fit w h ∧ RetV (.bl (s.fits w h sc)) H Q
theorem sc_fit : FnScope ["settings", "bands", "own", "way"] ["settings", "bands"] (defScope sFit) := ⟨rfl, rfl, rfl, by decide +kernel, rfl, by decide +kernel, by decide +kernel⟩
theorem d_fit (T : Txt K mg CA CS CL CP CD aM aF aW aL aP aN) (F0 : Src K mg "do_fit" sFit ["settings", "bands"]) : Def P w K mg base 1 "do_fit" ["settings", "bands"] (spFit CS CA) := by
  refine .mk F0 fun f fd F => F.ok sc_fit (fun vs H Q E h => ?_) (fun cdv A outer s H vs Q E hr h => ?_)
  · obtain ⟨_, _, _, _, _, _, _, _, rfl, _⟩ := h
    rfl
  · obtain ⟨st, A, s, b, H0, sc, w', h', rfl, S, hB, hs, k⟩ := h
    refine ⟨_, pss_cons (ps_for PassesOwn.never rfl (pi_list (pv 1)) (pg_name (i := 2) sc_fit.nd rfl (.inl rfl))
        (pss_one (ps_for PassesOwn.never rfl (pi_range1 rfl T.b_range (pa_cons pe_int pa_nil)) (pg_name (i := 3) sc_fit.nd rfl (.inl rfl))
          (pss_one (ps_if (PW.pt (pw_and (pt_cmpR op_gt (pe_ix ix_list (pe_fld (pv 0) rfl) (pv 3) (fun _ _ => rfl)) pe_int (nomark _)) (pw_and1 (pt_cmpR op_gt (pe_callB call_len_seq (by rfl) T.b_len PySem.boot_len (pa_cons (pe_ix ix_list (pv 2) (pv 3) (fun _ _ => rfl)) pa_nil)) (pe_ix ix_list (pe_fld (pv 0) rfl) (pv 3) (fun _ _ => rfl)) (nomark _)))))
            (pss_one (ps_ret pe_bl)) pss_nil)))))
      (pss_one (ps_ret pe_bl)), ?_⟩
    obtain ⟨hf1, hf2⟩ := S.fit w' h' hs
    have fv : ∀ r, A.fv r = (((if r then h' else w') : Nat) : Int) := fun r => by cases r <;> assumption
    obtain ⟨_, xs0, hx0, lo0⟩ := hB.of
    refine q_forLn (a := b) (xs := xs0) ev_v (sq_of hx0) (fun i σ H' => ∃ v2 v3, σ = [some (.ref st), some (.ref b), v2, v3] ∧ Ex H H' ∧ ∀ a ∈ s.areas.take i, ∀ r, over1 s w' h' sc a r = false)
      (fun H2 e2 => ⟨none, none, rfl, e2, fun a ha => by simp at ha⟩) (fun i σ H' _ ⟨_, _, _, e, _⟩ => sq_of (e _ _ hx0)) ?_ ?_
    · rintro i v σ H' hi ⟨v2, v3, rfl, e, hok⟩
      obtain ⟨q, a, rfl, ha, hq⟩ := lo0.of hi
      have hm : a ∈ s.areas := List.mem_of_getElem? ha
      obtain ⟨_, p0, p1, hq1, h0, h1⟩ := OwnAt.on hq (.of e)
      refine s_forR1 (n := 2) (ea1 ev_c) (by decide) (fun j σ H' => ∃ v3, σ = [some (.ref st), some (.ref b), some (.ref q), v3] ∧ Ex H H' ∧ ∀ r, wn r < j → over1 s w' h' sc a r = false) (fun H2 e2 => ⟨v3, rfl, e.trans e2, fun r hr => absurd hr (Nat.not_lt_zero _)⟩) ?_ ?_
      · rintro j σ H2 hj ⟨v3, rfl, e2, hj2⟩
        obtain ⟨r, er, ej⟩ := wi_of hj
        rw [er]
        have S2 := S.ex e2
        obtain ⟨_, p0, p1, hq1, h0, h1⟩ := OwnAt.on hq (.of e2)
        have hl : ∃ (pr : Addr) (ys : List V), (if r then V.ref p0 else V.ref p1) = .ref pr ∧ H2 pr = some (.lst ys) ∧ ys.length = (bnd s r sc a).length := by
          cases r
          · obtain ⟨ys, hy, ly, _⟩ := h1.lst
            exact ⟨p1, ys, rfl, hy, ly⟩
          · obtain ⟨ys, hy, ly, _⟩ := h0.lst
            exact ⟨p0, ys, rfl, hy, ly⟩
        obtain ⟨pr, ys, epr, hy, ly⟩ := hl
        have fe : ∀ {H3 : Hp}, Ex H2 H3 → Ev (tOp (rIxL K) (tFld K (tVar 0) "fit") (tVar 3)) ([some (V.ref st), some (V.ref b), some (V.ref q), v3].set 3 (some (V.int (wi r)))) H3 (nV (if r then h' else w')) := fun e3 => ev_is (S_fit2 T (S2.ex e3) ev_v ev_v) (congrArg V.int (fv r))
        refine s_when (et_and (b := decide ((((if r then h' else w') : Nat) : Int) < ((bnd s r sc a).length : Int))) (et_test (ev_i (fe (Ex.refl _)) ev_c)) (fun _ => et_test (ev_i (ev_lenS (ev_is (ev_two ev_v ev_v hq1) epr) (sq_of hy) ly) (fe (Ex.refl _))))) (fun c H3 e3 => ?_) (fun c H3 e3 => ?_)
        · rw [Bool.and_eq_true, decide_eq_true_iff, decide_eq_true_iff] at c
          refine s_retV ev_c ?_
          have : s.fits w' h' sc = false := by
            rw [fits_eq, List.all_eq_false]
            refine ⟨a, hm, ?_⟩
            have ho : over1 s w' h' sc a r = true := by
              unfold over1
              rw [decide_eq_true_iff]
              omega
            cases r
            · rw [ho]; simp
            · rw [ho]; simp
          rw [this] at k
          exact RetV.mono k (e2.trans e3)
        · refine ⟨_, rfl, e2.trans e3, fun r' hr' => ?_⟩
          by_cases h : wn r' < j
          · exact hj2 r' h
          · have : r' = r := by
              cases r <;> cases r' <;> simp [wn] at * <;> omega
            subst this
            rw [Bool.and_eq_false_iff, decide_eq_false_iff_not, decide_eq_false_iff_not] at c
            unfold over1
            rw [decide_eq_false_iff_not]
            omega
      · rintro σ H2 ⟨v3, rfl, e2, hj⟩
        refine ⟨_, _, rfl, e2, fun a' ha' r => ?_⟩
        rw [take_snoc' ha] at ha'
        rcases List.mem_append.mp ha' with h | h
        · exact hok a' h r
        · have : a' = a := by simpa using h
          subst this
          exact hj r (by cases r <;> decide)
    · rintro σ H' ⟨v2, v3, rfl, e, hok⟩
      rw [lo0.len, List.take_length] at hok
      have : s.fits w' h' sc = true := by
        rw [fits_eq, List.all_eq_true]
        intro a ha
        rw [hok a ha true, hok a ha false]
        rfl
      rw [this] at k
      exact s_retV ev_c (RetV.mono k e)
/-! ### Layout -/
abbrev sLayI : Stmt := inClass (top 29) 0
def spLayI (CL : Addr) : Sp := fun vs H Q _ => ∃ x dx bl H0 s, ∃ sc : Nat, vs = [.ref x, nV sc, .ref bl] ∧ H x = some (.ins CL dx []) ∧ AllAt H0 s sc s.areas bl H ∧ Good s ∧
  ∀ H3, (∀ b o, H b = some o → b ≠ x → H3 b = some o) → H3 x = some (.ins CL dx [("scale", nV sc), ("bands", .ref bl), ("pages", nV (Si32.total (s.areas.map (cnt s sc))))]) → Q .non H3
theorem sc_layI : FnScope ["self", "scale", "bands", "own"] ["self", "scale", "bands"] (defScope sLayI) := ⟨rfl, rfl, rfl, by decide +kernel, rfl, by decide +kernel, by decide +kernel⟩
theorem sum_bands (s : Si32.St) (sc : Nat) : ((List.range s.areas.length).map fun i => ((cnt s sc (s.areas.getD i noArea) : Nat) : Int)).sum = ((Si32.total (s.areas.map (cnt s sc)) : Nat) : Int) := by
  rw [range_getD (fun a => ((cnt s sc a : Nat) : Int)) noArea s.areas, total_int]
theorem given_all (n : Nat) (g : Nat → Int) : given n (fun _ => true) (fun i => V.int (g i)) = ((List.range n).map g).map V.int := by
  unfold given
  rw [List.filter_eq_self.mpr (fun _ _ => rfl), List.map_map]
  rfl
theorem ok_layI {f : Addr} {fd : FuncData} (T : Txt K mg CA CS CL CP CD aM aF aW aL aP aN) (F : Fun K "__init__" "Layout.__init__" sLayI f fd) : FnOk P w K mg base CX0 1 f fd ["self", "scale", "bands"] (spLayI CL) := by
  refine F.ok sc_layI (fun vs H Q E h => ?_) (fun cdv A outer s H vs Q E hr h => ?_)
  · obtain ⟨_, _, _, _, _, _, rfl, _⟩ := h
    rfl
  · obtain ⟨x, dx, bl, H0, s, sc, rfl, hx, hB, g, k⟩ := h
    refine ⟨_, pss_cons (ps_fld (pv 0) (pv 1) rfl) (pss_cons (ps_fld (pv 0) (pv 2) rfl) (pss_one (ps_fld (pv 0) (pe_callB (cr_sum rfl) (by rfl) T.b_sum (by decide +kernel) (pa_cons (pe_lc (own := [("own", 3)]) (g := gName 3) (tt := tYes)
      (te := tOp (rI CMul fun i j => .int (i * j)) (tCB (rLenS K) (tCons (tOp (rIxL K) (tVar 3) (tC (.int 0))) tNil)) (tCB (rLenS K) (tCons (tOp (rIxL K) (tVar 3) (tC (.int 1))) tNil))) rfl sc_layI.nd (pi_list (pv 2))
      (blkOk_by (own := [("own", 3)]) (N := ["self", "scale", "bands", "own"]) (sc := defScope sLayI) (by decide +kernel)) (fun _ _ _ _ _ => pg_name (i := 3) sc_layI.nd rfl (Or.inl rfl)) (fun _ _ _ _ _ => pts_nil)
      (fun _ _ _ _ _ => by exact pe_op op_mul (pe_callB call_len_seq (by rfl) T.b_len PySem.boot_len (pa_cons (pe_ix ix_list (pv 3) pe_int (fun _ _ => rfl)) pa_nil)) (pe_callB call_len_seq (by rfl) T.b_len PySem.boot_len (pa_cons (pe_ix ix_list (pv 3) pe_int (fun _ _ => rfl)) pa_nil)))) pa_nil)) rfl))), ?_⟩
    refine q_fld ev_v ev_v hx T.clL T.nL_scale (by show 0 < 1000; decide) fun H1 e1 => ?_
    refine q_fld ev_v ev_v upd_same T.clL T.nL_bands (by show 1 < 1000; decide) fun H2 e2 => ?_
    have hx1 := e1 _ _ hx
    have L2' : Lists H H2 := ((Lists.of e1).trans (Lists.ins hx1)).trans (Lists.of e2)
    have hx2 := e2 _ _ upd_same
    have hB3 := hB.lists (L2'.trans (Lists.ins (o := .ins CL dx (putF "bands" (V.ref bl) (putF "scale" (nV sc) []))) hx2))
    obtain ⟨_, xs0, hx0, lo0⟩ := hB3.of
    have ll := lo0.len
    have al := g.alen
    refine s_fld (y := .int ((List.range xs0.length).map fun i => ((cnt s sc (s.areas.getD i noArea) : Nat) : Int)).sum) (ev_sumL (by
      rw [← given_all]
      refine el_lcL (fun _ => true) (fun i => V.int ((cnt s sc (s.areas.getD i noArea) : Nat) : Int)) ev_v (sq_of hx0) (by omega) (fun _ => rfl) (fun i v H3 e3 hi => et_yes) (fun i v H3 e3 hi _ => ?_)
      obtain ⟨q, a, rfl, ha, hq⟩ := lo0.of hi
      have hm : a ∈ s.areas := List.mem_of_getElem? ha
      obtain ⟨_, p0, p1, hq1, h0, h1⟩ := OwnAt.on hq (.of e3)
      obtain ⟨ys0, hy0, ly0, _⟩ := h0.lst
      obtain ⟨ys1, hy1, ly1, _⟩ := h1.lst
      rw [getD_of ha]
      refine ev_is (ev_iC (ev_lenS (ev_ixL ev_v ev_c (sq_of hq1) rfl) (sq_of hy0) ly0) (ev_lenS (ev_ixL ev_v ev_c (sq_of hq1) rfl) (sq_of hy1) ly1) (cmul_r (len_le g hm false sc).2)) ?_
      refine congrArg V.int ?_
      exact (Int.natCast_mul _ _).symm)) ev_v upd_same T.clL T.nL_pages (by show 2 < 1000; decide) fun H3 e3 => ?_
    refine k _ (fun b o hb hbx => ?_) ?_
    · rw [upd_ne hbx]
      refine e3 _ _ ?_
      rw [upd_ne hbx]
      refine e2 _ _ ?_
      rw [upd_ne hbx]
      exact e1 _ _ hb
    · rw [upd_same, ll, sum_bands]
      rfl
end
end Sh
namespace Sh
open PySem PySem.Spec PyProof.Rows L2 Evl
section
variable {P : Program} {w : World} {K : PySem.W.Frag} {mg : Str → Option Value} {base : Heap} {CA CS CL CP CD aM aF aW aL aP aN : Addr}
/-! ### layout_of -/
abbrev sLay : Stmt := top 39
def spLay (CS CA CL : Addr) : Sp := fun vs H Q _ => ∃ st A s, vs = [.ref st] ∧ SetAt CS CA H st A s ∧ RetB (LayB CL s) H Q
theorem sc_lay : FnScope ["settings", "sums", "scale", "bands"] ["settings"] (defScope sLay) := ⟨rfl, rfl, rfl, by decide +kernel, rfl, by decide +kernel, by decide +kernel⟩
/-- a layout made, from its parts -/
theorem lay_made {H H2 H3 : Hp} {s : Si32.St} {sc : Nat} {p dx bl : Addr} (g : Good s) (hs : s.percent = sc) (e : Ex H H2) (hp : H2 p = none) (hB : AllAt H s sc s.areas bl H2) (e3 : Ex H2 H3)
    (h : H3 p = some (.ins CL dx [("scale", nV sc), ("bands", .ref bl), ("pages", nV (Si32.total (s.areas.map (cnt s sc))))])) : LayAt H CL s p H3 := by
  subst hs
  exact ⟨fresh_back e hp, dx, bl, h, hB.on (.of e3)⟩
theorem d_lay (T : Txt K mg CA CS CL CP CD aM aF aW aL aP aN) (F0 : Src K mg "layout_of" sLay ["settings"]) (D1 : Def P w K mg base 2 "both_sums" ["settings"] (spBoth CS CA)) (D2 : Def P w K mg base 5 "all_bands" ["settings", "sums", "scale"] (spAll CS CA))
    (D3 : Def P w K mg base 1 "do_fit" ["settings", "bands"] (spFit CS CA)) (D4 : Cla P w K mg base 1 CL ["self", "scale", "bands"] (spLayI CL)) : Def P w K mg base 6 "layout_of" ["settings"] (spLay CS CA CL) := by
  refine .mk F0 fun f fd F => F.ok sc_lay (fun vs H Q E h => ?_) (fun cdv A outer s H vs Q E hr h => ?_)
  · obtain ⟨_, _, _, rfl, _⟩ := h
    rfl
  · obtain ⟨st, A, s, rfl, S, k⟩ := h
    have hr1 : Room 1 _ := hr.mono (by decide)
    have hr2 : Room 2 _ := hr.mono (by decide)
    have hrN : Room (1 + 1) _ := hr.mono (by decide)
    refine ⟨_, pss_cons (ps_set (i := 1) sc_lay.nd rfl (.inl rfl) (pe_def D1 hr2 rfl (pa_cons (pv 0) pa_nil)))
      (pss_cons (ps_if (pt_cmpR op_notN (pe_fld (pv 0) rfl) pe_non (nomark _)) (pss_one (ps_ret (pe_new D4 hrN rfl T.gL (pa_cons (pe_fld (pv 0) rfl) (pa_cons (pe_def D2 hr rfl (pa_cons (pv 0) (pa_cons (pv 1) (pa_cons (pe_fld (pv 0) rfl) pa_nil)))) pa_nil))))) pss_nil)
      (pss_cons (ps_set (i := 2) sc_lay.nd rfl (.inl rfl) (pe_k rfl T.k_FIRST_SCALE))
      (pss_cons (ps_set (i := 3) sc_lay.nd rfl (.inl rfl) (pe_def D2 hr rfl (pa_cons (pv 0) (pa_cons (pv 1) (pa_cons (pv 2) pa_nil)))))
      (pss_cons (ps_while PassesOwn.never (PW.pt (pw_and (pt_cmpR op_gt (pv 2) (pe_k rfl T.k_LEAST_SCALE) (nomark _)) (pw_and1 (pt_not (pt_val (pe_def D3 hr1 rfl (pa_cons (pv 0) (pa_cons (pv 3) pa_nil))))))))
        (pss_cons (ps_set (i := 2) sc_lay.nd rfl (.inl rfl) (pe_op op_sub (pv 2) pe_int)) (pss_one (ps_set (i := 3) sc_lay.nd rfl (.inl rfl) (pe_def D2 hr rfl (pa_cons (pv 0) (pa_cons (pv 1) (pa_cons (pv 2) pa_nil))))))))
      (pss_one (ps_ret (pe_new D4 hrN rfl T.gL (pa_cons (pv 2) (pa_cons (pv 3) pa_nil))))))))), ?_⟩
    refine q_asgB (eb_callS (TwoB.anti (LstB.anti _) (LstB.anti _)) (ea1 ev_v) fun H1 e Q q => ⟨st, A, s, rfl, S.ex e, q⟩) fun sm H1 e1 ⟨_, p0, p1, hsm, ⟨_, h0⟩, ⟨_, h1⟩⟩ => ?_
    have S1 := S.ex e1
    have all : ∀ {H2 : Hp} {σ : L2.St} {te : TE} (sc : Nat), Ex H1 H2 → sc ≤ 400 → σ[0]? = some (some (.ref st)) → σ[1]? = some (some (.ref sm)) → Ev te σ H2 (nV sc) → EvB (tCall (spAll CS CA) [] E0 (tCons (tVar 0) (tCons (tVar 1) (tCons te tNil)))) σ H2 (AllB s sc) :=
      fun sc e2 hsc a0 a1 ht => eb_callS (AllB.anti _ _) (ea_cons (ev_var a0) (ea2 (ev_var a1) ht)) fun H3 e3 Q q => ⟨st, A, s, sm, p0, p1, sc, rfl, S1.ex (e2.trans e3), e3 _ _ (e2 _ _ hsm), e3 _ _ (e2 _ _ h0), e3 _ _ (e2 _ _ h1), hsc, q⟩
    refine q_when (et_test (ev_notN (S_scale T S1 ev_v))) (fun c H2 e2 => ?_) (fun c H2 e2 => ?_)
    · cases hs : s.scale with
      | fit w' h' =>
        rw [hs] at c
        cases c
      | told p =>
        have hp := percent_told hs
        have le := S.good.percent.2
        have S2 := S1.ex e2
        have es : scV s.scale = nV p := by rw [hs]; rfl
        refine s_retB (P := fun _ p H3 => LayAt H CL s p H3) (eb_make (PA := ValA (nV p) (NewA (AllB s p) NilA)) (eap_v (ev_is (S_scale T S2 ev_v) es) (eap_b (AllB.firm _ _) (all p e2 (by omega) rfl rfl (ev_is (S_scale T S2 ev_v) es)) eap_nil NilA.anti) (NewA.anti (AllB.anti _ _) NilA.anti)) ?_) (fun p H3 e3 h => k p H3 ((e1.trans e2).trans e3) h)
        rintro H3 vs H4 x dx e3 e4 ⟨_, rfl, bl, _, rfl, hB, rfl⟩ hx hdx hne Q' q'
        have hB : AllAt H3 s p s.areas bl H4 := hB
        refine ⟨x, dx, bl, H3, s, p, rfl, upd_same, ?_, S.good, fun H5 k5 hx5 => ?_⟩
        · exact hB.on (.of ((Ex.new hdx).trans (Ex.new (by rw [upd_ne hne.symm]; exact hx))))
        · have e5 := made_ex hx hdx k5
          exact q' H5 e5 (lay_made S.good hp (((e1.trans e2).trans e3).trans e4) hx (hB.less (.of ((e1.trans e2).trans e3))) e5 hx5)
    · cases hs : s.scale with
      | told p =>
        rw [hs] at c
        cases c
      | fit w' h' =>
        refine q_asg ev_c fun H3 e3 => ?_
        have e13 := e2.trans e3
        refine q_asgB (all 100 e13 (by decide) rfl rfl ev_v) fun bl H4 e4 hB => ?_
        have e04 := (e1.trans e13).trans e4
        refine q_while (fun m σ H' => ∃ sc bl, m = sc ∧ σ = [some (.ref st), some (.ref sm), some (nV sc), some (.ref bl)] ∧ Ex H1 H' ∧ AllAt H s sc s.areas bl H' ∧ 10 ≤ sc ∧ sc ≤ 100 ∧ ∀ q, sc < q → q ≤ 100 → s.fits w' h' q = false) 100
          ⟨100, bl, rfl, rfl, e13.trans e4, AllAt.less hB (.of (e1.trans e13)), by decide, by decide, fun q h1 h2 => by omega⟩ ?_
        rintro m σ H5 ⟨sc, bl, rfl, rfl, e5, hB, lo, hi, nof⟩
        have S5 := S1.ex e5
        refine ⟨_, et_and (b := !(s.fits w' h' m)) (et_test (ev_i ev_v ev_c)) (fun _ => et_not (et_B (ev_callS (ea2 ev_v ev_v) fun H6 e6 Q q => ⟨st, A, s, bl, H, m, w', h', rfl, S5.ex e6, hB.on (.of e6), hs, q⟩))), fun c H6 e6 => ?_, fun c H6 e6 => ?_⟩
        · rw [Bool.and_eq_true, decide_eq_true_iff, Bool.not_eq_true'] at c
          refine ⟨fun σ H' => ∃ bl, σ = [some (.ref st), some (.ref sm), some (nV (m - 1)), some (.ref bl)] ∧ Ex H1 H' ∧ AllAt H s (m - 1) s.areas bl H', fun σ2 H7 ⟨bl, hσ, e7, hB7⟩ => ⟨m - 1, by omega, m - 1, bl, rfl, hσ, e7, hB7, by omega, by omega, fun q hq1 hq2 => ?_⟩, ?_⟩
          · by_cases hqm : q = m
            · rw [hqm]; exact c.2
            · exact nof q (by omega) hq2
          · refine q_asg (v := nV (m - 1)) (ev_is (ev_i ev_v ev_c) (congrArg V.int (by omega))) fun H7 e7 => ?_
            refine s_asgB (all (m - 1) ((e5.trans e6).trans e7) (by omega) rfl rfl ev_v) fun bl' H8 e8 hB8 => ?_
            exact ⟨bl', rfl, ((e5.trans e6).trans e7).trans e8, AllAt.less hB8 (.of (e1.trans ((e5.trans e6).trans e7)))⟩
        · have hp : s.percent = m := percent_fit hs lo hi nof (by
            rw [Bool.and_eq_false_iff, decide_eq_false_iff_not, Bool.not_eq_false'] at c
            rcases c with c | c
            · left; omega
            · right; exact c)
          refine s_retB (P := fun _ p H3 => LayAt H CL s p H3) (eb_make (PA := ValA (nV m) (ValA (.ref bl) NilA)) (eap_v ev_v (eap_v ev_v eap_nil NilA.anti) (ValA.anti NilA.anti)) ?_) (fun p H3 e3 h => k p H3 (((e1.trans e5).trans e6).trans e3) h)
          rintro H7 vs H8 x dx e7 e8 ⟨_, rfl, _, rfl, rfl⟩ hx hdx hne Q' q'
          have e68 := (e6.trans e7).trans e8
          refine ⟨x, dx, bl, H, s, m, rfl, upd_same, ?_, S.good, fun H9 k9 hx9 => ?_⟩
          · exact hB.on (.of (e68.trans ((Ex.new hdx).trans (Ex.new (by rw [upd_ne hne.symm]; exact hx)))))
          · have e9 := made_ex hx hdx k9
            exact q' H9 e9 (lay_made S.good hp ((e1.trans e5).trans e68) hx (hB.on (.of e68)) e9 hx9)
/-! ### Page -/
abbrev sPageI : Stmt := inClass (top 30) 0
def spPageI (CP : Addr) : Sp := fun vs H Q _ => ∃ x dx v1 v2, vs = [.ref x, v1, v2] ∧ H x = some (.ins CP dx []) ∧
  ∀ H3, (∀ b o, H b = some o → b ≠ x → H3 b = some o) → H3 x = some (.ins CP dx [("area", v1), ("numbers", v2)]) → Q .non H3
theorem sc_pageI : FnScope ["self", "area", "numbers"] ["self", "area", "numbers"] (defScope sPageI) := ⟨rfl, rfl, rfl, by decide +kernel, rfl, by decide +kernel, by decide +kernel⟩
theorem ok_pageI {f : Addr} {fd : FuncData} (T : Txt K mg CA CS CL CP CD aM aF aW aL aP aN) (F : Fun K "__init__" "Page.__init__" sPageI f fd) : FnOk P w K mg base CX0 1 f fd ["self", "area", "numbers"] (spPageI CP) := by
  refine F.ok sc_pageI (fun vs H Q E h => ?_) (fun cdv A outer s H vs Q E hr h => ?_)
  · obtain ⟨_, _, _, _, rfl, _⟩ := h
    rfl
  · obtain ⟨x, dx, v1, v2, rfl, hx, k⟩ := h
    refine ⟨_, pss_cons (ps_fld (pv 0) (pv 1) rfl) (pss_one (ps_fld (pv 0) (pv 2) rfl)), ?_⟩
    refine q_fld ev_v ev_v hx T.clP T.nP_area (by show 0 < 1000; decide) fun H1 e1 => ?_
    refine s_fld ev_v ev_v upd_same T.clP T.nP_numbers (by show 1 < 1000; decide) fun H2 e2 => ?_
    refine k _ (fun b o hb hbx => ?_) upd_same
    rw [upd_ne hbx]
    refine e2 _ _ ?_
    rw [upd_ne hbx]
    exact e1 _ _ hb
/-! ### page_at -/
abbrev sPage : Stmt := top 40
def PageB (CP : Addr) (a r c : Nat) : PB := fun H0 p H => H0 p = none ∧ ∃ dx nn, H p = some (.ins CP dx [("area", nV a), ("numbers", .ref nn)]) ∧ H nn = some (.lst [nV r, nV c])
theorem PageB.anti (CP : Addr) (a r c : Nat) : Anti (PageB CP a r c) := fun _ _ _ _ e h => ⟨fresh_back e h.1, h.2⟩
/-- what page_at hands back -/
def PageR (CP : Addr) (s : Si32.St) (n : Nat) (H : Hp) (Q : VK) : Prop :=
  (s.page n = none → RetV .non H Q) ∧ ∀ (a r c : Nat) (x y : Si32.Band) (ar : Si32.Area), s.page n = some ⟨a, x, y⟩ → s.areas[a]? = some ar → (bnd s true s.percent ar)[r]? = some x → (bnd s false s.percent ar)[c]? = some y → RetB (PageB CP a r c) H Q
def spPage (CS CA CL CP : Addr) : Sp := fun vs H Q _ => ∃ st A s L H0, ∃ n : Nat, vs = [.ref st, .ref L, nV n] ∧ SetAt CS CA H st A s ∧ LayAt H0 CL s L H ∧ PageR CP s n H Q
theorem sc_page : FnScope ["settings", "layout", "n", "area", "tall", "wide"] ["settings", "layout", "n"] (defScope sPage) := ⟨rfl, rfl, rfl, by decide +kernel, rfl, by decide +kernel, by decide +kernel⟩
theorem d_page (T : Txt K mg CA CS CL CP CD aM aF aW aL aP aN) (F0 : Src K mg "page_at" sPage ["settings", "layout", "n"]) (D1 : Cla P w K mg base 1 CP ["self", "area", "numbers"] (spPageI CP)) :
    Def P w K mg base 3 "page_at" ["settings", "layout", "n"] (spPage CS CA CL CP) := by
  refine .mk F0 fun f fd F => F.ok sc_page (fun vs H Q E h => ?_) (fun cdv A outer s H vs Q E hr h => ?_)
  · obtain ⟨_, _, _, _, _, _, rfl, _⟩ := h
    rfl
  · obtain ⟨st, A, s, L, H0, n, rfl, S, ⟨_, ldx, bl, hL, hB⟩, kn, ks⟩ := h
    have hrN : Room (1 + 1) _ := hr
    refine ⟨_, pss_cons (ps_for PassesOwn.never rfl (pi_range1 rfl T.b_range (pa_cons (pe_callB call_len_seq (by rfl) T.b_len PySem.boot_len (pa_cons (pe_fld (pv 1) rfl) pa_nil)) pa_nil)) (pg_name (i := 3) sc_page.nd rfl (.inl rfl))
        (pss_cons (ps_set (i := 4) sc_page.nd rfl (.inl rfl) (pe_callB call_len_seq (by rfl) T.b_len PySem.boot_len (pa_cons (pe_ix ix_list (pe_ix ix_list (pe_fld (pv 1) rfl) (pv 3) (fun _ _ => rfl)) pe_int (fun _ _ => rfl)) pa_nil)))
        (pss_cons (ps_set (i := 5) sc_page.nd rfl (.inl rfl) (pe_callB call_len_seq (by rfl) T.b_len PySem.boot_len (pa_cons (pe_ix ix_list (pe_ix ix_list (pe_fld (pv 1) rfl) (pv 3) (fun _ _ => rfl)) pe_int (fun _ _ => rfl)) pa_nil)))
        (pss_cons (ps_if (pt_cmpR op_lt (pv 2) (pe_op op_mul (pv 4) (pv 5)) (nomark _))
          (pss_cons (ps_if (pt_cmpR op_eq (pe_fld (pv 0) rfl) pe_int (nomark _)) (pss_one (ps_ret (pe_new D1 hrN rfl T.gP (pa_cons (pv 3) (pa_cons (pe_lst (pa_cons (pe_op op_fdivN (pv 2) (pv 5)) (pa_cons (pe_op op_modN (pv 2) (pv 5)) pa_nil))) pa_nil))))) pss_nil)
          (pss_one (ps_ret (pe_new D1 hrN rfl T.gP (pa_cons (pv 3) (pa_cons (pe_lst (pa_cons (pe_op op_modN (pv 2) (pv 4)) (pa_cons (pe_op op_fdivN (pv 2) (pv 4)) pa_nil))) pa_nil)))))) pss_nil)
        (pss_one (ps_set (i := 2) sc_page.nd rfl (.inl rfl) (pe_op op_sub (pv 2) (pe_op op_mul (pv 4) (pv 5)))))))))
      (pss_one (ps_ret pe_non)), ?_⟩
    obtain ⟨_, xs0, hx0, lo0⟩ := hB.of
    have hbl : ∀ {H' : Hp} (σ : L2.St), σ[1]? = some (some (.ref L)) → Ex H H' → Ev (tFld K (tVar 1) "bands") σ H' (.ref bl) := fun σ h1 e => ev_fld (ev_var h1) (e _ _ hL) T.clL T.nL_bands rfl
    have al := S.good.alen
    refine q_forR1 (n := ((s.areas.length : Nat) : Int)) (ea1 (ev_lenS (hbl _ rfl (Ex.refl _)) (sq_of hx0) lo0.len)) (by omega)
      (fun i σ H' => ∃ m v3 v4 v5, σ = [some (.ref st), some (.ref L), some (nV m), v3, v4, v5] ∧ Ex H H' ∧ s.page n = s.pageFrom s.percent i (s.areas.drop i) m)
      (fun H2 e2 => ⟨n, none, none, none, rfl, e2, rfl⟩) ?_ ?_
    · rintro i σ H' hi ⟨m, v3, v4, v5, rfl, e, hm⟩
      have hi : i < s.areas.length := by omega
      have ha := List.getElem?_eq_getElem hi
      generalize s.areas[i] = a at ha
      have ham : a ∈ s.areas := List.mem_of_getElem? ha
      obtain ⟨q, hq, hO⟩ := lo0.get ha
      obtain ⟨_, p0, p1, hq1, h0, h1⟩ := OwnAt.on hO (.of e)
      obtain ⟨ys0, hy0, ly0, _⟩ := h0.lst
      obtain ⟨ys1, hy1, ly1, _⟩ := h1.lst
      obtain ⟨t1, t2⟩ := len_le S.good ham true s.percent
      obtain ⟨u1, u2⟩ := len_le S.good ham false s.percent
      have hd : s.areas.drop i = a :: s.areas.drop (i + 1) := by
        rw [List.drop_eq_getElem_cons hi]
        rw [List.getElem?_eq_getElem hi] at ha
        rw [Option.some.inj ha]
      rw [hd] at hm
      refine q_asg (v := nV (bnd s true s.percent a).length) (ev_lenS (ev_ixL (ev_ixL (hbl _ rfl e) ev_v (sq_of (e _ _ hx0)) (atI_nat hq)) ev_c (sq_of hq1) rfl) (sq_of hy0) ly0) fun H2 e2 => ?_
      have e02 := e.trans e2
      refine q_asg (v := nV (bnd s false s.percent a).length) (ev_lenS (ev_ixL (ev_ixL (hbl _ rfl e02) ev_v (sq_of (e02 _ _ hx0)) (atI_nat hq)) ev_c (sq_of (e2 _ _ hq1)) rfl) (sq_of (e2 _ _ hy1)) ly1) fun H3 e3 => ?_
      have e03 := e02.trans e3
      have ec : (((bnd s true s.percent a).length : Nat) : Int) * (((bnd s false s.percent a).length : Nat) : Int) = ((cnt s s.percent a : Nat) : Int) := (Int.natCast_mul _ _).symm
      have mk : ∀ {H4 H5 : Hp} {σ : L2.St} {te : TE} {Q' : VK} (r c : Nat), Ex H H4 → EvB te σ H4 (LstB [nV r, nV c]) → σ[3]? = some (some (nV i)) → RetB (PageB CP i r c) H4 Q' → tRet (tMake CP (spPageI CP) [] E0 (tCons (tVar 3) (tCons te tNil))) ⟨fun _ H' => Q' .non H', Q', fun _ _ => False, fun _ _ => False⟩ σ H4 := fun {H4 H5 σ te Q'} r c e4 hte h3 kk => by
        refine s_retB (eb_make (PA := ValA (nV i) (NewA (LstB [nV r, nV c]) NilA)) (eap_v (ev_var h3) (eap_b (LstB.firm _) hte eap_nil NilA.anti) (NewA.anti (LstB.anti _) NilA.anti)) ?_) kk
        rintro H6 vs H7 x dx e6 e7 ⟨_, rfl, nn, _, rfl, ⟨_, hnn⟩, rfl⟩ hx hdx hne Q2 q2
        refine ⟨x, dx, nV i, .ref nn, rfl, upd_same, fun H8 k8 hx8 => ?_⟩
        have e8 := made_ex hx hdx k8
        exact q2 H8 e8 ⟨fresh_back e7 hx, dx, nn, hx8, e8 _ _ hnn⟩
      refine q_when (et_test (ev_i ev_v (ev_iC ev_v ev_v (cmul_r u2)))) (fun c H4 e4 => ?_) (fun c H4 e4 => ?_)
      · rw [decide_eq_true_iff, ec] at c
        have e04 := e03.trans e4
        have S4 := S.ex e04
        obtain ⟨x, y, hx, hy, hp⟩ := page_hit (s := s) (p := s.percent) (k := i) (n := m) (a := a) (l := s.areas.drop (i + 1)) (by omega)
        rw [hp] at hm
        have kk := ks i (pgR s s.percent m a) (pgC s s.percent m a) x y a hm ha hx hy
        have cd : ∀ {k : Nat}, 0 < k → k ≤ 4096 → CDivN (m : Int) (k : Int) := fun h1 h2 => ⟨by omega, by omega⟩
        refine q_when (et_test (ev_op (S_over T S4 ev_v) ev_c (rv_eq rfl))) (fun c2 H5 e5 => ?_) (fun c2 H5 e5 => ?_)
        · have ov : s.over = true := by
            rw [decV, decide_eq_true_iff] at c2
            cases q : s.over with
            | true => rfl
            | false => rw [q] at c2; cases c2
          rw [show pgR s s.percent m a = m / (bnd s false s.percent a).length from if_pos ov, show pgC s s.percent m a = m % (bnd s false s.percent a).length from if_pos ov] at kk
          refine mk (H5 := H5) _ _ (e04.trans e5) (eb_lst (ea2 (ev_is (ev_iC ev_v ev_v (cd u1 u2)) (congrArg V.int (Int.ofNat_fdiv _ _).symm)) (ev_is (ev_iC ev_v ev_v (by omega)) (congrArg V.int (Int.ofNat_fmod _ _).symm))) (by show 2 ≤ 100000; decide)) rfl (kk.mono (PageB.anti _ _ _ _) (e04.trans e5))
        · have ov : ¬ s.over = true := by
            intro ov
            rw [decV, ov] at c2
            cases c2
          rw [show pgR s s.percent m a = m % (bnd s true s.percent a).length from if_neg ov, show pgC s s.percent m a = m / (bnd s true s.percent a).length from if_neg ov] at kk
          refine mk (H5 := H5) _ _ (e04.trans e5) (eb_lst (ea2 (ev_is (ev_iC ev_v ev_v (by omega)) (congrArg V.int (Int.ofNat_fmod _ _).symm)) (ev_is (ev_iC ev_v ev_v (cd t1 t2)) (congrArg V.int (Int.ofNat_fdiv _ _).symm))) (by show 2 ≤ 100000; decide)) rfl (kk.mono (PageB.anti _ _ _ _) (e04.trans e5))
      · rw [decide_eq_false_iff_not, ec] at c
        refine s_asg (v := nV (m - cnt s s.percent a)) (ev_is (ev_i ev_v (ev_iC ev_v ev_v (cmul_r u2))) (by rw [ec]; exact congrArg V.int (by omega))) fun H5 e5 => ⟨_, _, _, _, rfl, (e03.trans e4).trans e5, ?_⟩
        rw [hm, page_next (by omega)]
    · rintro σ H' ⟨m, v3, v4, v5, rfl, e, hm⟩
      have e0 : ((s.areas.length : Nat) : Int).toNat = s.areas.length := by omega
      rw [e0, List.drop_length] at hm
      exact s_retV ev_c (RetV.mono (kn hm) e)
end
end Sh
namespace Sh
open PySem PySem.Spec PyProof.Rows L2 Evl
/-! ### written dicts of whole numbers -/
section
variable {X : Cx} {a : Addr} {kvs : List (Int × Int)}
theorem KTab.map {K : PySem.W.Frag} {prog : Program} {w : World} {h : Heap} (T : KTab K a kvs) (kin : K.In h) : ∃ g : Int → Option Value, h.MapOf (intKind prog w) a g ∧ ∀ i : Int, (∀ v, kvs.lookup i = some v → ∃ t, g i = some (.int v t)) ∧ (kvs.lookup i = none → g i = none) := by
  obtain ⟨es, n, hl, hk, hf⟩ := T.at_
  refine ⟨fun i => findBy Value.isInt es i, ⟨_, es, n, kin _ _ hl, ⟨rfl, rfl, rfl⟩, rfl, ?_, fun _ => rfl⟩, hf⟩
  intro e he
  obtain ⟨i, t, e1, e2⟩ := hk e he
  refine ⟨i, ?_, e2⟩
  rw [e1]
  show Value.isInt i (.int i t) = true
  simp [Value.isInt]
theorem is_int {prog : Program} {w : World} (i : Int) (t : Tok) : (intKind prog w).is i (.int i t) = true := by
  show Value.isInt i (.int i t) = true
  simp [Value.isInt]
theorem KTab.some_eq {g : Int → Option Value} {i : Int} (hg : (∀ v, kvs.lookup i = some v → ∃ t, g i = some (.int v t)) ∧ (kvs.lookup i = none → g i = none)) : (g i).isSome = (kvs.lookup i).isSome := by
  cases q : kvs.lookup i with
  | none =>
    rw [hg.2 q]
    rfl
  | some v =>
    obtain ⟨t, e⟩ := hg.1 v q
    rw [e]
    rfl
def rKin (a : Addr) (kvs : List (Int × Int)) : R2 := fun x y H Q => ∃ i : Int, x = .int i ∧ y = .ref a ∧ Q (.bl (kvs.lookup i).isSome) H
def rKout (a : Addr) (kvs : List (Int × Int)) : R2 := fun x y H Q => ∃ i : Int, x = .int i ∧ y = .ref a ∧ Q (.bl (!(kvs.lookup i).isSome)) H
def rKix (a : Addr) (kvs : List (Int × Int)) : R2 := fun x y H Q => ∃ i v : Int, x = .ref a ∧ y = .int i ∧ kvs.lookup i = some v ∧ Q (.int v) H
theorem op_kin (T : KTab X.K a kvs) : OpR X (compareOp .In) (rKin a kvs) := by
  intro pins s σ H x y v u Q I hx hy h
  obtain ⟨i, ex, ey, q⟩ := h
  subst ex
  subst ey
  obtain ⟨t, ev⟩ := hx
  subst ev
  cases hy
  obtain ⟨g, hm, hg⟩ := T.map (prog := X.prog) (w := X.w) I.kIn
  refine wpAny_in_of (is_int i t) T.low hm ?_
  rw [KTab.some_eq (hg i)]
  exact ⟨V.bl (kvs.lookup i).isSome, H, I.tok _, rfl, q⟩
theorem op_kout (T : KTab X.K a kvs) : OpR X (compareOp .NotIn) (rKout a kvs) := by
  intro pins s σ H x y v u Q I hx hy h
  obtain ⟨i, ex, ey, q⟩ := h
  subst ex
  subst ey
  obtain ⟨t, ev⟩ := hx
  subst ev
  cases hy
  obtain ⟨g, hm, hg⟩ := T.map (prog := X.prog) (w := X.w) I.kIn
  refine wpAny_notIn_of (is_int i t) T.low hm ?_
  rw [KTab.some_eq (hg i)]
  exact ⟨V.bl (!(kvs.lookup i).isSome), H, I.tok _, rfl, q⟩
theorem ix_kt (T : KTab X.K a kvs) : IxR X (rKix a kvs) := by
  intro value slice pins s σ H x y v u Q I hx hy h hs
  obtain ⟨i, n, ex, ey, hl, q⟩ := h
  subst ex
  subst ey
  cases hx
  obtain ⟨t, eu⟩ := hy
  subst eu
  obtain ⟨g, hm, hg⟩ := T.map (prog := X.prog) (w := X.w) I.kIn
  obtain ⟨t', hv⟩ := (hg i).1 n hl
  exact tail_any hm.typeIs slot_dict_getitem.lookup (wpAny_getItem_of (is_int i t) hm hv ⟨V.int n, H, I.tok _, ⟨t', rfl⟩, q⟩) hs
end
section
variable {σ : L2.St} {H : Hp} {ta tb : TE} {a : Addr} {kvs : List (Int × Int)} {i v : Int}
theorem ev_kin (ha : Ev ta σ H (.int i)) (hb : Ev tb σ H (.ref a)) : Ev (tOp (rKin a kvs) ta tb) σ H (.bl (kvs.lookup i).isSome) := ev_op ha hb fun H1 _ _ q => ⟨i, rfl, rfl, q H1 (Ex.refl _)⟩
theorem ev_kout (ha : Ev ta σ H (.int i)) (hb : Ev tb σ H (.ref a)) : Ev (tOp (rKout a kvs) ta tb) σ H (.bl (!(kvs.lookup i).isSome)) := ev_op ha hb fun H1 _ _ q => ⟨i, rfl, rfl, q H1 (Ex.refl _)⟩
theorem ev_kix (ha : Ev ta σ H (.ref a)) (hb : Ev tb σ H (.int i)) (h : kvs.lookup i = some v) : Ev (tOp (rKix a kvs) ta tb) σ H (.int v) := ev_op ha hb fun H1 _ _ q => ⟨i, v, rfl, rfl, h, q H1 (Ex.refl _)⟩
end
theorem parts_lookup (c : Nat) : ([(76, 0), (67, 1), (82, 2)] : List (Int × Int)).lookup (c : Int) = Option.map (fun k : Nat => (k : Int)) (partOf c) := by
  unfold partOf
  by_cases h1 : c = 76
  · subst h1; rfl
  by_cases h2 : c = 67
  · subst h2; rfl
  by_cases h3 : c = 82
  · subst h3; rfl
  rw [if_neg h1, if_neg h2, if_neg h3]
  simp only [List.lookup]
  rw [show ((c : Int) == 76) = false by simp; omega, show ((c : Int) == 67) = false by simp; omega, show ((c : Int) == 82) = false by simp; omega]
  rfl
theorem nums_lookup (c : Nat) : ([(80, -1), (78, -2), (65, -3), (38, 38)] : List (Int × Int)).lookup (c : Int) = numOf c := by
  unfold numOf
  by_cases h1 : c = 80
  · subst h1; rfl
  by_cases h2 : c = 78
  · subst h2; rfl
  by_cases h3 : c = 65
  · subst h3; rfl
  by_cases h4 : c = 38
  · subst h4; rfl
  rw [if_neg h1, if_neg h2, if_neg h3, if_neg h4]
  simp only [List.lookup]
  rw [show ((c : Int) == 80) = false by simp; omega, show ((c : Int) == 78) = false by simp; omega, show ((c : Int) == 65) = false by simp; omega, show ((c : Int) == 38) = false by simp; omega]
/-! ### new lists joined, turned round, lengthened -/
section
variable {K : PySem.W.Frag} {σ : L2.St} {H : Hp} {ta tb te : TE} {D : Ends} {tz : TS} {xs ys : List V}
theorem eb_catV {p : Addr} (ha : Ev ta σ H (.ref p)) (hp : H p = some (.lst xs)) (hb : EvB tb σ H (LstB ys)) (hz : xs.length + ys.length ≤ 100000) : EvB (tOp rCat ta tb) σ H (LstB (xs ++ ys)) := fun H1 e Q q =>
  ha H1 e _ fun H2 e2 => hb H2 (e.trans e2) _ fun b H3 e3 hb3 => ⟨p, b, xs, ys, rfl, rfl, e3 _ _ (e2 _ _ (e _ _ hp)), hb3.2, sz_of hz, fun r hr => q r _ ((e2.trans e3).trans (Ex.new hr)) ⟨fresh_back (e2.trans e3) hr, upd_same⟩⟩
theorem eb_cat (ha : EvB ta σ H (LstB xs)) (hb : EvB tb σ H (LstB ys)) (hz : xs.length + ys.length ≤ 100000) : EvB (tOp rCat ta tb) σ H (LstB (xs ++ ys)) := fun H1 e Q q =>
  ha H1 e _ fun p H2 e2 hp => hb H2 (e.trans e2) _ fun b H3 e3 hb3 => ⟨p, b, xs, ys, rfl, rfl, e3 _ _ hp.2, hb3.2, sz_of hz, fun r hr => q r _ ((e2.trans e3).trans (Ex.new hr)) ⟨fresh_back (e2.trans e3) hr, upd_same⟩⟩
theorem eb_catN {b : Addr} (ha : EvB ta σ H (LstB xs)) (hb : Ev tb σ H (.ref b)) (hp : H b = some (.lst ys)) (hz : xs.length + ys.length ≤ 100000) : EvB (tOp rCat ta tb) σ H (LstB (xs ++ ys)) := fun H1 e Q q =>
  ha H1 e _ fun p H2 e2 hp' => hb H2 (e.trans e2) _ fun H3 e3 => ⟨p, b, xs, ys, rfl, rfl, e3 _ _ hp'.2, e3 _ _ (e2 _ _ (e _ _ hp)), sz_of hz, fun r hr => q r _ ((e2.trans e3).trans (Ex.new hr)) ⟨fresh_back (e2.trans e3) hr, upd_same⟩⟩
theorem q_rev {l : Addr} (hl : H l = some (.lst xs)) (ha : Ev ta σ H (.ref l)) (k : ∀ H1, Ex H H1 → tz D σ (upd H1 l (.lst xs.reverse))) : tSeq (tDrop (tBM0 K "list" rReverse ta)) tz D σ H := ha H (Ex.refl H) _ fun H1 e1 =>
  ⟨Or.inl ⟨rfl, xs, sq_of (e1 l _ hl)⟩, l, xs, rfl, rfl, e1 l _ hl, k H1 e1⟩
theorem s_ext {l : Addr} (hl : H l = some (.lst xs)) (ha : Ev ta σ H (.ref l)) (h : EvB te σ H (LstB ys)) (hz : xs.length + ys.length ≤ 100000) (k : ∀ H1, Ex H H1 → D.nx σ (upd H1 l (.lst (xs ++ ys)))) :
    tDrop (tBM K "list" rExtend ta (tCons te tNil)) D σ H := ha H (Ex.refl H) _ fun H1 e1 =>
  ⟨Or.inl ⟨rfl, xs, sq_of (e1 l _ hl)⟩, h H1 e1 _ fun p H2 e2 h2 => ⟨l, p, xs, ys, rfl, rfl, e2 l _ (e1 l _ hl), h2.2, sz_of hz, k H2 (e1.trans e2)⟩⟩
end
theorem int_nat (n : Nat) : Si32.int ((n : Nat) : Int) = Si32.dec n := by
  unfold Si32.int
  rw [if_neg (by omega)]
  rfl
section
variable {P : Program} {w : World} {K : PySem.W.Frag} {mg : Str → Option Value} {base : Heap} {CA CS CL CP CD aM aF aW aL aP aN : Addr}
/-! ### digits_of -/
abbrev sDig : Stmt := top 57
def spDig0 : Sp := fun vs H Q _ => ∃ n : Nat, vs = [nV n] ∧ n < 10 ^ 12 ∧ RetB (LstB (nVs (Si32.dec n))) H Q
def spDig : Sp := fun vs H Q _ => ∃ z : Int, vs = [.int z] ∧ z.natAbs < 10 ^ 12 ∧ RetB (LstB (nVs (Si32.int z))) H Q
theorem sc_dig : FnScope ["number", "found"] ["number"] (defScope sDig) := ⟨rfl, rfl, rfl, by decide +kernel, rfl, by decide +kernel, by decide +kernel⟩
theorem told_suf {N n : Nat} {tl : List Nat} (h : Told N n tl) : tl.length ≤ (Si32.dec N).length := by
  unfold Told at h
  split at h
  · rw [h, List.length_append]; omega
  · rw [h]; exact Nat.le_refl _
theorem d_dig0 (F0 : Src K mg "digits_of" sDig ["number"]) : Def P w K mg base 1 "digits_of" ["number"] spDig0 := by
  refine .mk F0 fun f fd F => F.ok sc_dig (fun vs H Q E h => ?_) (fun cdv A outer s H vs Q E hr h => ?_)
  · obtain ⟨_, rfl, _⟩ := h
    rfl
  · obtain ⟨N, rfl, hN, k⟩ := h
    refine ⟨_, pss_cons (ps_if (pt_cmpR op_lt (pv 0) pe_int (nomark _)) (pss_one ps_never) pss_nil)
      (pss_cons (ps_set (i := 1) sc_dig.nd rfl (.inl rfl) (pe_lst (pa_cons (pe_op op_add pe_int (pe_op op_mod (pv 0) pe_int)) pa_nil)))
      (pss_cons (ps_while PassesOwn.never (pt_cmpR op_gt (pv 0) pe_int (nomark _)) (pss_cons (ps_set (i := 0) sc_dig.nd rfl (.inl rfl) (pe_op op_fdiv (pv 0) pe_int))
        (pss_one (ps_expr (pe_bm PySem.F.plainAttrs_list PySem.F.slot_list_append PySem.F.type_list_append mt_append (pv 1) (pa_cons (pe_op op_add pe_int (pe_op op_mod (pv 0) pe_int)) pa_nil))))))
      (pss_cons (ps_expr (pe_bm0 PySem.F.plainAttrs_list PySem.F.slot_list_reverse PySem.F.type_list_reverse mt_reverse (pv 1)))
      (pss_one (ps_ret (pv 1)))))), ?_⟩
    have dl := dec_len 11 N hN
    refine q_when (et_test (ev_i ev_v ev_c)) (fun c H1 e1 => ?_) (fun c H1 e1 => ?_)
    · rw [decide_eq_true_iff] at c
      omega
    refine q_asgB (eb_lst (ea1 (ev_is (w := nV (48 + N % 10)) (ev_i ev_c (ev_iC ev_v ev_c (by decide))) (congrArg V.int (by omega)))) (by show 1 ≤ 100000; decide)) fun fo H2 e2 hfo => ?_
    refine q_while (fun m σ H' => ∃ n tl, m = n ∧ σ = [some (nV n), some (.ref fo)] ∧ Ex H H' ∧ H' fo = some (.lst (nVs tl).reverse) ∧ Told N n tl) N ⟨N, [48 + N % 10], rfl, rfl, e1.trans e2, hfo.2, told_start N⟩ ?_
    rintro m σ H' ⟨n, tl, rfl, rfl, e, hf, ht⟩
    have hl := told_suf ht
    refine ⟨_, et_test (ev_i ev_v ev_c), fun c H3 e3 => ?_, fun c H3 e3 => ?_⟩
    · rw [decide_eq_true_iff] at c
      refine ⟨fun σ H' => ∃ tl, σ = [some (nV (m / 10)), some (.ref fo)] ∧ Ex H H' ∧ H' fo = some (.lst (nVs tl).reverse) ∧ Told N (m / 10) tl, fun σ2 H4 ⟨tl, h1, h2, h3, h4⟩ => ⟨m / 10, by omega, m / 10, tl, rfl, h1, h2, h3, h4⟩, ?_⟩
      refine q_asg (v := nV (m / 10)) (ev_is (ev_iC ev_v ev_c ⟨by decide, by decide⟩) (congrArg V.int (by omega))) fun H4 e4 => ?_
      refine s_app (e4 _ _ (e3 _ _ hf)) ev_v (ev_is (w := nV (48 + m / 10 % 10)) (ev_i ev_c (ev_iC ev_v ev_c (by decide))) (congrArg V.int (by omega))) (by rw [List.length_reverse, List.length_map]; omega) fun H5 e5 => ?_
      refine ⟨(48 + m / 10 % 10) :: tl, rfl, Ex.mut ((e.trans e3).trans (e4.trans e5)) (fresh_back e1 hfo.1), ?_, told_step ht (by omega)⟩
      rw [upd_same]
      show some (HO.lst ((nVs tl).reverse ++ [nV (48 + m / 10 % 10)])) = some (HO.lst (nV (48 + m / 10 % 10) :: nVs tl).reverse)
      rw [List.reverse_cons]
    · rw [decide_eq_false_iff_not] at c
      refine q_rev (e3 _ _ hf) ev_v fun H4 e4 => ?_
      refine s_retV ev_v fun H5 e5 => k fo H5 ((Ex.mut (e.trans (e3.trans e4)) (fresh_back e1 hfo.1)).trans e5) ⟨fresh_back e1 hfo.1, ?_⟩
      rw [told_end ht (by omega)]
      rw [List.reverse_reverse] at e5
      exact e5 _ _ upd_same
theorem d_dig (T : Txt K mg CA CS CL CP CD aM aF aW aL aP aN) (F0 : Src K mg "digits_of" sDig ["number"]) : Def P w K mg base 2 "digits_of" ["number"] spDig := by
  have D0 : Def P w K mg base 1 "digits_of" ["number"] spDig0 := d_dig0 F0
  refine .mk F0 fun f fd F => F.ok sc_dig (fun vs H Q E h => ?_) (fun cdv A outer s H vs Q E hr h => ?_)
  · obtain ⟨_, rfl, _⟩ := h
    rfl
  · obtain ⟨z, rfl, hz, k⟩ := h
    refine ⟨_, pss_cons (ps_if (pt_cmpR op_lt (pv 0) pe_int (nomark _)) (pss_one (ps_ret (pe_op op_cat (pe_lst (pa_cons (pe_k rfl T.k_MINUS) pa_nil)) (pe_def D0 hr rfl (pa_cons (pe_op op_sub pe_int (pv 0)) pa_nil))))) pss_nil)
      (pss_cons (ps_set (i := 1) sc_dig.nd rfl (.inl rfl) (pe_lst (pa_cons (pe_op op_add pe_int (pe_op op_mod (pv 0) pe_int)) pa_nil)))
      (pss_cons (ps_while PassesOwn.never (pt_cmpR op_gt (pv 0) pe_int (nomark _)) (pss_cons (ps_set (i := 0) sc_dig.nd rfl (.inl rfl) (pe_op op_fdiv (pv 0) pe_int))
        (pss_one (ps_expr (pe_bm PySem.F.plainAttrs_list PySem.F.slot_list_append PySem.F.type_list_append mt_append (pv 1) (pa_cons (pe_op op_add pe_int (pe_op op_mod (pv 0) pe_int)) pa_nil))))))
      (pss_cons (ps_expr (pe_bm0 PySem.F.plainAttrs_list PySem.F.slot_list_reverse PySem.F.type_list_reverse mt_reverse (pv 1)))
      (pss_one (ps_ret (pv 1)))))), ?_⟩
    refine q_when (et_test (ev_i ev_v ev_c)) (fun c H1 e1 => ?_) (fun c H1 e1 => ?_)
    · rw [decide_eq_true_iff] at c
      have hl := dec_len 11 z.natAbs hz
      have e : nVs (Si32.int z) = [V.int 45] ++ nVs (Si32.dec z.natAbs) := by
        unfold Si32.int
        rw [if_pos c]
        rfl
      rw [e] at k
      exact s_retB (eb_cat (eb_lst (ea1 ev_c) (by show 1 ≤ 100000; decide)) (eb_callS (LstB.anti _) (ea1 (ev_is (w := nV z.natAbs) (ev_i ev_c ev_v) (congrArg V.int (by omega)))) fun H2 e2 Q q => ⟨z.natAbs, rfl, hz, q⟩) (by rw [List.length_map]; show 1 + _ ≤ _; omega)) (k.mono (LstB.anti _) e1)
    rw [decide_eq_false_iff_not] at c
    obtain ⟨N, rfl⟩ : ∃ N : Nat, z = (N : Int) := ⟨z.toNat, by omega⟩
    rw [int_nat] at k
    have hN : N < 10 ^ 12 := hz
    have dl := dec_len 11 N hN
    refine q_asgB (eb_lst (ea1 (ev_is (w := nV (48 + N % 10)) (ev_i ev_c (ev_iC ev_v ev_c (by decide))) (congrArg V.int (by omega)))) (by show 1 ≤ 100000; decide)) fun fo H2 e2 hfo => ?_
    refine q_while (fun m σ H' => ∃ n tl, m = n ∧ σ = [some (nV n), some (.ref fo)] ∧ Ex H H' ∧ H' fo = some (.lst (nVs tl).reverse) ∧ Told N n tl) N ⟨N, [48 + N % 10], rfl, rfl, e1.trans e2, hfo.2, told_start N⟩ ?_
    rintro m σ H' ⟨n, tl, rfl, rfl, e, hf, ht⟩
    have hl := told_suf ht
    refine ⟨_, et_test (ev_i ev_v ev_c), fun c H3 e3 => ?_, fun c H3 e3 => ?_⟩
    · rw [decide_eq_true_iff] at c
      refine ⟨fun σ H' => ∃ tl, σ = [some (nV (m / 10)), some (.ref fo)] ∧ Ex H H' ∧ H' fo = some (.lst (nVs tl).reverse) ∧ Told N (m / 10) tl, fun σ2 H4 ⟨tl, h1, h2, h3, h4⟩ => ⟨m / 10, by omega, m / 10, tl, rfl, h1, h2, h3, h4⟩, ?_⟩
      refine q_asg (v := nV (m / 10)) (ev_is (ev_iC ev_v ev_c ⟨by decide, by decide⟩) (congrArg V.int (by omega))) fun H4 e4 => ?_
      refine s_app (e4 _ _ (e3 _ _ hf)) ev_v (ev_is (w := nV (48 + m / 10 % 10)) (ev_i ev_c (ev_iC ev_v ev_c (by decide))) (congrArg V.int (by omega))) (by rw [List.length_reverse, List.length_map]; omega) fun H5 e5 => ?_
      refine ⟨(48 + m / 10 % 10) :: tl, rfl, Ex.mut ((e.trans e3).trans (e4.trans e5)) (fresh_back e1 hfo.1), ?_, told_step ht (by omega)⟩
      rw [upd_same]
      show some (HO.lst ((nVs tl).reverse ++ [nV (48 + m / 10 % 10)])) = some (HO.lst (nV (48 + m / 10 % 10) :: nVs tl).reverse)
      rw [List.reverse_cons]
    · rw [decide_eq_false_iff_not] at c
      refine q_rev (e3 _ _ hf) ev_v fun H4 e4 => ?_
      refine s_retV ev_v fun H5 e5 => k fo H5 ((Ex.mut (e.trans (e3.trans e4)) (fresh_back e1 hfo.1)).trans e5) ⟨fresh_back e1 hfo.1, ?_⟩
      rw [told_end ht (by omega)]
      rw [List.reverse_reverse] at e5
      exact e5 _ _ upd_same
end
end Sh
namespace Sh
open PySem PySem.Spec PyProof.Rows L2 Evl
def MarkN (H0 H : Hp) (q : Addr) (m : Mark) : Prop := H0 q = none ∧ H q = some (.tup [nV m.1, .int m.2])
def MarksB (ms : List Mark) : PB := fun H0 p H => RefsAt (fun p => H0 p = none) (MarkN H0 H) H p ms
theorem MarkN.ex {H0 H H' : Hp} {q : Addr} {m : Mark} (h : MarkN H0 H q m) (e : Ex H H') : MarkN H0 H' q m := ⟨h.1, e _ _ h.2⟩
theorem MarksB.anti (ms : List Mark) : Anti (MarksB ms) := fun _ _ _ _ e h => RefsAt.imp h (fresh_back e) (fun o _ h => h) fun q x _ h => ⟨fresh_back e h.1, h.2⟩
theorem MarksB.firm (ms : List Mark) : Firm (MarksB ms) := fun _ _ _ _ e h => RefsAt.imp h id (fun o f h => e _ _ f h) fun q x _ h => ⟨h.1, e _ _ h.1 h.2⟩
def MarkW (H : Hp) (p fo : Addr) (b : List Nat) (m : Nat) (σ : L2.St) (H' : Hp) : Prop := ∃ part at_ xs dn, m = b.length - at_ ∧ σ = [some (.ref p), some (.ref fo), some (nV part), some (nV at_)] ∧ Ex H H' ∧ H' fo = some (.lst xs) ∧ LstOf (MarkN H H') xs dn ∧ dn.length ≤ at_ ∧ at_ ≤ b.length ∧
  marksOf b = (marksFrom part (b.drop at_)).map (dn ++ ·)
theorem nVs_get {b : List Nat} {i c : Nat} (h : b[i]? = some c) : (nVs b)[i]? = some (nV c) := by
  rw [List.getElem?_map, h]
  rfl
theorem drop_at {b : List Nat} {i c : Nat} (h : b[i]? = some c) : b.drop i = c :: b.drop (i + 1) := by
  have hi := (List.getElem?_eq_some_iff.mp h).1
  rw [List.drop_eq_getElem_cons hi]
  rw [List.getElem?_eq_getElem hi] at h
  rw [Option.some.inj h]
theorem map_more {o : Option (List Mark)} {dn : List Mark} {m : Mark} : (o.map (m :: ·)).map (dn ++ ·) = o.map ((dn ++ [m]) ++ ·) := by
  rw [Option.map_map]
  congr 1
  funext l
  simp
section
variable {P : Program} {w : World} {K : PySem.W.Frag} {mg : Str → Option Value} {base : Heap} {CA CS CL CP CD aM aF aW aL aP aN : Addr}
/-! ### marks_of -/
abbrev sMarks : Stmt := top 56
def spMarks : Sp := fun vs H Q _ => ∃ p, ∃ b : List Nat, vs = [.ref p] ∧ H p = some (.lst (nVs b)) ∧ b.length ≤ 300 ∧ (∀ ms, b.length ≤ 255 → marksOf b = some ms → RetB (MarksB ms) H Q) ∧ (¬ (b.length ≤ 255 ∧ (marksOf b).isSome = true) → RetV .non H Q)
theorem sc_marks : FnScope ["some", "found", "part", "at"] ["some"] (defScope sMarks) := ⟨rfl, rfl, rfl, by decide +kernel, rfl, by decide +kernel, by decide +kernel⟩
theorem d_marks (T : Txt K mg CA CS CL CP CD aM aF aW aL aP aN) (F0 : Src K mg "marks_of" sMarks ["some"]) : Def P w K mg base 1 "marks_of" ["some"] spMarks := by
  refine .mk F0 fun f fd F => F.ok sc_marks (fun vs H Q E h => ?_) (fun cdv A outer s H vs Q E hr h => ?_)
  · obtain ⟨_, _, rfl, _⟩ := h
    rfl
  · obtain ⟨p, b, rfl, hp, hb, kg, kn⟩ := h
    refine ⟨_, pss_cons (ps_if (pt_cmpR op_gt (pe_callB call_len_seq (by rfl) T.b_len PySem.boot_len (pa_cons (pv 0) pa_nil)) (pe_k rfl T.k_LONGEST) (nomark _)) (pss_one (ps_ret pe_non)) pss_nil)
      (pss_cons (ps_set (i := 1) sc_marks.nd rfl (.inl rfl) (pe_lst pa_nil))
      (pss_cons (ps_set (i := 2) sc_marks.nd rfl (.inl rfl) (pe_ix (ix_kt T.parts_) (pe_kr rfl T.parts) (pe_k rfl T.k_MIDDLE) (fun _ _ => rfl)))
      (pss_cons (ps_set (i := 3) sc_marks.nd rfl (.inl rfl) pe_int)
      (pss_cons (ps_while PassesOwn.never (pt_cmpR op_lt (pv 3) (pe_callB call_len_seq (by rfl) T.b_len PySem.boot_len (pa_cons (pv 0) pa_nil)) (nomark _))
        (pss_one (ps_if (pt_cmpR op_ne (pe_ix ix_list (pv 0) (pv 3) (fun _ _ => rfl)) (pe_k rfl T.k_AND) (nomark _))
          (pss_cons (ps_expr (pe_bm PySem.F.plainAttrs_list PySem.F.slot_list_append PySem.F.type_list_append mt_append (pv 1) (pa_cons (pe_tup (pa_cons (pv 2) (pa_cons (pe_ix ix_list (pv 0) (pv 3) (fun _ _ => rfl)) pa_nil))) pa_nil))) (pss_one (ps_set (i := 3) sc_marks.nd rfl (.inl rfl) (pe_op op_add (pv 3) pe_int))))
          (pss_one (ps_if (PW.pt (pw_or (pt_cmpR op_eq (pe_op op_add (pv 3) pe_int) (pe_callB call_len_seq (by rfl) T.b_len PySem.boot_len (pa_cons (pv 0) pa_nil)) (nomark _))
              (pw_or1 (PW.pt (pw_and (pt_cmpR (op_kout T.parts_) (pe_ix ix_list (pv 0) (pe_op op_add (pv 3) pe_int) (fun _ _ => rfl)) (pe_kr rfl T.parts) (by rfl)) (pw_and1 (pt_cmpR (op_kout T.numbers_) (pe_ix ix_list (pv 0) (pe_op op_add (pv 3) pe_int) (fun _ _ => rfl)) (pe_kr rfl T.numbers) (by rfl))))))))
            (pss_one (ps_ret pe_non))
            (pss_one (ps_if (pt_cmpR (op_kin T.parts_) (pe_ix ix_list (pv 0) (pe_op op_add (pv 3) pe_int) (fun _ _ => rfl)) (pe_kr rfl T.parts) (by rfl))
              (pss_cons (ps_set (i := 2) sc_marks.nd rfl (.inl rfl) (pe_ix (ix_kt T.parts_) (pe_kr rfl T.parts) (pe_ix ix_list (pv 0) (pe_op op_add (pv 3) pe_int) (fun _ _ => rfl)) (fun _ _ => rfl))) (pss_one (ps_set (i := 3) sc_marks.nd rfl (.inl rfl) (pe_op op_add (pv 3) pe_int))))
              (pss_cons (ps_expr (pe_bm PySem.F.plainAttrs_list PySem.F.slot_list_append PySem.F.type_list_append mt_append (pv 1) (pa_cons (pe_tup (pa_cons (pv 2) (pa_cons (pe_ix (ix_kt T.numbers_) (pe_kr rfl T.numbers) (pe_ix ix_list (pv 0) (pe_op op_add (pv 3) pe_int) (fun _ _ => rfl)) (fun _ _ => rfl)) pa_nil))) pa_nil)))
                (pss_one (ps_set (i := 3) sc_marks.nd rfl (.inl rfl) (pe_op op_add (pv 3) pe_int)))))))))))
      (pss_one (ps_ret (pv 1))))))), ?_⟩
    have ll : (nVs b).length = b.length := List.length_map _
    refine q_when (et_test (ev_i (ev_lenS ev_v (sq_of hp) ll) ev_c)) (fun c H1 e1 => ?_) (fun c H1 e1 => ?_)
    · rw [decide_eq_true_iff] at c
      exact s_retV ev_c (RetV.mono (kn (by omega)) e1)
    rw [decide_eq_false_iff_not] at c
    refine q_asgL (el_lst ea_nil (by decide)) fun fo H2 hfo e2 hf2 => ?_
    have hfo : H fo = none := fresh_back e1 hfo
    refine q_asg (v := nV 1) (ev_kix ev_c ev_c rfl) fun H3 e3 => ?_
    refine q_asg ev_c fun H4 e4 => ?_
    refine q_while (MarkW H p fo b) b.length ⟨1, 0, [], [], rfl, rfl, (e1.trans e2).trans (e3.trans e4), e4 _ _ (e3 _ _ hf2), .nil, Nat.le_refl _, Nat.zero_le _, by
      show marksFrom 1 b = _
      rw [List.drop_zero]
      cases marksFrom 1 b <;> rfl⟩ ?_
    rintro m σ H' ⟨part, at_, xs, dn, rfl, rfl, e, hf, hl, hdn, hat, hm⟩
    have lx := hl.len
    refine ⟨_, et_test (ev_i ev_v (ev_lenS ev_v (sq_of (e _ _ hp)) ll)), fun c H5 e5 => ?_, fun c H5 e5 => ?_⟩
    · rw [decide_eq_true_iff] at c
      have hi : at_ < b.length := by omega
      refine ⟨fun σ H' => ∃ m', m' < b.length - at_ ∧ MarkW H p fo b m' σ H', fun _ _ h => h, ?_⟩
      have e05 := e.trans e5
      obtain ⟨ch, hc⟩ : ∃ ch, b[at_]? = some ch := ⟨_, List.getElem?_eq_getElem hi⟩
      have hd := drop_at hc
      have rd : ∀ {H6 : Hp} {σ : L2.St}, Ex H H6 → σ[0]? = some (some (.ref p)) → σ[3]? = some (some (nV at_)) → Ev (tOp (rIxL K) (tVar 0) (tVar 3)) σ H6 (nV ch) := fun e6 h0 h3 => ev_ixL (ev_var h0) (ev_var h3) (sq_of (e6 _ _ hp)) (atI_nat (nVs_get hc))
      have push : ∀ {H6 : Hp} {u : Addr} {mk : Mark} {at2 : Nat}, Ex H' H6 → H6 u = none → ∀ {H7 : Hp}, Ex H6 H7 → H7 u = some (.tup [nV mk.1, .int mk.2]) → ∀ {H8 : Hp}, Ex (upd H7 fo (.lst (xs ++ [.ref u]))) H8 → at_ < at2 → at2 ≤ b.length → marksOf b = (marksFrom part (b.drop at2)).map ((dn ++ [mk]) ++ ·) →
          ∃ m', m' < b.length - at_ ∧ MarkW H p fo b m' [some (.ref p), some (.ref fo), some (nV part), some (nV at2)] H8 := fun {H6 u mk at2} e6 hu {H7} e7 hu7 {H8} e8 h1 h2 h3 => by
        have keep : ∀ (q : Addr) (x : Mark), MarkN H H' q x → MarkN H H8 q x := fun q x h => ⟨h.1, e8 _ _ (by
          rw [upd_ne (ne_of h.2 hf (by intro z; cases z))]
          exact e7 _ _ (e6 _ _ h.2))⟩
        refine ⟨b.length - at2, by omega, part, at2, _, dn ++ [mk], rfl, rfl, (Ex.mut (e.trans (e6.trans e7)) hfo).trans e8, e8 _ _ upd_same, (hl.imp keep).snoc ⟨fresh_back (e.trans e6) hu, e8 _ _ ?_⟩, ?_, h2, h3⟩
        · rw [upd_ne (ne_of hu7 (e7 _ _ (e6 _ _ hf)) (by intro z; cases z))]
          exact hu7
        · rw [List.length_append]
          show dn.length + 1 ≤ at2
          omega
      refine s_if (et_test (ev_op (rd e05 rfl rfl) ev_c (rv_ne rfl))) (fun c2 H6 e6 => ?_) (fun c2 H6 e6 => ?_)
      · rw [Bool.not_eq_true', decV, decide_eq_false_iff_not] at c2
        refine q_appU (ys := [nV part, nV ch]) (e6 _ _ (e5 _ _ hf)) ev_v (eu_tup (ea2 ev_v (rd (e05.trans e6) rfl rfl)) (by show 2 ≤ 100000; decide)) (by omega) fun u H7 hu e7 hu7 => ?_
        refine s_asg (v := nV (at_ + 1)) (ev_is (ev_i ev_v ev_c) rfl) fun H8 e8 => ?_
        refine push (mk := (part, (ch : Int))) (e5.trans e6) hu e7 hu7 e8 (by omega) (by omega) ?_
        rw [hm, hd, marks_byte (by omega), map_more]
      · rw [Bool.not_eq_false', decV, decide_eq_true_iff] at c2
        obtain rfl : ch = 38 := by omega
        have e06 := e05.trans e6
        have nx : ∀ {H6 : Hp} {σ : L2.St}, σ[3]? = some (some (nV at_)) → Ev (tOp (rI0 fun i j => .int (i + j)) (tVar 3) (tC (.int 1))) σ H6 (nV (at_ + 1)) := fun h3 => ev_is (ev_i (ev_var h3) ev_c) rfl
        by_cases hlast : at_ + 1 = b.length
        · refine s_if (et_or (a := true) (b := true) (et_test (ev_is (ev_op (nx rfl) (ev_lenS ev_v (sq_of (e06 _ _ hp)) ll) (rv_eq rfl)) (by rw [decV, decide_eq_true (show ((at_ + 1 : Nat) : Int) = (b.length : Int) by omega)]))) (fun z => by cases z)) (fun c3 H7 e7 => ?_) (fun c3 H7 e7 => by cases c3)
          have hn : marksOf b = none := by
            rw [hm, hd, List.drop_eq_nil_of_le (by omega), marks_end]
            rfl
          exact s_retV ev_c (RetV.mono (kn (by rw [hn]; intro z; cases z.2)) (e06.trans e7))
        · have hi2 : at_ + 1 < b.length := by omega
          obtain ⟨d, hd2⟩ : ∃ d, b[at_ + 1]? = some d := ⟨_, List.getElem?_eq_getElem hi2⟩
          have hdd := drop_at hd2
          have rd2 : ∀ {H6 : Hp} {σ : L2.St}, Ex H H6 → σ[0]? = some (some (.ref p)) → σ[3]? = some (some (nV at_)) → Ev (tOp (rIxL K) (tVar 0) (tOp (rI0 fun i j => .int (i + j)) (tVar 3) (tC (.int 1)))) σ H6 (nV d) := fun e6 h0 h3 => ev_ixL (ev_var h0) (nx h3) (sq_of (e6 _ _ hp)) (atI_nat (nVs_get hd2))
          rw [hd, hdd, marks_two] at hm
          have pl := parts_lookup d
          have nl := nums_lookup d
          refine s_if (et_or (a := false) (b := !(partOf d).isSome && !(numOf d).isSome) (et_test (ev_is (ev_op (nx rfl) (ev_lenS ev_v (sq_of (e06 _ _ hp)) ll) (rv_eq rfl)) (by rw [decV, decide_eq_false (show ¬ ((at_ + 1 : Nat) : Int) = (b.length : Int) by omega)])))
            (fun _ => et_and (et_test (ev_is (ev_kout (rd2 e06 rfl rfl) ev_c) (by rw [pl, Option.isSome_map]))) (fun _ => et_test (ev_is (ev_kout (rd2 e06 rfl rfl) ev_c) (by rw [nl]))))) (fun c3 H7 e7 => ?_) (fun c3 H7 e7 => ?_)
          · rw [Bool.false_or, Bool.and_eq_true, Bool.not_eq_true', Bool.not_eq_true', Option.isSome_eq_false_iff, Option.isSome_eq_false_iff] at c3
            have hn : marksOf b = none := by
              rw [hm, Option.isNone_iff_eq_none.mp c3.1, Option.isNone_iff_eq_none.mp c3.2]
              rfl
            exact s_retV ev_c (RetV.mono (kn (by rw [hn]; intro z; cases z.2)) (e06.trans e7))
          · have e07 := e06.trans e7
            cases hp1 : partOf d with
            | some k =>
              rw [hp1] at hm pl
              refine s_if (b := true) (et_test (ev_is (ev_kin (rd2 e07 rfl rfl) ev_c) (by rw [pl]; rfl))) (fun _ H8 e8 => ?_) (fun z => by cases z)
              refine q_asg (v := nV k) (ev_kix ev_c (rd2 (e07.trans e8) rfl rfl) pl) fun H9 e9 => ?_
              refine s_asg (v := nV (at_ + 2)) (ev_is (ev_i ev_v ev_c) rfl) fun Ha ea => ?_
              have eall := ((e5.trans e6).trans e7).trans (e8.trans (e9.trans ea))
              exact ⟨b.length - (at_ + 2), by omega, k, at_ + 2, xs, dn, rfl, rfl, e.trans eall, eall _ _ hf, hl.imp fun q x h => h.ex eall, by omega, by omega, hm⟩
            | none =>
              rw [hp1] at hm pl c3
              cases hn1 : numOf d with
              | none =>
                rw [hn1] at c3
                cases c3
              | some mm =>
                rw [hn1] at hm nl
                refine s_if (b := false) (et_test (ev_is (ev_kin (rd2 e07 rfl rfl) ev_c) (by rw [pl]; rfl))) (fun z => by cases z) (fun _ H8 e8 => ?_)
                refine q_appU (ys := [nV part, .int mm]) (e8 _ _ (e7 _ _ (e6 _ _ (e5 _ _ hf)))) ev_v (eu_tup (ea2 ev_v (ev_kix ev_c (rd2 (e07.trans e8) rfl rfl) nl)) (by show 2 ≤ 100000; decide)) (by omega) fun u H9 hu e9 hu9 => ?_
                refine s_asg (v := nV (at_ + 2)) (ev_is (ev_i ev_v ev_c) rfl) fun Ha ea => ?_
                refine push (mk := (part, mm)) (((e5.trans e6).trans e7).trans e8) hu e9 hu9 ea (by omega) (by omega) ?_
                rw [hm]
                exact map_more
    · rw [decide_eq_false_iff_not] at c
      have : b.drop at_ = [] := List.drop_eq_nil_of_le (by omega)
      rw [this] at hm
      have hm2 : marksOf b = some dn := by
        rw [hm]
        show some (dn ++ []) = some dn
        rw [List.append_nil]
      refine s_retV ev_v fun H6 e6 => kg dn (by omega) hm2 fo H6 (e.trans (e5.trans e6)) ?_
      exact MarksB.firm _ _ _ _ _ (.of (e5.trans e6)) (hl.refs (Fr := fun p => H p = none) hfo hf)
end
end Sh
namespace Sh
open PySem PySem.Spec PyProof.Rows L2 Evl
theorem says_len {page : Int} {pages area : Nat} {m : Int} (h1 : page.natAbs < 10 ^ 12) (h2 : pages < 10 ^ 12) (h3 : area < 10 ^ 12) : (says page pages area m).length ≤ 13 := by
  unfold says
  split
  · exact int_len _ h1
  · split
    · have := dec_len 11 _ h2; omega
    · split
      · have := dec_len 11 _ h3; omega
      · show 1 ≤ 13; decide
/-! ### the three parts -/
def Si32P (x : Si32.Parts) (k : Nat) : List Nat := if k = 0 then x.left else if k = 1 then x.middle else x.right
theorem add_get (x : Si32.Parts) {k : Nat} (hk : k < 3) (b : List Nat) (j : Nat) (hj : j < 3) : Si32P (x.add k b) j = if j = k then Si32P x k ++ b else Si32P x j := by
  have h1 : k = 0 ∨ k = 1 ∨ k = 2 := by omega
  have h2 : j = 0 ∨ j = 1 ∨ j = 2 := by omega
  rcases h1 with rfl | rfl | rfl <;> rcases h2 with rfl | rfl | rfl <;> rfl
theorem tell_snoc (page : Int) (pages area : Nat) (x : Si32.Parts) (ms : List Mark) (m : Mark) : tellAll page pages area x (ms ++ [m]) = (tellAll page pages area x ms).add m.1 (says page pages area m.2) := by
  unfold tellAll
  rw [List.foldl_append]
  rfl
section
variable {P : Program} {w : World} {K : PySem.W.Frag} {mg : Str → Option Value} {base : Heap} {CA CS CL CP CD aM aF aW aL aP aN : Addr}
abbrev sBytes : Stmt := top 58
def spBytes : Sp := fun vs H Q _ => ∃ m page : Int, ∃ pages area : Nat, vs = [.int m, .int page, nV pages, nV area] ∧ -3 ≤ m ∧ page.natAbs < 10 ^ 12 ∧ pages < 10 ^ 12 ∧ area < 10 ^ 12 ∧ RetB (LstB (nVs (says page pages area m))) H Q
theorem sc_bytes : FnScope ["says", "page", "pages", "area"] ["says", "page", "pages", "area"] (defScope sBytes) := ⟨rfl, rfl, rfl, by decide +kernel, rfl, by decide +kernel, by decide +kernel⟩
theorem d_bytes (T : Txt K mg CA CS CL CP CD aM aF aW aL aP aN) (F0 : Src K mg "bytes_of" sBytes ["says", "page", "pages", "area"]) (D1 : Def P w K mg base 2 "digits_of" ["number"] spDig) : Def P w K mg base 3 "bytes_of" ["says", "page", "pages", "area"] spBytes := by
  refine .mk F0 fun f fd F => F.ok sc_bytes (fun vs H Q E h => ?_) (fun cdv A outer s H vs Q E hr h => ?_)
  · obtain ⟨_, _, _, _, rfl, _⟩ := h
    rfl
  · obtain ⟨m, page, pages, area, rfl, hm, h1, h2, h3, k⟩ := h
    refine ⟨_, pss_cons (ps_if (pt_cmpR op_eq (pv 0) (pe_k rfl T.k_PAGE) (nomark _)) (pss_one (ps_ret (pe_def D1 hr rfl (pa_cons (pv 1) pa_nil)))) pss_nil)
      (pss_cons (ps_if (pt_cmpR op_eq (pv 0) (pe_k rfl T.k_PAGES) (nomark _)) (pss_one (ps_ret (pe_def D1 hr rfl (pa_cons (pv 2) pa_nil)))) pss_nil)
      (pss_cons (ps_if (pt_cmpR op_eq (pv 0) (pe_k rfl T.k_AREA) (nomark _)) (pss_one (ps_ret (pe_def D1 hr rfl (pa_cons (pv 3) pa_nil)))) pss_nil)
      (pss_one (ps_ret (pe_lst (pa_cons (pv 0) pa_nil)))))), ?_⟩
    refine q_when (et_test (ev_op ev_v ev_c (rv_eq rfl))) (fun c H1 e1 => ?_) (fun c H1 e1 => ?_)
    · rw [decV, decide_eq_true_iff] at c
      rw [show says page pages area m = Si32.int page from if_pos c] at k
      exact s_retB (eb_callS (LstB.anti _) (ea1 ev_v) fun H2 e2 Q q => ⟨page, rfl, h1, q⟩) (k.mono (LstB.anti _) e1)
    rw [decV, decide_eq_false_iff_not] at c
    rw [show says page pages area m = _ from if_neg c] at k
    refine q_when (et_test (ev_op ev_v ev_c (rv_eq rfl))) (fun c2 H2 e2 => ?_) (fun c2 H2 e2 => ?_)
    · rw [decV, decide_eq_true_iff] at c2
      rw [if_pos c2, ← int_nat] at k
      exact s_retB (eb_callS (LstB.anti _) (ea1 ev_v) fun H3 e3 Q q => ⟨(pages : Int), rfl, h2, q⟩) (k.mono (LstB.anti _) (e1.trans e2))
    rw [decV, decide_eq_false_iff_not] at c2
    rw [if_neg c2] at k
    refine q_when (et_test (ev_op ev_v ev_c (rv_eq rfl))) (fun c3 H3 e3 => ?_) (fun c3 H3 e3 => ?_)
    · rw [decV, decide_eq_true_iff] at c3
      rw [if_pos c3, ← int_nat] at k
      exact s_retB (eb_callS (LstB.anti _) (ea1 ev_v) fun H3 e3 Q q => ⟨(area : Int), rfl, h3, q⟩) (k.mono (LstB.anti _) ((e1.trans e2).trans e3))
    rw [decV, decide_eq_false_iff_not] at c3
    rw [if_neg c3] at k
    have em : nVs [m.toNat] = [V.int m] := by
      show [V.int ((m.toNat : Nat) : Int)] = _
      rw [show ((m.toNat : Nat) : Int) = m by omega]
    rw [em] at k
    exact s_retB (eb_lst (ea1 ev_v) (by show 1 ≤ 100000; decide)) (k.mono (LstB.anti _) ((e1.trans e2).trans e3))
/-! ### parts_told -/
abbrev sTold : Stmt := top 59
def toldV (b : List Nat) : List V := nV b.length :: nVs b
theorem told_ints (x : Si32.Parts) : (Si32.ofParts x).map V.int = toldV (Si32P x 0) ++ (toldV (Si32P x 1) ++ toldV (Si32P x 2)) := by
  have h : ∀ b : List Nat, (Si32.told b).map V.int = toldV b := fun b => by
    show V.int (b.length : Int) :: (b.map fun (n : Nat) => (n : Int)).map V.int = _
    rw [List.map_map]
    rfl
  show (Si32.told x.left ++ (Si32.told x.middle ++ Si32.told x.right)).map V.int = _
  rw [List.map_append, List.map_append, h, h, h]
  rfl
def spTold : Sp := fun vs H Q _ => ∃ p ms xs, ∃ page : Int, ∃ pages area : Nat, vs = [.ref p, .int page, nV pages, nV area] ∧ H p = some (.lst xs) ∧ LstOf (fun q (m : Mark) => H q = some (.tup [nV m.1, .int m.2])) xs ms ∧ ms.length ≤ 255 ∧ (∀ m ∈ ms, m.1 < 3 ∧ -3 ≤ m.2) ∧
  page.natAbs < 10 ^ 12 ∧ pages < 10 ^ 12 ∧ area < 10 ^ 12 ∧ RetB (LstB ((Si32.ofParts (tellAll page pages area ⟨[], [], []⟩ ms)).map V.int)) H Q
theorem sc_told : FnScope ["marks", "page", "pages", "area", "parts", "part", "says", "found"] ["marks", "page", "pages", "area"] (defScope sTold) := ⟨rfl, rfl, rfl, by decide +kernel, rfl, by decide +kernel, by decide +kernel⟩
/-- three lists in one -/
structure Three (H0 H : Hp) (pp : Addr) (l : Nat → Addr) (b : Nat → List Nat) : Prop where
  lst : H pp = some (.lst [.ref (l 0), .ref (l 1), .ref (l 2)])
  new : ∀ k, k < 3 → H0 (l k) = none
  at_ : ∀ k, k < 3 → H (l k) = some (.lst (nVs (b k)))
  ne : ∀ j k, j < 3 → k < 3 → l j = l k → j = k
  nep : ∀ k, k < 3 → l k ≠ pp
  newp : H0 pp = none
theorem Three.get {H0 H : Hp} {pp : Addr} {l : Nat → Addr} {b : Nat → List Nat} (h : Three H0 H pp l b) {k : Nat} (hk : k < 3) : ([V.ref (l 0), V.ref (l 1), V.ref (l 2)])[k]? = some (V.ref (l k)) := by
  have : k = 0 ∨ k = 1 ∨ k = 2 := by omega
  rcases this with rfl | rfl | rfl <;> rfl
theorem d_told (T : Txt K mg CA CS CL CP CD aM aF aW aL aP aN) (F0 : Src K mg "parts_told" sTold ["marks", "page", "pages", "area"]) (D1 : Def P w K mg base 3 "bytes_of" ["says", "page", "pages", "area"] spBytes) : Def P w K mg base 4 "parts_told" ["marks", "page", "pages", "area"] spTold := by
  refine .mk F0 fun f fd F => F.ok sc_told (fun vs H Q E h => ?_) (fun cdv A outer s H vs Q E hr h => ?_)
  · obtain ⟨_, _, _, _, _, _, rfl, _⟩ := h
    rfl
  · obtain ⟨p, ms, xs, page, pages, area, rfl, hp, hl, hlen, hms, h1, h2, h3, k⟩ := h
    refine ⟨_, pss_cons (ps_set (i := 4) sc_told.nd rfl (.inl rfl) (pe_lst (pa_cons (pe_lst pa_nil) (pa_cons (pe_lst pa_nil) (pa_cons (pe_lst pa_nil) pa_nil)))))
      (pss_cons (ps_for PassesOwn.never rfl (pi_list (pv 0)) (pg_tup rfl (pgs_cons (pg_name (i := 5) sc_told.nd rfl (.inl rfl)) (pgs_cons (pg_name (i := 6) sc_told.nd rfl (.inl rfl)) pgs_nil)))
        (pss_one (ps_expr (pe_bm PySem.F.plainAttrs_list PySem.F.slot_list_extend PySem.F.type_list_extend mt_extend (pe_ix ix_list (pv 4) (pv 5) (fun _ _ => rfl)) (pa_cons (pe_def D1 hr rfl (pa_cons (pv 6) (pa_cons (pv 1) (pa_cons (pv 2) (pa_cons (pv 3) pa_nil))))) pa_nil)))))
      (pss_cons (ps_set (i := 7) sc_told.nd rfl (.inl rfl) (pe_lst pa_nil))
      (pss_cons (ps_for PassesOwn.never rfl (pi_list (pv 4)) (pg_name (i := 5) sc_told.nd rfl (.inl rfl))
        (pss_one (ps_set (i := 7) sc_told.nd rfl (.inl rfl) (pe_op op_cat (pe_op op_cat (pv 7) (pe_lst (pa_cons (pe_callB call_len_seq (by rfl) T.b_len PySem.boot_len (pa_cons (pv 5) pa_nil)) pa_nil))) (pv 5)))))
      (pss_one (ps_ret (pv 7)))))), ?_⟩
    have lx := hl.len
    -- parts = [[], [], []]
    refine q_asgB (P := fun H0 p H => ∃ l, Three H0 H p l fun _ => []) (fun H1 e1 Q q => ⟨Nat.zero_le _, fun l0 n0 => ⟨Nat.zero_le _, fun l1 n1 => ⟨Nat.zero_le _, fun l2 n2 => ⟨by show 3 ≤ sizeLine; decide, fun pp npp => ?_⟩⟩⟩⟩) fun pp H1 e1 ⟨l, t0⟩ => ?_
    · have ex0 : Ex H1 (upd H1 l0 (.lst [])) := Ex.new n0
      have ex1 : Ex (upd H1 l0 (.lst [])) (upd (upd H1 l0 (.lst [])) l1 (.lst [])) := Ex.new n1
      have ex2 := Ex.new (o := .lst []) n2
      have ex3 := Ex.new (o := .lst [.ref l0, .ref l1, .ref l2]) npp
      have ne01 : l0 ≠ l1 := ne_of_none upd_same n1
      have ne02 : l0 ≠ l2 := ne_of_none (ex1 _ _ upd_same) n2
      have ne12 : l1 ≠ l2 := ne_of_none upd_same n2
      have a0 := ex2 _ _ (ex1 _ _ (upd_same (H := H1) (a := l0) (o := .lst [])))
      have a1 := ex2 _ _ (upd_same (H := upd H1 l0 (.lst [])) (a := l1) (o := .lst []))
      refine q pp _ (ex0.trans (ex1.trans (ex2.trans ex3))) ⟨fun k => if k = 0 then l0 else if k = 1 then l1 else l2, upd_same, ?_, ?_, ?_, ?_, fresh_back (ex0.trans (ex1.trans ex2)) npp⟩
      · intro k hk
        have : k = 0 ∨ k = 1 ∨ k = 2 := by omega
        rcases this with rfl | rfl | rfl
        · exact n0
        · exact fresh_back ex0 n1
        · exact fresh_back (ex0.trans ex1) n2
      · intro k hk
        have : k = 0 ∨ k = 1 ∨ k = 2 := by omega
        rcases this with rfl | rfl | rfl
        · exact ex3 _ _ a0
        · exact ex3 _ _ a1
        · exact ex3 _ _ upd_same
      · intro j k hj hk e
        have hj : j = 0 ∨ j = 1 ∨ j = 2 := by omega
        have hk : k = 0 ∨ k = 1 ∨ k = 2 := by omega
        rcases hj with rfl | rfl | rfl <;> rcases hk with rfl | rfl | rfl <;> first | rfl | exact absurd e ne01 | exact absurd e ne02 | exact absurd e ne12 | exact absurd e.symm ne01 | exact absurd e.symm ne02 | exact absurd e.symm ne12
      · intro k hk
        have : k = 0 ∨ k = 1 ∨ k = 2 := by omega
        rcases this with rfl | rfl | rfl
        · exact ne_of_none a0 npp
        · exact ne_of_none a1 npp
        · exact ne_of_none upd_same npp
    -- for part, says in marks
    refine q_forL (a := p) (xs := xs) ev_v (sq_of (e1 _ _ hp)) (fun i σ H' => ∃ v5 v6, σ = [some (.ref p), some (.int page), some (nV pages), some (nV area), some (.ref pp), v5, v6, none] ∧ Ex H H' ∧ Three H H' pp l (Si32P (tellAll page pages area ⟨[], [], []⟩ (ms.take i))) ∧ ∀ k, k < 3 → (Si32P (tellAll page pages area ⟨[], [], []⟩ (ms.take i)) k).length ≤ 13 * i)
      (fun H2 e2 => ⟨none, none, rfl, e1.trans e2, ⟨e2 _ _ t0.lst, t0.new, fun k hk => e2 _ _ (by
        have := t0.at_ k hk
        have z : Si32P (tellAll page pages area ⟨[], [], []⟩ (ms.take 0)) k = [] := by
          have : k = 0 ∨ k = 1 ∨ k = 2 := by omega
          rcases this with rfl | rfl | rfl <;> rfl
        rw [z]
        exact this), t0.ne, t0.nep, t0.newp⟩, fun k hk => by
          have : k = 0 ∨ k = 1 ∨ k = 2 := by omega
          rcases this with rfl | rfl | rfl <;> exact Nat.zero_le _⟩) (fun i σ H' _ ⟨_, _, _, e, _⟩ => sq_of (e _ _ hp)) ?_ ?_
    · rintro i v σ H' hi ⟨v5, v6, rfl, e, t, hb⟩
      obtain ⟨q, m, rfl, hmi, hq⟩ := hl.of hi
      obtain ⟨hm1, hm2⟩ := hms m (List.mem_of_getElem? hmi)
      refine ⟨q, [nV m.1, .int m.2], rfl, st_of (e _ _ hq), rfl, nV m.1, [.int m.2], rfl, .int m.2, [], rfl, rfl, ?_⟩
      have hi' : i < ms.length := (List.getElem?_eq_some_iff.mp hmi).1
      have sl := says_len (m := m.2) h1 h2 h3
      have hbm := hb m.1 hm1
      refine s_ext (t.at_ m.1 hm1) (ev_ixL ev_v ev_v (sq_of t.lst) (atI_nat (t.get hm1))) (eb_callS (LstB.anti _) (ea_cons ev_v (ea_cons ev_v (ea2 ev_v ev_v))) fun H2 e2 Q q => ⟨m.2, page, pages, area, rfl, hm2, h1, h2, h3, q⟩) ?_ fun H2 e2 => ?_
      · rw [List.length_map, List.length_map]
        omega
      · have hne := t.nep m.1 hm1
        have tk := take_snoc' hmi
        refine ⟨_, _, rfl, Ex.mut (e.trans e2) (t.new m.1 hm1), ⟨?_, t.new, fun j hj => ?_, t.ne, t.nep, t.newp⟩, fun j hj => ?_⟩
        · rw [upd_ne hne.symm]
          exact e2 _ _ t.lst
        · rw [tk, tell_snoc, add_get _ hm1 _ _ hj]
          by_cases hjm : j = m.1
          · subst hjm
            rw [if_pos rfl, upd_same]
            show some (HO.lst (List.map nV _ ++ List.map nV _)) = some (HO.lst (List.map nV (_ ++ _)))
            rw [List.map_append]
          · rw [if_neg hjm, upd_ne (fun z => hjm (t.ne _ _ hj hm1 z))]
            exact e2 _ _ (t.at_ j hj)
        · rw [tk, tell_snoc, add_get _ hm1 _ _ hj]
          by_cases hjm : j = m.1
          · subst hjm
            rw [if_pos rfl, List.length_append]
            omega
          · rw [if_neg hjm]
            have := hb j hj
            omega
    · rintro σ H' ⟨v5, v6, rfl, e, t, hb⟩
      rw [lx, List.take_length] at t hb
      generalize hx : tellAll page pages area ⟨[], [], []⟩ ms = x at t hb k
      refine q_asgL (el_lst ea_nil (by decide)) fun f0 H2 hf0 e2 hf2 => ?_
      refine q_forLn (a := pp) (xs := [.ref (l 0), .ref (l 1), .ref (l 2)]) ev_v (sq_of (e2 _ _ t.lst)) (fun i σ H3 => ∃ v5 fo, σ = [some (.ref p), some (.int page), some (nV pages), some (nV area), some (.ref pp), v5, v6, some (.ref fo)] ∧ Ex H' H3 ∧ H fo = none ∧ H3 fo = some (.lst ((List.range i).flatMap fun j => toldV (Si32P x j))))
        (fun H3 e3 => ⟨v5, f0, rfl, e2.trans e3, fresh_back e hf0, e3 _ _ hf2⟩) (fun i σ H' _ ⟨_, _, _, e, _⟩ => sq_of (e _ _ t.lst)) ?_ ?_
      · rintro i v σ H3 hi ⟨v5, fo, rfl, e3, hfo, hf3⟩
        have hi3 : i < 3 := (List.getElem?_eq_some_iff.mp hi).1
        rw [t.get hi3] at hi
        obtain rfl : V.ref (l i) = v := Option.some.inj hi
        have hli := e3 _ _ (t.at_ i hi3)
        have b0 := hb 0 (by decide)
        have b1 := hb 1 (by decide)
        have b2 := hb 2 (by decide)
        have bi := hb i hi3
        have lacc : ((List.range i).flatMap fun j => toldV (Si32P x j)).length ≤ 7000 := by
          have : i = 0 ∨ i = 1 ∨ i = 2 := by omega
          rcases this with rfl | rfl | rfl
          · exact Nat.zero_le _
          · show (toldV (Si32P x 0) ++ []).length ≤ 7000
            rw [List.append_nil]
            show ((Si32P x 0).map nV).length + 1 ≤ 7000
            rw [List.length_map]
            omega
          · show (toldV (Si32P x 0) ++ (toldV (Si32P x 1) ++ [])).length ≤ 7000
            rw [List.append_nil, List.length_append]
            show ((Si32P x 0).map nV).length + 1 + (((Si32P x 1).map nV).length + 1) ≤ 7000
            rw [List.length_map, List.length_map]
            omega
        refine s_asgB (P := LstB (((List.range i).flatMap fun j => toldV (Si32P x j)) ++ [nV (Si32P x i).length] ++ nVs (Si32P x i))) (eb_catN (eb_catV ev_v hf3 (eb_lst (ea1 (ev_lenS ev_v (sq_of hli) (List.length_map _))) (by show 1 ≤ 100000; decide)) (by show _ + 1 ≤ _; omega)) ev_v hli (by rw [List.length_append, List.length_map]; show _ + 1 + _ ≤ _; omega)) fun fo' H4 e4 ⟨hn, hf4⟩ => ?_
        refine ⟨_, fo', rfl, e3.trans e4, fresh_back (e.trans e3) hn, ?_⟩
        rw [hf4, List.range_succ, List.flatMap_append, List.append_assoc, List.flatMap_cons, List.flatMap_nil, List.append_nil]
        rfl
      · rintro σ H3 ⟨v5, fo, rfl, e3, hfo, hf3⟩
        refine s_retV ev_v fun H4 e4 => k fo H4 ((e.trans e3).trans e4) ⟨hfo, ?_⟩
        rw [told_ints]
        refine (e4 _ _ hf3).trans ?_
        show some (HO.lst (toldV (Si32P x 0) ++ (toldV (Si32P x 1) ++ (toldV (Si32P x 2) ++ [])))) = _
        rw [List.append_nil]
end
end Sh
namespace Sh
open PySem PySem.Spec PyProof.Rows L2 Evl
/-! ### what a def that changes the settings hands back -/
def Chg (M M' : List Addr) (H H' : Hp) : Prop := ∀ b o, H b = some o → b ∉ M → H' b = some o ∧ b ∉ M'
theorem Chg.trans {M M1 M2 : List Addr} {H H1 H2 : Hp} (a : Chg M M1 H H1) (b : Chg M1 M2 H1 H2) : Chg M M2 H H2 := fun c o h hc => b c o (a c o h hc).1 (a c o h hc).2
/-- .. of the settings at st -/
def ChgA (st : Addr) (A A' : Ads) (H H' : Hp) : Prop := Chg (A.own st) (A'.own st) H H' ∧ A'.ex = A.ex
def MutR (CS CA st : Addr) (A : Ads) (s' : Si32.St) (v : Int) (H : Hp) (Q : VK) : Prop := ∀ H' A', SetAt CS CA H' st A' s' → ChgA st A A' H H' → Q (.int v) H'
theorem MutR.same {CS CA st : Addr} {A : Ads} {s : Si32.St} {v : Int} {H : Hp} {Q : VK} (k : MutR CS CA st A s v H Q) (S : SetAt CS CA H st A s) : RetV (.int v) H Q := fun H' e => k H' A (S.ex e) ⟨fun b o h hb => ⟨e _ _ h, hb⟩, rfl⟩
/-- all but one object stands -/
def But (x : Addr) (H H' : Hp) : Prop := ∀ b o, H b = some o → b ≠ x → H' b = some o
theorem But.of {x : Addr} {H H' : Hp} (e : Ex H H') : But x H H' := fun b o h _ => e _ _ h
theorem But.upd {x : Addr} {H : Hp} {o : HO} : But x H (upd H x o) := fun b u h hb => by
  rw [upd_ne hb]
  exact h
theorem But.fresh {x p : Addr} {H H' : Hp} {o : HO} (k : But x H H') (hx : H' x = some o) (hp : H' p = none) : H p = none := by
  cases q : H p with
  | none => rfl
  | some u =>
    have z : p ≠ x := fun z => by
      rw [z, hx] at hp
      cases hp
    rw [k p u q z] at hp
    cases hp
theorem But.trans {x : Addr} {H H1 H2 : Hp} (a : But x H H1) (b : But x H1 H2) : But x H H2 := fun c o h hc => b c o (a c o h hc) hc
section
variable {M : List Addr} {H H' : Hp} {CS CA st : Addr} {A : Ads} {s : Si32.St}
theorem SetAt.tracked (S : SetAt CS CA H st A s) {m : Addr} (h : m ∈ A.mut st) : ∃ o, H m = some o := by
  unfold Ads.mut at h
  rcases List.mem_append.mp h with h | h
  · unfold Ads.own at h
    simp only [List.mem_cons, List.not_mem_nil, or_false] at h
    obtain ⟨dx, hi⟩ := S.ins
    rcases h with rfl | rfl | rfl | rfl | rfl | rfl
    · exact ⟨_, hi⟩
    · exact ⟨_, S.sr⟩
    · exact ⟨_, S.sc⟩
    · exact ⟨_, S.tl⟩
    · exact ⟨_, S.ti⟩
    · exact ⟨_, S.bk⟩
  · obtain ⟨xs, h⟩ := S.exs m h
    exact ⟨_, h⟩
theorem SetAt.off (S : SetAt CS CA H st A s) {b m : Addr} (hb : b ∈ A.ex) (hm : m ∈ A.own st) : b ≠ m := fun z => by
  have := S.nd
  unfold Ads.mut at this
  exact (List.nodup_append.mp this).2.2 m hm b hb z.symm
theorem SetAt.fresh (S : SetAt CS CA H st A s) {p : Addr} (h : H p = none) : p ∉ A.mut st := fun hp => by
  obtain ⟨o, e⟩ := S.tracked hp
  rw [h] at e
  cases e
/-- the changing objects stand apart -/
structure Apart (A : Ads) (st : Addr) : Prop where
  st_sr : st ≠ A.sr
  st_sc : st ≠ A.sc
  st_tl : st ≠ A.tl
  st_ti : st ≠ A.ti
  st_bk : st ≠ A.bk
  sr_sc : A.sr ≠ A.sc
  sr_tl : A.sr ≠ A.tl
  sr_ti : A.sr ≠ A.ti
  sr_bk : A.sr ≠ A.bk
  sc_tl : A.sc ≠ A.tl
  sc_ti : A.sc ≠ A.ti
  sc_bk : A.sc ≠ A.bk
  tl_ti : A.tl ≠ A.ti
  tl_bk : A.tl ≠ A.bk
  ti_bk : A.ti ≠ A.bk
theorem SetAt.apart (S : SetAt CS CA H st A s) : Apart A st := by
  have h := S.nd
  unfold Ads.mut at h
  have h := (List.nodup_append.mp h).1
  unfold Ads.own at h
  simp only [List.nodup_cons, List.mem_cons, List.not_mem_nil, or_false, not_or, not_false_eq_true, List.nodup_nil, and_true] at h
  obtain ⟨⟨a1, a2, a3, a4, a5⟩, ⟨b1, b2, b3, b4⟩, ⟨c1, c2, c3⟩, ⟨d1, d2⟩, e1⟩ := h
  exact ⟨a1, a2, a3, a4, a5, b1, b2, b3, b4, c1, c2, c3, d1, d2, e1⟩
theorem own_st (A : Ads) (st : Addr) : st ∈ A.own st := by unfold Ads.own; simp
theorem mem_st (A : Ads) (st : Addr) : st ∈ A.mut st := List.mem_append_left _ (own_st A st)
theorem own_sr (A : Ads) (st : Addr) : A.sr ∈ A.own st := by unfold Ads.own; simp
theorem mem_sr (A : Ads) (st : Addr) : A.sr ∈ A.mut st := List.mem_append_left _ (own_sr A st)
theorem own_sc (A : Ads) (st : Addr) : A.sc ∈ A.own st := by unfold Ads.own; simp
theorem mem_sc (A : Ads) (st : Addr) : A.sc ∈ A.mut st := List.mem_append_left _ (own_sc A st)
theorem own_tl (A : Ads) (st : Addr) : A.tl ∈ A.own st := by unfold Ads.own; simp
theorem mem_tl (A : Ads) (st : Addr) : A.tl ∈ A.mut st := List.mem_append_left _ (own_tl A st)
theorem own_ti (A : Ads) (st : Addr) : A.ti ∈ A.own st := by unfold Ads.own; simp
theorem mem_ti (A : Ads) (st : Addr) : A.ti ∈ A.mut st := List.mem_append_left _ (own_ti A st)
theorem own_bk (A : Ads) (st : Addr) : A.bk ∈ A.own st := by unfold Ads.own; simp
theorem mem_bk (A : Ads) (st : Addr) : A.bk ∈ A.mut st := List.mem_append_left _ (own_bk A st)
/-- what is not written to in place stands -/
def Kp (M : List Addr) (H H' : Hp) : Prop := ∀ b o, H b = some o → b ∉ M → H' b = some o
theorem Kp.but {x : Addr} (h : But x H H') (hx : x ∈ M) : Kp M H H' := fun b o e hb => h b o e fun z => hb (z ▸ hx)
theorem Im.mv {b : Addr} {o : HO} (h : Im M H b o) (k : Kp M H H') : Im M H' b o := ⟨k _ _ h.1 h.2, h.2⟩
theorem TitAt.mv {v : V} {t : Option (Nat × Nat)} (h : TitAt M H v t) (k : Kp M H H') : TitAt M H' v t := by
  cases t with
  | none => exact h
  | some t =>
    obtain ⟨p, h1, h2⟩ := h
    exact ⟨p, h1, h2.mv k⟩
theorem BrkAt.mv {b : Addr} {l : List Nat} (h : BrkAt M H b l) (k : Kp M H H') : BrkAt M H' b l := by
  obtain ⟨kvs, h1, h2⟩ := h
  exact ⟨kvs, h1.mv k, h2⟩
theorem AreaAt.mv {p : Addr} {a : Si32.Area} (h : AreaAt CA M H p a) (k : Kp M H H') : AreaAt CA M H' p a := by
  obtain ⟨dx, f, l, h1, h2, h3⟩ := h
  exact ⟨dx, f, l, h1.mv k, h2.mv k, h3.mv k⟩
def AreasAt (CA : Addr) (M : List Addr) (H : Hp) (p : Addr) (as : List Si32.Area) : Prop := RefsAt (fun p => p ∉ M) (AreaAt CA M H) H p as
theorem AreasAt.mv {p : Addr} {as : List Si32.Area} (h : AreasAt CA M H p as) (k : Kp M H H') : AreasAt CA M H' p as := RefsAt.imp h id (fun o f h => k _ _ h f) fun q x _ h => h.mv k
theorem MarksAt.mv {p : Addr} {ms : List Mark} (h : MarksAt M H p ms) (k : Kp M H H') : MarksAt M H' p ms := RefsAt.imp h id (fun o f h => k _ _ h f) fun q x _ h => Im.mv h k
def TextAt (M : List Addr) (H : Hp) (p : Addr) (b : List Nat) : Prop := ∃ ms, marksOf b = some ms ∧ MarksAt M H p ms
theorem TextAt.mv {p : Addr} {b : List Nat} (h : TextAt M H p b) (k : Kp M H H') : TextAt M H' p b := by
  obtain ⟨ms, h1, h2⟩ := h
  exact ⟨ms, h1, h2.mv k⟩
/-- fields are stored: nothing else is written to -/
theorem SetAt.store (S : SetAt CS CA H st A s) (k : But st H H') {pl al bl mi ar fi hd ft : Addr} {fx fy : Int} {s' : Si32.St} (good : Good s') (hr : s'.rows = s.rows) (hc : s'.cols = s.cols)
    (ins : ∃ dx, H' st = some (.ins CS dx (fsS { A with pl := pl, al := al, bl := bl, mi := mi, ar := ar, fi := fi, hd := hd, ft := ft, fx := fx, fy := fy } s')))
    (hpl : Im (A.mut st) H' pl (.lst [nV s'.paper.height, nV s'.paper.width])) (hal : Im (A.mut st) H' al (.lst [nV s'.paper.top, nV s'.paper.left])) (hbl : Im (A.mut st) H' bl (.lst [nV s'.paper.bottom, nV s'.paper.right]))
    (hmi : Im (A.mut st) H' mi (.lst [bV s'.down, bV s'.across])) (har : AreasAt CA (A.mut st) H' ar s'.areas) (hfi : Im (A.mut st) H' fi (.lst [.int fx, .int fy])) (hfit : ∀ w h, s'.scale = .fit w h → fx = (h : Int) ∧ fy = (w : Int))
    (hhd : TextAt (A.mut st) H' hd s'.head) (hft : TextAt (A.mut st) H' ft s'.foot) :
    SetAt CS CA H' st { A with pl := pl, al := al, bl := bl, mi := mi, ar := ar, fi := fi, hd := hd, ft := ft, fx := fx, fy := fy } s' := by
  have kp : Kp (A.mut st) H H' := .but k (mem_st A st)
  have ap := S.apart
  exact { good := good, nd := S.nd, ins := ins, sl := S.sl.mv kp, sr := by rw [hr]; exact k _ _ S.sr ap.st_sr.symm, sc := by rw [hc]; exact k _ _ S.sc ap.st_sc.symm, tl := by rw [hr, hc]; exact k _ _ S.tl ap.st_tl.symm,
          pl := hpl, al := hal, bl := hbl, ti := k _ _ S.ti ap.st_ti.symm, t0 := by rw [hr]; exact S.t0.mv kp, t1 := by rw [hc]; exact S.t1.mv kp, bk := k _ _ S.bk ap.st_bk.symm, b0 := by rw [hr]; exact S.b0.mv kp, b1 := by rw [hc]; exact S.b1.mv kp,
          mi := hmi, ar := har, fi := hfi, fit := hfit, hd := hhd, ft := hft, exs := fun b hb => by
            obtain ⟨xs, h⟩ := S.exs b hb
            exact ⟨xs, k _ _ h (S.off hb (own_st A st))⟩ }
theorem SetAt.chg (S : SetAt CS CA H st A s) (k : But st H H') {A' : Ads} (h : A'.own st = A.own st) (hx : A'.ex = A.ex := by rfl) : ChgA st A A' H H' := ⟨fun b o e hb => ⟨k b o e fun z => hb (z ▸ own_st A st), by rw [h]; exact hb⟩, hx⟩
end
section
variable {K : PySem.W.Frag} {σ : L2.St} {H : Hp} {ta tb te tv : TE} {D : Ends} {tz : TS} {xs : List V}
theorem q_unL {a : Addr} {n : Nat} {g : TGs} (h : Ev te σ H (.ref a)) (hx : H a = some (.lst xs)) (hn : xs.length = n) (k : ∀ H1, Ex H H1 → g xs σ H1 (tz D)) : tSeq (tAsg te (gUnl K n g)) tz D σ H :=
  h H (Ex.refl H) _ fun H1 e => ⟨a, xs, rfl, sq_of (e _ _ hx), hn, k H1 e⟩
theorem q_unLB {n : Nat} {g : TGs} (h : EvB te σ H (LstB xs)) (hn : xs.length = n) (k : ∀ H1, Ex H H1 → g xs σ H1 (tz D)) : tSeq (tAsg te (gUnl K n g)) tz D σ H :=
  h H (Ex.refl H) _ fun p H1 e hp => ⟨p, xs, rfl, sq_of hp.2, hn, k H1 e⟩
/-- a name, and the rest of the names -/
theorem g_cons {i : Nat} {x : V} {r : List V} {u : TGs} {Q : L2.St → Hp → Prop} (h : u r (σ.set i (some x)) H Q) : gCons (gName i) u (x :: r) σ H Q := ⟨x, r, rfl, h⟩
theorem g_nil {Q : L2.St → Hp → Prop} (h : Q σ H) : gNil [] σ H Q := ⟨rfl, h⟩
end
section
variable {P : Program} {w : World} {K : PySem.W.Frag} {mg : Str → Option Value} {base : Heap} {CA CS CL CP CD aM aF aW aL aP aN : Addr}
/-! ### set_scale, set_fit -/
abbrev sScale : Stmt := top 25
def spScale (CS CA : Addr) : Sp := fun vs H Q _ => ∃ st A s, ∃ p : Nat, vs = [.ref st, nV p] ∧ SetAt CS CA H st A s ∧ MutR CS CA st A (Si32.step s (.scale (.told p))).1 (Si32.step s (.scale (.told p))).2.v H Q
theorem sc_scale : FnScope ["settings", "p"] ["settings", "p"] (defScope sScale) := ⟨rfl, rfl, rfl, by decide +kernel, rfl, by decide +kernel, by decide +kernel⟩
theorem d_scale (T : Txt K mg CA CS CL CP CD aM aF aW aL aP aN) (F0 : Src K mg "set_scale" sScale ["settings", "p"]) (D1 : Def P w K mg base 1 "within" ["number", "least", "most"] spWithin) : Def P w K mg base 2 "set_scale" ["settings", "p"] (spScale CS CA) := by
  refine .mk F0 fun f fd F => F.ok sc_scale (fun vs H Q E h => ?_) (fun cdv A outer s H vs Q E hr h => ?_)
  · obtain ⟨_, _, _, _, rfl, _⟩ := h
    rfl
  · obtain ⟨st, A, s, p, rfl, S, k⟩ := h
    refine ⟨_, pss_cons (ps_if (pt_not (pt_val (pe_def D1 hr rfl (pa_cons (pv 1) (pa_cons (pe_k rfl T.k_LEAST_SCALE) (pa_cons (pe_k rfl T.k_MOST_SCALE) pa_nil)))))) (pss_one (ps_ret (pe_k rfl T.k_OUT_OF_RANGE))) pss_nil)
      (pss_cons (ps_fld (pv 0) (pv 1) rfl) (pss_one (ps_ret pe_int))), ?_⟩
    have gs : Si32.goodScale (.told p) = (decide (10 ≤ p) && decide (p ≤ 400)) := rfl
    have gd := S.good.step (.scale (.told p))
    refine q_when (et_not (et_B (ev_callS (ea_cons ev_v (ea2 ev_c ev_c)) fun H1 e Q q => ⟨p, 10, 400, rfl, q⟩))) (fun c H1 e1 => ?_) (fun c H1 e1 => ?_)
    · rw [Bool.not_eq_true', Bool.and_eq_false_iff, decide_eq_false_iff_not, decide_eq_false_iff_not] at c
      have hb : Si32.goodScale (.told p) = false := by
        rw [gs, Bool.and_eq_false_iff, decide_eq_false_iff_not, decide_eq_false_iff_not]
        omega
      have es : Si32.step s (.scale (.told p)) = (s, Si32.ok (-1)) := if_pos hb
      rw [es] at k
      exact s_retV ev_c (RetV.mono (k.same S) e1)
    · rw [Bool.not_eq_false', Bool.and_eq_true, decide_eq_true_iff, decide_eq_true_iff] at c
      have hb : ¬ Si32.goodScale (.told p) = false := by
        rw [gs, Bool.and_eq_false_iff, decide_eq_false_iff_not, decide_eq_false_iff_not]
        omega
      have es : Si32.step s (.scale (.told p)) = ({ s with scale := .told p }, Si32.ok 0) := if_neg hb
      rw [es] at k gd
      obtain ⟨dx, hi⟩ := S.ins
      refine q_fld ev_v ev_v (e1 _ _ hi) T.clS T.nS_scale (by show 15 < 1000; decide) fun H2 e2 => ?_
      refine s_retV ev_c fun H3 e3 => ?_
      have bt : But st H H3 := (But.of (e1.trans e2)).trans (But.upd.trans (.of e3))
      have kp : Kp (A.mut st) H H3 := .but bt (mem_st A st)
      exact k H3 A (S.store bt gd rfl rfl ⟨dx, e3 _ _ upd_same⟩ (S.pl.mv kp) (S.al.mv kp) (S.bl.mv kp) (S.mi.mv kp) (AreasAt.mv S.ar kp) (S.fi.mv kp) (fun w h z => by cases z) (TextAt.mv S.hd kp) (TextAt.mv S.ft kp)) (S.chg bt rfl)
abbrev sFitS : Stmt := top 26
def spFitS (CS CA : Addr) : Sp := fun vs H Q _ => ∃ st A s, ∃ x y : Nat, vs = [.ref st, nV x, nV y] ∧ SetAt CS CA H st A s ∧ MutR CS CA st A (Si32.step s (.scale (.fit x y))).1 (Si32.step s (.scale (.fit x y))).2.v H Q
theorem sc_fitS : FnScope ["settings", "wide", "tall"] ["settings", "wide", "tall"] (defScope sFitS) := ⟨rfl, rfl, rfl, by decide +kernel, rfl, by decide +kernel, by decide +kernel⟩
theorem d_fitS (T : Txt K mg CA CS CL CP CD aM aF aW aL aP aN) (F0 : Src K mg "set_fit" sFitS ["settings", "wide", "tall"]) : Def P w K mg base 1 "set_fit" ["settings", "wide", "tall"] (spFitS CS CA) := by
  refine .mk F0 fun f fd F => F.ok sc_fitS (fun vs H Q E h => ?_) (fun cdv A outer s H vs Q E hr h => ?_)
  · obtain ⟨_, _, _, _, _, rfl, _⟩ := h
    rfl
  · obtain ⟨st, A, s, x, y, rfl, S, k⟩ := h
    refine ⟨_, pss_cons (ps_if (PW.pt (pw_or (pt_cmpR op_gt (pv 1) (pe_k rfl T.k_MOST_FIT) (nomark _)) (pw_or1 (pt_cmpR op_gt (pv 2) (pe_k rfl T.k_MOST_FIT) (nomark _))))) (pss_one (ps_ret (pe_k rfl T.k_OUT_OF_RANGE))) pss_nil)
      (pss_cons (ps_fld (pv 0) pe_non rfl) (pss_cons (ps_fld (pv 0) (pe_lst (pa_cons (pv 2) (pa_cons (pv 1) pa_nil))) rfl) (pss_one (ps_ret pe_int)))), ?_⟩
    have gs : Si32.goodScale (.fit x y) = (decide (x ≤ 1000) && decide (y ≤ 1000)) := rfl
    have gd := S.good.step (.scale (.fit x y))
    refine q_when (et_or (b := decide ((1000 : Int) < (y : Int))) (et_test (ev_i ev_v ev_c)) (fun _ => et_test (ev_i ev_v ev_c))) (fun c H1 e1 => ?_) (fun c H1 e1 => ?_)
    · rw [Bool.or_eq_true, decide_eq_true_iff, decide_eq_true_iff] at c
      have hb : Si32.goodScale (.fit x y) = false := by
        rw [gs, Bool.and_eq_false_iff, decide_eq_false_iff_not, decide_eq_false_iff_not]
        omega
      have es : Si32.step s (.scale (.fit x y)) = (s, Si32.ok (-1)) := if_pos hb
      rw [es] at k
      exact s_retV ev_c (RetV.mono (k.same S) e1)
    · rw [Bool.or_eq_false_iff, decide_eq_false_iff_not, decide_eq_false_iff_not] at c
      have hb : ¬ Si32.goodScale (.fit x y) = false := by
        rw [gs, Bool.and_eq_false_iff, decide_eq_false_iff_not, decide_eq_false_iff_not]
        omega
      have es : Si32.step s (.scale (.fit x y)) = ({ s with scale := .fit x y }, Si32.ok 0) := if_neg hb
      rw [es] at k gd
      obtain ⟨dx, hi⟩ := S.ins
      refine q_fld ev_c ev_v (e1 _ _ hi) T.clS T.nS_scale (by show 15 < 1000; decide) fun H2 e2 => ?_
      refine q_fldB (LstB.firm _) (eb_lst (vs := [nV y, nV x]) (ea2 ev_v ev_v) (by show 2 ≤ 100000; decide)) ev_v upd_same T.clS T.nS_fit (by show 15 < 1000; decide) fun p H3 e3 ⟨hp, hp2⟩ => ?_
      refine s_retV ev_c fun H4 e4 => ?_
      have bt2 : But st H H3 := (But.of (e1.trans e2)).trans (But.upd.trans (.of e3))
      have bt : But st H H4 := bt2.trans (But.upd.trans (.of e4))
      have kp : Kp (A.mut st) H H4 := .but bt (mem_st A st)
      have hst : H p = none := ((But.of (e1.trans e2)).trans But.upd).fresh upd_same hp
      have pst : p ≠ st := fun z => by rw [z] at hst; rw [hst] at hi; cases hi
      exact k H4 _ (S.store bt gd rfl rfl ⟨dx, e4 _ _ upd_same⟩ (S.pl.mv kp) (S.al.mv kp) (S.bl.mv kp) (S.mi.mv kp) (AreasAt.mv S.ar kp) ⟨e4 _ _ (by rw [upd_ne pst]; exact hp2), S.fresh hst⟩ (fun w h z => by cases z; exact ⟨rfl, rfl⟩) (TextAt.mv S.hd kp) (TextAt.mv S.ft kp)) (S.chg bt rfl)
end
end Sh
namespace Sh
open PySem PySem.Spec PyProof.Rows L2 Evl
theorem rgc4 : ∀ k : Fin 41, (Builtin.Range.small 0 (((4 * k.val : Nat) : Int)) 4 && decide (Builtin.Range.rangeSize 0 (((4 * k.val : Nat) : Int)) 4 = ((k.val : Nat) : Int))) = true := by decide +kernel
theorem rg4 {k : Nat} (h : k ≤ 40) : RgC 0 ((4 * k : Nat) : Int) 4 k := by
  have := rgc4 ⟨k, by omega⟩
  rw [Bool.and_eq_true, decide_eq_true_iff] at this
  exact ⟨by decide, by decide, this.1, this.2⟩
theorem cut_nat {xs : List V} {a b : Nat} (h : b ≤ xs.length) : cutV xs (some (a : Int)) (some (b : Int)) = (xs.drop a).take (b - a) := by
  unfold cutV
  rw [HT.sIx_nat, HT.sIx_nat, Nat.min_eq_left h]
  by_cases ha : a ≤ xs.length
  · rw [Nat.min_eq_left ha]
  · rw [Nat.min_eq_right (by omega), List.drop_eq_nil_of_le (Nat.le_refl _), List.drop_eq_nil_of_le (by omega), List.take_nil, List.take_nil]
section
variable {σ : L2.St} {H : Hp} {ta te : TA} {tx tl th : TE} {D : Ends} {tz tb : TS} {K : PySem.W.Frag}
theorem q_forC {ta : TA} {j : Nat} {lo hi c : Int} {n : Nat} (h : EvA ta σ H [.int lo, .int hi, .int c]) (hc : RgC lo hi c n) (Pv : Nat → L2.St → Hp → Prop) (h0 : ∀ H1, Ex H H1 → Pv 0 σ H1)
    (hs : ∀ (i : Nat) σ' H', i < n → Pv i σ' H' → tb { D with nx := Pv (i + 1), ct := Pv (i + 1), bk := tz D } (σ'.set j (some (.int (lo + (i : Nat) * c)))) H') (hd : ∀ σ' H', Pv n σ' H' → tz D σ' H') : tSeq (tFor (iRng3 ta) (gName j) tb) tz D σ H :=
  h H (Ex.refl H) _ fun H1 e => ⟨lo, hi, c, n, rfl, hc, for_rangeC (D := { D with nx := tz D }) (lo := lo) (c := c) (n := n) Pv (h0 H1 e) (fun i σ' H' hi p => hs i σ' H' hi p) hd⟩
theorem eb_slice {a : Addr} {xs : List V} {lo hi : Option Int} {tl th : TO} (h : Ev tx σ H (.ref a)) (h1 : EvO tl σ H lo) (h2 : EvO th σ H hi) (hs : SqL K H a xs) : EvB (tSl (rSlL K) tx tl th) σ H (LstB (cutV xs lo hi)) := eb_L (el_sl h h1 h2 hs)
end
def four (a : Si32.Area) : List Nat := [a.row0, a.col0, a.row1, a.col1]
theorem four_len (as : List Si32.Area) : (as.flatMap four).length = 4 * as.length := by
  induction as with
  | nil => rfl
  | cons a l ih =>
    rw [List.flatMap_cons, List.length_append, ih, List.length_cons]
    show 4 + _ = _
    omega
theorem four_at : ∀ {as : List Si32.Area} {i : Nat} {a : Si32.Area}, as[i]? = some a → ((as.flatMap four).drop (4 * i)).take 4 = four a
  | [], i, a, h => by simp at h
  | b :: l, 0, a, h => by
    have e : b = a := Option.some.inj h
    subst e
    rfl
  | b :: l, i + 1, a, h => by
    rw [List.flatMap_cons, show 4 * (i + 1) = (four b).length + 4 * i by show _ = 4 + _; omega, List.drop_append, List.drop_eq_nil_of_le (by omega), Nat.add_sub_cancel_left, List.nil_append]
    exact four_at (show l[i]? = some a from h)
def AreaN (CA : Addr) (H0 H : Hp) (q : Addr) (a : Si32.Area) : Prop := H0 q = none ∧ ∃ dx f l, H q = some (.ins CA dx [("first", .ref f), ("last", .ref l)]) ∧ H0 f = none ∧ H f = some (.lst [nV a.row0, nV a.col0]) ∧ H0 l = none ∧ H l = some (.lst [nV a.row1, nV a.col1])
theorem AreaN.on {CA : Addr} {H0 H H' : Hp} {q : Addr} {a : Si32.Area} (h : AreaN CA H0 H q a) (e : On H0 H H') : AreaN CA H0 H' q a := by
  obtain ⟨h0, dx, f, l, h1, h2, h3, h4, h5⟩ := h
  exact ⟨h0, dx, f, l, e _ _ h0 h1, h2, e _ _ h2 h3, h4, e _ _ h4 h5⟩
theorem AreaN.less {CA : Addr} {H00 H0 H : Hp} {q : Addr} {a : Si32.Area} (h : AreaN CA H0 H q a) (e : Less H00 H0) : AreaN CA H00 H q a := by
  obtain ⟨h0, dx, f, l, h1, h2, h3, h4, h5⟩ := h
  exact ⟨e _ h0, dx, f, l, h1, e _ h2, h3, e _ h4, h5⟩
def AreaB (CA : Addr) (a : Si32.Area) : PB := fun H0 q H => AreaN CA H0 H q a
theorem AreaB.anti (CA : Addr) (a : Si32.Area) : Anti (AreaB CA a) := fun _ _ _ _ e h => AreaN.less h (.of e)
theorem AreaB.firm (CA : Addr) (a : Si32.Area) : Firm (AreaB CA a) := fun _ _ _ _ e h => AreaN.on h e
theorem nVs_four (a : Si32.Area) : nVs (four a) = [nV a.row0, nV a.col0, nV a.row1, nV a.col1] := rfl
section
variable {P : Program} {w : World} {K : PySem.W.Frag} {mg : Str → Option Value} {base : Heap} {CA CS CL CP CD aM aF aW aL aP aN : Addr}
/-! ### set_paper -/
abbrev sPaper : Stmt := top 21
def spPaper (CS CA : Addr) : Sp := fun vs H Q _ => ∃ st A s wl, ∃ p : Si32.Paper, vs = [.ref st, .ref wl] ∧ SetAt CS CA H st A s ∧ H wl = some (.lst [nV p.width, nV p.height, nV p.left, nV p.right, nV p.top, nV p.bottom]) ∧ MutR CS CA st A (Si32.step s (.paper p)).1 (Si32.step s (.paper p)).2.v H Q
theorem sc_paper : FnScope ["settings", "wholes", "width", "height", "left", "right", "top", "bottom"] ["settings", "wholes"] (defScope sPaper) := ⟨rfl, rfl, rfl, by decide +kernel, rfl, by decide +kernel, by decide +kernel⟩
theorem d_paper (T : Txt K mg CA CS CL CP CD aM aF aW aL aP aN) (F0 : Src K mg "set_paper" sPaper ["settings", "wholes"]) : Def P w K mg base 1 "set_paper" ["settings", "wholes"] (spPaper CS CA) := by
  refine .mk F0 fun f fd F => F.ok sc_paper (fun vs H Q E h => ?_) (fun cdv A outer s H vs Q E hr h => ?_)
  · obtain ⟨_, _, _, _, _, rfl, _⟩ := h
    rfl
  · obtain ⟨st, A, s, wl, p, rfl, S, hw, k⟩ := h
    refine ⟨_, pss_cons (ps_asg (pv 1) (pg_unl rfl (pgs_cons (pg_name (i := 2) sc_paper.nd rfl (.inl rfl)) (pgs_cons (pg_name (i := 3) sc_paper.nd rfl (.inl rfl)) (pgs_cons (pg_name (i := 4) sc_paper.nd rfl (.inl rfl)) (pgs_cons (pg_name (i := 5) sc_paper.nd rfl (.inl rfl)) (pgs_cons (pg_name (i := 6) sc_paper.nd rfl (.inl rfl)) (pgs_cons (pg_name (i := 7) sc_paper.nd rfl (.inl rfl)) pgs_nil))))))))
      (pss_cons (ps_if (PW.pt (pw_or (pt_cmpR op_gt (pv 2) (pe_k rfl T.k_MOST_PAPER) (nomark _)) (pw_or (pt_cmpR op_gt (pv 3) (pe_k rfl T.k_MOST_PAPER) (nomark _)) (pw_or (pt_cmpR op_ge (pe_op op_add (pv 4) (pv 5)) (pv 2) (nomark _)) (pw_or1 (pt_cmpR op_ge (pe_op op_add (pv 6) (pv 7)) (pv 3) (nomark _))))))) (pss_one (ps_ret (pe_k rfl T.k_OUT_OF_RANGE))) pss_nil)
      (pss_cons (ps_fld (pv 0) (pe_lst (pa_cons (pv 3) (pa_cons (pv 2) pa_nil))) rfl) (pss_cons (ps_fld (pv 0) (pe_lst (pa_cons (pv 6) (pa_cons (pv 4) pa_nil))) rfl) (pss_cons (ps_fld (pv 0) (pe_lst (pa_cons (pv 7) (pa_cons (pv 5) pa_nil))) rfl) (pss_one (ps_ret pe_int)))))), ?_⟩
    have gs := goodPaper_iff (p := p)
    have gd := S.good.step (.paper p)
    refine q_unL ev_v hw rfl fun H0 e0 => g_cons (g_cons (g_cons (g_cons (g_cons (g_cons (g_nil ?_))))))
    refine q_when (et_or (b := decide ((100000 : Int) < (p.height : Int)) || (decide ((p.width : Int) ≤ (p.left : Int) + (p.right : Int)) || decide ((p.height : Int) ≤ (p.top : Int) + (p.bottom : Int)))) (et_test (ev_i ev_v ev_c)) (fun _ => et_or (et_test (ev_i ev_v ev_c)) (fun _ => et_or (et_test (ev_i (ev_i ev_v ev_v) ev_v)) (fun _ => et_test (ev_i (ev_i ev_v ev_v) ev_v))))) (fun c H1 e1 => ?_) (fun c H1 e1 => ?_)
    · rw [Bool.or_eq_true, Bool.or_eq_true, Bool.or_eq_true, decide_eq_true_iff, decide_eq_true_iff, decide_eq_true_iff, decide_eq_true_iff] at c
      have hb : Si32.goodPaper p = false := by
        cases q : Si32.goodPaper p with
        | false => rfl
        | true =>
          have := gs.mp q
          omega
      have es : Si32.step s (.paper p) = (s, Si32.ok (-1)) := if_pos hb
      rw [es] at k
      exact s_retV ev_c (RetV.mono (k.same S) (e0.trans e1))
    · rw [Bool.or_eq_false_iff, Bool.or_eq_false_iff, Bool.or_eq_false_iff, decide_eq_false_iff_not, decide_eq_false_iff_not, decide_eq_false_iff_not, decide_eq_false_iff_not] at c
      have hb : ¬ Si32.goodPaper p = false := by
        rw [gs.mpr (by omega)]
        decide
      have es : Si32.step s (.paper p) = ({ s with paper := p }, Si32.ok 0) := if_neg hb
      rw [es] at k gd
      obtain ⟨dx, hi⟩ := S.ins
      have e01 := e0.trans e1
      refine q_fldB (LstB.firm _) (eb_lst (vs := [nV p.height, nV p.width]) (ea2 ev_v ev_v) (by show 2 ≤ 100000; decide)) ev_v (e01 _ _ hi) T.clS T.nS_paper (by show 15 < 1000; decide) fun p1 H2 e2 ⟨hp1, hq1⟩ => ?_
      have b1 : But st H (upd H2 st (.ins CS dx (putF "paper" (.ref p1) (fsS A s)))) := (But.of (e01.trans e2)).trans But.upd
      have hp1 : H p1 = none := fresh_back e01 hp1
      refine q_fldB (LstB.firm _) (eb_lst (vs := [nV p.top, nV p.left]) (ea2 ev_v ev_v) (by show 2 ≤ 100000; decide)) ev_v upd_same T.clS T.nS_ahead (by show 15 < 1000; decide) fun p2 H3 e3 ⟨hp2, hq2⟩ => ?_
      have hp2 := b1.fresh upd_same hp2
      have b2 : But st H (upd H3 st (.ins CS dx (putF "ahead" (.ref p2) (putF "paper" (.ref p1) (fsS A s))))) := (b1.trans (.of e3)).trans But.upd
      refine q_fldB (LstB.firm _) (eb_lst (vs := [nV p.bottom, nV p.right]) (ea2 ev_v ev_v) (by show 2 ≤ 100000; decide)) ev_v upd_same T.clS T.nS_behind (by show 15 < 1000; decide) fun p3 H4 e4 ⟨hp3, hq3⟩ => ?_
      have hp3 := b2.fresh upd_same hp3
      refine s_retV ev_c fun H5 e5 => ?_
      have bt : But st H H5 := ((b2.trans (.of e4)).trans But.upd).trans (.of e5)
      have kp : Kp (A.mut st) H H5 := .but bt (mem_st A st)
      have ne : ∀ {q : Addr}, H q = none → q ≠ st := fun hq z => by rw [z, hi] at hq; cases hq
      have t1 : But st H2 H5 := ((((But.upd.trans (.of e3)).trans But.upd).trans (.of e4)).trans But.upd).trans (.of e5)
      have t2 : But st H3 H5 := ((But.upd.trans (.of e4)).trans But.upd).trans (.of e5)
      have t3 : But st H4 H5 := But.upd.trans (.of e5)
      exact k H5 _ (S.store bt gd rfl rfl ⟨dx, e5 _ _ upd_same⟩ ⟨t1 _ _ hq1 (ne hp1), S.fresh hp1⟩ ⟨t2 _ _ hq2 (ne hp2), S.fresh hp2⟩ ⟨t3 _ _ hq3 (ne hp3), S.fresh hp3⟩ (S.mi.mv kp) (AreasAt.mv S.ar kp) (S.fi.mv kp) S.fit (TextAt.mv S.hd kp) (TextAt.mv S.ft kp)) (S.chg bt rfl)
/-! ### set_how -/
abbrev sHow : Stmt := top 27
def spHow (CS CA : Addr) : Sp := fun vs H Q _ => ∃ st A s wl, ∃ (o a d : Bool) (f : Int), vs = [.ref st, .ref wl] ∧ SetAt CS CA H st A s ∧ H wl = some (.lst [bV o, bV a, bV d, .int f]) ∧ MutR CS CA st A (Si32.step s (.how o a d f)).1 (Si32.step s (.how o a d f)).2.v H Q
theorem sc_how : FnScope ["settings", "wholes", "over", "across", "down", "first"] ["settings", "wholes"] (defScope sHow) := ⟨rfl, rfl, rfl, by decide +kernel, rfl, by decide +kernel, by decide +kernel⟩
theorem d_how (T : Txt K mg CA CS CL CP CD aM aF aW aL aP aN) (F0 : Src K mg "set_how" sHow ["settings", "wholes"]) (D1 : Def P w K mg base 1 "within" ["number", "least", "most"] spWithin) : Def P w K mg base 2 "set_how" ["settings", "wholes"] (spHow CS CA) := by
  refine .mk F0 fun f fd F => F.ok sc_how (fun vs H Q E h => ?_) (fun cdv A outer s H vs Q E hr h => ?_)
  · obtain ⟨_, _, _, _, _, _, _, _, rfl, _⟩ := h
    rfl
  · obtain ⟨st, A, s, wl, o, a, d, f, rfl, S, hw, k⟩ := h
    refine ⟨_, pss_cons (ps_asg (pv 1) (pg_unl rfl (pgs_cons (pg_name (i := 2) sc_how.nd rfl (.inl rfl)) (pgs_cons (pg_name (i := 3) sc_how.nd rfl (.inl rfl)) (pgs_cons (pg_name (i := 4) sc_how.nd rfl (.inl rfl)) (pgs_cons (pg_name (i := 5) sc_how.nd rfl (.inl rfl)) pgs_nil))))))
      (pss_cons (ps_if (pt_not (pt_val (pe_def D1 hr rfl (pa_cons (pv 5) (pa_cons (pe_op op_sub pe_int (pe_k rfl T.k_FARTHEST)) (pa_cons (pe_k rfl T.k_FARTHEST) pa_nil)))))) (pss_one (ps_ret (pe_k rfl T.k_OUT_OF_RANGE))) pss_nil)
      (pss_cons (ps_fld (pv 0) (pv 2) rfl) (pss_cons (ps_fld (pv 0) (pe_lst (pa_cons (pv 4) (pa_cons (pv 3) pa_nil))) rfl) (pss_cons (ps_fld (pv 0) (pv 5) rfl) (pss_one (ps_ret pe_int)))))), ?_⟩
    have gd := S.good.step (.how o a d f)
    refine q_unL ev_v hw rfl fun H0 e0 => g_cons (g_cons (g_cons (g_cons (g_nil ?_))))
    refine q_when (et_not (et_B (ev_callS (ea_cons ev_v (ea2 (ev_i ev_c ev_c) ev_c)) fun H1 e Q q => ⟨f, 0 - 1000000, 1000000, rfl, q⟩))) (fun c H1 e1 => ?_) (fun c H1 e1 => ?_)
    · rw [Bool.not_eq_true', Bool.and_eq_false_iff, decide_eq_false_iff_not, decide_eq_false_iff_not] at c
      have hb : f < -1000000 ∨ 1000000 < f := by omega
      have es : Si32.step s (.how o a d f) = (s, Si32.ok (-1)) := if_pos hb
      rw [es] at k
      exact s_retV ev_c (RetV.mono (k.same S) (e0.trans e1))
    · rw [Bool.not_eq_false', Bool.and_eq_true, decide_eq_true_iff, decide_eq_true_iff] at c
      have hb : ¬ (f < -1000000 ∨ 1000000 < f) := by omega
      have es : Si32.step s (.how o a d f) = ({ s with over := o, across := a, down := d, first := f }, Si32.ok 0) := if_neg hb
      rw [es] at k gd
      obtain ⟨dx, hi⟩ := S.ins
      have e01 := e0.trans e1
      refine q_fld ev_v ev_v (e01 _ _ hi) T.clS T.nS_over (by show 15 < 1000; decide) fun H2 e2 => ?_
      have b1 : But st H (upd H2 st (.ins CS dx (putF "over" (bV o) (fsS A s)))) := (But.of (e01.trans e2)).trans But.upd
      refine q_fldB (LstB.firm _) (eb_lst (vs := [bV d, bV a]) (ea2 ev_v ev_v) (by show 2 ≤ 100000; decide)) ev_v upd_same T.clS T.nS_middle (by show 15 < 1000; decide) fun p2 H3 e3 ⟨hp2, hq2⟩ => ?_
      have hp2 := b1.fresh upd_same hp2
      refine q_fld ev_v ev_v upd_same T.clS T.nS_first (by show 15 < 1000; decide) fun H4 e4 => ?_
      refine s_retV ev_c fun H5 e5 => ?_
      have t2 : But st H3 H5 := ((But.upd.trans (.of e4)).trans But.upd).trans (.of e5)
      have bt : But st H H5 := (b1.trans (.of e3)).trans t2
      have kp : Kp (A.mut st) H H5 := .but bt (mem_st A st)
      have ne : ∀ {q : Addr}, H q = none → q ≠ st := fun hq z => by rw [z, hi] at hq; cases hq
      exact k H5 _ (S.store bt gd rfl rfl ⟨dx, e5 _ _ upd_same⟩ (S.pl.mv kp) (S.al.mv kp) (S.bl.mv kp) ⟨t2 _ _ hq2 (ne hp2), S.fresh hp2⟩ (AreasAt.mv S.ar kp) (S.fi.mv kp) S.fit (TextAt.mv S.hd kp) (TextAt.mv S.ft kp)) (S.chg bt rfl)
/-! ### heads -/
abbrev sHeads : Stmt := top 68
def spHeads (CS CA : Addr) : Sp := fun vs H Q _ => ∃ st A s ph pf, ∃ h f : List Nat, vs = [.ref st, .ref ph, .ref pf] ∧ SetAt CS CA H st A s ∧ H ph = some (.lst (nVs h)) ∧ H pf = some (.lst (nVs f)) ∧ h.length ≤ 300 ∧ f.length ≤ 300 ∧ MutR CS CA st A (Si32.step s (.heads h f)).1 (Si32.step s (.heads h f)).2.v H Q
theorem sc_heads : FnScope ["settings", "head", "foot", "above", "below"] ["settings", "head", "foot"] (defScope sHeads) := ⟨rfl, rfl, rfl, by decide +kernel, rfl, by decide +kernel, by decide +kernel⟩
theorem marks_at {M : List Addr} {H0 H H' : Hp} {p : Addr} {ms : List Mark} (h : MarksB ms H0 p H) (fr : ∀ q, H0 q = none → q ∉ M) (k : ∀ b o, H0 b = none → H b = some o → H' b = some o) : MarksAt M H' p ms :=
  RefsAt.imp h (fr p) (fun o f h => k _ _ f h) fun q x _ h => ⟨k _ _ h.1 h.2, fr q h.1⟩
theorem d_heads (T : Txt K mg CA CS CL CP CD aM aF aW aL aP aN) (F0 : Src K mg "heads" sHeads ["settings", "head", "foot"]) (D1 : Def P w K mg base 1 "marks_of" ["some"] spMarks) : Def P w K mg base 2 "heads" ["settings", "head", "foot"] (spHeads CS CA) := by
  refine .mk F0 fun f fd F => F.ok sc_heads (fun vs H Q E h => ?_) (fun cdv A outer s H vs Q E hr h => ?_)
  · obtain ⟨_, _, _, _, _, _, _, rfl, _⟩ := h
    rfl
  · obtain ⟨st, A, s, ph, pf, h, f, rfl, S, hh, hf, lh, lf, k⟩ := h
    refine ⟨_, pss_cons (ps_set (i := 3) sc_heads.nd rfl (.inl rfl) (pe_def D1 hr rfl (pa_cons (pv 1) pa_nil))) (pss_cons (ps_set (i := 4) sc_heads.nd rfl (.inl rfl) (pe_def D1 hr rfl (pa_cons (pv 2) pa_nil)))
      (pss_cons (ps_if (PW.pt (pw_or (pt_cmpR op_isN (pv 3) pe_non (nomark _)) (pw_or1 (pt_cmpR op_isN (pv 4) pe_non (nomark _))))) (pss_one (ps_ret (pe_k rfl T.k_NOT_TOLD))) pss_nil)
      (pss_cons (ps_fld (pv 0) (pv 3) rfl) (pss_cons (ps_fld (pv 0) (pv 4) rfl) (pss_one (ps_ret pe_int)))))), ?_⟩
    have gd := S.good.step (.heads h f)
    have gt : ∀ b : List Nat, Si32.goodText b = true ↔ b.length ≤ 255 ∧ (marksOf b).isSome = true := fun b => by
      rw [goodText_eq, Bool.and_eq_true, decide_eq_true_iff]
    have bad : (Si32.goodText h && Si32.goodText f) = false → RetV (.int (-3)) H Q := fun hb => by
      have es : Si32.step s (.heads h f) = (s, Si32.ok (-3)) := if_pos hb
      rw [es] at k
      exact k.same S
    have cn : ∀ {H' : Hp} {σ : L2.St} {i : Nat} {p : Addr} {b : List Nat}, Ex H H' → H p = some (.lst (nVs b)) → b.length ≤ 300 → σ[i]? = some (some (.ref p)) → ¬ (b.length ≤ 255 ∧ (marksOf b).isSome = true) → Ev (tCall spMarks [] E0 (tCons (tVar i) tNil)) σ H' .non := fun e hp hl hi hn =>
      ev_callS (ea1 (ev_var hi)) fun H2 e2 Q q => ⟨_, _, rfl, e2 _ _ (e _ _ hp), hl, fun ms h1 h2 => absurd ⟨h1, by rw [h2]; rfl⟩ hn, fun _ => q⟩
    have cs : ∀ {H' : Hp} {σ : L2.St} {i : Nat} {p : Addr} {b : List Nat} {ms : List Mark}, Ex H H' → H p = some (.lst (nVs b)) → b.length ≤ 300 → σ[i]? = some (some (.ref p)) → b.length ≤ 255 → marksOf b = some ms → EvB (tCall spMarks [] E0 (tCons (tVar i) tNil)) σ H' (MarksB ms) := fun e hp hl hi h1 h2 =>
      eb_callS (MarksB.anti _) (ea1 (ev_var hi)) fun H2 e2 Q q => ⟨_, _, rfl, e2 _ _ (e _ _ hp), hl, fun ms' h1' h2' => by rw [h2] at h2'; cases h2'; exact q, fun hn => absurd ⟨h1, by rw [h2]; rfl⟩ hn⟩
    by_cases gh : h.length ≤ 255 ∧ (marksOf h).isSome = true
    · obtain ⟨mh, emh⟩ := Option.isSome_iff_exists.mp gh.2
      refine q_asgB (cs (Ex.refl _) hh lh rfl gh.1 emh) fun qh H1 e1 hqh => ?_
      by_cases gf : f.length ≤ 255 ∧ (marksOf f).isSome = true
      · obtain ⟨mf, emf⟩ := Option.isSome_iff_exists.mp gf.2
        refine q_asgB (cs e1 hf lf rfl gf.1 emf) fun qf H2 e2 hqf => ?_
        have e02 := e1.trans e2
        refine q_when (et_or (a := false) (b := false) (et_test (ev_is (ev_isN ev_v) (by rfl))) (fun _ => et_test (ev_is (ev_isN ev_v) (by rfl)))) (fun c => by cases c) (fun c H3 e3 => ?_)
        have hb : ¬ (Si32.goodText h && Si32.goodText f) = false := by
          rw [(gt h).mpr gh, (gt f).mpr gf]
          decide
        have es : Si32.step s (.heads h f) = ({ s with head := h, foot := f }, Si32.ok 0) := if_neg hb
        rw [es] at k gd
        obtain ⟨dx, hi⟩ := S.ins
        refine q_fld ev_v ev_v (e3 _ _ (e02 _ _ hi)) T.clS T.nS_head (by show 15 < 1000; decide) fun H4 e4 => ?_
        refine q_fld ev_v ev_v upd_same T.clS T.nS_foot (by show 15 < 1000; decide) fun H5 e5 => ?_
        refine s_retV ev_c fun H6 e6 => ?_
        have t3 : But st H2 H6 := ((((But.of (e3.trans e4)).trans But.upd).trans (.of e5)).trans But.upd).trans (.of e6)
        have bt : But st H H6 := (But.of e02).trans t3
        have kp : Kp (A.mut st) H H6 := .but bt (mem_st A st)
        have ne : ∀ {q : Addr}, H q = none → q ≠ st := fun hq z => by rw [z, hi] at hq; cases hq
        have m1 : MarksAt (A.mut st) H6 qh mh := marks_at hqh (fun q hq => S.fresh hq) fun b o h0 hb => t3 _ _ (e2 _ _ hb) (ne h0)
        have m2 : MarksAt (A.mut st) H6 qf mf := marks_at (MarksB.anti _ _ _ _ _ e1 hqf) (fun q hq => S.fresh hq) fun b o h0 hb => t3 _ _ hb (ne h0)
        exact k H6 _ (S.store bt gd rfl rfl ⟨dx, e6 _ _ upd_same⟩ (S.pl.mv kp) (S.al.mv kp) (S.bl.mv kp) (S.mi.mv kp) (AreasAt.mv S.ar kp) (S.fi.mv kp) S.fit ⟨mh, emh, m1⟩ ⟨mf, emf, m2⟩) (S.chg bt rfl)
      · refine q_asg (cn e1 hf lf rfl gf) fun H2 e2 => ?_
        refine q_when (et_or (a := false) (b := true) (et_test (ev_is (ev_isN ev_v) (by rfl))) (fun _ => et_test (ev_is (ev_isN ev_v) (by rfl)))) (fun c H3 e3 => ?_) (fun c => by cases c)
        refine s_retV ev_c (RetV.mono (bad ?_) ((e1.trans e2).trans e3))
        rw [Bool.and_eq_false_iff]
        right
        cases q : Si32.goodText f with
        | false => rfl
        | true => exact absurd ((gt f).mp q) gf
    · refine q_asg (cn (Ex.refl _) hh lh rfl gh) fun H1 e1 => ?_
      have fin : ∀ {v : V} {H2 : Hp}, Ex H1 H2 → RetV (.int (-3)) H2 Q := fun e2 => by
        refine RetV.mono (bad ?_) (e1.trans e2)
        rw [Bool.and_eq_false_iff]
        left
        cases q : Si32.goodText h with
        | false => rfl
        | true => exact absurd ((gt h).mp q) gh
      by_cases gf : f.length ≤ 255 ∧ (marksOf f).isSome = true
      · obtain ⟨mf, emf⟩ := Option.isSome_iff_exists.mp gf.2
        refine q_asgB (cs e1 hf lf rfl gf.1 emf) fun qf H2 e2 hqf => ?_
        refine q_when (et_or (a := true) (b := true) (et_test (ev_is (ev_isN ev_v) (by rfl))) (fun z => by cases z)) (fun c H3 e3 => s_retV ev_c (fin (v := .non) (e2.trans e3))) (fun c => by cases c)
      · refine q_asg (cn e1 hf lf rfl gf) fun H2 e2 => ?_
        refine q_when (et_or (a := true) (b := true) (et_test (ev_is (ev_isN ev_v) (by rfl))) (fun z => by cases z)) (fun c H3 e3 => s_retV ev_c (fin (v := .non) (e2.trans e3))) (fun c => by cases c)
end
end Sh
namespace Sh
open PySem PySem.Spec PyProof.Rows L2 Evl
section
variable {P : Program} {w : World} {K : PySem.W.Frag} {mg : Str → Option Value} {base : Heap} {CA CS CL CP CD aM aF aW aL aP aN : Addr}
/-! ### Area -/
abbrev sAreaI : Stmt := inClass (top 15) 0
def spAreaI (CA : Addr) : Sp := fun vs H Q _ => ∃ x dx v1 v2, vs = [.ref x, v1, v2] ∧ H x = some (.ins CA dx []) ∧
  ∀ H3, (∀ b o, H b = some o → b ≠ x → H3 b = some o) → H3 x = some (.ins CA dx [("first", v1), ("last", v2)]) → Q .non H3
theorem sc_areaI : FnScope ["self", "first", "last"] ["self", "first", "last"] (defScope sAreaI) := ⟨rfl, rfl, rfl, by decide +kernel, rfl, by decide +kernel, by decide +kernel⟩
theorem ok_areaI {f : Addr} {fd : FuncData} (T : Txt K mg CA CS CL CP CD aM aF aW aL aP aN) (F : Fun K "__init__" "Area.__init__" sAreaI f fd) : FnOk P w K mg base CX0 1 f fd ["self", "first", "last"] (spAreaI CA) := by
  refine F.ok sc_areaI (fun vs H Q E h => ?_) (fun cdv A outer s H vs Q E hr h => ?_)
  · obtain ⟨_, _, _, _, rfl, _⟩ := h
    rfl
  · obtain ⟨x, dx, v1, v2, rfl, hx, k⟩ := h
    refine ⟨_, pss_cons (ps_fld (pv 0) (pv 1) rfl) (pss_one (ps_fld (pv 0) (pv 2) rfl)), ?_⟩
    refine q_fld ev_v ev_v hx T.clA T.nA_first (by show 0 < 1000; decide) fun H1 e1 => ?_
    refine s_fld ev_v ev_v upd_same T.clA T.nA_last (by show 1 < 1000; decide) fun H2 e2 => ?_
    refine k _ (fun b o hb hbx => ?_) upd_same
    rw [upd_ne hbx]
    refine e2 _ _ ?_
    rw [upd_ne hbx]
    exact e1 _ _ hb
/-! ### set_areas -/
abbrev sAreas : Stmt := top 22
def spAreas (CS CA : Addr) : Sp := fun vs H Q _ => ∃ st A s nl, ∃ as : List Si32.Area, vs = [.ref st, .ref nl] ∧ SetAt CS CA H st A s ∧ H nl = some (.lst (nVs (as.flatMap four))) ∧ as.length ≤ 40 ∧ MutR CS CA st A (Si32.step s (.areas as)).1 (Si32.step s (.areas as)).2.v H Q
theorem sc_areas : FnScope ["settings", "numbers", "found", "at", "row", "column", "last_row", "last_column"] ["settings", "numbers"] (defScope sAreas) := ⟨rfl, rfl, rfl, by decide +kernel, rfl, by decide +kernel, by decide +kernel⟩
theorem d_areas (T : Txt K mg CA CS CL CP CD aM aF aW aL aP aN) (F0 : Src K mg "set_areas" sAreas ["settings", "numbers"]) (D1 : Def P w K mg base 1 "is_span" ["way", "first", "last"] spSpan) (D2 : Cla P w K mg base 1 CA ["self", "first", "last"] (spAreaI CA)) :
    Def P w K mg base 3 "set_areas" ["settings", "numbers"] (spAreas CS CA) := by
  refine .mk F0 fun f fd F => F.ok sc_areas (fun vs H Q E h => ?_) (fun cdv A outer s H vs Q E hr h => ?_)
  · obtain ⟨_, _, _, _, _, rfl, _⟩ := h
    rfl
  · obtain ⟨st, A, s, nl, as, rfl, S, hn, ha, k⟩ := h
    have hr1 : Room 1 _ := hr.mono (by decide)
    have hrN : Room (1 + 1) _ := hr
    refine ⟨_, pss_cons (ps_set (i := 2) sc_areas.nd rfl (.inl rfl) (pe_lst pa_nil))
      (pss_cons (ps_for PassesOwn.never rfl (pi_range3 rfl T.b_range (pa_cons pe_int (pa_cons (pe_callB call_len_seq (by rfl) T.b_len PySem.boot_len (pa_cons (pv 1) pa_nil)) (pa_cons pe_int pa_nil)))) (pg_name (i := 3) sc_areas.nd rfl (.inl rfl))
        (pss_cons (ps_asg (pe_slice sl_list (pv 1) (po_some (pv 3)) (po_some (pe_op op_add (pv 3) pe_int))) (pg_unl rfl (pgs_cons (pg_name (i := 4) sc_areas.nd rfl (.inl rfl)) (pgs_cons (pg_name (i := 5) sc_areas.nd rfl (.inl rfl)) (pgs_cons (pg_name (i := 6) sc_areas.nd rfl (.inl rfl)) (pgs_cons (pg_name (i := 7) sc_areas.nd rfl (.inl rfl)) pgs_nil))))))
        (pss_cons (ps_if (PW.pt (pw_or (pt_not (pt_val (pe_def D1 hr1 rfl (pa_cons pe_int (pa_cons (pv 4) (pa_cons (pv 6) pa_nil)))))) (pw_or1 (pt_not (pt_val (pe_def D1 hr1 rfl (pa_cons pe_int (pa_cons (pv 5) (pa_cons (pv 7) pa_nil))))))))) (pss_one (ps_ret (pe_k rfl T.k_OUT_OF_RANGE))) pss_nil)
        (pss_one (ps_expr (pe_bm PySem.F.plainAttrs_list PySem.F.slot_list_append PySem.F.type_list_append mt_append (pv 2) (pa_cons (pe_new D2 hrN rfl T.gA (pa_cons (pe_lst (pa_cons (pv 4) (pa_cons (pv 5) pa_nil))) (pa_cons (pe_lst (pa_cons (pv 6) (pa_cons (pv 7) pa_nil))) pa_nil))) pa_nil)))))))
      (pss_cons (ps_if (pt_cmpR op_gt (pe_callB call_len_seq (by rfl) T.b_len PySem.boot_len (pa_cons (pv 2) pa_nil)) (pe_k rfl T.k_MOST_AREAS) (nomark _)) (pss_one (ps_ret (pe_k rfl T.k_TOO_MANY))) pss_nil)
      (pss_cons (ps_fld (pv 0) (pv 2) rfl) (pss_one (ps_ret (pe_callB call_len_seq (by rfl) T.b_len PySem.boot_len (pa_cons (pv 2) pa_nil))))))), ?_⟩
    have gd := S.good.step (.areas as)
    have lv : (nVs (as.flatMap four)).length = 4 * as.length := by rw [List.length_map, four_len]
    refine q_asgL (el_lst ea_nil (by decide)) fun fo H1 hfo e1 hf1 => ?_
    have len1 : ∀ {H' : Hp} {σ : L2.St}, σ[1]? = some (some (.ref nl)) → Ex H H' → Ev (tCB (rLenS K) (tCons (tVar 1) tNil)) σ H' (nV (4 * as.length)) := fun h1 e => ev_lenS (ev_var h1) (sq_of (e _ _ hn)) lv
    refine q_forC (lo := 0) (hi := ((4 * as.length : Nat) : Int)) (c := 4) (n := as.length) (ea_cons ev_c (ea2 (len1 rfl e1) ev_c)) (rg4 ha)
      (fun i σ H' => ∃ v3 v4 v5 v6 v7 xs, σ = [some (.ref st), some (.ref nl), some (.ref fo), v3, v4, v5, v6, v7] ∧ Ex H H' ∧ Less H1 H' ∧ H' fo = some (.lst xs) ∧ LstOf (AreaN CA H1 H') xs (as.take i) ∧ (as.take i).all Si32.goodArea = true)
      (fun H2 e2 => ⟨none, none, none, none, none, [], rfl, e1.trans e2, .of e2, e2 _ _ hf1, .nil, rfl⟩) ?_ ?_
    · rintro i σ H' hi ⟨v3, v4, v5, v6, v7, xs, rfl, e, le, hf, hl, hg⟩
      obtain ⟨a, hai⟩ : ∃ a, as[i]? = some a := ⟨_, List.getElem?_eq_getElem hi⟩
      have ei : (0 : Int) + (i : Nat) * 4 = ((4 * i : Nat) : Int) := by omega
      rw [ei]
      have cut : cutV (nVs (as.flatMap four)) (some ((4 * i : Nat) : Int)) (some ((4 * i + 4 : Nat) : Int)) = [nV a.row0, nV a.col0, nV a.row1, nV a.col1] := by
        rw [cut_nat (by rw [lv]; omega), show 4 * i + 4 - 4 * i = 4 by omega, ← List.map_drop, ← List.map_take, four_at hai]
        rfl
      refine q_unLB (xs := [nV a.row0, nV a.col0, nV a.row1, nV a.col1]) (by
        rw [← cut]
        exact eb_slice ev_v (eo_some ev_v) (eo_some (ev_is (ev_i ev_v ev_c) rfl)) (sq_of (e _ _ hn))) rfl fun H2 e2 => g_cons (g_cons (g_cons (g_cons (g_nil ?_))))
      refine q_when (et_or (b := !(decide (a.col0 ≤ a.col1 ∧ a.col1 < 256))) (et_not (et_B (ev_callS (ea_cons ev_c (ea2 ev_v ev_v)) fun H3 e3 Q q => ⟨true, a.row0, a.row1, rfl, q⟩))) (fun _ => et_not (et_B (ev_callS (ea_cons ev_c (ea2 ev_v ev_v)) fun H3 e3 Q q => ⟨false, a.col0, a.col1, rfl, q⟩)))) (fun c H3 e3 => ?_) (fun c H3 e3 => ?_)
      · rw [Bool.or_eq_true, Bool.not_eq_true', Bool.not_eq_true', decide_eq_false_iff_not, decide_eq_false_iff_not] at c
        have hb : as.all Si32.goodArea = false := by
          rw [List.all_eq_false]
          refine ⟨a, List.mem_of_getElem? hai, fun q => ?_⟩
          have := goodArea_iff.mp q
          rcases c with c | c
          · exact c ⟨this.1, this.2.1⟩
          · exact c ⟨this.2.2.1, this.2.2.2⟩
        have es : Si32.step s (.areas as) = (s, Si32.ok (-1)) := if_pos hb
        rw [es] at k
        exact s_retV ev_c (RetV.mono (k.same S) ((e.trans e2).trans e3))
      · rw [Bool.or_eq_false_iff, Bool.not_eq_false', Bool.not_eq_false', decide_eq_true_iff, decide_eq_true_iff] at c
        have e23 := e2.trans e3
        refine s_appB (P := AreaB CA a) (AreaB.anti CA a) (e23 _ _ hf) ev_v (eb_make (PA := NewA (LstB [nV a.row0, nV a.col0]) (NewA (LstB [nV a.row1, nV a.col1]) NilA)) (eap_b (LstB.firm _) (eb_lst (ea2 ev_v ev_v) (by show 2 ≤ 100000; decide)) (eap_b (LstB.firm _) (eb_lst (ea2 ev_v ev_v) (by show 2 ≤ 100000; decide)) eap_nil NilA.anti) (NewA.anti (LstB.anti _) NilA.anti)) ?_) ?_ fun q H4 e4 hq => ?_
        · rintro H5 vs H6 x dx e5 e6 ⟨pf, _, rfl, ⟨nf, hf6⟩, pl, _, rfl, ⟨nl', hl6⟩, rfl⟩ hx hdx hne Q2 q2
          refine ⟨x, dx, .ref pf, .ref pl, rfl, upd_same, fun H8 k8 hx8 => ?_⟩
          have e8 := made_ex hx hdx k8
          exact q2 H8 e8 ⟨fresh_back e6 hx, dx, pf, pl, hx8, nf, e8 _ _ hf6, nl', e8 _ _ hl6⟩
        · have := hl.len
          rw [List.length_take] at this
          omega
        · have hq : AreaN CA H3 H4 q a := hq
          have on1 : ∀ {H3 H4 : Hp} {xs' : List V}, Ex H3 H4 → On H1 H3 (upd H4 fo (.lst xs')) := fun e34 => (On.of e34).trans (on_upd (not_none hf1))
          refine ⟨_, _, _, _, _, _, rfl, Ex.mut (e.trans (e23.trans e4)) hfo, less_upd (le.ex (e23.trans e4)), upd_same, ?_, ?_⟩
          · rw [take_snoc' hai]
            exact (hl.imp fun q a h => h.on (on1 (e23.trans e4))).snoc ((hq.less (le.ex e23)).on (on1 (Ex.refl _)))
          · rw [take_snoc' hai, List.all_append, hg, Bool.true_and]
            show (Si32.goodArea a && true) = true
            rw [Bool.and_true]
            exact goodArea_iff.mpr ⟨c.1.1, c.1.2, c.2.1, c.2.2⟩
    · rintro σ H' ⟨v3, v4, v5, v6, v7, xs, rfl, e, le, hf, hl, hg⟩
      rw [List.take_length] at hl hg
      have lx := hl.len
      have hb : ¬ as.all Si32.goodArea = false := by rw [hg]; decide
      refine q_when (et_test (ev_i (ev_lenS ev_v (sq_of hf) lx) ev_c)) (fun c H2 e2 => ?_) (fun c H2 e2 => ?_)
      · rw [decide_eq_true_iff] at c
        have es : Si32.step s (.areas as) = (s, Si32.ok (-5)) := by
          show (if as.all Si32.goodArea = false then _ else if 32 < as.length then _ else _) = _
          rw [if_neg hb, if_pos (by omega)]
        rw [es] at k
        exact s_retV ev_c (RetV.mono (k.same S) (e.trans e2))
      · rw [decide_eq_false_iff_not] at c
        have es : Si32.step s (.areas as) = ({ s with areas := as }, Si32.ok (as.length : Int)) := by
          show (if as.all Si32.goodArea = false then _ else if 32 < as.length then _ else _) = _
          rw [if_neg hb, if_neg (by omega)]
        rw [es] at k gd
        obtain ⟨dx, hi⟩ := S.ins
        have e02 := e.trans e2
        refine q_fld ev_v ev_v (e02 _ _ hi) T.clS T.nS_areas (by show 15 < 1000; decide) fun H3 e3 => ?_
        have fst : fo ≠ st := fun z => by rw [z, hi] at hfo; cases hfo
        have t3 : But st H' (upd H3 st (.ins CS dx (putF "areas" (.ref fo) (fsS A s)))) := (But.of (e2.trans e3)).trans But.upd
        refine s_retV (v := nV as.length) (ev_lenS ev_v (sq_of (t3 _ _ hf fst)) lx) fun H4 e4 => ?_
        have t4 : But st H' H4 := t3.trans (.of e4)
        have bt : But st H H4 := (But.of e).trans t4
        have kp : Kp (A.mut st) H H4 := .but bt (mem_st A st)
        have ne : ∀ {q : Addr}, H1 q = none → q ≠ st := fun hq z => by rw [z, e1 _ _ hi] at hq; cases hq
        have nm : ∀ {q : Addr}, H1 q = none → q ∉ A.mut st := fun hq => S.fresh (fresh_back e1 hq)
        refine k H4 { A with ar := fo } (S.store (ar := fo) bt gd rfl rfl ⟨dx, e4 _ _ upd_same⟩ (S.pl.mv kp) (S.al.mv kp) (S.bl.mv kp) (S.mi.mv kp) ?_ (S.fi.mv kp) S.fit (TextAt.mv S.hd kp) (TextAt.mv S.ft kp)) (S.chg bt rfl)
        refine (hl.imp fun q a h => ?_).refs (Fr := fun p => p ∉ A.mut st) (S.fresh hfo) (t4 _ _ hf fst)
        obtain ⟨h0, adx, f, l, h1, h2, h3, h4, h5⟩ := h
        exact ⟨adx, f, l, ⟨t4 _ _ h1 (ne h0), nm h0⟩, ⟨t4 _ _ h3 (ne h2), nm h2⟩, ⟨t4 _ _ h5 (ne h4), nm h4⟩⟩
end
end Sh
namespace Sh
open PySem PySem.Spec PyProof.Rows L2 Evl
theorem dp_ints {K : PySem.W.Frag} {H : Hp} : ∀ ns : List Int, DpAll K H (ns.map V.int) (ns.map PyData.int)
  | [] => .nil
  | i :: ns => .cons (.int i) (dp_ints ns)
theorem eqv_ints (ns : List Int) : PyData.eqv (.list (ns.map PyData.int)) (.list []) = ns.isEmpty := by
  cases ns <;> simp [PyData.eqv, PyData.eqvAll]
theorem shaped_nil : SeqAt.shaped (.list []) = true := by
  have := PySem.W.ke_shaped_ints []
  exact this
section
variable {K : PySem.W.Frag} {σ : L2.St} {H : Hp} {ta tb te : TE} {D : Ends} {tz : TS} {P : PB}
/-- a list of ints that stands, == []; a new one, != [] -/
theorem ev_eqNil {p : Addr} {ns : List Int} (ha : Ev ta σ H (.ref p)) (hp : H p = some (.lst (ns.map V.int))) : Ev (tOp (rEqD K) ta (tLst tNil)) σ H (.bl ns.isEmpty) :=
  ev_opL ha (el_lst ea_nil (by decide)) fun q H1 hq e => fun H2 e2 Q k => ⟨.list (ns.map PyData.int), .list [], .lst (sq_of (e2 _ _ (e _ _ hp))) (dp_ints ns), .lst (sq_of (e2 _ _ hq)) .nil, PySem.W.ke_shaped_ints ns, shaped_nil, by
    rw [eqv_ints]
    exact k H2 (Ex.refl _)⟩
theorem ev_neNil {ns : List Int} (ha : EvL ta σ H (ns.map V.int)) : Ev (tOp (rNeD K) ta (tLst tNil)) σ H (.bl (!ns.isEmpty)) :=
  ev_opLL ha (el_lst ea_nil (by decide)) fun p q H1 hp hq e => fun H2 e2 Q k => ⟨.list (ns.map PyData.int), .list [], .lst (sq_of (e2 _ _ hp)) (dp_ints ns), .lst (sq_of (e2 _ _ hq)) .nil, PySem.W.ke_shaped_ints ns, shaped_nil, by
    rw [eqv_ints]
    exact k H2 (Ex.refl _)⟩
theorem q_setL {l : Addr} {xs : List V} {j : Nat} {v : V} (hl : H l = some (.lst xs)) (h : Ev te σ H v) (ho : Ev ta σ H (.ref l)) (hi : Ev tb σ H (.int (j : Int))) (hj : j < xs.length) (k : ∀ H1, Ex H H1 → tz D σ (upd H1 l (.lst (xs.set j v)))) :
    tSeq (tAsg te (gSub ta tb rSetL)) tz D σ H := s_setL (D := { D with nx := tz D }) hl h ho hi hj k
theorem q_setB {l : Addr} {xs : List V} {j : Nat} (fi : Firm P) (hl : H l = some (.lst xs)) (h : EvB te σ H P) (ho : Ev ta σ H (.ref l)) (hi : Ev tb σ H (.int (j : Int))) (hj : j < xs.length) (k : ∀ p H1, Ex H H1 → P H p H1 → tz D σ (upd H1 l (.lst (xs.set j (.ref p))))) :
    tSeq (tAsg te (gSub ta tb rSetL)) tz D σ H := h H (Ex.refl H) _ fun p H1 e1 hp => ho H1 e1 _ fun H2 e2 => hi H2 (e1.trans e2) _ fun H3 e3 =>
  ⟨l, xs, (j : Int), j, rfl, rfl, ((e1.trans e2).trans e3) l _ hl, ixN_nat hj, k p H3 ((e1.trans e2).trans e3) (fi _ _ _ _ (.of (e2.trans e3)) hp)⟩
theorem ev_wn {i : Nat} {r : Bool} (h : σ[i]? = some (some (.int (wi r))) := by rfl) : Ev (tVar i) σ H (.int ((wn r : Nat) : Int)) := ev_is (ev_var h) (by cases r <;> rfl)
end
theorem wn_lt (r : Bool) : wn r < 2 := by cases r <;> decide
section
variable {P : Program} {w : World} {K : PySem.W.Frag} {mg : Str → Option Value} {base : Heap} {CA CS CL CP CD aM aF aW aL aP aN : Addr}
/-! ### set_titles -/
theorem SetAt.setTit {H H' : Hp} {st : Addr} {A : Ads} {s : Si32.St} (S : SetAt CS CA H st A s) (k : But A.ti H H') {r : Bool} {v : V} {t : Option (Nat × Nat)} (hti : H' A.ti = some (.lst ([A.t0, A.t1].set (wn r) v))) (hv : TitAt (A.mut st) H' v t)
    (good : Good (s.with r { s.way r with titles := t })) : SetAt CS CA H' st (if r then { A with t0 := v } else { A with t1 := v }) (s.with r { s.way r with titles := t }) := by
  have kp : Kp (A.mut st) H H' := .but k (mem_ti A st)
  have ap := S.apart
  obtain ⟨dx, hi⟩ := S.ins
  cases r
  · exact { good := good, nd := S.nd, ins := ⟨dx, k _ _ hi ap.st_ti⟩, sl := S.sl.mv kp, sr := k _ _ S.sr ap.sr_ti, sc := k _ _ S.sc ap.sc_ti, tl := k _ _ S.tl ap.tl_ti, pl := S.pl.mv kp, al := S.al.mv kp, bl := S.bl.mv kp, ti := hti, t0 := S.t0.mv kp, t1 := hv, bk := k _ _ S.bk ap.ti_bk.symm, b0 := S.b0.mv kp, b1 := S.b1.mv kp,
            mi := S.mi.mv kp, ar := AreasAt.mv S.ar kp, fi := S.fi.mv kp, fit := S.fit, hd := TextAt.mv S.hd kp, ft := TextAt.mv S.ft kp, exs := fun b hb => by
              obtain ⟨xs, h⟩ := S.exs b hb
              exact ⟨xs, k _ _ h (S.off hb (own_ti A st))⟩ }
  · exact { good := good, nd := S.nd, ins := ⟨dx, k _ _ hi ap.st_ti⟩, sl := S.sl.mv kp, sr := k _ _ S.sr ap.sr_ti, sc := k _ _ S.sc ap.sc_ti, tl := k _ _ S.tl ap.tl_ti, pl := S.pl.mv kp, al := S.al.mv kp, bl := S.bl.mv kp, ti := hti, t0 := hv, t1 := S.t1.mv kp, bk := k _ _ S.bk ap.ti_bk.symm, b0 := S.b0.mv kp, b1 := S.b1.mv kp,
            mi := S.mi.mv kp, ar := AreasAt.mv S.ar kp, fi := S.fi.mv kp, fit := S.fit, hd := TextAt.mv S.hd kp, ft := TextAt.mv S.ft kp, exs := fun b hb => by
              obtain ⟨xs, h⟩ := S.exs b hb
              exact ⟨xs, k _ _ h (S.off hb (own_ti A st))⟩ }
abbrev sTitles : Stmt := top 23
def spanL (t : Option (Nat × Nat)) : List Nat := match t with
  | none => []
  | some t => [t.1, t.2]
def spTitles (CS CA : Addr) : Sp := fun vs H Q _ => ∃ st A s r sp, ∃ t : Option (Nat × Nat), vs = [.ref st, .int (wi r), .ref sp] ∧ SetAt CS CA H st A s ∧ H sp = some (.lst (nVs (spanL t))) ∧ MutR CS CA st A (Si32.step s (.titles r t)).1 (Si32.step s (.titles r t)).2.v H Q
theorem sc_titles : FnScope ["settings", "way", "span"] ["settings", "way", "span"] (defScope sTitles) := ⟨rfl, rfl, rfl, by decide +kernel, rfl, by decide +kernel, by decide +kernel⟩
theorem nVs_ints (l : List Nat) : nVs l = (l.map fun n : Nat => (n : Int)).map V.int := by
  rw [List.map_map]
  rfl
theorem d_titles (T : Txt K mg CA CS CL CP CD aM aF aW aL aP aN) (F0 : Src K mg "set_titles" sTitles ["settings", "way", "span"]) (D1 : Def P w K mg base 1 "is_span" ["way", "first", "last"] spSpan) : Def P w K mg base 2 "set_titles" ["settings", "way", "span"] (spTitles CS CA) := by
  refine .mk F0 fun f fd F => F.ok sc_titles (fun vs H Q E h => ?_) (fun cdv A outer s H vs Q E hr h => ?_)
  · obtain ⟨_, _, _, _, _, _, rfl, _⟩ := h
    rfl
  · obtain ⟨st, A, s, r, sp, t, rfl, S, hs, k⟩ := h
    refine ⟨_, pss_cons (ps_if (pt_cmpR (op_eqD hr.units) (pv 2) (pe_lst pa_nil) (nomark _)) (pss_cons (ps_asg pe_non (pg_sub (pe_fld (pv 0) rfl) (pv 1) set_list)) (pss_one (ps_ret pe_int))) pss_nil)
      (pss_cons (ps_if (pt_not (pt_val (pe_def D1 hr rfl (pa_cons (pv 1) (pa_cons (pe_ix ix_list (pv 2) pe_int (fun _ _ => rfl)) (pa_cons (pe_ix ix_list (pv 2) pe_int (fun _ _ => rfl)) pa_nil)))))) (pss_one (ps_ret (pe_k rfl T.k_OUT_OF_RANGE))) pss_nil)
      (pss_cons (ps_asg (pe_tup (pa_cons (pe_ix ix_list (pv 2) pe_int (fun _ _ => rfl)) (pa_cons (pe_ix ix_list (pv 2) pe_int (fun _ _ => rfl)) pa_nil))) (pg_sub (pe_fld (pv 0) rfl) (pv 1) set_list)) (pss_one (ps_ret pe_int)))), ?_⟩
    have gd := S.good.step (.titles r t)
    have fin : ∀ {H1 H2 : Hp} {v : V}, Ex H H1 → H2 = upd H1 A.ti (.lst ([A.t0, A.t1].set (wn r) v)) → TitAt (A.mut st) H1 v t → ¬ (t.all fun x => decide (x.1 ≤ x.2) && decide (x.2 < (s.way r).most)) = false → RetV (.int 0) H2 Q := fun {H1 H2 v} e1 eH hv hb H3 e3 => by
      subst eH
      have es : Si32.step s (.titles r t) = (s.with r { s.way r with titles := t }, Si32.ok 0) := if_neg hb
      rw [es] at k gd
      have bt : But A.ti H H3 := ((But.of e1).trans But.upd).trans (.of e3)
      have kp : Kp (A.mut st) H1 H3 := .but (But.upd.trans (.of e3)) (mem_ti A st)
      refine k H3 _ (S.setTit bt (e3 _ _ upd_same) (hv.mv kp) gd) ⟨fun b o e hm => ⟨bt b o e fun z => hm (z ▸ own_ti A st), ?_⟩, by cases r <;> rfl⟩
      cases r <;> exact hm
    cases t with
    | none =>
      refine q_when (et_test (ev_is (w := .bl true) (ev_eqNil (ns := []) ev_v hs) rfl)) (fun c H1 e1 => ?_) (fun c => by cases c)
      refine q_setL (e1 _ _ S.ti) ev_c (S_titles T (S.ex e1) ev_v) ev_wn (wn_lt r) fun H2 e2 => ?_
      exact s_retV ev_c (fin (e1.trans e2) rfl rfl (fun z => by cases z))
    | some t =>
      have hs' : H sp = some (.lst ((([t.1, t.2] : List Nat).map fun n : Nat => (n : Int)).map V.int)) := hs
      refine q_when (et_test (ev_is (w := .bl false) (ev_eqNil ev_v hs') rfl)) (fun c => by cases c) (fun c H1 e1 => ?_)
      have ab : Option.all (fun x : Nat × Nat => decide (x.1 ≤ x.2) && decide (x.2 < (s.way r).most)) (some t) = (decide (t.1 ≤ t.2) && decide (t.2 < mostOf r)) := by
        rw [← (S.good.way r).most]
        rfl
      have i0 : ∀ {H' : Hp} {σ : L2.St}, Ex H H' → σ[2]? = some (some (.ref sp)) → Ev (tOp (rIxL K) (tVar 2) (tC (.int 0))) σ H' (nV t.1) := fun e h2 => ev_ixL (ev_var h2) ev_c (sq_of (e _ _ hs)) rfl
      have i1 : ∀ {H' : Hp} {σ : L2.St}, Ex H H' → σ[2]? = some (some (.ref sp)) → Ev (tOp (rIxL K) (tVar 2) (tC (.int 1))) σ H' (nV t.2) := fun e h2 => ev_ixL (ev_var h2) ev_c (sq_of (e _ _ hs)) rfl
      refine q_when (et_not (et_B (ev_callS (ea_cons ev_v (ea2 (i0 e1 rfl) (i1 e1 rfl))) fun H2 e2 Q q => ⟨r, t.1, t.2, rfl, q⟩))) (fun c H2 e2 => ?_) (fun c H2 e2 => ?_)
      · rw [Bool.not_eq_true', decide_eq_false_iff_not] at c
        have hb : (Option.all (fun x : Nat × Nat => decide (x.1 ≤ x.2) && decide (x.2 < (s.way r).most)) (some t)) = false := by
          rw [ab, Bool.and_eq_false_iff, decide_eq_false_iff_not, decide_eq_false_iff_not]
          omega
        have es : Si32.step s (.titles r (some t)) = (s, Si32.ok (-1)) := if_pos hb
        rw [es] at k
        exact s_retV ev_c (RetV.mono (k.same S) (e1.trans e2))
      · rw [Bool.not_eq_false', decide_eq_true_iff] at c
        have e12 := e1.trans e2
        refine q_setB (P := TupB [nV t.1, nV t.2]) (TupB.firm _) (e12 _ _ S.ti) (eb_tup (ea2 (i0 e12 rfl) (i1 e12 rfl)) (by show 2 ≤ 100000; decide)) (S_titles T (S.ex e12) ev_v) ev_wn (wn_lt r) fun p H3 e3 ⟨hp, hp2⟩ => ?_
        refine s_retV ev_c (fin (v := .ref p) (e12.trans e3) rfl ⟨p, rfl, hp2, S.fresh (fresh_back e12 hp)⟩ ?_)
        rw [ab, Bool.and_eq_false_iff, decide_eq_false_iff_not, decide_eq_false_iff_not]
        omega
end
end Sh
namespace Sh
open PySem PySem.Spec PyProof.Rows L2 Evl
theorem sizesV_set (f : Nat → Nat) (m k n : Nat) (hk : k < m) : ((List.range m).map fun i => nV (f i)).set k (nV n) = (List.range m).map fun i => nV (if i = k then n else f i) := by
  apply List.ext_getElem?
  intro i
  rw [List.getElem?_set]
  by_cases h : i < m
  · rw [List.getElem?_map, List.getElem?_map, List.getElem?_range h]
    by_cases e : k = i
    · rw [if_pos e, List.length_map, List.length_range, if_pos (by omega)]
      show _ = some (nV (if i = k then n else f i))
      rw [if_pos e.symm]
    · rw [if_neg e]
      show _ = some (nV (if i = k then n else f i))
      rw [if_neg (fun z => e z.symm)]
      rfl
  · rw [List.getElem?_map, List.getElem?_map, List.getElem?_eq_none (by rw [List.length_range]; omega)]
    by_cases e : k = i
    · omega
    · rw [if_neg e]
      rfl
/-- the sizes behind a size that's told -/
def sizeTo (w : Si32.Way) (a b n : Nat) (i : Nat) : Nat := if a ≤ i ∧ i < b then n else w.size i
theorem size_told (w : Si32.Way) (a b n : Nat) (i : Nat) : ({ w with told := (a, b, n) :: w.told } : Si32.Way).size i = sizeTo w a (b + 1) n i := by
  unfold Si32.Way.size sizeTo
  by_cases h : a ≤ i ∧ i < b + 1
  · rw [if_pos h, List.find?_cons_of_pos (by
      show (decide (a ≤ i) && decide (i ≤ b)) = true
      rw [Bool.and_eq_true, decide_eq_true_iff, decide_eq_true_iff]
      omega)]
  · rw [if_neg h, List.find?_cons_of_neg (by
      show ¬ (decide (a ≤ i) && decide (i ≤ b)) = true
      rw [Bool.and_eq_true, decide_eq_true_iff, decide_eq_true_iff]
      omega)]
    rfl
theorem any_most (l : List Nat) (m : Nat) : ((((List.range l.length).filter fun i => decide ((m : Int) ≤ ((l.getD i 0 : Nat) : Int))).map fun i => ((l.getD i 0 : Nat) : Int))).isEmpty = l.all fun i => decide (i < m) := by
  rw [Bool.eq_iff_iff, List.isEmpty_iff, List.map_eq_nil_iff, List.filter_eq_nil_iff, List.all_eq_true]
  constructor
  · intro h x hx
    obtain ⟨i, hi, e⟩ := List.getElem_of_mem hx
    have := h i (List.mem_range.mpr hi)
    rw [decide_eq_true_iff, getD_of (List.getElem?_eq_getElem hi), e] at this
    rw [decide_eq_true_iff]
    omega
  · intro h i hi
    have hi := List.mem_range.mp hi
    have := h l[i] (List.getElem_mem hi)
    rw [decide_eq_true_iff] at this ⊢
    rw [getD_of (List.getElem?_eq_getElem hi)]
    omega
theorem given_ints (n : Nat) (f : Nat → Bool) (g : Nat → Int) : given n f (fun i => V.int (g i)) = (((List.range n).filter f).map g).map V.int := by
  unfold given
  rw [List.map_map]
  rfl
section
variable {P : Program} {w : World} {K : PySem.W.Frag} {mg : Str → Option Value} {base : Heap} {CA CS CL CP CD aM aF aW aL aP aN : Addr}
/-! ### set_breaks -/
theorem SetAt.setBrk {H H' : Hp} {st : Addr} {A : Ads} {s : Si32.St} (S : SetAt CS CA H st A s) (k : But A.bk H H') {r : Bool} {p : Addr} {l : List Nat} (hbk : H' A.bk = some (.lst ([V.ref A.b0, V.ref A.b1].set (wn r) (.ref p)))) (hp : BrkAt (A.mut st) H' p l)
    (good : Good (s.with r { s.way r with breaks := l })) : SetAt CS CA H' st (if r then { A with b0 := p } else { A with b1 := p }) (s.with r { s.way r with breaks := l }) := by
  have kp : Kp (A.mut st) H H' := .but k (mem_bk A st)
  have ap := S.apart
  obtain ⟨dx, hi⟩ := S.ins
  cases r
  · exact { good := good, nd := S.nd, ins := ⟨dx, k _ _ hi ap.st_bk⟩, sl := S.sl.mv kp, sr := k _ _ S.sr ap.sr_bk, sc := k _ _ S.sc ap.sc_bk, tl := k _ _ S.tl ap.tl_bk, pl := S.pl.mv kp, al := S.al.mv kp, bl := S.bl.mv kp, ti := k _ _ S.ti ap.ti_bk, t0 := S.t0.mv kp, t1 := S.t1.mv kp, bk := hbk, b0 := S.b0.mv kp, b1 := hp,
            mi := S.mi.mv kp, ar := AreasAt.mv S.ar kp, fi := S.fi.mv kp, fit := S.fit, hd := TextAt.mv S.hd kp, ft := TextAt.mv S.ft kp, exs := fun b hb => by
              obtain ⟨xs, h⟩ := S.exs b hb
              exact ⟨xs, k _ _ h (S.off hb (own_bk A st))⟩ }
  · exact { good := good, nd := S.nd, ins := ⟨dx, k _ _ hi ap.st_bk⟩, sl := S.sl.mv kp, sr := k _ _ S.sr ap.sr_bk, sc := k _ _ S.sc ap.sc_bk, tl := k _ _ S.tl ap.tl_bk, pl := S.pl.mv kp, al := S.al.mv kp, bl := S.bl.mv kp, ti := k _ _ S.ti ap.ti_bk, t0 := S.t0.mv kp, t1 := S.t1.mv kp, bk := hbk, b0 := hp, b1 := S.b1.mv kp,
            mi := S.mi.mv kp, ar := AreasAt.mv S.ar kp, fi := S.fi.mv kp, fit := S.fit, hd := TextAt.mv S.hd kp, ft := TextAt.mv S.ft kp, exs := fun b hb => by
              obtain ⟨xs, h⟩ := S.exs b hb
              exact ⟨xs, k _ _ h (S.off hb (own_bk A st))⟩ }
abbrev sBreaks : Stmt := top 24
def spBreaks (CS CA : Addr) : Sp := fun vs H Q _ => ∃ st A s r pl, ∃ l : List Nat, vs = [.ref st, .int (wi r), .ref pl] ∧ SetAt CS CA H st A s ∧ H pl = some (.lst (nVs l)) ∧ l.length ≤ 600 ∧ MutR CS CA st A (Si32.step s (.breaks r l)).1 (Si32.step s (.breaks r l)).2.v H Q
theorem sc_breaks : FnScope ["settings", "way", "places", "found", "place"] ["settings", "way", "places"] (defScope sBreaks) := ⟨rfl, rfl, rfl, by decide +kernel, rfl, by decide +kernel, by decide +kernel⟩
theorem d_breaks (T : Txt K mg CA CS CL CP CD aM aF aW aL aP aN) (F0 : Src K mg "set_breaks" sBreaks ["settings", "way", "places"]) : Def P w K mg base 1 "set_breaks" ["settings", "way", "places"] (spBreaks CS CA) := by
  refine .mk F0 fun f fd F => F.ok sc_breaks (fun vs H Q E h => ?_) (fun cdv A outer s H vs Q E hr h => ?_)
  · obtain ⟨_, _, _, _, _, _, rfl, _⟩ := h
    rfl
  · obtain ⟨st, A, s, r, pl, l, rfl, S, hs, hlen, k⟩ := h
    refine ⟨_, pss_cons (ps_if (pt_cmpR (op_neD hr.units) (pe_lc (own := [("place", 4)]) (g := gName 4) (tt := tTest (tOp (rI0 fun i j => .bl (decide (j ≤ i))) (tVar 4) (tOp (rIxT K) (tC (.ref aM)) (tVar 1)))) (te := tVar 4) rfl sc_breaks.nd (pi_list (pv 2))
        (blkOk_by (own := [("place", 4)]) (N := ["settings", "way", "places", "found", "place"]) (sc := defScope sBreaks) (by decide +kernel)) (fun _ _ _ _ _ => pg_name (i := 4) sc_breaks.nd rfl (Or.inl rfl))
        (fun _ _ _ _ _ => by exact pts_one (pt_cmpR op_ge (pv 4) (pe_ix ix_tup (pe_kr rfl T.many) (pv 1) (fun _ _ => rfl)) (nomark _))) (fun _ _ _ _ _ => by exact pv 4)) (pe_lst pa_nil) (nomark _)) (pss_one (ps_ret (pe_k rfl T.k_OUT_OF_RANGE))) pss_nil)
      (pss_cons (ps_if (pt_cmpR op_gt (pe_callB call_len_seq (by rfl) T.b_len PySem.boot_len (pa_cons (pv 2) pa_nil)) (pe_k rfl T.k_MOST_BREAKS) (nomark _)) (pss_one (ps_ret (pe_k rfl T.k_TOO_MANY))) pss_nil)
      (pss_cons (ps_set (i := 3) sc_breaks.nd rfl (.inl rfl) pe_dnewK)
      (pss_cons (ps_for PassesOwn.never rfl (pi_list (pv 2)) (pg_name (i := 4) sc_breaks.nd rfl (.inl rfl)) (pss_one (ps_dput (hu_of hr) (pv 3) (pv 4) pe_bl rfl)))
      (pss_cons (ps_asg (pv 3) (pg_sub (pe_fld (pv 0) rfl) (pv 1) set_list)) (pss_one (ps_ret pe_int)))))), ?_⟩
    have gd := S.good.step (.breaks r l)
    have lv : (nVs l).length = l.length := List.length_map _
    have gm : ∀ {i : Nat} {v : V}, (nVs l)[i]? = some v → v = V.int ((l.getD i 0 : Nat) : Int) := fun {i v} h => by
      rw [List.getElem?_map] at h
      cases q : l[i]? with
      | none => rw [q] at h; cases h
      | some c =>
        rw [q] at h
        rw [getD_of q]
        exact (Option.some.inj h).symm
    refine q_when (et_test (ev_neNil (ns := ((List.range l.length).filter fun i => decide ((mostOf r : Int) ≤ ((l.getD i 0 : Nat) : Int))).map fun i => ((l.getD i 0 : Nat) : Int)) (by
      rw [← given_ints, ← lv]
      refine el_lcL (fun i => decide ((mostOf r : Int) ≤ ((l.getD i 0 : Nat) : Int))) (fun i => V.int ((l.getD i 0 : Nat) : Int)) ev_v (sq_of hs) (by omega) (fun _ => rfl) (fun i v H1 e hi => ?_) (fun i v H1 e hi _ => ?_)
      · rw [gm hi]
        exact et_test (ev_i ev_v (ev_is (w := nV (mostOf r)) (ev_twoT ev_c ev_v (T.many_ _)) (by cases r <;> rfl)))
      · rw [gm hi]
        exact ev_v))) (fun c H1 e1 => ?_) (fun c H1 e1 => ?_)
    · rw [any_most, Bool.not_eq_true', ← (S.good.way r).most] at c
      have es : Si32.step s (.breaks r l) = (s, Si32.ok (-1)) := if_pos c
      rw [es] at k
      exact s_retV ev_c (RetV.mono (k.same S) e1)
    rw [any_most, Bool.not_eq_false', ← (S.good.way r).most] at c
    have hb : ¬ (l.all fun i => decide (i < (s.way r).most)) = false := by rw [c]; decide
    refine q_when (et_test (ev_i (ev_lenS ev_v (sq_of (e1 _ _ hs)) lv) ev_c)) (fun c2 H2 e2 => ?_) (fun c2 H2 e2 => ?_)
    · rw [decide_eq_true_iff] at c2
      have es : Si32.step s (.breaks r l) = (s, Si32.ok (-5)) := by
        show (if (l.all fun i => decide (i < (s.way r).most)) = false then _ else if 500 < l.length then _ else _) = _
        rw [if_neg hb, if_pos (by omega)]
      rw [es] at k
      exact s_retV ev_c (RetV.mono (k.same S) (e1.trans e2))
    rw [decide_eq_false_iff_not] at c2
    have es : Si32.step s (.breaks r l) = (s.with r { s.way r with breaks := l }, Si32.ok 0) := by
      show (if (l.all fun i => decide (i < (s.way r).most)) = false then _ else if 500 < l.length then _ else _) = _
      rw [if_neg hb, if_neg (by omega)]
    rw [es] at k gd
    have e12 := e1.trans e2
    refine q_asgB (P := fun H0 p H => H0 p = none ∧ H p = some (.dK [])) (fun H1 e Q q => fun p hp => q p _ (Ex.new hp) ⟨hp, upd_same⟩) fun fo H3 e3 ⟨hfo, hf3⟩ => ?_
    have hfo := fresh_back e12 hfo
    refine q_forLn (a := pl) (xs := nVs l) ev_v (sq_of (e3 _ _ (e12 _ _ hs))) (fun i σ H' => ∃ v4 kvs, σ = [some (.ref st), some (.int (wi r)), some (.ref pl), some (.ref fo), v4] ∧ Ex H H' ∧ H' fo = some (.dK kvs) ∧ kvs.length ≤ i ∧ ∀ k : Nat, (valV kvs (Sum.inl (k : Int))).isSome = (l.take i).contains k)
      (fun H4 e4 => ⟨none, [], rfl, (e12.trans e3).trans e4, e4 _ _ hf3, Nat.le_refl _, fun k => rfl⟩) (fun i σ H' _ ⟨_, _, _, e, _⟩ => sq_of (e _ _ hs)) ?_ ?_
    · rintro i v σ H' hi ⟨v4, kvs, rfl, e, hf, hk, hv⟩
      have hil : i < l.length := by
        rw [← lv]
        exact (List.getElem?_eq_some_iff.mp hi).1
      have hli := List.getElem?_eq_getElem hil
      generalize l[i] = x at hli
      rw [gm hi, getD_of hli]
      refine ⟨_, rfl, _, rfl, fo, _, rfl, DPut.k (k := Sum.inl (x : Int)) hf (Nat.lt_of_le_of_lt hk (by show i < 16777216; omega)), ?_⟩
      refine ⟨_, putK kvs (Sum.inl (x : Int)) (.bl true), rfl, Ex.mut e hfo, upd_same, ?_, fun j => ?_⟩
      · unfold putK
        split
        · rw [List.length_map]; omega
        · rw [List.length_append]; show _ + 1 ≤ _; omega
      · rw [valV_put, take_snoc' hli, List.contains_eq_any_beq, List.any_append, ← List.contains_eq_any_beq, ← hv j]
        by_cases ej : j = x
        · subst ej
          rw [if_pos rfl]
          simp
        · rw [if_neg (fun z => ej (by injection z with z; omega))]
          simp [ej]
    · rintro σ H' ⟨v4, kvs, rfl, e, hf, hk, hv⟩
      rw [lv, List.take_length] at hv
      refine q_setL (e _ _ S.bk) ev_v (S_breaks T (S.ex e) ev_v) ev_wn (wn_lt r) fun H4 e4 => ?_
      refine s_retV ev_c fun H5 e5 => ?_
      have bt : But A.bk H H5 := ((But.of (e.trans e4)).trans But.upd).trans (.of e5)
      have nf : fo ≠ A.bk := fun z => by
        have := S.bk
        rw [← z, hfo] at this
        cases this
      refine k H5 _ (S.setBrk bt (e5 _ _ upd_same) ⟨kvs, ⟨e5 _ _ (by rw [upd_ne nf]; exact e4 _ _ hf), S.fresh hfo⟩, hv⟩ gd) ⟨fun b o e hm => ⟨bt b o e fun z => hm (z ▸ own_bk A st), ?_⟩, by cases r <;> rfl⟩
      cases r <;> exact hm
/-! ### set_size -/
theorem SetAt.setSize {H H' : Hp} {st : Addr} {A : Ads} {s : Si32.St} (S : SetAt CS CA H st A s) {r : Bool} {a b n : Nat} (k : ∀ c o, H c = some o → c ≠ A.sz r → c ≠ A.tl → H' c = some o) (hsz : H' (A.sz r) = some (.lst ((List.range (mostOf r)).map fun i => nV (sizeTo (s.way r) a (b + 1) n i))))
    (htl : H' A.tl = some (.lst ([nV s.rows.told.length, nV s.cols.told.length].set (wn r) (nV ((s.way r).told.length + 1)))))
    (good : Good (s.with r { s.way r with told := (a, b, n) :: (s.way r).told })) : SetAt CS CA H' st A (s.with r { s.way r with told := (a, b, n) :: (s.way r).told }) := by
  have kp : Kp (A.mut st) H H' := fun c o e hc => k c o e (fun z => hc (by rw [z]; cases r; exact mem_sc A st; exact mem_sr A st)) (fun z => hc (by rw [z]; exact mem_tl A st))
  have ap := S.apart
  obtain ⟨dx, hi⟩ := S.ins
  cases r
  · have hsz : H' A.sc = some (.lst (sizesV ({ s.cols with told := (a, b, n) :: s.cols.told } : Si32.Way) 256)) := by
      refine (show H' A.sc = _ from hsz).trans ?_
      refine congrArg (fun z => some (HO.lst z)) ?_
      refine List.map_congr_left fun i _ => ?_
      exact congrArg nV (size_told s.cols a b n i).symm
    exact { good := good, nd := S.nd, ins := ⟨dx, k _ _ hi ap.st_sc ap.st_tl⟩, sl := S.sl.mv kp, sr := k _ _ S.sr ap.sr_sc ap.sr_tl, sc := hsz, tl := htl, pl := S.pl.mv kp, al := S.al.mv kp, bl := S.bl.mv kp, ti := k _ _ S.ti ap.sc_ti.symm ap.tl_ti.symm, t0 := S.t0.mv kp, t1 := S.t1.mv kp,
            bk := k _ _ S.bk ap.sc_bk.symm ap.tl_bk.symm, b0 := S.b0.mv kp, b1 := S.b1.mv kp, mi := S.mi.mv kp, ar := AreasAt.mv S.ar kp, fi := S.fi.mv kp, fit := S.fit, hd := TextAt.mv S.hd kp, ft := TextAt.mv S.ft kp, exs := fun b hb => by
              obtain ⟨xs, h⟩ := S.exs b hb
              exact ⟨xs, k _ _ h (S.off hb (own_sc A st)) (S.off hb (own_tl A st))⟩ }
  · have hsz : H' A.sr = some (.lst (sizesV ({ s.rows with told := (a, b, n) :: s.rows.told } : Si32.Way) 4096)) := by
      refine (show H' A.sr = _ from hsz).trans ?_
      refine congrArg (fun z => some (HO.lst z)) ?_
      refine List.map_congr_left fun i _ => ?_
      exact congrArg nV (size_told s.rows a b n i).symm
    exact { good := good, nd := S.nd, ins := ⟨dx, k _ _ hi ap.st_sr ap.st_tl⟩, sl := S.sl.mv kp, sr := hsz, sc := k _ _ S.sc ap.sr_sc.symm ap.sc_tl, tl := htl, pl := S.pl.mv kp, al := S.al.mv kp, bl := S.bl.mv kp, ti := k _ _ S.ti ap.sr_ti.symm ap.tl_ti.symm, t0 := S.t0.mv kp, t1 := S.t1.mv kp,
            bk := k _ _ S.bk ap.sr_bk.symm ap.tl_bk.symm, b0 := S.b0.mv kp, b1 := S.b1.mv kp, mi := S.mi.mv kp, ar := AreasAt.mv S.ar kp, fi := S.fi.mv kp, fit := S.fit, hd := TextAt.mv S.hd kp, ft := TextAt.mv S.ft kp, exs := fun b hb => by
              obtain ⟨xs, h⟩ := S.exs b hb
              exact ⟨xs, k _ _ h (S.off hb (own_sr A st)) (S.off hb (own_tl A st))⟩ }
abbrev sSize : Stmt := top 20
def spSize (CS CA : Addr) : Sp := fun vs H Q _ => ∃ st A s r, ∃ a b n : Nat, vs = [.ref st, .int (wi r), nV a, nV b, nV n] ∧ SetAt CS CA H st A s ∧ MutR CS CA st A (Si32.step s (.size r a b n)).1 (Si32.step s (.size r a b n)).2.v H Q
theorem sc_size : FnScope ["settings", "way", "first", "last", "n", "place"] ["settings", "way", "first", "last", "n"] (defScope sSize) := ⟨rfl, rfl, rfl, by decide +kernel, rfl, by decide +kernel, by decide +kernel⟩
theorem d_size (T : Txt K mg CA CS CL CP CD aM aF aW aL aP aN) (F0 : Src K mg "set_size" sSize ["settings", "way", "first", "last", "n"]) (D1 : Def P w K mg base 1 "is_span" ["way", "first", "last"] spSpan) :
    Def P w K mg base 2 "set_size" ["settings", "way", "first", "last", "n"] (spSize CS CA) := by
  refine .mk F0 fun f fd F => F.ok sc_size (fun vs H Q E h => ?_) (fun cdv A outer s H vs Q E hr h => ?_)
  · obtain ⟨_, _, _, _, _, _, _, rfl, _⟩ := h
    rfl
  · obtain ⟨st, A, s, r, a, b, n, rfl, S, k⟩ := h
    refine ⟨_, pss_cons (ps_if (PW.pt (pw_or (pt_not (pt_val (pe_def D1 hr rfl (pa_cons (pv 1) (pa_cons (pv 2) (pa_cons (pv 3) pa_nil)))))) (pw_or1 (pt_cmpR op_gt (pv 4) (pe_k rfl T.k_MOST_SIZE) (nomark _))))) (pss_one (ps_ret (pe_k rfl T.k_OUT_OF_RANGE))) pss_nil)
      (pss_cons (ps_if (pt_cmpR op_eq (pe_ix ix_list (pe_fld (pv 0) rfl) (pv 1) (fun _ _ => rfl)) (pe_k rfl T.k_MOST_SIZES) (nomark _)) (pss_one (ps_ret (pe_k rfl T.k_TOO_MANY))) pss_nil)
      (pss_cons (ps_for PassesOwn.never rfl (pi_range2 rfl T.b_range (pa_cons (pv 2) (pa_cons (pe_op op_add (pv 3) pe_int) pa_nil))) (pg_name (i := 5) sc_size.nd rfl (.inl rfl))
        (pss_one (ps_asg (pv 4) (pg_sub (pe_ix ix_list (pe_fld (pv 0) rfl) (pv 1) (fun _ _ => rfl)) (pv 5) set_list))))
      (pss_cons (ps_asg (pe_op op_add (pe_ix ix_list (pe_fld (pv 0) rfl) (pv 1) (fun _ _ => rfl)) pe_int) (pg_sub (pe_fld (pv 0) rfl) (pv 1) set_list))
      (pss_one (ps_ret (pe_ix ix_list (pe_fld (pv 0) rfl) (pv 1) (fun _ _ => rfl))))))), ?_⟩
    have gd := S.good.step (.size r a b n)
    have wok := S.good.way r
    have most := mostOf_le r
    refine q_when (et_or (b := decide ((10000 : Int) < (n : Int))) (et_not (et_B (ev_callS (ea_cons ev_v (ea2 ev_v ev_v)) fun H1 e Q q => ⟨r, a, b, rfl, q⟩))) (fun _ => et_test (ev_i ev_v ev_c))) (fun c H1 e1 => ?_) (fun c H1 e1 => ?_)
    · rw [Bool.or_eq_true, Bool.not_eq_true', decide_eq_false_iff_not, decide_eq_true_iff, ← wok.most] at c
      have es : Si32.step s (.size r a b n) = (s, Si32.ok (-1)) := if_pos (by omega)
      rw [es] at k
      exact s_retV ev_c (RetV.mono (k.same S) e1)
    rw [Bool.or_eq_false_iff, Bool.not_eq_false', decide_eq_true_iff, decide_eq_false_iff_not] at c
    have hb : ¬ (b < a ∨ (s.way r).most ≤ b ∨ 10000 < n) := by
      rw [wok.most]
      omega
    refine q_when (et_test (ev_op (S_told2 T (S.ex e1) ev_v ev_v) ev_c (rv_eq rfl))) (fun c2 H2 e2 => ?_) (fun c2 H2 e2 => ?_)
    · rw [decV, decide_eq_true_iff] at c2
      have es : Si32.step s (.size r a b n) = (s, Si32.ok (-5)) := by
        show (if b < a ∨ (s.way r).most ≤ b ∨ 10000 < n then _ else if 200 ≤ (s.way r).told.length then _ else _) = _
        rw [if_neg hb, if_pos (by omega)]
      rw [es] at k
      exact s_retV ev_c (RetV.mono (k.same S) (e1.trans e2))
    rw [decV, decide_eq_false_iff_not] at c2
    have wt := wok.told
    have es : Si32.step s (.size r a b n) = (s.with r { s.way r with told := (a, b, n) :: (s.way r).told }, Si32.ok (((s.way r).told.length : Int) + 1)) := by
      show (if b < a ∨ (s.way r).most ≤ b ∨ 10000 < n then _ else if 200 ≤ (s.way r).told.length then _ else _) = _
      rw [if_neg hb, if_neg (by omega)]
    rw [es] at k gd
    have e12 := e1.trans e2
    have ap := S.apart
    obtain ⟨dx, hi⟩ := S.ins
    have szm : A.sz r ∈ A.mut st := by cases r; exact mem_sc A st; exact mem_sr A st
    have szo : A.sz r ∈ A.own st := by cases r; exact own_sc A st; exact own_sr A st
    have n1 : st ≠ A.sz r := by cases r; exact ap.st_sc; exact ap.st_sr
    have n2 : A.sl ≠ A.sz r := fun z => S.sl.2 (by rw [z]; exact szm)
    have n3 : A.tl ≠ A.sz r := by cases r; exact ap.sc_tl.symm; exact ap.sr_tl.symm
    have fld : ∀ {H' : Hp} {σ : L2.St}, H' st = some (.ins CS dx (fsS A s)) → σ[0]? = some (some (.ref st)) → Ev (tFld K (tVar 0) "sizes") σ H' (.ref A.sl) := fun h h0 => ev_fld (ev_var h0) h T.clS T.nS_sizes rfl
    refine q_forR2 (lo := (a : Int)) (n := (b : Int) + 1) (ea2 ev_v (ev_i ev_v ev_c)) (by omega)
      (fun t σ H' => ∃ v5, σ = [some (.ref st), some (.int (wi r)), some (nV a), some (nV b), some (nV n), v5] ∧ But (A.sz r) H H' ∧ H' (A.sz r) = some (.lst ((List.range (mostOf r)).map fun i => nV (sizeTo (s.way r) a (a + t) n i))))
      (fun H3 e3 => ⟨none, rfl, .of (e12.trans e3), (e12.trans e3) _ _ (by
        rw [size_at S r]
        refine congrArg (fun z => some (HO.lst z)) ?_
        refine List.map_congr_left fun i _ => congrArg nV ?_
        unfold sizeTo
        rw [if_neg (by omega)])⟩) ?_ ?_
    · rintro t σ H' ht ⟨v5, rfl, bt, hsz⟩
      have et : (a : Int) + (t : Int) = ((a + t : Nat) : Int) := by omega
      rw [et]
      refine s_setL (j := a + t) hsz ev_v (ev_is (ev_two (fld (bt _ _ hi n1) rfl) ev_v (bt _ _ S.sl.1 n2)) (by cases r <;> rfl)) ev_v (by rw [List.length_map, List.length_range]; omega) fun H3 e3 => ?_
      refine ⟨_, rfl, (bt.trans (.of e3)).trans But.upd, ?_⟩
      rw [upd_same, sizesV_set _ _ _ _ (by omega)]
      refine congrArg (fun z => some (HO.lst z)) ?_
      refine List.map_congr_left fun i _ => congrArg nV ?_
      unfold sizeTo
      by_cases h1 : i = a + t
      · rw [if_pos h1, if_pos (by omega)]
      · rw [if_neg h1]
        by_cases h2 : a ≤ i ∧ i < a + t
        · rw [if_pos h2, if_pos (by omega)]
        · rw [if_neg h2, if_neg (by omega)]
    · rintro σ H' ⟨v5, rfl, bt, hsz⟩
      have eb : a + ((b : Int) + 1 - (a : Int)).toNat = b + 1 := by omega
      rw [eb] at hsz
      have hi' := bt _ _ hi n1
      have htl := bt _ _ S.tl n3
      have tf : ∀ {H3 : Hp} {σ : L2.St}, H3 st = some (.ins CS dx (fsS A s)) → σ[0]? = some (some (.ref st)) → Ev (tFld K (tVar 0) "told") σ H3 (.ref A.tl) := fun h h0 => ev_fld (ev_var h0) h T.clS T.nS_told rfl
      refine q_setL (v := nV ((s.way r).told.length + 1)) htl (ev_is (ev_i (ev_is (w := nV (s.way r).told.length) (ev_two (tf hi' rfl) ev_v htl) (by cases r <;> rfl)) ev_c) rfl) (tf hi' rfl) ev_wn (wn_lt r) fun H3 e3 => ?_
      have bt3 : ∀ c o, H c = some o → c ≠ A.sz r → c ≠ A.tl → (upd H3 A.tl (.lst ([nV s.rows.told.length, nV s.cols.told.length].set (wn r) (nV ((s.way r).told.length + 1))))) c = some o := fun c o hc h1 h2 => by
        rw [upd_ne h2]
        exact e3 _ _ (bt c o hc h1)
      refine s_retV (v := .int (((s.way r).told.length : Int) + 1)) (ev_is (ev_ixL (tf (bt3 _ _ hi n1 ap.st_tl) rfl) ev_v (sq_of upd_same) (v := nV ((s.way r).told.length + 1)) (by cases r <;> rfl)) rfl) fun H4 e4 => ?_
      refine k H4 A (S.setSize (fun c o hc h1 h2 => e4 _ _ (bt3 c o hc h1 h2)) (e4 _ _ ?_) (e4 _ _ upd_same) gd) ⟨fun c o hc hm => ⟨e4 _ _ (bt3 c o hc (fun z => hm (z ▸ szo)) (fun z => hm (z ▸ own_tl A st))), hm⟩, rfl⟩
      rw [upd_ne n3.symm]
      exact e3 _ _ hsz
end
end Sh
namespace Sh
open PySem PySem.Spec PyProof.Rows L2 Evl
def DctB : PB := fun H0 p H => H0 p = none ∧ H p = some (.dK [])
theorem DctB.anti : Anti DctB := fun _ _ _ _ e h => ⟨fresh_back e h.1, h.2⟩
theorem DctB.firm : Firm DctB := fun _ _ _ _ e h => ⟨h.1, e _ _ h.1 h.2⟩
section
variable {K : PySem.W.Frag} {σ : L2.St} {H : Hp} {ta tb te : TE} {D : Ends} {tz : TS} {P0 P1 : PB}
theorem eb_dct : EvB tDNewK σ H DctB := fun H1 e Q q => fun p hp => q p _ (Ex.new hp) ⟨hp, upd_same⟩
theorem eb_lst2 (a0 : Anti P0) (a1 : Anti P1) (f0 : Firm P0) (f1 : Firm P1) (h0 : EvB ta σ H P0) (h1 : EvB tb σ H P1) : EvB (tLst (tCons ta (tCons tb tNil))) σ H (TwoB P0 P1) := fun H1 e Q q => by
  show ta σ H1 _
  exact h0 H1 e _ fun p0 H2 e2 hp0 => h1 H2 (e.trans e2) _ fun p1 H3 e3 hp1 => ⟨by show 2 ≤ sizeLine; decide, fun p hp => q p _ ((e2.trans e3).trans (Ex.new hp)) ⟨fresh_back (e2.trans e3) hp, p0, p1, upd_same, f0 _ _ _ _ (.of (e3.trans (Ex.new hp))) hp0, a1 _ _ _ _ e2 (f1 _ _ _ _ (.of (Ex.new hp)) hp1)⟩⟩
theorem eb_rep {x : V} {k : Nat} (ha : EvB ta σ H (LstB [x])) (hb : Ev tb σ H (nV k)) (hk : k ≤ 100000) : EvB (tOp rRep ta tb) σ H (LstB (List.replicate k x)) := fun H1 e Q q =>
  ha H1 e _ fun p H2 e2 hp => hb H2 (e.trans e2) _ fun H3 e3 => ⟨p, (k : Int), [x], rfl, rfl, e3 _ _ hp.2, by omega, by omega, by
    show 1 * ((k : Int)).toNat ≤ 16777216
    omega, fun r hr => by
    rw [Int.toNat_natCast, List.flatten_replicate_singleton]
    exact q r _ ((e2.trans e3).trans (Ex.new hr)) ⟨fresh_back (e2.trans e3) hr, upd_same⟩⟩
end
theorem sizes_init (w : Si32.Way) (hw : w.told = []) (n : Nat) : sizesV w n = List.replicate n (nV w.usual) := by
  have h : ∀ i, w.size i = w.usual := fun i => by
    unfold Si32.Way.size
    rw [hw]
    rfl
  unfold sizesV
  rw [List.map_congr_left (g := fun _ => nV w.usual) fun i _ => congrArg nV (h i), List.map_const', List.length_range]
theorem pick_no {L : List Addr} (h : L.Nodup) {n : Nat} (hn : L.length = n := by rfl) {i : Nat} {js : List Nat} (hi : i < n) (hj : ∀ j ∈ js, j ≠ i ∧ j < n) : L.getD i 0 ∉ js.map fun j => L.getD j 0 := fun hm => by
  obtain ⟨j, hjm, e⟩ := List.mem_map.mp hm
  obtain ⟨h1, h2⟩ := hj j hjm
  subst hn
  rw [List.getD_eq_getElem?_getD, List.getD_eq_getElem?_getD, List.getElem?_eq_getElem hi, List.getElem?_eq_getElem h2] at e
  have hp := List.pairwise_iff_getElem.mp h
  rcases Nat.lt_or_gt_of_ne h1 with c | c
  · exact hp j i h2 hi c e
  · exact hp i j hi h2 c e.symm
/-- places that stand -/
def Tr (L : List Addr) (H : Hp) : Prop := ∀ q ∈ L, ∃ u, H q = some u
theorem Tr.nil {H : Hp} : Tr [] H := fun q h => nomatch h
theorem Tr.cons {L : List Addr} {H : Hp} {p : Addr} {u : HO} (hp : H p = some u) (h : Tr L H) : Tr (p :: L) H := fun q hq => by
  cases hq with
  | head => exact ⟨u, hp⟩
  | tail _ hq => exact h q hq
theorem Tr.ex {L : List Addr} {H H' : Hp} (h : Tr L H) (e : Ex H H') : Tr L H' := fun q hq => by
  obtain ⟨u, hu⟩ := h q hq
  exact ⟨u, e _ _ hu⟩
theorem Tr.upd {L : List Addr} {H : Hp} {x : Addr} {o : HO} (h : Tr L H) : Tr L (upd H x o) := fun q hq => by
  by_cases c : q = x
  · subst c
    exact ⟨o, upd_same⟩
  · rw [upd_ne c]
    exact h q hq
theorem Tr.no {L : List Addr} {H : Hp} {x p : Addr} {o : HO} (h : Tr L H) (hp : L2.upd H x o p = none) : p ∉ L := fun hm => by
  obtain ⟨u, hu⟩ := h.upd (x := x) (o := o) p hm
  rw [hp] at hu
  cases hu
theorem Tr.next {L : List Addr} {H H' : Hp} {x p : Addr} {o u : HO} (h : Tr L H) (n : L.Nodup) (hp : L2.upd H x o p = none) (e : Ex (L2.upd H x o) H') (hu : H' p = some u) : (p :: L).Nodup ∧ Tr (p :: L) H' := ⟨List.nodup_cons.mpr ⟨h.no hp, n⟩, .cons hu (h.upd.ex e)⟩
section
variable {P : Program} {w : World} {K : PySem.W.Frag} {mg : Str → Option Value} {base : Heap} {CA CS CL CP CD aM aF aW aL aP aN : Addr}
/-! ### Settings -/
abbrev sSetI : Stmt := inClass (top 16) 0
def spSetI (CS CA : Addr) : Sp := fun vs H Q _ => ∃ x dx ex, vs = [.ref x] ∧ H x = some (.ins CS dx []) ∧ ex.Nodup ∧ (∀ b ∈ ex, ∃ xs, H b = some (.lst xs)) ∧
  ∀ H3 A, A.ex = ex → (∀ b o, H b = some o → b ≠ x → H3 b = some o) → SetAt CS CA H3 x A Si32.init → (∀ m ∈ A.own x, m ≠ x → H m = none) → Q .non H3
theorem sc_setI : FnScope ["self", "way"] ["self"] (defScope sSetI) := ⟨rfl, rfl, rfl, by decide +kernel, rfl, by decide +kernel, by decide +kernel⟩
theorem ok_setI {f : Addr} {fd : FuncData} (T : Txt K mg CA CS CL CP CD aM aF aW aL aP aN) (F : Fun K "__init__" "Settings.__init__" sSetI f fd) : FnOk P w K mg base CX0 1 f fd ["self"] (spSetI CS CA) := by
  refine F.ok sc_setI (fun vs H Q E h => ?_) (fun cdv A outer s H vs Q E hr h => ?_)
  · obtain ⟨_, _, _, rfl, _⟩ := h
    rfl
  · obtain ⟨x, dx, ex, rfl, hx, nex, hex, k⟩ := h
    refine ⟨_, pss_cons (ps_fld (pv 0) (pe_lc (own := [("way", 1)]) (g := gName 1) (tt := tYes) (te := tOp rRep (tLst (tCons (tOp (rIxT K) (tC (.ref aF)) (tVar 1)) tNil)) (tOp (rIxT K) (tC (.ref aM)) (tVar 1))) rfl sc_setI.nd (pi_range1 rfl T.b_range (pa_cons pe_int pa_nil))
        (blkOk_by (own := [("way", 1)]) (N := ["self", "way"]) (sc := defScope sSetI) (by decide +kernel)) (fun _ _ _ _ _ => pg_name (i := 1) sc_setI.nd rfl (Or.inl rfl)) (fun _ _ _ _ _ => pts_nil)
        (fun _ _ _ _ _ => by exact pe_op op_rep (pe_lst (pa_cons (pe_ix ix_tup (pe_kr rfl T.firsts) (pv 1) (fun _ _ => rfl)) pa_nil)) (pe_ix ix_tup (pe_kr rfl T.many) (pv 1) (fun _ _ => rfl)))) rfl)
      (pss_cons (ps_fld (pv 0) (pe_lst (pa_cons pe_int (pa_cons pe_int pa_nil))) rfl)
      (pss_cons (ps_fld (pv 0) (pe_lst (pa_cons pe_int (pa_cons pe_int pa_nil))) rfl)
      (pss_cons (ps_fld (pv 0) (pe_lst (pa_cons pe_int (pa_cons pe_int pa_nil))) rfl)
      (pss_cons (ps_fld (pv 0) (pe_lst (pa_cons pe_int (pa_cons pe_int pa_nil))) rfl)
      (pss_cons (ps_fld (pv 0) (pe_lst (pa_cons pe_non (pa_cons pe_non pa_nil))) rfl)
      (pss_cons (ps_fld (pv 0) (pe_lst (pa_cons pe_dnewK (pa_cons pe_dnewK pa_nil))) rfl)
      (pss_cons (ps_fld (pv 0) (pe_lst (pa_cons pe_int (pa_cons pe_int pa_nil))) rfl)
      (pss_cons (ps_fld (pv 0) (pe_lst pa_nil) rfl)
      (pss_cons (ps_fld (pv 0) (pe_k rfl T.k_FIRST_SCALE) rfl)
      (pss_cons (ps_fld (pv 0) (pe_lst (pa_cons pe_int (pa_cons pe_int pa_nil))) rfl)
      (pss_cons (ps_fld (pv 0) pe_int rfl)
      (pss_cons (ps_fld (pv 0) pe_int rfl)
      (pss_cons (ps_fld (pv 0) (pe_lst pa_nil) rfl)
      (pss_one (ps_fld (pv 0) (pe_lst pa_nil) rfl))))))))))))))), ?_⟩
    refine q_fldB (P := TwoB (LstB (List.replicate 4096 (nV 20))) (LstB (List.replicate 256 (nV 64)))) (TwoB.firm (LstB.firm _) (LstB.firm _)) (eb_two (P := fun r => LstB (List.replicate (mostOf r) (nV (if r then 20 else 64)))) (fun r => LstB.anti _) (fun r => LstB.firm _) (fun _ => rfl) fun r H1 e => ?_) ev_v hx T.clS T.nS_sizes (by show 0 < 1000; decide) fun p1 H1 e1 ⟨n1, sr, sc, h1, ⟨nsr, hsr⟩, ⟨nsc, hsc⟩⟩ => ?_
    · refine eb_rep (eb_lst (ea1 (ev_is (w := nV (if r then 20 else 64)) (ev_twoT ev_c ev_v (T.firsts_ _)) (by cases r <;> rfl))) (by show 1 ≤ 100000; decide)) (ev_is (ev_twoT ev_c ev_v (T.many_ _)) (by cases r <;> rfl)) ?_
      have := mostOf_le r
      omega
    have b1 : But x H (upd H1 x (.ins CS dx [("sizes", .ref p1)])) := (But.of e1).trans But.upd
    refine q_fldB (LstB.firm _) (eb_lst (vs := [nV 0, nV 0]) (ea2 ev_c ev_c) (by show 2 ≤ 100000; decide)) ev_v upd_same T.clS T.nS_told (by show 1 < 1000; decide) fun p2 H2 e2 ⟨n2, h2⟩ => ?_
    refine q_fldB (LstB.firm _) (eb_lst (vs := [nV 842, nV 595]) (ea2 ev_c ev_c) (by show 2 ≤ 100000; decide)) ev_v upd_same T.clS T.nS_paper (by show 2 < 1000; decide) fun p3 H3 e3 ⟨n3, h3⟩ => ?_
    refine q_fldB (LstB.firm _) (eb_lst (vs := [nV 50, nV 50]) (ea2 ev_c ev_c) (by show 2 ≤ 100000; decide)) ev_v upd_same T.clS T.nS_ahead (by show 3 < 1000; decide) fun p4 H4 e4 ⟨n4, h4⟩ => ?_
    refine q_fldB (LstB.firm _) (eb_lst (vs := [nV 50, nV 50]) (ea2 ev_c ev_c) (by show 2 ≤ 100000; decide)) ev_v upd_same T.clS T.nS_behind (by show 4 < 1000; decide) fun p5 H5 e5 ⟨n5, h5⟩ => ?_
    refine q_fldB (LstB.firm _) (eb_lst (vs := [.non, .non]) (ea2 ev_c ev_c) (by show 2 ≤ 100000; decide)) ev_v upd_same T.clS T.nS_titles (by show 5 < 1000; decide) fun p6 H6 e6 ⟨n6, h6⟩ => ?_
    refine q_fldB (TwoB.firm DctB.firm DctB.firm) (eb_lst2 DctB.anti DctB.anti DctB.firm DctB.firm eb_dct eb_dct) ev_v upd_same T.clS T.nS_breaks (by show 6 < 1000; decide) fun p7 H7 e7 ⟨n7, d0, d1, h7, ⟨nd0, hd0⟩, ⟨nd1, hd1⟩⟩ => ?_
    refine q_fldB (LstB.firm _) (eb_lst (vs := [nV 0, nV 0]) (ea2 ev_c ev_c) (by show 2 ≤ 100000; decide)) ev_v upd_same T.clS T.nS_middle (by show 7 < 1000; decide) fun p8 H8 e8 ⟨n8, h8⟩ => ?_
    refine q_fldB (LstB.firm _) (eb_lst (vs := []) ea_nil (by decide)) ev_v upd_same T.clS T.nS_areas (by show 8 < 1000; decide) fun p9 H9 e9 ⟨n9, h9⟩ => ?_
    refine q_fld ev_c ev_v upd_same T.clS T.nS_scale (by show 9 < 1000; decide) fun Ha ea => ?_
    refine q_fldB (LstB.firm _) (eb_lst (vs := [nV 0, nV 0]) (ea2 ev_c ev_c) (by show 2 ≤ 100000; decide)) ev_v upd_same T.clS T.nS_fit (by show 10 < 1000; decide) fun pb Hb eb ⟨nb, hb⟩ => ?_
    refine q_fld ev_c ev_v upd_same T.clS T.nS_over (by show 11 < 1000; decide) fun Hc ec => ?_
    refine q_fld ev_c ev_v upd_same T.clS T.nS_first (by show 12 < 1000; decide) fun Hd ed => ?_
    refine q_fldB (LstB.firm _) (eb_lst (vs := []) ea_nil (by decide)) ev_v upd_same T.clS T.nS_head (by show 13 < 1000; decide) fun pe He ee ⟨ne, he⟩ => ?_
    refine s_fldB (LstB.firm _) (eb_lst (vs := []) ea_nil (by decide)) ev_v upd_same T.clS T.nS_foot (by show 14 < 1000; decide) fun pf Hf ef ⟨nf, hf⟩ => ?_
    -- what stands between the places and the end
    have tf : ∀ {o}, But x Hf (upd Hf x o) := But.upd
    have te : ∀ {o}, But x He (upd Hf x o) := (But.upd.trans (.of ef)).trans tf
    have td : ∀ {o}, But x Hd (upd Hf x o) := (But.upd.trans (.of ee)).trans te
    have tc : ∀ {o}, But x Hc (upd Hf x o) := (But.upd.trans (.of ed)).trans td
    have tb : ∀ {o}, But x Hb (upd Hf x o) := (But.upd.trans (.of ec)).trans tc
    have ta : ∀ {o}, But x Ha (upd Hf x o) := (But.upd.trans (.of eb)).trans tb
    have t9 : ∀ {o}, But x H9 (upd Hf x o) := (But.upd.trans (.of ea)).trans ta
    have t8 : ∀ {o}, But x H8 (upd Hf x o) := (But.upd.trans (.of e9)).trans t9
    have t7 : ∀ {o}, But x H7 (upd Hf x o) := (But.upd.trans (.of e8)).trans t8
    have t6 : ∀ {o}, But x H6 (upd Hf x o) := (But.upd.trans (.of e7)).trans t7
    have t5 : ∀ {o}, But x H5 (upd Hf x o) := (But.upd.trans (.of e6)).trans t6
    have t4 : ∀ {o}, But x H4 (upd Hf x o) := (But.upd.trans (.of e5)).trans t5
    have t3 : ∀ {o}, But x H3 (upd Hf x o) := (But.upd.trans (.of e4)).trans t4
    have t2 : ∀ {o}, But x H2 (upd Hf x o) := (But.upd.trans (.of e3)).trans t3
    have t1 : ∀ {o}, But x H1 (upd Hf x o) := (But.upd.trans (.of e2)).trans t2
    have t0 : ∀ {o}, But x H (upd Hf x o) := (But.of e1).trans t1
    -- new from the start
    have back : ∀ {Hk : Hp} {o p}, But x H Hk → (upd Hk x o) p = none → H p = none := fun b h => (b.trans But.upd).fresh upd_same h
    have c1 : But x H H1 := .of e1
    have c2 : But x H H2 := (c1.trans But.upd).trans (.of e2)
    have c3 : But x H H3 := (c2.trans But.upd).trans (.of e3)
    have c4 : But x H H4 := (c3.trans But.upd).trans (.of e4)
    have c5 : But x H H5 := (c4.trans But.upd).trans (.of e5)
    have c6 : But x H H6 := (c5.trans But.upd).trans (.of e6)
    have c7 : But x H H7 := (c6.trans But.upd).trans (.of e7)
    have c8 : But x H H8 := (c7.trans But.upd).trans (.of e8)
    have c9 : But x H H9 := (c8.trans But.upd).trans (.of e9)
    have ca : But x H Ha := (c9.trans But.upd).trans (.of ea)
    have cb : But x H Hb := (ca.trans But.upd).trans (.of eb)
    have cc : But x H Hc := (cb.trans But.upd).trans (.of ec)
    have cd : But x H Hd := (cc.trans But.upd).trans (.of ed)
    have ce : But x H He := (cd.trans But.upd).trans (.of ee)
    have m2 := back c1 n2
    have m3 := back c2 n3
    have m4 := back c3 n4
    have m5 := back c4 n5
    have m6 := back c5 n6
    have m7 := back c6 n7
    have md0 := back c6 nd0
    have md1 := back c6 nd1
    have m8 := back c7 n8
    have m9 := back c8 n9
    have mb := back ca nb
    have me := back cd ne
    have mf := back ce nf
    have nx : ∀ {p : Addr}, H p = none → p ≠ x := fun h z => by
      rw [z, hx] at h
      cases h
    -- the changing ones stand apart, and from all else
    have ne12 : ∀ {p q : Addr} {xs ys : List V}, H1 p = some (.lst xs) → H1 q = some (.lst ys) → xs.length ≠ ys.length → p ≠ q := fun hp hq hl z => by
      subst z
      rw [hp] at hq
      injection Option.some.inj hq with h
      exact hl (congrArg List.length h)
    have l1 : Tr [sr, sc, p1, x] H1 := .cons hsr (.cons hsc (.cons h1 (.cons (u := .ins CS dx []) (by exact e1 _ _ hx) .nil)))
    have nL1 : [sr, sc, p1, x].Nodup := by
      have a1 : sr ≠ sc := ne12 hsr hsc (by rw [List.length_replicate, List.length_replicate]; decide)
      have a2 : sr ≠ p1 := ne12 hsr h1 (by rw [List.length_replicate]; show 4096 ≠ 2; decide)
      have a3 : sc ≠ p1 := ne12 hsc h1 (by rw [List.length_replicate]; show 256 ≠ 2; decide)
      have a4 : sr ≠ x := nx nsr
      have a5 : sc ≠ x := nx nsc
      have a6 : p1 ≠ x := nx n1
      simp [a1, a2, a3, a4, a5, a6]
    obtain ⟨nL2, l2⟩ := l1.next nL1 n2 e2 h2
    obtain ⟨nL3, l3⟩ := l2.next nL2 n3 e3 h3
    obtain ⟨nL4, l4⟩ := l3.next nL3 n4 e4 h4
    obtain ⟨nL5, l5⟩ := l4.next nL4 n5 e5 h5
    obtain ⟨nL6, l6⟩ := l5.next nL5 n6 e6 h6
    have u0 := l6.no nd0
    have u1 := l6.no nd1
    obtain ⟨nL7, l7⟩ := l6.next nL6 n7 e7 h7
    have v0 : d0 ≠ p7 := fun z => by
      rw [z, h7] at hd0
      cases hd0
    have v1 : d1 ≠ p7 := fun z => by
      rw [z, h7] at hd1
      cases hd1
    obtain ⟨nL8, l8⟩ := l7.next nL7 n8 e8 h8
    obtain ⟨nL9, l9⟩ := l8.next nL8 n9 e9 h9
    obtain ⟨nLb, lb⟩ := (l9.upd.ex ea).next nL9 nb eb hb
    obtain ⟨nLe, le⟩ := ((lb.upd.ex ec).upd.ex ed).next nLb ne ee he
    obtain ⟨nLf, lf⟩ := le.next nLe nf ef hf
    have nm : ∀ (i : Nat) (js : List Nat), i < 15 → (∀ j ∈ js, j ≠ i ∧ j < 15) → ([pf, pe, pb, p9, p8, p7, p6, p5, p4, p3, p2, sr, sc, p1, x].getD i 0) ∉ js.map fun j => [pf, pe, pb, p9, p8, p7, p6, p5, p4, p3, p2, sr, sc, p1, x].getD j 0 := fun i js => pick_no nLf
    have nu : ∀ {d : Addr}, d ∉ [p6, p5, p4, p3, p2, sr, sc, p1, x] → d ≠ p7 → d ∉ [x, sr, sc, p2, p6, p7] := fun {d} h h7 hm => by
      rcases List.mem_cons.mp hm with e | hm
      · exact h (e ▸ by simp)
      rcases List.mem_cons.mp hm with e | hm
      · exact h (e ▸ by simp)
      rcases List.mem_cons.mp hm with e | hm
      · exact h (e ▸ by simp)
      rcases List.mem_cons.mp hm with e | hm
      · exact h (e ▸ by simp)
      rcases List.mem_cons.mp hm with e | hm
      · exact h (e ▸ by simp)
      · exact h7 (List.mem_singleton.mp hm)
    have ini : ∀ (w : Si32.Way), w.told = [] → ∀ n, sizesV w n = List.replicate n (nV w.usual) := sizes_init
    have J : ∀ (i : Nat), i ∈ [0, 1, 2, 3, 4, 7, 8, 9, 13] → ([pf, pe, pb, p9, p8, p7, p6, p5, p4, p3, p2, sr, sc, p1, x].getD i 0) ∉ [x, sr, sc, p2, p6, p7] := fun i hi => nm i [14, 11, 12, 10, 6, 5] (by revert hi; revert i; decide) (by revert hi; revert i; decide)
    have ndM : [x, sr, sc, p2, p6, p7].Nodup := List.nodup_cons.mpr ⟨nm 14 [11, 12, 10, 6, 5] (by decide) (by decide), List.nodup_cons.mpr ⟨nm 11 [12, 10, 6, 5] (by decide) (by decide), List.nodup_cons.mpr ⟨nm 12 [10, 6, 5] (by decide) (by decide), List.nodup_cons.mpr ⟨nm 10 [6, 5] (by decide) (by decide), List.nodup_cons.mpr ⟨nm 6 [5] (by decide) (by decide), List.nodup_cons.mpr ⟨List.not_mem_nil, List.nodup_nil⟩⟩⟩⟩⟩⟩
    have exn : ∀ {p : Addr}, H p = none → p ∉ ex := fun h hm => by
      obtain ⟨xs, hb⟩ := hex _ hm
      rw [h] at hb
      cases hb
    have exx : x ∉ ex := fun hm => by
      obtain ⟨xs, hb⟩ := hex _ hm
      rw [hx] at hb
      cases hb
    have JX : ∀ {p : Addr}, p ∉ [x, sr, sc, p2, p6, p7] → H p = none → p ∉ [x, sr, sc, p2, p6, p7] ++ ex := fun h1 h2 hm => (List.mem_append.mp hm).elim h1 (exn h2)
    have ndX : ([x, sr, sc, p2, p6, p7] ++ ex).Nodup := List.nodup_append.mpr ⟨ndM, nex, fun a ha b hb z => by
      subst z
      simp only [List.mem_cons, List.not_mem_nil, or_false] at ha
      rcases ha with rfl | rfl | rfl | rfl | rfl | rfl
      · exact exx hb
      · exact exn nsr hb
      · exact exn nsc hb
      · exact exn m2 hb
      · exact exn m6 hb
      · exact exn m7 hb⟩
    have hexs : ∀ {o : HO}, ∀ b ∈ ex, ∃ xs, (upd Hf x o) b = some (.lst xs) := fun {o} b hb => by
      obtain ⟨xs, h⟩ := hex b hb
      exact ⟨xs, t0 _ _ h fun z => exx (z ▸ hb)⟩
    refine k _ ⟨p1, sr, sc, p2, p3, p4, p5, p6, p7, d0, d1, p8, p9, pb, pe, pf,   .non, .non, 0, 0, ex⟩ rfl (fun b o hb hbx => t0 _ _ hb hbx) { good := Good.init, nd := ndX, ins := ⟨dx, upd_same⟩, sl := ⟨t1 _ _ h1 (nx n1), JX (J 13 (by decide)) n1⟩, sr := ?_, sc := ?_, tl := t2 _ _ h2 (nx m2), pl := ⟨t3 _ _ h3 (nx m3), JX (J 9 (by decide)) m3⟩, al := ⟨t4 _ _ h4 (nx m4), JX (J 8 (by decide)) m4⟩, bl := ⟨t5 _ _ h5 (nx m5), JX (J 7 (by decide)) m5⟩, ti := t6 _ _ h6 (nx m6), t0 := rfl, t1 := rfl, bk := t7 _ _ h7 (nx m7), b0 := ⟨[], ⟨t7 _ _ hd0 (nx md0), JX (nu u0 v0) md0⟩, fun k => rfl⟩, b1 := ⟨[], ⟨t7 _ _ hd1 (nx md1), JX (nu u1 v1) md1⟩, fun k => rfl⟩, mi := ⟨t8 _ _ h8 (nx m8), JX (J 4 (by decide)) m8⟩, ar := RefsAt.nil (JX (J 3 (by decide)) m9) (t9 _ _ h9 (nx m9)), fi := ⟨tb _ _ hb (nx mb), JX (J 2 (by decide)) mb⟩, fit := (fun w h e => by cases e), hd := ⟨[], rfl, RefsAt.nil (JX (J 1 (by decide)) me) (te _ _ he (nx me))⟩, ft := ⟨[], rfl, RefsAt.nil (JX (J 0 (by decide)) mf) (tf _ _ hf (nx mf))⟩, exs := hexs } ?_
    · rw [ini _ rfl]
      exact t1 _ _ hsr (nx nsr)
    · rw [ini _ rfl]
      exact t1 _ _ hsc (nx nsc)
    · intro m hm hmx
      simp only [Ads.own, List.mem_cons, List.not_mem_nil, or_false] at hm
      rcases hm with rfl | rfl | rfl | rfl | rfl | rfl
      · exact absurd rfl hmx
      · exact nsr
      · exact nsc
      · exact m2
      · exact m6
      · exact m7
end
end Sh
namespace Sh
open PySem PySem.Spec PyProof.Rows L2 Evl
/-- all but a desk, or what is becoming one, stands -/
theorem Stay.upd {H : Hp} {x C dx : Addr} {fs : List (Str × V)} {o : HO} (h : H x = some (.ins C dx fs)) (d : DeskF fs) : Stay H (upd H x o) := fun b u hb n => by
  by_cases c : b = x
  · rw [c, h] at hb
    exact absurd d (n C dx fs (Option.some.inj hb).symm)
  · rw [upd_ne c]
    exact hb
theorem Stay.trans {H H1 H2 : Hp} (a : Stay H H1) (b : Stay H1 H2) : Stay H H2 := fun c o h n => b c o (a c o h n) n
section
variable {H0 H H' : Hp}
theorem BandsAt.stay {l : List Si32.Band} {p : Addr} (h : BandsAt H0 l p H) (e : Stay H H') : BandsAt H0 l p H' := RefsAt.imp h id (fun o _ q => by
    obtain ⟨_, qs, h1, _⟩ := h
    rw [q] at h1
    cases Option.some.inj h1
    exact e _ _ q noDesk_lst) fun q x _ h => ⟨h.1, e _ _ h.2 noDesk_tup⟩
theorem OwnAt.stay {x y : List Si32.Band} {p : Addr} (h : OwnAt H0 x y p H) (e : Stay H H') : OwnAt H0 x y p H' := by
  obtain ⟨f, p0, p1, h1, h2, h3⟩ := h
  exact ⟨f, p0, p1, e _ _ h1 noDesk_lst, h2.stay e, h3.stay e⟩
theorem AllAt.stay {s : Si32.St} {sc : Nat} {as : List Si32.Area} {p : Addr} (h : AllAt H0 s sc as p H) (e : Stay H H') : AllAt H0 s sc as p H' := RefsAt.imp h id (fun o _ q => by
    obtain ⟨_, qs, h1, _⟩ := h
    rw [q] at h1
    cases Option.some.inj h1
    exact e _ _ q noDesk_lst) fun q x _ h => h.stay e
theorem LayAt.stay {CL : Addr} {s : Si32.St} {p : Addr} (h : LayAt H0 CL s p H) (e : Stay H H') : LayAt H0 CL s p H' := by
  obtain ⟨f, dx, bl, h1, h2⟩ := h
  exact ⟨f, dx, bl, e _ _ h1 noDesk_lay, h2.stay e⟩
end
/-- only these stand -/
def exH (ex : List Addr) : Hp := fun b => if b ∈ ex then some (.lst []) else none
theorem exH_none {ex : List Addr} {b : Addr} (h : exH ex b = none) : b ∉ ex := fun hm => by
  unfold exH at h
  rw [if_pos hm] at h
  cases h
theorem exH_less {ex : List Addr} {H : Hp} (h : ∀ b ∈ ex, ∃ xs, H b = some (.lst xs)) : Less (exH ex) H := fun b hb => by
  unfold exH
  refine if_neg fun hm => ?_
  obtain ⟨xs, e⟩ := h b hm
  rw [hb] at e
  cases e
/-- settings that are made -/
def SetB (CS CA : Addr) (ex : List Addr) : PB := fun H0 p H => ∃ A, A.ex = ex ∧ SetAt CS CA H p A Si32.init ∧ ∀ m ∈ A.own p, H0 m = none
theorem SetB.anti (CS CA : Addr) (ex : List Addr) : Anti (SetB CS CA ex) := fun _ _ _ _ e ⟨A, hx, S, h⟩ => ⟨A, hx, S, fun m hm => fresh_back e (h m hm)⟩
def Keeps (P : PB) : Prop := ∀ H0 p H H', Ex H H' → P H0 p H → P H0 p H'
theorem SetB.keeps (CS CA : Addr) (ex : List Addr) : Keeps (SetB CS CA ex) := fun _ _ _ _ e ⟨A, hx, S, h⟩ => ⟨A, hx, S.ex e, h⟩
section
variable {K : PySem.W.Frag} {CS CA C : Addr} {σ : L2.St} {H : Hp} {ta tv : TE} {D : Ends} {tz : TS} {P : PB}
theorem q_fldE {a dx : Addr} {fs : List (Str × V)} {f : Str} (fi : Keeps P) (h : EvB tv σ H P) (ho : Ev ta σ H (.ref a)) (hi : H a = some (.ins C dx fs)) (hc : Cls K C) (hn : NoAttr K C f) (hl : fs.length < 1000) (k : ∀ p H1, Ex H H1 → P H p H1 → tz D σ (upd H1 a (.ins C dx (putF f (.ref p) fs)))) : tSeq (sFld K ta tv f) tz D σ H :=
  h H (Ex.refl H) _ fun p H1 e1 hp => ho H1 e1 _ fun H2 e2 => ⟨a, C, dx, fs, rfl, e2 _ _ (e1 _ _ hi), hc, hn, hl, k p H2 (e1.trans e2) (fi _ _ _ _ e2 hp)⟩
theorem eb_set {ex : List Addr} (nex : ex.Nodup) (hex : ∀ b ∈ ex, ∃ xs, H b = some (.lst xs)) : EvB (tMake CS (spSetI CS CA) [] E0 tNil) σ H (SetB CS CA ex) := eb_make (PA := NilA) eap_nil fun H1 vs H2 p dx e1 e2 hv hp hdx hne Q q => by
  have hv : vs = [] := hv
  subst hv
  have ex2 : Ex H2 (upd (upd H2 dx (.own p)) p (.ins CS dx [])) := (Ex.new hdx).trans (Ex.new (by rw [upd_ne hne.symm]; exact hp))
  refine ⟨p, dx, ex, rfl, upd_same, nex, fun b hb => ?_, fun H3 A hxx k3 S hm => ?_⟩
  · obtain ⟨xs, h⟩ := hex b hb
    exact ⟨xs, ex2 _ _ (e2 _ _ (e1 _ _ h))⟩
  refine q H3 (made_ex hp hdx k3) ⟨A, hxx, S, fun m hmm => ?_⟩
  by_cases c : m = p
  · rw [c]
    exact fresh_back e2 hp
  · have := hm m hmm c
    rw [upd_ne c] at this
    by_cases c2 : m = dx
    · rw [c2, upd_same] at this
      cases this
    · rw [upd_ne c2] at this
      exact fresh_back e2 this
end
section
variable {P : Program} {w : World} {K : PySem.W.Frag} {mg : Str → Option Value} {base : Heap} {CA CS CL CP CD aM aF aW aL aP aN : Addr}
/-! ### Desk -/
abbrev sDeskI : Stmt := inClass (top 66) 0
def spDeskI (CS CA CD : Addr) : Sp := fun vs H Q _ => ∃ x dx, vs = [.ref x] ∧ H x = some (.ins CD dx []) ∧
  ∀ H3 st A, A.ex = [] → (∀ b o, H b = some o → b ≠ x → H3 b = some o) → H3 x = some (.ins CD dx [("settings", .ref st), ("layout", .non)]) → SetAt CS CA H3 st A Si32.init → (∀ m ∈ A.own st, H m = none) → Q .non H3
theorem sc_deskI : FnScope ["self"] ["self"] (defScope sDeskI) := ⟨rfl, rfl, rfl, by decide +kernel, rfl, by decide +kernel, by decide +kernel⟩
theorem ok_deskI {f : Addr} {fd : FuncData} (T : Txt K mg CA CS CL CP CD aM aF aW aL aP aN) (F : Fun K "__init__" "Desk.__init__" sDeskI f fd) (D1 : Cla P w K mg base 1 CS ["self"] (spSetI CS CA)) : FnOk P w K mg base CX0 3 f fd ["self"] (spDeskI CS CA CD) := by
  refine F.ok sc_deskI (fun vs H Q E h => ?_) (fun cdv A outer s H vs Q E hr h => ?_)
  · obtain ⟨_, _, rfl, _⟩ := h
    rfl
  · obtain ⟨x, dx, rfl, hx, k⟩ := h
    have hrN : Room (1 + 1) _ := hr
    refine ⟨_, pss_cons (ps_fld (pv 0) (pe_new0 D1 hrN rfl T.gS) rfl) (pss_one (ps_fld (pv 0) pe_non rfl)), ?_⟩
    refine q_fldE (SetB.keeps _ _ _) (eb_set (ex := []) List.nodup_nil (fun b hb => nomatch hb)) ev_v hx T.clD T.nD_settings (by show 0 < 1000; decide) fun st H1 e1 ⟨A, hxx, S, hm⟩ => ?_
    refine s_fld ev_c ev_v upd_same T.clD T.nD_layout (by show 1 < 1000; decide) fun H2 e2 => ?_
    have s1 : Stay H1 (upd H1 x (.ins CD dx [("settings", .ref st)])) := .upd (e1 _ _ hx) (.inl rfl)
    have s3 : Stay H1 (upd H2 x (.ins CD dx [("settings", .ref st), ("layout", .non)])) := (s1.trans (.of e2)).trans (.upd (e2 _ _ upd_same) (.inr (.inl ⟨_, rfl⟩)))
    exact k _ st A hxx (fun b o hb hbx => ((((But.of e1).trans But.upd).trans (.of e2)).trans But.upd) _ _ hb hbx) upd_same (S.stay s3) hm
/-! ### begun -/
abbrev sBegun : Stmt := top 67
def spBegun (CS CA CD : Addr) : Sp := fun vs H Q _ => ∃ d dx v lv ex, vs = [.ref d] ∧ H d = some (.ins CD dx [("settings", v), ("layout", lv)]) ∧ ex.Nodup ∧ (∀ b ∈ ex, ∃ xs, H b = some (.lst xs)) ∧
  ∀ H3 st A, A.ex = ex → But d H H3 → H3 d = some (.ins CD dx [("settings", .ref st), ("layout", lv)]) → SetAt CS CA H3 st A Si32.init → (∀ m ∈ A.own st, H m = none) → Q (.int 0) H3
theorem sc_begun : FnScope ["desk"] ["desk"] (defScope sBegun) := ⟨rfl, rfl, rfl, by decide +kernel, rfl, by decide +kernel, by decide +kernel⟩
theorem d_begun (T : Txt K mg CA CS CL CP CD aM aF aW aL aP aN) (F0 : Src K mg "begun" sBegun ["desk"]) (D1 : Cla P w K mg base 1 CS ["self"] (spSetI CS CA)) : Def P w K mg base 3 "begun" ["desk"] (spBegun CS CA CD) := by
  refine .mk F0 fun f fd F => F.ok sc_begun (fun vs H Q E h => ?_) (fun cdv A outer s H vs Q E hr h => ?_)
  · obtain ⟨_, _, _, _, _, rfl, _⟩ := h
    rfl
  · obtain ⟨d, dx, v, lv, ex, rfl, hd, nex, hex, k⟩ := h
    have hrN : Room (1 + 1) _ := hr
    refine ⟨_, pss_cons (ps_fld (pv 0) (pe_new0 D1 hrN rfl T.gS) rfl) (pss_one (ps_ret pe_int)), ?_⟩
    refine q_fldE (SetB.keeps _ _ _) (eb_set nex hex) ev_v hd T.clD T.nD_settings (by show 2 < 1000; decide) fun st H1 e1 ⟨A, hxx, S, hm⟩ => ?_
    refine s_retV ev_c fun H2 e2 => ?_
    have s1 : Stay H1 (upd H1 d (.ins CD dx [("settings", .ref st), ("layout", lv)])) := .upd (e1 _ _ hd) (.inr (.inr ⟨_, _, rfl⟩))
    exact k _ st A hxx ((But.of e1).trans (But.upd.trans (.of e2))) (e2 _ _ upd_same) (S.stay (s1.trans (.of e2))) hm
/-! ### layout_now -/
abbrev sNow : Stmt := top 69
/-- the desk: the settings; the layout, where it is known -/
structure DeskAt (CS CA CD CL : Addr) (H : Hp) (d st : Addr) (A : Ads) (s : Si32.St) : Prop where
  set : SetAt CS CA H st A s
  ins : ∃ dx lv, H d = some (.ins CD dx [("settings", .ref st), ("layout", lv)]) ∧ (lv = .non ∨ ∃ L, lv = .ref L ∧ LayAt (exH A.ex) CL s L H)
def spNow (CS CA CD CL : Addr) : Sp := fun vs H Q _ => ∃ d st A s, vs = [.ref d] ∧ DeskAt CS CA CD CL H d st A s ∧ ∀ H3 L, Stay H H3 → But d H H3 → DeskAt CS CA CD CL H3 d st A s → LayAt (exH A.ex) CL s L H3 → Q (.ref L) H3
theorem DeskAt.ex {CS CA CD CL : Addr} {H H' : Hp} {d st : Addr} {A : Ads} {s : Si32.St} (h : DeskAt CS CA CD CL H d st A s) (e : Ex H H') : DeskAt CS CA CD CL H' d st A s := by
  obtain ⟨S, dx, lv, h1, h2⟩ := h
  refine ⟨S.ex e, dx, lv, e _ _ h1, ?_⟩
  rcases h2 with h2 | ⟨L, h2, h3⟩
  · exact .inl h2
  · exact .inr ⟨L, h2, h3.stay (.of e)⟩
theorem sc_now : FnScope ["desk"] ["desk"] (defScope sNow) := ⟨rfl, rfl, rfl, by decide +kernel, rfl, by decide +kernel, by decide +kernel⟩
theorem d_now (T : Txt K mg CA CS CL CP CD aM aF aW aL aP aN) (F0 : Src K mg "layout_now" sNow ["desk"]) (D1 : Def P w K mg base 6 "layout_of" ["settings"] (spLay CS CA CL)) : Def P w K mg base 7 "layout_now" ["desk"] (spNow CS CA CD CL) := by
  refine .mk F0 fun f fd F => F.ok sc_now (fun vs H Q E h => ?_) (fun cdv A outer s H vs Q E hr h => ?_)
  · obtain ⟨_, _, _, _, rfl, _⟩ := h
    rfl
  · obtain ⟨d, st, A, s, rfl, D, k⟩ := h
    refine ⟨_, pss_cons (ps_if (pt_cmpR op_isN (pe_fld (pv 0) rfl) pe_non (nomark _)) (pss_one (ps_fld (pv 0) (pe_def D1 hr rfl (pa_cons (pe_fld (pv 0) rfl) pa_nil)) rfl)) pss_nil)
      (pss_one (ps_ret (pe_fld (pv 0) rfl))), ?_⟩
    obtain ⟨S, dx, lv, hd, hl⟩ := D
    have fl : ∀ {H' : Hp} {σ : L2.St}, σ[0]? = some (some (.ref d)) → Ex H H' → Ev (tFld K (tVar 0) "layout") σ H' lv := fun h0 e => ev_fld (ev_var h0) (e _ _ hd) T.clD T.nD_layout rfl
    rcases hl with rfl | ⟨L, rfl, hL⟩
    · refine q_when (et_test (ev_is (ev_isN (fl rfl (Ex.refl _))) (by rfl))) (fun _ H1 e1 => ?_) (fun c => by cases c)
      refine s_fldB (P := LayB CL s) (LayB.firm CL s) (eb_callS (LayB.anti CL s) (ea1 (ev_fld ev_v (e1 _ _ hd) T.clD T.nD_settings rfl)) fun H2 e2 Q q => ⟨st, A, s, rfl, S.ex (e1.trans e2), q⟩) ev_v (e1 _ _ hd) T.clD T.nD_layout (by show 2 < 1000; decide) fun L H2 e2 hL => ?_
      have s2 : Stay H2 (upd H2 d (.ins CD dx [("settings", .ref st), ("layout", .ref L)])) := .upd (e2 _ _ (e1 _ _ hd)) (.inr (.inr ⟨_, _, rfl⟩))
      refine s_retV (v := .ref L) (ev_fld ev_v upd_same T.clD T.nD_layout rfl) fun H3 e3 => ?_
      have s3 : Stay H H3 := ((Stay.of (e1.trans e2)).trans s2).trans (.of e3)
      have l3 : LayAt (exH A.ex) CL s L H3 := (LayAt.less hL (exH_less (S.ex e1).exs)).stay (s2.trans (.of e3))
      exact k H3 L s3 ((But.of (e1.trans e2)).trans (But.upd.trans (.of e3))) ⟨S.stay s3, dx, _, e3 _ _ upd_same, .inr ⟨L, rfl, l3⟩⟩ l3
    · refine q_when (et_test (ev_is (ev_isN (fl rfl (Ex.refl _))) (by rfl))) (fun c => by cases c) (fun _ H1 e1 => ?_)
      refine s_retV (v := .ref L) (fl rfl e1) fun H3 e3 => ?_
      have e := e1.trans e3
      have l3 := hL.stay (.of e)
      exact k H3 L (.of e) (.of e) ⟨S.ex e, dx, _, e _ _ hd, .inr ⟨L, rfl, l3⟩⟩ l3
end
end Sh
namespace Sh
open PySem PySem.Spec PyProof.Rows L2 Evl
/-- an answer's numbers as values -/
def ansV (a : Si32.Ans) : List V := (a.v :: a.l).map V.int
theorem ints_nV (l : List Nat) : (Si32.ints l).map V.int = nVs l := by
  unfold Si32.ints
  rw [List.map_map]
  rfl
theorem cut_to {xs : List V} {b : Nat} (h : b ≤ xs.length) : cutV xs none (some (b : Int)) = xs.take b := by
  unfold cutV
  rw [HT.sIx_nat, Nat.min_eq_left h]
  rfl
theorem wi_range {i : Nat} (h : i < 2) : ∃ r : Bool, (i : Int) = wi r ∧ i = wn r := by
  have : i = 0 ∨ i = 1 := by omega
  rcases this with rfl | rfl
  · exact ⟨true, rfl, rfl⟩
  · exact ⟨false, rfl, rfl⟩
section
variable {K : PySem.W.Frag} {σ : L2.St} {H : Hp} {ta tb tc : TE}
theorem et_le2 {i j k : Int} (ha : Ev ta σ H (.int i)) (hb : Ev tb σ H (.int j)) (hc : Ev tc σ H (.int k)) : EvT (tTest (tChain (rI0 fun i j => .bl (decide (i ≤ j))) (rI0 fun i j => .bl (decide (i ≤ j))) ta tb tc)) σ H (decide (i ≤ j) && decide (j ≤ k)) := fun H1 e Q q =>
  ha H1 e _ fun H2 e2 => hb H2 (e.trans e2) _ fun H3 e3 => ⟨i, j, rfl, rfl, _, rfl, by
    by_cases h : i ≤ j
    · rw [decide_eq_true h] at q
      rw [if_pos (decide_eq_true h)]
      exact hc H3 ((e.trans e2).trans e3) _ fun H4 e4 => ⟨j, k, rfl, rfl, _, rfl, by
        have := q H4 ((e2.trans e3).trans e4)
        rw [Bool.true_and] at this
        exact this⟩
    · rw [decide_eq_false h] at q
      rw [decide_eq_false h, if_neg (by decide)]
      exact ⟨false, rfl, q H3 (e2.trans e3)⟩⟩
end
def two (s : Si32.St) (a : Si32.Area) : List V := [nV (bnd s true s.percent a).length, nV (bnd s false s.percent a).length]
theorem two_len (s : Si32.St) : ∀ l : List Si32.Area, (l.flatMap (two s)).length = 2 * l.length
  | [] => rfl
  | a :: l => by
    rw [List.flatMap_cons, List.length_append, two_len s l, List.length_cons]
    show 2 + _ = _
    omega
theorem pages_ans (s : Si32.St) : ansV (Si32.step s .pages).2 = nV s.count :: nV s.percent :: s.areas.flatMap (two s) := by
  show V.int (s.count : Int) :: V.int (s.percent : Int) :: (s.areas.flatMap fun a => Si32.ints [(s.rowBands s.percent a).length, (s.colBands s.percent a).length]).map V.int = _
  rw [List.map_flatMap]
  rfl
section
variable {P : Program} {w : World} {K : PySem.W.Frag} {mg : Str → Option Value} {base : Heap} {CA CS CL CP CD aM aF aW aL aP aN : Addr}
/-! ### pages_told -/
abbrev sPTold : Stmt := top 70
def spPTold (CL : Addr) : Sp := fun vs H Q _ => ∃ L H0 s, vs = [.ref L] ∧ LayAt H0 CL s L H ∧ Good s ∧ RetB (LstB (ansV (Si32.step s .pages).2)) H Q
theorem sc_ptold : FnScope ["layout", "found", "own"] ["layout"] (defScope sPTold) := ⟨rfl, rfl, rfl, by decide +kernel, rfl, by decide +kernel, by decide +kernel⟩
theorem d_ptold (T : Txt K mg CA CS CL CP CD aM aF aW aL aP aN) (F0 : Src K mg "pages_told" sPTold ["layout"]) : Def P w K mg base 1 "pages_told" ["layout"] (spPTold CL) := by
  refine .mk F0 fun f fd F => F.ok sc_ptold (fun vs H Q E h => ?_) (fun cdv A outer s H vs Q E hr h => ?_)
  · obtain ⟨_, _, _, rfl, _⟩ := h
    rfl
  · obtain ⟨L, H0, s, rfl, ⟨_, ldx, bl, hL, hB⟩, g, k⟩ := h
    refine ⟨_, pss_cons (ps_set (i := 1) sc_ptold.nd rfl (.inl rfl) (pe_lst (pa_cons (pe_fld (pv 0) rfl) (pa_cons (pe_fld (pv 0) rfl) pa_nil))))
      (pss_cons (ps_for PassesOwn.never rfl (pi_list (pe_fld (pv 0) rfl)) (pg_name (i := 2) sc_ptold.nd rfl (.inl rfl))
        (pss_one (ps_set (i := 1) sc_ptold.nd rfl (.inl rfl) (pe_op op_cat (pv 1) (pe_lst (pa_cons (pe_callB call_len_seq (by rfl) T.b_len PySem.boot_len (pa_cons (pe_ix ix_list (pv 2) pe_int (fun _ _ => rfl)) pa_nil)) (pa_cons (pe_callB call_len_seq (by rfl) T.b_len PySem.boot_len (pa_cons (pe_ix ix_list (pv 2) pe_int (fun _ _ => rfl)) pa_nil)) pa_nil)))))))
      (pss_one (ps_ret (pv 1)))), ?_⟩
    obtain ⟨_, xs0, hx0, lo0⟩ := hB.of
    have al := g.alen
    have fl : ∀ {H' : Hp} {σ : L2.St} {f : Str} {v : V}, NoAttr K CL f → [(("scale" : Str), nV s.percent), ("bands", .ref bl), ("pages", nV s.count)].lookup f = some v → σ[0]? = some (some (.ref L)) → Ex H H' → Ev (tFld K (tVar 0) f) σ H' v := fun hn hl h0 e => ev_fld (ev_var h0) (e _ _ hL) T.clL hn hl
    refine q_asgB (P := LstB [nV s.count, nV s.percent]) (eb_lst (ea2 (fl T.nL_pages rfl rfl (Ex.refl _)) (fl T.nL_scale rfl rfl (Ex.refl _))) (by show 2 ≤ 100000; decide)) fun f1 H1 e1 ⟨n1, hf1⟩ => ?_
    refine q_forLn (a := bl) (xs := xs0) (fl T.nL_bands rfl rfl e1) (sq_of (e1 _ _ hx0)) (fun i σ H' => ∃ fo v2, σ = [some (.ref L), some (.ref fo), v2] ∧ Ex H H' ∧ H fo = none ∧ H' fo = some (.lst (nV s.count :: nV s.percent :: (s.areas.take i).flatMap (two s))))
      (fun H2 e2 => ⟨f1, none, rfl, e1.trans e2, n1, e2 _ _ hf1⟩) (fun i σ H' _ ⟨_, _, _, e, _⟩ => sq_of (e _ _ hx0)) ?_ ?_
    · rintro i v σ H' hi ⟨fo, v2, rfl, e, hn, hf⟩
      obtain ⟨q, a, rfl, ha, hq⟩ := lo0.of hi
      have hq' := OwnAt.on hq (.of e)
      obtain ⟨_, p0, p1, hq1, h0, h1⟩ := hq'
      obtain ⟨ys0, hy0, ly0, _⟩ := h0.lst
      obtain ⟨ys1, hy1, ly1, _⟩ := h1.lst
      have hil := (List.getElem?_eq_some_iff.mp ha).1
      refine s_asgB (P := LstB ((nV s.count :: nV s.percent :: (s.areas.take i).flatMap (two s)) ++ two s a)) (eb_catV ev_v hf (eb_lst (ea2 (ev_lenS (ev_ixL ev_v ev_c (sq_of hq1) rfl) (sq_of hy0) ly0) (ev_lenS (ev_ixL ev_v ev_c (sq_of hq1) rfl) (sq_of hy1) ly1)) (by show 2 ≤ 100000; decide)) ?_) fun fo' H2 e2 ⟨hn2, hf2⟩ => ⟨fo', _, rfl, e.trans e2, fresh_back e hn2, ?_⟩
      · rw [List.length_cons, List.length_cons, two_len, List.length_take]
        show _ + 2 ≤ _
        omega
      · rw [hf2, take_snoc' ha, List.flatMap_append, List.flatMap_cons, List.flatMap_nil, List.append_nil]
        rfl
    · rintro σ H' ⟨fo, v2, rfl, e, hn, hf⟩
      rw [lo0.len, List.take_length, ← pages_ans] at hf
      exact s_retV ev_v fun H3 e3 => k fo H3 (e.trans e3) ⟨hn, e3 _ _ hf⟩
/-! ### pages_before -/
abbrev sBefore : Stmt := top 72
def spBefore (CL : Addr) : Sp := fun vs H Q _ => ∃ L H0 s, ∃ a : Nat, vs = [.ref L, nV a] ∧ LayAt H0 CL s L H ∧ Good s ∧ a ≤ s.areas.length ∧ RetV (nV (before s a)) H Q
theorem sc_before : FnScope ["layout", "area", "own"] ["layout", "area"] (defScope sBefore) := ⟨rfl, rfl, rfl, by decide +kernel, rfl, by decide +kernel, by decide +kernel⟩
theorem d_before (T : Txt K mg CA CS CL CP CD aM aF aW aL aP aN) (F0 : Src K mg "pages_before" sBefore ["layout", "area"]) : Def P w K mg base 1 "pages_before" ["layout", "area"] (spBefore CL) := by
  refine .mk F0 fun f fd F => F.ok sc_before (fun vs H Q E h => ?_) (fun cdv A outer s H vs Q E hr h => ?_)
  · obtain ⟨_, _, _, _, rfl, _⟩ := h
    rfl
  · obtain ⟨L, H0, s, a, rfl, ⟨_, ldx, bl, hL, hB⟩, g, ha, k⟩ := h
    refine ⟨_, pss_one (ps_ret (pe_callB (cr_sum rfl) (by rfl) T.b_sum (by decide +kernel) (pa_cons (pe_lc (own := [("own", 2)]) (g := gName 2) (tt := tYes)
      (te := tOp (rI CMul fun i j => .int (i * j)) (tCB (rLenS K) (tCons (tOp (rIxL K) (tVar 2) (tC (.int 0))) tNil)) (tCB (rLenS K) (tCons (tOp (rIxL K) (tVar 2) (tC (.int 1))) tNil))) rfl sc_before.nd (pi_list (pe_slice sl_list (pe_fld (pv 0) rfl) po_none (po_some (pv 1))))
      (blkOk_by (own := [("own", 2)]) (N := ["layout", "area", "own"]) (sc := defScope sBefore) (by decide +kernel)) (fun _ _ _ _ _ => pg_name (i := 2) sc_before.nd rfl (Or.inl rfl)) (fun _ _ _ _ _ => pts_nil)
      (fun _ _ _ _ _ => by exact pe_op op_mul (pe_callB call_len_seq (by rfl) T.b_len PySem.boot_len (pa_cons (pe_ix ix_list (pv 2) pe_int (fun _ _ => rfl)) pa_nil)) (pe_callB call_len_seq (by rfl) T.b_len PySem.boot_len (pa_cons (pe_ix ix_list (pv 2) pe_int (fun _ _ => rfl)) pa_nil)))) pa_nil))), ?_⟩
    obtain ⟨_, xs0, hx0, lo0⟩ := hB.of
    have ll := lo0.len
    have al := g.alen
    have tk : cutV xs0 none (some (a : Int)) = xs0.take a := cut_to (by omega)
    have lt : (xs0.take a).length = a := by rw [List.length_take]; omega
    have lt2 : (s.areas.take a).length = a := by rw [List.length_take]; omega
    refine s_retV (v := .int ((List.range (xs0.take a).length).map fun i => ((cnt s s.percent ((s.areas.take a).getD i noArea) : Nat) : Int)).sum) (ev_sumL (by
      rw [← given_all]
      refine el_lcNL (xs := xs0.take a) (fun _ => true) (fun i => V.int ((cnt s s.percent ((s.areas.take a).getD i noArea) : Nat) : Int)) (by
        rw [← tk]
        exact el_sl (ev_fld ev_v hL T.clL T.nL_bands rfl) eo_none (eo_some ev_v) (sq_of hx0)) (by omega) (fun _ => rfl) (fun i v H3 e3 hi => et_yes) (fun i v H3 e3 hi _ => ?_)
      have hia : i < a := by
        have := (List.getElem?_eq_some_iff.mp hi).1
        omega
      rw [List.getElem?_take_of_lt hia] at hi
      obtain ⟨q, ar, rfl, har, hq⟩ := lo0.of hi
      have hm : ar ∈ s.areas := List.mem_of_getElem? har
      obtain ⟨_, p0, p1, hq1, h0, h1⟩ := OwnAt.on hq (.of e3)
      obtain ⟨ys0, hy0, ly0, _⟩ := h0.lst
      obtain ⟨ys1, hy1, ly1, _⟩ := h1.lst
      rw [getD_of (show (s.areas.take a)[i]? = some ar by rw [List.getElem?_take_of_lt hia]; exact har)]
      refine ev_is (ev_iC (ev_lenS (ev_ixL ev_v ev_c (sq_of hq1) rfl) (sq_of hy0) ly0) (ev_lenS (ev_ixL ev_v ev_c (sq_of hq1) rfl) (sq_of hy1) ly1) (cmul_r (len_le g hm false s.percent).2)) ?_
      refine congrArg V.int ?_
      exact (Int.natCast_mul _ _).symm)) fun H3 e3 => ?_
    have e : ((List.range (xs0.take a).length).map fun i => ((cnt s s.percent ((s.areas.take a).getD i noArea) : Nat) : Int)).sum = ((before s a : Nat) : Int) := by
      have := range_getD (fun b => ((cnt s s.percent b : Nat) : Int)) noArea (s.areas.take a)
      rw [lt2] at this
      rw [lt, this, total_int]
      rfl
    rw [e]
    exact k H3 e3
/-! ### has_cell -/
abbrev sHas : Stmt := top 73
def spHas (CA : Addr) : Sp := fun vs H Q _ => ∃ p ar M c, ∃ i j : Nat, vs = [.ref p, .ref c] ∧ AreaAt CA M H p ar ∧ H c = some (.lst [nV i, nV j]) ∧ RetV (.bl (hasA ar i j)) H Q
theorem sc_has : FnScope ["area", "cell", "way"] ["area", "cell"] (defScope sHas) := ⟨rfl, rfl, rfl, by decide +kernel, rfl, by decide +kernel, by decide +kernel⟩
theorem d_has (T : Txt K mg CA CS CL CP CD aM aF aW aL aP aN) (F0 : Src K mg "has_cell" sHas ["area", "cell"]) : Def P w K mg base 1 "has_cell" ["area", "cell"] (spHas CA) := by
  refine .mk F0 fun f fd F => F.ok sc_has (fun vs H Q E h => ?_) (fun cdv A outer s H vs Q E hr h => ?_)
  · obtain ⟨_, _, _, _, _, _, rfl, _⟩ := h
    rfl
  · obtain ⟨p, ar, M, c, i, j, rfl, ⟨adx, f, l, h1, h2, h3⟩, hc, k⟩ := h
    refine ⟨_, pss_cons (ps_for PassesOwn.never rfl (pi_range1 rfl T.b_range (pa_cons pe_int pa_nil)) (pg_name (i := 2) sc_has.nd rfl (.inl rfl))
        (pss_one (ps_if (pt_not (pt_chain op_le op_le (pe_ix ix_list (pe_fld (pv 0) rfl) (pv 2) (fun _ _ => rfl)) (pe_ix ix_list (pv 1) (pv 2) (fun _ _ => rfl)) (pe_ix ix_list (pe_fld (pv 0) rfl) (pv 2) (fun _ _ => rfl)))) (pss_one (ps_ret pe_bl)) pss_nil)))
      (pss_one (ps_ret pe_bl)), ?_⟩
    have tst : ∀ {H' : Hp} {v2 : Option V} (r : Bool), Ex H H' → EvT (tNot (tTest (tChain (rI0 fun i j => .bl (decide (i ≤ j))) (rI0 fun i j => .bl (decide (i ≤ j))) (tOp (rIxL K) (tFld K (tVar 0) "first") (tVar 2)) (tOp (rIxL K) (tVar 1) (tVar 2)) (tOp (rIxL K) (tFld K (tVar 0) "last") (tVar 2))))) [some (.ref p), some (.ref c), some (.int (wi r))] H' (!(if r then decide (ar.row0 ≤ i ∧ i ≤ ar.row1) else decide (ar.col0 ≤ j ∧ j ≤ ar.col1))) := fun {H'} {v2} r e => et_not (et_is (et_le2 (ev_is (w := nV (if r then ar.row0 else ar.col0)) (ev_two (ev_fld ev_v (e _ _ h1.1) T.clA T.nA_first rfl) ev_v (e _ _ h2.1)) (by cases r <;> rfl)) (ev_is (w := nV (if r then i else j)) (ev_two ev_v ev_v (e _ _ hc)) (by cases r <;> rfl)) (ev_is (w := nV (if r then ar.row1 else ar.col1)) (ev_two (ev_fld ev_v (e _ _ h1.1) T.clA T.nA_last rfl) ev_v (e _ _ h3.1)) (by cases r <;> rfl))) (by
        cases r
        · rw [Bool.eq_iff_iff, Bool.and_eq_true, decide_eq_true_iff, decide_eq_true_iff]
          show _ ↔ decide (ar.col0 ≤ j ∧ j ≤ ar.col1) = true
          rw [decide_eq_true_iff]
          show (ar.col0 : Int) ≤ (j : Int) ∧ (j : Int) ≤ (ar.col1 : Int) ↔ _
          omega
        · rw [Bool.eq_iff_iff, Bool.and_eq_true, decide_eq_true_iff, decide_eq_true_iff]
          show _ ↔ decide (ar.row0 ≤ i ∧ i ≤ ar.row1) = true
          rw [decide_eq_true_iff]
          show (ar.row0 : Int) ≤ (i : Int) ∧ (i : Int) ≤ (ar.row1 : Int) ↔ _
          omega))
    unfold hasA at k
    refine q_forR1 (n := 2) (ea1 ev_c) (by omega) (fun m σ H' => ∃ v, σ = [some (.ref p), some (.ref c), v] ∧ Ex H H' ∧ (0 < m → decide (ar.row0 ≤ i ∧ i ≤ ar.row1) = true) ∧ (1 < m → decide (ar.col0 ≤ j ∧ j ≤ ar.col1) = true)) (fun H2 e2 => ⟨none, rfl, e2, fun h => by omega, fun h => by omega⟩) ?_ ?_
    · rintro m σ H' hm ⟨v, rfl, e, q0, q1⟩
      have hm : m = 0 ∨ m = 1 := by omega
      rcases hm with rfl | rfl
      · refine s_when (tst (v2 := v) true e) (fun c H2 e2 => ?_) (fun c H2 e2 => ?_)
        · rw [if_pos rfl, Bool.not_eq_true'] at c
          rw [c, Bool.false_and] at k
          exact s_retV ev_c (RetV.mono k (e.trans e2))
        · rw [if_pos rfl, Bool.not_eq_false'] at c
          exact ⟨_, rfl, e.trans e2, fun _ => c, fun h => by omega⟩
      · refine s_when (tst (v2 := v) false e) (fun c H2 e2 => ?_) (fun c H2 e2 => ?_)
        · rw [if_neg (by decide), Bool.not_eq_true'] at c
          rw [c, Bool.and_false] at k
          exact s_retV ev_c (RetV.mono k (e.trans e2))
        · rw [if_neg (by decide), Bool.not_eq_false'] at c
          exact ⟨_, rfl, e.trans e2, fun _ => q0 (by omega), fun _ => c⟩
    · rintro σ H' ⟨v, rfl, e, q0, q1⟩
      rw [q0 (by decide), q1 (by decide)] at k
      exact s_retV ev_c (RetV.mono k e)
end
end Sh
namespace Sh
open PySem PySem.Spec PyProof.Rows L2 Evl
/-- a page stands by its numbers -/
theorem from_some {s : Si32.St} {p a : Nat} {x y : Si32.Band} : ∀ (l : List Si32.Area) (k n : Nat), s.areas.drop k = l → s.pageFrom p k l n = some ⟨a, x, y⟩ →
    ∃ (ar : Si32.Area) (r c : Nat), s.areas[a]? = some ar ∧ (bnd s true p ar)[r]? = some x ∧ (bnd s false p ar)[c]? = some y
  | [], k, n, _, h => by
    rw [Si32.St.pageFrom] at h
    cases h
  | b :: l, k, n, hd, h => by
    have hk : s.areas[k]? = some b := by
      have := congrArg (fun l : List Si32.Area => l[0]?) hd
      simpa using this
    have hd1 : s.areas.drop (k + 1) = l := by
      have := congrArg (fun l : List Si32.Area => l.drop 1) hd
      simpa [List.drop_drop] using this
    by_cases hc : n < cnt s p b
    · obtain ⟨x', y', h1, h2, h3⟩ := page_hit (s := s) (p := p) (k := k) (l := l) hc
      rw [h] at h3
      injection h3 with h3
      injection h3 with h4 h5 h6
      subst h4 h5 h6
      exact ⟨b, _, _, hk, h1, h2⟩
    · rw [page_next hc] at h
      exact from_some l (k + 1) _ hd1 h
theorem page_some {s : Si32.St} {n a : Nat} {x y : Si32.Band} (h : s.page n = some ⟨a, x, y⟩) :
    ∃ (ar : Si32.Area) (r c : Nat), s.areas[a]? = some ar ∧ (bnd s true s.percent ar)[r]? = some x ∧ (bnd s false s.percent ar)[c]? = some y := from_some s.areas 0 n rfl h
/-- a band of the layout by its numbers -/
theorem lay_band {K : PySem.W.Frag} {mg : Str → Option Value} {CA CS CL CP CD aM aF aW aL aP aN : Addr} (T : Txt K mg CA CS CL CP CD aM aF aW aL aP aN) {H0 H : Hp} {L : Addr} {s : Si32.St} (h : LayAt H0 CL s L H) (g : Good s) {k : Nat} {ar : Si32.Area} (ha : s.areas[k]? = some ar) (r : Bool) {i : Nat} {z : Si32.Band} (hz : (bnd s r s.percent ar)[i]? = some z) :
    ∃ b, BandIn H r b z ∧ ∀ {σ : L2.St} {tl ta tw tn : TE}, Ev tl σ H (.ref L) → Ev ta σ H (nV k) → Ev tw σ H (.int (wi r)) → Ev tn σ H (nV i) → Ev (tOp (rIxL K) (tOp (rIxL K) (tOp (rIxL K) (tFld K tl "bands") ta) tw) tn) σ H (.ref b) := by
  obtain ⟨_, ldx, bl, hL, hB⟩ := h
  obtain ⟨_, xs0, hx0, lo0⟩ := hB.of
  obtain ⟨q, hq, _, p0, p1, hq1, h0, h1⟩ := lo0.get ha
  have hm : ar ∈ s.areas := List.mem_of_getElem? ha
  obtain ⟨g1, g2, g3⟩ := Part.ge (g.part hm r s.percent) hz
  have lt := (g.area hm r).2
  cases r
  · obtain ⟨_, ys, hy, ly⟩ := h1.of
    obtain ⟨b, hb, hb2⟩ := ly.get hz
    exact ⟨b, ⟨hb2.2, g2, by omega⟩, fun e1 e2 e3 e4 => ev_ixL (ev_is (ev_two (ev_ixL (ev_fld e1 hL T.clL T.nL_bands rfl) e2 (sq_of hx0) (atI_nat hq)) e3 hq1) rfl) e4 (sq_of hy) (atI_nat hb)⟩
  · obtain ⟨_, ys, hy, ly⟩ := h0.of
    obtain ⟨b, hb, hb2⟩ := ly.get hz
    exact ⟨b, ⟨hb2.2, g2, by omega⟩, fun e1 e2 e3 e4 => ev_ixL (ev_is (ev_two (ev_ixL (ev_fld e1 hL T.clL T.nL_bands rfl) e2 (sq_of hx0) (atI_nat hq)) e3 hq1) rfl) e4 (sq_of hy) (atI_nat hb)⟩
section
variable {K : PySem.W.Frag} {σ : L2.St} {H : Hp} {ta tb : TE} {xs ys : List V}
theorem eb_catVV {p q : Addr} (ha : Ev ta σ H (.ref p)) (hp : H p = some (.lst xs)) (hb : Ev tb σ H (.ref q)) (hq : H q = some (.lst ys)) (hz : xs.length + ys.length ≤ 100000) : EvB (tOp rCat ta tb) σ H (LstB (xs ++ ys)) := fun H1 e Q k =>
  ha H1 e _ fun H2 e2 => hb H2 (e.trans e2) _ fun H3 e3 => ⟨p, q, xs, ys, rfl, rfl, e3 _ _ (e2 _ _ (e _ _ hp)), e3 _ _ (e2 _ _ (e _ _ hq)), sz_of hz, fun r hr => k r _ ((e2.trans e3).trans (Ex.new hr)) ⟨fresh_back (e2.trans e3) hr, upd_same⟩⟩
end
/-- page_at, where there is that page -/
def PageX (CP : Addr) (s : Si32.St) (a : Nat) (x y : Si32.Band) (ar : Si32.Area) : PB := fun H0 p H => ∃ r c, (bnd s true s.percent ar)[r]? = some x ∧ (bnd s false s.percent ar)[c]? = some y ∧ PageB CP a r c H0 p H
theorem PageX.anti (CP : Addr) (s : Si32.St) (a : Nat) (x y : Si32.Band) (ar : Si32.Area) : Anti (PageX CP s a x y ar) := fun _ _ _ _ e ⟨r, c, h1, h2, h3⟩ => ⟨r, c, h1, h2, PageB.anti _ _ _ _ _ _ _ _ e h3⟩
theorem page_call {CS CA CL CP : Addr} {H H0 : Hp} {st L a n : Nat} {A : Ads} {s : Si32.St} {x y : Si32.Band} {ar : Si32.Area} {ta : TA} {σ : L2.St} (hp : s.page n = some ⟨a, x, y⟩) (har : s.areas[a]? = some ar) (ha : EvA ta σ H [.ref st, .ref L, nV n]) (S : SetAt CS CA H st A s) (hL : LayAt H0 CL s L H) :
    EvB (tCall (spPage CS CA CL CP) [] E0 ta) σ H (PageX CP s a x y ar) := eb_callS (PageX.anti CP s a x y ar) ha fun H1 e Q q => ⟨st, A, s, L, H0, n, rfl, S.ex e, hL.on (.of e), (fun h => by rw [hp] at h; cases h), fun a' r' c' x' y' ar' h1 h2 h3 h4 => by
  rw [hp] at h1
  injection h1 with h1
  injection h1 with h5 h6 h7
  subst h5 h6 h7
  rw [har] at h2
  cases Option.some.inj h2
  exact fun p H2 e2 h => q p H2 e2 ⟨r', c', h3, h4, h⟩⟩
section
variable {P : Program} {w : World} {K : PySem.W.Frag} {mg : Str → Option Value} {base : Heap} {CA CS CL CP CD aM aF aW aL aP aN : Addr}
/-! ### page_told -/
abbrev sPgT : Stmt := top 71
def spPgT (CS CA CL : Addr) : Sp := fun vs H Q _ => ∃ st A s L H0, ∃ n : Nat, vs = [.ref st, .ref L, nV n] ∧ SetAt CS CA H st A s ∧ LayAt H0 CL s L H ∧ RetB (LstB (ansV (Si32.step s (.page n)).2)) H Q
theorem sc_pgt : FnScope ["settings", "layout", "n", "page", "sums", "found", "again", "long", "way", "band", "span"] ["settings", "layout", "n"] (defScope sPgT) := ⟨rfl, rfl, rfl, by decide +kernel, rfl, by decide +kernel, by decide +kernel⟩
def zb (x y : Si32.Band) (i : Nat) : Si32.Band := if i = 0 then x else y
def wb (s : Si32.St) (i : Nat) : Si32.Way := if i = 0 then s.rows else s.cols
def accF (a : Nat) (x y : Si32.Band) (i : Nat) : List V := nV 0 :: nV a :: (List.range i).flatMap fun j => [nV (zb x y j).1, nV (zb x y j).2]
def accG (s : Si32.St) (x y : Si32.Band) (i : Nat) : List V := (List.range i).map fun j => nV ((wb s j).again (zb x y j).1).length
def accL (s : Si32.St) (x y : Si32.Band) (i : Nat) : List V := (List.range i).map fun j => nV ((wb s j).extent (zb x y j) * s.percent)
theorem wb_wn (s : Si32.St) (r : Bool) : wb s (wn r) = s.way r := by cases r <;> rfl
theorem zb_wn (x y : Si32.Band) (r : Bool) : zb x y (wn r) = if r then x else y := by cases r <;> rfl
theorem d_pgt (T : Txt K mg CA CS CL CP CD aM aF aW aL aP aN) (F0 : Src K mg "page_told" sPgT ["settings", "layout", "n"]) (D1 : Def P w K mg base 3 "page_at" ["settings", "layout", "n"] (spPage CS CA CL CP)) (D2 : Def P w K mg base 2 "both_sums" ["settings"] (spBoth CS CA))
    (D3 : Def P w K mg base 1 "again_span" ["settings", "way", "first"] (spAgSpan CS CA)) (D4 : Def P w K mg base 3 "how_long" ["settings", "way", "sums", "band", "scale"] (spLong CS CA)) :
    Def P w K mg base 4 "page_told" ["settings", "layout", "n"] (spPgT CS CA CL) := by
  refine .mk F0 fun f fd F => F.ok sc_pgt (fun vs H Q E h => ?_) (fun cdv A outer s H vs Q E hr h => ?_)
  · obtain ⟨_, _, _, _, _, _, rfl, _⟩ := h
    rfl
  · obtain ⟨st, A, s, L, H0, n, rfl, S, hL, k⟩ := h
    have hr2 : Room 2 _ := hr.mono (by decide)
    have hr1 : Room 1 _ := hr.mono (by decide)
    refine ⟨_, pss_cons (ps_set (i := 3) sc_pgt.nd rfl (.inl rfl) (pe_def D1 hr rfl (pa_cons (pv 0) (pa_cons (pv 1) (pa_cons (pv 2) pa_nil)))))
      (pss_cons (ps_if (pt_cmpR op_isN (pv 3) pe_non (nomark _)) (pss_one (ps_ret (pe_lst (pa_cons (pe_k rfl T.k_NO_PAGE) pa_nil)))) pss_nil)
      (pss_cons (ps_set (i := 4) sc_pgt.nd rfl (.inl rfl) (pe_def D2 hr2 rfl (pa_cons (pv 0) pa_nil)))
      (pss_cons (ps_set (i := 5) sc_pgt.nd rfl (.inl rfl) (pe_lst (pa_cons pe_int (pa_cons (pe_fld (pv 3) rfl) pa_nil))))
      (pss_cons (ps_set (i := 6) sc_pgt.nd rfl (.inl rfl) (pe_lst pa_nil))
      (pss_cons (ps_set (i := 7) sc_pgt.nd rfl (.inl rfl) (pe_lst pa_nil))
      (pss_cons (ps_for PassesOwn.never rfl (pi_range1 rfl T.b_range (pa_cons pe_int pa_nil)) (pg_name (i := 8) sc_pgt.nd rfl (.inl rfl))
        (pss_cons (ps_set (i := 9) sc_pgt.nd rfl (.inl rfl) (pe_ix ix_list (pe_ix ix_list (pe_ix ix_list (pe_fld (pv 1) rfl) (pe_fld (pv 3) rfl) (fun _ _ => rfl)) (pv 8) (fun _ _ => rfl)) (pe_ix ix_list (pe_fld (pv 3) rfl) (pv 8) (fun _ _ => rfl)) (fun _ _ => rfl)))
        (pss_cons (ps_set (i := 10) sc_pgt.nd rfl (.inl rfl) (pe_def D3 hr1 rfl (pa_cons (pv 0) (pa_cons (pv 8) (pa_cons (pe_ix ix_tup (pv 9) pe_int (fun _ _ => rfl)) pa_nil)))))
        (pss_cons (ps_set (i := 5) sc_pgt.nd rfl (.inl rfl) (pe_op op_cat (pv 5) (pe_lst (pa_cons (pe_ix ix_tup (pv 9) pe_int (fun _ _ => rfl)) (pa_cons (pe_ix ix_tup (pv 9) pe_int (fun _ _ => rfl)) pa_nil)))))
        (pss_cons (ps_expr (pe_bm PySem.F.plainAttrs_list PySem.F.slot_list_append PySem.F.type_list_append mt_append (pv 6) (pa_cons (pe_op op_sub (pe_ix ix_tup (pv 10) pe_int (fun _ _ => rfl)) (pe_ix ix_tup (pv 10) pe_int (fun _ _ => rfl))) pa_nil)))
        (pss_one (ps_expr (pe_bm PySem.F.plainAttrs_list PySem.F.slot_list_append PySem.F.type_list_append mt_append (pv 7) (pa_cons (pe_def D4 hr rfl (pa_cons (pv 0) (pa_cons (pv 8) (pa_cons (pe_ix ix_list (pv 4) (pv 8) (fun _ _ => rfl)) (pa_cons (pv 9) (pa_cons (pe_fld (pv 1) rfl) pa_nil)))))) pa_nil)))))))))
      (pss_one (ps_ret (pe_op op_cat (pe_op op_cat (pv 5) (pv 6)) (pe_lst (pa_cons (pe_ix ix_list (pv 7) pe_int (fun _ _ => rfl)) (pa_cons (pe_ix ix_list (pv 7) pe_int (fun _ _ => rfl)) pa_nil)))))))))))), ?_⟩
    cases hp : s.page n with
    | none =>
      refine q_asg (v := .non) (ev_callS (ea_cons ev_v (ea2 ev_v ev_v)) fun H1 e Q q => ⟨st, A, s, L, H0, n, rfl, S.ex e, hL.on (.of e), fun _ => q, (fun a r c x y ar h => by rw [hp] at h; cases h)⟩) fun H1 e1 => ?_
      refine q_when (et_test (ev_is (ev_isN ev_v) (by rfl))) (fun _ H2 e2 => ?_) (fun c => by cases c)
      have es : ansV (Si32.step s (.page n)).2 = [V.int (-6)] := by
        show ansV (match s.page n with
          | some x => (⟨0, s.toldPage x⟩ : Si32.Ans)
          | none => Si32.ok (-6)) = _
        rw [hp]
        rfl
      rw [es] at k
      exact s_retB (eb_lst (ea1 ev_c) (by show 1 ≤ 100000; decide)) (k.mono (LstB.anti _) (e1.trans e2))
    | some pg =>
      obtain ⟨a, x, y⟩ := pg
      obtain ⟨ar, ir, ic, har, hx, hy⟩ := page_some hp
      clear ir ic hx hy
      refine q_asgB (page_call (CP := CP) hp har (ea_cons ev_v (ea2 ev_v ev_v)) S hL) fun pg H1 e1 ⟨ir, ic, hx, hy, _, pdx, nn, hpg, hnn⟩ => ?_
      refine q_when (et_test (ev_is (ev_isN ev_v) (by rfl))) (fun c => by cases c) (fun _ H2 e2 => ?_)
      refine q_asgB (P := BothB s) (eb_callS (TwoB.anti (LstB.anti _) (LstB.anti _)) (ea1 ev_v) fun H3 e3 Q q => ⟨st, A, s, rfl, S.ex ((e1.trans e2).trans e3), q⟩) fun sm H3 e3 ⟨_, s0, s1, hsm, ⟨_, hs0⟩, ⟨_, hs1⟩⟩ => ?_
      have e13 := e2.trans e3
      refine q_asgB (P := LstB (accF a x y 0)) (eb_lst (ea2 ev_c (ev_fld ev_v (e13 _ _ hpg) T.clP T.nP_area rfl)) (by show 2 ≤ 100000; decide)) fun fo0 H4 e4 ⟨nfo0, hfo0⟩ => ?_
      refine q_asgL (el_lst ea_nil (by decide)) fun ag H5 nag e5 hag => ?_
      refine q_asgL (el_lst ea_nil (by decide)) fun lo H6 nlo e6 hlo => ?_
      have e45 := e4.trans e5
      have e46 := e45.trans e6
      have e03 := (e1.trans e2).trans e3
      have S3 := S.ex e03
      have L3 := hL.on (.of e03)
      have pg3 := e13 _ _ hpg
      have nn3 := e13 _ _ hnn
      have pc := S.good.percent
      have sums : ∀ r, H3 (if r then s0 else s1) = some (.lst (sumsV (s.way r) (mostOf r))) := fun r => by cases r <;> assumption
      have tit : ∀ r, TitOk (s.way r) := fun r => (S.good.way r).tit
      have f3 : ∀ {q : Addr}, H4 q = none → H3 q = none := fun h => fresh_back e4 h
      have fag : H3 ag = none := fresh_back e4 nag
      have flo : H3 lo = none := fresh_back e45 nlo
      have lea : ag ≠ lo := fun z => by rw [z] at hag; rw [hag] at nlo; cases nlo
      have lfa : fo0 ≠ ag := fun z => by rw [z] at hfo0; rw [hfo0] at nag; cases nag
      have lfl : fo0 ≠ lo := fun z => by
        have := e5 _ _ hfo0
        rw [z] at this
        rw [this] at nlo
        cases nlo
      refine q_forR1 (n := 2) (ea1 ev_c) (by omega) (fun i σ H' => ∃ fo v8 v9 v10, σ = [some (.ref st), some (.ref L), some (nV n), some (.ref pg), some (.ref sm), some (.ref fo), some (.ref ag), some (.ref lo), v8, v9, v10] ∧ Ex H3 H' ∧ H3 fo = none ∧ fo ≠ ag ∧ fo ≠ lo ∧ H' fo = some (.lst (accF a x y i)) ∧ H' ag = some (.lst (accG s x y i)) ∧ H' lo = some (.lst (accL s x y i)))
        (fun H7 e7 => ⟨fo0, none, none, none, rfl, e46.trans e7, nfo0, lfa, lfl, (e5.trans (e6.trans e7)) _ _ hfo0, (e6.trans e7) _ _ hag, e7 _ _ hlo⟩) ?_ ?_
      · rintro i σ H' hi ⟨fo, v8, v9, v10, rfl, e, nfo, qfa, qfl, hf, hg, hl⟩
        obtain ⟨r, er, ei⟩ := wi_of hi
        rw [er]
        have hz : (bnd s r s.percent ar)[if r then ir else ic]? = some (zb x y i) := by
          rw [ei, zb_wn]
          cases r <;> assumption
        have hz2 : wb s i = s.way r := by rw [ei, wb_wn]
        have hi2 : i < 2 := by omega
        have L' := L3.on (.of e)
        have S' := S3.ex e
        obtain ⟨b, hb, hbe⟩ := lay_band T L' S.good har r hz
        refine q_asg (v := .ref b) (hbe ev_v (ev_fld ev_v (e _ _ pg3) T.clP T.nP_area rfl) ev_v (ev_is (ev_two (ev_fld ev_v (e _ _ pg3) T.clP T.nP_numbers rfl) ev_v (e _ _ nn3)) (by cases r <;> rfl))) fun H7 e7 => ?_
        have hb7 := hb.ex e7
        refine q_asgB (eb_callS (TupB.anti _) (ea_cons ev_v (ea2 ev_v (ev_ixT ev_v ev_c (st_of hb7.at_) rfl))) fun H8 e8 Q q => ⟨st, A, s, r, (zb x y i).1, rfl, S'.ex (e7.trans e8), q⟩) fun sp H8 e8 ⟨nsp, hsp⟩ => ?_
        have hb8 := hb7.ex e8
        have e78 := e7.trans e8
        have lf : (accF a x y i).length ≤ 8 := by
          have : i = 0 ∨ i = 1 := by omega
          rcases this with rfl | rfl
          · show 2 ≤ 8; decide
          · show 4 ≤ 8; decide
        refine q_asgB (P := LstB (accF a x y i ++ [nV (zb x y i).1, nV (zb x y i).2])) (eb_catV ev_v (e78 _ _ hf) (eb_lst (ea2 (ev_ixT ev_v ev_c (st_of hb8.at_) rfl) (ev_ixT ev_v ev_c (st_of hb8.at_) rfl)) (by show 2 ≤ 100000; decide)) (by show _ + 2 ≤ _; omega)) fun fo' H9 e9 ⟨nfo', hfo'⟩ => ?_
        have e79 := e78.trans e9
        have ti := again_le (tit r) (zb x y i).1
        refine q_app (v := nV ((wb s i).again (zb x y i).1).length) (e79 _ _ hg) ev_v (ev_is (ev_i (ev_ixT ev_v ev_c (st_of (e9 _ _ hsp)) rfl) (ev_ixT ev_v ev_c (st_of (e9 _ _ hsp)) rfl)) (by
          rw [hz2, again_len (tit r)]
          exact congrArg V.int (by omega))) (by unfold accG; rw [List.length_map, List.length_range]; omega) fun Ha ea => ?_
        have e7a := e79.trans ea
        have ex1 : Ex H3 (upd Ha ag (.lst (accG s x y i ++ [nV ((wb s i).again (zb x y i).1).length]))) := Ex.mut (e.trans e7a) fag
        have bag : But ag H' (upd Ha ag (.lst (accG s x y i ++ [nV ((wb s i).again (zb x y i).1).length]))) := (But.of e7a).trans But.upd
        have b3 : ∀ {q : Addr} {o : HO}, H3 q = some o → q ≠ ag := fun h z => by rw [z, fag] at h; cases h
        obtain ⟨_, ldx, bl, hL3, _⟩ := L3
        have nbg : b ≠ ag := fun z => by have := hb.at_; rw [z, hg] at this; cases this
        have hb' : BandIn (upd Ha ag (.lst (accG s x y i ++ [nV ((wb s i).again (zb x y i).1).length]))) r b (zb x y i) := ⟨bag _ _ hb.at_ nbg, hb.le, hb.lt⟩
        refine s_app (v := nV ((wb s i).extent (zb x y i) * s.percent)) (bag _ _ hl (fun z => lea z.symm)) ev_v (ev_callS (ea_cons ev_v (ea_cons ev_v (ea_cons (ev_is (w := .ref (if r then s0 else s1)) (ev_two ev_v ev_v (ex1 _ _ hsm)) (by cases r <;> rfl)) (ea2 ev_v (ev_fld ev_v (ex1 _ _ hL3) T.clL T.nL_scale rfl))))) fun Hb eb Q q => ⟨st, A, s, r, _, b, zb x y i, s.percent, rfl, (S3.ex ex1).ex eb, eb _ _ (ex1 _ _ (sums r)), hb'.ex eb, pc.2, by rw [hz2] at q; exact q⟩) (by unfold accL; rw [List.length_map, List.length_range]; omega) fun Hb eb => ?_
        have nfoa : fo' ≠ ag := fun z => by rw [z, e78 _ _ hg] at nfo'; cases nfo'
        have nfol : fo' ≠ lo := fun z => by rw [z, e78 _ _ hl] at nfo'; cases nfo'
        refine ⟨fo', _, _, _, rfl, Ex.mut (ex1.trans eb) flo, fresh_back (e.trans e78) nfo', nfoa, nfol, ?_, ?_, ?_⟩
        · rw [upd_ne nfol, eb _ _ (by rw [upd_ne nfoa]; exact ea _ _ hfo')]
          unfold accF
          rw [List.range_succ, List.flatMap_append, List.flatMap_cons, List.flatMap_nil, List.append_nil]
          rfl
        · rw [upd_ne lea, eb _ _ upd_same]
          unfold accG
          rw [List.range_succ, List.map_append]
          rfl
        · rw [upd_same]
          unfold accL
          rw [List.range_succ, List.map_append]
          rfl
      · rintro σ H' ⟨fo, v8, v9, v10, rfl, e, nfo, qfa, qfl, hf, hg, hl⟩
        have es : ansV (Si32.step s (.page n)).2 = (accF a x y 2 ++ accG s x y 2) ++ [nV (s.cols.extent y * s.percent), nV (s.rows.extent x * s.percent)] := by
          show ansV (match s.page n with
            | some x => (⟨0, s.toldPage x⟩ : Si32.Ans)
            | none => Si32.ok (-6)) = _
          rw [hp]
          rfl
        rw [es] at k
        refine s_retB (P := LstB ((accF a x y 2 ++ accG s x y 2) ++ [nV (s.cols.extent y * s.percent), nV (s.rows.extent x * s.percent)])) (eb_cat ?_ ?_ ?_) (k.mono (LstB.anti _) (e03.trans e))
        · exact eb_catVV ev_v hf ev_v hg (by show 6 + 2 ≤ 100000; decide)
        · exact eb_lst (ea2 (ev_ixL ev_v ev_c (sq_of hl) rfl) (ev_ixL ev_v ev_c (sq_of hl) rfl)) (by show 2 ≤ 100000; decide)
        · show 8 + 2 ≤ 100000
          decide
end
end Sh
namespace Sh
open PySem PySem.Spec PyProof.Rows L2 Evl
def psz (x : Si32.Parts) : Nat := x.left.length + x.middle.length + x.right.length
theorem psz_add (x : Si32.Parts) (k : Nat) (b : List Nat) : psz (x.add k b) = psz x + b.length := by
  unfold Si32.Parts.add psz
  split
  · simp only [List.length_append]; omega
  · split
    · simp only [List.length_append]; omega
    · simp only [List.length_append]; omega
theorem psz_tell {page : Int} {pages area : Nat} (h1 : page.natAbs < 10 ^ 12) (h2 : pages < 10 ^ 12) (h3 : area < 10 ^ 12) : ∀ (ms : List Mark) (x : Si32.Parts), psz (tellAll page pages area x ms) ≤ psz x + 13 * ms.length
  | [], x => Nat.le_refl _
  | m :: ms, x => by
    have h := psz_tell h1 h2 h3 ms (x.add m.1 (says page pages area m.2))
    rw [psz_add] at h
    have := says_len (m := m.2) h1 h2 h3
    rw [List.length_cons]
    show psz (tellAll page pages area (x.add m.1 (says page pages area m.2)) ms) ≤ _
    omega
theorem ofParts_len (x : Si32.Parts) : ((Si32.ofParts x).map V.int).length = psz x + 3 := by
  unfold Si32.ofParts Si32.told Si32.ints psz
  simp only [List.length_map, List.length_append, List.length_cons]
  omega
section
variable {P : Program} {w : World} {K : PySem.W.Frag} {mg : Str → Option Value} {base : Heap} {CA CS CL CP CD aM aF aW aL aP aN : Addr}
/-! ### texts -/
abbrev sTexts : Stmt := top 76
def spTexts (CS CA CL : Addr) : Sp := fun vs H Q _ => ∃ st A s L H0, ∃ n : Nat, vs = [.ref st, .ref L, nV n] ∧ n < 4294967296 ∧ SetAt CS CA H st A s ∧ LayAt H0 CL s L H ∧ RetB (LstB (ansV (Si32.step s (.texts n)).2)) H Q
theorem sc_texts : FnScope ["settings", "layout", "n", "page", "number", "above"] ["settings", "layout", "n"] (defScope sTexts) := ⟨rfl, rfl, rfl, by decide +kernel, rfl, by decide +kernel, by decide +kernel⟩
theorem d_texts (T : Txt K mg CA CS CL CP CD aM aF aW aL aP aN) (F0 : Src K mg "texts" sTexts ["settings", "layout", "n"]) (D1 : Def P w K mg base 3 "page_at" ["settings", "layout", "n"] (spPage CS CA CL CP)) (D2 : Def P w K mg base 4 "parts_told" ["marks", "page", "pages", "area"] spTold) :
    Def P w K mg base 5 "texts" ["settings", "layout", "n"] (spTexts CS CA CL) := by
  refine .mk F0 fun f fd F => F.ok sc_texts (fun vs H Q E h => ?_) (fun cdv A outer s H vs Q E hr h => ?_)
  · obtain ⟨_, _, _, _, _, _, rfl, _⟩ := h
    rfl
  · obtain ⟨st, A, s, L, H0, n, rfl, hn, S, hL, k⟩ := h
    have hr3 : Room 3 _ := hr.mono (by decide)
    refine ⟨_, pss_cons (ps_set (i := 3) sc_texts.nd rfl (.inl rfl) (pe_def D1 hr3 rfl (pa_cons (pv 0) (pa_cons (pv 1) (pa_cons (pv 2) pa_nil)))))
      (pss_cons (ps_if (pt_cmpR op_isN (pv 3) pe_non (nomark _)) (pss_one (ps_ret (pe_lst (pa_cons (pe_k rfl T.k_NO_PAGE) pa_nil)))) pss_nil)
      (pss_cons (ps_set (i := 4) sc_texts.nd rfl (.inl rfl) (pe_op op_add (pe_fld (pv 0) rfl) (pv 2)))
      (pss_cons (ps_set (i := 5) sc_texts.nd rfl (.inl rfl) (pe_def D2 hr rfl (pa_cons (pe_fld (pv 0) rfl) (pa_cons (pv 4) (pa_cons (pe_fld (pv 1) rfl) (pa_cons (pe_op op_add (pe_fld (pv 3) rfl) pe_int) pa_nil))))))
      (pss_one (ps_ret (pe_op op_cat (pe_op op_cat (pe_lst (pa_cons pe_int pa_nil)) (pv 5)) (pe_def D2 hr rfl (pa_cons (pe_fld (pv 0) rfl) (pa_cons (pv 4) (pa_cons (pe_fld (pv 1) rfl) (pa_cons (pe_op op_add (pe_fld (pv 3) rfl) pe_int) pa_nil))))))))))), ?_⟩
    cases hp : s.page n with
    | none =>
      refine q_asg (v := .non) (ev_callS (ea_cons ev_v (ea2 ev_v ev_v)) fun H1 e Q q => ⟨st, A, s, L, H0, n, rfl, S.ex e, hL.on (.of e), fun _ => q, (fun a r c x y ar h => by rw [hp] at h; cases h)⟩) fun H1 e1 => ?_
      refine q_when (et_test (ev_is (ev_isN ev_v) (by rfl))) (fun _ H2 e2 => ?_) (fun c => by cases c)
      have es : ansV (Si32.step s (.texts n)).2 = [V.int (-6)] := by
        show ansV (match s.page n with
          | some x => (match Si32.parts (s.first + n) s.count (x.area + 1) s.head, Si32.parts (s.first + n) s.count (x.area + 1) s.foot with
            | some a, some b => (⟨0, Si32.ofParts a ++ Si32.ofParts b⟩ : Si32.Ans)
            | _, _ => Si32.ok (-3))
          | none => Si32.ok (-6)) = _
        rw [hp]
        rfl
      rw [es] at k
      exact s_retB (eb_lst (ea1 ev_c) (by show 1 ≤ 100000; decide)) (k.mono (LstB.anti _) (e1.trans e2))
    | some pg =>
      obtain ⟨a, x, y⟩ := pg
      obtain ⟨ar, _, _, har, _, _⟩ := page_some hp
      have al := S.good.alen
      have hal : a < s.areas.length := (List.getElem?_eq_some_iff.mp har).1
      have cl := count_le S.good
      have fr := S.good.first
      have bn : (s.first + (n : Int)).natAbs < 10 ^ 12 := by omega
      have bc : s.count < 10 ^ 12 := by omega
      have ba : a + 1 < 10 ^ 12 := by omega
      have txt : ∀ {p : Addr} {b : List Nat}, TextAt (A.mut st) H p b → Si32.goodText b = true → ∃ ms xs, marksOf b = some ms ∧ H p = some (.lst xs) ∧ LstOf (fun q (m : Mark) => H q = some (.tup [nV m.1, .int m.2])) xs ms ∧ ms.length ≤ 255 ∧ (∀ m ∈ ms, m.1 < 3 ∧ -3 ≤ m.2) := fun {p b} ⟨ms, h1, h2⟩ hg => by
        obtain ⟨_, xs, h3, h4⟩ := h2.of
        obtain ⟨h5, h6⟩ := marksOf_ok h1
        rw [goodText_eq, Bool.and_eq_true, decide_eq_true_iff] at hg
        exact ⟨ms, xs, h1, h3, h4.imp fun q m h => h.1, by omega, h6⟩
      obtain ⟨m1, x1, hm1, hx1, l1, c1, d1⟩ := txt S.hd S.good.head
      obtain ⟨m2, x2, hm2, hx2, l2, c2, d2⟩ := txt S.ft S.good.foot
      have es : ansV (Si32.step s (.texts n)).2 = ([V.int 0] ++ (Si32.ofParts (tellAll (s.first + n) s.count (a + 1) ⟨[], [], []⟩ m1)).map V.int) ++ (Si32.ofParts (tellAll (s.first + n) s.count (a + 1) ⟨[], [], []⟩ m2)).map V.int := by
        show ansV (match s.page n with
          | some x => (match Si32.parts (s.first + n) s.count (x.area + 1) s.head, Si32.parts (s.first + n) s.count (x.area + 1) s.foot with
            | some a, some b => (⟨0, Si32.ofParts a ++ Si32.ofParts b⟩ : Si32.Ans)
            | _, _ => Si32.ok (-3))
          | none => Si32.ok (-6)) = _
        rw [hp]
        show ansV (match Si32.parts (s.first + n) s.count (a + 1) s.head, Si32.parts (s.first + n) s.count (a + 1) s.foot with
            | some a, some b => (⟨0, Si32.ofParts a ++ Si32.ofParts b⟩ : Si32.Ans)
            | _, _ => Si32.ok (-3)) = _
        rw [parts_eq, parts_eq, hm1, hm2]
        show V.int 0 :: List.map V.int (Si32.ofParts (tellAll (s.first + n) s.count (a + 1) ⟨[], [], []⟩ m1) ++ Si32.ofParts (tellAll (s.first + n) s.count (a + 1) ⟨[], [], []⟩ m2)) = _
        rw [List.map_append]
        rfl
      rw [es] at k
      have z1 := psz_tell bn bc ba m1 ⟨[], [], []⟩
      have z2 := psz_tell bn bc ba m2 ⟨[], [], []⟩
      have z0 : psz ⟨[], [], []⟩ = 0 := rfl
      refine q_asgB (page_call (CP := CP) hp har (ea_cons ev_v (ea2 ev_v ev_v)) S hL) fun pg H1 e1 ⟨ir, ic, hx, hy, _, pdx, nn, hpg, hnn⟩ => ?_
      refine q_when (et_test (ev_is (ev_isN ev_v) (by rfl))) (fun c => by cases c) (fun _ H2 e2 => ?_)
      have e12 := e1.trans e2
      obtain ⟨_, ldx, bl, hLi, _⟩ := hL
      refine q_asg (ev_i (S_first T (S.ex e12) ev_v) ev_v) fun H3 e3 => ?_
      have e03 := e12.trans e3
      have pg3 := (e2.trans e3) _ _ hpg
      have call : ∀ {H' : Hp} {σ : L2.St} {tp : TE} {p : Addr} {ms : List Mark} {xs : List V}, Ex H H' → Ex H3 H' → σ[1]? = some (some (.ref L)) → σ[3]? = some (some (.ref pg)) → σ[4]? = some (some (.int (s.first + n))) → Ev tp σ H' (.ref p) → H p = some (.lst xs) → LstOf (fun q (m : Mark) => H q = some (.tup [nV m.1, .int m.2])) xs ms → ms.length ≤ 255 → (∀ m ∈ ms, m.1 < 3 ∧ -3 ≤ m.2) →
          EvB (tCall spTold [] E0 (tCons tp (tCons (tVar 4) (tCons (tFld K (tVar 1) "pages") (tCons (tOp (rI0 fun i j => .int (i + j)) (tFld K (tVar 3) "area") (tC (.int 1))) tNil))))) σ H' (LstB ((Si32.ofParts (tellAll (s.first + n) s.count (a + 1) ⟨[], [], []⟩ ms)).map V.int)) := fun {H' σ tp p ms xs} e e' v1 v3 v4 hp hx hl hc hd =>
        eb_callS (LstB.anti _) (ea_cons hp (ea_cons (ev_var v4) (ea2 (ev_fld (ev_var v1) (e _ _ hLi) T.clL T.nL_pages rfl) (ev_is (w := nV (a + 1)) (ev_i (ev_fld (ev_var v3) (e' _ _ pg3) T.clP T.nP_area rfl) ev_c) rfl)))) fun H4 e4 Q q => ⟨p, ms, xs, s.first + n, s.count, a + 1, rfl, (e.trans e4) _ _ hx, hl.imp fun q m h => (e.trans e4) _ _ h, hc, hd, bn, bc, ba, q⟩
      refine q_asgB (call e03 (Ex.refl _) rfl rfl rfl (S_head T (S.ex e03) ev_v) hx1 l1 c1 d1) fun ab H4 e4 ⟨_, hab⟩ => ?_
      have e04 := e03.trans e4
      refine s_retB (eb_cat (eb_catN (eb_lst (ea1 ev_c) (by show 1 ≤ 100000; decide)) ev_v hab (by rw [ofParts_len]; show 1 + _ ≤ _; omega)) (call e04 e4 rfl rfl rfl (S_foot T (S.ex e04) ev_v) hx2 l2 c2 d2) (by rw [List.length_append, ofParts_len, ofParts_len]; show 1 + _ + _ ≤ _; omega)) (k.mono (LstB.anti _) e04)
end
end Sh
namespace Sh
open PySem PySem.Spec PyProof.Rows L2 Evl
def triV (t : Nat × Nat × Nat) : List V := [nV t.1, nV t.2.1, nV t.2.2]
/-- where a cell is, in one area, by its bands -/
theorem tri_at {s : Si32.St} (g : Good s) {row col a : Nat} {ar : Si32.Area} (ha : s.areas[a]? = some ar) (hh : hasK s row col a = true) :
    ∃ (ix : Bool → Nat) (z : Bool → Si32.Band), ∀ r, (bnd s r s.percent ar)[ix r]? = some (z r) ∧ (z r).1 ≤ (if r then row else col) ∧ (if r then row else col) ≤ (z r).2 ∧ (∀ (j : Nat) (y : Si32.Band), (bnd s r s.percent ar)[j]? = some y → (y.1 ≤ (if r then row else col) ↔ j ≤ ix r)) ∧
      tri s row col a = (before s a + num s s.percent ar (ix true) (ix false), spt s false (z false) col, spt s true (z true) row) := by
  have hm : ar ∈ s.areas := List.mem_of_getElem? ha
  unfold hasK at hh
  rw [getD_of ha] at hh
  obtain ⟨m, k, x, y, e1, e2, e3, e4, f1, f2, f3, f4, e⟩ := triA_has g hm row col (before s a) hh
  have et : tri s row col a = (before s a + num s s.percent ar m k, spt s false y col, spt s true x row) := by
    unfold tri
    rw [getD_of ha, e]
    rfl
  refine ⟨fun r => if r then m else k, fun r => if r then x else y, fun r => ?_⟩
  cases r
  · exact ⟨f1, f2, f3, f4, et⟩
  · exact ⟨e1, e2, e3, e4, et⟩
section
variable {P : Program} {w : World} {K : PySem.W.Frag} {mg : Str → Option Value} {base : Heap} {CA CS CL CP CD aM aF aW aL aP aN : Addr}
/-! ### cell_told -/
abbrev sCell : Stmt := top 74
def spCell (CS CA CL : Addr) : Sp := fun vs H Q _ => ∃ st A s L H0 sm s0 s1 c, ∃ a row col : Nat, vs = [.ref st, .ref L, .ref sm, nV a, .ref c] ∧ SetAt CS CA H st A s ∧ LayAt H0 CL s L H ∧ H sm = some (.lst [.ref s0, .ref s1]) ∧ H s0 = some (.lst (sumsV s.rows 4096)) ∧ H s1 = some (.lst (sumsV s.cols 256)) ∧
  H c = some (.lst [nV row, nV col]) ∧ a < s.areas.length ∧ hasK s row col a = true ∧ RetB (LstB (triV (tri s row col a))) H Q
theorem sc_cell : FnScope ["settings", "layout", "sums", "area", "cell", "own", "way", "numbers", "corner", "band"] ["settings", "layout", "sums", "area", "cell"] (defScope sCell) := ⟨rfl, rfl, rfl, by decide +kernel, rfl, by decide +kernel, by decide +kernel⟩
theorem d_cell (T : Txt K mg CA CS CL CP CD aM aF aW aL aP aN) (F0 : Src K mg "cell_told" sCell ["settings", "layout", "sums", "area", "cell"]) (D1 : Def P w K mg base 1 "band_number" ["bands", "place"] spBno) (D2 : Def P w K mg base 5 "stands_at" ["settings", "way", "sums", "band", "scale", "place"] (spStands CS CA))
    (D3 : Def P w K mg base 1 "pages_before" ["layout", "area"] (spBefore CL)) (D4 : Def P w K mg base 1 "number_in_area" ["settings", "own", "numbers"] (spNum CS CA)) :
    Def P w K mg base 6 "cell_told" ["settings", "layout", "sums", "area", "cell"] (spCell CS CA CL) := by
  refine .mk F0 fun f fd F => F.ok sc_cell (fun vs H Q E h => ?_) (fun cdv A outer s H vs Q E hr h => ?_)
  · obtain ⟨_, _, _, _, _, _, _, _, _, _, _, _, rfl, _⟩ := h
    rfl
  · obtain ⟨st, A, s, L, H0, sm, s0, s1, c, a, row, col, rfl, S, hL, hsm, hs0, hs1, hc, ha, hh, k⟩ := h
    have hr1 : Room 1 _ := hr.mono (by decide)
    refine ⟨_, pss_cons (ps_set (i := 5) sc_cell.nd rfl (.inr rfl) (pe_ix ix_list (pe_fld (pv 1) rfl) (pv 3) (fun _ _ => rfl)))
      (pss_cons (ps_setLc (i := 7) (own := [("way", 6)]) (g := gName 6) (tt := tYes) (te := tCall spBno [] E0 (tCons (tOp (rIxL K) (tVar 5) (tVar 6)) (tCons (tOp (rIxL K) (tVar 4) (tVar 6)) tNil))) rfl sc_cell.nd rfl rfl (sw_true rfl rfl rfl (by decide +kernel))
          (pi_range1 rfl T.b_range (pa_cons pe_int pa_nil)) (blkOk_by (own := [("way", 6)]) (N := ["settings", "layout", "sums", "area", "cell", "own", "way", "numbers", "corner", "band"]) (sc := defScope sCell) (by decide +kernel)) (fun _ _ _ _ _ => pg_name (i := 6) sc_cell.nd rfl (Or.inl rfl)) (fun _ _ _ _ _ => pts_nil)
          (fun _ _ _ _ _ => by exact pe_def D1 hr1 rfl (pa_cons (pe_ix ix_list (pv 5) (pv 6) (fun _ _ => rfl)) (pa_cons (pe_ix ix_list (pv 4) (pv 6) (fun _ _ => rfl)) pa_nil))))
      (pss_cons (ps_set (i := 8) sc_cell.nd rfl (.inl rfl) (pe_lst pa_nil))
      (pss_cons (ps_for PassesOwn.never rfl (pi_range1 rfl T.b_range (pa_cons pe_int pa_nil)) (pg_name (i := 6) sc_cell.nd rfl (.inl rfl))
        (pss_cons (ps_set (i := 9) sc_cell.nd rfl (.inl rfl) (pe_ix ix_list (pe_ix ix_list (pv 5) (pv 6) (fun _ _ => rfl)) (pe_ix ix_list (pv 7) (pv 6) (fun _ _ => rfl)) (fun _ _ => rfl)))
        (pss_one (ps_expr (pe_bm PySem.F.plainAttrs_list PySem.F.slot_list_append PySem.F.type_list_append mt_append (pv 8) (pa_cons (pe_def D2 hr rfl (pa_cons (pv 0) (pa_cons (pv 6) (pa_cons (pe_ix ix_list (pv 2) (pv 6) (fun _ _ => rfl)) (pa_cons (pv 9) (pa_cons (pe_fld (pv 1) rfl) (pa_cons (pe_ix ix_list (pv 4) (pv 6) (fun _ _ => rfl)) pa_nil))))))) pa_nil))))))
      (pss_one (ps_ret (pe_lst (pa_cons (pe_op op_add (pe_def D3 hr1 rfl (pa_cons (pv 1) (pa_cons (pv 3) pa_nil))) (pe_def D4 hr1 rfl (pa_cons (pv 0) (pa_cons (pv 5) (pa_cons (pv 7) pa_nil))))) (pa_cons (pe_ix ix_list (pv 8) pe_int (fun _ _ => rfl)) (pa_cons (pe_ix ix_list (pv 8) pe_int (fun _ _ => rfl)) pa_nil))))))))), ?_⟩
    have ha' := List.getElem?_eq_getElem ha
    generalize s.areas[a] = ar at ha'
    have hm : ar ∈ s.areas := List.mem_of_getElem? ha'
    obtain ⟨ix, z, hz⟩ := tri_at S.good ha' hh
    have ht := (hz true).2.2.2.2
    have al := S.good.alen
    have pc := S.good.percent
    have hL0 := hL
    obtain ⟨_, ldx, bl, hLi, hB⟩ := hL
    obtain ⟨_, xs0, hx0, lo0⟩ := hB.of
    obtain ⟨q, hq, hO⟩ := lo0.get ha'
    have hO0 := hO
    obtain ⟨_, p0, p1, hq1, h0, h1⟩ := hO
    have bs : ∀ r, BandsAt H0 (bnd s r s.percent ar) (if r then p0 else p1) H := fun r => by cases r <;> assumption
    have sums : ∀ r, H (if r then s0 else s1) = some (.lst (sumsV (s.way r) (mostOf r))) := fun r => by cases r <;> assumption
    refine q_asg (v := .ref q) (ev_ixL (ev_fld ev_v hLi T.clL T.nL_bands rfl) ev_v (sq_of hx0) (atI_nat hq)) fun H1 e1 => ?_
    refine q_asgL (xs := given (2 : Int).toNat (fun _ => true) (fun i => nV (ix (decide (i = 0))))) (el_lcR1 (fun _ => true) (fun i => nV (ix (decide (i = 0)))) (ea1 ev_c) (by decide) (fun _ => rfl) (fun i H2 e2 hi => et_yes) (fun i H2 e2 hi _ => ?_)) fun nn H2 hnn0 e2 hnn => ?_
    · obtain ⟨r, er, ei⟩ := wi_of hi
      have e02 := e1.trans e2
      rw [er, show decide (i = 0) = r by rw [ei]; cases r <;> rfl]
      refine ev_callS (ea2 (ev_is (w := .ref (if r then p0 else p1)) (ev_two ev_v ev_v (e02 _ _ hq1)) (by cases r <;> rfl)) (ev_is (w := nV (if r then row else col)) (ev_two ev_v ev_v (e02 _ _ hc)) (by cases r <;> rfl))) fun H3 e3 Q q => ⟨_, H0, bnd s r s.percent ar, if r then row else col, ix r, rfl, (bs r).on (.of (e02.trans e3)), (hz r).2.2.2.1, (List.getElem?_eq_some_iff.mp (hz r).1).1, (len_le S.good hm r s.percent).2, q⟩
    have hnn : H2 nn = some (.lst [nV (ix true), nV (ix false)]) := hnn
    refine q_asgL (el_lst ea_nil (by decide)) fun co H3 hco0 e3 hco => ?_
    have e03 := e1.trans (e2.trans e3)
    have hnn3 := e3 _ _ hnn
    have f0 : H co = none := fresh_back (e1.trans e2) hco0
    have nec : nn ≠ co := fun z => by rw [z, hco0] at hnn; cases hnn
    refine q_forR1 (n := 2) (ea1 ev_c) (by omega) (fun i σ H' => ∃ v6 v9, σ = [some (.ref st), some (.ref L), some (.ref sm), some (nV a), some (.ref c), some (.ref q), v6, some (.ref nn), some (.ref co), v9] ∧ Ex H H' ∧ H' nn = some (.lst [nV (ix true), nV (ix false)]) ∧ H' co = some (.lst ((List.range i).map fun j => nV (spt s (decide (j = 0)) (z (decide (j = 0))) (if decide (j = 0) then row else col)))))
      (fun H4 e4 => ⟨none, none, rfl, e03.trans e4, e4 _ _ hnn3, e4 _ _ hco⟩) ?_ ?_
    · rintro i σ H' hi ⟨v6, v9, rfl, e, hn', hc'⟩
      obtain ⟨r, er, ei⟩ := wi_of hi
      have er' : decide (i = 0) = r := by rw [ei]; cases r <;> rfl
      rw [er]
      have S' := S.ex e
      obtain ⟨_, ys, hy, ly⟩ := (bs r).of
      obtain ⟨b, hb, hb2⟩ := ly.get (hz r).1
      obtain ⟨g1, g2, g3⟩ := Part.ge (S.good.part hm r s.percent) (hz r).1
      have lt := (S.good.area hm r).2
      have bi : BandIn H r b (z r) := ⟨hb2.2, g2, by omega⟩
      have ne : ∀ {p : Addr} {o : HO}, H p = some o → p ≠ co := fun h z => by rw [z, f0] at h; cases h
      refine q_asg (v := .ref b) (ev_ixL (ev_is (w := .ref (if r then p0 else p1)) (ev_two ev_v ev_v (e _ _ hq1)) (by cases r <;> rfl)) (ev_is (w := nV (ix r)) (ev_two ev_v ev_v hn') (by cases r <;> rfl)) (sq_of (e _ _ hy)) (atI_nat hb)) fun H4 e4 => ?_
      have e04 := e.trans e4
      refine s_app (v := nV (spt s r (z r) (if r then row else col))) (e4 _ _ hc') ev_v (ev_callS (ea_cons ev_v (ea_cons ev_v (ea_cons (ev_is (w := .ref (if r then s0 else s1)) (ev_two ev_v ev_v (e04 _ _ hsm)) (by cases r <;> rfl)) (ea_cons ev_v (ea2 (ev_fld ev_v (e04 _ _ hLi) T.clL T.nL_scale rfl) (ev_is (w := nV (if r then row else col)) (ev_two ev_v ev_v (e04 _ _ hc)) (by cases r <;> rfl))))))) fun H5 e5 Q q => ⟨st, A, s, r, _, b, z r, s.percent, if r then row else col, rfl, S.ex (e04.trans e5), (e04.trans e5) _ _ (sums r), bi.ex (e04.trans e5), pc.2, (hz r).2.1, (hz r).2.2.1, q⟩) (by rw [List.length_map, List.length_range]; omega) fun H5 e5 => ?_
      refine ⟨_, _, rfl, Ex.mut (e04.trans e5) f0, ?_, ?_⟩
      · rw [upd_ne nec]
        exact e5 _ _ (e4 _ _ hn')
      · rw [upd_same, List.range_succ, List.map_append, List.map_cons, List.map_nil, er']
    · rintro σ H' ⟨v6, v9, rfl, e, hn', hc'⟩
      have hc2 : H' co = some (.lst [nV (spt s true (z true) row), nV (spt s false (z false) col)]) := hc'
      rw [ht] at k
      have l0 := (len_le S.good hm true s.percent).2
      have l1 := (len_le S.good hm false s.percent).2
      refine s_retB (P := LstB [nV (before s a + num s s.percent ar (ix true) (ix false)), nV (spt s false (z false) col), nV (spt s true (z true) row)]) (eb_lst (ea_cons (ev_is (ev_i (ev_callS (ea2 ev_v ev_v) fun H5 e5 Q q => ⟨L, H0, s, a, rfl, hL0.on (.of (e.trans e5)), S.good, by omega, q⟩) (ev_callS (ea_cons ev_v (ea2 ev_v ev_v)) fun H5 e5 Q q => ⟨st, A, s, _, nn, H0, bnd s true s.percent ar, bnd s false s.percent ar, ix true, ix false, rfl, S.ex (e.trans e5), hO0.on (.of (e.trans e5)), e5 _ _ hn', l0, l1, q⟩)) ?_) (ea2 (ev_ixL ev_v ev_c (sq_of hc2) rfl) (ev_ixL ev_v ev_c (sq_of hc2) rfl))) (by show 3 ≤ 100000; decide)) (k.mono (LstB.anti _) e)
      exact congrArg V.int (Int.natCast_add _ _).symm
end
end Sh
namespace Sh
open PySem PySem.Spec PyProof.Rows L2 Evl
def hits (s : Si32.St) (row col : Nat) : List Nat := (List.range s.areas.length).filter (hasK s row col)
theorem hits_len (s : Si32.St) (row col : Nat) : (hits s row col).length ≤ s.areas.length := by
  have := List.length_filter_le (hasK s row col) (List.range s.areas.length)
  rw [List.length_range] at this
  exact this
theorem tris_len (s : Si32.St) (row col : Nat) : ∀ l : List Nat, (l.flatMap fun a => triV (tri s row col a)).length = 3 * l.length
  | [] => rfl
  | a :: l => by
    rw [List.flatMap_cons, List.length_append, tris_len s row col l, List.length_cons]
    show 3 + _ = _
    omega
theorem where_ans {s : Si32.St} (g : Good s) {row col : Nat} (h : ¬ (4096 ≤ row ∨ 256 ≤ col)) : ansV (Si32.step s (.where_ row col)).2 = nV (hits s row col).length :: (hits s row col).flatMap fun a => triV (tri s row col a) := by
  show ansV (if Si32.ROWS ≤ row ∨ Si32.COLS ≤ col then Si32.ok (-1) else (⟨((s.where_ row col).length : Int), (s.where_ row col).flatMap fun (x : Nat × Nat × Nat) => Si32.ints [x.1, x.2.1, x.2.2]⟩ : Si32.Ans)) = _
  rw [if_neg (show ¬ (Si32.ROWS ≤ row ∨ Si32.COLS ≤ col) from h), where_eq g]
  show V.int (((List.map (tri s row col) (hits s row col)).length : Nat) : Int) :: List.map V.int ((List.map (tri s row col) (hits s row col)).flatMap fun (x : Nat × Nat × Nat) => Si32.ints [x.1, x.2.1, x.2.2]) = _
  rw [List.length_map, List.map_flatMap, List.flatMap_map]
  rfl
section
variable {P : Program} {w : World} {K : PySem.W.Frag} {mg : Str → Option Value} {base : Heap} {CA CS CL CP CD aM aF aW aL aP aN : Addr}
/-! ### where -/
abbrev sWhere : Stmt := top 75
def spWhere (CS CA CL : Addr) : Sp := fun vs H Q _ => ∃ st A s L H0, ∃ row col : Nat, vs = [.ref st, .ref L, nV row, nV col] ∧ SetAt CS CA H st A s ∧ LayAt H0 CL s L H ∧ RetB (LstB (ansV (Si32.step s (.where_ row col)).2)) H Q
theorem sc_where : FnScope ["settings", "layout", "row", "column", "sums", "cell", "area", "some", "found"] ["settings", "layout", "row", "column"] (defScope sWhere) := ⟨rfl, rfl, rfl, by decide +kernel, rfl, by decide +kernel, by decide +kernel⟩
theorem d_where (T : Txt K mg CA CS CL CP CD aM aF aW aL aP aN) (F0 : Src K mg "where" sWhere ["settings", "layout", "row", "column"]) (D1 : Def P w K mg base 2 "both_sums" ["settings"] (spBoth CS CA)) (D2 : Def P w K mg base 1 "has_cell" ["area", "cell"] (spHas CA))
    (D3 : Def P w K mg base 6 "cell_told" ["settings", "layout", "sums", "area", "cell"] (spCell CS CA CL)) :
    Def P w K mg base 7 "where" ["settings", "layout", "row", "column"] (spWhere CS CA CL) := by
  refine .mk F0 fun f fd F => F.ok sc_where (fun vs H Q E h => ?_) (fun cdv A outer s H vs Q E hr h => ?_)
  · obtain ⟨_, _, _, _, _, _, _, rfl, _⟩ := h
    rfl
  · obtain ⟨st, A, s, L, H0, row, col, rfl, S, hL, k⟩ := h
    have hr1 : Room 1 _ := hr.mono (by decide)
    have hr2 : Room 2 _ := hr.mono (by decide)
    refine ⟨_, pss_cons (ps_if (PW.pt (pw_or (pt_cmpR op_ge (pv 2) (pe_ix ix_tup (pe_kr rfl T.many) pe_int (fun _ _ => rfl)) (nomark _)) (pw_or1 (pt_cmpR op_ge (pv 3) (pe_ix ix_tup (pe_kr rfl T.many) pe_int (fun _ _ => rfl)) (nomark _))))) (pss_one (ps_ret (pe_lst (pa_cons (pe_k rfl T.k_OUT_OF_RANGE) pa_nil)))) pss_nil)
      (pss_cons (ps_set (i := 4) sc_where.nd rfl (.inl rfl) (pe_def D1 hr2 rfl (pa_cons (pv 0) pa_nil)))
      (pss_cons (ps_set (i := 5) sc_where.nd rfl (.inr rfl) (pe_lst (pa_cons (pv 2) (pa_cons (pv 3) pa_nil))))
      (pss_cons (ps_setLc (i := 7) (own := [("area", 6)]) (g := gName 6) (tt := tB (tCall (spHas CA) [] E0 (tCons (tOp (rIxL K) (tFld K (tVar 0) "areas") (tVar 6)) (tCons (tVar 5) tNil)))) (te := tVar 6) rfl sc_where.nd rfl rfl (sw_true rfl rfl rfl (by decide +kernel))
          (pi_range1 rfl T.b_range (pa_cons (pe_callB call_len_seq (by rfl) T.b_len PySem.boot_len (pa_cons (pe_fld (pv 0) rfl) pa_nil)) pa_nil)) (blkOk_by (own := [("area", 6)]) (N := ["settings", "layout", "row", "column", "sums", "cell", "area", "some", "found"]) (sc := defScope sWhere) (by decide +kernel)) (fun _ _ _ _ _ => pg_name (i := 6) sc_where.nd rfl (Or.inl rfl))
          (fun _ _ _ _ _ => by exact pts_one (pt_val (pe_def D2 hr1 rfl (pa_cons (pe_ix ix_list (pe_fld (pv 0) rfl) (pv 6) (fun _ _ => rfl)) (pa_cons (pv 5) pa_nil)))))
          (fun _ _ _ _ _ => by exact pv 6))
      (pss_cons (ps_set (i := 8) sc_where.nd rfl (.inl rfl) (pe_lst (pa_cons (pe_callB call_len_seq (by rfl) T.b_len PySem.boot_len (pa_cons (pv 7) pa_nil)) pa_nil)))
      (pss_cons (ps_for PassesOwn.never rfl (pi_list (pv 7)) (pg_name (i := 6) sc_where.nd rfl (.inl rfl))
        (pss_one (ps_set (i := 8) sc_where.nd rfl (.inl rfl) (pe_op op_cat (pv 8) (pe_def D3 hr rfl (pa_cons (pv 0) (pa_cons (pv 1) (pa_cons (pv 4) (pa_cons (pv 6) (pa_cons (pv 5) pa_nil))))))))))
      (pss_one (ps_ret (pv 8)))))))), ?_⟩
    refine q_when (et_or (b := decide ((256 : Int) ≤ (col : Int))) (et_test (ev_i ev_v (ev_ixT ev_c ev_c (T.many_ _) rfl))) (fun _ => et_test (ev_i ev_v (ev_ixT ev_c ev_c (T.many_ _) rfl)))) (fun c H1 e1 => ?_) (fun c H1 e1 => ?_)
    · rw [Bool.or_eq_true, decide_eq_true_iff, decide_eq_true_iff] at c
      have es : ansV (Si32.step s (.where_ row col)).2 = [V.int (-1)] := by
        show ansV (if Si32.ROWS ≤ row ∨ Si32.COLS ≤ col then Si32.ok (-1) else _) = _
        rw [if_pos (by show 4096 ≤ row ∨ 256 ≤ col; omega)]
        rfl
      rw [es] at k
      exact s_retB (eb_lst (ea1 ev_c) (by show 1 ≤ 100000; decide)) (k.mono (LstB.anti _) e1)
    · rw [Bool.or_eq_false_iff, decide_eq_false_iff_not, decide_eq_false_iff_not] at c
      rw [where_ans S.good (by omega)] at k
      have al := S.good.alen
      have hl := hits_len s row col
      refine q_asgB (P := BothB s) (eb_callS (TwoB.anti (LstB.anti _) (LstB.anti _)) (ea1 ev_v) fun H3 e3 Q q => ⟨st, A, s, rfl, S.ex (e1.trans e3), q⟩) fun sm H2 e2 ⟨_, s0, s1, hsm, ⟨_, hs0⟩, ⟨_, hs1⟩⟩ => ?_
      refine q_asgB (P := LstB [nV row, nV col]) (eb_lst (ea2 ev_v ev_v) (by show 2 ≤ 100000; decide)) fun ce H3 e3 ⟨_, hce⟩ => ?_
      have e03 := (e1.trans e2).trans e3
      have S3 := S.ex e03
      obtain ⟨_, xs0, hx0, lo0⟩ := S3.ar.of
      have arl := lo0.len
      refine q_asgL (xs := given (xs0.length : Int).toNat (hasK s row col) nV) (el_lcR1 (n := (xs0.length : Int)) (hasK s row col) nV (ea1 (ev_lenS (S_areas T S3 ev_v) (sq_of hx0) rfl)) (by omega) (fun _ => rfl) (fun i H4 e4 hi => ?_) (fun i H4 e4 hi _ => ev_v)) fun so H4 nso e4 hso => ?_
      · have hi' : i < s.areas.length := by omega
        have ha := List.getElem?_eq_getElem hi'
        generalize s.areas[i] = a at ha
        obtain ⟨q, hq, hA⟩ := lo0.get ha
        rw [show hasK s row col i = hasA a row col from by unfold hasK; rw [getD_of ha]]
        exact et_B (ev_callS (ea2 (ev_ixL (S_areas T (S3.ex e4) ev_v) ev_v (sq_of (e4 _ _ hx0)) (atI_nat hq)) ev_v) fun H5 e5 Q q' => ⟨q, a, A.mut st, ce, row, col, rfl, hA.stay (.of (e4.trans e5)), (e4.trans e5) _ _ hce, q'⟩)
      · have hso : H4 so = some (.lst (nVs (hits s row col))) := by
          rw [hso, show ((xs0.length : Nat) : Int).toNat = s.areas.length by omega]
          rfl
        have lso : (nVs (hits s row col)).length = (hits s row col).length := List.length_map _
        have e04 := e03.trans e4
        refine q_asgB (P := LstB [nV (hits s row col).length]) (eb_lst (ea1 (ev_lenS ev_v (sq_of hso) lso)) (by show 1 ≤ 100000; decide)) fun f0 H5 e5 ⟨nf0, hf0⟩ => ?_
        have e05 := e04.trans e5
        refine q_forLn (a := so) (xs := nVs (hits s row col)) ev_v (sq_of (e5 _ _ hso)) (fun i σ H' => ∃ v6 fo, σ = [some (.ref st), some (.ref L), some (nV row), some (nV col), some (.ref sm), some (.ref ce), v6, some (.ref so), some (.ref fo)] ∧ Ex H5 H' ∧ H fo = none ∧ H' fo = some (.lst (nV (hits s row col).length :: ((hits s row col).take i).flatMap fun a => triV (tri s row col a))))
          (fun H6 e6 => ⟨none, f0, rfl, e6, fresh_back e04 nf0, e6 _ _ hf0⟩) (fun i σ H' _ ⟨_, _, _, e, _⟩ => sq_of ((e5.trans e) _ _ hso)) ?_ ?_
        · rintro i v σ H' hi ⟨v6, fo, rfl, e, hfo, hf⟩
          rw [List.getElem?_map] at hi
          cases hz : (hits s row col)[i]? with
          | none =>
            rw [hz] at hi
            cases hi
          | some a =>
            rw [hz] at hi
            obtain rfl : nV a = v := Option.some.inj hi
            have hmem : a ∈ hits s row col := List.mem_of_getElem? hz
            obtain ⟨hr', hh⟩ := List.mem_filter.mp hmem
            have hal := List.mem_range.mp hr'
            have il := (List.getElem?_eq_some_iff.mp hz).1
            have e0' := e05.trans e
            have e2' := (e3.trans (e4.trans e5)).trans e
            have e3' := (e4.trans e5).trans e
            refine s_asgB (P := LstB ((nV (hits s row col).length :: ((hits s row col).take i).flatMap fun a => triV (tri s row col a)) ++ triV (tri s row col a))) (eb_catV ev_v hf (eb_callS (LstB.anti _) (ea_cons ev_v (ea_cons ev_v (ea_cons ev_v (ea2 ev_v ev_v)))) fun H7 e7 Q q => ⟨st, A, s, L, H0, sm, s0, s1, ce, a, row, col, rfl, S.ex (e0'.trans e7), hL.on (.of (e0'.trans e7)), (e2'.trans e7) _ _ hsm, (e2'.trans e7) _ _ hs0, (e2'.trans e7) _ _ hs1, (e3'.trans e7) _ _ hce, hal, hh, q⟩) ?_) fun fo' H8 e8 ⟨nf, hf8⟩ => ⟨_, fo', rfl, e.trans e8, fresh_back e0' nf, ?_⟩
            · rw [List.length_cons, tris_len, List.length_take]
              show _ + 3 ≤ _
              omega
            · rw [hf8, take_snoc' hz, List.flatMap_append, List.flatMap_cons, List.flatMap_nil, List.append_nil]
              rfl
        · rintro σ H' ⟨v6, fo, rfl, e, hfo, hf⟩
          rw [lso, List.take_length] at hf
          exact s_retV ev_v fun H6 e6 => k fo H6 ((e05.trans e).trans e6) ⟨hfo, e6 _ _ hf⟩
end
end Sh
namespace Sh
open PySem PySem.Spec PyProof.Rows L2 Evl
section
variable {K : PySem.W.Frag} {σ : L2.St} {H : Hp} {ta : TA} {D : Ends} {tz tu : TS} {sp : Sp} {vs : List V} {E : XK}
theorem q_asgC {i : Nat} (h : EvA ta σ H vs) (hs : ∀ H1, Ex H H1 → sp vs H1 (fun v H2 => tz D (σ.set i (some v)) H2) E) : tSeq (tAsg (tCall sp [] E ta) (gName i)) tz D σ H := h H (Ex.refl H) _ fun H1 e => by
  show sp (vs ++ []) H1 _ E
  rw [List.append_nil]
  exact hs H1 e
theorem s_retC (h : EvA ta σ H vs) (hs : ∀ H1, Ex H H1 → sp vs H1 D.rt E) : tRet (tCall sp [] E ta) D σ H := h H (Ex.refl H) _ fun H1 e => by
  show sp (vs ++ []) H1 _ E
  rw [List.append_nil]
  exact hs H1 e
theorem s_retC1 (h : EvA ta σ H vs) (hs : ∀ H1, Ex H H1 → sp vs H1 (fun v H2 => ∀ p, H2 p = none → D.rt (.ref p) (upd H2 p (.lst [v]))) E) : tRet (tLst (tCons (tCall sp [] E ta) tNil)) D σ H := h H (Ex.refl H) _ fun H1 e => by
  show sp (vs ++ []) H1 (fun v H2 => [v].length ≤ sizeLine ∧ ∀ p, H2 p = none → D.rt (.ref p) (upd H2 p (.lst [v]))) E
  rw [List.append_nil]
  have e1 : (fun (v : V) (H2 : Hp) => [v].length ≤ sizeLine ∧ ∀ p, H2 p = none → D.rt (.ref p) (upd H2 p (.lst [v]))) = fun v H2 => ∀ p, H2 p = none → D.rt (.ref p) (upd H2 p (.lst [v])) := by
    funext v H2
    exact propext ⟨fun h => h.2, fun h => ⟨by show 1 ≤ sizeLine; decide, h⟩⟩
  rw [e1]
  exact hs H1 e
/-- if kind == c: not so, so -/
theorem q_no {i : Nat} {k c : Int} (h : σ[i]? = some (some (.int k))) (n : decide (k = c) = false) (g : ∀ H1, Ex H H1 → tz D σ H1) : tSeq (tIfS (tTest (tOp rEq (tVar i) (tC (.int c)))) tu tNext) tz D σ H :=
  q_when (et_test (ev_is (ev_op (ev_var h) ev_c (rv_eq rfl)) (by rw [decV, n]))) (fun z => by cases z) (fun _ H1 e => g H1 e)
theorem q_yes {i : Nat} {k c : Int} (h : σ[i]? = some (some (.int k))) (n : decide (k = c) = true) (g : ∀ H1, Ex H H1 → tu { D with nx := tz D } σ H1) : tSeq (tIfS (tTest (tOp rEq (tVar i) (tC (.int c)))) tu tNext) tz D σ H :=
  q_when (et_test (ev_is (ev_op (ev_var h) ev_c (rv_eq rfl)) (by rw [decV, n]))) (fun _ H1 e => g H1 e) (fun z => by cases z)
end
/-! ### a call by its numbers -/
abbrev iN (n : Nat) : Int := (n : Int)
abbrev iB (b : Bool) : Int := if b then 1 else 0
inductive Dec : Int → List Int → List (List Int) → Si32.Call → Prop where
  | begins : Dec 0 [] [] .begins
  | size (r : Bool) (a b n : Nat) : Dec 1 [wi r, a, b, n] [] (.size r a b n)
  | paper (p : Si32.Paper) : Dec 2 [p.width, p.height, p.left, p.right, p.top, p.bottom] [] (.paper p)
  | areas (as : List Si32.Area) (h : as.length ≤ 40) : Dec 3 [] [(as.flatMap four).map iN] (.areas as)
  | titles (r : Bool) (t : Option (Nat × Nat)) : Dec 4 [wi r] [(spanL t).map iN] (.titles r t)
  | breaks (r : Bool) (l : List Nat) (h : l.length ≤ 600) : Dec 5 [wi r] [l.map iN] (.breaks r l)
  | scale (p : Nat) : Dec 6 [(p : Int)] [] (.scale (.told p))
  | fit (x y : Nat) : Dec 7 [(x : Int), (y : Int)] [] (.scale (.fit x y))
  | how (o a d : Bool) (f : Int) : Dec 8 [iB o, iB a, iB d, f] [] (.how o a d f)
  | heads (h f : List Nat) (hh : h.length ≤ 300) (hf : f.length ≤ 300) : Dec 9 [] [h.map iN, f.map iN] (.heads h f)
  | pages : Dec 10 [] [] .pages
  | page (n : Nat) : Dec 11 [(n : Int)] [] (.page n)
  | whr (r c : Nat) : Dec 12 [(r : Int), (c : Int)] [] (.where_ r c)
  | texts (n : Nat) (h : n < 4294967296) : Dec 13 [(n : Int)] [] (.texts n)
theorem nVs_iN (l : List Nat) : (l.map iN).map V.int = nVs l := by
  rw [List.map_map]
  rfl
/-- what a call hands in, in the heap -/
structure InAt (H : Hp) (wl ll : Addr) (ws : List Int) (rs : List (List Int)) : Prop where
  w : H wl = some (.lst (ws.map V.int))
  l : ∃ qs : List Addr, H ll = some (.lst (qs.map V.ref)) ∧ qs.length = rs.length ∧ ∀ (i : Nat) (r : List Int), rs[i]? = some r → ∃ q, qs[i]? = some q ∧ H q = some (.lst (r.map V.int))
theorem InAt.one {H : Hp} {wl ll : Addr} {ws : List Int} {r : List Int} (h : InAt H wl ll ws [r]) : ∃ q, H ll = some (.lst [.ref q]) ∧ H q = some (.lst (r.map V.int)) := by
  obtain ⟨qs, h1, h2, h3⟩ := h.l
  obtain ⟨q, e1, e2⟩ := h3 0 r rfl
  refine ⟨q, ?_, e2⟩
  match qs, h2, e1, h1 with
  | [a], _, e1, h1 =>
    cases Option.some.inj e1
    exact h1
theorem InAt.two {H : Hp} {wl ll : Addr} {ws : List Int} {r s : List Int} (h : InAt H wl ll ws [r, s]) : ∃ p q, H ll = some (.lst [.ref p, .ref q]) ∧ H p = some (.lst (r.map V.int)) ∧ H q = some (.lst (s.map V.int)) := by
  obtain ⟨qs, h1, h2, h3⟩ := h.l
  obtain ⟨p, e1, e2⟩ := h3 0 r rfl
  obtain ⟨q, e3, e4⟩ := h3 1 s rfl
  refine ⟨p, q, ?_, e2, e4⟩
  match qs, h2, e1, e3, h1 with
  | [a, b], _, e1, e3, h1 =>
    cases Option.some.inj e1
    cases Option.some.inj e3
    exact h1
theorem InAt.ex {H H' : Hp} {wl ll : Addr} {ws : List Int} {rs : List (List Int)} (h : InAt H wl ll ws rs) (e : Ex H H') : InAt H' wl ll ws rs := by
  obtain ⟨qs, h1, h2, h3⟩ := h.l
  refine ⟨e _ _ h.w, qs, e _ _ h1, h2, fun i r hr => ?_⟩
  obtain ⟨q, e1, e2⟩ := h3 i r hr
  exact ⟨q, e1, e _ _ e2⟩
theorem InAt.stay {H H' : Hp} {wl ll : Addr} {ws : List Int} {rs : List (List Int)} (h : InAt H wl ll ws rs) (e : Stay H H') : InAt H' wl ll ws rs := by
  obtain ⟨qs, h1, h2, h3⟩ := h.l
  refine ⟨e _ _ h.w noDesk_lst, qs, e _ _ h1 noDesk_lst, h2, fun i r hr => ?_⟩
  obtain ⟨q, e1, e2⟩ := h3 i r hr
  exact ⟨q, e1, e _ _ e2 noDesk_lst⟩
/-- the desk is none of what the settings write to -/
theorem desk_off {CS CA CD : Addr} {H : Hp} {d st dx : Addr} {v w : V} {A : Ads} {s : Si32.St} (S : SetAt CS CA H st A s) (h : H d = some (.ins CD dx [("settings", v), ("layout", w)])) : d ∉ A.own st := fun hm => by
  unfold Ads.own at hm
  simp only [List.mem_cons, List.not_mem_nil, or_false] at hm
  rcases hm with rfl | rfl | rfl | rfl | rfl | rfl
  · obtain ⟨dx', hi⟩ := S.ins
    rw [hi] at h
    exact noDesk_set _ _ _ (Option.some.inj h) (.inr (.inr ⟨_, _, rfl⟩))
  all_goals
    first
      | (have := S.sr; rw [h] at this; cases this; done)
      | (have := S.sc; rw [h] at this; cases this; done)
      | (have := S.tl; rw [h] at this; cases this; done)
      | (have := S.ti; rw [h] at this; cases this; done)
      | (have := S.bk; rw [h] at this; cases this; done)
/-- changes answer one number -/
theorem chg_one {k : Int} {ws : List Int} {rs : List (List Int)} {q : Si32.Call} (s : Si32.St) (h : Dec k ws rs q) (hk : k ≤ 9) : ansV (Si32.step s q).2 = [.int (Si32.step s q).2.v] := by
  have : ∀ a : Si32.Ans, a.l = [] → ansV a = [.int a.v] := fun a h => by
    unfold ansV
    rw [h]
    rfl
  apply this
  cases h with
  | begins => rfl
  | size r a b n => show (if _ then _ else if _ then _ else _ : Si32.St × Si32.Ans).2.l = _; split; rfl; split <;> rfl
  | paper p => show (if _ then _ else _ : Si32.St × Si32.Ans).2.l = _; split <;> rfl
  | areas as => show (if _ then _ else if _ then _ else _ : Si32.St × Si32.Ans).2.l = _; split; rfl; split <;> rfl
  | titles r t => show (if _ then _ else _ : Si32.St × Si32.Ans).2.l = _; split <;> rfl
  | breaks r l => show (if _ then _ else if _ then _ else _ : Si32.St × Si32.Ans).2.l = _; split; rfl; split <;> rfl
  | scale p => show (if _ then _ else _ : Si32.St × Si32.Ans).2.l = _; split <;> rfl
  | fit x y => show (if _ then _ else _ : Si32.St × Si32.Ans).2.l = _; split <;> rfl
  | how o a d f => show (if _ then _ else _ : Si32.St × Si32.Ans).2.l = _; split <;> rfl
  | heads h f => show (if _ then _ else _ : Si32.St × Si32.Ans).2.l = _; split <;> rfl
  | pages => omega
  | page n => omega
  | whr r c => omega
  | texts n => omega
section
variable {P : Program} {w : World} {K : PySem.W.Frag} {mg : Str → Option Value} {base : Heap} {CA CS CL CP CD aM aF aW aL aP aN : Addr}
/-! ### changed -/
abbrev sChanged : Stmt := top 77
def spChanged (CS CA CD CL : Addr) : Sp := fun vs H Q _ => ∃ d st A s dx wl ll, ∃ k ws rs q, vs = [.ref d, .int k, .ref wl, .ref ll] ∧ SetAt CS CA H st A s ∧ H d = some (.ins CD dx [("settings", .ref st), ("layout", .non)]) ∧ InAt H wl ll ws rs ∧ Dec k ws rs q ∧ k ≤ 9 ∧
  ∀ H' st' A', DeskAt CS CA CD CL H' d st' A' (Si32.step s q).1 → A'.ex = A.ex → Chg (d :: A.own st) (d :: A'.own st') H H' → Q (.int (Si32.step s q).2.v) H'
theorem sc_changed : FnScope ["desk", "kind", "wholes", "lists", "settings"] ["desk", "kind", "wholes", "lists"] (defScope sChanged) := ⟨rfl, rfl, rfl, by decide +kernel, rfl, by decide +kernel, by decide +kernel⟩
theorem d_changed (T : Txt K mg CA CS CL CP CD aM aF aW aL aP aN) (F0 : Src K mg "changed" sChanged ["desk", "kind", "wholes", "lists"]) (D0 : Def P w K mg base 3 "begun" ["desk"] (spBegun CS CA CD)) (D1 : Def P w K mg base 2 "set_size" ["settings", "way", "first", "last", "n"] (spSize CS CA)) (D2 : Def P w K mg base 1 "set_paper" ["settings", "wholes"] (spPaper CS CA)) (D3 : Def P w K mg base 3 "set_areas" ["settings", "numbers"] (spAreas CS CA))
    (D4 : Def P w K mg base 2 "set_titles" ["settings", "way", "span"] (spTitles CS CA)) (D5 : Def P w K mg base 1 "set_breaks" ["settings", "way", "places"] (spBreaks CS CA)) (D6 : Def P w K mg base 2 "set_scale" ["settings", "p"] (spScale CS CA)) (D7 : Def P w K mg base 1 "set_fit" ["settings", "wide", "tall"] (spFitS CS CA)) (D8 : Def P w K mg base 2 "set_how" ["settings", "wholes"] (spHow CS CA)) (D9 : Def P w K mg base 2 "heads" ["settings", "head", "foot"] (spHeads CS CA)) :
    Def P w K mg base 4 "changed" ["desk", "kind", "wholes", "lists"] (spChanged CS CA CD CL) := by
  refine .mk F0 fun f fd F => F.ok sc_changed (fun vs H Q E h => ?_) (fun cdv A outer s H vs Q E hr h => ?_)
  · obtain ⟨_, _, _, _, _, _, _, _, _, _, _, rfl, _⟩ := h
    rfl
  · obtain ⟨d, st, A, s, dx, wl, ll, kk, ws, rs, q, rfl, S, hd, I, dec, hk, k⟩ := h
    have hr1 : Room 1 _ := hr.mono (by decide)
    have hr2 : Room 2 _ := hr.mono (by decide)
    refine ⟨_, pss_cons (ps_set (i := 4) sc_changed.nd rfl (.inl rfl) (pe_fld (pv 0) rfl))
      (pss_cons (ps_if (pt_cmpR op_eq (pv 1) pe_int (nomark _)) (pss_one (ps_ret (pe_def D0 hr rfl (pa_cons (pv 0) pa_nil)))) pss_nil)
      (pss_cons (ps_if (pt_cmpR op_eq (pv 1) pe_int (nomark _)) (pss_one (ps_ret (pe_def D1 hr2 rfl (pa_cons (pv 4) (pa_cons (pe_ix ix_list (pv 2) pe_int (fun _ _ => rfl)) (pa_cons (pe_ix ix_list (pv 2) pe_int (fun _ _ => rfl)) (pa_cons (pe_ix ix_list (pv 2) pe_int (fun _ _ => rfl)) (pa_cons (pe_ix ix_list (pv 2) pe_int (fun _ _ => rfl)) pa_nil)))))))) pss_nil)
      (pss_cons (ps_if (pt_cmpR op_eq (pv 1) pe_int (nomark _)) (pss_one (ps_ret (pe_def D2 hr1 rfl (pa_cons (pv 4) (pa_cons (pv 2) pa_nil))))) pss_nil)
      (pss_cons (ps_if (pt_cmpR op_eq (pv 1) pe_int (nomark _)) (pss_one (ps_ret (pe_def D3 hr rfl (pa_cons (pv 4) (pa_cons (pe_ix ix_list (pv 3) pe_int (fun _ _ => rfl)) pa_nil))))) pss_nil)
      (pss_cons (ps_if (pt_cmpR op_eq (pv 1) pe_int (nomark _)) (pss_one (ps_ret (pe_def D4 hr2 rfl (pa_cons (pv 4) (pa_cons (pe_ix ix_list (pv 2) pe_int (fun _ _ => rfl)) (pa_cons (pe_ix ix_list (pv 3) pe_int (fun _ _ => rfl)) pa_nil)))))) pss_nil)
      (pss_cons (ps_if (pt_cmpR op_eq (pv 1) pe_int (nomark _)) (pss_one (ps_ret (pe_def D5 hr1 rfl (pa_cons (pv 4) (pa_cons (pe_ix ix_list (pv 2) pe_int (fun _ _ => rfl)) (pa_cons (pe_ix ix_list (pv 3) pe_int (fun _ _ => rfl)) pa_nil)))))) pss_nil)
      (pss_cons (ps_if (pt_cmpR op_eq (pv 1) pe_int (nomark _)) (pss_one (ps_ret (pe_def D6 hr2 rfl (pa_cons (pv 4) (pa_cons (pe_ix ix_list (pv 2) pe_int (fun _ _ => rfl)) pa_nil))))) pss_nil)
      (pss_cons (ps_if (pt_cmpR op_eq (pv 1) pe_int (nomark _)) (pss_one (ps_ret (pe_def D7 hr1 rfl (pa_cons (pv 4) (pa_cons (pe_ix ix_list (pv 2) pe_int (fun _ _ => rfl)) (pa_cons (pe_ix ix_list (pv 2) pe_int (fun _ _ => rfl)) pa_nil)))))) pss_nil)
      (pss_cons (ps_if (pt_cmpR op_eq (pv 1) pe_int (nomark _)) (pss_one (ps_ret (pe_def D8 hr2 rfl (pa_cons (pv 4) (pa_cons (pv 2) pa_nil))))) pss_nil)
      (pss_one (ps_ret (pe_def D9 hr2 rfl (pa_cons (pv 4) (pa_cons (pe_ix ix_list (pv 3) pe_int (fun _ _ => rfl)) (pa_cons (pe_ix ix_list (pv 3) pe_int (fun _ _ => rfl)) pa_nil))))))))))))))), ?_⟩
    have off := desk_off S hd
    refine q_asg (v := .ref st) (ev_fld ev_v hd T.clD T.nD_settings rfl) fun H0 e0 => ?_
    -- the settings as they are changed by a call below
    have mv : ∀ {H1 : Hp}, Ex H H1 → MutR CS CA st A (Si32.step s q).1 (Si32.step s q).2.v H1 Q := fun {H1} e H' A' S' ⟨c, hxx⟩ => by
      obtain ⟨h1, h2⟩ := c _ _ (e _ _ hd) off
      refine k H' st A' ⟨S', dx, .non, h1, .inl rfl⟩ hxx fun b o hb hm => ?_
      have n1 : b ≠ d := fun z => hm (z ▸ List.mem_cons_self)
      obtain ⟨h3, h4⟩ := c b o (e _ _ hb) fun z => hm (List.mem_cons_of_mem _ z)
      exact ⟨h3, fun z => (List.mem_cons.mp z).elim n1 h4⟩
    have wx : ∀ {H1 : Hp} {σ : L2.St} {v : V} (i : Nat), Ex H H1 → σ[2]? = some (some (.ref wl)) → (ws.map V.int)[i]? = some v → Ev (tOp (rIxL K) (tVar 2) (tC (.int (i : Int)))) σ H1 v := fun i e h2 hv => ev_ixL (ev_var h2) ev_c (sq_of (e _ _ I.w)) (atI_nat hv)
    cases dec with
    | begins =>
      refine q_yes rfl (by decide) fun H1 e1 => ?_
      refine s_retC (ea1 ev_v) fun H2 e2 => ?_
      have e := e0.trans (e1.trans e2)
      have nex : A.ex.Nodup := (List.nodup_append.mp S.nd).2.1
      refine ⟨d, dx, .ref st, .non, A.ex, rfl, e _ _ hd, nex, (S.ex e).exs, fun H3 st' A' hxx bt hd3 S' hm => k H3 st' A' ⟨S', dx, .non, hd3, .inl rfl⟩ hxx fun b o hb hmm => ?_⟩
      have n1 : b ≠ d := fun z => hmm (z ▸ List.mem_cons_self)
      refine ⟨bt _ _ (e _ _ hb) n1, fun z => (List.mem_cons.mp z).elim n1 fun z => ?_⟩
      have := fresh_back e (hm b z)
      rw [this] at hb
      cases hb
    | size r a b n =>
      iterate 1 (refine q_no rfl (by decide) fun _ ei => ?_; replace e0 := e0.trans ei)
      refine q_yes rfl (by decide) fun H1 e1 => ?_
      replace e0 := e0.trans e1
      exact s_retC (ea_cons ev_v (ea_cons (wx 0 e0 rfl rfl) (ea_cons (wx 1 e0 rfl rfl) (ea2 (wx 2 e0 rfl rfl) (wx 3 e0 rfl rfl))))) fun H2 e2 => ⟨st, A, s, r, a, b, n, rfl, S.ex (e0.trans e2), mv (e0.trans e2)⟩
    | paper p =>
      iterate 2 (refine q_no rfl (by decide) fun _ ei => ?_; replace e0 := e0.trans ei)
      refine q_yes rfl (by decide) fun H1 e1 => ?_
      replace e0 := e0.trans e1
      exact s_retC (ea2 ev_v ev_v) fun H2 e2 => ⟨st, A, s, wl, p, rfl, S.ex (e0.trans e2), (e0.trans e2) _ _ I.w, mv (e0.trans e2)⟩
    | areas as ha =>
      obtain ⟨p, hl, hp⟩ := I.one
      rw [nVs_iN] at hp
      iterate 3 (refine q_no rfl (by decide) fun _ ei => ?_; replace e0 := e0.trans ei)
      refine q_yes rfl (by decide) fun H1 e1 => ?_
      replace e0 := e0.trans e1
      exact s_retC (ea2 ev_v (ev_ixL ev_v ev_c (sq_of (e0 _ _ hl)) rfl)) fun H2 e2 => ⟨st, A, s, p, as, rfl, S.ex (e0.trans e2), (e0.trans e2) _ _ hp, ha, mv (e0.trans e2)⟩
    | titles r t =>
      obtain ⟨p, hl, hp⟩ := I.one
      rw [nVs_iN] at hp
      iterate 4 (refine q_no rfl (by decide) fun _ ei => ?_; replace e0 := e0.trans ei)
      refine q_yes rfl (by decide) fun H1 e1 => ?_
      replace e0 := e0.trans e1
      exact s_retC (ea_cons ev_v (ea2 (wx 0 e0 rfl rfl) (ev_ixL ev_v ev_c (sq_of (e0 _ _ hl)) rfl))) fun H2 e2 => ⟨st, A, s, r, p, t, rfl, S.ex (e0.trans e2), (e0.trans e2) _ _ hp, mv (e0.trans e2)⟩
    | breaks r l hl' =>
      obtain ⟨p, hl, hp⟩ := I.one
      rw [nVs_iN] at hp
      iterate 5 (refine q_no rfl (by decide) fun _ ei => ?_; replace e0 := e0.trans ei)
      refine q_yes rfl (by decide) fun H1 e1 => ?_
      replace e0 := e0.trans e1
      exact s_retC (ea_cons ev_v (ea2 (wx 0 e0 rfl rfl) (ev_ixL ev_v ev_c (sq_of (e0 _ _ hl)) rfl))) fun H2 e2 => ⟨st, A, s, r, p, l, rfl, S.ex (e0.trans e2), (e0.trans e2) _ _ hp, hl', mv (e0.trans e2)⟩
    | scale p =>
      iterate 6 (refine q_no rfl (by decide) fun _ ei => ?_; replace e0 := e0.trans ei)
      refine q_yes rfl (by decide) fun H1 e1 => ?_
      replace e0 := e0.trans e1
      exact s_retC (ea2 ev_v (wx 0 e0 rfl rfl)) fun H2 e2 => ⟨st, A, s, p, rfl, S.ex (e0.trans e2), mv (e0.trans e2)⟩
    | fit x y =>
      iterate 7 (refine q_no rfl (by decide) fun _ ei => ?_; replace e0 := e0.trans ei)
      refine q_yes rfl (by decide) fun H1 e1 => ?_
      replace e0 := e0.trans e1
      exact s_retC (ea_cons ev_v (ea2 (wx 0 e0 rfl rfl) (wx 1 e0 rfl rfl))) fun H2 e2 => ⟨st, A, s, x, y, rfl, S.ex (e0.trans e2), mv (e0.trans e2)⟩
    | how o a dw f =>
      iterate 8 (refine q_no rfl (by decide) fun _ ei => ?_; replace e0 := e0.trans ei)
      refine q_yes rfl (by decide) fun H1 e1 => ?_
      replace e0 := e0.trans e1
      exact s_retC (ea2 ev_v ev_v) fun H2 e2 => ⟨st, A, s, wl, o, a, dw, f, rfl, S.ex (e0.trans e2), (e0.trans e2) _ _ I.w, mv (e0.trans e2)⟩
    | heads h f hh hf =>
      obtain ⟨p, p', hl, hp, hp'⟩ := I.two
      rw [nVs_iN] at hp hp'
      iterate 9 (refine q_no rfl (by decide) fun _ ei => ?_; replace e0 := e0.trans ei)
      exact s_retC (ea_cons ev_v (ea2 (ev_ixL ev_v ev_c (sq_of (e0 _ _ hl)) rfl) (ev_ixL ev_v ev_c (sq_of (e0 _ _ hl)) rfl))) fun H2 e2 => ⟨st, A, s, p, p', h, f, rfl, S.ex (e0.trans e2), (e0.trans e2) _ _ hp, (e0.trans e2) _ _ hp', hh, hf, mv (e0.trans e2)⟩
    | pages => omega
    | page n => omega
    | whr r c => omega
    | texts n => omega
end
end Sh
namespace Sh
open PySem PySem.Spec PyProof.Rows L2 Evl
section
variable {P : Program} {w : World} {K : PySem.W.Frag} {mg : Str → Option Value} {base : Heap} {CA CS CL CP CD aM aF aW aL aP aN : Addr}
/-! ### asked -/
abbrev sAsked : Stmt := top 78
def spAsked (CS CA CD CL : Addr) : Sp := fun vs H Q _ => ∃ d st A s wl, ∃ k ws rs q, vs = [.ref d, .int k, .ref wl] ∧ DeskAt CS CA CD CL H d st A s ∧ H wl = some (.lst (ws.map V.int)) ∧ Dec k ws rs q ∧ 10 ≤ k ∧
  ∀ H' p, DeskAt CS CA CD CL H' d st A (Si32.step s q).1 → But d H H' → H p = none → H' p = some (.lst (ansV (Si32.step s q).2)) → Q (.ref p) H'
theorem sc_asked : FnScope ["desk", "kind", "wholes", "layout"] ["desk", "kind", "wholes"] (defScope sAsked) := ⟨rfl, rfl, rfl, by decide +kernel, rfl, by decide +kernel, by decide +kernel⟩
theorem d_asked (T : Txt K mg CA CS CL CP CD aM aF aW aL aP aN) (F0 : Src K mg "asked" sAsked ["desk", "kind", "wholes"]) (D0 : Def P w K mg base 7 "layout_now" ["desk"] (spNow CS CA CD CL)) (D1 : Def P w K mg base 1 "pages_told" ["layout"] (spPTold CL)) (D2 : Def P w K mg base 4 "page_told" ["settings", "layout", "n"] (spPgT CS CA CL))
    (D3 : Def P w K mg base 7 "where" ["settings", "layout", "row", "column"] (spWhere CS CA CL)) (D4 : Def P w K mg base 5 "texts" ["settings", "layout", "n"] (spTexts CS CA CL)) :
    Def P w K mg base 8 "asked" ["desk", "kind", "wholes"] (spAsked CS CA CD CL) := by
  refine .mk F0 fun f fd F => F.ok sc_asked (fun vs H Q E h => ?_) (fun cdv A outer s H vs Q E hr h => ?_)
  · obtain ⟨_, _, _, _, _, _, _, _, _, rfl, _⟩ := h
    rfl
  · obtain ⟨d, st, A, s, wl, kk, ws, rs, q, rfl, D, hw, dec, hk, k⟩ := h
    have hr1 : Room 1 _ := hr.mono (by decide)
    have hr4 : Room 4 _ := hr.mono (by decide)
    have hr5 : Room 5 _ := hr.mono (by decide)
    refine ⟨_, pss_cons (ps_set (i := 3) sc_asked.nd rfl (.inl rfl) (pe_def D0 hr rfl (pa_cons (pv 0) pa_nil)))
      (pss_cons (ps_if (pt_cmpR op_eq (pv 1) pe_int (nomark _)) (pss_one (ps_ret (pe_def D1 hr1 rfl (pa_cons (pv 3) pa_nil)))) pss_nil)
      (pss_cons (ps_if (pt_cmpR op_eq (pv 1) pe_int (nomark _)) (pss_one (ps_ret (pe_def D2 hr4 rfl (pa_cons (pe_fld (pv 0) rfl) (pa_cons (pv 3) (pa_cons (pe_ix ix_list (pv 2) pe_int (fun _ _ => rfl)) pa_nil)))))) pss_nil)
      (pss_cons (ps_if (pt_cmpR op_eq (pv 1) pe_int (nomark _)) (pss_one (ps_ret (pe_def D3 hr rfl (pa_cons (pe_fld (pv 0) rfl) (pa_cons (pv 3) (pa_cons (pe_ix ix_list (pv 2) pe_int (fun _ _ => rfl)) (pa_cons (pe_ix ix_list (pv 2) pe_int (fun _ _ => rfl)) pa_nil))))))) pss_nil)
      (pss_one (ps_ret (pe_def D4 hr5 rfl (pa_cons (pe_fld (pv 0) rfl) (pa_cons (pv 3) (pa_cons (pe_ix ix_list (pv 2) pe_int (fun _ _ => rfl)) pa_nil))))))))), ?_⟩
    refine q_asgC (ea1 ev_v) fun H0 e0 => ⟨d, st, A, s, rfl, D.ex e0, fun H1 L s1 b1 D1 hL => ?_⟩
    have bt : But d H H1 := (But.of e0).trans b1
    have S := D1.set
    have hd' := D1.ins
    obtain ⟨dx, lv, hd, _⟩ := hd'
    have dw : wl ≠ d := fun z => by
      obtain ⟨_, _, h, _⟩ := D.ins
      rw [← z, hw] at h
      cases h
    have hw1 := bt _ _ hw dw
    have fin : (Si32.step s q).1 = s → RetB (LstB (ansV (Si32.step s q).2)) H1 Q := fun es p H' e hp => k H' p (by rw [es]; exact D1.ex e) (bt.trans (.of e)) (bt.fresh hd hp.1) hp.2
    have wx : ∀ {H2 : Hp} {σ : L2.St} {v : V} (i : Nat), Ex H1 H2 → σ[2]? = some (some (.ref wl)) → (ws.map V.int)[i]? = some v → Ev (tOp (rIxL K) (tVar 2) (tC (.int (i : Int)))) σ H2 v := fun i e h2 hv => ev_ixL (ev_var h2) ev_c (sq_of (e _ _ hw1)) (atI_nat hv)
    have sf : ∀ {H2 : Hp} {σ : L2.St}, Ex H1 H2 → σ[0]? = some (some (.ref d)) → Ev (tFld K (tVar 0) "settings") σ H2 (.ref st) := fun e h0 => ev_fld (ev_var h0) (e _ _ hd) T.clD T.nD_settings rfl
    cases dec with
    | pages =>
      refine q_yes rfl (by decide) fun H2 e2 => ?_
      exact s_retB (eb_callS (LstB.anti _) (ea1 ev_v) fun H3 e3 Q q => ⟨L, exH A.ex, s, rfl, hL.on (.of (e2.trans e3)), S.good, q⟩) ((fin rfl).mono (LstB.anti _) e2)
    | page n =>
      refine q_no rfl (by decide) fun H2 e2 => q_yes rfl (by decide) fun H3 e3 => ?_
      have e := e2.trans e3
      exact s_retB (eb_callS (LstB.anti _) (ea_cons (sf e rfl) (ea2 ev_v (wx 0 e rfl rfl))) fun H4 e4 Q q => ⟨st, A, s, L, exH A.ex, n, rfl, S.ex (e.trans e4), hL.on (.of (e.trans e4)), q⟩) ((fin rfl).mono (LstB.anti _) e)
    | whr r c =>
      refine q_no rfl (by decide) fun H2 e2 => q_no rfl (by decide) fun H3 e3 => q_yes rfl (by decide) fun H4 e4 => ?_
      have e := e2.trans (e3.trans e4)
      exact s_retB (eb_callS (LstB.anti _) (ea_cons (sf e rfl) (ea_cons ev_v (ea2 (wx 0 e rfl rfl) (wx 1 e rfl rfl)))) fun H5 e5 Q q => ⟨st, A, s, L, exH A.ex, r, c, rfl, S.ex (e.trans e5), hL.on (.of (e.trans e5)), q⟩) ((fin rfl).mono (LstB.anti _) e)
    | texts n hn =>
      refine q_no rfl (by decide) fun H2 e2 => q_no rfl (by decide) fun H3 e3 => q_no rfl (by decide) fun H4 e4 => ?_
      have e := e2.trans (e3.trans e4)
      exact s_retB (eb_callS (LstB.anti _) (ea_cons (sf e rfl) (ea2 ev_v (wx 0 e rfl rfl))) fun H5 e5 Q q => ⟨st, A, s, L, exH A.ex, n, rfl, hn, S.ex (e.trans e5), hL.on (.of (e.trans e5)), q⟩) ((fin rfl).mono (LstB.anti _) e)
    | _ => omega
/-! ### answered -/
abbrev sAnswered : Stmt := top 79
def spAnswered (CS CA CD CL : Addr) : Sp := fun vs H Q _ => ∃ d st A s wl ll, ∃ k ws rs q, vs = [.ref d, .int k, .ref wl, .ref ll] ∧ DeskAt CS CA CD CL H d st A s ∧ InAt H wl ll ws rs ∧ Dec k ws rs q ∧
  ∀ H' st' A' p, DeskAt CS CA CD CL H' d st' A' (Si32.step s q).1 → A'.ex = A.ex → Chg (d :: A.own st) (d :: A'.own st') H H' → (∀ b o, H b = some o → b ∉ d :: A.own st → b ≠ p) → H' p = some (.lst (ansV (Si32.step s q).2)) → Q (.ref p) H'
theorem sc_answered : FnScope ["desk", "kind", "wholes", "lists"] ["desk", "kind", "wholes", "lists"] (defScope sAnswered) := ⟨rfl, rfl, rfl, by decide +kernel, rfl, by decide +kernel, by decide +kernel⟩
theorem d_answered (T : Txt K mg CA CS CL CP CD aM aF aW aL aP aN) (F0 : Src K mg "answered" sAnswered ["desk", "kind", "wholes", "lists"]) (D1 : Def P w K mg base 8 "asked" ["desk", "kind", "wholes"] (spAsked CS CA CD CL)) (D2 : Def P w K mg base 4 "changed" ["desk", "kind", "wholes", "lists"] (spChanged CS CA CD CL)) :
    Def P w K mg base 9 "answered" ["desk", "kind", "wholes", "lists"] (spAnswered CS CA CD CL) := by
  refine .mk F0 fun f fd F => F.ok sc_answered (fun vs H Q E h => ?_) (fun cdv A outer s H vs Q E hr h => ?_)
  · obtain ⟨_, _, _, _, _, _, _, _, _, _, rfl, _⟩ := h
    rfl
  · obtain ⟨d, st, A, s, wl, ll, kk, ws, rs, q, rfl, D, I, dec, k⟩ := h
    have hr4 : Room 4 _ := hr.mono (by decide)
    refine ⟨_, pss_cons (ps_if (pt_cmpR op_gt (pv 1) (pe_k rfl T.k_HEADS) (nomark _)) (pss_one (ps_ret (pe_def D1 hr rfl (pa_cons (pv 0) (pa_cons (pv 1) (pa_cons (pv 2) pa_nil)))))) pss_nil)
      (pss_cons (ps_fld (pv 0) pe_non rfl) (pss_one (ps_ret (pe_lst (pa_cons (pe_def D2 hr4 rfl (pa_cons (pv 0) (pa_cons (pv 1) (pa_cons (pv 2) (pa_cons (pv 3) pa_nil))))) pa_nil))))), ?_⟩
    refine q_when (et_test (ev_i ev_v ev_c)) (fun c H1 e1 => ?_) (fun c H1 e1 => ?_)
    · rw [decide_eq_true_iff] at c
      refine s_retC (ea_cons ev_v (ea2 ev_v ev_v)) fun H2 e2 => ?_
      have e := e1.trans e2
      refine ⟨d, st, A, s, wl, kk, ws, rs, q, rfl, D.ex e, e _ _ I.w, dec, by omega, fun H' p D' b hp hp' => ?_⟩
      refine k H' st A p D' rfl (fun b' o hb hm => ?_) (fun b' o hb _ z => ?_) hp'
      · exact ⟨b _ _ (e _ _ hb) fun z => hm (z ▸ List.mem_cons_self), hm⟩
      · have := e _ _ hb
        rw [z, hp] at this
        cases this
    · rw [decide_eq_false_iff_not] at c
      have hk : kk ≤ 9 := by omega
      obtain ⟨S, dx, lv, hd, _⟩ := D
      refine q_fld ev_c ev_v (e1 _ _ hd) T.clD T.nD_layout (by show 2 < 1000; decide) fun H2 e2 => ?_
      have e12 := e1.trans e2
      have st2 : Stay H2 (upd H2 d (.ins CD dx [("settings", .ref st), ("layout", .non)])) := .upd (e12 _ _ hd) (.inr (.inr ⟨_, _, rfl⟩))
      have st1 : Stay H (upd H2 d (.ins CD dx [("settings", .ref st), ("layout", .non)])) := (Stay.of e12).trans st2
      have b2 : But d H (upd H2 d (.ins CD dx [("settings", .ref st), ("layout", .non)])) := (But.of e12).trans But.upd
      refine s_retC1 (ea_cons ev_v (ea_cons ev_v (ea2 ev_v ev_v))) fun H3 e3 => ?_
      refine ⟨d, st, A, s, dx, wl, ll, kk, ws, rs, q, rfl, (S.stay st1).ex e3, e3 _ _ upd_same, (I.stay st1).ex e3, dec, hk, fun H' st' A' D' hxx c' p hp => ?_⟩
      have cH : ∀ b o, H b = some o → b ∉ d :: A.own st → H' b = some o ∧ b ∉ d :: A'.own st' := fun b o hb hm => c' b o (e3 _ _ (b2 _ _ hb fun z => hm (z ▸ List.mem_cons_self))) hm
      refine k (upd H' p (.lst [.int (Si32.step s q).2.v])) st' A' p (D'.ex (Ex.new hp)) hxx (fun b o hb hm => ?_) (fun b o hb hm z => ?_) ?_
      · obtain ⟨h1, h2⟩ := cH b o hb hm
        exact ⟨Ex.new hp _ _ h1, h2⟩
      · have := (cH b o hb hm).1
        rw [z, hp] at this
        cases this
      · rw [upd_same, chg_one s dec hk]
end
end Sh
namespace Sh
open PySem PySem.Spec PyProof.Rows L2 Evl
/-! ### a call's numbers, decoded -/
theorem nat_of {z : Int} {b : Nat} (h : Si32Neutral.natural z b = true) : ((z.toNat : Nat) : Int) = z := by
  unfold Si32Neutral.natural at h
  rw [Bool.and_eq_true, decide_eq_true_iff] at h
  omega
theorem bit_of {z : Int} (h : Si32Neutral.natural z 1 = true) : wi (z == 0) = z ∧ iB (z == 1) = z := by
  unfold Si32Neutral.natural at h
  rw [Bool.and_eq_true, decide_eq_true_iff, decide_eq_true_iff] at h
  have : z = 0 ∨ z = 1 := by omega
  rcases this with rfl | rfl <;> exact ⟨rfl, rfl⟩
theorem nats_back : ∀ {l : List Int} {b : Nat}, (l.all fun (z : Int) => Si32Neutral.natural z b) = true → (Si32Neutral.nats l).map iN = l
  | [], _, _ => rfl
  | z :: l, b, h => by
    rw [List.all_cons, Bool.and_eq_true] at h
    show iN z.toNat :: (Si32Neutral.nats l).map iN = _
    rw [nats_back h.2]
    exact congrArg (· :: l) (nat_of h.1)
theorem areas_back {b : Nat} : ∀ (m : Nat) (l : List Int), l.length = 4 * m → (l.all fun (z : Int) => Si32Neutral.natural z b) = true → ((Si32Neutral.areasOf l).flatMap four).map iN = l ∧ (Si32Neutral.areasOf l).length = m
  | 0, l, hl, _ => by
    obtain rfl : l = [] := List.eq_nil_of_length_eq_zero (by omega)
    exact ⟨rfl, rfl⟩
  | m + 1, l, hl, h => by
    match l, hl, h with
    | a :: b' :: c :: d :: r, hl, h =>
      simp only [List.all_cons, Bool.and_eq_true] at h
      obtain ⟨h1, h2, h3, h4, h5⟩ := h
      have hr : r.length = 4 * m := by
        simp only [List.length_cons] at hl
        omega
      obtain ⟨i1, i2⟩ := areas_back m r hr h5
      refine ⟨?_, ?_⟩
      · show iN a.toNat :: iN b'.toNat :: iN c.toNat :: iN d.toNat :: ((Si32Neutral.areasOf r).flatMap four).map iN = _
        rw [i1]
        unfold iN
        rw [nat_of h1, nat_of h2, nat_of h3, nat_of h4]
      · show (Si32Neutral.areasOf r).length + 1 = _
        rw [i2]
    | [], hl, _ => simp at hl
    | [_], hl, _ => simp at hl; omega
    | [_, _], hl, _ => simp at hl; omega
    | [_, _, _], hl, _ => simp at hl; omega
theorem if_some {α : Type} {c : Prop} [Decidable c] {x y : α} (h : (if c then some x else none) = some y) : c ∧ x = y := by
  by_cases hc : c
  · rw [if_pos hc] at h
    exact ⟨hc, Option.some.inj h⟩
  · rw [if_neg hc] at h
    cases h
theorem shape_cases {p : Int} {n k : Nat} (h : PySi32.shape p = some (n, k)) : (p = 0 ∧ n = 0 ∧ k = 0) ∨ (p = 1 ∧ n = 4 ∧ k = 0) ∨ (p = 2 ∧ n = 6 ∧ k = 0) ∨ (p = 3 ∧ n = 0 ∧ k = 1) ∨ (p = 4 ∧ n = 1 ∧ k = 1) ∨ (p = 5 ∧ n = 1 ∧ k = 1) ∨ (p = 6 ∧ n = 1 ∧ k = 0) ∨ (p = 7 ∧ n = 2 ∧ k = 0) ∨ (p = 8 ∧ n = 4 ∧ k = 0) ∨ (p = 9 ∧ n = 0 ∧ k = 2) ∨ (p = 10 ∧ n = 0 ∧ k = 0) ∨ (p = 11 ∧ n = 1 ∧ k = 0) ∨ (p = 12 ∧ n = 2 ∧ k = 0) ∨ (p = 13 ∧ n = 1 ∧ k = 0) := by
  unfold PySi32.shape at h
  by_cases c0 : p = 0
  · rw [if_pos c0] at h
    cases h
    exact .inl ⟨c0, rfl, rfl⟩
  rw [if_neg c0] at h
  by_cases c1 : p = 1
  · rw [if_pos c1] at h
    cases h
    exact .inr (.inl ⟨c1, rfl, rfl⟩)
  rw [if_neg c1] at h
  by_cases c2 : p = 2
  · rw [if_pos c2] at h
    cases h
    exact .inr (.inr (.inl ⟨c2, rfl, rfl⟩))
  rw [if_neg c2] at h
  by_cases c3 : p = 3
  · rw [if_pos c3] at h
    cases h
    exact .inr (.inr (.inr (.inl ⟨c3, rfl, rfl⟩)))
  rw [if_neg c3] at h
  by_cases c4 : p = 4
  · rw [if_pos c4] at h
    cases h
    exact .inr (.inr (.inr (.inr (.inl ⟨c4, rfl, rfl⟩))))
  rw [if_neg c4] at h
  by_cases c5 : p = 5
  · rw [if_pos c5] at h
    cases h
    exact .inr (.inr (.inr (.inr (.inr (.inl ⟨c5, rfl, rfl⟩)))))
  rw [if_neg c5] at h
  by_cases c6 : p = 6
  · rw [if_pos c6] at h
    cases h
    exact .inr (.inr (.inr (.inr (.inr (.inr (.inl ⟨c6, rfl, rfl⟩))))))
  rw [if_neg c6] at h
  by_cases c7 : p = 7
  · rw [if_pos c7] at h
    cases h
    exact .inr (.inr (.inr (.inr (.inr (.inr (.inr (.inl ⟨c7, rfl, rfl⟩)))))))
  rw [if_neg c7] at h
  by_cases c8 : p = 8
  · rw [if_pos c8] at h
    cases h
    exact .inr (.inr (.inr (.inr (.inr (.inr (.inr (.inr (.inl ⟨c8, rfl, rfl⟩))))))))
  rw [if_neg c8] at h
  by_cases c9 : p = 9
  · rw [if_pos c9] at h
    cases h
    exact .inr (.inr (.inr (.inr (.inr (.inr (.inr (.inr (.inr (.inl ⟨c9, rfl, rfl⟩)))))))))
  rw [if_neg c9] at h
  by_cases c10 : p = 10
  · rw [if_pos c10] at h
    cases h
    exact .inr (.inr (.inr (.inr (.inr (.inr (.inr (.inr (.inr (.inr (.inl ⟨c10, rfl, rfl⟩))))))))))
  rw [if_neg c10] at h
  by_cases c11 : p = 11
  · rw [if_pos c11] at h
    cases h
    exact .inr (.inr (.inr (.inr (.inr (.inr (.inr (.inr (.inr (.inr (.inr (.inl ⟨c11, rfl, rfl⟩)))))))))))
  rw [if_neg c11] at h
  by_cases c12 : p = 12
  · rw [if_pos c12] at h
    cases h
    exact .inr (.inr (.inr (.inr (.inr (.inr (.inr (.inr (.inr (.inr (.inr (.inr (.inl ⟨c12, rfl, rfl⟩))))))))))))
  rw [if_neg c12] at h
  by_cases c13 : p = 13
  · rw [if_pos c13] at h
    cases h
    exact .inr (.inr (.inr (.inr (.inr (.inr (.inr (.inr (.inr (.inr (.inr (.inr (.inr (⟨c13, rfl, rfl⟩)))))))))))))
  rw [if_neg c13] at h
  cases h
theorem l0 {α : Type} {l : List α} (h : l.length = 0) : l = [] := List.eq_nil_of_length_eq_zero h
theorem l1 {α : Type} {l : List α} (h : l.length = 1) : ∃ a, l = [a] := by
  match l, h with
  | [a], _ => exact ⟨a, rfl⟩
theorem l2 {α : Type} {l : List α} (h : l.length = 2) : ∃ a b, l = [a, b] := by
  match l, h with
  | [a, b], _ => exact ⟨a, b, rfl⟩
theorem l4 {α : Type} {l : List α} (h : l.length = 4) : ∃ a b c d, l = [a, b, c, d] := by
  match l, h with
  | [a, b, c, d], _ => exact ⟨a, b, c, d, rfl⟩
theorem l6 {α : Type} {l : List α} (h : l.length = 6) : ∃ a b c d e f, l = [a, b, c, d, e, f] := by
  match l, h with
  | [a, b, c, d, e, f], _ => exact ⟨a, b, c, d, e, f, rfl⟩
theorem dec_of {p : Int} {ws : List Int} {rs : List (List Int)} {q : Si32.Call} (hs : PySi32.shape p = some (ws.length, rs.length)) (hb : PyInside.lists (PySi32.bound p).2 rs = true) (hq : Si32Neutral.callOf ((PySi32.whole ((p :: ws) :: rs)).headD []) = some q) : Dec p ws rs q := by
  rcases shape_cases hs with ⟨rfl, h1, h2⟩ | ⟨rfl, h1, h2⟩ | ⟨rfl, h1, h2⟩ | ⟨rfl, h1, h2⟩ | ⟨rfl, h1, h2⟩ | ⟨rfl, h1, h2⟩ | ⟨rfl, h1, h2⟩ | ⟨rfl, h1, h2⟩ | ⟨rfl, h1, h2⟩ | ⟨rfl, h1, h2⟩ | ⟨rfl, h1, h2⟩ | ⟨rfl, h1, h2⟩ | ⟨rfl, h1, h2⟩ | ⟨rfl, h1, h2⟩
  · obtain rfl := l0 h1
    obtain rfl := l0 h2
    obtain rfl : Si32.Call.begins = q := Option.some.inj hq
    exact .begins
  · obtain ⟨a, b, c, d, rfl⟩ := l4 h1
    obtain rfl := l0 h2
    obtain ⟨h, rfl⟩ := if_some (show (if (Si32Neutral.natural a 1 && (Si32Neutral.natural b 32 && (Si32Neutral.natural c 32 && Si32Neutral.natural d 32))) = true then some (Si32.Call.size (a == 0) b.toNat c.toNat d.toNat) else none) = some q from hq)
    simp only [Bool.and_eq_true] at h
    have := Dec.size (a == 0) b.toNat c.toNat d.toNat
    rw [(bit_of h.1).1, nat_of h.2.1, nat_of h.2.2.1, nat_of h.2.2.2] at this
    exact this
  · obtain ⟨a, b, c, d, e, f, rfl⟩ := l6 h1
    obtain rfl := l0 h2
    obtain ⟨h, rfl⟩ := if_some (show (if ([a, b, c, d, e, f].all fun (z : Int) => Si32Neutral.natural z 32) = true then some (Si32.Call.paper ⟨a.toNat, b.toNat, c.toNat, d.toNat, e.toNat, f.toNat⟩) else none) = some q from hq)
    simp only [List.all_cons, List.all_nil, Bool.and_eq_true] at h
    have := Dec.paper ⟨a.toNat, b.toNat, c.toNat, d.toNat, e.toNat, f.toNat⟩
    simp only [nat_of h.1, nat_of h.2.1, nat_of h.2.2.1, nat_of h.2.2.2.1, nat_of h.2.2.2.2.1, nat_of h.2.2.2.2.2.1] at this
    exact this
  · obtain rfl := l0 h1
    obtain ⟨r, rfl⟩ := l1 h2
    obtain ⟨h, rfl⟩ := if_some (show (if (r.all fun (z : Int) => Si32Neutral.natural z 32) = true ∧ (r.length : Int) = 4 * ((r.length : Int) / 4) then some (Si32.Call.areas (Si32Neutral.areasOf r)) else none) = some q from hq)
    have hb : (decide (0 ≤ r.length) && decide (r.length ≤ 160) && r.all (PyInside.within 0 4294967295) && true) = true := hb
    simp only [Bool.and_eq_true, decide_eq_true_iff] at hb
    obtain ⟨a1, a2⟩ := areas_back (r.length / 4) r (by omega) h.1
    have := Dec.areas (Si32Neutral.areasOf r) (by omega)
    rw [a1] at this
    exact this
  · obtain ⟨a, rfl⟩ := l1 h1
    obtain ⟨r, rfl⟩ := l1 h2
    have hb : (decide (0 ≤ r.length) && decide (r.length ≤ 2) && r.all (PyInside.within 0 4294967295) && true) = true := hb
    simp only [Bool.and_eq_true, decide_eq_true_iff] at hb
    match r, hb, hq with
    | [], _, hq =>
      obtain ⟨h, rfl⟩ := if_some (show (if Si32Neutral.natural a 1 = true then some (Si32.Call.titles (a == 0) none) else none) = some q from hq)
      have := Dec.titles (a == 0) none
      rw [(bit_of h).1] at this
      exact this
    | [b], _, hq =>
      have e : (PySi32.whole [[4, a], [b]]).headD [] = [4, a, 0, b] := by
        show [4, a, ((1 : Nat) : Int) / 2, b] = _
        rw [show ((1 : Nat) : Int) / 2 = 0 by decide]
      rw [e] at hq
      cases (show (none : Option Si32.Call) = some q from hq)
    | [b, c], _, hq =>
      have e : (PySi32.whole [[4, a], [b, c]]).headD [] = [4, a, 1, b, c] := by
        show [4, a, ((2 : Nat) : Int) / 2, b, c] = _
        rw [show ((2 : Nat) : Int) / 2 = 1 by decide]
      rw [e] at hq
      obtain ⟨h, rfl⟩ := if_some (show (if (Si32Neutral.natural a 1 && (Si32Neutral.natural b 32 && Si32Neutral.natural c 32)) = true then some (Si32.Call.titles (a == 0) (some (b.toNat, c.toNat))) else none) = some q from hq)
      simp only [Bool.and_eq_true] at h
      have := Dec.titles (a == 0) (some (b.toNat, c.toNat))
      rw [(bit_of h.1).1, show (spanL (some (b.toNat, c.toNat))).map iN = [((b.toNat : Nat) : Int), ((c.toNat : Nat) : Int)] from rfl, nat_of h.2.1, nat_of h.2.2] at this
      exact this
    | _ :: _ :: _ :: _, hb, _ =>
      exfalso
      simp only [List.length_cons] at hb
      omega
  · obtain ⟨a, rfl⟩ := l1 h1
    obtain ⟨r, rfl⟩ := l1 h2
    have hb : (decide (0 ≤ r.length) && decide (r.length ≤ 600) && r.all (PyInside.within 0 4294967295) && true) = true := hb
    simp only [Bool.and_eq_true, decide_eq_true_iff] at hb
    obtain ⟨h, rfl⟩ := if_some (show (if (Si32Neutral.natural a 1 && r.all fun (z : Int) => Si32Neutral.natural z 32) = true ∧ (r.length : Int) = (r.length : Int) then some (Si32.Call.breaks (a == 0) (Si32Neutral.nats r)) else none) = some q from hq)
    rw [Bool.and_eq_true] at h
    have := Dec.breaks (a == 0) (Si32Neutral.nats r) (by unfold Si32Neutral.nats; rw [List.length_map]; omega)
    rw [(bit_of h.1.1).1, nats_back h.1.2] at this
    exact this
  · obtain ⟨a, rfl⟩ := l1 h1
    obtain rfl := l0 h2
    obtain ⟨h, rfl⟩ := if_some (show (if Si32Neutral.natural a 32 = true then some (Si32.Call.scale (.told a.toNat)) else none) = some q from hq)
    have := Dec.scale a.toNat
    rw [nat_of h] at this
    exact this
  · obtain ⟨a, b, rfl⟩ := l2 h1
    obtain rfl := l0 h2
    obtain ⟨h, rfl⟩ := if_some (show (if (Si32Neutral.natural a 32 && Si32Neutral.natural b 32) = true then some (Si32.Call.scale (.fit a.toNat b.toNat)) else none) = some q from hq)
    rw [Bool.and_eq_true] at h
    have := Dec.fit a.toNat b.toNat
    rw [nat_of h.1, nat_of h.2] at this
    exact this
  · obtain ⟨o, a, d, f, rfl⟩ := l4 h1
    obtain rfl := l0 h2
    obtain ⟨h, rfl⟩ := if_some (show (if (Si32Neutral.natural o 1 && (Si32Neutral.natural a 1 && (Si32Neutral.natural d 1 && (decide (-2147483648 ≤ f) && decide (f ≤ 2147483647))))) = true then some (Si32.Call.how (o == 1) (a == 1) (d == 1) f) else none) = some q from hq)
    simp only [Bool.and_eq_true] at h
    have := Dec.how (o == 1) (a == 1) (d == 1) f
    rw [(bit_of h.1).2, (bit_of h.2.1).2, (bit_of h.2.2.1).2] at this
    exact this
  · obtain rfl := l0 h1
    obtain ⟨r, t, rfl⟩ := l2 h2
    have hb : (decide (0 ≤ r.length) && decide (r.length ≤ 300) && r.all (PyInside.within 0 255) && (decide (0 ≤ t.length) && decide (t.length ≤ 300) && t.all (PyInside.within 0 255) && true)) = true := hb
    simp only [Bool.and_eq_true, decide_eq_true_iff] at hb
    have hl : (PySi32.whole [[9], r, t]).headD [] = 9 :: (r.length : Int) :: (r ++ (t.length : Int) :: t) := by
      show [9] ++ [(r.length : Int)] ++ r ++ [(t.length : Int)] ++ t = _
      simp
    rw [hl] at hq
    have ht : (r ++ (t.length : Int) :: t).take ((r.length : Nat) : Int).toNat = r := by rw [Int.toNat_natCast, List.take_left']; rfl
    have hd : (r ++ (t.length : Int) :: t).drop ((r.length : Nat) : Int).toNat = (t.length : Int) :: t := by rw [Int.toNat_natCast, List.drop_left']; rfl
    have hq : (match (r ++ (t.length : Int) :: t).drop ((r.length : Nat) : Int).toNat with
      | m :: f => if (Si32Neutral.natural (r.length : Int) 32 && (decide ((((r ++ (t.length : Int) :: t).take ((r.length : Nat) : Int).toNat).length : Int) = (r.length : Int)) && (((r ++ (t.length : Int) :: t).take ((r.length : Nat) : Int).toNat).all (fun (z : Int) => Si32Neutral.natural z 8) && (f.all fun (z : Int) => Si32Neutral.natural z 8)))) = true ∧ (f.length : Int) = m then some (Si32.Call.heads (Si32Neutral.nats ((r ++ (t.length : Int) :: t).take ((r.length : Nat) : Int).toNat)) (Si32Neutral.nats f)) else none
      | [] => none) = some q := hq
    rw [ht, hd] at hq
    obtain ⟨h, rfl⟩ := if_some hq
    simp only [Bool.and_eq_true] at h
    have := Dec.heads (Si32Neutral.nats r) (Si32Neutral.nats t) (by unfold Si32Neutral.nats; rw [List.length_map]; omega) (by unfold Si32Neutral.nats; rw [List.length_map]; omega)
    rw [nats_back h.1.2.2.1, nats_back h.1.2.2.2] at this
    exact this
  · obtain rfl := l0 h1
    obtain rfl := l0 h2
    obtain rfl : Si32.Call.pages = q := Option.some.inj hq
    exact .pages
  · obtain ⟨a, rfl⟩ := l1 h1
    obtain rfl := l0 h2
    obtain ⟨h, rfl⟩ := if_some (show (if Si32Neutral.natural a 32 = true then some (Si32.Call.page a.toNat) else none) = some q from hq)
    have := Dec.page a.toNat
    rw [nat_of h] at this
    exact this
  · obtain ⟨a, b, rfl⟩ := l2 h1
    obtain rfl := l0 h2
    obtain ⟨h, rfl⟩ := if_some (show (if (Si32Neutral.natural a 32 && Si32Neutral.natural b 32) = true then some (Si32.Call.where_ a.toNat b.toNat) else none) = some q from hq)
    rw [Bool.and_eq_true] at h
    have := Dec.whr a.toNat b.toNat
    rw [nat_of h.1, nat_of h.2] at this
    exact this
  · obtain ⟨a, rfl⟩ := l1 h1
    obtain rfl := l0 h2
    obtain ⟨h, rfl⟩ := if_some (show (if Si32Neutral.natural a 32 = true then some (Si32.Call.texts a.toNat) else none) = some q from hq)
    have hn : a.toNat < 4294967296 := by
      have := h
      unfold Si32Neutral.natural at this
      rw [Bool.and_eq_true, decide_eq_true_iff, decide_eq_true_iff] at this
      have e : ((2 : Int) ^ 32) = 4294967296 := by decide
      omega
    have := Dec.texts a.toNat hn
    rw [nat_of h] at this
    exact this
end Sh
namespace Sh
open PySem PySem.Spec PyProof.Rows L2 Evl
/-! ### the calls of a list of numbers -/
theorem row_some {tt x s : List Int} (h : PyFlat.row tt = some (x, s)) : ∃ n r, tt = n :: r ∧ 0 ≤ n ∧ n.toNat ≤ r.length ∧ x = r.take n.toNat ∧ s = r.drop n.toNat := by
  match tt, h with
  | n :: r, h =>
    have h : (if 0 ≤ n ∧ n.toNat ≤ r.length then some (r.take n.toNat, r.drop n.toNat) else none) = some (x, s) := h
    obtain ⟨h1, h2⟩ := if_some h
    injection h2 with h3 h4
    exact ⟨n, r, rfl, h1.1, h1.2, h3.symm, h4.symm⟩
theorem rows_some {k : Nat} {tt t : List Int} {xs : List (List Int)} (h : PyFlat.rows (k + 1) tt = some (xs, t)) : ∃ x ys s, xs = x :: ys ∧ PyFlat.row tt = some (x, s) ∧ PyFlat.rows k s = some (ys, t) := by
  rw [PyFlat.rows] at h
  cases h1 : PyFlat.row tt with
  | none =>
    rw [h1] at h
    cases h
  | some y =>
    obtain ⟨x, s⟩ := y
    rw [h1] at h
    have h : (match PyFlat.rows k s with
      | none => none
      | some (xs, t) => some (x :: xs, t)) = some (xs, t) := h
    cases h2 : PyFlat.rows k s with
    | none =>
      rw [h2] at h
      cases h
    | some z =>
      obtain ⟨ys, t'⟩ := z
      rw [h2] at h
      have h : some (x :: ys, t') = some (xs, t) := h
      injection h with h
      injection h with h3 h4
      subst h3 h4
      exact ⟨x, ys, s, rfl, rfl, h2⟩
theorem rows_len : ∀ {k : Nat} {tt t : List Int} {xs : List (List Int)}, PyFlat.rows k tt = some (xs, t) → xs.length = k
  | 0, tt, t, xs, h => by
    have h : some (([] : List (List Int)), tt) = some (xs, t) := h
    injection h with h
    injection h with h _
    rw [← h]
    rfl
  | k + 1, tt, t, xs, h => by
    obtain ⟨x, ys, s, rfl, _, h2⟩ := rows_some h
    rw [List.length_cons, rows_len h2]
theorem calls_some {f : Nat} {p : Int} {r : List Int} {cs : List (List (List Int))} (h : PyFlat.calls PySi32.shape f (p :: r) = some cs) :
    ∃ ws rs t f' cs', PySi32.shape p = some (ws.length, rs.length) ∧ ws.length ≤ r.length ∧ ws = r.take ws.length ∧ PyFlat.rows rs.length (r.drop ws.length) = some (rs, t) ∧ PyFlat.calls PySi32.shape f' t = some cs' ∧ cs = ((p :: ws) :: rs) :: cs' := by
  match f, h with
  | f + 1, h =>
    rw [PyFlat.calls] at h
    cases h1 : PyFlat.call PySi32.shape (p :: r) with
    | none =>
      rw [h1] at h
      cases h
    | some y =>
      obtain ⟨c, t⟩ := y
      rw [h1] at h
      have h : (match PyFlat.calls PySi32.shape f t with
        | none => none
        | some cs => some (c :: cs)) = some cs := h
      cases h2 : PyFlat.calls PySi32.shape f t with
      | none =>
        rw [h2] at h
        cases h
      | some cs' =>
        rw [h2] at h
        have h9 : c :: cs' = cs := Option.some.inj h
        rw [PyFlat.call] at h1
        cases h3 : PySi32.shape p with
        | none =>
          rw [h3] at h1
          cases h1
        | some nk =>
          obtain ⟨n, k⟩ := nk
          rw [h3] at h1
          have h1 : (if r.length < n then none else match PyFlat.rows k (r.drop n) with
            | none => none
            | some (xs, t) => some ((p :: r.take n) :: xs, t)) = some (c, t) := h1
          by_cases hn : r.length < n
          · rw [if_pos hn] at h1
            cases h1
          · rw [if_neg hn] at h1
            cases h4 : PyFlat.rows k (r.drop n) with
            | none =>
              rw [h4] at h1
              cases h1
            | some z =>
              obtain ⟨xs, t'⟩ := z
              rw [h4] at h1
              have h1 : some ((p :: r.take n) :: xs, t') = some (c, t) := h1
              injection h1 with h1
              injection h1 with h5 h6
              subst h5 h6
              have e1 : (r.take n).length = n := by rw [List.length_take]; omega
              have e2 := rows_len h4
              exact ⟨r.take n, xs, t', f, cs', by rw [e1, e2], by rw [e1]; omega, by rw [e1], by rw [e1, e2]; exact h4, h2, h9.symm⟩
def wholesV : List V := [0, 4, 6, 0, 1, 1, 1, 2, 4, 0, 0, 1, 2, 1].map V.int
def listsV : List V := [0, 0, 0, 1, 1, 1, 0, 0, 0, 2, 0, 0, 0, 0].map V.int
theorem shape_at {p : Int} {n k : Nat} (h : PySi32.shape p = some (n, k)) : atI wholesV p = some (nV n) ∧ atI listsV p = some (nV k) ∧ n ≤ 6 ∧ k ≤ 2 := by
  rcases shape_cases h with ⟨rfl, rfl, rfl⟩ | ⟨rfl, rfl, rfl⟩ | ⟨rfl, rfl, rfl⟩ | ⟨rfl, rfl, rfl⟩ | ⟨rfl, rfl, rfl⟩ | ⟨rfl, rfl, rfl⟩ | ⟨rfl, rfl, rfl⟩ | ⟨rfl, rfl, rfl⟩ | ⟨rfl, rfl, rfl⟩ | ⟨rfl, rfl, rfl⟩ | ⟨rfl, rfl, rfl⟩ | ⟨rfl, rfl, rfl⟩ | ⟨rfl, rfl, rfl⟩ | ⟨rfl, rfl, rfl⟩ <;> exact ⟨rfl, rfl, by decide, by decide⟩
/-- calls that may be asked -/
def Fine (cs : List (List (List Int))) : Prop := ∀ c ∈ cs, PyInside.call PySi32.bound c = true ∧ Si32Neutral.asked1 (PySi32.whole c) = true
theorem Fine.head {p : Int} {ws : List Int} {rs : List (List Int)} {cs : List (List (List Int))} (h : Fine (((p :: ws) :: rs) :: cs)) (hs : PySi32.shape p = some (ws.length, rs.length)) :
    ∃ q, Dec p ws rs q ∧ ∀ s, Si32Neutral.step s (PySi32.whole ((p :: ws) :: rs)) = ((Si32.step s q).1, (Si32.step s q).2.v :: (Si32.step s q).2.l) := by
  obtain ⟨h1, h2⟩ := h _ List.mem_cons_self
  have h1 : (PyInside.each (PySi32.bound p).1 ws && PyInside.lists (PySi32.bound p).2 rs) = true := h1
  rw [Bool.and_eq_true] at h1
  unfold Si32Neutral.asked1 at h2
  rw [Bool.and_eq_true] at h2
  cases h3 : Si32Neutral.callOf ((PySi32.whole ((p :: ws) :: rs)).headD []) with
  | none =>
    rw [h3] at h2
    cases h2.2
  | some q =>
    refine ⟨q, dec_of hs h1.2 h3, fun s => ?_⟩
    unfold Si32Neutral.step
    rw [h3]
/-- the answers to come -/
def rest (s : Si32.St) (cs : List (List (List Int))) : List Int := PyFlat.told (PyFlat.played Si32Neutral.step s (cs.map PySi32.whole))
theorem rest_cons {s : Si32.St} {c : List (List Int)} {cs : List (List (List Int))} {q : Si32.Call} (h : ∀ s, Si32Neutral.step s (PySi32.whole c) = ((Si32.step s q).1, (Si32.step s q).2.v :: (Si32.step s q).2.l)) :
    rest s (c :: cs) = ((((Si32.step s q).2.v :: (Si32.step s q).2.l).length : Nat) : Int) :: ((Si32.step s q).2.v :: (Si32.step s q).2.l) ++ rest (Si32.step s q).1 cs := by
  unfold rest
  rw [List.map_cons, PyFlat.played, h s]
  rfl
section
variable {K : PySem.W.Frag} {σ : L2.St} {H : Hp} {ta te : TE} {D : Ends} {tz : TS} {xs ys : List V} {v : V}
theorem q_appZ {l : Addr} (hl : H l = some (.lst xs)) (ha : Ev ta σ H (.ref l)) (h : Ev te σ H v) (hz : xs.length < sizeLine) (k : ∀ H1, Ex H H1 → tz D σ (upd H1 l (.lst (xs ++ [v])))) :
    tSeq (tDrop (tBM K "list" rAppend ta (tCons te tNil))) tz D σ H := ha H (Ex.refl H) _ fun H1 e1 =>
  ⟨Or.inl ⟨rfl, xs, sq_of (e1 l _ hl)⟩, h H1 e1 _ fun H2 e2 => ⟨l, xs, v, rfl, rfl, e2 l _ (e1 l _ hl), hz, k H2 (e1.trans e2)⟩⟩
theorem s_extZ {l p : Addr} (hl : H l = some (.lst xs)) (ha : Ev ta σ H (.ref l)) (h : Ev te σ H (.ref p)) (hp : H p = some (.lst ys)) (hz : xs.length + ys.length ≤ sizeLine) (k : ∀ H1, Ex H H1 → D.nx σ (upd H1 l (.lst (xs ++ ys)))) :
    tDrop (tBM K "list" rExtend ta (tCons te tNil)) D σ H := ha H (Ex.refl H) _ fun H1 e1 =>
  ⟨Or.inl ⟨rfl, xs, sq_of (e1 l _ hl)⟩, h H1 e1 _ fun H2 e2 => ⟨l, p, xs, ys, rfl, rfl, e2 l _ (e1 l _ hl), e2 p _ (e1 p _ hp), hz, k H2 (e1.trans e2)⟩⟩
end
/-- the numbers handed in -/
def ReqAt (K : PySem.W.Frag) (H : Hp) (a : Addr) (xs : List V) : Prop := SqL K H a xs
theorem ReqAt.sq {K : PySem.W.Frag} {H : Hp} {a : Addr} {xs : List V} (h : ReqAt K H a xs) : SqL K H a xs := h
theorem ReqAt.ex {K : PySem.W.Frag} {H H' : Hp} {a : Addr} {xs : List V} (h : ReqAt K H a xs) (e : Ex H H') : ReqAt K H' a xs := ex_l e h
def DeskB (CS CA CD : Addr) : PB := fun H0 p H => H0 p = none ∧ ∃ st A dx, A.ex = [] ∧ SetAt CS CA H st A Si32.init ∧ H p = some (.ins CD dx [("settings", .ref st), ("layout", .non)]) ∧ ∀ m ∈ A.own st, H0 m = none
theorem DeskB.anti (CS CA CD : Addr) : Anti (DeskB CS CA CD) := fun _ _ _ _ e ⟨n, st, A, dx, hx, S, D, h⟩ => ⟨fresh_back e n, st, A, dx, hx, S, D, fun m hm => fresh_back e (h m hm)⟩
/-! ### a list that stands apart is written to -/
theorem SetAt.upx {H : Hp} {CS CA st fo : Addr} {A : Ads} {s : Si32.St} {ys : List V} (S : SetAt CS CA H st A s) (hf : fo ∈ A.ex) : SetAt CS CA (upd H fo (.lst ys)) st A s := by
  have k : But fo H (upd H fo (.lst ys)) := But.upd
  have kp : Kp (A.mut st) H (upd H fo (.lst ys)) := .but k (List.mem_append_right _ hf)
  have n : ∀ {m : Addr}, m ∈ A.own st → m ≠ fo := fun hm z => S.off hf hm z.symm
  obtain ⟨dx, hi⟩ := S.ins
  have hx : ∀ b ∈ A.ex, ∃ xs, (upd H fo (.lst ys)) b = some (.lst xs) := fun b hb => by
    by_cases c : b = fo
    · rw [c]
      exact ⟨ys, upd_same⟩
    · obtain ⟨xs, h⟩ := S.exs b hb
      exact ⟨xs, k _ _ h c⟩
  exact { good := S.good, nd := S.nd, ins := ⟨dx, k _ _ hi (n (own_st A st))⟩, sl := S.sl.mv kp, sr := k _ _ S.sr (n (own_sr A st)), sc := k _ _ S.sc (n (own_sc A st)), tl := k _ _ S.tl (n (own_tl A st)), pl := S.pl.mv kp, al := S.al.mv kp, bl := S.bl.mv kp, ti := k _ _ S.ti (n (own_ti A st)), t0 := S.t0.mv kp, t1 := S.t1.mv kp,
          bk := k _ _ S.bk (n (own_bk A st)), b0 := S.b0.mv kp, b1 := S.b1.mv kp, mi := S.mi.mv kp, ar := AreasAt.mv S.ar kp, fi := S.fi.mv kp, fit := S.fit, hd := TextAt.mv S.hd kp, ft := TextAt.mv S.ft kp, exs := hx }
theorem DeskAt.upx {CS CA CD CL : Addr} {H : Hp} {d st fo : Addr} {A : Ads} {s : Si32.St} {ys : List V} (D : DeskAt CS CA CD CL H d st A s) (hf : fo ∈ A.ex) : DeskAt CS CA CD CL (upd H fo (.lst ys)) d st A s := by
  obtain ⟨S, dx, lv, hd, hl⟩ := D
  have nd : d ≠ fo := fun z => by
    obtain ⟨xs, h⟩ := S.exs fo hf
    rw [← z, hd] at h
    cases h
  refine ⟨S.upx hf, dx, lv, by rw [upd_ne nd]; exact hd, ?_⟩
  rcases hl with h | ⟨L, h1, h2⟩
  · exact .inl h
  · refine .inr ⟨L, h1, h2.on fun b o h0 hb => ?_⟩
    rw [upd_ne fun z => exH_none h0 (by rw [z]; exact hf)]
    exact hb
/-! ### a new list is to stand apart -/
section
variable {H H' : Hp} {M : List Addr} {fo : Addr}
/-- what stands ahead of fo -/
def Ahead (H H' : Hp) (fo : Addr) : Prop := H fo = none ∧ Ex H H'
theorem Im.ap {b : Addr} {o : HO} (h : Im M H b o) (a : Ahead H H' fo) : Im (M ++ [fo]) H' b o := ⟨a.2 _ _ h.1, fun hm => by
  rcases List.mem_append.mp hm with z | z
  · exact h.2 z
  · have := h.1
    rw [List.mem_singleton.mp z, a.1] at this
    cases this⟩
theorem TitAt.ap {v : V} {t : Option (Nat × Nat)} (h : TitAt M H v t) (a : Ahead H H' fo) : TitAt (M ++ [fo]) H' v t := by
  cases t with
  | none => exact h
  | some t =>
    obtain ⟨p, h1, h2⟩ := h
    exact ⟨p, h1, h2.ap a⟩
theorem BrkAt.ap {b : Addr} {l : List Nat} (h : BrkAt M H b l) (a : Ahead H H' fo) : BrkAt (M ++ [fo]) H' b l := by
  obtain ⟨kvs, h1, h2⟩ := h
  exact ⟨kvs, h1.ap a, h2⟩
theorem AreaAt.ap {CA p : Addr} {ar : Si32.Area} (h : AreaAt CA M H p ar) (a : Ahead H H' fo) : AreaAt CA (M ++ [fo]) H' p ar := by
  obtain ⟨dx, f, l, h1, h2, h3⟩ := h
  exact ⟨dx, f, l, h1.ap a, h2.ap a, h3.ap a⟩
theorem RefsAt.ap {α : Type} {P P' : Addr → α → Prop} {p : Addr} {l : List α} (h : RefsAt (fun p => p ∉ M) P H p l) (a : Ahead H H' fo) (hp : ∀ q x, P q x → P' q x) : RefsAt (fun p => p ∉ M ++ [fo]) P' H' p l := by
  obtain ⟨f, qs, h1, h2, h3⟩ := h
  refine ⟨(Im.ap ⟨h1, f⟩ a).2, qs, a.2 _ _ h1, h2, fun i x e => ?_⟩
  obtain ⟨q, e1, e2⟩ := h3 i x e
  exact ⟨q, e1, hp q x e2⟩
theorem TextAt.ap {p : Addr} {b : List Nat} (h : TextAt M H p b) (a : Ahead H H' fo) : TextAt (M ++ [fo]) H' p b := by
  obtain ⟨ms, h1, h2⟩ := h
  exact ⟨ms, h1, RefsAt.ap h2 a fun q x h => Im.ap h a⟩
end
theorem SetAt.apart1 {H H' : Hp} {CS CA st fo : Addr} {A : Ads} {s : Si32.St} {ys : List V} (S : SetAt CS CA H st A s) (hx : A.ex = []) (a : Ahead H H' fo) (hf : H' fo = some (.lst ys)) : SetAt CS CA H' st { A with ex := [fo] } s := by
  have hm : A.mut st = A.own st := by
    unfold Ads.mut
    rw [hx, List.append_nil]
  have e := a.2
  obtain ⟨dx, hi⟩ := S.ins
  have em : ({ A with ex := [fo] } : Ads).mut st = A.mut st ++ [fo] := by rw [hm]; rfl
  have hnd : (({ A with ex := [fo] } : Ads).mut st).Nodup := by
    rw [em]
    refine List.nodup_append.mpr ⟨S.nd, List.nodup_cons.mpr ⟨List.not_mem_nil, List.nodup_nil⟩, fun x h1 b hb z => ?_⟩
    rw [z, List.mem_singleton.mp hb] at h1
    exact S.fresh a.1 h1
  have hxs : ∀ b ∈ [fo], ∃ xs, H' b = some (.lst xs) := fun b hb => ⟨ys, by rw [List.mem_singleton.mp hb]; exact hf⟩
  exact { good := S.good, nd := hnd, ins := ⟨dx, e _ _ hi⟩, sl := by rw [em]; exact S.sl.ap a, sr := e _ _ S.sr, sc := e _ _ S.sc, tl := e _ _ S.tl, pl := by rw [em]; exact S.pl.ap a, al := by rw [em]; exact S.al.ap a, bl := by rw [em]; exact S.bl.ap a, ti := e _ _ S.ti, t0 := by rw [em]; exact S.t0.ap a, t1 := by rw [em]; exact S.t1.ap a,
          bk := e _ _ S.bk, b0 := by rw [em]; exact S.b0.ap a, b1 := by rw [em]; exact S.b1.ap a, mi := by rw [em]; exact S.mi.ap a, ar := by rw [em]; exact RefsAt.ap S.ar a fun q x h => AreaAt.ap h a, fi := by rw [em]; exact S.fi.ap a, fit := S.fit, hd := by rw [em]; exact TextAt.ap S.hd a, ft := by rw [em]; exact TextAt.ap S.ft a, exs := hxs }
section
variable {K : PySem.W.Frag} {CS CA CD CL : Addr} {σ : L2.St} {H : Hp}
theorem eb_desk : EvB (tMake CD (spDeskI CS CA CD) [] E0 tNil) σ H (DeskB CS CA CD) := eb_make (PA := NilA) eap_nil fun H1 vs H2 p dx e1 e2 hv hp hdx hne Q q => by
  have hv : vs = [] := hv
  subst hv
  refine ⟨p, dx, rfl, upd_same, fun H3 st A hxx k3 hp3 S hm => ?_⟩
  refine q H3 (made_ex hp hdx k3) ⟨fresh_back e2 hp, st, A, dx, hxx, S, hp3, fun m hmm => ?_⟩
  have := hm m hmm
  by_cases c : m = p
  · rw [c, upd_same] at this
    cases this
  · rw [upd_ne c] at this
    by_cases c2 : m = dx
    · rw [c2, upd_same] at this
      cases this
    · rw [upd_ne c2] at this
      exact fresh_back e2 this
end
section
variable {P : Program} {w : World} {K : PySem.W.Frag} {mg : Str → Option Value} {base : Heap} {CA CS CL CP CD aM aF aW aL aP aN : Addr}
/-! ### answers -/
abbrev sAnswers : Stmt := top 80
def spAnswers (K : PySem.W.Frag) : Sp := fun vs H Q _ => ∃ ca, ∃ l : List Int, vs = [.ref ca] ∧ ReqAt K H ca (l.map V.int) ∧ PySi32.answers_asked l = true ∧ RetB (LstB ((PySi32.answers l).map V.int)) H Q
theorem sc_answers : FnScope ["calls", "desk", "found", "at", "kind", "start", "wholes", "lists", "k", "end", "numbers"] ["calls"] (defScope sAnswers) := ⟨rfl, rfl, rfl, by decide +kernel, rfl, by decide +kernel, by decide +kernel⟩
/-- ahead of a call -/
def AnsW (CS CA CD CL : Addr) (H : Hp) (ca d fo : Addr) (l R : List Int) (m : Nat) (σ : L2.St) (H' : Hp) : Prop := ∃ a acc s st A cs f v4 v5 v6 v7 v8 v9 v10, m = l.length - a ∧ a ≤ l.length ∧ PyFlat.calls PySi32.shape f (l.drop a) = some cs ∧ Fine cs ∧
  σ = [some (.ref ca), some (.ref d), some (.ref fo), some (nV a), v4, v5, v6, v7, v8, v9, v10] ∧ Ex H H' ∧ DeskAt CS CA CD CL H' d st A s ∧ (∀ m ∈ d :: A.own st, H m = none) ∧ A.ex = [fo] ∧ H' fo = some (.lst (acc.map V.int)) ∧ acc ++ rest s cs = R
theorem ok_answers {f : Addr} {fd : FuncData} (T : Txt K mg CA CS CL CP CD aM aF aW aL aP aN) (F : Fun K "answers" "answers" sAnswers f fd) (D0 : Cla P w K mg base 3 CD ["self"] (spDeskI CS CA CD)) (D1 : Def P w K mg base 9 "answered" ["desk", "kind", "wholes", "lists"] (spAnswered CS CA CD CL)) :
    FnOk P w K mg base CX0 10 f fd ["calls"] (spAnswers K) := by
  refine F.ok sc_answers (fun vs H Q E h => ?_) (fun cdv A outer s H vs Q E hr h => ?_)
  · obtain ⟨_, _, rfl, _⟩ := h
    rfl
  · obtain ⟨ca, l, rfl, hca, hask, k⟩ := h
    have hrN : Room (3 + 1) _ := hr.mono (by decide)
    refine ⟨_, pss_cons (ps_set (i := 1) sc_answers.nd rfl (.inl rfl) (pe_new0 D0 hrN rfl T.gD))
      (pss_cons (ps_set (i := 2) sc_answers.nd rfl (.inl rfl) (pe_lst pa_nil))
      (pss_cons (ps_set (i := 3) sc_answers.nd rfl (.inl rfl) pe_int)
      (pss_cons (ps_while PassesOwn.never (pt_cmpR op_lt (pv 3) (pe_callB call_len_seq (by rfl) T.b_len PySem.boot_len (pa_cons (pv 0) pa_nil)) (nomark _))
        (pss_cons (ps_set (i := 4) sc_answers.nd rfl (.inl rfl) (pe_ix ix_list (pv 0) (pv 3) (fun _ _ => rfl)))
        (pss_cons (ps_set (i := 5) sc_answers.nd rfl (.inl rfl) (pe_op op_add (pe_op op_add (pv 3) pe_int) (pe_ix ix_tup (pe_kr rfl T.wholes) (pv 4) (fun _ _ => rfl))))
        (pss_cons (ps_set (i := 6) sc_answers.nd rfl (.inl rfl) (pe_slice sl_list (pv 0) (po_some (pe_op op_add (pv 3) pe_int)) (po_some (pv 5))))
        (pss_cons (ps_set (i := 7) sc_answers.nd rfl (.inl rfl) (pe_lst pa_nil))
        (pss_cons (ps_set (i := 3) sc_answers.nd rfl (.inl rfl) (pv 5))
        (pss_cons (ps_for PassesOwn.never rfl (pi_range1 rfl T.b_range (pa_cons (pe_ix ix_tup (pe_kr rfl T.lists) (pv 4) (fun _ _ => rfl)) pa_nil)) (pg_name (i := 8) sc_answers.nd rfl (.inl rfl))
          (pss_cons (ps_set (i := 9) sc_answers.nd rfl (.inl rfl) (pe_op op_add (pe_op op_add (pv 3) pe_int) (pe_ix ix_list (pv 0) (pv 3) (fun _ _ => rfl))))
          (pss_cons (ps_expr (pe_bm PySem.F.plainAttrs_list PySem.F.slot_list_append PySem.F.type_list_append mt_append (pv 7) (pa_cons (pe_slice sl_list (pv 0) (po_some (pe_op op_add (pv 3) pe_int)) (po_some (pv 9))) pa_nil)))
          (pss_one (ps_set (i := 3) sc_answers.nd rfl (.inl rfl) (pv 9))))))
        (pss_cons (ps_set (i := 10) sc_answers.nd rfl (.inl rfl) (pe_def D1 hr rfl (pa_cons (pv 1) (pa_cons (pv 4) (pa_cons (pv 6) (pa_cons (pv 7) pa_nil))))))
        (pss_cons (ps_expr (pe_bm PySem.F.plainAttrs_list PySem.F.slot_list_append PySem.F.type_list_append mt_append (pv 2) (pa_cons (pe_callB call_len_seq (by rfl) T.b_len PySem.boot_len (pa_cons (pv 10) pa_nil)) pa_nil)))
        (pss_one (ps_expr (pe_bm PySem.F.plainAttrs_list PySem.F.slot_list_extend PySem.F.type_list_extend mt_extend (pv 2) (pa_cons (pv 10) pa_nil)))))))))))))
      (pss_one (ps_ret (pv 2)))))), ?_⟩
    -- what is asked of the numbers
    unfold PySi32.answers_asked at hask
    cases hcs : PyFlat.calls PySi32.shape l.length l with
    | none =>
      rw [hcs] at hask
      cases hask
    | some raw =>
      rw [hcs] at hask
      simp only [Bool.and_eq_true] at hask
      obtain ⟨⟨⟨⟨_, _⟩, hin⟩, hnt⟩, hsh⟩ := hask
      have hR : PySi32.answers l = rest Si32.init raw := by
        unfold PySi32.answers PySi32.calls
        rw [hcs]
        rfl
      have hlen : (PySi32.answers l).length ≤ 10000000 := of_decide_eq_true hsh
      have hfine : Fine raw := fun c hc => by
        refine ⟨List.all_eq_true.mp hin c hc, ?_⟩
        unfold Si32Neutral.asked at hnt
        rw [Bool.and_eq_true] at hnt
        exact List.all_eq_true.mp hnt.1 _ (List.mem_map_of_mem hc)
      rw [hR] at k hlen
      generalize hRe : rest Si32.init raw = R at k hlen
      refine q_asgB (P := DeskB CS CA CD) eb_desk fun d H1 e1 ⟨nd, st, A, dx, hx0, S, hd, hfr⟩ => ?_
      refine q_asgL (el_lst ea_nil (by decide)) fun fo H2 nfo e2 hfo => ?_
      refine q_asg ev_c fun H3 e3 => ?_
      have D2 : DeskAt CS CA CD CL H3 d st { A with ex := [fo] } Si32.init := ⟨S.apart1 hx0 ⟨nfo, e2.trans e3⟩ (e3 _ _ hfo), dx, .non, (e2.trans e3) _ _ hd, .inl rfl⟩
      refine q_while (AnsW CS CA CD CL H ca d fo l R) l.length ⟨0, [], Si32.init, st, { A with ex := [fo] }, raw, l.length, none, none, none, none, none, none, none, by omega, by omega, hcs, hfine, rfl, (e1.trans e2).trans e3, D2, fun m hm => (List.mem_cons.mp hm).elim (fun z => z ▸ nd) (hfr m), rfl, e3 _ _ hfo, hRe⟩ ?_
      rintro m σ H' ⟨a, acc, s, st, A, cs, f, v4, v5, v6, v7, v8, v9, v10, rfl, ha, hcalls, hf, rfl, e, D, hfr, hfo', hfoc, hres⟩
      have rq := hca.ex e
      have hfx : fo ∈ A.ex := by rw [hfo']; exact List.mem_singleton.mpr rfl
      have hoff : fo ∉ d :: A.own st := fun hm => (List.mem_cons.mp hm).elim (fun z => by
        obtain ⟨_, dx, lv, h, _⟩ := D
        rw [← z, hfoc] at h
        cases h) fun hm => D.set.off hfx hm rfl
      refine ⟨_, et_test (ev_i ev_v (ev_lenS ev_v rq.sq (List.length_map _))), fun c Hb eb => ?_, fun c Hb eb => ?_⟩
      · rw [decide_eq_true_iff] at c
        have hal : a < l.length := by omega
        refine ⟨fun σ2 H2 => ∃ m', m' < l.length - a ∧ AnsW CS CA CD CL H ca d fo l R m' σ2 H2, fun _ _ h => h, ?_⟩
        obtain ⟨p, r, hpr⟩ : ∃ p r, l.drop a = p :: r := ⟨_, _, List.drop_eq_getElem_cons hal⟩
        have hpa : l[a]? = some p := by
          have := congrArg (fun l : List Int => l[0]?) hpr
          simpa using this
        have hra : l.drop (a + 1) = r := by
          have := congrArg (fun l : List Int => l.drop 1) hpr
          simpa [List.drop_drop] using this
        have hrl : r.length = l.length - (a + 1) := by rw [← hra, List.length_drop]
        rw [hpr] at hcalls
        obtain ⟨ws, rs, t, f', cs', hsh', hwl, hws, hrows, hcalls', rfl⟩ := calls_some hcalls
        obtain ⟨q, dec, hstep⟩ := hf.head hsh'
        obtain ⟨sa1, sa2, n6, n2⟩ := shape_at hsh'
        have hf' : Fine cs' := fun c hc => hf c (List.mem_cons_of_mem _ hc)
        have lV : (l.map V.int).length = l.length := List.length_map _
        have gV : ∀ {i : Nat} {z : Int}, l[i]? = some z → (l.map V.int)[i]? = some (.int z) := fun h => by rw [List.getElem?_map, h]; rfl
        have eb' := e.trans eb
        have rqb := hca.ex eb'
        refine q_asg (v := .int p) (ev_ixL ev_v ev_v rqb.sq (atI_nat (gV hpa))) fun H1 e1' => ?_
        refine q_asg (v := nV (a + 1 + ws.length)) (ev_is (ev_i (ev_i ev_v ev_c) (ev_ixT ev_c ev_v (T.wholes_ _) sa1)) (congrArg V.int (by omega))) fun H2 e2' => ?_
        have e02 := (eb'.trans e1').trans e2'
        have cutw : cutV (l.map V.int) (some ((a + 1 : Nat) : Int)) (some ((a + 1 + ws.length : Nat) : Int)) = ws.map V.int := by
          rw [cut_nat (by rw [lV]; omega), show a + 1 + ws.length - (a + 1) = ws.length by omega, ← List.map_drop, ← List.map_take, hra, ← hws]
        refine q_asgB (P := LstB (ws.map V.int)) (by
          rw [← cutw]
          exact eb_slice ev_v (eo_some (ev_is (ev_i ev_v ev_c) rfl)) (eo_some ev_v) (hca.ex e02).sq) fun wl Hw ew ⟨_, hwlst⟩ => ?_
        have e0w := e02.trans ew
        have ebw : Ex H' Hw := ((eb.trans e1').trans e2').trans ew
        refine q_asgL (el_lst ea_nil (by decide)) fun ll Hl nll el hll => ?_
        refine q_asg ev_v fun Hm em => ?_
        refine q_forR1 (n := ((rs.length : Nat) : Int)) (ea1 (ev_ixT ev_c ev_v (T.lists_ _) sa2)) (by omega)
          (fun i σ Hc => ∃ a' xs tt v8 v9, σ = [some (.ref ca), some (.ref d), some (.ref fo), some (nV a'), some (.int p), some (nV (a + 1 + ws.length)), some (.ref wl), some (.ref ll), v8, v9, v10] ∧ Ex Hw Hc ∧ Hc ll = some (.lst xs) ∧ LstOf (fun q (r : List Int) => Hc q = some (.lst (r.map V.int)) ∧ q ≠ ll) xs (rs.take i) ∧ l.drop a' = tt ∧ a < a' ∧ a' ≤ l.length ∧ PyFlat.rows (rs.length - i) tt = some (rs.drop i, t))
          (fun Hn en => ⟨a + 1 + ws.length, [], r.drop ws.length, v8, v9, rfl, (el.trans em).trans en, (em.trans en) _ _ hll, .nil, by rw [← hra, List.drop_drop], by omega, by omega, hrows⟩) ?_ ?_
        · rintro i σ Hc hi ⟨a', xs, tt, v8, v9, rfl, ec, hxs, hlo, htt, haa, hal', hrw⟩
          have hi' : i < rs.length := by omega
          rw [show rs.length - i = (rs.length - i - 1) + 1 by omega] at hrw
          obtain ⟨x, ys, s', hd, hrow, hrw'⟩ := rows_some hrw
          obtain ⟨n, r', rfl', hn0, hnl, hx, hs'⟩ := row_some hrow
          have hxi : rs[i]? = some x := by
            have := congrArg (fun l : List (List Int) => l[0]?) hd
            simpa using this
          have hys : rs.drop (i + 1) = ys := by
            have := congrArg (fun l : List (List Int) => l.drop 1) hd
            simpa [List.drop_drop] using this
          rw [rfl'] at htt
          have hna : l[a']? = some n := by
            have := congrArg (fun l : List Int => l[0]?) htt
            simpa using this
          have hra' : l.drop (a' + 1) = r' := by
            have := congrArg (fun l : List Int => l.drop 1) htt
            simpa [List.drop_drop] using this
          have hal2 : a' < l.length := (List.getElem?_eq_some_iff.mp hna).1
          have hrl' : r'.length = l.length - (a' + 1) := by rw [← hra', List.length_drop]
          have e0c := e0w.trans ec
          refine q_asg (v := nV (a' + 1 + n.toNat)) (ev_is (ev_i (ev_i ev_v ev_c) (ev_ixL ev_v ev_v (hca.ex e0c).sq (atI_nat (gV hna)))) (congrArg V.int (by omega))) fun Hd ed => ?_
          have cutx : cutV (l.map V.int) (some ((a' + 1 : Nat) : Int)) (some ((a' + 1 + n.toNat : Nat) : Int)) = x.map V.int := by
            rw [cut_nat (by rw [lV]; omega), show a' + 1 + n.toNat - (a' + 1) = n.toNat by omega, ← List.map_drop, ← List.map_take, hra', ← hx]
          have lxs := hlo.len
          rw [List.length_take] at lxs
          refine q_appB (P := LstB (x.map V.int)) (LstB.anti _) (ed _ _ hxs) ev_v (by
            rw [← cutx]
            exact eb_slice ev_v (eo_some (ev_is (ev_i ev_v ev_c) rfl)) (eo_some ev_v) (hca.ex (e0c.trans ed)).sq) (by omega) fun xq He ee ⟨nxq, hxq⟩ => ?_
          have fl : xq ≠ ll := fun z => by
            have := ed _ _ hxs
            rw [← z, nxq] at this
            cases this
          refine s_asg (v := nV (a' + 1 + n.toNat)) ev_v fun Hg eg => ?_
          refine ⟨a' + 1 + n.toNat, _, s', _, _, rfl, (Ex.mut (ec.trans (ed.trans ee)) nll).trans eg, eg _ _ upd_same, ?_, ?_, by omega, by omega, ?_⟩
          · rw [take_snoc' hxi]
            refine (hlo.imp fun q r h => ⟨eg _ _ (by rw [upd_ne h.2]; exact ee _ _ (ed _ _ h.1)), h.2⟩).snoc ⟨eg _ _ (by rw [upd_ne fl]; exact hxq), fl⟩
          · rw [hs', ← hra', List.drop_drop]
          · rw [hys, show rs.length - (i + 1) = rs.length - i - 1 by omega]
            exact hrw'
        · rintro σ Hc ⟨a', xs, tt, v8, v9, rfl, ec, hxs, hlo, htt, haa, hal', hrw⟩
          rw [show ((rs.length : Nat) : Int).toNat = rs.length by omega] at hlo hrw
          rw [Nat.sub_self, List.drop_length] at hrw
          have hrw : some (([] : List (List Int)), tt) = some ([], t) := hrw
          have : tt = t := by
            injection hrw with h
            injection h
          subst this
          rw [List.take_length] at hlo
          have e'c := ebw.trans ec
          have ecH := e.trans e'c
          obtain ⟨qs, hqs, lqs, gqs⟩ := hlo
          have I : InAt Hc wl ll ws rs := ⟨ec _ _ hwlst, qs, by rw [hxs, hqs], lqs, fun i r hr => by
            obtain ⟨q, h1, h2, _⟩ := gqs i r hr
            exact ⟨q, h1, h2⟩⟩
          rw [rest_cons hstep] at hres
          generalize hy : ((Si32.step s q).2.v :: (Si32.step s q).2.l) = y at hres
          have hyV : ansV (Si32.step s q).2 = y.map V.int := by rw [← hy]; rfl
          have hRl : acc.length + (1 + y.length) + (rest (Si32.step s q).1 cs').length = R.length := by
            rw [← hres, List.length_append, List.length_append, List.length_cons]
            omega
          have sz : sizeLine = 16777216 := rfl
          refine q_asgC (ea_cons ev_v (ea_cons ev_v (ea2 ev_v ev_v))) fun Hx ex => ?_
          have exH := ecH.trans ex
          refine ⟨d, st, A, s, wl, ll, p, ws, rs, q, rfl, D.ex (e'c.trans ex), I.ex ex, dec, fun Hy st' A' np D' hxx cg fresh hnp => ?_⟩
          obtain ⟨fo1, fo2⟩ := cg _ _ ((e'c.trans ex) _ _ hfoc) hoff
          have nfp : fo ≠ np := fresh _ _ ((e'c.trans ex) _ _ hfoc) hoff
          rw [hyV] at hnp
          have eHy : Ex H Hy := fun b o hb => (cg b o (exH _ _ hb) fun hm => by
            have := hfr b hm
            rw [this] at hb
            cases hb).1
          have hfr' : ∀ m ∈ d :: A'.own st', H m = none := fun m hm => by
            cases hz : H m with
            | none => rfl
            | some o =>
              exact absurd hm (cg m o (exH _ _ hz) fun hm' => by
                have := hfr m hm'
                rw [this] at hz
                cases hz).2
          refine q_appZ (v := .int ((y.length : Nat) : Int)) fo1 ev_v (ev_lenS ev_v (sq_of hnp) (List.length_map _)) (by rw [List.length_map]; omega) fun Hz ez => ?_
          have nfo' : H fo = none := fresh_back e1 nfo
          have D2' : DeskAt CS CA CD CL (upd Hz fo (.lst (acc.map V.int ++ [.int ((y.length : Nat) : Int)]))) d st' A' (Si32.step s q).1 := (D'.ex ez).upx (by rw [hxx]; exact hfx)
          refine s_extZ (p := np) (ys := y.map V.int) upd_same ev_v ev_v (by rw [upd_ne nfp.symm]; exact ez _ _ hnp) (by rw [List.length_append, List.length_map, List.length_map]; show _ + 1 + _ ≤ _; omega) fun Hq eq => ?_
          have D3' : DeskAt CS CA CD CL (upd Hq fo (.lst ((acc.map V.int ++ [.int ((y.length : Nat) : Int)]) ++ y.map V.int))) d st' A' (Si32.step s q).1 := (D2'.ex eq).upx (by rw [hxx]; exact hfx)
          refine ⟨l.length - a', by omega, a', (acc ++ [((y.length : Nat) : Int)]) ++ y, (Si32.step s q).1, st', A', cs', f', _, _, _, _, _, _, _, rfl, hal', by rw [htt]; exact hcalls', hf', rfl, Ex.mut ((Ex.mut (eHy.trans ez) nfo').trans eq) nfo', D3', hfr', by rw [hxx]; exact hfo', ?_, ?_⟩
          · rw [upd_same, List.map_append, List.map_append]
            rfl
          · rw [← hres]
            simp
      · rw [decide_eq_false_iff_not] at c
        have : a = l.length := by omega
        subst this
        rw [List.drop_length] at hcalls
        have : cs = [] := by
          cases f <;> exact (Option.some.inj hcalls).symm
        subst this
        have hres : acc ++ [] = R := hres
        rw [List.append_nil] at hres
        subst hres
        exact s_retV ev_v fun H4 e4 => k fo H4 ((e.trans eb).trans e4) ⟨fresh_back e1 nfo, (eb.trans e4) _ _ hfoc⟩
end
end Sh
namespace Sh
open PySem PySem.Spec PyProof.Rows L2 Evl
theorem rows_ok : ∀ (l : List DictEntry) (kvs : List (Int × Int)), ShH.rowsI l kvs = true → (∀ e ∈ l, ∃ i t, e.key = .int i t ∧ e.hash = hashInt i) ∧
    ∀ i : Int, (∀ v, kvs.lookup i = some v → ∃ t, (l.find? fun e => Value.isInt i e.key).map (·.val) = some (.int v t)) ∧ (kvs.lookup i = none → (l.find? fun e => Value.isInt i e.key).map (·.val) = none)
  | [], [], _ => ⟨fun e h => (nomatch h), fun i => ⟨(fun v h => by cases h), fun _ => rfl⟩⟩
  | [], _ :: _, h => by cases h
  | _ :: _, [], h => by cases h
  | e :: l, (k, v) :: kvs, h => by
    have h : (ShH.rowI e k v && ShH.rowsI l kvs) = true := h
    rw [Bool.and_eq_true] at h
    obtain ⟨h1, h2⟩ := h
    obtain ⟨ih1, ih2⟩ := rows_ok l kvs h2
    unfold ShH.rowI at h1
    rw [Bool.and_eq_true, decide_eq_true_iff] at h1
    obtain ⟨h3, h4⟩ := h1
    have hk : ∃ t t2, e.key = .int k t ∧ e.val = .int v t2 := by
      cases hk : e.key with
      | int i t =>
        cases hv : e.val with
        | int j t2 =>
          rw [hk, hv] at h4
          have h4 : (decide (i = k) && decide (j = v)) = true := h4
          rw [Bool.and_eq_true, decide_eq_true_iff, decide_eq_true_iff] at h4
          obtain ⟨rfl, rfl⟩ := h4
          exact ⟨t, t2, rfl, rfl⟩
        | _ =>
          rw [hk, hv] at h4
          cases h4
      | _ =>
        rw [hk] at h4
        cases h4
    obtain ⟨t, t2, hk, hv⟩ := hk
    refine ⟨fun e' he => ?_, fun i => ?_⟩
    · rcases List.mem_cons.mp he with rfl | he
      · exact ⟨k, t, hk, h3⟩
      · exact ih1 e' he
    · have hi : Value.isInt i e.key = (k == i) := by
        rw [hk]
        rfl
      rw [List.find?_cons, hi, List.lookup_cons]
      by_cases c : k = i
      · subst c
        simp only [beq_self_eq_true]
        refine ⟨fun v' h => ?_, fun h => by cases h⟩
        cases h
        exact ⟨t2, by rw [Option.map_some, hv]⟩
      · have c1 : (k == i) = false := beq_eq_false_iff_ne.mpr c
        have c2 : (i == k) = false := beq_eq_false_iff_ne.mpr (Ne.symm c)
        rw [c1, c2]
        exact ih2 i
theorem tab_ok {K : PySem.W.Frag} {x : Str} {kvs : List (Int × Int)} (h : ShH.tabI K x kvs = true) : KTab K (He.ga K x) kvs := by
  unfold ShH.tabI at h
  cases q : K.lookup (He.ga K x) with
  | none =>
    rw [q] at h
    cases h
  | some o =>
    obtain ⟨oc, od, dt, osl⟩ := o
    rw [q] at h
    cases oc with
    | type c =>
      cases od with
      | none =>
        cases dt with
        | dict es n =>
          have h : (decide (c = "dict") && (decide (osl = #[]) && (ShH.rowsI es.toList kvs && decide (¬ He.ga K x = sysModules)))) = true := h
          simp only [Bool.and_eq_true, decide_eq_true_iff] at h
          obtain ⟨h1, h2, h3, h4⟩ := h
          subst h1 h2
          obtain ⟨r1, r2⟩ := rows_ok es.toList kvs h3
          refine ⟨beq_eq_false_iff_ne.mpr h4, es, n, q, fun e he => r1 e (Array.mem_toList_iff.mpr he), fun i => ?_⟩
          have e : ∀ i, findBy Value.isInt es i = (es.toList.find? fun e => Value.isInt i e.key).map (·.val) := fun i => by
            unfold findBy
            rw [← Array.find?_toList]
          rw [e]
          exact r2 i
        | _ => cases h
      | some a => cases dt <;> cases h
    | _ => cases od <;> cases dt <;> cases h
end Sh
namespace Sh
open PySem PySem.Spec PyProof.Rows L2 Evl
section
variable {P : Program} {w : World} {K : PySem.W.Frag} {mg : Str → Option Value} {base : Heap} {CA CS CL CP CD aM aF aW aL aP aN : Addr}
/-- the defs, each by those that it calls -/
theorem chain {f : Addr} {fd : FuncData} (T : Txt K mg CA CS CL CP CD aM aF aW aL aP aN) (s_within : Src K mg "within" sWithin ["number", "least", "most"])
    (s_space_of : Src K mg "space_of" sSpace ["settings", "way"])
    (s_is_span : Src K mg "is_span" sSpan ["way", "first", "last"])
    (s_again_span : Src K mg "again_span" sAgSpan ["settings", "way", "first"])
    (s_again_size : Src K mg "again_size" sAgSize ["settings", "way", "sums", "first"])
    (s_sums_of : Src K mg "sums_of" sSums ["sizes"])
    (s_both_sums : Src K mg "both_sums" sBoth ["settings"])
    (s_has_room : Src K mg "has_room" sRoom ["settings", "way", "sums", "band", "place", "scale"])
    (s_how_long : Src K mg "how_long" sLong ["settings", "way", "sums", "band", "scale"])
    (s_start_of : Src K mg "start_of" sStart ["settings", "way", "sums", "band", "scale"])
    (s_stands_at : Src K mg "stands_at" sStands ["settings", "way", "sums", "band", "scale", "place"])
    (s_number_in_area : Src K mg "number_in_area" sNum ["settings", "own", "numbers"])
    (s_band_number : Src K mg "band_number" sBno ["bands", "place"])
    (s_bands_of : Src K mg "bands_of" sBands ["settings", "way", "sums", "area", "scale"])
    (s_all_bands : Src K mg "all_bands" sAll ["settings", "sums", "scale"])
    (s_do_fit : Src K mg "do_fit" sFit ["settings", "bands"])
    (m_Layout : ∃ f fd, Mk K CL f ∧ Fun K "__init__" "Layout.__init__" sLayI f fd ∧ Binds K fd ["self", "scale", "bands"] [])
    (s_layout_of : Src K mg "layout_of" sLay ["settings"])
    (m_Page : ∃ f fd, Mk K CP f ∧ Fun K "__init__" "Page.__init__" sPageI f fd ∧ Binds K fd ["self", "area", "numbers"] [])
    (s_page_at : Src K mg "page_at" sPage ["settings", "layout", "n"])
    (s_digits_of : Src K mg "digits_of" sDig ["number"])
    (s_marks_of : Src K mg "marks_of" sMarks ["some"])
    (s_bytes_of : Src K mg "bytes_of" sBytes ["says", "page", "pages", "area"])
    (s_parts_told : Src K mg "parts_told" sTold ["marks", "page", "pages", "area"])
    (s_set_scale : Src K mg "set_scale" sScale ["settings", "p"])
    (s_set_fit : Src K mg "set_fit" sFitS ["settings", "wide", "tall"])
    (s_set_paper : Src K mg "set_paper" sPaper ["settings", "wholes"])
    (s_set_how : Src K mg "set_how" sHow ["settings", "wholes"])
    (s_heads : Src K mg "heads" sHeads ["settings", "head", "foot"])
    (m_Area : ∃ f fd, Mk K CA f ∧ Fun K "__init__" "Area.__init__" sAreaI f fd ∧ Binds K fd ["self", "first", "last"] [])
    (s_set_areas : Src K mg "set_areas" sAreas ["settings", "numbers"])
    (s_set_titles : Src K mg "set_titles" sTitles ["settings", "way", "span"])
    (s_set_breaks : Src K mg "set_breaks" sBreaks ["settings", "way", "places"])
    (s_set_size : Src K mg "set_size" sSize ["settings", "way", "first", "last", "n"])
    (m_Settings : ∃ f fd, Mk K CS f ∧ Fun K "__init__" "Settings.__init__" sSetI f fd ∧ Binds K fd ["self"] [])
    (m_Desk : ∃ f fd, Mk K CD f ∧ Fun K "__init__" "Desk.__init__" sDeskI f fd ∧ Binds K fd ["self"] [])
    (s_begun : Src K mg "begun" sBegun ["desk"])
    (s_layout_now : Src K mg "layout_now" sNow ["desk"])
    (s_pages_told : Src K mg "pages_told" sPTold ["layout"])
    (s_pages_before : Src K mg "pages_before" sBefore ["layout", "area"])
    (s_has_cell : Src K mg "has_cell" sHas ["area", "cell"])
    (s_page_told : Src K mg "page_told" sPgT ["settings", "layout", "n"])
    (s_texts : Src K mg "texts" sTexts ["settings", "layout", "n"])
    (s_cell_told : Src K mg "cell_told" sCell ["settings", "layout", "sums", "area", "cell"])
    (s_where : Src K mg "where" sWhere ["settings", "layout", "row", "column"])
    (s_changed : Src K mg "changed" sChanged ["desk", "kind", "wholes", "lists"])
    (s_asked : Src K mg "asked" sAsked ["desk", "kind", "wholes"])
    (s_answered : Src K mg "answered" sAnswered ["desk", "kind", "wholes", "lists"])
    (F : Fun K "answers" "answers" sAnswers f fd) : FnOk P w K mg base CX0 10 f fd ["calls"] (spAnswers K) := by
  have q_within : Def P w K mg base 1 "within" ["number", "least", "most"] spWithin := .mk s_within fun f fd F => ok_within F
  have q_space : Def P w K mg base 1 "space_of" ["settings", "way"] (spSpace CS CA) := d_space T s_space_of
  have q_span : Def P w K mg base 1 "is_span" ["way", "first", "last"] spSpan := d_span T s_is_span
  have q_agspan : Def P w K mg base 1 "again_span" ["settings", "way", "first"] (spAgSpan CS CA) := d_agspan T s_again_span
  have q_agsize : Def P w K mg base 2 "again_size" ["settings", "way", "sums", "first"] (spAgSize CS CA) := d_agsize T s_again_size q_agspan
  have q_sums : Def P w K mg base 1 "sums_of" ["sizes"] spSums := d_sums s_sums_of
  have q_both : Def P w K mg base 2 "both_sums" ["settings"] (spBoth CS CA) := d_both T s_both_sums q_sums
  have q_room : Def P w K mg base 3 "has_room" ["settings", "way", "sums", "band", "place", "scale"] (spRoom CS CA) := d_room s_has_room q_agsize q_space
  have q_long : Def P w K mg base 3 "how_long" ["settings", "way", "sums", "band", "scale"] (spLong CS CA) := d_long s_how_long q_agsize
  have q_start : Def P w K mg base 4 "start_of" ["settings", "way", "sums", "band", "scale"] (spStart CS CA) := d_start T s_start_of q_long q_space
  have q_stands : Def P w K mg base 5 "stands_at" ["settings", "way", "sums", "band", "scale", "place"] (spStands CS CA) := d_stands s_stands_at q_agsize q_start
  have q_num : Def P w K mg base 1 "number_in_area" ["settings", "own", "numbers"] (spNum CS CA) := d_num T s_number_in_area
  have q_bno : Def P w K mg base 1 "band_number" ["bands", "place"] spBno := d_bno T s_band_number
  have q_bands : Def P w K mg base 4 "bands_of" ["settings", "way", "sums", "area", "scale"] (spBands CS CA) := d_bands T s_bands_of q_room
  have q_all : Def P w K mg base 5 "all_bands" ["settings", "sums", "scale"] (spAll CS CA) := d_all T s_all_bands q_bands
  have q_fit : Def P w K mg base 1 "do_fit" ["settings", "bands"] (spFit CS CA) := d_fit T s_do_fit
  have k_Layout : Cla P w K mg base 1 CL ["self", "scale", "bands"] (spLayI CL) := by
    obtain ⟨f, fd, M, F, b⟩ := m_Layout
    exact ⟨f, fd, M, b, ok_layI T F⟩
  have q_lay : Def P w K mg base 6 "layout_of" ["settings"] (spLay CS CA CL) := d_lay T s_layout_of q_both q_all q_fit k_Layout
  have k_Page : Cla P w K mg base 1 CP ["self", "area", "numbers"] (spPageI CP) := by
    obtain ⟨f, fd, M, F, b⟩ := m_Page
    exact ⟨f, fd, M, b, ok_pageI T F⟩
  have q_page : Def P w K mg base 3 "page_at" ["settings", "layout", "n"] (spPage CS CA CL CP) := d_page T s_page_at k_Page
  have q_dig0 : Def P w K mg base 1 "digits_of" ["number"] spDig0 := d_dig0 s_digits_of
  have q_dig : Def P w K mg base 2 "digits_of" ["number"] spDig := d_dig T s_digits_of
  have q_marks : Def P w K mg base 1 "marks_of" ["some"] spMarks := d_marks T s_marks_of
  have q_bytes : Def P w K mg base 3 "bytes_of" ["says", "page", "pages", "area"] spBytes := d_bytes T s_bytes_of q_dig
  have q_told : Def P w K mg base 4 "parts_told" ["marks", "page", "pages", "area"] spTold := d_told T s_parts_told q_bytes
  have q_scale : Def P w K mg base 2 "set_scale" ["settings", "p"] (spScale CS CA) := d_scale T s_set_scale q_within
  have q_fitS : Def P w K mg base 1 "set_fit" ["settings", "wide", "tall"] (spFitS CS CA) := d_fitS T s_set_fit
  have q_paper : Def P w K mg base 1 "set_paper" ["settings", "wholes"] (spPaper CS CA) := d_paper T s_set_paper
  have q_how : Def P w K mg base 2 "set_how" ["settings", "wholes"] (spHow CS CA) := d_how T s_set_how q_within
  have q_heads : Def P w K mg base 2 "heads" ["settings", "head", "foot"] (spHeads CS CA) := d_heads T s_heads q_marks
  have k_Area : Cla P w K mg base 1 CA ["self", "first", "last"] (spAreaI CA) := by
    obtain ⟨f, fd, M, F, b⟩ := m_Area
    exact ⟨f, fd, M, b, ok_areaI T F⟩
  have q_areas : Def P w K mg base 3 "set_areas" ["settings", "numbers"] (spAreas CS CA) := d_areas T s_set_areas q_span k_Area
  have q_titles : Def P w K mg base 2 "set_titles" ["settings", "way", "span"] (spTitles CS CA) := d_titles T s_set_titles q_span
  have q_breaks : Def P w K mg base 1 "set_breaks" ["settings", "way", "places"] (spBreaks CS CA) := d_breaks T s_set_breaks
  have q_size : Def P w K mg base 2 "set_size" ["settings", "way", "first", "last", "n"] (spSize CS CA) := d_size T s_set_size q_span
  have k_Settings : Cla P w K mg base 1 CS ["self"] (spSetI CS CA) := by
    obtain ⟨f, fd, M, F, b⟩ := m_Settings
    exact ⟨f, fd, M, b, ok_setI T F⟩
  have k_Desk : Cla P w K mg base 3 CD ["self"] (spDeskI CS CA CD) := by
    obtain ⟨f, fd, M, F, b⟩ := m_Desk
    exact ⟨f, fd, M, b, ok_deskI T F k_Settings⟩
  have q_begun : Def P w K mg base 3 "begun" ["desk"] (spBegun CS CA CD) := d_begun T s_begun k_Settings
  have q_now : Def P w K mg base 7 "layout_now" ["desk"] (spNow CS CA CD CL) := d_now T s_layout_now q_lay
  have q_ptold : Def P w K mg base 1 "pages_told" ["layout"] (spPTold CL) := d_ptold T s_pages_told
  have q_before : Def P w K mg base 1 "pages_before" ["layout", "area"] (spBefore CL) := d_before T s_pages_before
  have q_has : Def P w K mg base 1 "has_cell" ["area", "cell"] (spHas CA) := d_has T s_has_cell
  have q_pgt : Def P w K mg base 4 "page_told" ["settings", "layout", "n"] (spPgT CS CA CL) := d_pgt T s_page_told q_page q_both q_agspan q_long
  have q_texts : Def P w K mg base 5 "texts" ["settings", "layout", "n"] (spTexts CS CA CL) := d_texts T s_texts q_page q_told
  have q_cell : Def P w K mg base 6 "cell_told" ["settings", "layout", "sums", "area", "cell"] (spCell CS CA CL) := d_cell T s_cell_told q_bno q_stands q_before q_num
  have q_where : Def P w K mg base 7 "where" ["settings", "layout", "row", "column"] (spWhere CS CA CL) := d_where T s_where q_both q_has q_cell
  have q_changed : Def P w K mg base 4 "changed" ["desk", "kind", "wholes", "lists"] (spChanged CS CA CD CL) := d_changed T s_changed q_begun q_size q_paper q_areas q_titles q_breaks q_scale q_fitS q_how q_heads
  have q_asked : Def P w K mg base 8 "asked" ["desk", "kind", "wholes"] (spAsked CS CA CD CL) := d_asked T s_asked q_now q_ptold q_pgt q_where q_texts
  have q_answered : Def P w K mg base 9 "answered" ["desk", "kind", "wholes", "lists"] (spAnswered CS CA CD CL) := d_answered T s_answered q_asked q_changed
  exact ok_answers T F k_Desk q_answered
end
/-! ### what the head tells -/
theorem src_mk {K : PySem.W.Frag} {mg : Str → Option Value} {x : Str} {st : Stmt} {ps : List Str}
    (l : ∃ oc od osl kV doc pm an cdv ct, K.lookup (He.ga K x) = some ⟨oc, od, .func (PySem.W.fnOf x x (defArgs st) (defBody st) (defScope st) .none kV doc pm an cdv ct), osl⟩ ∧ PySem.W.codeIn K cdv x = true) (kp : PySem.W.keepIn K (.ref (He.ga K x)) = true) (g : mg x = some (.ref (He.ga K x)))
    (hb : ∀ (kV doc pm : Value) (an : Option Addr) (cdv ct : Value) (us : List Value), us.length = ps.length → bindArgs (PySem.W.fnOf x x (defArgs st) (defBody st) (defScope st) .none kV doc pm an cdv ct) ⟨us, []⟩ = pure (ps.zip us)) : Src K mg x st ps := by
  obtain ⟨oc, od, osl, kV, doc, pm, an, cdv, ct, h1, h2⟩ := l
  have F := fun_mk (st := st) h1 h2 kp
  exact ⟨_, _, F, g, F.binds hb⟩
theorem cla_mk {K : PySem.W.Frag} {C f : Addr} {q : Str} {st : Stmt} {ps : List Str}
    (l : ∃ oc od osl kV doc pm an cdv ct, K.lookup f = some ⟨oc, od, .func (PySem.W.fnOf "__init__" q (defArgs st) (defBody st) (defScope st) .none kV doc pm an cdv ct), osl⟩ ∧ PySem.W.codeIn K cdv q = true) (kp : PySem.W.keepIn K (.ref f) = true) (M : Mk K C f)
    (hb : ∀ (kV doc pm : Value) (an : Option Addr) (cdv ct : Value) (us : List Value), us.length = ps.length → bindArgs (PySem.W.fnOf "__init__" q (defArgs st) (defBody st) (defScope st) .none kV doc pm an cdv ct) ⟨us, []⟩ = pure (ps.zip us)) : ∃ f fd, Mk K C f ∧ Fun K "__init__" q st f fd ∧ Binds K fd ps [] := by
  obtain ⟨oc, od, osl, kV, doc, pm, an, cdv, ct, h1, h2⟩ := l
  have F := fun_mk (st := st) h1 h2 kp
  exact ⟨f, _, M, F, F.binds hb⟩
section
variable {K : PySem.W.Frag} {h : Heap} {mg : Str → Option Value}
theorem says_two (c : ShH.SaysS K) : ShH.ex K = true ∧ He.SaysE ShH.fa ShH.fn K := by
  have c1 : (ShH.ex K && (He.obsE ShH.fa ShH.fn K).1) = true := congrArg (fun z : ShH.Al => z.1) c
  have c2 : (He.obsE ShH.fa ShH.fn K).2 = ShH.fn.map He.FnD.val := congrArg (fun z : ShH.Al => z.2) c
  rw [Bool.and_eq_true] at c1
  exact ⟨c1.1, Prod.ext c1.2 c2⟩
theorem txt_ok (X : K.In h) (G : h.Ns mainGlobals mg) (cc : ShH.SaysS K) : Txt K mg (He.ga K "Area") (He.ga K "Settings") (He.ga K "Layout") (He.ga K "Page") (He.ga K "Desk") (He.ga K "MANY") (He.ga K "FIRST_SIZES") (He.ga K "WHOLES") (He.ga K "LISTS") (He.ga K "PARTS") (He.ga K "NUMBERS") := by
  obtain ⟨x, c⟩ := says_two cc
  have x : (He.tupB K "MANY" [.int 4096, .int 256] && (He.tupB K "FIRST_SIZES" [.int 20, .int 64] && (He.tupB K "WHOLES" [.int 0, .int 4, .int 6, .int 0, .int 1, .int 1, .int 1, .int 2, .int 4, .int 0, .int 0, .int 1, .int 2, .int 1] && (He.tupB K "LISTS" [.int 0, .int 0, .int 0, .int 1, .int 1, .int 1, .int 0, .int 0, .int 0, .int 2, .int 0, .int 0, .int 0, .int 0] && (ShH.tabI K "PARTS" [(76, 0), (67, 1), (82, 2)] && (ShH.tabI K "NUMBERS" [(80, -1), (78, -2), (65, -3), (38, 38)])))))) = true := x
  obtain ⟨x1, x⟩ := He.ba x
  obtain ⟨x2, x⟩ := He.ba x
  obtain ⟨x3, x⟩ := He.ba x
  obtain ⟨x4, x⟩ := He.ba x
  obtain ⟨x5, x6⟩ := He.ba x
  exact {
    clA := He.cls_ok (c.fact 89 (f := .cls "Area") rfl),
    clS := He.cls_ok (c.fact 93 (f := .cls "Settings") rfl),
    clL := He.cls_ok (c.fact 97 (f := .cls "Layout") rfl),
    clP := He.cls_ok (c.fact 101 (f := .cls "Page") rfl),
    clD := He.cls_ok (c.fact 105 (f := .cls "Desk") rfl),
    nA_first := He.noat_ok (c.fact 108 (f := .noat "Area" "first") rfl),
    nA_last := He.noat_ok (c.fact 109 (f := .noat "Area" "last") rfl),
    nS_sizes := He.noat_ok (c.fact 110 (f := .noat "Settings" "sizes") rfl),
    nS_told := He.noat_ok (c.fact 111 (f := .noat "Settings" "told") rfl),
    nS_paper := He.noat_ok (c.fact 112 (f := .noat "Settings" "paper") rfl),
    nS_ahead := He.noat_ok (c.fact 113 (f := .noat "Settings" "ahead") rfl),
    nS_behind := He.noat_ok (c.fact 114 (f := .noat "Settings" "behind") rfl),
    nS_titles := He.noat_ok (c.fact 115 (f := .noat "Settings" "titles") rfl),
    nS_breaks := He.noat_ok (c.fact 116 (f := .noat "Settings" "breaks") rfl),
    nS_middle := He.noat_ok (c.fact 117 (f := .noat "Settings" "middle") rfl),
    nS_areas := He.noat_ok (c.fact 118 (f := .noat "Settings" "areas") rfl),
    nS_scale := He.noat_ok (c.fact 119 (f := .noat "Settings" "scale") rfl),
    nS_fit := He.noat_ok (c.fact 120 (f := .noat "Settings" "fit") rfl),
    nS_over := He.noat_ok (c.fact 121 (f := .noat "Settings" "over") rfl),
    nS_first := He.noat_ok (c.fact 122 (f := .noat "Settings" "first") rfl),
    nS_head := He.noat_ok (c.fact 123 (f := .noat "Settings" "head") rfl),
    nS_foot := He.noat_ok (c.fact 124 (f := .noat "Settings" "foot") rfl),
    nL_scale := He.noat_ok (c.fact 125 (f := .noat "Layout" "scale") rfl),
    nL_bands := He.noat_ok (c.fact 126 (f := .noat "Layout" "bands") rfl),
    nL_pages := He.noat_ok (c.fact 127 (f := .noat "Layout" "pages") rfl),
    nP_area := He.noat_ok (c.fact 128 (f := .noat "Page" "area") rfl),
    nP_numbers := He.noat_ok (c.fact 129 (f := .noat "Page" "numbers") rfl),
    nD_settings := He.noat_ok (c.fact 130 (f := .noat "Desk" "settings") rfl),
    nD_layout := He.noat_ok (c.fact 131 (f := .noat "Desk" "layout") rfl),
    gA := He.glo_ok X G (c.fact 88 (f := .glo "Area") rfl),
    gS := He.glo_ok X G (c.fact 92 (f := .glo "Settings") rfl),
    gL := He.glo_ok X G (c.fact 96 (f := .glo "Layout") rfl),
    gP := He.glo_ok X G (c.fact 100 (f := .glo "Page") rfl),
    gD := He.glo_ok X G (c.fact 104 (f := .glo "Desk") rfl),
    b_len := He.free_ok X G (c.fact 132 (f := .free "len") rfl),
    b_range := He.free_ok X G (c.fact 133 (f := .free "range") rfl),
    b_min := He.free_ok X G (c.fact 134 (f := .free "min") rfl),
    b_sum := He.free_ok X G (c.fact 135 (f := .free "sum") rfl),
    many := He.glo_ok X G (c.fact 158 (f := .glo "MANY") rfl),
    many_ := He.tupB_ok x1,
    firsts := He.glo_ok X G (c.fact 159 (f := .glo "FIRST_SIZES") rfl),
    firsts_ := He.tupB_ok x2,
    wholes := He.glo_ok X G (c.fact 160 (f := .glo "WHOLES") rfl),
    wholes_ := He.tupB_ok x3,
    lists := He.glo_ok X G (c.fact 161 (f := .glo "LISTS") rfl),
    lists_ := He.tupB_ok x4,
    parts := He.glo_ok X G (c.fact 162 (f := .glo "PARTS") rfl),
    parts_ := tab_ok x5,
    numbers := He.glo_ok X G (c.fact 163 (f := .glo "NUMBERS") rfl),
    numbers_ := tab_ok x6,
    k_MOST_SIZE := He.int_ok X G (c.fact 136 (f := .int "MOST_SIZE" (10000)) rfl),
    k_MOST_SIZES := He.int_ok X G (c.fact 137 (f := .int "MOST_SIZES" (200)) rfl),
    k_MOST_PAPER := He.int_ok X G (c.fact 138 (f := .int "MOST_PAPER" (100000)) rfl),
    k_MOST_AREAS := He.int_ok X G (c.fact 139 (f := .int "MOST_AREAS" (32)) rfl),
    k_MOST_BREAKS := He.int_ok X G (c.fact 140 (f := .int "MOST_BREAKS" (500)) rfl),
    k_LEAST_SCALE := He.int_ok X G (c.fact 141 (f := .int "LEAST_SCALE" (10)) rfl),
    k_FIRST_SCALE := He.int_ok X G (c.fact 142 (f := .int "FIRST_SCALE" (100)) rfl),
    k_MOST_SCALE := He.int_ok X G (c.fact 143 (f := .int "MOST_SCALE" (400)) rfl),
    k_MOST_FIT := He.int_ok X G (c.fact 144 (f := .int "MOST_FIT" (1000)) rfl),
    k_FARTHEST := He.int_ok X G (c.fact 145 (f := .int "FARTHEST" (1000000)) rfl),
    k_OUT_OF_RANGE := He.int_ok X G (c.fact 146 (f := .int "OUT_OF_RANGE" (-1)) rfl),
    k_TOO_MANY := He.int_ok X G (c.fact 147 (f := .int "TOO_MANY" (-5)) rfl),
    k_AND := He.int_ok X G (c.fact 148 (f := .int "AND" (38)) rfl),
    k_MIDDLE := He.int_ok X G (c.fact 149 (f := .int "MIDDLE" (67)) rfl),
    k_MINUS := He.int_ok X G (c.fact 150 (f := .int "MINUS" (45)) rfl),
    k_PAGE := He.int_ok X G (c.fact 151 (f := .int "PAGE" (-1)) rfl),
    k_PAGES := He.int_ok X G (c.fact 152 (f := .int "PAGES" (-2)) rfl),
    k_AREA := He.int_ok X G (c.fact 153 (f := .int "AREA" (-3)) rfl),
    k_LONGEST := He.int_ok X G (c.fact 154 (f := .int "LONGEST" (255)) rfl),
    k_NOT_TOLD := He.int_ok X G (c.fact 155 (f := .int "NOT_TOLD" (-3)) rfl),
    k_NO_PAGE := He.int_ok X G (c.fact 156 (f := .int "NO_PAGE" (-6)) rfl),
    k_HEADS := He.int_ok X G (c.fact 157 (f := .int "HEADS" (9)) rfl) }
theorem facts {P : Program} {w : World} {f : Addr} (X : K.In h) (G : h.Ns mainGlobals mg) (hfa : mg ("answers" : Str) = some (.ref f)) (cc : ShH.SaysS K) :
    ∃ fd : FuncData, (∀ (s : Shared) (us : List Value), us.length = (["calls"] : List Str).length → BindsTo s fd ⟨us, []⟩ ((["calls"] : List Str).zip us)) ∧ ∀ base : Heap, K.In base → base.Ns mainGlobals mg → FnOk P w K mg base CX0 10 f fd ["calls"] (spAnswers K) := by
  have c := (says_two cc).2
  have T := txt_ok X G cc
  have e := hfa.symm.trans (He.glo_ok X G (c.fact 43 (f := .glo "answers") rfl))
  cases e
  obtain ⟨oc, od, osl, kV, doc, pm, an, cdv, ct, h1, h2⟩ := c.def_ 43 (d := ShH.dfn 80 "answers") rfl
  have F := fun_mk (x := "answers") (qual := "answers") (st := sAnswers) h1 h2 (He.keep_ok (c.fact 87 (f := .keep "answers") rfl))
  have s_within : Src K mg "within" sWithin ["number", "least", "most"] := src_mk (c.def_ 0 (d := ShH.dfn 17 "within") rfl) (He.keep_ok (c.fact 44 (f := .keep "within") rfl)) (He.glo_ok X G (c.fact 0 (f := .glo "within") rfl)) (fun _ _ _ _ _ _ us hl => match us, hl with | [_, _, _], _ => rfl)
  have s_space_of : Src K mg "space_of" sSpace ["settings", "way"] := src_mk (c.def_ 1 (d := ShH.dfn 18 "space_of") rfl) (He.keep_ok (c.fact 45 (f := .keep "space_of") rfl)) (He.glo_ok X G (c.fact 1 (f := .glo "space_of") rfl)) (fun _ _ _ _ _ _ us hl => match us, hl with | [_, _], _ => rfl)
  have s_is_span : Src K mg "is_span" sSpan ["way", "first", "last"] := src_mk (c.def_ 2 (d := ShH.dfn 19 "is_span") rfl) (He.keep_ok (c.fact 46 (f := .keep "is_span") rfl)) (He.glo_ok X G (c.fact 2 (f := .glo "is_span") rfl)) (fun _ _ _ _ _ _ us hl => match us, hl with | [_, _, _], _ => rfl)
  have s_again_span : Src K mg "again_span" sAgSpan ["settings", "way", "first"] := src_mk (c.def_ 12 (d := ShH.dfn 32 "again_span") rfl) (He.keep_ok (c.fact 56 (f := .keep "again_span") rfl)) (He.glo_ok X G (c.fact 12 (f := .glo "again_span") rfl)) (fun _ _ _ _ _ _ us hl => match us, hl with | [_, _, _], _ => rfl)
  have s_again_size : Src K mg "again_size" sAgSize ["settings", "way", "sums", "first"] := src_mk (c.def_ 13 (d := ShH.dfn 33 "again_size") rfl) (He.keep_ok (c.fact 57 (f := .keep "again_size") rfl)) (He.glo_ok X G (c.fact 13 (f := .glo "again_size") rfl)) (fun _ _ _ _ _ _ us hl => match us, hl with | [_, _, _, _], _ => rfl)
  have s_sums_of : Src K mg "sums_of" sSums ["sizes"] := src_mk (c.def_ 11 (d := ShH.dfn 31 "sums_of") rfl) (He.keep_ok (c.fact 55 (f := .keep "sums_of") rfl)) (He.glo_ok X G (c.fact 11 (f := .glo "sums_of") rfl)) (fun _ _ _ _ _ _ us hl => match us, hl with | [_], _ => rfl)
  have s_both_sums : Src K mg "both_sums" sBoth ["settings"] := src_mk (c.def_ 18 (d := ShH.dfn 38 "both_sums") rfl) (He.keep_ok (c.fact 62 (f := .keep "both_sums") rfl)) (He.glo_ok X G (c.fact 18 (f := .glo "both_sums") rfl)) (fun _ _ _ _ _ _ us hl => match us, hl with | [_], _ => rfl)
  have s_has_room : Src K mg "has_room" sRoom ["settings", "way", "sums", "band", "place", "scale"] := src_mk (c.def_ 14 (d := ShH.dfn 34 "has_room") rfl) (He.keep_ok (c.fact 58 (f := .keep "has_room") rfl)) (He.glo_ok X G (c.fact 14 (f := .glo "has_room") rfl)) (fun _ _ _ _ _ _ us hl => match us, hl with | [_, _, _, _, _, _], _ => rfl)
  have s_how_long : Src K mg "how_long" sLong ["settings", "way", "sums", "band", "scale"] := src_mk (c.def_ 22 (d := ShH.dfn 42 "how_long") rfl) (He.keep_ok (c.fact 66 (f := .keep "how_long") rfl)) (He.glo_ok X G (c.fact 22 (f := .glo "how_long") rfl)) (fun _ _ _ _ _ _ us hl => match us, hl with | [_, _, _, _, _], _ => rfl)
  have s_start_of : Src K mg "start_of" sStart ["settings", "way", "sums", "band", "scale"] := src_mk (c.def_ 23 (d := ShH.dfn 43 "start_of") rfl) (He.keep_ok (c.fact 67 (f := .keep "start_of") rfl)) (He.glo_ok X G (c.fact 23 (f := .glo "start_of") rfl)) (fun _ _ _ _ _ _ us hl => match us, hl with | [_, _, _, _, _], _ => rfl)
  have s_stands_at : Src K mg "stands_at" sStands ["settings", "way", "sums", "band", "scale", "place"] := src_mk (c.def_ 24 (d := ShH.dfn 44 "stands_at") rfl) (He.keep_ok (c.fact 68 (f := .keep "stands_at") rfl)) (He.glo_ok X G (c.fact 24 (f := .glo "stands_at") rfl)) (fun _ _ _ _ _ _ us hl => match us, hl with | [_, _, _, _, _, _], _ => rfl)
  have s_number_in_area : Src K mg "number_in_area" sNum ["settings", "own", "numbers"] := src_mk (c.def_ 21 (d := ShH.dfn 41 "number_in_area") rfl) (He.keep_ok (c.fact 65 (f := .keep "number_in_area") rfl)) (He.glo_ok X G (c.fact 21 (f := .glo "number_in_area") rfl)) (fun _ _ _ _ _ _ us hl => match us, hl with | [_, _, _], _ => rfl)
  have s_band_number : Src K mg "band_number" sBno ["bands", "place"] := src_mk (c.def_ 25 (d := ShH.dfn 45 "band_number") rfl) (He.keep_ok (c.fact 69 (f := .keep "band_number") rfl)) (He.glo_ok X G (c.fact 25 (f := .glo "band_number") rfl)) (fun _ _ _ _ _ _ us hl => match us, hl with | [_, _], _ => rfl)
  have s_bands_of : Src K mg "bands_of" sBands ["settings", "way", "sums", "area", "scale"] := src_mk (c.def_ 15 (d := ShH.dfn 35 "bands_of") rfl) (He.keep_ok (c.fact 59 (f := .keep "bands_of") rfl)) (He.glo_ok X G (c.fact 15 (f := .glo "bands_of") rfl)) (fun _ _ _ _ _ _ us hl => match us, hl with | [_, _, _, _, _], _ => rfl)
  have s_all_bands : Src K mg "all_bands" sAll ["settings", "sums", "scale"] := src_mk (c.def_ 16 (d := ShH.dfn 36 "all_bands") rfl) (He.keep_ok (c.fact 60 (f := .keep "all_bands") rfl)) (He.glo_ok X G (c.fact 16 (f := .glo "all_bands") rfl)) (fun _ _ _ _ _ _ us hl => match us, hl with | [_, _, _], _ => rfl)
  have s_do_fit : Src K mg "do_fit" sFit ["settings", "bands"] := src_mk (c.def_ 17 (d := ShH.dfn 37 "do_fit") rfl) (He.keep_ok (c.fact 61 (f := .keep "do_fit") rfl)) (He.glo_ok X G (c.fact 17 (f := .glo "do_fit") rfl)) (fun _ _ _ _ _ _ us hl => match us, hl with | [_, _], _ => rfl)
  have m_Layout : ∃ f fd, Mk K (He.ga K "Layout") f ∧ Fun K "__init__" "Layout.__init__" sLayI f fd ∧ Binds K fd ["self", "scale", "bands"] [] := cla_mk (c.def_ 46 (d := ShH.dme 29 "Layout" "Layout.__init__") rfl) (He.meth_ok (c.fact 99 (f := .meth "Layout" "__init__") rfl)).kp (He.mkr_ok (c.fact 98 (f := .mkr "Layout") rfl)) (fun _ _ _ _ _ _ us hl => match us, hl with | [_, _, _], _ => rfl)
  have s_layout_of : Src K mg "layout_of" sLay ["settings"] := src_mk (c.def_ 19 (d := ShH.dfn 39 "layout_of") rfl) (He.keep_ok (c.fact 63 (f := .keep "layout_of") rfl)) (He.glo_ok X G (c.fact 19 (f := .glo "layout_of") rfl)) (fun _ _ _ _ _ _ us hl => match us, hl with | [_], _ => rfl)
  have m_Page : ∃ f fd, Mk K (He.ga K "Page") f ∧ Fun K "__init__" "Page.__init__" sPageI f fd ∧ Binds K fd ["self", "area", "numbers"] [] := cla_mk (c.def_ 47 (d := ShH.dme 30 "Page" "Page.__init__") rfl) (He.meth_ok (c.fact 103 (f := .meth "Page" "__init__") rfl)).kp (He.mkr_ok (c.fact 102 (f := .mkr "Page") rfl)) (fun _ _ _ _ _ _ us hl => match us, hl with | [_, _, _], _ => rfl)
  have s_page_at : Src K mg "page_at" sPage ["settings", "layout", "n"] := src_mk (c.def_ 20 (d := ShH.dfn 40 "page_at") rfl) (He.keep_ok (c.fact 64 (f := .keep "page_at") rfl)) (He.glo_ok X G (c.fact 20 (f := .glo "page_at") rfl)) (fun _ _ _ _ _ _ us hl => match us, hl with | [_, _, _], _ => rfl)
  have s_digits_of : Src K mg "digits_of" sDig ["number"] := src_mk (c.def_ 27 (d := ShH.dfn 57 "digits_of") rfl) (He.keep_ok (c.fact 71 (f := .keep "digits_of") rfl)) (He.glo_ok X G (c.fact 27 (f := .glo "digits_of") rfl)) (fun _ _ _ _ _ _ us hl => match us, hl with | [_], _ => rfl)
  have s_marks_of : Src K mg "marks_of" sMarks ["some"] := src_mk (c.def_ 26 (d := ShH.dfn 56 "marks_of") rfl) (He.keep_ok (c.fact 70 (f := .keep "marks_of") rfl)) (He.glo_ok X G (c.fact 26 (f := .glo "marks_of") rfl)) (fun _ _ _ _ _ _ us hl => match us, hl with | [_], _ => rfl)
  have s_bytes_of : Src K mg "bytes_of" sBytes ["says", "page", "pages", "area"] := src_mk (c.def_ 28 (d := ShH.dfn 58 "bytes_of") rfl) (He.keep_ok (c.fact 72 (f := .keep "bytes_of") rfl)) (He.glo_ok X G (c.fact 28 (f := .glo "bytes_of") rfl)) (fun _ _ _ _ _ _ us hl => match us, hl with | [_, _, _, _], _ => rfl)
  have s_parts_told : Src K mg "parts_told" sTold ["marks", "page", "pages", "area"] := src_mk (c.def_ 29 (d := ShH.dfn 59 "parts_told") rfl) (He.keep_ok (c.fact 73 (f := .keep "parts_told") rfl)) (He.glo_ok X G (c.fact 29 (f := .glo "parts_told") rfl)) (fun _ _ _ _ _ _ us hl => match us, hl with | [_, _, _, _], _ => rfl)
  have s_set_scale : Src K mg "set_scale" sScale ["settings", "p"] := src_mk (c.def_ 8 (d := ShH.dfn 25 "set_scale") rfl) (He.keep_ok (c.fact 52 (f := .keep "set_scale") rfl)) (He.glo_ok X G (c.fact 8 (f := .glo "set_scale") rfl)) (fun _ _ _ _ _ _ us hl => match us, hl with | [_, _], _ => rfl)
  have s_set_fit : Src K mg "set_fit" sFitS ["settings", "wide", "tall"] := src_mk (c.def_ 9 (d := ShH.dfn 26 "set_fit") rfl) (He.keep_ok (c.fact 53 (f := .keep "set_fit") rfl)) (He.glo_ok X G (c.fact 9 (f := .glo "set_fit") rfl)) (fun _ _ _ _ _ _ us hl => match us, hl with | [_, _, _], _ => rfl)
  have s_set_paper : Src K mg "set_paper" sPaper ["settings", "wholes"] := src_mk (c.def_ 4 (d := ShH.dfn 21 "set_paper") rfl) (He.keep_ok (c.fact 48 (f := .keep "set_paper") rfl)) (He.glo_ok X G (c.fact 4 (f := .glo "set_paper") rfl)) (fun _ _ _ _ _ _ us hl => match us, hl with | [_, _], _ => rfl)
  have s_set_how : Src K mg "set_how" sHow ["settings", "wholes"] := src_mk (c.def_ 10 (d := ShH.dfn 27 "set_how") rfl) (He.keep_ok (c.fact 54 (f := .keep "set_how") rfl)) (He.glo_ok X G (c.fact 10 (f := .glo "set_how") rfl)) (fun _ _ _ _ _ _ us hl => match us, hl with | [_, _], _ => rfl)
  have s_heads : Src K mg "heads" sHeads ["settings", "head", "foot"] := src_mk (c.def_ 31 (d := ShH.dfn 68 "heads") rfl) (He.keep_ok (c.fact 75 (f := .keep "heads") rfl)) (He.glo_ok X G (c.fact 31 (f := .glo "heads") rfl)) (fun _ _ _ _ _ _ us hl => match us, hl with | [_, _, _], _ => rfl)
  have m_Area : ∃ f fd, Mk K (He.ga K "Area") f ∧ Fun K "__init__" "Area.__init__" sAreaI f fd ∧ Binds K fd ["self", "first", "last"] [] := cla_mk (c.def_ 44 (d := ShH.dme 15 "Area" "Area.__init__") rfl) (He.meth_ok (c.fact 91 (f := .meth "Area" "__init__") rfl)).kp (He.mkr_ok (c.fact 90 (f := .mkr "Area") rfl)) (fun _ _ _ _ _ _ us hl => match us, hl with | [_, _, _], _ => rfl)
  have s_set_areas : Src K mg "set_areas" sAreas ["settings", "numbers"] := src_mk (c.def_ 5 (d := ShH.dfn 22 "set_areas") rfl) (He.keep_ok (c.fact 49 (f := .keep "set_areas") rfl)) (He.glo_ok X G (c.fact 5 (f := .glo "set_areas") rfl)) (fun _ _ _ _ _ _ us hl => match us, hl with | [_, _], _ => rfl)
  have s_set_titles : Src K mg "set_titles" sTitles ["settings", "way", "span"] := src_mk (c.def_ 6 (d := ShH.dfn 23 "set_titles") rfl) (He.keep_ok (c.fact 50 (f := .keep "set_titles") rfl)) (He.glo_ok X G (c.fact 6 (f := .glo "set_titles") rfl)) (fun _ _ _ _ _ _ us hl => match us, hl with | [_, _, _], _ => rfl)
  have s_set_breaks : Src K mg "set_breaks" sBreaks ["settings", "way", "places"] := src_mk (c.def_ 7 (d := ShH.dfn 24 "set_breaks") rfl) (He.keep_ok (c.fact 51 (f := .keep "set_breaks") rfl)) (He.glo_ok X G (c.fact 7 (f := .glo "set_breaks") rfl)) (fun _ _ _ _ _ _ us hl => match us, hl with | [_, _, _], _ => rfl)
  have s_set_size : Src K mg "set_size" sSize ["settings", "way", "first", "last", "n"] := src_mk (c.def_ 3 (d := ShH.dfn 20 "set_size") rfl) (He.keep_ok (c.fact 47 (f := .keep "set_size") rfl)) (He.glo_ok X G (c.fact 3 (f := .glo "set_size") rfl)) (fun _ _ _ _ _ _ us hl => match us, hl with | [_, _, _, _, _], _ => rfl)
  have m_Settings : ∃ f fd, Mk K (He.ga K "Settings") f ∧ Fun K "__init__" "Settings.__init__" sSetI f fd ∧ Binds K fd ["self"] [] := cla_mk (c.def_ 45 (d := ShH.dme 16 "Settings" "Settings.__init__") rfl) (He.meth_ok (c.fact 95 (f := .meth "Settings" "__init__") rfl)).kp (He.mkr_ok (c.fact 94 (f := .mkr "Settings") rfl)) (fun _ _ _ _ _ _ us hl => match us, hl with | [_], _ => rfl)
  have m_Desk : ∃ f fd, Mk K (He.ga K "Desk") f ∧ Fun K "__init__" "Desk.__init__" sDeskI f fd ∧ Binds K fd ["self"] [] := cla_mk (c.def_ 48 (d := ShH.dme 66 "Desk" "Desk.__init__") rfl) (He.meth_ok (c.fact 107 (f := .meth "Desk" "__init__") rfl)).kp (He.mkr_ok (c.fact 106 (f := .mkr "Desk") rfl)) (fun _ _ _ _ _ _ us hl => match us, hl with | [_], _ => rfl)
  have s_begun : Src K mg "begun" sBegun ["desk"] := src_mk (c.def_ 30 (d := ShH.dfn 67 "begun") rfl) (He.keep_ok (c.fact 74 (f := .keep "begun") rfl)) (He.glo_ok X G (c.fact 30 (f := .glo "begun") rfl)) (fun _ _ _ _ _ _ us hl => match us, hl with | [_], _ => rfl)
  have s_layout_now : Src K mg "layout_now" sNow ["desk"] := src_mk (c.def_ 32 (d := ShH.dfn 69 "layout_now") rfl) (He.keep_ok (c.fact 76 (f := .keep "layout_now") rfl)) (He.glo_ok X G (c.fact 32 (f := .glo "layout_now") rfl)) (fun _ _ _ _ _ _ us hl => match us, hl with | [_], _ => rfl)
  have s_pages_told : Src K mg "pages_told" sPTold ["layout"] := src_mk (c.def_ 33 (d := ShH.dfn 70 "pages_told") rfl) (He.keep_ok (c.fact 77 (f := .keep "pages_told") rfl)) (He.glo_ok X G (c.fact 33 (f := .glo "pages_told") rfl)) (fun _ _ _ _ _ _ us hl => match us, hl with | [_], _ => rfl)
  have s_pages_before : Src K mg "pages_before" sBefore ["layout", "area"] := src_mk (c.def_ 35 (d := ShH.dfn 72 "pages_before") rfl) (He.keep_ok (c.fact 79 (f := .keep "pages_before") rfl)) (He.glo_ok X G (c.fact 35 (f := .glo "pages_before") rfl)) (fun _ _ _ _ _ _ us hl => match us, hl with | [_, _], _ => rfl)
  have s_has_cell : Src K mg "has_cell" sHas ["area", "cell"] := src_mk (c.def_ 36 (d := ShH.dfn 73 "has_cell") rfl) (He.keep_ok (c.fact 80 (f := .keep "has_cell") rfl)) (He.glo_ok X G (c.fact 36 (f := .glo "has_cell") rfl)) (fun _ _ _ _ _ _ us hl => match us, hl with | [_, _], _ => rfl)
  have s_page_told : Src K mg "page_told" sPgT ["settings", "layout", "n"] := src_mk (c.def_ 34 (d := ShH.dfn 71 "page_told") rfl) (He.keep_ok (c.fact 78 (f := .keep "page_told") rfl)) (He.glo_ok X G (c.fact 34 (f := .glo "page_told") rfl)) (fun _ _ _ _ _ _ us hl => match us, hl with | [_, _, _], _ => rfl)
  have s_texts : Src K mg "texts" sTexts ["settings", "layout", "n"] := src_mk (c.def_ 39 (d := ShH.dfn 76 "texts") rfl) (He.keep_ok (c.fact 83 (f := .keep "texts") rfl)) (He.glo_ok X G (c.fact 39 (f := .glo "texts") rfl)) (fun _ _ _ _ _ _ us hl => match us, hl with | [_, _, _], _ => rfl)
  have s_cell_told : Src K mg "cell_told" sCell ["settings", "layout", "sums", "area", "cell"] := src_mk (c.def_ 37 (d := ShH.dfn 74 "cell_told") rfl) (He.keep_ok (c.fact 81 (f := .keep "cell_told") rfl)) (He.glo_ok X G (c.fact 37 (f := .glo "cell_told") rfl)) (fun _ _ _ _ _ _ us hl => match us, hl with | [_, _, _, _, _], _ => rfl)
  have s_where : Src K mg "where" sWhere ["settings", "layout", "row", "column"] := src_mk (c.def_ 38 (d := ShH.dfn 75 "where") rfl) (He.keep_ok (c.fact 82 (f := .keep "where") rfl)) (He.glo_ok X G (c.fact 38 (f := .glo "where") rfl)) (fun _ _ _ _ _ _ us hl => match us, hl with | [_, _, _, _], _ => rfl)
  have s_changed : Src K mg "changed" sChanged ["desk", "kind", "wholes", "lists"] := src_mk (c.def_ 40 (d := ShH.dfn 77 "changed") rfl) (He.keep_ok (c.fact 84 (f := .keep "changed") rfl)) (He.glo_ok X G (c.fact 40 (f := .glo "changed") rfl)) (fun _ _ _ _ _ _ us hl => match us, hl with | [_, _, _, _], _ => rfl)
  have s_asked : Src K mg "asked" sAsked ["desk", "kind", "wholes"] := src_mk (c.def_ 41 (d := ShH.dfn 78 "asked") rfl) (He.keep_ok (c.fact 85 (f := .keep "asked") rfl)) (He.glo_ok X G (c.fact 41 (f := .glo "asked") rfl)) (fun _ _ _ _ _ _ us hl => match us, hl with | [_, _, _], _ => rfl)
  have s_answered : Src K mg "answered" sAnswered ["desk", "kind", "wholes", "lists"] := src_mk (c.def_ 42 (d := ShH.dfn 79 "answered") rfl) (He.keep_ok (c.fact 86 (f := .keep "answered") rfl)) (He.glo_ok X G (c.fact 42 (f := .glo "answered") rfl)) (fun _ _ _ _ _ _ us hl => match us, hl with | [_, _, _, _], _ => rfl)
  exact ⟨_, fun s us hu => match us, hu with | [_], _ => .of_eq rfl, fun base _ _ => chain T s_within s_space_of s_is_span s_again_span s_again_size s_sums_of s_both_sums s_has_room s_how_long s_start_of s_stands_at s_number_in_area s_band_number s_bands_of s_all_bands s_do_fit m_Layout s_layout_of m_Page s_page_at s_digits_of s_marks_of s_bytes_of s_parts_told s_set_scale s_set_fit s_set_paper s_set_how s_heads m_Area s_set_areas s_set_titles s_set_breaks s_set_size m_Settings m_Desk s_begun s_layout_now s_pages_told s_pages_before s_has_cell s_page_told s_texts s_cell_told s_where s_changed s_asked s_answered F⟩
end
end Sh
namespace Sh
open PySem PySem.Spec PyProof.Rows L2 Evl
/-- the walk, the part of the heap told by the Hook -/
theorem walk_told {r : PySem.W.OpenSpec} {k : Nat} {q : Program} {loose : List Str} {XP : (Str → Option Value) → Heap → Prop} {Says : PySem.W.Frag → Prop} {d : DefRec} {ps : List Str} {sp : PySem.W.Frag → Sp}
    (hwell : r.wellSaid = true) (hdf : d.params.defaults = []) (hlen : r.args.length = ps.length) (hr : Room k callerA)
    (F : ∀ (K : PySem.W.Frag), Says K → ∀ (w : World) (mg : Str → Option Value) (fa : Addr) (h : Heap), K.In h → h.Ns mainGlobals mg → mg d.name = some (.ref fa) →
      ∃ fd : FuncData, (∀ (s : Shared) (us : List Value), us.length = ps.length → BindsTo s fd ⟨us, []⟩ (ps.zip us)) ∧ ∀ base : Heap, K.In base → base.Ns mainGlobals mg → FnOk r.prog w K mg base CX0 k fa fd ps (sp K))
    (hsp : ∀ (K : PySem.W.Frag) (H : Hp) (xs : List V) (a : PySem.W.Codec.denoteAll r.args), PySem.W.Codec.withinAll r.args a = true → PySem.W.Codec.app r.args r.asked a = true → DwAll K H xs (PySem.W.Codec.encAll r.args a) →
      sp K xs H (fun v H' => Dw K H' v (r.ret.enc (PySem.W.Codec.app r.args r.f a))) fun _ _ _ => False) :
    PySem.W.WalkOS q loose XP (fun _ h => ∃ K : PySem.W.Frag, K.In h ∧ Says K) r d [] (fun f vs => PySem.call f vs) := by
  intro w s0 s1 mg mb G Y
  obtain ⟨K, KX, c⟩ := Y
  exact walk_spec (K := fun _ => K) (YP := fun _ h => K.In h) (CX := fun _ => CX0) (sp := fun _ => sp K) hwell hdf hlen hr (fun _ _ y => y) (fun w mg fa h _ X G hm => F K c w mg fa h X G hm) (fun w H xs a _ h2 h3 h4 => hsp K H xs a h2 h3 h4) (fun _ _ _ _ _ z => z) w s0 s1 mg mb G KX
end Sh
open PySem PySem.W PySem.Calls PyProof.Rows
theorem PySem.Challenge.cw_sheetpages_s01_answers_holds : PySem.Challenge.rw_sheetpages_s01_answers.Holds := by
  refine HeadRun.head_spec (r := PySem.Challenge.rw_sheetpages_s01_answers) (q := ShH.qv) (H := ShH.hk) (ob := ShH.ob) (M := 6200) (loose := ShH.names) (d := HeadRun.topDef ShH.R.prog 80) (kwd := []) ShH.ob_eq
    (by kernel_rfl) (fun s => by kernel_rfl) ShH.run (by kernel_rfl) (by kernel_rfl) (by kernel_rfl) ?hsh (by decide +kernel) (by decide +kernel) ⟨rfl, rfl, rfl, rfl, rfl, by decide +kernel⟩ ?hw ?hc
  case hsh => exact os_shapes
  case hw => exact ⟨[.list [.int 0]], by decide +kernel, by decide +kernel⟩
  case hc =>
    refine Sh.walk_told (k := 10) (ps := ["calls"]) (Says := ShH.SaysS) (sp := Sh.spAnswers) (by decide +kernel) (by kernel_rfl) rfl ⟨rfl, by decide, by decide⟩ ?F ?S
    case F =>
      intro K c w mg fa h X G hm
      have hmg : mg ("answers" : PySem.Str) = some (.ref fa) := by
        have e : (HeadRun.topDef ShH.R.prog 80).name = ("answers" : PySem.Str) := by kernel_rfl
        rw [← e]
        exact hm
      exact Sh.facts X G hmg c
    case S =>
      intro K H xs a hwi hask hx
      cases hx with
      | cons h1 h2 =>
        cases h2
        cases h1 with
        | lst hs ha =>
          have e := L2.ints_dw a.1 _ ha
          subst e
          exact ⟨_, a.1, rfl, hs, hask, fun p H' _ hp => .lst (L2.SqL.of hp.2) (L2.dw_ints _)⟩
