import PyProof.Rows.All
import Wide.All
import OpenK.AllK
import Wide.FinOn
import KE.KStateDown
import HandS.ForMost
import HandS.Exc
import HandS.Defaults
import HandS.IsInst
import HandS.Head0
import HandS.Head1
import HandS.Head2
import HandS.HeadEnd
import HandS.HeadHook1
import HandS.HeadHook2
import HandS.HeadHook3
import HandS.HeadHook4
import HandS.CallRecv
import HandS.TupAny
import HandS.Strs
import HandS.SetFor
import HandS.DictTup
import HandS.TupSets
import HandS.Style
import HandS.Flow
import HandS.Walk
import KE.GoesEnum
import HandS.Conv
import KE.KDictCopyH
import KE.KDictDisplayH
import KE.KeyNested
import PySem.Challenge.RW_quietrows_k94_whole_streams_and_rows_cou
set_option Elab.async false
set_option linter.all false
set_option maxRecDepth 100000
namespace Mir
inductive Kd where | last | first | limit
  deriving DecidableEq

/-- the indexes that a member keeps of relative times -/
def kLast (q : Nat) (T : List Nat) : List Nat :=
  (List.range T.length).filter fun i => i + 1 == T.length || decide (T.getD i 0 + q ≤ T.getD (i + 1) 0)
def kFirst (q : Nat) (T : List Nat) : List Nat :=
  (List.range T.length).filter fun i => i == 0 || decide (T.getD (i - 1) 0 + q ≤ T.getD i 0)
def kLimitGo (q : Nat) : List Nat → Nat → Option Nat → List Nat
  | [], _, _ => []
  | t :: r, i, none => i :: kLimitGo q r (i + 1) (some t)
  | t :: r, i, some l => if l + q ≤ t then i :: kLimitGo q r (i + 1) (some t) else kLimitGo q r (i + 1) (some l)
def kLimit (q : Nat) (T : List Nat) : List Nat := kLimitGo q T 0 none
def kept (k : Kd) (q : Nat) (T : List Nat) : List Nat := match k with
  | .last => kLast q T | .first => kFirst q T | .limit => kLimit q T

def pick (xs : List Nat) (is : List Nat) : List Nat := is.map fun i => xs.getD i 0

/-- one record -/
def leftM (T : List Nat) (ns : List Nat) (k : Kd) (q : Nat) : List Nat := pick ns (kept k q (pick T ns))

def insU (x : Nat) : List Nat → List Nat
  | [] => [x]
  | y :: r => if x < y then x :: y :: r else if x = y then y :: r else y :: insU x r
def sortU (xs : List Nat) : List Nat := xs.foldr insU []
def diffs : List Nat → List Nat
  | [] => []
  | t :: r => r.map (· - t) ++ diffs r
def strGo (most : Nat) : List Nat → Nat → List (Nat × Nat)
  | [], _ => []
  | g :: r, low => if low ≤ min g most then (low, min g most) :: strGo most r (min g most + 1) else strGo most r low
def stretchM (T : List Nat) (most : Nat) : List (Nat × Nat) := strGo most (sortU (diffs T) ++ [most]) 2

def isOpen (goal ns : List Nat) : Bool := goal.all fun g => ns.contains g

def val (kvs : List (List Nat × Nat)) (k : List Nat) : Option Nat := (kvs.find? fun kv => decide (kv.1 = k)).map (·.2)
def put (kvs : List (List Nat × Nat)) (k : List Nat) (v : Nat) : List (List Nat × Nat) :=
  if (kvs.any fun kv => decide (kv.1 = k)) = true then kvs.map (fun kv => if kv.1 = k then (kv.1, v) else kv) else kvs ++ [(k, v)]
def KS : List Kd := [.first, .last, .limit]
def waysOf (p : Nat × Nat) : Nat := (1 * 2 ^ (2 * (p.2 - p.1 + 1)) - 1) / 3
def stepKind (T goal ns : List Nat) (many w q : Nat) (b : List (List Nat × Nat)) (k : Kd) : List (List Nat × Nat) :=
  if isOpen goal (leftM T ns k q) = true then put b (leftM T ns k q) ((val b (leftM T ns k q)).getD 0 + many * w) else b
def stepEnt (T goal : List Nat) (p : Nat × Nat) (b : List (List Nat × Nat)) (e : List Nat × Nat) : List (List Nat × Nat) :=
  KS.foldl (stepKind T goal e.1 e.2 (waysOf p) p.1) b
def stepStr (T goal : List Nat) (t : List (List Nat × Nat)) (p : Nat × Nat) : List (List Nat × Nat) :=
  t.foldl (stepEnt T goal p) t
def waysM (T goal : List Nat) (most : Nat) : Nat :=
  (val ((stretchM T most).foldl (stepStr T goal) [(List.range T.length, 1)]) goal).getD 0

def minO (xs : List (Option Nat)) : Option Nat := match xs.filterMap id with
  | [] => none
  | x :: r => some (r.foldl min x)
/-- need, the stretches from the place on -/
def needM (T goal : List Nat) : List (Nat × Nat) → List Nat → Option Nat
  | [], ns => if ns = goal then some 0 else none
  | p :: r, ns => if ns = goal then some 0 else if isOpen goal ns = false then none else
      minO (needM T goal r ns :: KS.map fun k => if leftM T ns k p.1 = ns then none else (needM T goal r (leftM T ns k p.1)).map (· + 1))
def nextAt (T goal ns : List Nat) (many : Nat) (k : Kd) : List (Nat × Nat) → Option (List (Nat × Nat) × Nat × List Nat)
  | [] => none
  | p :: r => if leftM T ns k p.1 ≠ ns ∧ needM T goal r (leftM T ns k p.1) = some (many - 1) then some (r, p.1, leftM T ns k p.1) else nextAt T goal ns many k r
def nextM (T goal ns : List Nat) (many : Nat) (st : List (Nat × Nat)) : List Kd → Option (Kd × List (Nat × Nat) × Nat × List Nat)
  | [] => none
  | k :: ks => match nextAt T goal ns many k st with
    | some x => some (k, x)
    | none => nextM T goal ns many st ks
/-- the least records; none: it would break -/
def leastGo (T goal : List Nat) : Nat → List (Nat × Nat) → List Nat → Option (List (Kd × Nat))
  | 0, _, _ => some []
  | n + 1, st, ns => match nextM T goal ns (n + 1) st KS with
    | none => none
    | some (k, r, q, l) => (leastGo T goal n r l).map ((k, q) :: ·)
def leastM (T goal : List Nat) (most : Nat) : Option (Option (List (Kd × Nat))) :=
  match needM T goal (stretchM T most) (List.range T.length) with
  | none => some none
  | some m => (leastGo T goal m (stretchM T most) (List.range T.length)).map some

/-- speakers; none: it would break -/
def spkGo (k : Kd) (kp : List Nat) : Nat → Nat → Nat → Option (List Nat)
  | 0, _, _ => some []
  | n + 1, i, pl => match k with
    | .last => if pl < kp.length then
        let pl' := pl + (if kp.getD pl 0 < i then 1 else 0)
        (spkGo k kp n (i + 1) pl').map (pl' :: ·) else none
    | _ => let pl' := if pl + 1 < kp.length ∧ kp.getD (pl + 1) 0 ≤ i then pl + 1 else pl
        (spkGo k kp n (i + 1) pl').map (pl' :: ·)
def toldGo (T : List Nat) : List (Kd × Nat) → List Nat → List Nat → Option (List Nat × List Nat)
  | [], ns, vs => some (ns, vs)
  | (k, q) :: r, ns, vs => match spkGo k (kept k q (pick T ns)) ns.length 0 0 with
    | none => none
    | some pl => if vs.all (· < pl.length) then toldGo T r (leftM T ns k q) (pick pl vs) else none
def toldM (T : List Nat) (rs : List (Kd × Nat)) : Option (List Nat) := match toldGo T rs (List.range T.length) (List.range T.length) with
  | none => none
  | some (ns, vs) => if (List.range ns.length).all (fun i => vs.contains i) then some ns else none

/-! pasts -/
def folded (a b : List Nat) (n : Nat) : List Nat := (List.range (n + 1)).map fun w => ((List.range (w + 1)).map fun p => a.getD p 0 * b.getD (w - p) 0).sum
def chainsGo (st : List Nat) (q : Nat) : Nat → Nat → List Nat → List Nat
  | 0, _, f => f
  | n + 1, w, f => chainsGo st q n (w + 1) (f ++ [((List.range (min w (q - 1))).map fun j => st.getD (j + 1) 0 * f.getD (w - (j + 1)) 0).sum])
def chainsM (st : List Nat) (n q : Nat) : List Nat := chainsGo st q n 1 [1]
structure Wy where
  st : List Nat
  hd : List Nat
  tl : List Nat
def below (q : Nat) (xs : List Nat) : List Nat := (List.range xs.length).map fun i => if i < q then xs.getD i 0 else 0
def above (q : Nat) (xs : List Nat) : List Nat := (List.range xs.length).map fun i => if q ≤ i then xs.getD i 0 else 0
def addW (n : Nat) (w : Wy) (r : Kd × Nat) : Wy :=
  let c := chainsM w.st n r.2
  match r.1 with
  | .last => ⟨folded c (above r.2 w.st) n, folded c w.hd n, w.tl⟩
  | .first => ⟨folded c (above r.2 w.st) n, w.hd, folded c w.tl n⟩
  | .limit => let c2 := below r.2 c
    ⟨above r.2 (folded c2 w.st n), w.hd, folded c2 w.tl n⟩
def wy0 (n : Nat) : Wy := ⟨0 :: List.replicate n 1, List.replicate (n + 1) 1, List.replicate (n + 1) 1⟩
def stepsProd (st : List Nat) : List Nat → Nat → Nat
  | a :: b :: r, x => stepsProd st (b :: r) (x * st.getD (b - a) 0)
  | _, x => x
def recsM (rs : List (Kd × Nat)) : List (Kd × Nat) := (rs.foldl (fun (a : List (Kd × Nat) × Nat) r => if a.2 < r.2 then (a.1 ++ [r], r.2) else a) ([], 1)).1
/-- n is the size less 1 -/
def pastsM (rs : List (Kd × Nat)) (E : List Nat) (n : Nat) : Nat :=
  let w := rs.foldl (addW n) (wy0 n)
  stepsProd w.st E (w.hd.getD (E.headD 0) 0 * w.tl.getD (n - E.getLastD 0) 0)

/-- every number stays small -/
def bnd (xs : List Nat) : Bool := xs.all fun x => decide (x < 1000000000)
def pOk (n : Nat) : Wy → List (Kd × Nat) → Bool
  | w, [] => bnd w.st && bnd w.hd && bnd w.tl
  | w, r :: t => bnd (chainsM w.st n r.2) && pOk n (addW n w r) t
/-! the law -/
def winGo : Nat → List (List Nat)
  | 0 => [[]]
  | n + 1 => winGo n ++ (winGo n).map fun s => s ++ [n]
def formsGo : Nat → List (List (Kd × Nat))
  | 0 => [[]]
  | n + 1 => formsGo n ++ ([Kd.last, .first, .limit].map fun k => (formsGo n).map fun r => r ++ [(k, n + 2)]).flatten
def incB : List Nat → Bool
  | a :: b :: r => decide (a < b) && incB (b :: r)
  | _ => true
def sub (E T : List Nat) : Bool := E.all fun e => T.contains e
def numsOf (E T : List Nat) : List Nat := E.map fun e => T.idxOf e
def chkS (most : Nat) (E T : List Nat) : Bool :=
  incB T && incB (numsOf E T) && (numsOf E T).all (· < T.length) &&
  match leastM T (numsOf E T) most with
  | none => false
  | some none => decide (waysM T (numsOf E T) most = 0)
  | some (some rs) => !decide (waysM T (numsOf E T) most = 0) && decide (toldM T rs = some (numsOf E T))
def byStreams (most size : Nat) (E : List Nat) : Nat := (((winGo size).filter (sub E)).map fun T => waysM T (numsOf E T) most).sum
def byRows (most size : Nat) (E : List Nat) : Nat := ((formsGo (most - 1)).map fun rs => pastsM rs E (size - 1)).sum
def chk (most size : Nat) (E : List Nat) : Bool :=
  ((winGo size).filter (sub E)).all (chkS most E) && decide (byStreams most size E = byRows most size E)
/-- the events that can be drawn: increasing, 1 to 3 of them -/
def evs (size : Nat) : List (List Nat) := (winGo size).filter fun E => 0 < E.length && E.length ≤ 3
def chkAll (most size : Nat) : Bool := (evs size).all (chk most size)
end Mir
set_option maxHeartbeats 4000000
namespace Qr
open PySem PySem.Spec PyProof.Rows L2
def top (i : Nat) : Stmt := PySem.Challenge.pw_quietrows_k94_whole_streams_and_rows_cou.main.body.getD i (.Pass ⟨0, 0, 0, 0⟩)
abbrev FnP (K : PySem.W.Frag) (x q : Str) (st : Stmt) (f : Addr) (fd : FuncData) : Prop := FunD K x q (defArgs st) (defBody st) (defScope st) [] [] f fd
abbrev sf_is_number : Stmt := top 9
abbrev sf_check_stream : Stmt := top 11
abbrev sf_is_member : Stmt := top 17
abbrev sf_speakers : Stmt := top 18
abbrev sf_told_events : Stmt := top 22
abbrev sf_record_places : Stmt := top 27
abbrev sf_records_in : Stmt := top 28
abbrev sf_records_of : Stmt := top 29
abbrev sf_member_of : Stmt := top 30
abbrev sf_check_numbers : Stmt := top 34
abbrev sf_stretches : Stmt := top 35
abbrev sf_count_leading : Stmt := top 37
abbrev sf_least_leading : Stmt := top 38
abbrev sf_folded : Stmt := top 41
abbrev sf_count_pasts : Stmt := top 43
abbrev sf_law_cell_at : Stmt := top 45
abbrev sf_law_state : Stmt := top 46
abbrev sf_law_digit : Stmt := top 47
abbrev sf_law_kinds : Stmt := top 48
abbrev sf_law_made : Stmt := top 49
abbrev sf_law_late_of : Stmt := top 50
abbrev sf_law_row_of : Stmt := top 51
abbrev sf_law_windows : Stmt := top 52
abbrev sf_law_forms : Stmt := top 53
abbrev sf_law_right : Stmt := top 54
abbrev sf_law : Stmt := top 55
abbrev s_Member_init : Stmt := inClass (top 12) 0
abbrev s_Last_class_name : Stmt := inClass (top 13) 0
abbrev s_Last_kept : Stmt := inClass (top 13) 1
abbrev s_Last_waits : Stmt := inClass (top 13) 2
abbrev s_First_class_name : Stmt := inClass (top 14) 0
abbrev s_First_kept : Stmt := inClass (top 14) 1
abbrev s_Member_waits : Stmt := inClass (top 12) 2
abbrev s_Limit_class_name : Stmt := inClass (top 15) 0
abbrev s_Limit_kept : Stmt := inClass (top 15) 1
abbrev s_Row_init : Stmt := inClass (top 20) 0
abbrev s_Row_delays : Stmt := inClass (top 20) 3
abbrev s_Told_init : Stmt := inClass (top 21) 0
abbrev s_Leads_init : Stmt := inClass (top 36) 0
abbrev s_Leads_left : Stmt := inClass (top 36) 1
abbrev s_Leads_is_open : Stmt := inClass (top 36) 2
abbrev s_Leads_ways_to_goal : Stmt := inClass (top 36) 3
abbrev s_Leads_need : Stmt := inClass (top 36) 4
abbrev s_Leads_next_record : Stmt := inClass (top 36) 5
abbrev s_Leads_least : Stmt := inClass (top 36) 6
abbrev s_Ways_init : Stmt := inClass (top 42) 0
abbrev s_Ways_chains : Stmt := inClass (top 42) 1
abbrev s_Ways_add : Stmt := inClass (top 42) 2
/-! the facts of the head -/
def df_is_number : He.DefD := ⟨("is_number", none), "is_number", "is_number", defArgs sf_is_number, defBody sf_is_number, defScope sf_is_number, [], []⟩
def df_check_stream : He.DefD := ⟨("check_stream", none), "check_stream", "check_stream", defArgs sf_check_stream, defBody sf_check_stream, defScope sf_check_stream, [], []⟩
def df_is_member : He.DefD := ⟨("is_member", none), "is_member", "is_member", defArgs sf_is_member, defBody sf_is_member, defScope sf_is_member, [], []⟩
def df_speakers : He.DefD := ⟨("speakers", none), "speakers", "speakers", defArgs sf_speakers, defBody sf_speakers, defScope sf_speakers, [], []⟩
def df_told_events : He.DefD := ⟨("told_events", none), "told_events", "told_events", defArgs sf_told_events, defBody sf_told_events, defScope sf_told_events, [], []⟩
def df_record_places : He.DefD := ⟨("record_places", none), "record_places", "record_places", defArgs sf_record_places, defBody sf_record_places, defScope sf_record_places, [], []⟩
def df_records_in : He.DefD := ⟨("records_in", none), "records_in", "records_in", defArgs sf_records_in, defBody sf_records_in, defScope sf_records_in, [], []⟩
def df_records_of : He.DefD := ⟨("records_of", none), "records_of", "records_of", defArgs sf_records_of, defBody sf_records_of, defScope sf_records_of, [], []⟩
def df_member_of : He.DefD := ⟨("member_of", none), "member_of", "member_of", defArgs sf_member_of, defBody sf_member_of, defScope sf_member_of, [], []⟩
def df_check_numbers : He.DefD := ⟨("check_numbers", none), "check_numbers", "check_numbers", defArgs sf_check_numbers, defBody sf_check_numbers, defScope sf_check_numbers, [], []⟩
def df_stretches : He.DefD := ⟨("stretches", none), "stretches", "stretches", defArgs sf_stretches, defBody sf_stretches, defScope sf_stretches, [], []⟩
def df_count_leading : He.DefD := ⟨("count_leading", none), "count_leading", "count_leading", defArgs sf_count_leading, defBody sf_count_leading, defScope sf_count_leading, [], []⟩
def df_least_leading : He.DefD := ⟨("least_leading", none), "least_leading", "least_leading", defArgs sf_least_leading, defBody sf_least_leading, defScope sf_least_leading, [], []⟩
def df_folded : He.DefD := ⟨("folded", none), "folded", "folded", defArgs sf_folded, defBody sf_folded, defScope sf_folded, [], []⟩
def df_count_pasts : He.DefD := ⟨("count_pasts", none), "count_pasts", "count_pasts", defArgs sf_count_pasts, defBody sf_count_pasts, defScope sf_count_pasts, [], []⟩
def df_law_cell_at : He.DefD := ⟨("_law_cell_at", none), "_law_cell_at", "_law_cell_at", defArgs sf_law_cell_at, defBody sf_law_cell_at, defScope sf_law_cell_at, [], []⟩
def df_law_state : He.DefD := ⟨("_law_state", none), "_law_state", "_law_state", defArgs sf_law_state, defBody sf_law_state, defScope sf_law_state, [], []⟩
def df_law_digit : He.DefD := ⟨("_law_digit", none), "_law_digit", "_law_digit", defArgs sf_law_digit, defBody sf_law_digit, defScope sf_law_digit, [], []⟩
def df_law_kinds : He.DefD := ⟨("_law_kinds", none), "_law_kinds", "_law_kinds", defArgs sf_law_kinds, defBody sf_law_kinds, defScope sf_law_kinds, [], []⟩
def df_law_made : He.DefD := ⟨("_law_made", none), "_law_made", "_law_made", defArgs sf_law_made, defBody sf_law_made, defScope sf_law_made, [], []⟩
def df_law_late_of : He.DefD := ⟨("_law_late_of", none), "_law_late_of", "_law_late_of", defArgs sf_law_late_of, defBody sf_law_late_of, defScope sf_law_late_of, [], []⟩
def df_law_row_of : He.DefD := ⟨("_law_row_of", none), "_law_row_of", "_law_row_of", defArgs sf_law_row_of, defBody sf_law_row_of, defScope sf_law_row_of, [], []⟩
def df_law_windows : He.DefD := ⟨("_law_windows", none), "_law_windows", "_law_windows", defArgs sf_law_windows, defBody sf_law_windows, defScope sf_law_windows, [], []⟩
def df_law_forms : He.DefD := ⟨("_law_forms", none), "_law_forms", "_law_forms", defArgs sf_law_forms, defBody sf_law_forms, defScope sf_law_forms, [], []⟩
def df_law_right : He.DefD := ⟨("_law_right", none), "_law_right", "_law_right", defArgs sf_law_right, defBody sf_law_right, defScope sf_law_right, [], []⟩
def df_law : He.DefD := ⟨("law", none), "law", "law", defArgs sf_law, defBody sf_law, defScope sf_law, [], []⟩
def d_Last_init : He.DefD := ⟨("Last", some "__init__"), "__init__", "Member.__init__", defArgs s_Member_init, defBody s_Member_init, defScope s_Member_init, [], []⟩
def d_Last_class_name : He.DefD := ⟨("Last", some "class_name"), "class_name", "Last.class_name", defArgs s_Last_class_name, defBody s_Last_class_name, defScope s_Last_class_name, [], []⟩
def d_Last_kept : He.DefD := ⟨("Last", some "kept"), "kept", "Last.kept", defArgs s_Last_kept, defBody s_Last_kept, defScope s_Last_kept, [], []⟩
def d_Last_waits : He.DefD := ⟨("Last", some "waits"), "waits", "Last.waits", defArgs s_Last_waits, defBody s_Last_waits, defScope s_Last_waits, [], []⟩
def d_First_init : He.DefD := ⟨("First", some "__init__"), "__init__", "Member.__init__", defArgs s_Member_init, defBody s_Member_init, defScope s_Member_init, [], []⟩
def d_First_class_name : He.DefD := ⟨("First", some "class_name"), "class_name", "First.class_name", defArgs s_First_class_name, defBody s_First_class_name, defScope s_First_class_name, [], []⟩
def d_First_kept : He.DefD := ⟨("First", some "kept"), "kept", "First.kept", defArgs s_First_kept, defBody s_First_kept, defScope s_First_kept, [], []⟩
def d_First_waits : He.DefD := ⟨("First", some "waits"), "waits", "Member.waits", defArgs s_Member_waits, defBody s_Member_waits, defScope s_Member_waits, [], []⟩
def d_Limit_init : He.DefD := ⟨("Limit", some "__init__"), "__init__", "Member.__init__", defArgs s_Member_init, defBody s_Member_init, defScope s_Member_init, [], []⟩
def d_Limit_class_name : He.DefD := ⟨("Limit", some "class_name"), "class_name", "Limit.class_name", defArgs s_Limit_class_name, defBody s_Limit_class_name, defScope s_Limit_class_name, [], []⟩
def d_Limit_kept : He.DefD := ⟨("Limit", some "kept"), "kept", "Limit.kept", defArgs s_Limit_kept, defBody s_Limit_kept, defScope s_Limit_kept, [], []⟩
def d_Limit_waits : He.DefD := ⟨("Limit", some "waits"), "waits", "Member.waits", defArgs s_Member_waits, defBody s_Member_waits, defScope s_Member_waits, [], []⟩
def d_Row_init : He.DefD := ⟨("Row", some "__init__"), "__init__", "Row.__init__", defArgs s_Row_init, defBody s_Row_init, defScope s_Row_init, [], []⟩
def d_Row_delays : He.DefD := ⟨("Row", some "delays"), "delays", "Row.delays", defArgs s_Row_delays, defBody s_Row_delays, defScope s_Row_delays, [], []⟩
def d_Told_init : He.DefD := ⟨("Told", some "__init__"), "__init__", "Told.__init__", defArgs s_Told_init, defBody s_Told_init, defScope s_Told_init, [], []⟩
def d_Leads_init : He.DefD := ⟨("Leads", some "__init__"), "__init__", "Leads.__init__", defArgs s_Leads_init, defBody s_Leads_init, defScope s_Leads_init, [], []⟩
def d_Leads_left : He.DefD := ⟨("Leads", some "left"), "left", "Leads.left", defArgs s_Leads_left, defBody s_Leads_left, defScope s_Leads_left, [], []⟩
def d_Leads_is_open : He.DefD := ⟨("Leads", some "is_open"), "is_open", "Leads.is_open", defArgs s_Leads_is_open, defBody s_Leads_is_open, defScope s_Leads_is_open, [], []⟩
def d_Leads_ways_to_goal : He.DefD := ⟨("Leads", some "ways_to_goal"), "ways_to_goal", "Leads.ways_to_goal", defArgs s_Leads_ways_to_goal, defBody s_Leads_ways_to_goal, defScope s_Leads_ways_to_goal, [], []⟩
def d_Leads_need : He.DefD := ⟨("Leads", some "need"), "need", "Leads.need", defArgs s_Leads_need, defBody s_Leads_need, defScope s_Leads_need, [], []⟩
def d_Leads_next_record : He.DefD := ⟨("Leads", some "next_record"), "next_record", "Leads.next_record", defArgs s_Leads_next_record, defBody s_Leads_next_record, defScope s_Leads_next_record, [], []⟩
def d_Leads_least : He.DefD := ⟨("Leads", some "least"), "least", "Leads.least", defArgs s_Leads_least, defBody s_Leads_least, defScope s_Leads_least, [], []⟩
def d_Ways_init : He.DefD := ⟨("Ways", some "__init__"), "__init__", "Ways.__init__", defArgs s_Ways_init, defBody s_Ways_init, defScope s_Ways_init, [], []⟩
def d_Ways_chains : He.DefD := ⟨("Ways", some "chains"), "chains", "Ways.chains", defArgs s_Ways_chains, defBody s_Ways_chains, defScope s_Ways_chains, [], []⟩
def d_Ways_add : He.DefD := ⟨("Ways", some "add"), "add", "Ways.add", defArgs s_Ways_add, defBody s_Ways_add, defScope s_Ways_add, [], []⟩
def fn : List He.DefD := [df_is_number, df_check_stream, df_is_member, df_speakers, df_told_events, df_record_places, df_records_in, df_records_of, df_member_of, df_check_numbers, df_stretches, df_count_leading, df_least_leading, df_folded, df_count_pasts, df_law_cell_at, df_law_state, df_law_digit, df_law_kinds, df_law_made, df_law_late_of, df_law_row_of, df_law_windows, df_law_forms, df_law_right, df_law, d_Last_init, d_Last_class_name, d_Last_kept, d_Last_waits, d_First_init, d_First_class_name, d_First_kept, d_First_waits, d_Limit_init, d_Limit_class_name, d_Limit_kept, d_Limit_waits, d_Row_init, d_Row_delays, d_Told_init, d_Leads_init, d_Leads_left, d_Leads_is_open, d_Leads_ways_to_goal, d_Leads_need, d_Leads_next_record, d_Leads_least, d_Ways_init, d_Ways_chains, d_Ways_add]
def fa0 : List He.Fa := [.glo "is_number", .glo "check_stream", .glo "is_member", .glo "speakers", .glo "told_events", .glo "record_places", .glo "records_in", .glo "records_of", .glo "member_of", .glo "check_numbers", .glo "stretches", .glo "count_leading", .glo "least_leading", .glo "folded", .glo "count_pasts", .glo "_law_cell_at", .glo "_law_state", .glo "_law_digit", .glo "_law_kinds", .glo "_law_made", .glo "_law_late_of", .glo "_law_row_of", .glo "_law_windows", .glo "_law_forms", .glo "_law_right", .glo "law", .glo "Last", .glo "First", .glo "Limit", .glo "Row", .glo "Told", .glo "Leads", .glo "Ways", .glo "Delay", .keep "Last"]
def fa1 : List He.Fa := [.keep "First", .keep "Limit", .keep "Row", .keep "Told", .keep "Leads", .keep "Ways", .keep "Delay", .glo "KINDS", .free "len", .free "range", .free "isinstance", .free "int", .free "bool", .free "tuple", .free "list", .free "sum", .free "sorted", .free "set", .free "max", .free "min", .free "abs", .free "enumerate", .free "dict", .int "MOST_QUIET" 300, .int "MOST_TIMES" 300, .str "LAST" "last", .str "FIRST" "first", .str "LIMIT" "limit", .cls "Last", .cls "First", .cls "Limit", .cls "Row", .cls "Told", .cls "Leads", .cls "Ways"]
def fa2 : List He.Fa := [.mkr "Last", .mkr "First", .mkr "Limit", .mkr "Row", .mkr "Told", .mkr "Leads", .mkr "Ways", .noat "Last" "q", .noat "First" "q", .noat "Limit" "q", .noat "Row" "members", .noat "Told" "number", .noat "Told" "time", .noat "Told" "first", .noat "Told" "last", .noat "Leads" "stream", .noat "Leads" "goal", .noat "Leads" "stretches", .noat "Leads" "fewest", .noat "Ways" "size", .noat "Ways" "steps", .noat "Ways" "heads", .noat "Ways" "tails", .meth "Last" "class_name", .meth "Last" "kept", .meth "Last" "waits", .meth "First" "class_name", .meth "First" "kept", .meth "First" "waits", .meth "Limit" "class_name", .meth "Limit" "kept", .meth "Limit" "waits", .meth "Row" "delays", .meth "Leads" "left", .meth "Leads" "is_open"]
def fa3 : List He.Fa := [.meth "Leads" "ways_to_goal", .meth "Leads" "need", .meth "Leads" "next_record", .meth "Leads" "least", .meth "Ways" "chains", .meth "Ways" "add"]
def fa : List He.Fa := fa0 ++ fa1 ++ fa2 ++ fa3
def ex (K : PySem.W.Frag) : Bool := [He.tupB K "KINDS" [.str "first", .str "last", .str "limit"],
  decide (PySem.W.specialIn K (.builtin "object.__class__") "__get__" = some (some (.builtin "getset_descriptor.__get__"))),
  decide (PySem.W.takesIn K (.builtin "object.__class__") = some true),
  decide (PySem.W.findIn K (.ref (He.ga K "Last")) "__class__" = some (some (.builtin "object.__class__"))),
  decide (PySem.W.mroIn K (He.ga K "Last") (.type "object") = some true),
  decide (PySem.W.kitAny K (.ref (He.ga K "Last")) [.ref (He.ga K "Last"), .ref (He.ga K "First"), .ref (He.ga K "Limit"), .ref (He.ga K "Delay")] = some true),
  decide (PySem.W.kitOne K (.ref (He.ga K "Last")) (.ref (He.ga K "Last")) = some true),
  decide (PySem.W.kitOne K (.ref (He.ga K "Last")) (.ref (He.ga K "Delay")) = some false),
  decide (PySem.W.findIn K (.ref (He.ga K "First")) "__class__" = some (some (.builtin "object.__class__"))),
  decide (PySem.W.mroIn K (He.ga K "First") (.type "object") = some true),
  decide (PySem.W.kitAny K (.ref (He.ga K "First")) [.ref (He.ga K "Last"), .ref (He.ga K "First"), .ref (He.ga K "Limit"), .ref (He.ga K "Delay")] = some true),
  decide (PySem.W.kitOne K (.ref (He.ga K "First")) (.ref (He.ga K "Last")) = some false),
  decide (PySem.W.kitOne K (.ref (He.ga K "First")) (.ref (He.ga K "Delay")) = some false),
  decide (PySem.W.findIn K (.ref (He.ga K "Limit")) "__class__" = some (some (.builtin "object.__class__"))),
  decide (PySem.W.mroIn K (He.ga K "Limit") (.type "object") = some true),
  decide (PySem.W.kitAny K (.ref (He.ga K "Limit")) [.ref (He.ga K "Last"), .ref (He.ga K "First"), .ref (He.ga K "Limit"), .ref (He.ga K "Delay")] = some true),
  decide (PySem.W.kitOne K (.ref (He.ga K "Limit")) (.ref (He.ga K "Last")) = some false),
  decide (PySem.W.kitOne K (.ref (He.ga K "Limit")) (.ref (He.ga K "Delay")) = some false)].all id
abbrev R : PySem.W.OpenRow := PySem.W.OpenLaw.row PySem.Challenge.rw_quietrows_k94_whole_streams_and_rows_cou
abbrev hk : PySem.W.Hook := He.hookX 6 fa fn [] [] ex
def ob (s : PySem.W.SharedT) : He.AlX := He.obsX 6 fa fn [] [] ex (HandSHeadRun.getT s)
theorem ob_eq (s : PySem.W.SharedT) : ob s = hk.obs s.abs := He.obsX_eq (HandSHeadRun.getT_eq s)
def names0 : List Str := ["QuietError", "BadStream", "BadMember", "BadRow", "Large", "BadNumbers", "Thing", "is_number", "check_stream", "Member", "Last", "First"]
def names1 : List Str := ["Limit", "Delay", "is_member", "speakers", "Row", "Told", "told_events", "LAST", "FIRST", "LIMIT", "record_places", "records_in"]
def names2 : List Str := ["records_of", "member_of", "MOST_QUIET", "KINDS", "check_numbers", "stretches", "Leads", "count_leading", "least_leading", "MOST_TIMES", "folded", "Ways"]
def names3 : List Str := ["count_pasts", "_law_cell_at", "_law_state", "_law_digit", "_law_kinds", "_law_made", "_law_late_of", "_law_row_of", "_law_windows", "_law_forms", "_law_right"]
def names : List Str := names0 ++ names1 ++ names2 ++ names3
end Qr
set_option maxHeartbeats 4000000
namespace Qr
open PySem PySem.Spec PyProof.Rows L2
/-- what stands behind the top -/
structure Txt (K : PySem.W.Frag) (mg : Str → Option Value) : Prop where
  inn : ∃ h : Heap, K.In h ∧ h.Ns mainGlobals mg
  sa : He.SaysD fa fn K
  mo : ex K = true
section
variable {K : PySem.W.Frag} {mg : Str → Option Value}
theorem Txt.g_is_number (T : Txt K mg) : mg "is_number" = some (.ref (He.ga K "is_number")) := by
  obtain ⟨h, X, G⟩ := T.inn
  exact He.glo_ok X G (T.sa.fact 0 (f := .glo "is_number") rfl)
theorem Txt.g_check_stream (T : Txt K mg) : mg "check_stream" = some (.ref (He.ga K "check_stream")) := by
  obtain ⟨h, X, G⟩ := T.inn
  exact He.glo_ok X G (T.sa.fact 1 (f := .glo "check_stream") rfl)
theorem Txt.g_is_member (T : Txt K mg) : mg "is_member" = some (.ref (He.ga K "is_member")) := by
  obtain ⟨h, X, G⟩ := T.inn
  exact He.glo_ok X G (T.sa.fact 2 (f := .glo "is_member") rfl)
theorem Txt.g_speakers (T : Txt K mg) : mg "speakers" = some (.ref (He.ga K "speakers")) := by
  obtain ⟨h, X, G⟩ := T.inn
  exact He.glo_ok X G (T.sa.fact 3 (f := .glo "speakers") rfl)
theorem Txt.g_told_events (T : Txt K mg) : mg "told_events" = some (.ref (He.ga K "told_events")) := by
  obtain ⟨h, X, G⟩ := T.inn
  exact He.glo_ok X G (T.sa.fact 4 (f := .glo "told_events") rfl)
theorem Txt.g_record_places (T : Txt K mg) : mg "record_places" = some (.ref (He.ga K "record_places")) := by
  obtain ⟨h, X, G⟩ := T.inn
  exact He.glo_ok X G (T.sa.fact 5 (f := .glo "record_places") rfl)
theorem Txt.g_records_in (T : Txt K mg) : mg "records_in" = some (.ref (He.ga K "records_in")) := by
  obtain ⟨h, X, G⟩ := T.inn
  exact He.glo_ok X G (T.sa.fact 6 (f := .glo "records_in") rfl)
theorem Txt.g_records_of (T : Txt K mg) : mg "records_of" = some (.ref (He.ga K "records_of")) := by
  obtain ⟨h, X, G⟩ := T.inn
  exact He.glo_ok X G (T.sa.fact 7 (f := .glo "records_of") rfl)
theorem Txt.g_member_of (T : Txt K mg) : mg "member_of" = some (.ref (He.ga K "member_of")) := by
  obtain ⟨h, X, G⟩ := T.inn
  exact He.glo_ok X G (T.sa.fact 8 (f := .glo "member_of") rfl)
theorem Txt.g_check_numbers (T : Txt K mg) : mg "check_numbers" = some (.ref (He.ga K "check_numbers")) := by
  obtain ⟨h, X, G⟩ := T.inn
  exact He.glo_ok X G (T.sa.fact 9 (f := .glo "check_numbers") rfl)
theorem Txt.g_stretches (T : Txt K mg) : mg "stretches" = some (.ref (He.ga K "stretches")) := by
  obtain ⟨h, X, G⟩ := T.inn
  exact He.glo_ok X G (T.sa.fact 10 (f := .glo "stretches") rfl)
theorem Txt.g_count_leading (T : Txt K mg) : mg "count_leading" = some (.ref (He.ga K "count_leading")) := by
  obtain ⟨h, X, G⟩ := T.inn
  exact He.glo_ok X G (T.sa.fact 11 (f := .glo "count_leading") rfl)
theorem Txt.g_least_leading (T : Txt K mg) : mg "least_leading" = some (.ref (He.ga K "least_leading")) := by
  obtain ⟨h, X, G⟩ := T.inn
  exact He.glo_ok X G (T.sa.fact 12 (f := .glo "least_leading") rfl)
theorem Txt.g_folded (T : Txt K mg) : mg "folded" = some (.ref (He.ga K "folded")) := by
  obtain ⟨h, X, G⟩ := T.inn
  exact He.glo_ok X G (T.sa.fact 13 (f := .glo "folded") rfl)
theorem Txt.g_count_pasts (T : Txt K mg) : mg "count_pasts" = some (.ref (He.ga K "count_pasts")) := by
  obtain ⟨h, X, G⟩ := T.inn
  exact He.glo_ok X G (T.sa.fact 14 (f := .glo "count_pasts") rfl)
theorem Txt.g__law_cell_at (T : Txt K mg) : mg "_law_cell_at" = some (.ref (He.ga K "_law_cell_at")) := by
  obtain ⟨h, X, G⟩ := T.inn
  exact He.glo_ok X G (T.sa.fact 15 (f := .glo "_law_cell_at") rfl)
theorem Txt.g__law_state (T : Txt K mg) : mg "_law_state" = some (.ref (He.ga K "_law_state")) := by
  obtain ⟨h, X, G⟩ := T.inn
  exact He.glo_ok X G (T.sa.fact 16 (f := .glo "_law_state") rfl)
theorem Txt.g__law_digit (T : Txt K mg) : mg "_law_digit" = some (.ref (He.ga K "_law_digit")) := by
  obtain ⟨h, X, G⟩ := T.inn
  exact He.glo_ok X G (T.sa.fact 17 (f := .glo "_law_digit") rfl)
theorem Txt.g__law_kinds (T : Txt K mg) : mg "_law_kinds" = some (.ref (He.ga K "_law_kinds")) := by
  obtain ⟨h, X, G⟩ := T.inn
  exact He.glo_ok X G (T.sa.fact 18 (f := .glo "_law_kinds") rfl)
theorem Txt.g__law_made (T : Txt K mg) : mg "_law_made" = some (.ref (He.ga K "_law_made")) := by
  obtain ⟨h, X, G⟩ := T.inn
  exact He.glo_ok X G (T.sa.fact 19 (f := .glo "_law_made") rfl)
theorem Txt.g__law_late_of (T : Txt K mg) : mg "_law_late_of" = some (.ref (He.ga K "_law_late_of")) := by
  obtain ⟨h, X, G⟩ := T.inn
  exact He.glo_ok X G (T.sa.fact 20 (f := .glo "_law_late_of") rfl)
theorem Txt.g__law_row_of (T : Txt K mg) : mg "_law_row_of" = some (.ref (He.ga K "_law_row_of")) := by
  obtain ⟨h, X, G⟩ := T.inn
  exact He.glo_ok X G (T.sa.fact 21 (f := .glo "_law_row_of") rfl)
theorem Txt.g__law_windows (T : Txt K mg) : mg "_law_windows" = some (.ref (He.ga K "_law_windows")) := by
  obtain ⟨h, X, G⟩ := T.inn
  exact He.glo_ok X G (T.sa.fact 22 (f := .glo "_law_windows") rfl)
theorem Txt.g__law_forms (T : Txt K mg) : mg "_law_forms" = some (.ref (He.ga K "_law_forms")) := by
  obtain ⟨h, X, G⟩ := T.inn
  exact He.glo_ok X G (T.sa.fact 23 (f := .glo "_law_forms") rfl)
theorem Txt.g__law_right (T : Txt K mg) : mg "_law_right" = some (.ref (He.ga K "_law_right")) := by
  obtain ⟨h, X, G⟩ := T.inn
  exact He.glo_ok X G (T.sa.fact 24 (f := .glo "_law_right") rfl)
theorem Txt.g_law (T : Txt K mg) : mg "law" = some (.ref (He.ga K "law")) := by
  obtain ⟨h, X, G⟩ := T.inn
  exact He.glo_ok X G (T.sa.fact 25 (f := .glo "law") rfl)
theorem Txt.g_Last (T : Txt K mg) : mg "Last" = some (.ref (He.ga K "Last")) := by
  obtain ⟨h, X, G⟩ := T.inn
  exact He.glo_ok X G (T.sa.fact 26 (f := .glo "Last") rfl)
theorem Txt.g_First (T : Txt K mg) : mg "First" = some (.ref (He.ga K "First")) := by
  obtain ⟨h, X, G⟩ := T.inn
  exact He.glo_ok X G (T.sa.fact 27 (f := .glo "First") rfl)
theorem Txt.g_Limit (T : Txt K mg) : mg "Limit" = some (.ref (He.ga K "Limit")) := by
  obtain ⟨h, X, G⟩ := T.inn
  exact He.glo_ok X G (T.sa.fact 28 (f := .glo "Limit") rfl)
theorem Txt.g_Row (T : Txt K mg) : mg "Row" = some (.ref (He.ga K "Row")) := by
  obtain ⟨h, X, G⟩ := T.inn
  exact He.glo_ok X G (T.sa.fact 29 (f := .glo "Row") rfl)
theorem Txt.g_Told (T : Txt K mg) : mg "Told" = some (.ref (He.ga K "Told")) := by
  obtain ⟨h, X, G⟩ := T.inn
  exact He.glo_ok X G (T.sa.fact 30 (f := .glo "Told") rfl)
theorem Txt.g_Leads (T : Txt K mg) : mg "Leads" = some (.ref (He.ga K "Leads")) := by
  obtain ⟨h, X, G⟩ := T.inn
  exact He.glo_ok X G (T.sa.fact 31 (f := .glo "Leads") rfl)
theorem Txt.g_Ways (T : Txt K mg) : mg "Ways" = some (.ref (He.ga K "Ways")) := by
  obtain ⟨h, X, G⟩ := T.inn
  exact He.glo_ok X G (T.sa.fact 32 (f := .glo "Ways") rfl)
theorem Txt.g_Delay (T : Txt K mg) : mg "Delay" = some (.ref (He.ga K "Delay")) := by
  obtain ⟨h, X, G⟩ := T.inn
  exact He.glo_ok X G (T.sa.fact 33 (f := .glo "Delay") rfl)
theorem Txt.keep_Last (T : Txt K mg) : PySem.W.keepIn K (.ref (He.ga K "Last")) = true := He.keep_ok (T.sa.fact 34 (f := .keep "Last") rfl)
theorem Txt.keep_First (T : Txt K mg) : PySem.W.keepIn K (.ref (He.ga K "First")) = true := He.keep_ok (T.sa.fact 35 (f := .keep "First") rfl)
theorem Txt.keep_Limit (T : Txt K mg) : PySem.W.keepIn K (.ref (He.ga K "Limit")) = true := He.keep_ok (T.sa.fact 36 (f := .keep "Limit") rfl)
theorem Txt.keep_Row (T : Txt K mg) : PySem.W.keepIn K (.ref (He.ga K "Row")) = true := He.keep_ok (T.sa.fact 37 (f := .keep "Row") rfl)
theorem Txt.keep_Told (T : Txt K mg) : PySem.W.keepIn K (.ref (He.ga K "Told")) = true := He.keep_ok (T.sa.fact 38 (f := .keep "Told") rfl)
theorem Txt.keep_Leads (T : Txt K mg) : PySem.W.keepIn K (.ref (He.ga K "Leads")) = true := He.keep_ok (T.sa.fact 39 (f := .keep "Leads") rfl)
theorem Txt.keep_Ways (T : Txt K mg) : PySem.W.keepIn K (.ref (He.ga K "Ways")) = true := He.keep_ok (T.sa.fact 40 (f := .keep "Ways") rfl)
theorem Txt.keep_Delay (T : Txt K mg) : PySem.W.keepIn K (.ref (He.ga K "Delay")) = true := He.keep_ok (T.sa.fact 41 (f := .keep "Delay") rfl)
theorem Txt.g_KINDS (T : Txt K mg) : mg "KINDS" = some (.ref (He.ga K "KINDS")) := by
  obtain ⟨h, X, G⟩ := T.inn
  exact He.glo_ok X G (T.sa.fact 42 (f := .glo "KINDS") rfl)
theorem Txt.z_len (T : Txt K mg) : mg "len" = none := by
  obtain ⟨h, X, G⟩ := T.inn
  exact He.free_ok X G (T.sa.fact 43 (f := .free "len") rfl)
theorem Txt.z_range (T : Txt K mg) : mg "range" = none := by
  obtain ⟨h, X, G⟩ := T.inn
  exact He.free_ok X G (T.sa.fact 44 (f := .free "range") rfl)
theorem Txt.z_isinstance (T : Txt K mg) : mg "isinstance" = none := by
  obtain ⟨h, X, G⟩ := T.inn
  exact He.free_ok X G (T.sa.fact 45 (f := .free "isinstance") rfl)
theorem Txt.z_int (T : Txt K mg) : mg "int" = none := by
  obtain ⟨h, X, G⟩ := T.inn
  exact He.free_ok X G (T.sa.fact 46 (f := .free "int") rfl)
theorem Txt.z_bool (T : Txt K mg) : mg "bool" = none := by
  obtain ⟨h, X, G⟩ := T.inn
  exact He.free_ok X G (T.sa.fact 47 (f := .free "bool") rfl)
theorem Txt.z_tuple (T : Txt K mg) : mg "tuple" = none := by
  obtain ⟨h, X, G⟩ := T.inn
  exact He.free_ok X G (T.sa.fact 48 (f := .free "tuple") rfl)
theorem Txt.z_list (T : Txt K mg) : mg "list" = none := by
  obtain ⟨h, X, G⟩ := T.inn
  exact He.free_ok X G (T.sa.fact 49 (f := .free "list") rfl)
theorem Txt.z_sum (T : Txt K mg) : mg "sum" = none := by
  obtain ⟨h, X, G⟩ := T.inn
  exact He.free_ok X G (T.sa.fact 50 (f := .free "sum") rfl)
theorem Txt.z_sorted (T : Txt K mg) : mg "sorted" = none := by
  obtain ⟨h, X, G⟩ := T.inn
  exact He.free_ok X G (T.sa.fact 51 (f := .free "sorted") rfl)
theorem Txt.z_set (T : Txt K mg) : mg "set" = none := by
  obtain ⟨h, X, G⟩ := T.inn
  exact He.free_ok X G (T.sa.fact 52 (f := .free "set") rfl)
theorem Txt.z_max (T : Txt K mg) : mg "max" = none := by
  obtain ⟨h, X, G⟩ := T.inn
  exact He.free_ok X G (T.sa.fact 53 (f := .free "max") rfl)
theorem Txt.z_min (T : Txt K mg) : mg "min" = none := by
  obtain ⟨h, X, G⟩ := T.inn
  exact He.free_ok X G (T.sa.fact 54 (f := .free "min") rfl)
theorem Txt.z_abs (T : Txt K mg) : mg "abs" = none := by
  obtain ⟨h, X, G⟩ := T.inn
  exact He.free_ok X G (T.sa.fact 55 (f := .free "abs") rfl)
theorem Txt.z_enumerate (T : Txt K mg) : mg "enumerate" = none := by
  obtain ⟨h, X, G⟩ := T.inn
  exact He.free_ok X G (T.sa.fact 56 (f := .free "enumerate") rfl)
theorem Txt.z_dict (T : Txt K mg) : mg "dict" = none := by
  obtain ⟨h, X, G⟩ := T.inn
  exact He.free_ok X G (T.sa.fact 57 (f := .free "dict") rfl)
theorem Txt.i_MOST_QUIET (T : Txt K mg) : ∃ t, mg "MOST_QUIET" = some (.int 300 t) := by
  obtain ⟨h, X, G⟩ := T.inn
  exact He.int_ok X G (T.sa.fact 58 (f := .int "MOST_QUIET" 300) rfl)
theorem Txt.i_MOST_TIMES (T : Txt K mg) : ∃ t, mg "MOST_TIMES" = some (.int 300 t) := by
  obtain ⟨h, X, G⟩ := T.inn
  exact He.int_ok X G (T.sa.fact 59 (f := .int "MOST_TIMES" 300) rfl)
theorem Txt.t_LAST (T : Txt K mg) : ∃ t, mg "LAST" = some (.str "last" t) := by
  obtain ⟨h, X, G⟩ := T.inn
  exact He.str_ok X G (T.sa.fact 60 (f := .str "LAST" "last") rfl)
theorem Txt.t_FIRST (T : Txt K mg) : ∃ t, mg "FIRST" = some (.str "first" t) := by
  obtain ⟨h, X, G⟩ := T.inn
  exact He.str_ok X G (T.sa.fact 61 (f := .str "FIRST" "first") rfl)
theorem Txt.t_LIMIT (T : Txt K mg) : ∃ t, mg "LIMIT" = some (.str "limit" t) := by
  obtain ⟨h, X, G⟩ := T.inn
  exact He.str_ok X G (T.sa.fact 62 (f := .str "LIMIT" "limit") rfl)
theorem Txt.c_Last (T : Txt K mg) : Cls K (He.ga K "Last") := He.cls_ok (T.sa.fact 63 (f := .cls "Last") rfl)
theorem Txt.c_First (T : Txt K mg) : Cls K (He.ga K "First") := He.cls_ok (T.sa.fact 64 (f := .cls "First") rfl)
theorem Txt.c_Limit (T : Txt K mg) : Cls K (He.ga K "Limit") := He.cls_ok (T.sa.fact 65 (f := .cls "Limit") rfl)
theorem Txt.c_Row (T : Txt K mg) : Cls K (He.ga K "Row") := He.cls_ok (T.sa.fact 66 (f := .cls "Row") rfl)
theorem Txt.c_Told (T : Txt K mg) : Cls K (He.ga K "Told") := He.cls_ok (T.sa.fact 67 (f := .cls "Told") rfl)
theorem Txt.c_Leads (T : Txt K mg) : Cls K (He.ga K "Leads") := He.cls_ok (T.sa.fact 68 (f := .cls "Leads") rfl)
theorem Txt.c_Ways (T : Txt K mg) : Cls K (He.ga K "Ways") := He.cls_ok (T.sa.fact 69 (f := .cls "Ways") rfl)
theorem Txt.k_Last (T : Txt K mg) : Mk K (He.ga K "Last") (He.ma K (He.ga K "Last") "__init__") := He.mkr_ok (T.sa.fact 70 (f := .mkr "Last") rfl)
theorem Txt.k_First (T : Txt K mg) : Mk K (He.ga K "First") (He.ma K (He.ga K "First") "__init__") := He.mkr_ok (T.sa.fact 71 (f := .mkr "First") rfl)
theorem Txt.k_Limit (T : Txt K mg) : Mk K (He.ga K "Limit") (He.ma K (He.ga K "Limit") "__init__") := He.mkr_ok (T.sa.fact 72 (f := .mkr "Limit") rfl)
theorem Txt.k_Row (T : Txt K mg) : Mk K (He.ga K "Row") (He.ma K (He.ga K "Row") "__init__") := He.mkr_ok (T.sa.fact 73 (f := .mkr "Row") rfl)
theorem Txt.k_Told (T : Txt K mg) : Mk K (He.ga K "Told") (He.ma K (He.ga K "Told") "__init__") := He.mkr_ok (T.sa.fact 74 (f := .mkr "Told") rfl)
theorem Txt.k_Leads (T : Txt K mg) : Mk K (He.ga K "Leads") (He.ma K (He.ga K "Leads") "__init__") := He.mkr_ok (T.sa.fact 75 (f := .mkr "Leads") rfl)
theorem Txt.k_Ways (T : Txt K mg) : Mk K (He.ga K "Ways") (He.ma K (He.ga K "Ways") "__init__") := He.mkr_ok (T.sa.fact 76 (f := .mkr "Ways") rfl)
theorem Txt.n_Last_q (T : Txt K mg) : NoAttr K (He.ga K "Last") "q" := He.noat_ok (T.sa.fact 77 (f := .noat "Last" "q") rfl)
theorem Txt.n_First_q (T : Txt K mg) : NoAttr K (He.ga K "First") "q" := He.noat_ok (T.sa.fact 78 (f := .noat "First" "q") rfl)
theorem Txt.n_Limit_q (T : Txt K mg) : NoAttr K (He.ga K "Limit") "q" := He.noat_ok (T.sa.fact 79 (f := .noat "Limit" "q") rfl)
theorem Txt.n_Row_members (T : Txt K mg) : NoAttr K (He.ga K "Row") "members" := He.noat_ok (T.sa.fact 80 (f := .noat "Row" "members") rfl)
theorem Txt.n_Told_number (T : Txt K mg) : NoAttr K (He.ga K "Told") "number" := He.noat_ok (T.sa.fact 81 (f := .noat "Told" "number") rfl)
theorem Txt.n_Told_time (T : Txt K mg) : NoAttr K (He.ga K "Told") "time" := He.noat_ok (T.sa.fact 82 (f := .noat "Told" "time") rfl)
theorem Txt.n_Told_first (T : Txt K mg) : NoAttr K (He.ga K "Told") "first" := He.noat_ok (T.sa.fact 83 (f := .noat "Told" "first") rfl)
theorem Txt.n_Told_last (T : Txt K mg) : NoAttr K (He.ga K "Told") "last" := He.noat_ok (T.sa.fact 84 (f := .noat "Told" "last") rfl)
theorem Txt.n_Leads_stream (T : Txt K mg) : NoAttr K (He.ga K "Leads") "stream" := He.noat_ok (T.sa.fact 85 (f := .noat "Leads" "stream") rfl)
theorem Txt.n_Leads_goal (T : Txt K mg) : NoAttr K (He.ga K "Leads") "goal" := He.noat_ok (T.sa.fact 86 (f := .noat "Leads" "goal") rfl)
theorem Txt.n_Leads_stretches (T : Txt K mg) : NoAttr K (He.ga K "Leads") "stretches" := He.noat_ok (T.sa.fact 87 (f := .noat "Leads" "stretches") rfl)
theorem Txt.n_Leads_fewest (T : Txt K mg) : NoAttr K (He.ga K "Leads") "fewest" := He.noat_ok (T.sa.fact 88 (f := .noat "Leads" "fewest") rfl)
theorem Txt.n_Ways_size (T : Txt K mg) : NoAttr K (He.ga K "Ways") "size" := He.noat_ok (T.sa.fact 89 (f := .noat "Ways" "size") rfl)
theorem Txt.n_Ways_steps (T : Txt K mg) : NoAttr K (He.ga K "Ways") "steps" := He.noat_ok (T.sa.fact 90 (f := .noat "Ways" "steps") rfl)
theorem Txt.n_Ways_heads (T : Txt K mg) : NoAttr K (He.ga K "Ways") "heads" := He.noat_ok (T.sa.fact 91 (f := .noat "Ways" "heads") rfl)
theorem Txt.n_Ways_tails (T : Txt K mg) : NoAttr K (He.ga K "Ways") "tails" := He.noat_ok (T.sa.fact 92 (f := .noat "Ways" "tails") rfl)
theorem Txt.m_Last_class_name (T : Txt K mg) : Meth K (He.ga K "Last") "class_name" (He.ma K (He.ga K "Last") "class_name") := He.meth_ok (T.sa.fact 93 (f := .meth "Last" "class_name") rfl)
theorem Txt.m_Last_kept (T : Txt K mg) : Meth K (He.ga K "Last") "kept" (He.ma K (He.ga K "Last") "kept") := He.meth_ok (T.sa.fact 94 (f := .meth "Last" "kept") rfl)
theorem Txt.m_Last_waits (T : Txt K mg) : Meth K (He.ga K "Last") "waits" (He.ma K (He.ga K "Last") "waits") := He.meth_ok (T.sa.fact 95 (f := .meth "Last" "waits") rfl)
theorem Txt.m_First_class_name (T : Txt K mg) : Meth K (He.ga K "First") "class_name" (He.ma K (He.ga K "First") "class_name") := He.meth_ok (T.sa.fact 96 (f := .meth "First" "class_name") rfl)
theorem Txt.m_First_kept (T : Txt K mg) : Meth K (He.ga K "First") "kept" (He.ma K (He.ga K "First") "kept") := He.meth_ok (T.sa.fact 97 (f := .meth "First" "kept") rfl)
theorem Txt.m_First_waits (T : Txt K mg) : Meth K (He.ga K "First") "waits" (He.ma K (He.ga K "First") "waits") := He.meth_ok (T.sa.fact 98 (f := .meth "First" "waits") rfl)
theorem Txt.m_Limit_class_name (T : Txt K mg) : Meth K (He.ga K "Limit") "class_name" (He.ma K (He.ga K "Limit") "class_name") := He.meth_ok (T.sa.fact 99 (f := .meth "Limit" "class_name") rfl)
theorem Txt.m_Limit_kept (T : Txt K mg) : Meth K (He.ga K "Limit") "kept" (He.ma K (He.ga K "Limit") "kept") := He.meth_ok (T.sa.fact 100 (f := .meth "Limit" "kept") rfl)
theorem Txt.m_Limit_waits (T : Txt K mg) : Meth K (He.ga K "Limit") "waits" (He.ma K (He.ga K "Limit") "waits") := He.meth_ok (T.sa.fact 101 (f := .meth "Limit" "waits") rfl)
theorem Txt.m_Row_delays (T : Txt K mg) : Meth K (He.ga K "Row") "delays" (He.ma K (He.ga K "Row") "delays") := He.meth_ok (T.sa.fact 102 (f := .meth "Row" "delays") rfl)
theorem Txt.m_Leads_left (T : Txt K mg) : Meth K (He.ga K "Leads") "left" (He.ma K (He.ga K "Leads") "left") := He.meth_ok (T.sa.fact 103 (f := .meth "Leads" "left") rfl)
theorem Txt.m_Leads_is_open (T : Txt K mg) : Meth K (He.ga K "Leads") "is_open" (He.ma K (He.ga K "Leads") "is_open") := He.meth_ok (T.sa.fact 104 (f := .meth "Leads" "is_open") rfl)
theorem Txt.m_Leads_ways_to_goal (T : Txt K mg) : Meth K (He.ga K "Leads") "ways_to_goal" (He.ma K (He.ga K "Leads") "ways_to_goal") := He.meth_ok (T.sa.fact 105 (f := .meth "Leads" "ways_to_goal") rfl)
theorem Txt.m_Leads_need (T : Txt K mg) : Meth K (He.ga K "Leads") "need" (He.ma K (He.ga K "Leads") "need") := He.meth_ok (T.sa.fact 106 (f := .meth "Leads" "need") rfl)
theorem Txt.m_Leads_next_record (T : Txt K mg) : Meth K (He.ga K "Leads") "next_record" (He.ma K (He.ga K "Leads") "next_record") := He.meth_ok (T.sa.fact 107 (f := .meth "Leads" "next_record") rfl)
theorem Txt.m_Leads_least (T : Txt K mg) : Meth K (He.ga K "Leads") "least" (He.ma K (He.ga K "Leads") "least") := He.meth_ok (T.sa.fact 108 (f := .meth "Leads" "least") rfl)
theorem Txt.m_Ways_chains (T : Txt K mg) : Meth K (He.ga K "Ways") "chains" (He.ma K (He.ga K "Ways") "chains") := He.meth_ok (T.sa.fact 109 (f := .meth "Ways" "chains") rfl)
theorem Txt.m_Ways_add (T : Txt K mg) : Meth K (He.ga K "Ways") "add" (He.ma K (He.ga K "Ways") "add") := He.meth_ok (T.sa.fact 110 (f := .meth "Ways" "add") rfl)
theorem Txt.F_is_number (T : Txt K mg) : ∃ fd, FnP K "is_number" "is_number" sf_is_number (He.ga K "is_number") fd := T.sa.def_ 0 (d := df_is_number) rfl
theorem Txt.F_check_stream (T : Txt K mg) : ∃ fd, FnP K "check_stream" "check_stream" sf_check_stream (He.ga K "check_stream") fd := T.sa.def_ 1 (d := df_check_stream) rfl
theorem Txt.F_is_member (T : Txt K mg) : ∃ fd, FnP K "is_member" "is_member" sf_is_member (He.ga K "is_member") fd := T.sa.def_ 2 (d := df_is_member) rfl
theorem Txt.F_speakers (T : Txt K mg) : ∃ fd, FnP K "speakers" "speakers" sf_speakers (He.ga K "speakers") fd := T.sa.def_ 3 (d := df_speakers) rfl
theorem Txt.F_told_events (T : Txt K mg) : ∃ fd, FnP K "told_events" "told_events" sf_told_events (He.ga K "told_events") fd := T.sa.def_ 4 (d := df_told_events) rfl
theorem Txt.F_record_places (T : Txt K mg) : ∃ fd, FnP K "record_places" "record_places" sf_record_places (He.ga K "record_places") fd := T.sa.def_ 5 (d := df_record_places) rfl
theorem Txt.F_records_in (T : Txt K mg) : ∃ fd, FnP K "records_in" "records_in" sf_records_in (He.ga K "records_in") fd := T.sa.def_ 6 (d := df_records_in) rfl
theorem Txt.F_records_of (T : Txt K mg) : ∃ fd, FnP K "records_of" "records_of" sf_records_of (He.ga K "records_of") fd := T.sa.def_ 7 (d := df_records_of) rfl
theorem Txt.F_member_of (T : Txt K mg) : ∃ fd, FnP K "member_of" "member_of" sf_member_of (He.ga K "member_of") fd := T.sa.def_ 8 (d := df_member_of) rfl
theorem Txt.F_check_numbers (T : Txt K mg) : ∃ fd, FnP K "check_numbers" "check_numbers" sf_check_numbers (He.ga K "check_numbers") fd := T.sa.def_ 9 (d := df_check_numbers) rfl
theorem Txt.F_stretches (T : Txt K mg) : ∃ fd, FnP K "stretches" "stretches" sf_stretches (He.ga K "stretches") fd := T.sa.def_ 10 (d := df_stretches) rfl
theorem Txt.F_count_leading (T : Txt K mg) : ∃ fd, FnP K "count_leading" "count_leading" sf_count_leading (He.ga K "count_leading") fd := T.sa.def_ 11 (d := df_count_leading) rfl
theorem Txt.F_least_leading (T : Txt K mg) : ∃ fd, FnP K "least_leading" "least_leading" sf_least_leading (He.ga K "least_leading") fd := T.sa.def_ 12 (d := df_least_leading) rfl
theorem Txt.F_folded (T : Txt K mg) : ∃ fd, FnP K "folded" "folded" sf_folded (He.ga K "folded") fd := T.sa.def_ 13 (d := df_folded) rfl
theorem Txt.F_count_pasts (T : Txt K mg) : ∃ fd, FnP K "count_pasts" "count_pasts" sf_count_pasts (He.ga K "count_pasts") fd := T.sa.def_ 14 (d := df_count_pasts) rfl
theorem Txt.F_law_cell_at (T : Txt K mg) : ∃ fd, FnP K "_law_cell_at" "_law_cell_at" sf_law_cell_at (He.ga K "_law_cell_at") fd := T.sa.def_ 15 (d := df_law_cell_at) rfl
theorem Txt.F_law_state (T : Txt K mg) : ∃ fd, FnP K "_law_state" "_law_state" sf_law_state (He.ga K "_law_state") fd := T.sa.def_ 16 (d := df_law_state) rfl
theorem Txt.F_law_digit (T : Txt K mg) : ∃ fd, FnP K "_law_digit" "_law_digit" sf_law_digit (He.ga K "_law_digit") fd := T.sa.def_ 17 (d := df_law_digit) rfl
theorem Txt.F_law_kinds (T : Txt K mg) : ∃ fd, FnP K "_law_kinds" "_law_kinds" sf_law_kinds (He.ga K "_law_kinds") fd := T.sa.def_ 18 (d := df_law_kinds) rfl
theorem Txt.F_law_made (T : Txt K mg) : ∃ fd, FnP K "_law_made" "_law_made" sf_law_made (He.ga K "_law_made") fd := T.sa.def_ 19 (d := df_law_made) rfl
theorem Txt.F_law_late_of (T : Txt K mg) : ∃ fd, FnP K "_law_late_of" "_law_late_of" sf_law_late_of (He.ga K "_law_late_of") fd := T.sa.def_ 20 (d := df_law_late_of) rfl
theorem Txt.F_law_row_of (T : Txt K mg) : ∃ fd, FnP K "_law_row_of" "_law_row_of" sf_law_row_of (He.ga K "_law_row_of") fd := T.sa.def_ 21 (d := df_law_row_of) rfl
theorem Txt.F_law_windows (T : Txt K mg) : ∃ fd, FnP K "_law_windows" "_law_windows" sf_law_windows (He.ga K "_law_windows") fd := T.sa.def_ 22 (d := df_law_windows) rfl
theorem Txt.F_law_forms (T : Txt K mg) : ∃ fd, FnP K "_law_forms" "_law_forms" sf_law_forms (He.ga K "_law_forms") fd := T.sa.def_ 23 (d := df_law_forms) rfl
theorem Txt.F_law_right (T : Txt K mg) : ∃ fd, FnP K "_law_right" "_law_right" sf_law_right (He.ga K "_law_right") fd := T.sa.def_ 24 (d := df_law_right) rfl
theorem Txt.F_law (T : Txt K mg) : ∃ fd, FnP K "law" "law" sf_law (He.ga K "law") fd := T.sa.def_ 25 (d := df_law) rfl
theorem Txt.M_Last_init (T : Txt K mg) : ∃ fd, FnP K "__init__" "Member.__init__" s_Member_init (He.ma K (He.ga K "Last") "__init__") fd := T.sa.def_ 26 (d := d_Last_init) rfl
theorem Txt.M_Last_class_name (T : Txt K mg) : ∃ fd, FnP K "class_name" "Last.class_name" s_Last_class_name (He.ma K (He.ga K "Last") "class_name") fd := T.sa.def_ 27 (d := d_Last_class_name) rfl
theorem Txt.M_Last_kept (T : Txt K mg) : ∃ fd, FnP K "kept" "Last.kept" s_Last_kept (He.ma K (He.ga K "Last") "kept") fd := T.sa.def_ 28 (d := d_Last_kept) rfl
theorem Txt.M_Last_waits (T : Txt K mg) : ∃ fd, FnP K "waits" "Last.waits" s_Last_waits (He.ma K (He.ga K "Last") "waits") fd := T.sa.def_ 29 (d := d_Last_waits) rfl
theorem Txt.M_First_init (T : Txt K mg) : ∃ fd, FnP K "__init__" "Member.__init__" s_Member_init (He.ma K (He.ga K "First") "__init__") fd := T.sa.def_ 30 (d := d_First_init) rfl
theorem Txt.M_First_class_name (T : Txt K mg) : ∃ fd, FnP K "class_name" "First.class_name" s_First_class_name (He.ma K (He.ga K "First") "class_name") fd := T.sa.def_ 31 (d := d_First_class_name) rfl
theorem Txt.M_First_kept (T : Txt K mg) : ∃ fd, FnP K "kept" "First.kept" s_First_kept (He.ma K (He.ga K "First") "kept") fd := T.sa.def_ 32 (d := d_First_kept) rfl
theorem Txt.M_First_waits (T : Txt K mg) : ∃ fd, FnP K "waits" "Member.waits" s_Member_waits (He.ma K (He.ga K "First") "waits") fd := T.sa.def_ 33 (d := d_First_waits) rfl
theorem Txt.M_Limit_init (T : Txt K mg) : ∃ fd, FnP K "__init__" "Member.__init__" s_Member_init (He.ma K (He.ga K "Limit") "__init__") fd := T.sa.def_ 34 (d := d_Limit_init) rfl
theorem Txt.M_Limit_class_name (T : Txt K mg) : ∃ fd, FnP K "class_name" "Limit.class_name" s_Limit_class_name (He.ma K (He.ga K "Limit") "class_name") fd := T.sa.def_ 35 (d := d_Limit_class_name) rfl
theorem Txt.M_Limit_kept (T : Txt K mg) : ∃ fd, FnP K "kept" "Limit.kept" s_Limit_kept (He.ma K (He.ga K "Limit") "kept") fd := T.sa.def_ 36 (d := d_Limit_kept) rfl
theorem Txt.M_Limit_waits (T : Txt K mg) : ∃ fd, FnP K "waits" "Member.waits" s_Member_waits (He.ma K (He.ga K "Limit") "waits") fd := T.sa.def_ 37 (d := d_Limit_waits) rfl
theorem Txt.M_Row_init (T : Txt K mg) : ∃ fd, FnP K "__init__" "Row.__init__" s_Row_init (He.ma K (He.ga K "Row") "__init__") fd := T.sa.def_ 38 (d := d_Row_init) rfl
theorem Txt.M_Row_delays (T : Txt K mg) : ∃ fd, FnP K "delays" "Row.delays" s_Row_delays (He.ma K (He.ga K "Row") "delays") fd := T.sa.def_ 39 (d := d_Row_delays) rfl
theorem Txt.M_Told_init (T : Txt K mg) : ∃ fd, FnP K "__init__" "Told.__init__" s_Told_init (He.ma K (He.ga K "Told") "__init__") fd := T.sa.def_ 40 (d := d_Told_init) rfl
theorem Txt.M_Leads_init (T : Txt K mg) : ∃ fd, FnP K "__init__" "Leads.__init__" s_Leads_init (He.ma K (He.ga K "Leads") "__init__") fd := T.sa.def_ 41 (d := d_Leads_init) rfl
theorem Txt.M_Leads_left (T : Txt K mg) : ∃ fd, FnP K "left" "Leads.left" s_Leads_left (He.ma K (He.ga K "Leads") "left") fd := T.sa.def_ 42 (d := d_Leads_left) rfl
theorem Txt.M_Leads_is_open (T : Txt K mg) : ∃ fd, FnP K "is_open" "Leads.is_open" s_Leads_is_open (He.ma K (He.ga K "Leads") "is_open") fd := T.sa.def_ 43 (d := d_Leads_is_open) rfl
theorem Txt.M_Leads_ways_to_goal (T : Txt K mg) : ∃ fd, FnP K "ways_to_goal" "Leads.ways_to_goal" s_Leads_ways_to_goal (He.ma K (He.ga K "Leads") "ways_to_goal") fd := T.sa.def_ 44 (d := d_Leads_ways_to_goal) rfl
theorem Txt.M_Leads_need (T : Txt K mg) : ∃ fd, FnP K "need" "Leads.need" s_Leads_need (He.ma K (He.ga K "Leads") "need") fd := T.sa.def_ 45 (d := d_Leads_need) rfl
theorem Txt.M_Leads_next_record (T : Txt K mg) : ∃ fd, FnP K "next_record" "Leads.next_record" s_Leads_next_record (He.ma K (He.ga K "Leads") "next_record") fd := T.sa.def_ 46 (d := d_Leads_next_record) rfl
theorem Txt.M_Leads_least (T : Txt K mg) : ∃ fd, FnP K "least" "Leads.least" s_Leads_least (He.ma K (He.ga K "Leads") "least") fd := T.sa.def_ 47 (d := d_Leads_least) rfl
theorem Txt.M_Ways_init (T : Txt K mg) : ∃ fd, FnP K "__init__" "Ways.__init__" s_Ways_init (He.ma K (He.ga K "Ways") "__init__") fd := T.sa.def_ 48 (d := d_Ways_init) rfl
theorem Txt.M_Ways_chains (T : Txt K mg) : ∃ fd, FnP K "chains" "Ways.chains" s_Ways_chains (He.ma K (He.ga K "Ways") "chains") fd := T.sa.def_ 49 (d := d_Ways_chains) rfl
theorem Txt.M_Ways_add (T : Txt K mg) : ∃ fd, FnP K "add" "Ways.add" s_Ways_add (He.ma K (He.ga K "Ways") "add") fd := T.sa.def_ 50 (d := d_Ways_add) rfl
theorem Txt.x0 (T : Txt K mg) : He.tupB K "KINDS" [.str "first", .str "last", .str "limit"] = true := List.all_eq_true.mp T.mo _ (List.mem_of_getElem? (i := 0) rfl)
theorem Txt.x1 (T : Txt K mg) : PySem.W.specialIn K (.builtin "object.__class__") "__get__" = some (some (.builtin "getset_descriptor.__get__")) := of_decide_eq_true (List.all_eq_true.mp T.mo _ (List.mem_of_getElem? (i := 1) rfl))
theorem Txt.x2 (T : Txt K mg) : PySem.W.takesIn K (.builtin "object.__class__") = some true := of_decide_eq_true (List.all_eq_true.mp T.mo _ (List.mem_of_getElem? (i := 2) rfl))
theorem Txt.x3 (T : Txt K mg) : PySem.W.findIn K (.ref (He.ga K "Last")) "__class__" = some (some (.builtin "object.__class__")) := of_decide_eq_true (List.all_eq_true.mp T.mo _ (List.mem_of_getElem? (i := 3) rfl))
theorem Txt.x4 (T : Txt K mg) : PySem.W.mroIn K (He.ga K "Last") (.type "object") = some true := of_decide_eq_true (List.all_eq_true.mp T.mo _ (List.mem_of_getElem? (i := 4) rfl))
theorem Txt.x5 (T : Txt K mg) : PySem.W.kitAny K (.ref (He.ga K "Last")) [.ref (He.ga K "Last"), .ref (He.ga K "First"), .ref (He.ga K "Limit"), .ref (He.ga K "Delay")] = some true := of_decide_eq_true (List.all_eq_true.mp T.mo _ (List.mem_of_getElem? (i := 5) rfl))
theorem Txt.x6 (T : Txt K mg) : PySem.W.kitOne K (.ref (He.ga K "Last")) (.ref (He.ga K "Last")) = some true := of_decide_eq_true (List.all_eq_true.mp T.mo _ (List.mem_of_getElem? (i := 6) rfl))
theorem Txt.x7 (T : Txt K mg) : PySem.W.kitOne K (.ref (He.ga K "Last")) (.ref (He.ga K "Delay")) = some false := of_decide_eq_true (List.all_eq_true.mp T.mo _ (List.mem_of_getElem? (i := 7) rfl))
theorem Txt.x8 (T : Txt K mg) : PySem.W.findIn K (.ref (He.ga K "First")) "__class__" = some (some (.builtin "object.__class__")) := of_decide_eq_true (List.all_eq_true.mp T.mo _ (List.mem_of_getElem? (i := 8) rfl))
theorem Txt.x9 (T : Txt K mg) : PySem.W.mroIn K (He.ga K "First") (.type "object") = some true := of_decide_eq_true (List.all_eq_true.mp T.mo _ (List.mem_of_getElem? (i := 9) rfl))
theorem Txt.x10 (T : Txt K mg) : PySem.W.kitAny K (.ref (He.ga K "First")) [.ref (He.ga K "Last"), .ref (He.ga K "First"), .ref (He.ga K "Limit"), .ref (He.ga K "Delay")] = some true := of_decide_eq_true (List.all_eq_true.mp T.mo _ (List.mem_of_getElem? (i := 10) rfl))
theorem Txt.x11 (T : Txt K mg) : PySem.W.kitOne K (.ref (He.ga K "First")) (.ref (He.ga K "Last")) = some false := of_decide_eq_true (List.all_eq_true.mp T.mo _ (List.mem_of_getElem? (i := 11) rfl))
theorem Txt.x12 (T : Txt K mg) : PySem.W.kitOne K (.ref (He.ga K "First")) (.ref (He.ga K "Delay")) = some false := of_decide_eq_true (List.all_eq_true.mp T.mo _ (List.mem_of_getElem? (i := 12) rfl))
theorem Txt.x13 (T : Txt K mg) : PySem.W.findIn K (.ref (He.ga K "Limit")) "__class__" = some (some (.builtin "object.__class__")) := of_decide_eq_true (List.all_eq_true.mp T.mo _ (List.mem_of_getElem? (i := 13) rfl))
theorem Txt.x14 (T : Txt K mg) : PySem.W.mroIn K (He.ga K "Limit") (.type "object") = some true := of_decide_eq_true (List.all_eq_true.mp T.mo _ (List.mem_of_getElem? (i := 14) rfl))
theorem Txt.x15 (T : Txt K mg) : PySem.W.kitAny K (.ref (He.ga K "Limit")) [.ref (He.ga K "Last"), .ref (He.ga K "First"), .ref (He.ga K "Limit"), .ref (He.ga K "Delay")] = some true := of_decide_eq_true (List.all_eq_true.mp T.mo _ (List.mem_of_getElem? (i := 15) rfl))
theorem Txt.x16 (T : Txt K mg) : PySem.W.kitOne K (.ref (He.ga K "Limit")) (.ref (He.ga K "Last")) = some false := of_decide_eq_true (List.all_eq_true.mp T.mo _ (List.mem_of_getElem? (i := 16) rfl))
theorem Txt.x17 (T : Txt K mg) : PySem.W.kitOne K (.ref (He.ga K "Limit")) (.ref (He.ga K "Delay")) = some false := of_decide_eq_true (List.all_eq_true.mp T.mo _ (List.mem_of_getElem? (i := 17) rfl))
end
end Qr
set_option maxHeartbeats 0
namespace Qr
open PySem PySem.Spec PyProof.Rows L2
theorem run (w : World) : HandSHeadRun.RunEq R (PySem.W.view R.prog [55]) hk ob 20000 names w := by
  intro os
  kernel_rfl
end Qr
set_option maxHeartbeats 4000000
namespace Qr
open PySem PySem.Spec PyProof.Rows L2

/-! ### promises by data -/
def spOf {α : Type} (args : α → List V) (pre : α → Hp → Prop) (post : α → Hp → V → Hp → Prop) : Sp :=
  fun vs H Q _ => ∃ a : α, vs = args a ∧ pre a H ∧ ∀ r H', post a H r H' → Q r H'
theorem spOf_len {α : Type} {args : α → List V} {pre : α → Hp → Prop} {post : α → Hp → V → Hp → Prop} {n : Nat} (h : ∀ a, (args a).length = n) :
    ∀ vs H Q E, spOf args pre post vs H Q E → vs.length = n := fun vs H Q E ⟨a, e, _⟩ => by rw [e]; exact h a

/-! ### defs that keep their promises, by names -/
section
variable (P : Program) (w : World) (K : PySem.W.Frag) (mg : Str → Option Value) (base : Heap)
structure Cal (x : Str) (ps : List Str) (k : Nat) (sp : Sp) : Prop where
  ok : ∃ fd, FnOk P w K mg base CX0 k (He.ga K x) fd ps sp ∧ Binds K fd ps []
  kp : PySem.W.keepIn K (.ref (He.ga K x)) = true
  gl : mg x = some (.ref (He.ga K x))
structure CalM (c m : Str) (ps : List Str) (k : Nat) (sp : Sp) : Prop where
  ok : ∃ fd, FnOk P w K mg base CX0 k (He.ma K (He.ga K c) m) fd ps sp ∧ Binds K fd ps []
  cl : Cls K (He.ga K c)
  me : Meth K (He.ga K c) m (He.ma K (He.ga K c) m)
structure CalI (c : Str) (ps : List Str) (k : Nat) (sp : Sp) : Prop where
  ok : ∃ fd, FnOk P w K mg base CX0 k (He.ma K (He.ga K c) "__init__") fd ps sp ∧ Binds K fd ps []
  mkr : Mk K (He.ga K c) (He.ma K (He.ga K c) "__init__")
  gl : mg c = some (.ref (He.ga K c))
end
abbrev BindOk (x q : Str) (st : Stmt) (ps : List Str) : Prop := ∀ (kV doc pm : Value) (an : Option Addr) (cdv ct : Value) (us : List Value), us.length = ps.length →
  bindArgs (PySem.W.fnOf x q (defArgs st) (defBody st) (defScope st) .none kV doc pm an cdv ct) ⟨us, []⟩ = pure (ps.zip us)
section
variable {P : Program} {w : World} {K : PySem.W.Frag} {mg : Str → Option Value} {base : Heap}
theorem fn_mk {x q : Str} {st : Stmt} {f : Addr} {N ps : List Str} {k : Nat} {sp : Sp} (F : ∃ fd, FnP K x q st f fd) (S : FnScope N ps (defScope st)) (hb : BindOk x q st ps) (len : ∀ vs H Q E, sp vs H Q E → vs.length = ps.length)
    (hbody : ∀ (cdv : Value) (A : Around) (outer : List Env) (s : Shared) (H : Hp) (vs : List V) (Q : VK) (E : XK), Room k (A.deeper (envOfC q (defScope st) s.heap.objs.size f cdv)) → sp vs H Q E →
      ∃ t, PSs (cxOf CX0 P w K mg base N q (defScope st) f cdv A outer s H E).nox (defBody st) t ∧ t { nx := fun _ H' => Q .non H', rt := Q } (start N vs) H) :
    ∃ fd, FnOk P w K mg base CX0 (k + 1) f fd ps sp ∧ Binds K fd ps [] := by
  obtain ⟨fd, F⟩ := F
  refine ⟨fd, F.ok S len fun cdv A outer s H vs Q E hr h => ?_, F.bindsN hb⟩
  obtain ⟨t, h1, h2⟩ := hbody cdv A outer s H vs Q E hr h
  exact ⟨t, h1.nox, h2⟩
end

/-! ### rules -/
section
variable {X : Cx} {e o : Expr} {es : List Expr} {x c m : Str} {p pos apos : Pos} {ps : List Str} {k : Nat} {sp : Sp} {t : TA} {ta tb : TE}
def tAlt (t u : TE) : TE := fun σ H Q => t σ H Q ∨ u σ H Q
theorem pe_alt {t u : TE} (h : PE X e t) (h' : PE X e u) : PE X e (tAlt t u) :=
  ⟨fun pins s σ H Q I hw => hw.elim (fun z => h.run pins s σ H Q I z) (fun z => h'.run pins s σ H Q I z)⟩
theorem ps_alt {st : Stmt} {t u : TS} (h : PS X st t) (h' : PS X st u) : PS X st (fun D σ H => t D σ H ∨ u D σ H) :=
  ⟨fun pins s σ H Q I hw => hw.elim (fun z => h.run pins s σ H Q I z) (fun z => h'.run pins s σ H Q I z)⟩
theorem pe_weak {t u : TE} (h : PE X e t) (hi : ∀ σ H Q, u σ H Q → t σ H Q) : PE X e u := ⟨fun pins s σ H Q I hw => h.run pins s σ H Q I (hi _ _ _ hw)⟩
theorem pe_c (G : Cal X.prog X.w X.K X.mg X.base x ps k sp) (hr : Room k X.A) (hg : Gl X x)
    (ha : PA X (e :: es) t) (hdb : (x == ("__debug__" : Str)) = false := by decide) (he : starEach (e :: es) X.env = (false, eval e X.env) :: starEach es X.env := by rfl) (hpl : (backTo pos (starEach es X.env)).any (·.1) = false := by rfl) :
    PE X (.Call (.Name x p) (e :: es) [] pos) (tCall sp [] E0 t) := by
  obtain ⟨fd, F, b⟩ := G.ok
  exact pe_call F hr hg G.gl G.kp b .nil pass0 ha hdb he hpl
theorem pe_c0 (G : Cal X.prog X.w X.K X.mg X.base x ps k sp) (hr : Room k X.A) (hg : Gl X x) (hdb : (x == ("__debug__" : Str)) = false := by decide) :
    PE X (.Call (.Name x p) [] [] pos) (tCall sp [] E0 tNil) := by
  obtain ⟨fd, F, b⟩ := G.ok
  exact pe_call0 F hr hg G.gl G.kp b .nil pass0 hdb
theorem pe_cm {pl : Sem Bool} (he : PE X o ta) (G : CalM X.prog X.w X.K X.mg X.base c m ps k sp) (hr : Room k X.A) (ha : PA X (e :: es) t)
    (hst : starEach (e :: es) X.env = (false, eval e X.env) :: starEach es X.env := by rfl) (hpl : (backTo pos (starEach es X.env)).any (·.1) = false := by rfl)
    (ht : eval (.Call (.Attribute o m apos) (e :: es) [] pos) X.env = (do
      let ov ← eval o X.env
      standAt apos.atName
      let (f, first) ← holding [ov] (getMethod ov m pl)
      callWith pos f first (backTo pos (starEach (e :: es) X.env)) (backToKw pos (keywordEach [] X.env))) := by rfl) :
    PE X (.Call (.Attribute o m apos) (e :: es) [] pos) (tMeth (He.ga X.K c) m sp [] E0 ta t) := by
  obtain ⟨fd, F, b⟩ := G.ok
  exact pe_meth he G.cl G.me F hr b .nil pass0 ha hst hpl ht
theorem pe_cm0 {pl : Sem Bool} (he : PE X o ta) (G : CalM X.prog X.w X.K X.mg X.base c m ps k sp) (hr : Room k X.A)
    (ht : eval (.Call (.Attribute o m apos) [] [] pos) X.env = (do
      let ov ← eval o X.env
      standAt apos.atName
      let (f, first) ← holding [ov] (getMethod ov m pl)
      callWith pos f first (backTo pos (starEach [] X.env)) (backToKw pos (keywordEach [] X.env))) := by rfl) :
    PE X (.Call (.Attribute o m apos) [] [] pos) (tMeth (He.ga X.K c) m sp [] E0 ta tNil) := by
  obtain ⟨fd, F, b⟩ := G.ok
  exact pe_meth0 he G.cl G.me F hr b .nil pass0 ht
theorem pe_ci (G : CalI X.prog X.w X.K X.mg X.base c ps k sp) (hr : Room (k + 1) X.A) (hg : Gl X c)
    (ha : PA X (e :: es) t) (hdb : (c == ("__debug__" : Str)) = false := by decide) (he : starEach (e :: es) X.env = (false, eval e X.env) :: starEach es X.env := by rfl) (hpl : (backTo pos (starEach es X.env)).any (·.1) = false := by rfl) :
    PE X (.Call (.Name c p) (e :: es) [] pos) (tMake (He.ga X.K c) sp [] E0 t) := by
  obtain ⟨fd, F, b⟩ := G.ok
  exact pe_make G.mkr F hr hg G.gl b .nil pass0 ha hdb he hpl
end

/-! ### heaps -/
section
variable {H H1 H2 : Hp} {a p q : Addr} {o u : HO} {K : PySem.W.Frag} {xs : List V}
theorem same_up (s : Same H H1) (n : H q = none) : Same H (upd H1 q u) := fun b x e => by
  rw [upd_ne (ne_of_none e n)]
  exact s b x e
theorem same_new (s : Same H H1) (n : H1 q = none) : Same H (upd H1 q u) := same_up s (s.free n)
theorem same_upd1 (n : H q = none) : Same H (upd H q u) := same_up (Same.refl H) n

theorem same_seqT (e : Same H H1) (h : SqT K H a xs) : SqT K H1 a xs := by
  rcases h with (h | ⟨o, h⟩) | h
  · exact .inl (.inl (e _ _ h))
  · exact .inl (.inr ⟨o, e _ _ h⟩)
  · exact .inr h
theorem up_old (h : H a = some o) (n : H q = none) : upd H q u a = some o := by
  rw [upd_ne (ne_of_none h n)]
  exact h
end

/-! ### data -/
abbrev nV (n : Nat) : V := .int (n : Int)
abbrev tV (b : Int) (t : Nat) : V := .int (b + (t : Int))
def kS : Mir.Kd → Str
  | .last => "last"
  | .first => "first"
  | .limit => "limit"
def kC : Mir.Kd → Str
  | .last => "Last"
  | .first => "First"
  | .limit => "Limit"
/-- a member stands at m -/
def MemAt (K : PySem.W.Frag) (H : Hp) (m : Addr) (r : Mir.Kd × Nat) : Prop := ∃ dx, H m = some (.ins (He.ga K (kC r.1)) dx [("q", nV r.2)])
theorem MemAt.same {K : PySem.W.Frag} {H H' : Hp} {m : Addr} {r : Mir.Kd × Nat} (h : MemAt K H m r) (s : Same H H') : MemAt K H' m r := h.imp fun _ e => s _ _ e
theorem len_ok {n : Nat} (h : n ≤ 1000) : n < sizeLine := small1000 h
theorem len_ok' {n : Nat} (h : n ≤ 1000) : n ≤ sizeLine := Nat.le_of_lt (small1000 h)
/-- what a turn of a filter leaves -/
theorem filter_succ (p : Nat → Bool) (i : Nat) : (List.range (i + 1)).filter p = (List.range i).filter p ++ (if p i = true then [i] else []) := by
  rw [List.range_succ, List.filter_append]
  congr 1
  by_cases h : p i = true
  · simp [h]
  · simp [h]
theorem len_filter (p : Nat → Bool) (i : Nat) : ((List.range i).filter p).length ≤ i := by
  have := List.length_filter_le p (List.range i)
  rw [List.length_range] at this
  exact this
theorem get_map {α β : Type} {f : α → β} {l : List α} {i : Nat} {x : β} (h : (l.map f)[i]? = some x) : ∃ z, l[i]? = some z ∧ x = f z := by
  rw [List.getElem?_map] at h
  obtain ⟨z, hz, e⟩ := Option.map_eq_some_iff.mp h
  exact ⟨z, hz, e.symm⟩
theorem map_get {α β : Type} {f : α → β} {l : List α} {i : Nat} {z : α} (h : l[i]? = some z) : (l.map f)[i]? = some (f z) := by rw [List.getElem?_map, h]; rfl
theorem lt_of_get {α : Type} {l : List α} {i : Nat} {x : α} (h : l[i]? = some x) : i < l.length := (List.getElem?_eq_some_iff.mp h).1
theorem getD_of {l : List Nat} {i x : Nat} (h : l[i]? = some x) : l.getD i 0 = x := by rw [List.getD_eq_getElem?_getD, h]; rfl
theorem get_of_lt {l : List Nat} {i : Nat} (h : i < l.length) : l[i]? = some (l.getD i 0) := by rw [List.getD_eq_getElem?_getD, List.getElem?_eq_getElem h]; rfl
theorem tyL {K : PySem.W.Frag} {H : Hp} {a : Addr} {xs : List V} (h : SqL K H a xs) : TyX K H (.ref a) (.type "list") := by
  rcases h with (h | ⟨o, h⟩) | ⟨o, its, n, hk, hc, _⟩
  · exact .base (.lst h)
  · exact .base (.frz h)
  · exact .kList hk hc
/-- an item of a list of mapped things, by its place -/
theorem at_map {α β : Type} {f : α → β} {l : List α} {i : Nat} {z : α} {k : Int} (hk : k = (i : Int)) (h : l[i]? = some z) : atI (l.map f) k = some (f z) := by
  rw [hk]
  exact atI_nat (map_get h)
end Qr
set_option maxHeartbeats 4000000
namespace Qr
open PySem PySem.Spec PyProof.Rows L2
/- is_number: 0 thing -/
theorem sc_is_number : FnScope ["thing"] ["thing"] (defScope sf_is_number) := ⟨rfl, rfl, rfl, by decide +kernel, rfl, by decide +kernel, by decide +kernel⟩
theorem bd_is_number : BindOk "is_number" "is_number" sf_is_number ["thing"] := fun _ _ _ _ _ _ us hl => match us, hl with | [_], _ => rfl
/- check_stream: 0 stream, 1 place, 2 time -/
theorem sc_check_stream : FnScope ["stream", "place", "time"] ["stream"] (defScope sf_check_stream) := ⟨rfl, rfl, rfl, by decide +kernel, rfl, by decide +kernel, by decide +kernel⟩
theorem bd_check_stream : BindOk "check_stream" "check_stream" sf_check_stream ["stream"] := fun _ _ _ _ _ _ us hl => match us, hl with | [_], _ => rfl
/- is_member: 0 thing -/
theorem sc_is_member : FnScope ["thing"] ["thing"] (defScope sf_is_member) := ⟨rfl, rfl, rfl, by decide +kernel, rfl, by decide +kernel, by decide +kernel⟩
theorem bd_is_member : BindOk "is_member" "is_member" sf_is_member ["thing"] := fun _ _ _ _ _ _ us hl => match us, hl with | [_], _ => rfl
/- speakers: 0 member, 1 amount, 2 kept, 3 found, 4 place, 5 at -/
theorem sc_speakers : FnScope ["member", "amount", "kept", "found", "place", "at"] ["member", "amount", "kept"] (defScope sf_speakers) := ⟨rfl, rfl, rfl, by decide +kernel, rfl, by decide +kernel, by decide +kernel⟩
theorem bd_speakers : BindOk "speakers" "speakers" sf_speakers ["member", "amount", "kept"] := fun _ _ _ _ _ _ us hl => match us, hl with | [_, _, _], _ => rfl
/- told_events: 0 row, 1 stream, 2 numbers, 3 voices, 4 member, 5 kept, 6 places, 7 heads, 8 tails, 9 at, 10 voice, 11 late, 12 number -/
theorem sc_told_events : FnScope ["row", "stream", "numbers", "voices", "member", "kept", "places", "heads", "tails", "at", "voice", "late", "number"] ["row", "stream"] (defScope sf_told_events) := ⟨rfl, rfl, rfl, by decide +kernel, rfl, by decide +kernel, by decide +kernel⟩
theorem bd_told_events : BindOk "told_events" "told_events" sf_told_events ["row", "stream"] := fun _ _ _ _ _ _ us hl => match us, hl with | [_, _], _ => rfl
/- record_places: 0 members, 1 found, 2 most, 3 index, 4 member -/
theorem sc_record_places : FnScope ["members", "found", "most", "index", "member"] ["members"] (defScope sf_record_places) := ⟨rfl, rfl, rfl, by decide +kernel, rfl, by decide +kernel, by decide +kernel⟩
theorem bd_record_places : BindOk "record_places" "record_places" sf_record_places ["members"] := fun _ _ _ _ _ _ us hl => match us, hl with | [_], _ => rfl
/- records_in: 0 members, 1 index -/
theorem sc_records_in : FnScope ["members", "index"] ["members"] (defScope sf_records_in) := ⟨rfl, rfl, rfl, by decide +kernel, rfl, by decide +kernel, by decide +kernel⟩
theorem bd_records_in : BindOk "records_in" "records_in" sf_records_in ["members"] := fun _ _ _ _ _ _ us hl => match us, hl with | [_], _ => rfl
/- records_of: 0 row -/
theorem sc_records_of : FnScope ["row"] ["row"] (defScope sf_records_of) := ⟨rfl, rfl, rfl, by decide +kernel, rfl, by decide +kernel, by decide +kernel⟩
theorem bd_records_of : BindOk "records_of" "records_of" sf_records_of ["row"] := fun _ _ _ _ _ _ us hl => match us, hl with | [_], _ => rfl
/- member_of: 0 kind, 1 quiet -/
theorem sc_member_of : FnScope ["kind", "quiet"] ["kind", "quiet"] (defScope sf_member_of) := ⟨rfl, rfl, rfl, by decide +kernel, rfl, by decide +kernel, by decide +kernel⟩
theorem bd_member_of : BindOk "member_of" "member_of" sf_member_of ["kind", "quiet"] := fun _ _ _ _ _ _ us hl => match us, hl with | [_, _], _ => rfl
/- check_numbers: 0 stream, 1 numbers, 2 place, 3 number -/
theorem sc_check_numbers : FnScope ["stream", "numbers", "place", "number"] ["stream", "numbers"] (defScope sf_check_numbers) := ⟨rfl, rfl, rfl, by decide +kernel, rfl, by decide +kernel, by decide +kernel⟩
theorem bd_check_numbers : BindOk "check_numbers" "check_numbers" sf_check_numbers ["stream", "numbers"] := fun _ _ _ _ _ _ us hl => match us, hl with | [_, _], _ => rfl
/- stretches: 0 stream, 1 most, 2 gaps, 3 found, 4 low, 5 gap, 6 high, 7 at, 8 time, 9 later -/
theorem sc_stretches : FnScope ["stream", "most", "gaps", "found", "low", "gap", "high", "at", "time", "later"] ["stream", "most"] (defScope sf_stretches) := ⟨rfl, rfl, rfl, by decide +kernel, rfl, by decide +kernel, by decide +kernel⟩
theorem bd_stretches : BindOk "stretches" "stretches" sf_stretches ["stream", "most"] := fun _ _ _ _ _ _ us hl => match us, hl with | [_, _], _ => rfl
/- count_leading: 0 stream, 1 numbers, 2 most -/
theorem sc_count_leading : FnScope ["stream", "numbers", "most"] ["stream", "numbers", "most"] (defScope sf_count_leading) := ⟨rfl, rfl, rfl, by decide +kernel, rfl, by decide +kernel, by decide +kernel⟩
theorem bd_count_leading : BindOk "count_leading" "count_leading" sf_count_leading ["stream", "numbers", "most"] := fun _ _ _ _ _ _ us hl => match us, hl with | [_, _, _], _ => rfl
/- least_leading: 0 stream, 1 numbers, 2 most -/
theorem sc_least_leading : FnScope ["stream", "numbers", "most"] ["stream", "numbers", "most"] (defScope sf_least_leading) := ⟨rfl, rfl, rfl, by decide +kernel, rfl, by decide +kernel, by decide +kernel⟩
theorem bd_least_leading : BindOk "least_leading" "least_leading" sf_least_leading ["stream", "numbers", "most"] := fun _ _ _ _ _ _ us hl => match us, hl with | [_, _, _], _ => rfl
/- folded: 0 one, 1 other, 2 size, 3 whole, 4 part -/
theorem sc_folded : FnScope ["one", "other", "size", "whole", "part"] ["one", "other", "size"] (defScope sf_folded) := ⟨rfl, rfl, rfl, by decide +kernel, rfl, by decide +kernel, by decide +kernel⟩
theorem bd_folded : BindOk "folded" "folded" sf_folded ["one", "other", "size"] := fun _ _ _ _ _ _ us hl => match us, hl with | [_, _, _], _ => rfl
/- count_pasts: 0 row, 1 times, 2 begin, 3 end, 4 late, 5 ways, 6 kind, 7 quiet, 8 found, 9 at -/
theorem sc_count_pasts : FnScope ["row", "times", "begin", "end", "late", "ways", "kind", "quiet", "found", "at"] ["row", "times", "begin", "end"] (defScope sf_count_pasts) := ⟨rfl, rfl, rfl, by decide +kernel, rfl, by decide +kernel, by decide +kernel⟩
theorem bd_count_pasts : BindOk "count_pasts" "count_pasts" sf_count_pasts ["row", "times", "begin", "end"] := fun _ _ _ _ _ _ us hl => match us, hl with | [_, _, _, _], _ => rfl
/- _law_cell_at: 0 _law_script, 1 _law_k -/
theorem sc_law_cell_at : FnScope ["_law_script", "_law_k"] ["_law_script", "_law_k"] (defScope sf_law_cell_at) := ⟨rfl, rfl, rfl, by decide +kernel, rfl, by decide +kernel, by decide +kernel⟩
theorem bd_law_cell_at : BindOk "_law_cell_at" "_law_cell_at" sf_law_cell_at ["_law_script", "_law_k"] := fun _ _ _ _ _ _ us hl => match us, hl with | [_, _], _ => rfl
/- _law_state: 0 _law_source -/
theorem sc_law_state : FnScope ["_law_source"] ["_law_source"] (defScope sf_law_state) := ⟨rfl, rfl, rfl, by decide +kernel, rfl, by decide +kernel, by decide +kernel⟩
theorem bd_law_state : BindOk "_law_state" "_law_state" sf_law_state ["_law_source"] := fun _ _ _ _ _ _ us hl => match us, hl with | [_], _ => rfl
/- _law_digit: 0 _law_state_here, 1 _law_base, 2 _law_found, 3 _law_mixed -/
theorem sc_law_digit : FnScope ["_law_state_here", "_law_base", "_law_found", "_law_mixed"] ["_law_state_here", "_law_base"] (defScope sf_law_digit) := ⟨rfl, rfl, rfl, by decide +kernel, rfl, by decide +kernel, by decide +kernel⟩
theorem bd_law_digit : BindOk "_law_digit" "_law_digit" sf_law_digit ["_law_state_here", "_law_base"] := fun _ _ _ _ _ _ us hl => match us, hl with | [_, _], _ => rfl
/- _law_kinds:  -/
theorem sc_law_kinds : FnScope [] [] (defScope sf_law_kinds) := ⟨rfl, rfl, rfl, by decide +kernel, rfl, by decide +kernel, by decide +kernel⟩
theorem bd_law_kinds : BindOk "_law_kinds" "_law_kinds" sf_law_kinds [] := fun _ _ _ _ _ _ us hl => match us, hl with | [], _ => rfl
/- _law_made: 0 _law_members, 1 _law_found, 2 _law_kind, 3 _law_number -/
theorem sc_law_made : FnScope ["_law_members", "_law_found", "_law_kind", "_law_number"] ["_law_members"] (defScope sf_law_made) := ⟨rfl, rfl, rfl, by decide +kernel, rfl, by decide +kernel, by decide +kernel⟩
theorem bd_law_made : BindOk "_law_made" "_law_made" sf_law_made ["_law_members"] := fun _ _ _ _ _ _ us hl => match us, hl with | [_], _ => rfl
/- _law_late_of: 0 _law_members, 1 _law_kind, 2 _law_number -/
theorem sc_law_late_of : FnScope ["_law_members", "_law_kind", "_law_number"] ["_law_members"] (defScope sf_law_late_of) := ⟨rfl, rfl, rfl, by decide +kernel, rfl, by decide +kernel, by decide +kernel⟩
theorem bd_law_late_of : BindOk "_law_late_of" "_law_late_of" sf_law_late_of ["_law_members"] := fun _ _ _ _ _ _ us hl => match us, hl with | [_], _ => rfl
/- _law_row_of: 0 _law_members -/
theorem sc_law_row_of : FnScope ["_law_members"] ["_law_members"] (defScope sf_law_row_of) := ⟨rfl, rfl, rfl, by decide +kernel, rfl, by decide +kernel, by decide +kernel⟩
theorem bd_law_row_of : BindOk "_law_row_of" "_law_row_of" sf_law_row_of ["_law_members"] := fun _ _ _ _ _ _ us hl => match us, hl with | [_], _ => rfl
/- _law_windows: 0 _law_begin, 1 _law_many, 2 _law_found, 3 _law_k, 4 _law_stream -/
theorem sc_law_windows : FnScope ["_law_begin", "_law_many", "_law_found", "_law_k", "_law_stream"] ["_law_begin", "_law_many"] (defScope sf_law_windows) := ⟨rfl, rfl, rfl, by decide +kernel, rfl, by decide +kernel, by decide +kernel⟩
theorem bd_law_windows : BindOk "_law_windows" "_law_windows" sf_law_windows ["_law_begin", "_law_many"] := fun _ _ _ _ _ _ us hl => match us, hl with | [_, _], _ => rfl
/- _law_forms: 0 _law_most, 1 _law_found, 2 _law_quiet, 3 _law_more, 4 _law_kind, 5 _law_records -/
theorem sc_law_forms : FnScope ["_law_most", "_law_found", "_law_quiet", "_law_more", "_law_kind", "_law_records"] ["_law_most"] (defScope sf_law_forms) := ⟨rfl, rfl, rfl, by decide +kernel, rfl, by decide +kernel, by decide +kernel⟩
theorem bd_law_forms : BindOk "_law_forms" "_law_forms" sf_law_forms ["_law_most"] := fun _ _ _ _ _ _ us hl => match us, hl with | [_], _ => rfl
/- _law_right: 0 _law_s, 1 _law_most, 2 _law_size, 3 _law_begin, 4 _law_events, 5 _law_by_streams, 6 _law_by_rows, 7 _law_stream, 8 _law_numbers, 9 _law_many, 10 _law_least, 11 _law_told, 12 _law_records, 13 _law_late, 14 _law_times, 15 _law_turn, 16 _law_time, 17 _law_one -/
theorem sc_law_right : FnScope ["_law_s", "_law_most", "_law_size", "_law_begin", "_law_events", "_law_by_streams", "_law_by_rows", "_law_stream", "_law_numbers", "_law_many", "_law_least", "_law_told", "_law_records", "_law_late", "_law_times", "_law_turn", "_law_time", "_law_one"] ["_law_s", "_law_most", "_law_size"] (defScope sf_law_right) := ⟨rfl, rfl, rfl, by decide +kernel, rfl, by decide +kernel, by decide +kernel⟩
theorem bd_law_right : BindOk "_law_right" "_law_right" sf_law_right ["_law_s", "_law_most", "_law_size"] := fun _ _ _ _ _ _ us hl => match us, hl with | [_, _, _], _ => rfl
/- law: 0 _law_script, 1 _law_k, 2 _law_s, 3 _law_most, 4 _law_size -/
theorem sc_law : FnScope ["_law_script", "_law_k", "_law_s", "_law_most", "_law_size"] ["_law_script"] (defScope sf_law) := ⟨rfl, rfl, rfl, by decide +kernel, rfl, by decide +kernel, by decide +kernel⟩
theorem bd_law : BindOk "law" "law" sf_law ["_law_script"] := fun _ _ _ _ _ _ us hl => match us, hl with | [_], _ => rfl
/- Member.__init__: 0 self, 1 q -/
theorem sc_Member_init : FnScope ["self", "q"] ["self", "q"] (defScope s_Member_init) := ⟨rfl, rfl, rfl, by decide +kernel, rfl, by decide +kernel, by decide +kernel⟩
theorem bd_Member_init : BindOk "__init__" "Member.__init__" s_Member_init ["self", "q"] := fun _ _ _ _ _ _ us hl => match us, hl with | [_, _], _ => rfl
/- Last.class_name: 0 self -/
theorem sc_Last_class_name : FnScope ["self"] ["self"] (defScope s_Last_class_name) := ⟨rfl, rfl, rfl, by decide +kernel, rfl, by decide +kernel, by decide +kernel⟩
theorem bd_Last_class_name : BindOk "class_name" "Last.class_name" s_Last_class_name ["self"] := fun _ _ _ _ _ _ us hl => match us, hl with | [_], _ => rfl
/- Last.kept: 0 self, 1 stream, 2 count, 3 at -/
theorem sc_Last_kept : FnScope ["self", "stream", "count", "at"] ["self", "stream"] (defScope s_Last_kept) := ⟨rfl, rfl, rfl, by decide +kernel, rfl, by decide +kernel, by decide +kernel⟩
theorem bd_Last_kept : BindOk "kept" "Last.kept" s_Last_kept ["self", "stream"] := fun _ _ _ _ _ _ us hl => match us, hl with | [_, _], _ => rfl
/- Last.waits: 0 self -/
theorem sc_Last_waits : FnScope ["self"] ["self"] (defScope s_Last_waits) := ⟨rfl, rfl, rfl, by decide +kernel, rfl, by decide +kernel, by decide +kernel⟩
theorem bd_Last_waits : BindOk "waits" "Last.waits" s_Last_waits ["self"] := fun _ _ _ _ _ _ us hl => match us, hl with | [_], _ => rfl
/- First.class_name: 0 self -/
theorem sc_First_class_name : FnScope ["self"] ["self"] (defScope s_First_class_name) := ⟨rfl, rfl, rfl, by decide +kernel, rfl, by decide +kernel, by decide +kernel⟩
theorem bd_First_class_name : BindOk "class_name" "First.class_name" s_First_class_name ["self"] := fun _ _ _ _ _ _ us hl => match us, hl with | [_], _ => rfl
/- First.kept: 0 self, 1 stream, 2 at -/
theorem sc_First_kept : FnScope ["self", "stream", "at"] ["self", "stream"] (defScope s_First_kept) := ⟨rfl, rfl, rfl, by decide +kernel, rfl, by decide +kernel, by decide +kernel⟩
theorem bd_First_kept : BindOk "kept" "First.kept" s_First_kept ["self", "stream"] := fun _ _ _ _ _ _ us hl => match us, hl with | [_, _], _ => rfl
/- Member.waits: 0 self -/
theorem sc_Member_waits : FnScope ["self"] ["self"] (defScope s_Member_waits) := ⟨rfl, rfl, rfl, by decide +kernel, rfl, by decide +kernel, by decide +kernel⟩
theorem bd_Member_waits : BindOk "waits" "Member.waits" s_Member_waits ["self"] := fun _ _ _ _ _ _ us hl => match us, hl with | [_], _ => rfl
/- Limit.class_name: 0 self -/
theorem sc_Limit_class_name : FnScope ["self"] ["self"] (defScope s_Limit_class_name) := ⟨rfl, rfl, rfl, by decide +kernel, rfl, by decide +kernel, by decide +kernel⟩
theorem bd_Limit_class_name : BindOk "class_name" "Limit.class_name" s_Limit_class_name ["self"] := fun _ _ _ _ _ _ us hl => match us, hl with | [_], _ => rfl
/- Limit.kept: 0 self, 1 stream, 2 found, 3 at, 4 time -/
theorem sc_Limit_kept : FnScope ["self", "stream", "found", "at", "time"] ["self", "stream"] (defScope s_Limit_kept) := ⟨rfl, rfl, rfl, by decide +kernel, rfl, by decide +kernel, by decide +kernel⟩
theorem bd_Limit_kept : BindOk "kept" "Limit.kept" s_Limit_kept ["self", "stream"] := fun _ _ _ _ _ _ us hl => match us, hl with | [_, _], _ => rfl
/- Row.__init__: 0 self, 1 members, 2 index, 3 member -/
theorem sc_Row_init : FnScope ["self", "members", "index", "member"] ["self", "members"] (defScope s_Row_init) := ⟨rfl, rfl, rfl, by decide +kernel, rfl, by decide +kernel, by decide +kernel⟩
theorem bd_Row_init : BindOk "__init__" "Row.__init__" s_Row_init ["self", "members"] := fun _ _ _ _ _ _ us hl => match us, hl with | [_, _], _ => rfl
/- Row.delays: 0 self, 1 member -/
theorem sc_Row_delays : FnScope ["self", "member"] ["self"] (defScope s_Row_delays) := ⟨rfl, rfl, rfl, by decide +kernel, rfl, by decide +kernel, by decide +kernel⟩
theorem bd_Row_delays : BindOk "delays" "Row.delays" s_Row_delays ["self"] := fun _ _ _ _ _ _ us hl => match us, hl with | [_], _ => rfl
/- Told.__init__: 0 self, 1 number, 2 time, 3 first, 4 last -/
theorem sc_Told_init : FnScope ["self", "number", "time", "first", "last"] ["self", "number", "time", "first", "last"] (defScope s_Told_init) := ⟨rfl, rfl, rfl, by decide +kernel, rfl, by decide +kernel, by decide +kernel⟩
theorem bd_Told_init : BindOk "__init__" "Told.__init__" s_Told_init ["self", "number", "time", "first", "last"] := fun _ _ _ _ _ _ us hl => match us, hl with | [_, _, _, _, _], _ => rfl
/- Leads.__init__: 0 self, 1 stream, 2 numbers, 3 most -/
theorem sc_Leads_init : FnScope ["self", "stream", "numbers", "most"] ["self", "stream", "numbers", "most"] (defScope s_Leads_init) := ⟨rfl, rfl, rfl, by decide +kernel, rfl, by decide +kernel, by decide +kernel⟩
theorem bd_Leads_init : BindOk "__init__" "Leads.__init__" s_Leads_init ["self", "stream", "numbers", "most"] := fun _ _ _ _ _ _ us hl => match us, hl with | [_, _, _, _], _ => rfl
/- Leads.left: 0 self, 1 numbers, 2 kind, 3 place, 4 kept, 5 number, 6 at -/
theorem sc_Leads_left : FnScope ["self", "numbers", "kind", "place", "kept", "number", "at"] ["self", "numbers", "kind", "place"] (defScope s_Leads_left) := ⟨rfl, rfl, rfl, by decide +kernel, rfl, by decide +kernel, by decide +kernel⟩
theorem bd_Leads_left : BindOk "left" "Leads.left" s_Leads_left ["self", "numbers", "kind", "place"] := fun _ _ _ _ _ _ us hl => match us, hl with | [_, _, _, _], _ => rfl
/- Leads.is_open: 0 self, 1 numbers, 2 number -/
theorem sc_Leads_is_open : FnScope ["self", "numbers", "number"] ["self", "numbers"] (defScope s_Leads_is_open) := ⟨rfl, rfl, rfl, by decide +kernel, rfl, by decide +kernel, by decide +kernel⟩
theorem bd_Leads_is_open : BindOk "is_open" "Leads.is_open" s_Leads_is_open ["self", "numbers"] := fun _ _ _ _ _ _ us hl => match us, hl with | [_, _], _ => rfl
/- Leads.ways_to_goal: 0 self, 1 table, 2 place, 3 low, 4 high, 5 ways, 6 behind, 7 numbers, 8 many, 9 kind, 10 left -/
theorem sc_Leads_ways_to_goal : FnScope ["self", "table", "place", "low", "high", "ways", "behind", "numbers", "many", "kind", "left"] ["self"] (defScope s_Leads_ways_to_goal) := ⟨rfl, rfl, rfl, by decide +kernel, rfl, by decide +kernel, by decide +kernel⟩
theorem bd_Leads_ways_to_goal : BindOk "ways_to_goal" "Leads.ways_to_goal" s_Leads_ways_to_goal ["self"] := fun _ _ _ _ _ _ us hl => match us, hl with | [_], _ => rfl
/- Leads.need: 0 self, 1 numbers, 2 place, 3 found, 4 kind, 5 left, 6 more, 7 many -/
theorem sc_Leads_need : FnScope ["self", "numbers", "place", "found", "kind", "left", "more", "many"] ["self", "numbers", "place"] (defScope s_Leads_need) := ⟨rfl, rfl, rfl, by decide +kernel, rfl, by decide +kernel, by decide +kernel⟩
theorem bd_Leads_need : BindOk "need" "Leads.need" s_Leads_need ["self", "numbers", "place"] := fun _ _ _ _ _ _ us hl => match us, hl with | [_, _, _], _ => rfl
/- Leads.next_record: 0 self, 1 numbers, 2 place, 3 many, 4 kind, 5 at, 6 left -/
theorem sc_Leads_next_record : FnScope ["self", "numbers", "place", "many", "kind", "at", "left"] ["self", "numbers", "place", "many"] (defScope s_Leads_next_record) := ⟨rfl, rfl, rfl, by decide +kernel, rfl, by decide +kernel, by decide +kernel⟩
theorem bd_Leads_next_record : BindOk "next_record" "Leads.next_record" s_Leads_next_record ["self", "numbers", "place", "many"] := fun _ _ _ _ _ _ us hl => match us, hl with | [_, _, _, _], _ => rfl
/- Leads.least: 0 self, 1 numbers, 2 place, 3 found, 4 many, 5 rest, 6 kind, 7 at -/
theorem sc_Leads_least : FnScope ["self", "numbers", "place", "found", "many", "rest", "kind", "at"] ["self"] (defScope s_Leads_least) := ⟨rfl, rfl, rfl, by decide +kernel, rfl, by decide +kernel, by decide +kernel⟩
theorem bd_Leads_least : BindOk "least" "Leads.least" s_Leads_least ["self"] := fun _ _ _ _ _ _ us hl => match us, hl with | [_], _ => rfl
/- Ways.__init__: 0 self, 1 size -/
theorem sc_Ways_init : FnScope ["self", "size"] ["self", "size"] (defScope s_Ways_init) := ⟨rfl, rfl, rfl, by decide +kernel, rfl, by decide +kernel, by decide +kernel⟩
theorem bd_Ways_init : BindOk "__init__" "Ways.__init__" s_Ways_init ["self", "size"] := fun _ _ _ _ _ _ us hl => match us, hl with | [_, _], _ => rfl
/- Ways.chains: 0 self, 1 quiet, 2 found, 3 whole, 4 longest, 5 step -/
theorem sc_Ways_chains : FnScope ["self", "quiet", "found", "whole", "longest", "step"] ["self", "quiet"] (defScope s_Ways_chains) := ⟨rfl, rfl, rfl, by decide +kernel, rfl, by decide +kernel, by decide +kernel⟩
theorem bd_Ways_chains : BindOk "chains" "Ways.chains" s_Ways_chains ["self", "quiet"] := fun _ _ _ _ _ _ us hl => match us, hl with | [_, _], _ => rfl
/- Ways.add: 0 self, 1 kind, 2 quiet, 3 chains, 4 steps, 5 great, 6 whole, 7 many, 8 step -/
theorem sc_Ways_add : FnScope ["self", "kind", "quiet", "chains", "steps", "great", "whole", "many", "step"] ["self", "kind", "quiet"] (defScope s_Ways_add) := ⟨rfl, rfl, rfl, by decide +kernel, rfl, by decide +kernel, by decide +kernel⟩
theorem bd_Ways_add : BindOk "add" "Ways.add" s_Ways_add ["self", "kind", "quiet"] := fun _ _ _ _ _ _ us hl => match us, hl with | [_, _, _], _ => rfl
end Qr
set_option maxHeartbeats 4000000
namespace Qr
open PySem PySem.Spec PyProof.Rows L2
/-! ### == of lists and tuples of whole numbers -/
section
variable {K : PySem.W.Frag} {H : Hp}
theorem dp_all : ∀ ns : List Nat, DpAll K H (ns.map nV) (ns.map fun (n : Nat) => PyData.int (n : Int))
  | [] => .nil
  | n :: r => .cons (.int n) (dp_all r)
theorem can_ints : ∀ ns : List Nat, PyData.canLayAll0 (ns.map fun (n : Nat) => PyData.int (n : Int)) = true
  | [] => by rw [List.map_nil, PyData.canLayAll0]
  | n :: r => by rw [List.map_cons, PyData.canLayAll0, can_ints r, PyData.canLay0]; rfl
theorem dep_ints : ∀ ns : List Nat, PyData.depthAll (ns.map fun (n : Nat) => PyData.int (n : Int)) = 0
  | [] => by rw [List.map_nil, PyData.depthAll]
  | n :: r => by rw [List.map_cons, PyData.depthAll, dep_ints r, PyData.depth]; rfl
theorem shaped_list (ns : List Nat) : SeqAt.shaped (.list (ns.map fun (n : Nat) => PyData.int (n : Int))) = true := by
  unfold SeqAt.shaped
  rw [PyData.canLay0, can_ints, PyData.depth, dep_ints]
  decide
theorem shaped_tup (ns : List Nat) : SeqAt.shaped (.tuple (ns.map fun (n : Nat) => PyData.int (n : Int))) = true := by
  unfold SeqAt.shaped
  rw [PyData.canLay0, can_ints, PyData.depth, dep_ints]
  decide
theorem eqv_ints : ∀ ns ms : List Nat, PyData.eqvAll (ns.map fun (n : Nat) => PyData.int (n : Int)) (ms.map fun (n : Nat) => PyData.int (n : Int)) = decide (ns = ms)
  | [], [] => by rw [List.map_nil, PyData.eqvAll]; rfl
  | [], m :: ms => by rw [List.map_nil, List.map_cons, PyData.eqvAll]; rfl
  | n :: ns, [] => by rw [List.map_nil, List.map_cons, PyData.eqvAll]; rfl
  | n :: ns, m :: ms => by
    rw [List.map_cons, List.map_cons, PyData.eqvAll, eqv_ints ns ms, PyData.eqv]
    by_cases h : n = m
    · subst h; simp
    · have h2 : ¬ ((n : Int) = (m : Int)) := by omega
      simp [h]
      intro z; omega
theorem rd_eqL {a b : Addr} {ns ms : List Nat} {Q : VK} (ha : SqL K H a (ns.map nV)) (hb : SqL K H b (ms.map nV)) (h : Q (.bl (decide (ns = ms))) H) : rEqD K (.ref a) (.ref b) H Q := by
  refine ⟨_, _, .lst ha (dp_all ns), .lst hb (dp_all ms), shaped_list _, shaped_list _, ?_⟩
  rw [PyData.eqv, eqv_ints]
  exact h
theorem rd_eqT {a b : Addr} {ns ms : List Nat} {Q : VK} (ha : SqT K H a (ns.map nV)) (hb : SqT K H b (ms.map nV)) (h : Q (.bl (decide (ns = ms))) H) : rEqD K (.ref a) (.ref b) H Q := by
  refine ⟨_, _, .tup ha (dp_all ns), .tup hb (dp_all ms), shaped_tup _, shaped_tup _, ?_⟩
  rw [PyData.eqv, eqv_ints]
  exact h
theorem rd_neL {a b : Addr} {ns ms : List Nat} {Q : VK} (ha : SqL K H a (ns.map nV)) (hb : SqL K H b (ms.map nV)) (h : Q (.bl (!decide (ns = ms))) H) : rNeD K (.ref a) (.ref b) H Q := by
  refine ⟨_, _, .lst ha (dp_all ns), .lst hb (dp_all ms), shaped_list _, shaped_list _, ?_⟩
  rw [PyData.eqv, eqv_ints]
  exact h
theorem rd_neT {a b : Addr} {ns ms : List Nat} {Q : VK} (ha : SqT K H a (ns.map nV)) (hb : SqT K H b (ms.map nV)) (h : Q (.bl (!decide (ns = ms))) H) : rNeD K (.ref a) (.ref b) H Q := by
  refine ⟨_, _, .tup ha (dp_all ns), .tup hb (dp_all ms), shaped_tup _, shaped_tup _, ?_⟩
  rw [PyData.eqv, eqv_ints]
  exact h
end
/-! ### rules within a comprehension: the written part named -/
section
variable {X : Cx} {e o : Expr} {es : List Expr} {f c m : Str} {p pos apos : Pos} {ps : List Str} {k : Nat} {sp : Sp} {t : TA} {ta tb : TE} {K : PySem.W.Frag}
theorem pe_fldK (hK : X.K = K) (he : PE X e ta) (hb : attributeBase e f X.env (eval e X.env) = eval e X.env) : PE X (.Attribute e f pos) (tFld K ta f) := by
  subst hK
  exact pe_fld he hb
theorem pe_cmK {pl : Sem Bool} (hK : X.K = K) (he : PE X o ta) (G : CalM X.prog X.w X.K X.mg X.base c m ps k sp) (hr : Room k X.A) (ha : PA X (e :: es) t)
    (hst : starEach (e :: es) X.env = (false, eval e X.env) :: starEach es X.env := by rfl) (hpl : (backTo pos (starEach es X.env)).any (·.1) = false := by rfl)
    (ht : eval (.Call (.Attribute o m apos) (e :: es) [] pos) X.env = (do
      let ov ← eval o X.env
      standAt apos.atName
      let (f, first) ← holding [ov] (getMethod ov m pl)
      callWith pos f first (backTo pos (starEach (e :: es) X.env)) (backToKw pos (keywordEach [] X.env))) := by rfl) :
    PE X (.Call (.Attribute o m apos) (e :: es) [] pos) (tMeth (He.ga K c) m sp [] E0 ta t) := by
  subst hK
  exact pe_cm he G hr ha hst hpl ht
theorem pe_cmK0 {pl : Sem Bool} (hK : X.K = K) (he : PE X o ta) (G : CalM X.prog X.w X.K X.mg X.base c m ps k sp) (hr : Room k X.A)
    (ht : eval (.Call (.Attribute o m apos) [] [] pos) X.env = (do
      let ov ← eval o X.env
      standAt apos.atName
      let (f, first) ← holding [ov] (getMethod ov m pl)
      callWith pos f first (backTo pos (starEach [] X.env)) (backToKw pos (keywordEach [] X.env))) := by rfl) :
    PE X (.Call (.Attribute o m apos) [] [] pos) (tMeth (He.ga K c) m sp [] E0 ta tNil) := by
  subst hK
  exact pe_cm0 he G hr ht
theorem pe_ciK (hK : X.K = K) (G : CalI X.prog X.w X.K X.mg X.base c ps k sp) (hr : Room (k + 1) X.A) (hg : Gl X c)
    (ha : PA X (e :: es) t) (hdb : (c == ("__debug__" : Str)) = false := by decide) (he : starEach (e :: es) X.env = (false, eval e X.env) :: starEach es X.env := by rfl) (hpl : (backTo pos (starEach es X.env)).any (·.1) = false := by rfl) :
    PE X (.Call (.Name c p) (e :: es) [] pos) (tMake (He.ga K c) sp [] E0 t) := by
  subst hK
  exact pe_ci G hr hg ha hdb he hpl
end
section
variable {X : Cx} {K : PySem.W.Frag}
theorem ix_listK (hK : X.K = K) : IxR X (rIxL K) := by subst hK; exact ix_list
theorem ix_tupK (hK : X.K = K) : IxR X (rIxT K) := by subst hK; exact ix_tup
theorem op_in_seqK (hK : X.K = K) : OpR X (compareOp .In) (rIn K false) := by subst hK; exact op_in_seq
theorem op_notIn_seqK (hK : X.K = K) : OpR X (compareOp .NotIn) (rIn K true) := by subst hK; exact op_notIn_seq
theorem mt_indexK (hK : X.K = K) : MtR X "list.index" (rIndex K) := by subst hK; exact mt_index
theorem cr_sumK (hc : X.calm = true) (hK : X.K = K) : CallR X (.builtin "sum") (rSum K) := by subst hK; exact cr_sum hc
end
theorem pg_tupK {X : Cx} {K : PySem.W.Frag} {es : List Expr} {k : Nat} {t : TGs} {pos : Pos} (n : Nat) (hK : X.K = K) (hc : X.calm = true) (h : PGs X es t)
    (hn : (assignEach es X.env).length = n := by rfl) (hst : (assignEach es X.env).findIdx? (·.1) = none := by rfl) : PG X (.Tuple es k pos) (gTup K n t) := by
  subst hK
  exact pg_tup hc h hn hst
theorem tYes_go {σ : L2.St} {H : Hp} {A B : Hp → Prop} (h : A H) : tYes σ H (fun b H3 => if b = true then A H3 else B H3) := by
  show (if true = true then A H else B H)
  rw [if_pos rfl]
  exact h
/-! ### filters of a range -/
theorem fil_t {p : Nat → Bool} {i : Nat} (h : p i = true) : ((List.range i).filter p).map nV ++ [V.int (0 + (i : Int))] = ((List.range (i + 1)).filter p).map nV := by
  rw [filter_succ, if_pos h, List.map_append]
  simp
theorem fil_f {p : Nat → Bool} {i : Nat} (h : p i = false) : ((List.range i).filter p).map nV = ((List.range (i + 1)).filter p).map nV := by
  rw [filter_succ, if_neg (by simp [h])]
  simp
theorem dec_nV {i j : Nat} : decide (nV i = nV j) = decide (i = j) := by
  by_cases h : i = j
  · subst h; simp
  · rw [decide_eq_false h, decide_eq_false]
    intro z
    injection z with z
    omega
end Qr
set_option maxHeartbeats 4000000
/-! enumerate(tuple) -/
namespace Qr
open PySem PySem.Spec PyProof.Rows L2
theorem meets_enumT (t : Addr) (items : Array Value) : Meets (Builtin.«enumerate.__new__» ⟨[.type "enumerate", .ref t], []⟩) (fun _ R s => s.heap.IsTuple t items ∧
      R (.ok (.ret (.ref (s.heap.push { cls := .type "tuple_iterator", data := .fields #[.ref t, .int 0 0] }).objs.size)))
        { s with heap := (s.heap.push { cls := .type "tuple_iterator", data := .fields #[.ref t, .int 0 0] }).push { cls := .type "enumerate", data := .fields #[.none, .bool false, .ref s.heap.objs.size, rawInt 0, .none, .none] } }) :=
  .of_wp fun prog w A R s hyp => by
    obtain ⟨hp, gg, dd, tk, os⟩ := s
    obtain ⟨ht, hR⟩ := hyp
    have hsub := sub_enumerate
    have step : ∀ {A' : Around} {E : Value → Shared → Prop} {Q : Value → Shared → Prop}, Q (.ref hp.objs.size) ⟨hp.push { cls := .type "tuple_iterator", data := .fields #[.ref t, .int 0 0] }, gg, dd, tk, os⟩ → wpAny (model prog w) A' (pyIter (.ref t)) Q E ⟨hp, gg, dd, tk, os⟩ :=
      fun q => (begins_tuple t items).iter prog w _ _ ⟨hp, gg, dd, tk, os⟩ _ ht q
    wp_walk using step
    refine wpAny_stack_any fun z => wpAny_pure ?_
    split
    · rename_i cc _ _ _ _ _
      cases (cc == Value.type "enumerate") <;> (wp_walk using step; exact ⟨_, rfl, hR⟩)
    · wp_walk using step
      exact ⟨_, rfl, hR⟩
section
variable {prog : Program} {w : World} {A : Around} {E : Value → Shared → Prop} {s : Shared}
theorem call_enumT {t : Addr} {items : Array Value} {Q : Value → Shared → Prop} (ht : s.heap.IsTuple t items)
    (h : ∀ h', IsEnum h' (s.heap.objs.size + 1) s.heap.objs.size 0 .none → h'.IsTupleIter s.heap.objs.size t 0 → (∀ b o, s.heap.get? b = some o → h'.get? b = some o) → Q (.ref (s.heap.objs.size + 1)) { s with heap := h' }) :
    wpAny (model prog w) A (call (.type "enumerate") [.ref t]) Q E s := by
  refine callType_new F.called_enumerate (by decide) (F.typeCall_enumerate_1 _) (F.newCall_enumerate_1 _) (fun obj => F.args_object_init_2 obj _) F.entry_enumerate_new (meets_enumT t items) ⟨ht, ?_⟩
  generalize hti : ({ cls := .type "tuple_iterator", data := .fields #[.ref t, .int 0 0] } : Obj) = ti
  have free : ti.isFreed = false := by rw [← hti]; rfl
  have hz : (s.heap.push ti).objs.size = s.heap.objs.size + 1 := Heap.size_push ..
  show _ ∧ _
  rw [hz]
  have he : IsEnum ((s.heap.push ti).push { cls := .type "enumerate", data := .fields #[.none, .bool false, .ref s.heap.objs.size, rawInt 0, .none, .none] }) (s.heap.objs.size + 1) s.heap.objs.size 0 .none := by
    have z := Heap.get?_push_size (s.heap.push ti) (o := { cls := .type "enumerate", data := .fields #[.none, .bool false, .ref s.heap.objs.size, rawInt 0, .none, .none] }) rfl
    rw [hz] at z
    exact z
  refine ⟨⟨_, he, rfl⟩, h _ he ⟨ti, Heap.get?_push_of_some _ (Heap.get?_push_size _ free), by rw [← hti], by rw [← hti]; rfl⟩ fun b o x => Heap.get?_push_of_some _ (Heap.get?_push_of_some _ x)⟩
end
/-- the tuple at a, each item in a new pair -/
def IteT (K : PySem.W.Frag) (a : Addr) : It where
  go := fun i H => ∃ (xs : List V) (x : V), SqT K H a xs ∧ xs[i]? = some x
  yld := fun i H v H' => ∃ T x, v = .ref T ∧ H T = none ∧ H' = upd H T (.tup [.int (i : Nat), x]) ∧ ∀ xs, SqT K H a xs → xs[i]? = some x
  stop := fun i H => ∃ xs : List V, SqT K H a xs ∧ xs.length = i
theorem turn_enumT {P : Program} {w : World} {K : PySem.W.Frag} {elts : List Expr} {kk : Nat} {tpos : Pos} (a e it : Addr) (hae : a ≠ it) (hae2 : a ≠ e) :
    Turn P w K (.Tuple elts kk tpos) (IteT K a) [e, it] e (fun i h => (∃ old, IsEnum h e it ((i : Nat) : Int) old) ∧ h.IsTupleIter it a i ∧ e ≠ it) where
  mem := List.mem_cons_self
  obj := fun i h st b hb => by
    obtain ⟨⟨old, he⟩, ⟨o, ho, hc, hd⟩, _⟩ := st
    rcases List.mem_cons.mp hb with rfl | hb
    · exact ⟨_, he, fun v q => nomatch q⟩
    · rw [List.mem_singleton.mp hb]
      exact ⟨o, ho, fun v q => by rw [hd] at q; cases q⟩
  keep := fun i h h' st k => by
    obtain ⟨⟨old, he⟩, hi, hne⟩ := st
    exact ⟨⟨old, k e List.mem_cons_self _ he⟩, hi.at fun o q => k it (List.mem_cons_of_mem _ List.mem_cons_self) o q, hne⟩
  item := by
    intro X hP hw hK hc i pins s σ H E I hf st hg
    subst hP hw hK
    obtain ⟨⟨old, he⟩, hit, hne⟩ := st
    obtain ⟨xs, x, hq, hx⟩ := hg
    obtain ⟨its, rv, pt, hz⟩ := I.tuple hq
    obtain ⟨u, hu, ru⟩ := rv.get hx
    have hel : e < s.heap.objs.size := Heap.lt_size he
    have hil : it < s.heap.objs.size := by obtain ⟨_, q, _⟩ := hit; exact Heap.lt_size q
    have hui : its.toArray[i]? = some u := by simpa using hu
    have lt : i < its.toArray.size := (Array.getElem?_eq_some_iff.mp hui).1
    have D := Draws.tuple (prog := X.prog) (w := X.w) (A := X.A.in1) (I.ok.hd hc) it a hae its.toArray
    refine wpAny_pyNext_enum_itemD D he ⟨hit, pt⟩ lt hne (fun hm => ?_) fun x2 h' tk hx2 ho hst' hT hsz hk => ?_
    · rcases List.mem_cons.mp hm with z | z
      · exact hne z
      · exact hae2 (List.mem_singleton.mp z).symm
    obtain rfl : x2 = u := Option.some.inj (hx2.symm.trans hui)
    refine ⟨_, rfl, wpAny_letOwnedTupleGo_enum (s := { s with heap := h', toks := tk + 1 }) ho fun h'' he' sb => ?_⟩
    have hT2 : h''.get? s.heap.objs.size = some { cls := .type "tuple", data := .seq #[.int i tk, x2] } := (sb.2 _ (Nat.ne_of_gt hel)).trans hT
    have new : ObjOk X.prog X.w (upd H s.heap.objs.size (.tup [.int (i : Nat), x])) h'' s.heap.objs.size (.tup [.int (i : Nat), x]) :=
      ⟨len_ok' (by show 2 ≤ 1000; decide), [.int i tk, x2], .cons ⟨_, rfl⟩ (.cons ru .nil), ⟨_, hT2, rfl, _, rfl⟩⟩
    have I1 : Inv X pins σ (upd H s.heap.objs.size (.tup [.int (i : Nat), x])) { s with heap := h'', toks := tk + 1 } :=
      I.turnedNew (ch := [e, it]) (fun b ob hb q => by
        have n1 : b ≠ e := fun z => hb (by rw [z]; exact List.mem_cons_self)
        have n2 : b ≠ it := fun z => hb (by rw [z]; exact List.mem_cons_of_mem _ List.mem_cons_self)
        exact (sb.2 b n1).trans (hk b ob n1 n2 q)) hf (Nat.le_refl _) new
    refine ⟨.ref s.heap.objs.size, _, I1, rfl, ⟨_, x, rfl, I.hok.fresh (Nat.le_refl _), rfl, fun ys hy => by rw [I.tuple_inj hy hq]; exact hx⟩, ⟨⟨x2, ?_⟩, hst'.1.at fun o q => (sb.2 it hne.symm).trans q, hne⟩, fun b hb => ?_⟩
    · have e1 : ((i + 1 : Nat) : Int) = (i : Int) + 1 := by omega
      rw [e1]
      exact he'
    · have lb : b < s.heap.objs.size := by
        rcases List.mem_cons.mp hb with rfl | hb
        · exact hel
        · rw [List.mem_singleton.mp hb]
          exact hil
      rw [upd_ne (Nat.ne_of_lt lb)]
      exact (hf b hb).1
  done := by
    intro X hP hw hK hc i pins s σ H E I hf st hg
    subst hP hw hK
    obtain ⟨⟨old, he⟩, hit, hne⟩ := st
    obtain ⟨xs, hq, hx⟩ := hg
    obtain ⟨its, rv, pt, hz⟩ := I.tuple hq
    obtain ⟨f0, f1, f2, f3, f4, f5⟩ := hf it (List.mem_cons_of_mem _ List.mem_cons_self)
    have hl := rv.length
    have D := Draws.tuple (prog := X.prog) (w := X.w) (A := X.A.in1) (I.ok.hd hc) it a hae its.toArray
    have sz : its.toArray.size = i := by rw [List.size_toArray, ← hl, hx]
    refine wpAny_pyNext_enum_endD D he ?_ fun h' eb => ⟨rfl, I.turned (t' := s.toks) (fun b o hb q => eb b o hb q) f0 f1 f3 f4 f5⟩
    rw [sz]
    exact ⟨hit, pt⟩
  self := fun A i s Q E st h => by
    obtain ⟨⟨_, he⟩, _⟩ := st
    exact wpAny_pyIter_enum he h
def iEnumT (K : PySem.W.Frag) (ta : TA) : TI := fun σ H R => ta σ H fun vs H1 => ∃ a xs, vs = [.ref a] ∧ SqT K H1 a xs ∧ R (IteT K a) H1
theorem pi_enumT {X : Cx} {e : Expr} {ta : TA} {p pos tpos : Pos} {elts : List Expr} {kk : Nat} (hg : Gl X "enumerate") (hm : X.mg "enumerate" = none) (ha : PA X [e] ta) (hs : starEach [e] X.env = [(false, eval e X.env)] := by rfl) :
    PI X (.Tuple elts kk tpos) (.Call (.Name "enumerate" p) [e] [] pos) (iEnumT X.K ta) := by
  refine ⟨fun pins s σ H R I h => ?_⟩
  refine Call_ (ld_blt I hg hm boot_enumerate (PyProof.Rows.callWith_type1 (thn (ha.run pos pins s σ H _ I h) fun us s1 ⟨vs, H1, I1, r1, q1⟩ => ?_) hs rfl))
  obtain ⟨a, xs, ex, hq, q⟩ := q1
  subst ex
  cases r1 with
  | cons r rr =>
    cases rr
    cases r
    obtain ⟨its, rv, pt, hz⟩ := I1.tuple hq
    have hal : a < s1.heap.objs.size := by obtain ⟨o, ho, _⟩ := pt; exact Heap.lt_size ho
    refine call_enumT (items := its.toArray) pt fun h' he hit hk => wpAny_pyIter_enum he ?_
    have I2 : Inv X pins σ H1 { s1 with heap := h' } := I1.kept (t' := s1.toks) hk
    refine ⟨s1.heap.objs.size + 1, [s1.heap.objs.size + 1, s1.heap.objs.size], _, _, H1, rfl, I2, turn_enumT a (s1.heap.objs.size + 1) s1.heap.objs.size (Nat.ne_of_lt hal) (Nat.ne_of_lt (Nat.lt_succ_of_lt hal)), ⟨⟨.none, he⟩, hit, Nat.succ_ne_self _⟩, fun b hb => ?_, q⟩
    have le : s1.heap.objs.size ≤ b := by
      rcases List.mem_cons.mp hb with rfl | hb
      · exact Nat.le_succ _
      · rw [List.mem_singleton.mp hb]
        exact Nat.le_refl _
    exact I1.fpOk le (I1.hok.fresh le)
theorem walk_enumT {K : PySem.W.Frag} {a : Addr} {xs : List V} : Walk (IteT K a) xs.length (fun H => SqT K H a xs) (YPair (fun i => some (.int (i : Nat))) (fun i => xs[i]?)) := by
  refine ⟨fun i _ hi q => ⟨xs, xs[i], q, List.getElem?_eq_getElem hi⟩, fun _ q => ⟨xs, q, rfl⟩, fun i H v H' _ q y => ?_⟩
  obtain ⟨T, x, h1, h2, h3, h4⟩ := y
  exact ⟨T, .int (i : Nat), x, h1, h2, h3, rfl, h4 xs q⟩
end Qr
set_option maxHeartbeats 4000000
namespace Qr
open PySem PySem.Spec PyProof.Rows L2
section
variable {P : Program} {w : World} {K : PySem.W.Frag} {mg : Str → Option Value} {base : Heap}
/-! is_number -/
def spIsNum : Sp := spOf (fun n : Int => [.int n]) (fun _ _ => True) (fun _ H r H' => r = .bl true ∧ H' = H)
theorem ok_is_number (T : Txt K mg) : Cal P w K mg base "is_number" ["thing"] 1 spIsNum := by
  refine ⟨fn_mk T.F_is_number sc_is_number bd_is_number (spOf_len fun _ => rfl) (fun cdv A outer s H vs Q E hr h => ?_), T.F_is_number.elim fun _ F => F.kp, T.g_is_number⟩
  obtain ⟨n, rfl, _, k⟩ := h
  refine ⟨_, (pss_one (ps_ret (pe_and (pe_callB call_isi rfl T.z_isinstance (by decide +kernel) (pa_cons (pv 0) (pa_cons (pe_bltn (v := .ty "int") rfl T.z_int (by decide +kernel) rfl) pa_nil))) (pe_one (pe_not (pe_callB call_isi rfl T.z_isinstance (by decide +kernel) (pa_cons (pv 0) (pa_cons (pe_bltn (v := .ty "bool") rfl T.z_bool (by decide +kernel) rfl) pa_nil)))))))), ?_⟩
  refine ⟨_, rfl, .int n, .ty "int", .type "int", _, true, rfl, .ty _, .base (.int n), kit_ty (by decide +kernel), true, rfl, ?_⟩
  refine iteT ?_
  refine ⟨_, rfl, .int n, .ty "bool", .type "int", _, false, rfl, .ty _, .base (.int n), kit_ty (by decide +kernel), false, rfl, ?_⟩
  exact k _ _ ⟨rfl, rfl⟩
/-! check_stream -/
def Inc (ns : List Int) : Prop := ∀ i x y, ns[i]? = some x → ns[i + 1]? = some y → x < y
def spCheck (K : PySem.W.Frag) : Sp := spOf (fun a : Addr × List Int => [.ref a.1]) (fun a H => SqL K H a.1 (a.2.map V.int) ∧ Inc a.2) (fun _ H r H' => r = .non ∧ Same H H')
theorem ok_check_stream (T : Txt K mg) : Cal P w K mg base "check_stream" ["stream"] 2 (spCheck K) := by
  have G_is_number := ok_is_number (P := P) (w := w) (base := base) T
  refine ⟨fn_mk T.F_check_stream sc_check_stream bd_check_stream (spOf_len fun _ => rfl) (fun cdv A outer s H vs Q E hr h => ?_), T.F_check_stream.elim fun _ F => F.kp, T.g_check_stream⟩
  obtain ⟨⟨a, ns⟩, rfl, ⟨hS, hI⟩, k⟩ := h
  refine ⟨_, (pss_cons (ps_if (pt_not (pt_val (pe_callB call_isiT rfl T.z_isinstance (by decide +kernel) (pa_cons (pv 0) (pa_cons (pe_tup (pa_cons (pe_bltn (v := .ty "list") rfl T.z_list (by decide +kernel) rfl) (pa_cons (pe_bltn (v := .ty "tuple") rfl T.z_tuple (by decide +kernel) rfl) pa_nil))) pa_nil))))) pss_never pss_nil) (pss_one (ps_for PassesOwn.never rfl (pi_enum rfl T.z_enumerate (pa_cons (pv 0) pa_nil)) (pg_tup rfl (pgs_cons (pg_name (i := 1) sc_check_stream.nd rfl (.inl rfl)) (pgs_cons (pg_name (i := 2) sc_check_stream.nd rfl (.inl rfl)) pgs_nil))) (pss_one (ps_if (PW.pt (pw_or (pt_not (pt_val (pe_c G_is_number (hr.mono (by omega)) rfl (pa_cons (pv 2) pa_nil)))) (pw_or1 (PW.pt (pw_and (pt_cmpR op_gt (pv 1) pe_int (nomark _)) (pw_and1 (pt_cmpR op_le (pv 2) (pe_ix ix_list (pv 0) (pe_op op_sub (pv 1) pe_int) (fun _ _ => rfl)) (nomark _)))))))) pss_never pss_nil))))), ?_⟩
  -- isinstance(stream, (list, tuple))
  refine ⟨_, rfl, len_ok' (by decide), fun t nt => ?_⟩
  have s1 : Same H (upd H t (.tup [.ty "list", .ty "tuple"])) := same_upd1 nt
  refine ⟨.ref a, t, _, .type "list", [.type "list", .type "tuple"], true, rfl, upd_same, .cons (.ty _) (.cons (.ty _) .nil), ?_, kitAny_cons (b := true) (kit_ty (by decide +kernel)) (fun z => nomatch z) (fun _ => rfl), _, rfl, ?_⟩
  · exact tyL (s1.seq hS)
  refine iteF ?_
  -- the loop
  refine ⟨_, rfl, a, ns.map V.int, rfl, s1.seq hS, for_it (walk_enum (xs := ns.map V.int)) (fun i σ H2 => ∃ y1 y2, σ = [some (.ref a), y1, y2] ∧ Same H H2) ⟨_, _, rfl, s1⟩ (fun i σ H2 _ ⟨_, _, _, s⟩ => s.seq hS) ?_ ?_⟩
  · rintro i x σ H2 H3 hi ⟨y1, y2, rfl, s2⟩ ⟨T1, x1, x2, rfl, n1, rfl, e1, e2⟩
    obtain rfl := Option.some.inj e1
    obtain ⟨z, hz, rfl⟩ := get_map e2
    have s3 := same_new (u := .tup [V.int (i : Nat), V.int z]) s2 n1
    refine ⟨T1, _, rfl, SqT.of upd_same, rfl, _, _, rfl, _, _, rfl, rfl, ?_⟩
    refine ⟨_, rfl, z, rfl, trivial, ?_⟩
    rintro r H4 ⟨rfl, rfl⟩
    refine ⟨_, rfl, iteF ?_⟩
    refine ⟨_, rfl, _, _, rfl, rfl, _, rfl, ?_⟩
    cases i with
    | zero => exact iteF (iteF ⟨_, _, rfl, s3⟩)
    | succ j =>
      refine ite2 (fun _ => ?_) (fun _ => iteF ⟨_, _, rfl, s3⟩)
      have hj : j < ns.length := by
        have := (List.getElem?_eq_some_iff.mp hz).1
        omega
      refine ⟨_, rfl, _, rfl, _, rfl, _, _, rfl, rfl, a, _, _, _, rfl, rfl, s3.seq hS, at_map (i := j) (by simp) (List.getElem?_eq_getElem hj), _, _, rfl, rfl, _, rfl, ?_⟩
      have lt := hI j _ _ (List.getElem?_eq_getElem hj) hz
      rw [decide_eq_false (by omega)]
      exact iteF ⟨_, _, rfl, s3⟩
  · rintro σ H2 ⟨y1, y2, rfl, s2⟩
    exact k _ _ ⟨rfl, s2⟩
end
end Qr
set_option maxHeartbeats 4000000
namespace Qr
open PySem PySem.Spec PyProof.Rows L2
section
variable {P : Program} {w : World} {K : PySem.W.Frag} {mg : Str → Option Value} {base : Heap}
/-! Member.__init__ -/
def spInit (K : PySem.W.Frag) (k : Mir.Kd) : Sp := spOf (fun a : Addr × Addr × Nat => [.ref a.1, nV a.2.2]) (fun a H => H a.1 = some (.ins (He.ga K (kC k)) a.2.1 []) ∧ 1 ≤ a.2.2)
  (fun a H r H' => r = .non ∧ H' = upd H a.1 (.ins (He.ga K (kC k)) a.2.1 [("q", nV a.2.2)]))
theorem ok_Last_init (T : Txt K mg) : CalI P w K mg base "Last" ["self", "q"] 2 (spInit K .last) := by
  have G_is_number := ok_is_number (P := P) (w := w) (base := base) T
  refine ⟨fn_mk T.M_Last_init sc_Member_init bd_Member_init (spOf_len fun _ => rfl) (fun cdv A outer s H vs Q E hr h => ?_), T.k_Last, T.g_Last⟩
  obtain ⟨⟨p, dx, q⟩, rfl, ⟨hp, hq⟩, k⟩ := h
  refine ⟨_, (pss_cons (ps_fld (pv 0) (pv 1) (by rfl)) (pss_one (ps_if (PW.pt (pw_or (pt_not (pt_val (pe_c G_is_number (hr.mono (by omega)) rfl (pa_cons (pv 1) pa_nil)))) (pw_or1 (pt_cmpR op_lt (pv 1) pe_int (nomark _))))) pss_never pss_nil))), ?_⟩
  refine ⟨_, rfl, _, rfl, p, _, dx, [], rfl, hp, T.c_Last, T.n_Last_q, (by decide), ?_⟩
  refine ⟨_, rfl, (q : Int), rfl, trivial, ?_⟩
  rintro r H4 ⟨rfl, rfl⟩
  refine ⟨_, rfl, iteF ?_⟩
  refine ⟨_, rfl, _, _, rfl, rfl, _, rfl, ?_⟩
  have hq' : ¬ ((q : Int) < 1) := by
    have : 1 ≤ q := hq
    omega
  rw [decide_eq_false hq']
  exact iteF (k _ _ ⟨rfl, rfl⟩)
theorem ok_First_init (T : Txt K mg) : CalI P w K mg base "First" ["self", "q"] 2 (spInit K .first) := by
  have G_is_number := ok_is_number (P := P) (w := w) (base := base) T
  refine ⟨fn_mk T.M_First_init sc_Member_init bd_Member_init (spOf_len fun _ => rfl) (fun cdv A outer s H vs Q E hr h => ?_), T.k_First, T.g_First⟩
  obtain ⟨⟨p, dx, q⟩, rfl, ⟨hp, hq⟩, k⟩ := h
  refine ⟨_, (pss_cons (ps_fld (pv 0) (pv 1) (by rfl)) (pss_one (ps_if (PW.pt (pw_or (pt_not (pt_val (pe_c G_is_number (hr.mono (by omega)) rfl (pa_cons (pv 1) pa_nil)))) (pw_or1 (pt_cmpR op_lt (pv 1) pe_int (nomark _))))) pss_never pss_nil))), ?_⟩
  refine ⟨_, rfl, _, rfl, p, _, dx, [], rfl, hp, T.c_First, T.n_First_q, (by decide), ?_⟩
  refine ⟨_, rfl, (q : Int), rfl, trivial, ?_⟩
  rintro r H4 ⟨rfl, rfl⟩
  refine ⟨_, rfl, iteF ?_⟩
  refine ⟨_, rfl, _, _, rfl, rfl, _, rfl, ?_⟩
  have hq' : ¬ ((q : Int) < 1) := by
    have : 1 ≤ q := hq
    omega
  rw [decide_eq_false hq']
  exact iteF (k _ _ ⟨rfl, rfl⟩)
theorem ok_Limit_init (T : Txt K mg) : CalI P w K mg base "Limit" ["self", "q"] 2 (spInit K .limit) := by
  have G_is_number := ok_is_number (P := P) (w := w) (base := base) T
  refine ⟨fn_mk T.M_Limit_init sc_Member_init bd_Member_init (spOf_len fun _ => rfl) (fun cdv A outer s H vs Q E hr h => ?_), T.k_Limit, T.g_Limit⟩
  obtain ⟨⟨p, dx, q⟩, rfl, ⟨hp, hq⟩, k⟩ := h
  refine ⟨_, (pss_cons (ps_fld (pv 0) (pv 1) (by rfl)) (pss_one (ps_if (PW.pt (pw_or (pt_not (pt_val (pe_c G_is_number (hr.mono (by omega)) rfl (pa_cons (pv 1) pa_nil)))) (pw_or1 (pt_cmpR op_lt (pv 1) pe_int (nomark _))))) pss_never pss_nil))), ?_⟩
  refine ⟨_, rfl, _, rfl, p, _, dx, [], rfl, hp, T.c_Limit, T.n_Limit_q, (by decide), ?_⟩
  refine ⟨_, rfl, (q : Int), rfl, trivial, ?_⟩
  rintro r H4 ⟨rfl, rfl⟩
  refine ⟨_, rfl, iteF ?_⟩
  refine ⟨_, rfl, _, _, rfl, rfl, _, rfl, ?_⟩
  have hq' : ¬ ((q : Int) < 1) := by
    have : 1 ≤ q := hq
    omega
  rw [decide_eq_false hq']
  exact iteF (k _ _ ⟨rfl, rfl⟩)
/-! waits -/
def late : Mir.Kd × Nat → Nat
  | (.last, q) => q
  | _ => 0
def spWaits (K : PySem.W.Frag) (k : Mir.Kd) : Sp := spOf (fun a : Addr × Nat => [.ref a.1]) (fun a H => MemAt K H a.1 (k, a.2)) (fun a H r H' => r = nV (late (k, a.2)) ∧ H' = H)
theorem ok_Last_waits (T : Txt K mg) : CalM P w K mg base "Last" "waits" ["self"] 1 (spWaits K .last) := by
  refine ⟨fn_mk T.M_Last_waits sc_Last_waits bd_Last_waits (spOf_len fun _ => rfl) (fun cdv A outer s H vs Q E hr h => ?_), T.c_Last, T.m_Last_waits⟩
  obtain ⟨⟨m, q⟩, rfl, ⟨dx, hm⟩, k⟩ := h
  refine ⟨_, (pss_one (ps_ret (pe_fld (pv 0) (by rfl)))), ?_⟩
  exact ⟨_, rfl, m, _, dx, _, nV q, rfl, hm, T.c_Last, T.n_Last_q, rfl, k _ _ ⟨rfl, rfl⟩⟩
theorem ok_First_waits (T : Txt K mg) : CalM P w K mg base "First" "waits" ["self"] 1 (spWaits K .first) := by
  refine ⟨fn_mk T.M_First_waits sc_Member_waits bd_Member_waits (spOf_len fun _ => rfl) (fun cdv A outer s H vs Q E hr h => ?_), T.c_First, T.m_First_waits⟩
  obtain ⟨⟨m, q⟩, rfl, ⟨dx, hm⟩, k⟩ := h
  refine ⟨_, (pss_one (ps_ret pe_int)), ?_⟩
  exact k _ _ ⟨rfl, rfl⟩
theorem ok_Limit_waits (T : Txt K mg) : CalM P w K mg base "Limit" "waits" ["self"] 1 (spWaits K .limit) := by
  refine ⟨fn_mk T.M_Limit_waits sc_Member_waits bd_Member_waits (spOf_len fun _ => rfl) (fun cdv A outer s H vs Q E hr h => ?_), T.c_Limit, T.m_Limit_waits⟩
  obtain ⟨⟨m, q⟩, rfl, ⟨dx, hm⟩, k⟩ := h
  refine ⟨_, (pss_one (ps_ret pe_int)), ?_⟩
  exact k _ _ ⟨rfl, rfl⟩
/-! class_name -/
def spName (K : PySem.W.Frag) (k : Mir.Kd) : Sp := spOf (fun a : Addr => [.ref a]) (fun _ _ => True) (fun _ H r H' => r = .str (kS k) ∧ H' = H)
theorem ok_Last_class_name (T : Txt K mg) : CalM P w K mg base "Last" "class_name" ["self"] 1 (spName K .last) := by
  refine ⟨fn_mk T.M_Last_class_name sc_Last_class_name bd_Last_class_name (spOf_len fun _ => rfl) (fun cdv A outer s H vs Q E hr h => ?_), T.c_Last, T.m_Last_class_name⟩
  obtain ⟨m, rfl, _, k⟩ := h
  refine ⟨_, (pss_one (ps_ret pe_str)), ?_⟩
  exact k _ _ ⟨rfl, rfl⟩
theorem ok_First_class_name (T : Txt K mg) : CalM P w K mg base "First" "class_name" ["self"] 1 (spName K .first) := by
  refine ⟨fn_mk T.M_First_class_name sc_First_class_name bd_First_class_name (spOf_len fun _ => rfl) (fun cdv A outer s H vs Q E hr h => ?_), T.c_First, T.m_First_class_name⟩
  obtain ⟨m, rfl, _, k⟩ := h
  refine ⟨_, (pss_one (ps_ret pe_str)), ?_⟩
  exact k _ _ ⟨rfl, rfl⟩
theorem ok_Limit_class_name (T : Txt K mg) : CalM P w K mg base "Limit" "class_name" ["self"] 1 (spName K .limit) := by
  refine ⟨fn_mk T.M_Limit_class_name sc_Limit_class_name bd_Limit_class_name (spOf_len fun _ => rfl) (fun cdv A outer s H vs Q E hr h => ?_), T.c_Limit, T.m_Limit_class_name⟩
  obtain ⟨m, rfl, _, k⟩ := h
  refine ⟨_, (pss_one (ps_ret pe_str)), ?_⟩
  exact k _ _ ⟨rfl, rfl⟩
/-! kept -/
def spKept (K : PySem.W.Frag) (k : Mir.Kd) : Sp := spOf (fun a : Addr × Nat × Addr × Int × List Nat => [.ref a.1, .ref a.2.2.1])
  (fun a H => MemAt K H a.1 (k, a.2.1) ∧ SqL K H a.2.2.1 (a.2.2.2.2.map (tV a.2.2.2.1)) ∧ a.2.2.2.2.length ≤ 1000)
  (fun a H r H' => ∃ p, r = .ref p ∧ H p = none ∧ Same H H' ∧ H' p = some (.lst ((Mir.kept k a.2.1 a.2.2.2.2).map nV)))
theorem ok_Last_kept (T : Txt K mg) : CalM P w K mg base "Last" "kept" ["self", "stream"] 1 (spKept K .last) := by
  refine ⟨fn_mk T.M_Last_kept sc_Last_kept bd_Last_kept (spOf_len fun _ => rfl) (fun cdv A outer s H vs Q E hr h => ?_), T.c_Last, T.m_Last_kept⟩
  obtain ⟨⟨m, q, a, b, L⟩, rfl, ⟨hm, hs, hl⟩, k⟩ := h
  dsimp only at hm hs hl k
  refine ⟨_, (pss_cons (ps_set (i := 2) sc_Last_kept.nd rfl (.inr rfl) (pe_callB call_len_seq rfl T.z_len (by decide +kernel) (pa_cons (pv 1) pa_nil))) (pss_one (ps_ret (pe_lc (own := [("at", 3)]) (by rfl) sc_Last_kept.nd (pi_range1 rfl T.z_range (pa_cons (pv 2) pa_nil)) (blkOk_by (own := [("at", 3)]) (N := ["self", "stream", "count", "at"]) (sc := defScope s_Last_kept) (by decide +kernel)) (fun _ _ _ _ _ => (pg_name (i := 3) sc_Last_kept.nd rfl (Or.inl rfl))) (fun _ _ _ _ _ => (pts_one (PW.pt (pw_or (pt_cmpR op_eq (pe_op op_add (pv 3) pe_int) (pv 2) (nomark _)) (pw_or1 (pt_cmpR op_ge (pe_op op_sub (pe_ix (ix_listK (K := K) rfl) (pv 1) (pe_op op_add (pv 3) pe_int) (fun _ _ => rfl)) (pe_ix (ix_listK (K := K) rfl) (pv 1) (pv 3) (fun _ _ => rfl))) (pe_fldK (K := K) rfl (pv 0) (by rfl)) (nomark _))))))) (fun _ _ _ _ _ => (pv 3)))))), ?_⟩
  refine ⟨_, rfl, a, _, rfl, .inl hs, ?_⟩
  rw [List.length_map]
  refine ⟨_, rfl, (L.length : Int), rfl, by omega, by omega, fun D nD => lc_it (walk_range (lo := 0) (n := L.length))
    (fun i H2 => Same H H2 ∧ H2 D = some (.lst (((List.range i).filter fun i => i + 1 == L.length || decide (L.getD i 0 + q ≤ L.getD (i + 1) 0)).map nV)))
    ⟨same_upd1 nD, upd_same⟩ (fun _ _ _ _ => trivial) ?_ ?_⟩
  · rintro i x H2 H3 hi ⟨s2, eD⟩ ⟨rfl, rfl⟩
    refine ⟨rfl, ⟨_, rfl, _, _, rfl, rfl, _, rfl, rfl, _, rfl, ?_⟩⟩
    have hlen := len_filter (fun i => i + 1 == L.length || decide (L.getD i 0 + q ≤ L.getD (i + 1) 0)) i
    by_cases e : i + 1 = L.length
    · rw [decide_eq_true (show V.int (0 + (i : Int) + 1) = V.int (L.length : Int) from congrArg V.int (by omega))]
      refine iteT (iteT ⟨_, rfl, _, eD, len_ok (by rw [List.length_map]; omega), same_up s2 nD, ?_⟩)
      rw [upd_same, fil_t (by simp [e])]
    · rw [decide_eq_false (show ¬ V.int (0 + (i : Int) + 1) = V.int (L.length : Int) from fun z => by injection z with z; omega)]
      have h1 : i + 1 < L.length := by omega
      obtain ⟨dx, hm2⟩ := hm.same s2
      refine iteF ⟨_, rfl, _, rfl, _, _, rfl, rfl, a, _, _, _, rfl, rfl, s2.seq hs, at_map (i := i + 1) (by omega) (get_of_lt h1), _, rfl, _, rfl, a, _, _, _, rfl, rfl, s2.seq hs, at_map (i := i) (by omega) (get_of_lt hi), _, _, rfl, rfl, _, rfl, m, _, dx, _, nV q, rfl, hm2, T.c_Last, T.n_Last_q, rfl, _, _, rfl, rfl, _, rfl, ?_⟩
      refine ite2 (fun hc => ?_) (fun hc => ?_)
      · rw [decide_eq_true_eq] at hc
        refine ⟨_, rfl, _, eD, len_ok (by rw [List.length_map]; omega), same_up s2 nD, ?_⟩
        rw [upd_same, fil_t]
        rw [Bool.or_eq_true]
        exact .inr (decide_eq_true (by omega))
      · rw [decide_eq_true_eq] at hc
        refine ⟨s2, ?_⟩
        rw [eD, fil_f]
        rw [Bool.or_eq_false_iff]
        exact ⟨beq_eq_false_iff_ne.mpr e, decide_eq_false (by omega)⟩
  · rintro H2 ⟨s2, eD⟩
    exact k _ _ ⟨D, rfl, nD, s2, eD⟩
theorem ok_First_kept (T : Txt K mg) : CalM P w K mg base "First" "kept" ["self", "stream"] 1 (spKept K .first) := by
  refine ⟨fn_mk T.M_First_kept sc_First_kept bd_First_kept (spOf_len fun _ => rfl) (fun cdv A outer s H vs Q E hr h => ?_), T.c_First, T.m_First_kept⟩
  obtain ⟨⟨m, q, a, b, L⟩, rfl, ⟨hm, hs, hl⟩, k⟩ := h
  dsimp only at hm hs hl k
  refine ⟨_, (pss_one (ps_ret (pe_lc (own := [("at", 2)]) (by rfl) sc_First_kept.nd (pi_range1 rfl T.z_range (pa_cons (pe_callB call_len_seq rfl T.z_len (by decide +kernel) (pa_cons (pv 1) pa_nil)) pa_nil)) (blkOk_by (own := [("at", 2)]) (N := ["self", "stream", "at"]) (sc := defScope s_First_kept) (by decide +kernel)) (fun _ _ _ _ _ => (pg_name (i := 2) sc_First_kept.nd rfl (Or.inl rfl))) (fun _ _ _ _ _ => (pts_one (PW.pt (pw_or (pt_cmpR op_eq (pv 2) pe_int (nomark _)) (pw_or1 (pt_cmpR op_ge (pe_op op_sub (pe_ix (ix_listK (K := K) rfl) (pv 1) (pv 2) (fun _ _ => rfl)) (pe_ix (ix_listK (K := K) rfl) (pv 1) (pe_op op_sub (pv 2) pe_int) (fun _ _ => rfl))) (pe_fldK (K := K) rfl (pv 0) (by rfl)) (nomark _))))))) (fun _ _ _ _ _ => (pv 2))))), ?_⟩
  refine ⟨_, rfl, a, _, rfl, .inl hs, ?_⟩
  rw [List.length_map]
  refine ⟨(L.length : Int), rfl, by omega, by omega, fun D nD => lc_it (walk_range (lo := 0) (n := L.length))
    (fun i H2 => Same H H2 ∧ H2 D = some (.lst (((List.range i).filter fun i => i == 0 || decide (L.getD (i - 1) 0 + q ≤ L.getD i 0)).map nV)))
    ⟨same_upd1 nD, upd_same⟩ (fun _ _ _ _ => trivial) ?_ ?_⟩
  · rintro i x H2 H3 hi ⟨s2, eD⟩ ⟨rfl, rfl⟩
    refine ⟨rfl, ⟨_, rfl, rfl, _, rfl, ?_⟩⟩
    have hlen := len_filter (fun i => i == 0 || decide (L.getD (i - 1) 0 + q ≤ L.getD i 0)) i
    by_cases e : i = 0
    · rw [decide_eq_true (show V.int (0 + (i : Int)) = V.int 0 from congrArg V.int (by omega))]
      refine iteT (iteT ⟨_, rfl, _, eD, len_ok (by rw [List.length_map]; omega), same_up s2 nD, ?_⟩)
      rw [upd_same, fil_t (by simp [e])]
    · rw [decide_eq_false (show ¬ V.int (0 + (i : Int)) = V.int 0 from fun z => by injection z with z; omega)]
      have h1 : i - 1 < L.length := by omega
      obtain ⟨dx, hm2⟩ := hm.same s2
      refine iteF ⟨_, rfl, _, rfl, a, _, _, _, rfl, rfl, s2.seq hs, at_map (i := i) (by omega) (get_of_lt hi), _, rfl, _, rfl, _, _, rfl, rfl, a, _, _, _, rfl, rfl, s2.seq hs, at_map (i := i - 1) (by omega) (get_of_lt h1), _, _, rfl, rfl, _, rfl, m, _, dx, _, nV q, rfl, hm2, T.c_First, T.n_First_q, rfl, _, _, rfl, rfl, _, rfl, ?_⟩
      refine ite2 (fun hc => ?_) (fun hc => ?_)
      · rw [decide_eq_true_eq] at hc
        refine ⟨_, rfl, _, eD, len_ok (by rw [List.length_map]; omega), same_up s2 nD, ?_⟩
        rw [upd_same, fil_t]
        rw [Bool.or_eq_true]
        exact .inr (decide_eq_true (by omega))
      · rw [decide_eq_true_eq] at hc
        refine ⟨s2, ?_⟩
        rw [eD, fil_f]
        rw [Bool.or_eq_false_iff]
        exact ⟨beq_eq_false_iff_ne.mpr e, decide_eq_false (by omega)⟩
  · rintro H2 ⟨s2, eD⟩
    exact k _ _ ⟨D, rfl, nD, s2, eD⟩
end
end Qr
set_option maxHeartbeats 4000000
namespace Qr
open PySem PySem.Spec PyProof.Rows L2
section
variable {P : Program} {w : World} {K : PySem.W.Frag} {mg : Str → Option Value} {base : Heap}
/-! Limit.kept -/
def LimInv (H : Hp) (m a f : Addr) (q : Nat) (L : List Nat) (i : Nat) (σ : L2.St) (H2 : Hp) : Prop :=
  ∃ (acc : List Nat) (l : Option Nat) (y3 y4 : Option V), σ = [some (.ref m), some (.ref a), some (.ref f), y3, y4] ∧ Same H H2 ∧ H2 f = some (.lst (acc.map nV)) ∧ acc.length ≤ i ∧
    acc ++ Mir.kLimitGo q (L.drop i) i l = Mir.kLimit q L ∧ (l = none → acc = []) ∧ (∀ t, l = some t → ∃ acc' j, acc = acc' ++ [j] ∧ L[j]? = some t)
theorem ok_Limit_kept (T : Txt K mg) : CalM P w K mg base "Limit" "kept" ["self", "stream"] 1 (spKept K .limit) := by
  refine ⟨fn_mk T.M_Limit_kept sc_Limit_kept bd_Limit_kept (spOf_len fun _ => rfl) (fun cdv A outer s H vs Q E hr h => ?_), T.c_Limit, T.m_Limit_kept⟩
  obtain ⟨⟨m, q, a, b, L⟩, rfl, ⟨hm, hs, hl⟩, k⟩ := h
  dsimp only at hm hs hl k
  refine ⟨_, (pss_cons (ps_set (i := 2) sc_Limit_kept.nd rfl (.inl rfl) (pe_lst pa_nil)) (pss_cons (ps_for PassesOwn.never rfl (pi_enum rfl T.z_enumerate (pa_cons (pv 1) pa_nil)) (pg_tup rfl (pgs_cons (pg_name (i := 3) sc_Limit_kept.nd rfl (.inl rfl)) (pgs_cons (pg_name (i := 4) sc_Limit_kept.nd rfl (.inl rfl)) pgs_nil))) (pss_one (ps_if (PW.pt (pw_or (pt_cmpR (op_eqD hr.units) (pv 2) (pe_lst pa_nil) (nomark _)) (pw_or1 (pt_cmpR op_ge (pe_op op_sub (pv 4) (pe_ix ix_list (pv 1) (pe_ix ix_list (pv 2) (pe_un un_neg pe_int) (fun _ _ => rfl)) (fun _ _ => rfl))) (pe_fld (pv 0) (by rfl)) (nomark _))))) (pss_one (ps_expr (pe_bm PySem.F.plainAttrs_list PySem.F.slot_list_append PySem.F.type_list_append mt_append (pv 2) (pa_cons (pv 3) pa_nil)))) pss_nil))) (pss_one (ps_ret (pv 2))))), ?_⟩
  refine ⟨Nat.zero_le _, fun f nf => ?_⟩
  have s1 : Same H (upd H f (.lst [])) := same_upd1 nf
  refine ⟨_, rfl, a, _, rfl, s1.seq hs, for_it (walk_enum (xs := L.map (tV b))) (LimInv H m a f q L)
    ⟨[], none, none, none, rfl, s1, upd_same, Nat.le_refl _, rfl, fun _ => rfl, fun _ z => nomatch z⟩ (fun i σ H2 _ ⟨_, _, _, _, _, s, _⟩ => s.seq hs) ?_ ?_⟩
  · rintro i x σ H2 H3 hi ⟨acc, l, y3, y4, rfl, s2, ef, la, em, ln, lj⟩ ⟨T1, x1, x2, rfl, n1, rfl, e1, e2⟩
    obtain rfl := Option.some.inj e1
    obtain ⟨t, ht, rfl⟩ := get_map e2
    have li : i < L.length := lt_of_get ht
    have s3 := same_new (u := .tup [V.int (i : Nat), tV b t]) s2 n1
    have ef3 := up_old (u := .tup [V.int (i : Nat), tV b t]) ef n1
    have dr : L.drop i = t :: L.drop (i + 1) := by
      rw [List.drop_eq_getElem_cons li]
      congr 1
      exact Option.some.inj ((List.getElem?_eq_getElem li).symm.trans ht)
    rw [dr] at em
    refine ⟨T1, _, rfl, SqT.of upd_same, rfl, _, _, rfl, _, _, rfl, rfl, ?_⟩
    refine ⟨_, rfl, Nat.zero_le _, fun e ne => ?_⟩
    have s4 := same_new (u := .lst []) s3 ne
    have ef4 := up_old (u := .lst []) ef3 ne
    refine rd_eqL (ns := acc) (ms := []) (SqL.of ef4) (SqL.of upd_same) ⟨_, rfl, ?_⟩
    have hz : (acc.map nV).length < sizeLine := len_ok (by rw [List.length_map]; omega)
    -- what an append leaves
    have app : (acc ++ [i]) ++ Mir.kLimitGo q (L.drop (i + 1)) (i + 1) (some t) = Mir.kLimit q L →
        LimInv H m a f q L (i + 1) [some (.ref m), some (.ref a), some (.ref f), some (.int (i : Nat)), some (tV b t)] (upd (upd (upd H2 T1 (.tup [V.int (i : Nat), tV b t])) e (.lst [])) f (.lst (acc.map nV ++ [V.int (i : Nat)]))) := fun e2 => by
      refine ⟨acc ++ [i], some t, _, _, rfl, same_up s4 nf, ?_, by rw [List.length_append]; simp; omega, e2, (fun z => by cases z), fun t2 z => ⟨acc, i, rfl, by rw [← Option.some.inj z]; exact ht⟩⟩
      rw [upd_same, List.map_append]
      rfl
    cases l with
    | none =>
      have ea := ln rfl
      rw [decide_eq_true ea]
      refine iteT (iteT ⟨_, rfl, .inl ⟨rfl, _, SqL.of ef4⟩, _, rfl, f, _, _, rfl, rfl, ef4, hz, app ?_⟩)
      rw [← em, ea]
      rfl
    | some t0 =>
      obtain ⟨acc', j, ea, hj⟩ := lj t0 rfl
      rw [decide_eq_false (by rw [ea]; simp)]
      obtain ⟨dx, hm2⟩ := hm.same s4
      refine iteF ⟨_, rfl, _, rfl, _, rfl, _, rfl, f, _, _, _, rfl, rfl, SqL.of ef4, (by rw [ea, List.map_append]; exact atI_last _ (nV j)), a, _, _, _, rfl, rfl, s4.seq hs, at_map (i := j) rfl hj, _, _, rfl, rfl, _, rfl, m, _, dx, _, nV q, rfl, hm2, T.c_Limit, T.n_Limit_q, rfl, _, _, rfl, rfl, _, rfl, ?_⟩
      have em : acc ++ (if t0 + q ≤ t then i :: Mir.kLimitGo q (L.drop (i + 1)) (i + 1) (some t) else Mir.kLimitGo q (L.drop (i + 1)) (i + 1) (some t0)) = Mir.kLimit q L := em
      refine ite2 (fun hc => ?_) (fun hc => ?_)
      · rw [decide_eq_true_eq] at hc
        rw [if_pos (by omega)] at em
        refine ⟨_, rfl, .inl ⟨rfl, _, SqL.of ef4⟩, _, rfl, f, _, _, rfl, rfl, ef4, hz, app ?_⟩
        rw [← em, List.append_assoc]
        rfl
      · rw [decide_eq_true_eq] at hc
        rw [if_neg (by omega)] at em
        exact ⟨acc, some t0, _, _, rfl, s4, ef4, by omega, em, (fun z => by cases z), lj⟩
  · rintro σ H2 ⟨acc, l, y3, y4, rfl, s2, ef, la, em, _, _⟩
    refine ⟨_, rfl, k _ _ ⟨f, rfl, nf, s2, ?_⟩⟩
    rw [List.length_map, List.drop_length] at em
    have e3 : acc = Mir.kLimit q L := by
      rw [← em]
      cases l <;> exact (List.append_nil _).symm
    rw [ef, e3]
    rfl
end
end Qr
set_option maxHeartbeats 4000000
namespace Qr
open PySem PySem.Spec PyProof.Rows L2
section
variable {P : Program} {w : World} {K : PySem.W.Frag} {mg : Str → Option Value} {base : Heap}
/-! members as values -/
theorem tyM (T : Txt K mg) {H : Hp} {m : Addr} {r : Mir.Kd × Nat} (h : MemAt K H m r) : TyX K H (.ref m) (.ref (He.ga K (kC r.1))) := by
  obtain ⟨k, q⟩ := r
  obtain ⟨dx, e⟩ := h
  cases k with
  | last => exact .base (.ins e T.c_Last T.x3 T.x1 T.x2 T.x4)
  | first => exact .base (.ins e T.c_First T.x8 T.x1 T.x2 T.x9)
  | limit => exact .base (.ins e T.c_Limit T.x13 T.x1 T.x2 T.x14)
theorem kitM (T : Txt K mg) (k : Mir.Kd) : PySem.W.kitAny K (.ref (He.ga K (kC k))) [.ref (He.ga K "Last"), .ref (He.ga K "First"), .ref (He.ga K "Limit"), .ref (He.ga K "Delay")] = some true := by
  cases k with
  | last => exact T.x5
  | first => exact T.x10
  | limit => exact T.x15
theorem kitL (T : Txt K mg) (k : Mir.Kd) : PySem.W.kitOne K (.ref (He.ga K (kC k))) (.ref (He.ga K "Last")) = some (decide (k = .last)) := by
  cases k with
  | last => exact T.x6
  | first => exact T.x11
  | limit => exact T.x16
theorem kitD (T : Txt K mg) (k : Mir.Kd) : PySem.W.kitOne K (.ref (He.ga K (kC k))) (.ref (He.ga K "Delay")) = some false := by
  cases k with
  | last => exact T.x7
  | first => exact T.x12
  | limit => exact T.x17
/-! is_member -/
def spIsMem (K : PySem.W.Frag) : Sp := spOf (fun a : Addr × (Mir.Kd × Nat) => [.ref a.1]) (fun a H => MemAt K H a.1 a.2) (fun _ H r H' => r = .bl true ∧ Same H H')
theorem ok_is_member (T : Txt K mg) : Cal P w K mg base "is_member" ["thing"] 1 (spIsMem K) := by
  refine ⟨fn_mk T.F_is_member sc_is_member bd_is_member (spOf_len fun _ => rfl) (fun cdv A outer s H vs Q E hr h => ?_), T.F_is_member.elim fun _ F => F.kp, T.g_is_member⟩
  obtain ⟨⟨m, r⟩, rfl, hm, k⟩ := h
  refine ⟨_, (pss_one (ps_ret (pe_callB call_isiT rfl T.z_isinstance (by decide +kernel) (pa_cons (pv 0) (pa_cons (pe_tup (pa_cons (pe_glob (v := .ref (He.ga K "Last")) rfl T.g_Last rfl) (pa_cons (pe_glob (v := .ref (He.ga K "First")) rfl T.g_First rfl) (pa_cons (pe_glob (v := .ref (He.ga K "Limit")) rfl T.g_Limit rfl) (pa_cons (pe_glob (v := .ref (He.ga K "Delay")) rfl T.g_Delay rfl) pa_nil))))) pa_nil))))), ?_⟩
  refine ⟨_, rfl, len_ok' (by show 4 ≤ 1000; decide), fun t nt => ?_⟩
  have s1 : Same H (upd H t (.tup [.ref (He.ga K "Last"), .ref (He.ga K "First"), .ref (He.ga K "Limit"), .ref (He.ga K "Delay")])) := same_upd1 nt
  exact ⟨.ref m, t, _, _, _, true, rfl, upd_same, .cons (.own _) (.cons (.own _) (.cons (.own _) (.cons (.own _) .nil))), tyM T (MemAt.same hm s1), kitM T r.1, k _ _ ⟨rfl, s1⟩⟩
/-! member_of -/
theorem same_made {H H1 : Hp} {x dx : Addr} {C : Addr} {fs gs : List (Str × V)} (s : Same H H1) (nx : H1 x = none) (nd : H1 dx = none) : Same H (upd (upd (upd H1 dx (.own x)) x (.ins C dx fs)) x (.ins C dx gs)) :=
  same_up (same_up (same_up s (s.free nd)) (s.free nx)) (s.free nx)
def spMemOf (K : PySem.W.Frag) : Sp := spOf (fun a : Mir.Kd × Nat => [.str (kS a.1), nV a.2]) (fun a _ => 1 ≤ a.2) (fun a H r H' => ∃ m, r = .ref m ∧ H m = none ∧ Same H H' ∧ MemAt K H' m a)
theorem ok_member_of (T : Txt K mg) : Cal P w K mg base "member_of" ["kind", "quiet"] 4 (spMemOf K) := by
  have G_Last_init := ok_Last_init (P := P) (w := w) (base := base) T
  have G_First_init := ok_First_init (P := P) (w := w) (base := base) T
  have G_Limit_init := ok_Limit_init (P := P) (w := w) (base := base) T
  obtain ⟨_, hLAST⟩ := T.t_LAST
  obtain ⟨_, hFIRST⟩ := T.t_FIRST
  refine ⟨fn_mk T.F_member_of sc_member_of bd_member_of (spOf_len fun _ => rfl) (fun cdv A outer s H vs Q E hr h => ?_), T.F_member_of.elim fun _ F => F.kp, T.g_member_of⟩
  obtain ⟨⟨kd, q⟩, rfl, hq, k⟩ := h
  refine ⟨_, (pss_cons (ps_if (pt_cmpR op_eq (pv 0) (pe_glob (v := .str "last") rfl hLAST ⟨_, rfl⟩) (nomark _)) (pss_one (ps_ret (pe_ci G_Last_init (hr.mono (by omega)) rfl (pa_cons (pv 1) pa_nil)))) pss_nil) (pss_one (ps_ret (pe_ifExp (pt_cmpR op_eq (pv 0) (pe_glob (v := .str "first") rfl hFIRST ⟨_, rfl⟩) (nomark _)) (pe_ci G_First_init (hr.mono (by omega)) rfl (pa_cons (pv 1) pa_nil)) (pe_ci G_Limit_init (hr.mono (by omega)) rfl (pa_cons (pv 1) pa_nil)))))), ?_⟩
  have fin : ∀ (x dx : Addr), H x = none → H dx = none → Q (.ref x) (upd (upd (upd H dx (.own x)) x (.ins (He.ga K (kC kd)) dx [])) x (.ins (He.ga K (kC kd)) dx [("q", nV q)])) := fun x dx nx nd =>
    k _ _ ⟨x, rfl, nx, same_made (Same.refl H) nx nd, dx, upd_same⟩
  cases kd with
  | last =>
    refine ⟨_, rfl, rfl, _, rfl, ?_⟩
    rw [decide_eq_true (show V.str (kS .last) = V.str "last" from rfl)]
    refine iteT ⟨_, rfl, fun x dx nx nd ne => ⟨(x, dx, q), rfl, ⟨upd_same, hq⟩, ?_⟩⟩
    rintro r H' ⟨rfl, rfl⟩
    exact ⟨rfl, fin x dx nx nd⟩
  | first =>
    refine ⟨_, rfl, rfl, _, rfl, ?_⟩
    rw [decide_eq_false (show ¬ V.str (kS .first) = V.str "last" by decide +kernel)]
    refine iteF ⟨_, rfl, rfl, _, rfl, ?_⟩
    rw [decide_eq_true (show V.str (kS .first) = V.str "first" from rfl)]
    refine iteT ⟨_, rfl, fun x dx nx nd ne => ⟨(x, dx, q), rfl, ⟨upd_same, hq⟩, ?_⟩⟩
    rintro r H' ⟨rfl, rfl⟩
    exact ⟨rfl, fin x dx nx nd⟩
  | limit =>
    refine ⟨_, rfl, rfl, _, rfl, ?_⟩
    rw [decide_eq_false (show ¬ V.str (kS .limit) = V.str "last" by decide +kernel)]
    refine iteF ⟨_, rfl, rfl, _, rfl, ?_⟩
    rw [decide_eq_false (show ¬ V.str (kS .limit) = V.str "first" by decide +kernel)]
    refine iteF ⟨_, rfl, fun x dx nx nd ne => ⟨(x, dx, q), rfl, ⟨upd_same, hq⟩, ?_⟩⟩
    rintro r H' ⟨rfl, rfl⟩
    exact ⟨rfl, fin x dx nx nd⟩
/-! speakers -/
def spSpk (K : PySem.W.Frag) : Sp := spOf (fun a : Addr × (Mir.Kd × Nat) × Nat × Addr × List Nat × List Nat => [.ref a.1, nV a.2.2.1, .ref a.2.2.2.1])
  (fun a H => MemAt K H a.1 a.2.1 ∧ SqL K H a.2.2.2.1 (a.2.2.2.2.1.map nV) ∧ a.2.2.1 ≤ 1000 ∧ Mir.spkGo a.2.1.1 a.2.2.2.2.1 a.2.2.1 0 0 = some a.2.2.2.2.2)
  (fun a H r H' => ∃ p, r = .ref p ∧ H p = none ∧ Same H H' ∧ H' p = some (.lst (a.2.2.2.2.2.map nV)))
def SpkInv (H : Hp) (m kp f : Addr) (k : Mir.Kd) (n : Nat) (kps pls : List Nat) (i : Nat) (σ : L2.St) (H2 : Hp) : Prop :=
  ∃ (acc : List Nat) (pl : Nat) (y5 : Option V), σ = [some (.ref m), some (nV n), some (.ref kp), some (.ref f), some (nV pl), y5] ∧ Same H H2 ∧ H2 f = some (.lst (acc.map nV)) ∧ acc.length = i ∧
    (Mir.spkGo k kps (n - i) i pl).map (acc ++ ·) = some pls
theorem ok_speakers (T : Txt K mg) : Cal P w K mg base "speakers" ["member", "amount", "kept"] 1 (spSpk K) := by
  refine ⟨fn_mk T.F_speakers sc_speakers bd_speakers (spOf_len fun _ => rfl) (fun cdv A outer s H vs Q E hr h => ?_), T.F_speakers.elim fun _ F => F.kp, T.g_speakers⟩
  obtain ⟨⟨m, ⟨kd, q⟩, n, kp, kps, pls⟩, rfl, ⟨hm, hk, hn, hp⟩, k⟩ := h
  dsimp only at hm hk hn hp k
  refine ⟨_, (pss_cons (ps_par (i := 3) (j := 4) rfl sc_speakers.nd rfl rfl (by decide) rfl rfl (pa_cons (pe_lst pa_nil) (pa_cons pe_int pa_nil)) rfl) (pss_cons (ps_for PassesOwn.never rfl (pi_range1 rfl T.z_range (pa_cons (pv 1) pa_nil)) (pg_name (i := 5) sc_speakers.nd rfl (.inl rfl)) (pss_cons (ps_if (pt_val (pe_callB call_isi rfl T.z_isinstance (by decide +kernel) (pa_cons (pv 0) (pa_cons (pe_glob (v := .ref (He.ga K "Last")) rfl T.g_Last rfl) pa_nil)))) (pss_one (ps_set (i := 4) sc_speakers.nd rfl (.inl rfl) (pe_op op_add (pv 4) (pe_callTy call_int1 rfl T.z_int (by decide +kernel) (pa_cons (pe_cmpR op_gt (pv 5) (pe_ix ix_list (pv 2) (pv 4) (fun _ _ => rfl)) (nomark _)) pa_nil))))) (pss_one (ps_if (PW.pt (pw_and (pt_cmpR op_lt (pe_op op_add (pv 4) pe_int) (pe_callB call_len_seq rfl T.z_len (by decide +kernel) (pa_cons (pv 2) pa_nil)) (nomark _)) (pw_and1 (pt_cmpR op_le (pe_ix ix_list (pv 2) (pe_op op_add (pv 4) pe_int) (fun _ _ => rfl)) (pv 5) (nomark _))))) (pss_one (ps_set (i := 4) sc_speakers.nd rfl (.inl rfl) (pe_op op_add (pv 4) pe_int))) pss_nil))) (pss_one (ps_expr (pe_bm PySem.F.plainAttrs_list PySem.F.slot_list_append PySem.F.type_list_append mt_append (pv 3) (pa_cons (pv 4) pa_nil)))))) (pss_one (ps_ret (pv 3))))), ?_⟩
  refine ⟨Nat.zero_le _, fun f nf => ⟨_, _, rfl, ?_⟩⟩
  have s1 : Same H (upd H f (.lst [])) := same_upd1 nf
  refine ⟨_, rfl, (n : Int), rfl, by omega, by omega, for_it (walk_range (lo := 0) (n := n)) (SpkInv H m kp f kd n kps pls)
    ⟨[], 0, none, rfl, s1, upd_same, rfl, by rw [Nat.sub_zero, hp]; rfl⟩ (fun _ _ _ _ _ => trivial) ?_ ?_⟩
  · rintro i x σ H2 H3 hi ⟨acc, pl, y5, rfl, s2, ef, la, em⟩ ⟨rfl, rfl⟩
    obtain ⟨j, ej⟩ : ∃ j, n - i = j + 1 := ⟨n - i - 1, by omega⟩
    have ej2 : n - (i + 1) = j := by omega
    rw [ej] at em
    have hz : (acc.map nV).length < sizeLine := len_ok (by rw [List.length_map]; omega)
    -- an append of pl'
    have app : ∀ (pl' : Nat), ((Mir.spkGo kd kps j (i + 1) pl').map (pl' :: ·)).map (acc ++ ·) = some pls →
        SpkInv H m kp f kd n kps pls (i + 1) [some (.ref m), some (nV n), some (.ref kp), some (.ref f), some (nV pl'), some (.int (0 + (i : Int)))] (upd H3 f (.lst (acc.map nV ++ [nV pl']))) := fun pl' e2 => by
      refine ⟨acc ++ [pl'], pl', _, rfl, same_up s2 nf, ?_, by rw [List.length_append, la]; rfl, ?_⟩
      · rw [upd_same, List.map_append]
        rfl
      · rw [ej2, ← e2]
        cases Mir.spkGo kd kps j (i + 1) pl' with
        | none => rfl
        | some z => simp
    refine ⟨_, rfl, .ref m, _, _, _, _, rfl, .own _, tyM T (MemAt.same hm s2), kitL T kd, _, rfl, ?_⟩
    cases kd with
    | last =>
      have em : ((if pl < kps.length then (Mir.spkGo .last kps j (i + 1) (pl + (if kps.getD pl 0 < i then 1 else 0))).map ((pl + (if kps.getD pl 0 < i then 1 else 0)) :: ·) else none).map (acc ++ ·)) = some pls := em
      by_cases hl : pl < kps.length
      · rw [if_pos hl] at em
        refine iteT ⟨_, rfl, _, rfl, _, rfl, _, rfl, kp, _, _, _, rfl, rfl, s2.seq hk, at_map (i := pl) rfl (get_of_lt hl), _, _, rfl, rfl, .inr ⟨_, rfl, ?_⟩⟩
        refine ⟨_, _, rfl, rfl, ?_⟩
        have e3 : V.int ((pl : Int) + (if decide ((kps.getD pl 0 : Int) < 0 + (i : Int)) = true then 1 else 0)) = nV (pl + (if kps.getD pl 0 < i then 1 else 0)) := by
          by_cases z : kps.getD pl 0 < i
          · rw [if_pos (decide_eq_true (by omega)), if_pos z]
            rfl
          · rw [if_neg (by rw [decide_eq_true_eq]; omega), if_neg z]
            simp
        dsimp only
        rw [e3]
        exact ⟨_, rfl, .inl ⟨rfl, _, SqL.of ef⟩, _, rfl, f, _, _, rfl, rfl, ef, hz, app _ em⟩
      · rw [if_neg hl] at em
        cases em
    | first =>
      have em : ((Mir.spkGo .first kps j (i + 1) (if pl + 1 < kps.length ∧ kps.getD (pl + 1) 0 ≤ i then pl + 1 else pl)).map ((if pl + 1 < kps.length ∧ kps.getD (pl + 1) 0 ≤ i then pl + 1 else pl) :: ·)).map (acc ++ ·) = some pls := em
      refine iteF ?_
      refine ⟨_, rfl, _, _, rfl, rfl, _, rfl, kp, _, rfl, .inl (s2.seq hk), _, _, rfl, rfl, _, rfl, ?_⟩
      rw [List.length_map]
      refine ite2 (fun hc => ?_) (fun hc => ?_)
      · rw [decide_eq_true_eq] at hc
        have hl : pl + 1 < kps.length := by omega
        refine ⟨_, rfl, _, rfl, _, _, rfl, rfl, kp, _, _, _, rfl, rfl, s2.seq hk, at_map (i := pl + 1) (by omega) (get_of_lt hl), _, rfl, _, _, rfl, rfl, _, rfl, ?_⟩
        refine ite2 (fun hd => ?_) (fun hd => ?_)
        · rw [decide_eq_true_eq] at hd
          rw [if_pos ⟨hl, by omega⟩] at em
          exact ⟨_, rfl, _, _, rfl, rfl, _, rfl, .inl ⟨rfl, _, SqL.of ef⟩, _, rfl, f, _, _, rfl, rfl, ef, hz, app _ em⟩
        · rw [decide_eq_true_eq] at hd
          rw [if_neg (fun z => hd (by omega))] at em
          exact ⟨_, rfl, .inl ⟨rfl, _, SqL.of ef⟩, _, rfl, f, _, _, rfl, rfl, ef, hz, app _ em⟩
      · rw [decide_eq_true_eq] at hc
        rw [if_neg (fun z => hc (by omega))] at em
        exact iteF ⟨_, rfl, .inl ⟨rfl, _, SqL.of ef⟩, _, rfl, f, _, _, rfl, rfl, ef, hz, app _ em⟩
    | limit =>
      have em : ((Mir.spkGo .limit kps j (i + 1) (if pl + 1 < kps.length ∧ kps.getD (pl + 1) 0 ≤ i then pl + 1 else pl)).map ((if pl + 1 < kps.length ∧ kps.getD (pl + 1) 0 ≤ i then pl + 1 else pl) :: ·)).map (acc ++ ·) = some pls := em
      refine iteF ?_
      refine ⟨_, rfl, _, _, rfl, rfl, _, rfl, kp, _, rfl, .inl (s2.seq hk), _, _, rfl, rfl, _, rfl, ?_⟩
      rw [List.length_map]
      refine ite2 (fun hc => ?_) (fun hc => ?_)
      · rw [decide_eq_true_eq] at hc
        have hl : pl + 1 < kps.length := by omega
        refine ⟨_, rfl, _, rfl, _, _, rfl, rfl, kp, _, _, _, rfl, rfl, s2.seq hk, at_map (i := pl + 1) (by omega) (get_of_lt hl), _, rfl, _, _, rfl, rfl, _, rfl, ?_⟩
        refine ite2 (fun hd => ?_) (fun hd => ?_)
        · rw [decide_eq_true_eq] at hd
          rw [if_pos ⟨hl, by omega⟩] at em
          exact ⟨_, rfl, _, _, rfl, rfl, _, rfl, .inl ⟨rfl, _, SqL.of ef⟩, _, rfl, f, _, _, rfl, rfl, ef, hz, app _ em⟩
        · rw [decide_eq_true_eq] at hd
          rw [if_neg (fun z => hd (by omega))] at em
          exact ⟨_, rfl, .inl ⟨rfl, _, SqL.of ef⟩, _, rfl, f, _, _, rfl, rfl, ef, hz, app _ em⟩
      · rw [decide_eq_true_eq] at hc
        rw [if_neg (fun z => hc (by omega))] at em
        exact iteF ⟨_, rfl, .inl ⟨rfl, _, SqL.of ef⟩, _, rfl, f, _, _, rfl, rfl, ef, hz, app _ em⟩
  · rintro σ H2 ⟨acc, pl, y5, rfl, s2, ef, la, em⟩
    refine ⟨_, rfl, k _ _ ⟨f, rfl, nf, s2, ?_⟩⟩
    rw [Nat.sub_self] at em
    have e3 : some (acc ++ []) = some pls := by cases kd <;> exact em
    rw [ef, ← Option.some.inj e3, List.append_nil]
end
end Qr
set_option maxHeartbeats 4000000
namespace Qr
open PySem PySem.Spec PyProof.Rows L2
abbrev Rec := Mir.Kd × Nat
/-! members, rows, records -/
structure MemsAt (K : PySem.W.Frag) (H : Hp) (ms : List Addr) (rs : List Rec) : Prop where
  len : ms.length = rs.length
  at_ : ∀ (i : Nat) (m : Addr) (r : Rec), ms[i]? = some m → rs[i]? = some r → MemAt K H m r
theorem MemsAt.same {K : PySem.W.Frag} {H H' : Hp} {ms : List Addr} {rs : List Rec} (h : MemsAt K H ms rs) (s : Same H H') : MemsAt K H' ms rs := ⟨h.len, fun i m r a b => (h.at_ i m r a b).same s⟩
theorem MemsAt.get {K : PySem.W.Frag} {H : Hp} {ms : List Addr} {rs : List Rec} (h : MemsAt K H ms rs) {i : Nat} {m : Addr} (e : ms[i]? = some m) : ∃ r, rs[i]? = some r ∧ MemAt K H m r := by
  have l := lt_of_get e
  rw [h.len] at l
  exact ⟨rs[i], List.getElem?_eq_getElem l, h.at_ i m _ e (List.getElem?_eq_getElem l)⟩
def RowAt (K : PySem.W.Frag) (H : Hp) (p : Addr) (rs : List Rec) : Prop := ∃ (dx T : Addr) (ms : List Addr), H p = some (.ins (He.ga K "Row") dx [("members", .ref T)]) ∧ H T = some (.tup (ms.map V.ref)) ∧ MemsAt K H ms rs
theorem RowAt.same {K : PySem.W.Frag} {H H' : Hp} {p : Addr} {rs : List Rec} (h : RowAt K H p rs) (s : Same H H') : RowAt K H' p rs := by
  obtain ⟨dx, T, ms, h1, h2, h3⟩ := h
  exact ⟨dx, T, ms, s _ _ h1, s _ _ h2, h3.same s⟩
/-- a tuple of pairs (kind, quiet) -/
structure RecsT (H : Hp) (T : Addr) (rs : List Rec) : Prop where
  ex : ∃ as : List Addr, H T = some (.tup (as.map V.ref)) ∧ as.length = rs.length ∧ ∀ (i : Nat) (a : Addr) (r : Rec), as[i]? = some a → rs[i]? = some r → H a = some (.tup [.str (kS r.1), nV r.2])
/-- all tuples stay -/
def SameT (H H' : Hp) : Prop := ∀ b xs, H b = some (.tup xs) → H' b = some (.tup xs)
theorem sameT_of {H H' : Hp} (s : Same H H') : SameT H H' := fun b xs e => s _ _ e
theorem SameT.trans {H H1 H2 : Hp} (a : SameT H H1) (b : SameT H1 H2) : SameT H H2 := fun c xs e => b _ _ (a _ _ e)
theorem RecsT.sameT {H H' : Hp} {T : Addr} {rs : List Rec} (h : RecsT H T rs) (s : SameT H H') : RecsT H' T rs := by
  obtain ⟨as, h1, h2, h3⟩ := h.ex
  exact ⟨as, s _ _ h1, h2, fun i a r e1 e2 => s _ _ (h3 i a r e1 e2)⟩
theorem sameT_upd {H : Hp} {q : Addr} {o u : HO} (h : H q = some o) (n : ∀ xs, o ≠ .tup xs) : SameT H (upd H q u) := fun b xs e => by
  rw [upd_ne (ne_of e h (fun z => n xs z.symm))]
  exact e
section
variable {P : Program} {w : World} {K : PySem.W.Frag} {mg : Str → Option Value} {base : Heap}
/-! Row.__init__ -/
def spRow (K : PySem.W.Frag) : Sp := spOf (fun a : Addr × Addr × Addr × List Addr × List Rec => [.ref a.1, .ref a.2.2.1])
  (fun a H => H a.1 = some (.ins (He.ga K "Row") a.2.1 []) ∧ SqL K H a.2.2.1 (a.2.2.2.1.map V.ref) ∧ MemsAt K H a.2.2.2.1 a.2.2.2.2)
  (fun a H r H' => r = .non ∧ (∃ t, H' a.1 = some (.ins (He.ga K "Row") a.2.1 [("members", .ref t)]) ∧ H' t = some (.tup (a.2.2.2.1.map V.ref))) ∧ ∀ b o, H b = some o → b ≠ a.1 → H' b = some o)
theorem ok_Row_init (T : Txt K mg) : CalI P w K mg base "Row" ["self", "members"] 2 (spRow K) := by
  have G_is_member := ok_is_member (P := P) (w := w) (base := base) T
  refine ⟨fn_mk T.M_Row_init sc_Row_init bd_Row_init (spOf_len fun _ => rfl) (fun cdv A outer s H vs Q E hr h => ?_), T.k_Row, T.g_Row⟩
  obtain ⟨⟨p, dx, l, ms, rs⟩, rfl, ⟨hp, hl, hm⟩, k⟩ := h
  dsimp only at hp hl hm k
  refine ⟨_, (pss_cons (ps_if (pt_not (pt_val (pe_callB call_isiT rfl T.z_isinstance (by decide +kernel) (pa_cons (pv 1) (pa_cons (pe_tup (pa_cons (pe_bltn (v := .ty "list") rfl T.z_list (by decide +kernel) rfl) (pa_cons (pe_bltn (v := .ty "tuple") rfl T.z_tuple (by decide +kernel) rfl) pa_nil))) pa_nil))))) pss_never pss_nil) (pss_cons (ps_fld (pv 0) (pe_callTy call_tuple_of rfl T.z_tuple (by decide +kernel) (pa_cons (pv 1) pa_nil)) (by rfl)) (pss_one (ps_for PassesOwn.never rfl (pi_enumT rfl T.z_enumerate (pa_cons (pe_fld (pv 0) (by rfl)) pa_nil)) (pg_tup rfl (pgs_cons (pg_name (i := 2) sc_Row_init.nd rfl (.inl rfl)) (pgs_cons (pg_name (i := 3) sc_Row_init.nd rfl (.inl rfl)) pgs_nil))) (pss_one (ps_if (pt_not (pt_val (pe_c G_is_member (hr.mono (by omega)) rfl (pa_cons (pv 3) pa_nil)))) pss_never pss_nil)))))), ?_⟩
  refine ⟨_, rfl, len_ok' (by show 2 ≤ 1000; decide), fun t nt => ?_⟩
  have s1 : Same H (upd H t (.tup [.ty "list", .ty "tuple"])) := same_upd1 nt
  refine ⟨.ref l, t, _, .type "list", [.type "list", .type "tuple"], true, rfl, upd_same, .cons (.ty _) (.cons (.ty _) .nil), tyL (s1.seq hl), kitAny_cons (b := true) (kit_ty (by decide +kernel)) (fun z => by cases z) (fun _ => rfl), _, rfl, iteF ?_⟩
  refine ⟨_, rfl, l, _, rfl, .inl ⟨s1.seq hl, fun tt nt2 => ?_⟩⟩
  have s2 := same_new (u := .tup (ms.map V.ref)) s1 nt2
  have hp2 := s2 _ _ hp
  refine ⟨_, rfl, p, _, dx, _, rfl, hp2, T.c_Row, T.n_Row_members, (by decide), ?_⟩
  have ntp : tt ≠ p := fun z => by
    rw [z] at nt2
    rw [s1 _ _ hp] at nt2
    cases nt2
  have eT : (upd (upd (upd H t (.tup [.ty "list", .ty "tuple"])) tt (.tup (ms.map V.ref))) p (.ins (He.ga K "Row") dx [("members", .ref tt)])) tt = some (.tup (ms.map V.ref)) := by rw [upd_ne ntp, upd_same]
  have keep : ∀ b o, H b = some o → b ≠ p → (upd (upd (upd H t (.tup [.ty "list", .ty "tuple"])) tt (.tup (ms.map V.ref))) p (.ins (He.ga K "Row") dx [("members", .ref tt)])) b = some o := fun b o e n => by
    rw [upd_ne n]
    exact s2 _ _ e
  have hm2 : MemsAt K (upd (upd (upd H t (.tup [.ty "list", .ty "tuple"])) tt (.tup (ms.map V.ref))) p (.ins (He.ga K "Row") dx [("members", .ref tt)])) ms rs := ⟨hm.len, fun i m r e1 e2 => by
    obtain ⟨dm, e3⟩ := hm.at_ i m r e1 e2
    exact ⟨dm, keep _ _ e3 (ne_of e3 hp (fun z => by injection z with _ _ z; cases z))⟩⟩
  generalize hH3 : upd (upd (upd H t (.tup [.ty "list", .ty "tuple"])) tt (.tup (ms.map V.ref))) p (.ins (He.ga K "Row") dx [("members", .ref tt)]) = H3 at eT keep hm2
  have ep3 : H3 p = some (.ins (He.ga K "Row") dx [("members", .ref tt)]) := by rw [← hH3, upd_same]
  refine ⟨_, rfl, p, _, dx, _, _, rfl, upd_same, T.c_Row, T.n_Row_members, rfl, tt, _, rfl, SqT.of (by rw [upd_ne ntp, upd_same]), ?_⟩
  change upd (upd (upd H t (.tup [.ty "list", .ty "tuple"])) tt (.tup (ms.map V.ref))) p (.ins (He.ga K "Row") dx [("members", .ref tt)]) = H3 at hH3
  refine for_it (walk_enumT (K := K) (xs := ms.map V.ref)) (fun i σ H4 => ∃ y2 y3, σ = [some (.ref p), some (.ref l), y2, y3] ∧ Same H3 H4) ⟨_, _, rfl, by rw [← hH3]; exact Same.refl _⟩ (fun i σ H4 _ ⟨_, _, _, s⟩ => SqT.of (s _ _ eT)) ?_ ?_
  · rintro i x σ H4 H5 hi ⟨y2, y3, rfl, s4⟩ ⟨T1, x1, x2, rfl, n1, rfl, e1, e2⟩
    obtain rfl := Option.some.inj e1
    obtain ⟨m, em, rfl⟩ := get_map e2
    obtain ⟨r, er, hmr⟩ := hm2.get em
    have s5 := same_new (u := .tup [V.int (i : Nat), V.ref m]) s4 n1
    refine ⟨T1, _, rfl, SqT.of upd_same, rfl, _, _, rfl, _, _, rfl, rfl, ?_⟩
    refine ⟨_, rfl, (m, r), rfl, hmr.same s5, ?_⟩
    rintro r' H6 ⟨rfl, s6⟩
    exact ⟨_, rfl, iteF ⟨_, _, rfl, s5.trans s6⟩⟩
  · rintro σ H4 ⟨y2, y3, rfl, s4⟩
    exact k _ _ ⟨rfl, ⟨tt, s4 _ _ ep3, s4 _ _ eT⟩, fun b o e n => s4 _ _ (keep b o e n)⟩
/-! Row.delays -/
theorem sum_cast (l : List Nat) : ((l.map fun (n : Nat) => (n : Int)).sum) = (l.sum : Int) := by
  induction l with
  | nil => rfl
  | cons a r ih => rw [List.map_cons, List.sum_cons, List.sum_cons, ih]; omega
theorem map_nV (l : List Nat) : (l.map fun (n : Nat) => (n : Int)).map V.int = l.map nV := by rw [List.map_map]; rfl
theorem take_map {α β : Type} (f : α → β) {l : List α} {i : Nat} {x : α} (h : l[i]? = some x) : (l.take (i + 1)).map f = (l.take i).map f ++ [f x] := by
  rw [List.take_succ, h, List.map_append]
  rfl
def spDelays (K : PySem.W.Frag) : Sp := spOf (fun a : Addr × List Rec => [.ref a.1]) (fun a H => RowAt K H a.1 a.2 ∧ a.2.length ≤ 1000) (fun a H r H' => r = nV (a.2.map late).sum ∧ Same H H')
theorem ok_Row_delays (T : Txt K mg) : CalM P w K mg base "Row" "delays" ["self"] 2 (spDelays K) := by
  have G_Last_waits := ok_Last_waits (P := P) (w := w) (base := base) T
  have G_First_waits := ok_First_waits (P := P) (w := w) (base := base) T
  have G_Limit_waits := ok_Limit_waits (P := P) (w := w) (base := base) T
  refine ⟨fn_mk T.M_Row_delays sc_Row_delays bd_Row_delays (spOf_len fun _ => rfl) (fun cdv A outer s H vs Q E hr h => ?_), T.c_Row, T.m_Row_delays⟩
  obtain ⟨⟨p, rs⟩, rfl, ⟨⟨dx, t, ms, hp, ht, hm⟩, hl⟩, k⟩ := h
  dsimp only at hp ht hm hl k
  refine ⟨_, (pss_one (ps_ret (pe_callB (cr_sum rfl) rfl T.z_sum (by decide +kernel) (pa_cons (pe_lc (own := [("member", 1)]) (by rfl) sc_Row_delays.nd (pi_tup (pe_fld (pv 0) (by rfl))) (blkOk_by (own := [("member", 1)]) (N := ["self", "member"]) (sc := defScope s_Row_delays) (by decide +kernel)) (fun _ _ _ _ _ => (pg_name (i := 1) sc_Row_delays.nd rfl (Or.inl rfl))) (fun _ _ _ _ _ => pts_nil) (fun _ _ _ _ _ => (pe_alt (pe_cmK0 (K := K) rfl (pv 1) G_Last_waits (hr.mono (by omega))) (pe_alt (pe_cmK0 (K := K) rfl (pv 1) G_First_waits (hr.mono (by omega))) (pe_cmK0 (K := K) rfl (pv 1) G_Limit_waits (hr.mono (by omega))))))) pa_nil)))), ?_⟩
  refine ⟨_, rfl, p, _, dx, _, _, rfl, hp, T.c_Row, T.n_Row_members, rfl, t, rfl, ⟨_, SqT.of ht⟩, fun D nD => lc_it (walk_tup (K := K) (xs := ms.map V.ref))
    (fun i H2 => Same H H2 ∧ H2 D = some (.lst (((rs.take i).map late).map nV))) ⟨same_upd1 nD, upd_same⟩ (fun i H2 _ z => SqT.of (z.1 _ _ ht)) ?_ ?_⟩
  · rintro i x H2 H3 hi ⟨s2, eD⟩ ⟨rfl, e1⟩
    obtain ⟨m, em, rfl⟩ := get_map e1
    obtain ⟨⟨kd, q⟩, er, hmr⟩ := hm.get em
    obtain ⟨dm, hmd⟩ := hmr.same s2
    have lr : i < rs.length := lt_of_get er
    refine ⟨rfl, tYes_go ?_⟩
    have fin : ∃ acc, H3 D = some (.lst acc) ∧ acc.length < sizeLine ∧ (Same H (upd H3 D (.lst (acc ++ [nV (late (kd, q))]))) ∧ (upd H3 D (.lst (acc ++ [nV (late (kd, q))]))) D = some (.lst (((rs.take (i + 1)).map late).map nV))) := by
      refine ⟨_, eD, len_ok (by rw [List.length_map, List.length_map, List.length_take]; omega), same_up s2 nD, ?_⟩
      rw [upd_same, take_map late er, List.map_append]
      rfl
    cases kd with
    | last => exact Or.inl ⟨_, rfl, m, dm, _, rfl, hmd, rfl, (m, q), rfl, ⟨dm, hmd⟩, by rintro r H' ⟨rfl, rfl⟩; exact fin⟩
    | first => exact Or.inr (Or.inl ⟨_, rfl, m, dm, _, rfl, hmd, rfl, (m, q), rfl, ⟨dm, hmd⟩, by rintro r H' ⟨rfl, rfl⟩; exact fin⟩)
    | limit => exact Or.inr (Or.inr ⟨_, rfl, m, dm, _, rfl, hmd, rfl, (m, q), rfl, ⟨dm, hmd⟩, by rintro r H' ⟨rfl, rfl⟩; exact fin⟩)
  · rintro H2 ⟨s2, eD⟩
    rw [List.length_map, hm.len, List.take_length] at eD
    refine ⟨D, (rs.map late).map fun (n : Nat) => (n : Int), rfl, SqL.of (by rw [map_nV]; exact eD), ?_⟩
    rw [sum_cast]
    exact k _ _ ⟨rfl, s2⟩
/-! record_places -/
def rInc : Nat → List Rec → Bool
  | _, [] => true
  | m, r :: t => decide (m < r.2) && rInc r.2 t
def spPlaces (K : PySem.W.Frag) : Sp := spOf (fun a : Addr × List Addr × List Rec => [.ref a.1]) (fun a H => SqT K H a.1 (a.2.1.map V.ref) ∧ MemsAt K H a.2.1 a.2.2 ∧ rInc 1 a.2.2 = true ∧ a.2.2.length ≤ 1000)
  (fun a H r H' => ∃ p, r = .ref p ∧ H p = none ∧ Same H H' ∧ H' p = some (.lst ((List.range a.2.2.length).map nV)))
theorem ok_record_places (T : Txt K mg) : Cal P w K mg base "record_places" ["members"] 1 (spPlaces K) := by
  refine ⟨fn_mk T.F_record_places sc_record_places bd_record_places (spOf_len fun _ => rfl) (fun cdv A outer s H vs Q E hr h => ?_), T.F_record_places.elim fun _ F => F.kp, T.g_record_places⟩
  obtain ⟨⟨t, ms, rs⟩, rfl, ⟨ht, hm, hi, hl⟩, k⟩ := h
  dsimp only at ht hm hi hl k
  refine ⟨_, (pss_cons (ps_par (i := 1) (j := 2) rfl sc_record_places.nd rfl rfl (by decide) rfl rfl (pa_cons (pe_lst pa_nil) (pa_cons pe_int pa_nil)) rfl) (pss_cons (ps_for PassesOwn.never rfl (pi_enumT rfl T.z_enumerate (pa_cons (pv 0) pa_nil)) (pg_tup rfl (pgs_cons (pg_name (i := 3) sc_record_places.nd rfl (.inl rfl)) (pgs_cons (pg_name (i := 4) sc_record_places.nd rfl (.inl rfl)) pgs_nil))) (pss_one (ps_if (PW.pt (pw_and (pt_not (pt_val (pe_callB call_isi rfl T.z_isinstance (by decide +kernel) (pa_cons (pv 4) (pa_cons (pe_glob (v := .ref (He.ga K "Delay")) rfl T.g_Delay rfl) pa_nil))))) (pw_and1 (pt_cmpR op_gt (pe_fld (pv 4) (by rfl)) (pv 2) (nomark _))))) (pss_cons (ps_expr (pe_bm PySem.F.plainAttrs_list PySem.F.slot_list_append PySem.F.type_list_append mt_append (pv 1) (pa_cons (pv 3) pa_nil))) (pss_one (ps_set (i := 2) sc_record_places.nd rfl (.inl rfl) (pe_fld (pv 4) (by rfl))))) pss_nil))) (pss_one (ps_ret (pv 1))))), ?_⟩
  refine ⟨Nat.zero_le _, fun f nf => ⟨_, _, rfl, ?_⟩⟩
  have s1 : Same H (upd H f (.lst [])) := same_upd1 nf
  refine ⟨_, rfl, t, _, rfl, same_seqT s1 ht, for_it (walk_enumT (K := K) (xs := ms.map V.ref)) (fun i σ H2 => ∃ (mo : Nat) (y3 y4 : Option V), σ = [some (.ref t), some (.ref f), some (nV mo), y3, y4] ∧ Same H H2 ∧ H2 f = some (.lst ((List.range i).map nV)) ∧ rInc mo (rs.drop i) = true)
    ⟨1, none, none, rfl, s1, upd_same, hi⟩ (fun i σ H2 _ ⟨_, _, _, _, s, _⟩ => same_seqT s ht) ?_ ?_⟩
  · rintro i x σ H2 H3 hil ⟨mo, y3, y4, rfl, s2, ef, hin⟩ ⟨T1, x1, x2, rfl, n1, rfl, e1, e2⟩
    obtain rfl := Option.some.inj e1
    obtain ⟨m, em, rfl⟩ := get_map e2
    obtain ⟨⟨kd, q⟩, er, hmr⟩ := hm.get em
    have lr : i < rs.length := lt_of_get er
    have s3 := same_new (u := .tup [V.int (i : Nat), V.ref m]) s2 n1
    have ef3 := up_old (u := .tup [V.int (i : Nat), V.ref m]) ef n1
    have dr : rs.drop i = (kd, q) :: rs.drop (i + 1) := by
      rw [List.drop_eq_getElem_cons lr]
      congr 1
      exact Option.some.inj ((List.getElem?_eq_getElem lr).symm.trans er)
    rw [dr] at hin
    obtain ⟨h1, h2⟩ := Bool.and_eq_true_iff.mp (show (decide (mo < q) && rInc q (rs.drop (i + 1))) = true from hin)
    have h1 := of_decide_eq_true h1
    refine ⟨T1, _, rfl, SqT.of upd_same, rfl, _, _, rfl, _, _, rfl, rfl, ?_⟩
    refine ⟨_, rfl, .ref m, _, _, _, _, rfl, .own _, tyM T (hmr.same s3), kitD T kd, _, rfl, iteT ?_⟩
    obtain ⟨dm, hmd⟩ := hmr.same s3
    have cn : Cls K (He.ga K (kC kd)) ∧ NoAttr K (He.ga K (kC kd)) "q" := by
      cases kd with
      | last => exact ⟨T.c_Last, T.n_Last_q⟩
      | first => exact ⟨T.c_First, T.n_First_q⟩
      | limit => exact ⟨T.c_Limit, T.n_Limit_q⟩
    refine ⟨_, rfl, m, _, dm, _, nV q, rfl, hmd, cn.1, cn.2, rfl, _, rfl, _, _, rfl, rfl, _, rfl, ?_⟩
    rw [decide_eq_true (show (mo : Int) < (q : Int) by omega)]
    refine iteT ⟨_, rfl, .inl ⟨rfl, _, SqL.of ef3⟩, _, rfl, f, _, _, rfl, rfl, ef3, len_ok (by rw [List.length_map, List.length_range]; omega), ?_⟩
    refine ⟨_, rfl, m, _, dm, [("q", nV q)], nV q, rfl, ?_, cn.1, cn.2, rfl, q, _, _, rfl, same_up s3 nf, ?_, h2⟩
    · rw [upd_ne (ne_of hmd ef3 (fun z => by cases z))]
      exact hmd
    · rw [upd_same, List.range_succ, List.map_append]
      rfl
  · rintro σ H2 ⟨mo, y3, y4, rfl, s2, ef, hin⟩
    rw [List.length_map, hm.len] at ef
    exact ⟨_, rfl, k _ _ ⟨f, rfl, nf, s2, ef⟩⟩
/-! records_in, records_of -/
def spRecsIn (K : PySem.W.Frag) : Sp := spOf (fun a : Addr × List Addr × List Rec => [.ref a.1]) (fun a H => SqT K H a.1 (a.2.1.map V.ref) ∧ MemsAt K H a.2.1 a.2.2 ∧ rInc 1 a.2.2 = true ∧ a.2.2.length ≤ 1000)
  (fun a H r H' => ∃ p, r = .ref p ∧ Same H H' ∧ RecsT H' p a.2.2)
theorem ok_records_in (T : Txt K mg) : Cal P w K mg base "records_in" ["members"] 2 (spRecsIn K) := by
  have G_record_places := ok_record_places (P := P) (w := w) (base := base) T
  have G_Last_class_name := ok_Last_class_name (P := P) (w := w) (base := base) T
  have G_First_class_name := ok_First_class_name (P := P) (w := w) (base := base) T
  have G_Limit_class_name := ok_Limit_class_name (P := P) (w := w) (base := base) T
  refine ⟨fn_mk T.F_records_in sc_records_in bd_records_in (spOf_len fun _ => rfl) (fun cdv A outer s H vs Q E hr h => ?_), T.F_records_in.elim fun _ F => F.kp, T.g_records_in⟩
  obtain ⟨⟨t, ms, rs⟩, rfl, ⟨ht, hm, hi, hl⟩, k⟩ := h
  dsimp only at ht hm hi hl k
  refine ⟨_, (pss_one (ps_ret (pe_callTy call_tuple_of rfl T.z_tuple (by decide +kernel) (pa_cons (pe_lc (own := [("index", 1)]) (by rfl) sc_records_in.nd (pi_list (pe_c G_record_places (hr.mono (by omega)) rfl (pa_cons (pv 0) pa_nil))) (blkOk_by (own := [("index", 1)]) (N := ["members", "index"]) (sc := defScope sf_records_in) (by decide +kernel)) (fun _ _ _ _ _ => (pg_name (i := 1) sc_records_in.nd rfl (Or.inl rfl))) (fun _ _ _ _ _ => pts_nil) (fun _ _ _ _ _ => (pe_tup (pa_cons (pe_alt (pe_cmK0 (K := K) rfl (pe_ix (ix_tupK (K := K) rfl) (pv 0) (pv 1) (fun _ _ => rfl)) G_Last_class_name (hr.mono (by omega))) (pe_alt (pe_cmK0 (K := K) rfl (pe_ix (ix_tupK (K := K) rfl) (pv 0) (pv 1) (fun _ _ => rfl)) G_First_class_name (hr.mono (by omega))) (pe_cmK0 (K := K) rfl (pe_ix (ix_tupK (K := K) rfl) (pv 0) (pv 1) (fun _ _ => rfl)) G_Limit_class_name (hr.mono (by omega))))) (pa_cons (pe_fldK (K := K) rfl (pe_ix (ix_tupK (K := K) rfl) (pv 0) (pv 1) (fun _ _ => rfl)) (by rfl)) pa_nil))))) pa_nil)))), ?_⟩
  refine ⟨_, rfl, (t, ms, rs), rfl, ⟨ht, hm, hi, hl⟩, ?_⟩
  rintro r H1 ⟨p, rfl, np, s1, ep⟩
  refine ⟨p, rfl, ⟨_, SqL.of ep⟩, fun D nD => lc_it (walk_list (K := K) (xs := (List.range rs.length).map nV))
    (fun i H2 => Same H1 H2 ∧ ∃ as : List Addr, H2 D = some (.lst (as.map V.ref)) ∧ as.length = i ∧ ∀ (j : Nat) (a : Addr) (r : Rec), as[j]? = some a → rs[j]? = some r → H2 a = some (.tup [.str (kS r.1), nV r.2]))
    ⟨same_upd1 nD, [], upd_same, rfl, fun j a r e => by cases e⟩ (fun i H2 _ z => SqL.of (z.1 _ _ ep)) ?_ ?_⟩
  · rintro i x H2 H3 hil ⟨s2, as, eD, la, hat⟩ ⟨rfl, e1⟩
    obtain ⟨i', ei, rfl⟩ := get_map e1
    obtain ⟨li, rfl⟩ := List.getElem?_eq_some_iff.mp ei
    rw [List.length_range] at li
    rw [List.getElem_range]
    have er : rs[i]? = some rs[i] := List.getElem?_eq_getElem li
    have lm : i < ms.length := by rw [hm.len]; exact li
    have em : ms[i]? = some ms[i] := List.getElem?_eq_getElem lm
    generalize ms[i] = m at em
    generalize rs[i] = rr at er
    obtain ⟨kd, q⟩ := rr
    have hmr := hm.at_ i m _ em er
    have sa := s1.trans s2
    obtain ⟨dm, hmd⟩ := hmr.same sa
    have ht2 := same_seqT sa ht
    refine ⟨rfl, tYes_go ?_⟩
    have cn : Cls K (He.ga K (kC kd)) ∧ NoAttr K (He.ga K (kC kd)) "q" := by
      cases kd with
      | last => exact ⟨T.c_Last, T.n_Last_q⟩
      | first => exact ⟨T.c_First, T.n_First_q⟩
      | limit => exact ⟨T.c_Limit, T.n_Limit_q⟩
    have nD1 : H1 D = none := nD
    -- the quiet, the pair, the append
    have tail : ∀ (c : Addr), H3 c = none → ∃ acc, upd H3 c (.tup [.str (kS kd), nV q]) D = some (.lst acc) ∧ acc.length < sizeLine ∧ (Same H1 (upd (upd H3 c (.tup [.str (kS kd), nV q])) D (.lst (acc ++ [.ref c]))) ∧
        ∃ as : List Addr, (upd (upd H3 c (.tup [.str (kS kd), nV q])) D (.lst (acc ++ [.ref c]))) D = some (.lst (as.map V.ref)) ∧ as.length = i + 1 ∧ ∀ (j : Nat) (a : Addr) (r : Rec), as[j]? = some a → rs[j]? = some r → (upd (upd H3 c (.tup [.str (kS kd), nV q])) D (.lst (acc ++ [.ref c]))) a = some (.tup [.str (kS r.1), nV r.2])) := fun c nc => by
      have eD2 := up_old (u := .tup [.str (kS kd), nV q]) eD nc
      refine ⟨_, eD2, len_ok (by rw [List.length_map]; omega), same_up (same_new s2 nc) nD1, as ++ [c], by rw [upd_same, List.map_append]; rfl, by rw [List.length_append, la]; rfl, fun j a r e2 e3 => ?_⟩
      by_cases hj : j < as.length
      · rw [List.getElem?_append_left hj] at e2
        have q1 := hat j a r e2 e3
        have q2 := up_old (u := .tup [.str (kS kd), nV q]) q1 nc
        rw [upd_ne (ne_of q2 eD2 (fun z => by cases z))]
        exact q2
      · have ej : j = as.length := by
          have := lt_of_get e2
          rw [List.length_append] at this
          simp at this
          omega
        subst ej
        rw [List.getElem?_append_right (Nat.le_refl _), Nat.sub_self] at e2
        obtain rfl : c = a := Option.some.inj e2
        rw [la, er] at e3
        obtain rfl := Option.some.inj e3
        rw [upd_ne (ne_of_none eD nc).symm, upd_same]
    have q0 : atI (ms.map V.ref) ((i : Nat) : Int) = some (.ref m) := at_map rfl em
    have two : (2 : Nat) ≤ sizeLine := len_ok' (by decide)
    cases kd with
    | last => exact Or.inl ⟨_, rfl, _, rfl, t, _, _, _, rfl, rfl, ht2, q0, m, dm, _, rfl, hmd, rfl, m, rfl, trivial, by
        rintro r H' ⟨rfl, rfl⟩
        exact ⟨_, rfl, _, rfl, t, _, _, _, rfl, rfl, ht2, q0, m, _, dm, _, nV q, rfl, hmd, cn.1, cn.2, rfl, two, tail⟩⟩
    | first => exact Or.inr (Or.inl ⟨_, rfl, _, rfl, t, _, _, _, rfl, rfl, ht2, q0, m, dm, _, rfl, hmd, rfl, m, rfl, trivial, by
        rintro r H' ⟨rfl, rfl⟩
        exact ⟨_, rfl, _, rfl, t, _, _, _, rfl, rfl, ht2, q0, m, _, dm, _, nV q, rfl, hmd, cn.1, cn.2, rfl, two, tail⟩⟩)
    | limit => exact Or.inr (Or.inr ⟨_, rfl, _, rfl, t, _, _, _, rfl, rfl, ht2, q0, m, dm, _, rfl, hmd, rfl, m, rfl, trivial, by
        rintro r H' ⟨rfl, rfl⟩
        exact ⟨_, rfl, _, rfl, t, _, _, _, rfl, rfl, ht2, q0, m, _, dm, _, nV q, rfl, hmd, cn.1, cn.2, rfl, two, tail⟩⟩)
  · rintro H2 ⟨s2, as, eD, la, hat⟩
    rw [List.length_map, List.length_range] at la
    refine ⟨D, _, rfl, .inl ⟨SqL.of eD, fun l nl => ?_⟩⟩
    exact k _ _ ⟨l, rfl, (s1.trans (same_new s2 nl)), as, upd_same, la, fun j a r e1 e2 => up_old (hat j a r e1 e2) nl⟩
def spRecsOf (K : PySem.W.Frag) : Sp := spOf (fun a : Addr × List Rec => [.ref a.1]) (fun a H => RowAt K H a.1 a.2 ∧ rInc 1 a.2 = true ∧ a.2.length ≤ 1000)
  (fun a H r H' => ∃ p, r = .ref p ∧ Same H H' ∧ RecsT H' p a.2)
theorem ok_records_of (T : Txt K mg) : Cal P w K mg base "records_of" ["row"] 3 (spRecsOf K) := by
  have G_records_in := ok_records_in (P := P) (w := w) (base := base) T
  refine ⟨fn_mk T.F_records_of sc_records_of bd_records_of (spOf_len fun _ => rfl) (fun cdv A outer s H vs Q E hr h => ?_), T.F_records_of.elim fun _ F => F.kp, T.g_records_of⟩
  obtain ⟨⟨p, rs⟩, rfl, ⟨⟨dx, t, ms, hp, ht, hm⟩, hi, hl⟩, k⟩ := h
  dsimp only at hp ht hm hi hl k
  refine ⟨_, (pss_one (ps_ret (pe_c G_records_in (hr.mono (by omega)) rfl (pa_cons (pe_fld (pv 0) (by rfl)) pa_nil)))), ?_⟩
  exact ⟨_, rfl, p, _, dx, _, _, rfl, hp, T.c_Row, T.n_Row_members, rfl, (t, ms, rs), rfl, ⟨SqT.of ht, hm, hi, hl⟩, k⟩
end
end Qr
set_option maxHeartbeats 4000000
namespace Qr
open PySem PySem.Spec PyProof.Rows L2
/-- [e for x in xs] where e only reads -/
theorem lc_map {J : It} {G : Hp → Prop} {g : TG} {te : TE} {vs : List Nat} {σ : L2.St} {H : Hp} {D : Addr} {Qd : Hp → Prop} {xs : List V} (w : Walk J xs.length G (YAt xs)) (nD : H D = none) (ys : List V) (hl : ys.length = xs.length) (hz : xs.length ≤ 1000)
    (hG : ∀ H2, Same H H2 → G H2) (he : ∀ (i : Nat) (x y : V) (H2 : Hp), xs[i]? = some x → ys[i]? = some y → Same H H2 → ∀ Qe : VK, Qe y H2 → g x (wipe σ vs) H2 fun σ2 H3 => wipe σ2 vs = wipe σ vs ∧ te σ2 H3 Qe)
    (hg : ∀ x H2 (Q1 Q2 : L2.St → Hp → Prop), (∀ s h, Q1 s h → Q2 s h) → g x (wipe σ vs) H2 Q1 → g x (wipe σ vs) H2 Q2)
    (hd : ∀ H2, Same H H2 → H2 D = some (.lst ys) → Qd H2) :
    ∃ W : Nat → Nat → Hp → Prop, (∃ m, W 0 m (upd H D (.lst []))) ∧ ∀ i m H, W i m H →
      (J.stop i H ∧ Qd H) ∨ (J.go i H ∧ ∃ Nx : Hp → Prop, (∀ H', Nx H' → ∃ m', m' < m ∧ W (i + 1) m' H') ∧ ∀ x H', J.yld i H x H' → g x (wipe σ vs) H' fun σ2 H2 => wipe σ2 vs = wipe σ vs ∧ tYes σ2 H2 fun b H3 =>
        if b = true then te σ2 H3 fun y H4 => ∃ acc, H4 D = some (.lst acc) ∧ acc.length < sizeLine ∧ Nx (upd H4 D (.lst (acc ++ [y]))) else Nx H3) := by
  refine lc_it w (fun i H2 => Same H H2 ∧ H2 D = some (.lst (ys.take i))) ⟨same_upd1 nD, upd_same⟩ (fun i H2 _ z => hG H2 z.1) ?_ ?_
  · rintro i x H2 H3 hi ⟨s2, eD⟩ ⟨rfl, e1⟩
    have ly : i < ys.length := by omega
    have ey : ys[i]? = some ys[i] := List.getElem?_eq_getElem ly
    refine hg x H3 _ _ (fun σ2 h => fun z => ?_) (he i x _ H3 e1 ey s2 (fun y H4 => ∃ acc, H4 D = some (.lst acc) ∧ acc.length < sizeLine ∧ (Same H (upd H4 D (.lst (acc ++ [y]))) ∧ (upd H4 D (.lst (acc ++ [y]))) D = some (.lst (ys.take (i + 1))))) ?_)
    · exact ⟨z.1, tYes_go z.2⟩
    · refine ⟨_, eD, len_ok (by rw [List.length_take]; omega), same_up s2 nD, ?_⟩
      rw [upd_same, List.take_succ, ey]
      rfl
  · rintro H2 ⟨s2, eD⟩
    rw [← hl, List.take_length] at eD
    exact hd H2 s2 eD
theorem gName_mono {i : Nat} {x : V} {σ : L2.St} {H2 : Hp} {Q1 Q2 : L2.St → Hp → Prop} (h : ∀ s h, Q1 s h → Q2 s h) (z : gName i x σ H2 Q1) : gName i x σ H2 Q2 := h _ _ z
theorem rgV_nat (n : Nat) : rgV 0 (n : Int) = (List.range n).map nV := by
  unfold rgV
  rw [show ((n : Int) - 0).toNat = n by omega]
  exact List.map_congr_left fun i _ => by simp
theorem rgOk_nat {n : Nat} (h : n ≤ 1000) : RgOk 0 (n : Int) := RgOk.of_le (by omega) (by omega) (by omega) (by omega)
/-! ### picks -/
theorem limit_lt (q : Nat) : ∀ (L : List Nat) (i : Nat) (l : Option Nat) (x : Nat), x ∈ Mir.kLimitGo q L i l → x < i + L.length
  | [], _, _, x, h => by cases h
  | t :: r, i, none, x, h => by
    rcases List.mem_cons.mp (show x ∈ i :: Mir.kLimitGo q r (i + 1) (some t) from h) with rfl | h
    · simp
    · have := limit_lt q r (i + 1) (some t) x h
      rw [List.length_cons]
      omega
  | t :: r, i, some l, x, h => by
    have h : x ∈ (if l + q ≤ t then i :: Mir.kLimitGo q r (i + 1) (some t) else Mir.kLimitGo q r (i + 1) (some l)) := h
    rw [List.length_cons]
    by_cases hc : l + q ≤ t
    · rw [if_pos hc] at h
      rcases List.mem_cons.mp h with rfl | h
      · omega
      · have := limit_lt q r (i + 1) (some t) x h
        omega
    · rw [if_neg hc] at h
      have := limit_lt q r (i + 1) (some l) x h
      omega
theorem kept_lt {k : Mir.Kd} {q : Nat} {L : List Nat} {x : Nat} (h : x ∈ Mir.kept k q L) : x < L.length := by
  cases k with
  | last => exact List.mem_range.mp (List.mem_filter.mp (show x ∈ Mir.kLast q L from h)).1
  | first => exact List.mem_range.mp (List.mem_filter.mp (show x ∈ Mir.kFirst q L from h)).1
  | limit =>
    have := limit_lt q L 0 none x h
    omega
theorem limit_len (q : Nat) : ∀ (L : List Nat) (i : Nat) (l : Option Nat), (Mir.kLimitGo q L i l).length ≤ L.length
  | [], _, _ => Nat.le_refl _
  | t :: r, i, none => by
    have := limit_len q r (i + 1) (some t)
    show (Mir.kLimitGo q r (i + 1) (some t)).length + 1 ≤ r.length + 1
    omega
  | t :: r, i, some l => by
    have h1 := limit_len q r (i + 1) (some t)
    have h2 := limit_len q r (i + 1) (some l)
    show (if l + q ≤ t then i :: Mir.kLimitGo q r (i + 1) (some t) else Mir.kLimitGo q r (i + 1) (some l)).length ≤ r.length + 1
    by_cases hc : l + q ≤ t
    · rw [if_pos hc, List.length_cons]
      omega
    · rw [if_neg hc]
      omega
theorem kept_len (k : Mir.Kd) (q : Nat) (L : List Nat) : (Mir.kept k q L).length ≤ L.length := by
  cases k with
  | last =>
    have := List.length_filter_le (fun i => i + 1 == L.length || decide (L.getD i 0 + q ≤ L.getD (i + 1) 0)) (List.range L.length)
    rw [List.length_range] at this
    exact this
  | first =>
    have := List.length_filter_le (fun i => i == 0 || decide (L.getD (i - 1) 0 + q ≤ L.getD i 0)) (List.range L.length)
    rw [List.length_range] at this
    exact this
  | limit => exact limit_len q L 0 none
theorem pick_len (xs is : List Nat) : (Mir.pick xs is).length = is.length := List.length_map ..
theorem pick_get {xs is : List Nat} {i n : Nat} (h : is[i]? = some n) : (Mir.pick xs is)[i]? = some (xs.getD n 0) := map_get h
theorem left_len (L ns : List Nat) (k : Mir.Kd) (q : Nat) : (Mir.leftM L ns k q).length ≤ ns.length := by
  unfold Mir.leftM
  rw [pick_len]
  have := kept_len k q (Mir.pick L ns)
  rw [pick_len] at this
  exact this
theorem pick_mem {xs is : List Nat} {x : Nat} (h : x ∈ Mir.pick xs is) (hi : ∀ i ∈ is, i < xs.length) : x ∈ xs := by
  obtain ⟨i, h1, h2⟩ := List.mem_map.mp h
  rw [← h2, List.getD_eq_getElem?_getD, List.getElem?_eq_getElem (hi i h1)]
  exact List.getElem_mem _
theorem left_mem {L ns : List Nat} {k : Mir.Kd} {q x : Nat} (h : x ∈ Mir.leftM L ns k q) : x ∈ ns := by
  refine pick_mem h fun i hi => ?_
  have := kept_lt hi
  rw [pick_len] at this
  exact this
/-- the picked times -/
theorem pick_times (b : Int) (L ns : List Nat) : (Mir.pick L ns).map (tV b) = ns.map fun n => tV b (L.getD n 0) := by
  unfold Mir.pick
  rw [List.map_map]
  rfl
end Qr
set_option maxHeartbeats 4000000
namespace Qr
open PySem PySem.Spec PyProof.Rows L2
/-- a method of a member, whatever its kind -/
theorem kind_alt {K : PySem.W.Frag} {σ : L2.St} {H : Hp} {Q : VK} {m : Addr} {kd : Mir.Kd} {q : Nat} {mn : Str} {sp : Mir.Kd → Sp} {ta : TE} {t : TA} (hm : MemAt K H m (kd, q)) (hl : ∀ v : V, List.lookup mn [(("q" : Str), v)] = none)
    (hta : ∀ R : VK, R (.ref m) H → ta σ H R) (h : t σ H fun vs H2 => sp kd (.ref m :: (vs ++ [])) H2 Q E0) :
    tAlt (tMeth (He.ga K "Last") mn (sp .last) [] E0 ta t) (tAlt (tMeth (He.ga K "First") mn (sp .first) [] E0 ta t) (tMeth (He.ga K "Limit") mn (sp .limit) [] E0 ta t)) σ H Q := by
  obtain ⟨dx, e⟩ := hm
  cases kd with
  | last => exact Or.inl (hta _ ⟨m, dx, _, rfl, e, hl _, h⟩)
  | first => exact Or.inr (Or.inl (hta _ ⟨m, dx, _, rfl, e, hl _, h⟩))
  | limit => exact Or.inr (Or.inr (hta _ ⟨m, dx, _, rfl, e, hl _, h⟩))
theorem putF_ne {f g : Str} {v u : V} {r : List (Str × V)} (h : ¬ g = f) : putF f v ((g, u) :: r) = (g, u) :: putF f v r := if_neg h
section
variable {P : Program} {w : World} {K : PySem.W.Frag} {mg : Str → Option Value} {base : Heap}
/-! Told.__init__ -/
def toldF (a b c d : V) : List (Str × V) := [("number", a), ("time", b), ("first", c), ("last", d)]
def spTold0 (K : PySem.W.Frag) : Sp := spOf (fun a : (Addr × Addr) × V × V × V × V => [.ref a.1.1, a.2.1, a.2.2.1, a.2.2.2.1, a.2.2.2.2]) (fun a H => H a.1.1 = some (.ins (He.ga K "Told") a.1.2 []))
  (fun a H r H' => r = .non ∧ H' = upd H a.1.1 (.ins (He.ga K "Told") a.1.2 (toldF a.2.1 a.2.2.1 a.2.2.2.1 a.2.2.2.2)))
theorem ok_Told_init (T : Txt K mg) : CalI P w K mg base "Told" ["self", "number", "time", "first", "last"] 1 (spTold0 K) := by
  refine ⟨fn_mk T.M_Told_init sc_Told_init bd_Told_init (spOf_len fun _ => rfl) (fun cdv A outer s H vs Q E hr h => ?_), T.k_Told, T.g_Told⟩
  obtain ⟨⟨⟨p, dx⟩, v1, v2, v3, v4⟩, rfl, hp, k⟩ := h
  dsimp only at hp k
  refine ⟨_, (pss_cons (ps_fld (pv 0) (pv 1) (by rfl)) (pss_cons (ps_fld (pv 0) (pv 2) (by rfl)) (pss_cons (ps_fld (pv 0) (pv 3) (by rfl)) (pss_one (ps_fld (pv 0) (pv 4) (by rfl)))))), ?_⟩
  refine ⟨_, rfl, _, rfl, p, _, dx, [], rfl, hp, T.c_Told, T.n_Told_number, (by decide), ?_⟩
  refine ⟨_, rfl, _, rfl, p, _, dx, [("number", v1)], rfl, upd_same, T.c_Told, T.n_Told_time, (by show 1 < 1000; decide), ?_⟩
  have e2 : putF "time" v2 [("number", v1)] = ([("number", v1), ("time", v2)] : List (Str × V)) := putF_ne (by decide +kernel)
  refine ⟨_, rfl, _, rfl, p, _, dx, [("number", v1), ("time", v2)], rfl, by rw [upd_same, e2], T.c_Told, T.n_Told_first, (by show 2 < 1000; decide), ?_⟩
  have e3 : putF "first" v3 [("number", v1), ("time", v2)] = ([("number", v1), ("time", v2), ("first", v3)] : List (Str × V)) := by
    rw [putF_ne (by decide +kernel), putF_ne (by decide +kernel)]
    rfl
  refine ⟨_, rfl, _, rfl, p, _, dx, [("number", v1), ("time", v2), ("first", v3)], rfl, by rw [upd_same, e3], T.c_Told, T.n_Told_last, (by show 3 < 1000; decide), ?_⟩
  have e4 : putF "last" v4 [("number", v1), ("time", v2), ("first", v3)] = toldF v1 v2 v3 v4 := by
    rw [putF_ne (by decide +kernel), putF_ne (by decide +kernel), putF_ne (by decide +kernel)]
    rfl
  refine k _ _ ⟨rfl, ?_⟩
  rw [upd_upd, upd_upd, upd_upd, e4]
/-! told_events -/
def ToldAt (K : PySem.W.Frag) (H : Hp) (m n : Nat) : Prop := ∃ dx fs, H m = some (.ins (He.ga K "Told") dx fs) ∧ fs.lookup ("number" : Str) = some (nV n)
def spTold (K : PySem.W.Frag) : Sp := spOf (fun a : Addr × List Rec × Addr × Int × List Nat × List Nat => [.ref a.1, .ref a.2.2.1])
  (fun a H => RowAt K H a.1 a.2.1 ∧ SqL K H a.2.2.1 (a.2.2.2.2.1.map (tV a.2.2.2.1)) ∧ Inc (a.2.2.2.2.1.map fun (t : Nat) => a.2.2.2.1 + (t : Int)) ∧ a.2.1.length ≤ 1000 ∧ a.2.2.2.2.1.length ≤ 1000 ∧ Mir.toldM a.2.2.2.2.1 a.2.1 = some a.2.2.2.2.2)
  (fun a H r H' => ∃ (p : Addr) (ms : List Addr), r = .ref p ∧ Same H H' ∧ H' p = some (.lst (ms.map V.ref)) ∧ ms.length = a.2.2.2.2.2.length ∧ ∀ (i : Nat) (m : Addr) (n : Nat), ms[i]? = some m → a.2.2.2.2.2[i]? = some n → ToldAt K H' m n)
def TeInv (H : Hp) (r s : Addr) (L : List Nat) (rs : List Rec) (nf vf : List Nat) (i : Nat) (σ : L2.St) (H2 : Hp) : Prop :=
  ∃ (nu vo : Addr) (ns vs : List Nat) (y4 y5 y6 : Option V), σ = [some (.ref r), some (.ref s), some (.ref nu), some (.ref vo), y4, y5, y6, none, none, none, none, none, none] ∧ Same H H2 ∧ H2 nu = some (.lst (ns.map nV)) ∧ H2 vo = some (.lst (vs.map nV)) ∧
    Mir.toldGo L (rs.drop i) ns vs = some (nf, vf) ∧ (∀ n ∈ ns, n < L.length) ∧ ns.length ≤ L.length ∧ vs.length = L.length
theorem ok_told_events (T : Txt K mg) : Cal P w K mg base "told_events" ["row", "stream"] 5 (spTold K) := by
  have G_check_stream := ok_check_stream (P := P) (w := w) (base := base) T
  have G_speakers := ok_speakers (P := P) (w := w) (base := base) T
  have G_Last_kept := ok_Last_kept (P := P) (w := w) (base := base) T
  have G_First_kept := ok_First_kept (P := P) (w := w) (base := base) T
  have G_Limit_kept := ok_Limit_kept (P := P) (w := w) (base := base) T
  have G_Row_delays := ok_Row_delays (P := P) (w := w) (base := base) T
  have G_Told_init := ok_Told_init (P := P) (w := w) (base := base) T
  refine ⟨fn_mk T.F_told_events sc_told_events bd_told_events (spOf_len fun _ => rfl) (fun cdv A outer s0 H vs0 Q E hr h => ?_), T.F_told_events.elim fun _ F => F.kp, T.g_told_events⟩
  obtain ⟨⟨r, rs, s, b, L, nfin⟩, rfl, ⟨hrow, hs, hinc, hlr, hl, htold⟩, k⟩ := h
  dsimp only at hrow hs hinc hlr hl htold k
  have hu := hu_of hr
  refine ⟨_, (pss_cons (ps_expr (pe_c G_check_stream (hr.mono (by omega)) rfl (pa_cons (pv 1) pa_nil))) (pss_cons (ps_asg (pe_tup (pa_cons (pe_listRg rfl rfl T.z_list (prg_1 rfl T.z_range (pe_callB call_len_seq rfl T.z_len (by decide +kernel) (pa_cons (pv 1) pa_nil)))) (pa_cons (pe_listRg rfl rfl T.z_list (prg_1 rfl T.z_range (pe_callB call_len_seq rfl T.z_len (by decide +kernel) (pa_cons (pv 1) pa_nil)))) pa_nil))) (pg_tup rfl (pgs_cons (pg_name (i := 2) sc_told_events.nd rfl (.inr rfl)) (pgs_cons (pg_name (i := 3) sc_told_events.nd rfl (.inl rfl)) pgs_nil)))) (pss_cons (ps_for PassesOwn.never rfl (pi_tup (pe_fld (pv 0) (by rfl))) (pg_name (i := 4) sc_told_events.nd rfl (.inl rfl)) (pss_cons (ps_set (i := 5) sc_told_events.nd rfl (.inl rfl) (pe_alt (pe_cm (pv 4) G_Last_kept (hr.mono (by omega)) (pa_cons (pe_lc (own := [("number", 12)]) (by rfl) sc_told_events.nd (pi_list (pv 2)) (blkOk_by (own := [("number", 12)]) (N := ["row", "stream", "numbers", "voices", "member", "kept", "places", "heads", "tails", "at", "voice", "late", "number"]) (sc := defScope sf_told_events) (by decide +kernel)) (fun _ _ _ _ _ => (pg_name (i := 12) sc_told_events.nd rfl (Or.inl rfl))) (fun _ _ _ _ _ => pts_nil) (fun _ _ _ _ _ => (pe_ix (ix_listK (K := K) rfl) (pv 1) (pv 12) (fun _ _ => rfl)))) pa_nil)) (pe_alt (pe_cm (pv 4) G_First_kept (hr.mono (by omega)) (pa_cons (pe_lc (own := [("number", 12)]) (by rfl) sc_told_events.nd (pi_list (pv 2)) (blkOk_by (own := [("number", 12)]) (N := ["row", "stream", "numbers", "voices", "member", "kept", "places", "heads", "tails", "at", "voice", "late", "number"]) (sc := defScope sf_told_events) (by decide +kernel)) (fun _ _ _ _ _ => (pg_name (i := 12) sc_told_events.nd rfl (Or.inl rfl))) (fun _ _ _ _ _ => pts_nil) (fun _ _ _ _ _ => (pe_ix (ix_listK (K := K) rfl) (pv 1) (pv 12) (fun _ _ => rfl)))) pa_nil)) (pe_cm (pv 4) G_Limit_kept (hr.mono (by omega)) (pa_cons (pe_lc (own := [("number", 12)]) (by rfl) sc_told_events.nd (pi_list (pv 2)) (blkOk_by (own := [("number", 12)]) (N := ["row", "stream", "numbers", "voices", "member", "kept", "places", "heads", "tails", "at", "voice", "late", "number"]) (sc := defScope sf_told_events) (by decide +kernel)) (fun _ _ _ _ _ => (pg_name (i := 12) sc_told_events.nd rfl (Or.inl rfl))) (fun _ _ _ _ _ => pts_nil) (fun _ _ _ _ _ => (pe_ix (ix_listK (K := K) rfl) (pv 1) (pv 12) (fun _ _ => rfl)))) pa_nil))))) (pss_cons (ps_set (i := 6) sc_told_events.nd rfl (.inr rfl) (pe_c G_speakers (hr.mono (by omega)) rfl (pa_cons (pv 4) (pa_cons (pe_callB call_len_seq rfl T.z_len (by decide +kernel) (pa_cons (pv 2) pa_nil)) (pa_cons (pv 5) pa_nil))))) (pss_cons (ps_setLc (i := 3) (own := [("voice", 10)]) (by rfl) sc_told_events.nd rfl rfl (sw_true rfl rfl rfl (by decide +kernel)) (pi_list (pv 3)) (blkOk_by (own := [("voice", 10)]) (N := ["row", "stream", "numbers", "voices", "member", "kept", "places", "heads", "tails", "at", "voice", "late", "number"]) (sc := defScope sf_told_events) (by decide +kernel)) (fun _ _ _ _ _ => (pg_name (i := 10) sc_told_events.nd rfl (Or.inl rfl))) (fun _ _ _ _ _ => pts_nil) (fun _ _ _ _ _ => (pe_ix (ix_listK (K := K) rfl) (pv 6) (pv 10) (fun _ _ => rfl)))) (pss_one (ps_set (i := 2) sc_told_events.nd rfl (.inr rfl) (pe_lc (own := [("at", 9)]) (by rfl) sc_told_events.nd (pi_list (pv 5)) (blkOk_by (own := [("at", 9)]) (N := ["row", "stream", "numbers", "voices", "member", "kept", "places", "heads", "tails", "at", "voice", "late", "number"]) (sc := defScope sf_told_events) (by decide +kernel)) (fun _ _ _ _ _ => (pg_name (i := 9) sc_told_events.nd rfl (Or.inl rfl))) (fun _ _ _ _ _ => pts_nil) (fun _ _ _ _ _ => (pe_ix (ix_listK (K := K) rfl) (pv 2) (pv 9) (fun _ _ => rfl)))))))))) (pss_cons (ps_set (i := 7) sc_told_events.nd rfl (.inr rfl) pe_dnewK) (pss_cons (ps_set (i := 8) sc_told_events.nd rfl (.inr rfl) pe_dnewK) (pss_cons (ps_for PassesOwn.never rfl (pi_enum rfl T.z_enumerate (pa_cons (pv 3) pa_nil)) (pg_tup rfl (pgs_cons (pg_name (i := 9) sc_told_events.nd rfl (.inl rfl)) (pgs_cons (pg_name (i := 10) sc_told_events.nd rfl (.inl rfl)) pgs_nil))) (pss_cons (ps_dput hu (pv 7) (pv 10) (pe_dget2 hu (pv 7) (pv 10) (pv 9) ⟨rfl, rfl, rfl, rfl⟩) (by rfl)) (pss_one (ps_dput hu (pv 8) (pv 10) (pv 9) (by rfl))))) (pss_cons (ps_set (i := 11) sc_told_events.nd rfl (.inr rfl) (pe_cm0 (pv 0) G_Row_delays (hr.mono (by omega)))) (pss_one (ps_ret (pe_lc (own := [("at", 9), ("number", 12)]) (by rfl) sc_told_events.nd (pi_enum rfl T.z_enumerate (pa_cons (pv 2) pa_nil)) (blkOk_by (own := [("at", 9), ("number", 12)]) (N := ["row", "stream", "numbers", "voices", "member", "kept", "places", "heads", "tails", "at", "voice", "late", "number"]) (sc := defScope sf_told_events) (by decide +kernel)) (fun _ _ _ _ _ => (pg_tupK (K := K) 2 rfl rfl (pgs_cons (pg_name (i := 9) sc_told_events.nd rfl (Or.inl rfl)) (pgs_cons (pg_name (i := 12) sc_told_events.nd rfl (Or.inl rfl)) pgs_nil)))) (fun _ _ _ _ _ => pts_nil) (fun _ _ _ _ _ => (pe_ciK (K := K) rfl G_Told_init (hr.mono (by omega)) rfl (pa_cons (pv 12) (pa_cons (pe_op op_add (pe_ix (ix_listK (K := K) rfl) (pv 1) (pv 12) (fun _ _ => rfl)) (pv 11)) (pa_cons (pe_dget hu (pv 7) (pv 9) (fun _ _ => rfl)) (pa_cons (pe_dget hu (pv 8) (pv 9) (fun _ _ => rfl)) pa_nil)))))))))))))))), ?_⟩
  -- check_stream(stream)
  refine ⟨_, rfl, (s, L.map fun (t : Nat) => b + (t : Int)), rfl, ⟨?_, hinc⟩, ?_⟩
  · rw [List.map_map]
    exact hs
  rintro _ H1 ⟨rfl, s1⟩
  -- numbers, voices
  have rgl : RgOk 0 ((L.map (tV b)).length : Int) := by
    rw [List.length_map]
    exact rgOk_nat hl
  refine ⟨_, rfl, s, _, rfl, .inl (s1.seq hs), _, rfl, rgl, fun nu nnu => ?_⟩
  have s2 := same_new (u := .lst (rgV 0 ((L.map (tV b)).length : Int))) s1 nnu
  refine ⟨_, rfl, s, _, rfl, .inl (s2.seq hs), _, rfl, rgl, fun vo nvo => ?_⟩
  have s3 := same_new (u := .lst (rgV 0 ((L.map (tV b)).length : Int))) s2 nvo
  refine ⟨len_ok' (by show 2 ≤ 1000; decide), fun t2 nt2 => ?_⟩
  have s4 := same_new (u := .tup [.ref nu, .ref vo]) s3 nt2
  have enu : (upd (upd (upd H1 nu (.lst (rgV 0 ((L.map (tV b)).length : Int)))) vo (.lst (rgV 0 ((L.map (tV b)).length : Int)))) t2 (.tup [.ref nu, .ref vo])) nu = some (.lst ((List.range L.length).map nV)) := by
    rw [up_old (up_old upd_same nvo) nt2, List.length_map, rgV_nat]
  have evo : (upd (upd (upd H1 nu (.lst (rgV 0 ((L.map (tV b)).length : Int)))) vo (.lst (rgV 0 ((L.map (tV b)).length : Int)))) t2 (.tup [.ref nu, .ref vo])) vo = some (.lst ((List.range L.length).map nV)) := by
    rw [up_old upd_same nt2, List.length_map, rgV_nat]
  refine ⟨t2, _, rfl, SqT.of upd_same, rfl, _, _, rfl, _, _, rfl, rfl, ?_⟩
  generalize upd (upd (upd H1 nu (.lst (rgV 0 ((L.map (tV b)).length : Int)))) vo (.lst (rgV 0 ((L.map (tV b)).length : Int)))) t2 (.tup [.ref nu, .ref vo]) = H2 at s4 enu evo
  -- what the mirror tells
  obtain ⟨nf, vf, hgo, hall, rfl⟩ : ∃ nf vf, Mir.toldGo L rs (List.range L.length) (List.range L.length) = some (nf, vf) ∧ ((List.range nf.length).all fun i => vf.contains i) = true ∧ nf = nfin := by
    unfold Mir.toldM at htold
    cases e : Mir.toldGo L rs (List.range L.length) (List.range L.length) with
    | none => rw [e] at htold; cases htold
    | some z =>
      obtain ⟨nf, vf⟩ := z
      rw [e] at htold
      have htold : (if ((List.range nf.length).all fun i => vf.contains i) = true then some nf else none) = some nfin := htold
      by_cases c : ((List.range nf.length).all fun i => vf.contains i) = true
      · rw [if_pos c] at htold
        exact ⟨nf, vf, rfl, c, Option.some.inj htold⟩
      · rw [if_neg c] at htold
        cases htold
  obtain ⟨dxr, tm, ms, er, etm, hms⟩ := hrow.same s4
  -- for member in row.members
  refine ⟨_, rfl, r, _, dxr, _, _, rfl, er, T.c_Row, T.n_Row_members, rfl, tm, rfl, ⟨_, SqT.of etm⟩, for_it (walk_tup (K := K) (xs := ms.map V.ref)) (TeInv H2 r s L rs nf vf)
    ⟨nu, vo, List.range L.length, List.range L.length, none, none, none, rfl, Same.refl _, enu, evo, hgo, fun n h => List.mem_range.mp h, by rw [List.length_range]; exact Nat.le_refl _, List.length_range⟩ (fun i σ H3 _ ⟨_, _, _, _, _, _, _, _, z, _⟩ => SqT.of (z _ _ etm)) ?_ ?_⟩
  · clear enu evo nnu nvo
    rintro i x σ H3 H4 hi ⟨nu, vo, ns, vs, y4, y5, y6, rfl, s5, enu, evo, hgo, hlt, hln, hlv⟩ ⟨rfl, e1⟩
    obtain ⟨m, em, rfl⟩ := get_map e1
    obtain ⟨⟨kd, q⟩, erc, hmr⟩ := hms.get em
    have lr : i < rs.length := lt_of_get erc
    have dr : rs.drop i = (kd, q) :: rs.drop (i + 1) := by
      rw [List.drop_eq_getElem_cons lr]
      congr 1
      exact Option.some.inj ((List.getElem?_eq_getElem lr).symm.trans erc)
    rw [dr] at hgo
    have hm3 := hmr.same s5
    have hs3 := s5.seq (s4.seq hs)
    obtain ⟨pl, hpl, hva, hgo2⟩ : ∃ pl, Mir.spkGo kd (Mir.kept kd q (Mir.pick L ns)) ns.length 0 0 = some pl ∧ vs.all (· < pl.length) = true ∧ Mir.toldGo L (rs.drop (i + 1)) (Mir.leftM L ns kd q) (Mir.pick pl vs) = some (nf, vf) := by
      have hgo : (match Mir.spkGo kd (Mir.kept kd q (Mir.pick L ns)) ns.length 0 0 with
        | none => none
        | some pl => if vs.all (· < pl.length) then Mir.toldGo L (rs.drop (i + 1)) (Mir.leftM L ns kd q) (Mir.pick pl vs) else none) = some (nf, vf) := hgo
      cases e : Mir.spkGo kd (Mir.kept kd q (Mir.pick L ns)) ns.length 0 0 with
      | none => rw [e] at hgo; cases hgo
      | some pl =>
        rw [e] at hgo
        have hgo : (if vs.all (· < pl.length) then Mir.toldGo L (rs.drop (i + 1)) (Mir.leftM L ns kd q) (Mir.pick pl vs) else none) = some (nf, vf) := hgo
        by_cases c : vs.all (· < pl.length) = true
        · rw [if_pos c] at hgo
          exact ⟨pl, rfl, c, hgo⟩
        · rw [if_neg c] at hgo
          cases hgo
    -- kept = member.kept([stream[number] for number in numbers])
    refine kind_alt (sp := spKept K) hm3 (fun _ => rfl) (fun R h => ⟨_, rfl, h⟩) ?_
    refine ⟨_, rfl, nu, rfl, ⟨_, SqL.of enu⟩, fun D nD => lc_map (walk_list (K := K) (xs := ns.map nV)) nD ((Mir.pick L ns).map (tV b)) (by rw [List.length_map, List.length_map, pick_len]) (by rw [List.length_map]; omega) (fun H5 z => SqL.of (z _ _ enu)) ?_ (fun _ _ _ _ => gName_mono) ?_⟩
    · intro j x y H5 ex ey z Qe hq
      obtain ⟨n, en, rfl⟩ := get_map ex
      have ey2 : ((Mir.pick L ns).map (tV b))[j]? = some (tV b (L.getD n 0)) := map_get (pick_get en)
      obtain rfl := Option.some.inj (ey2.symm.trans ey)
      exact ⟨rfl, _, rfl, _, rfl, s, _, _, _, rfl, rfl, z.seq hs3, at_map (i := n) rfl (get_of_lt (hlt n (List.mem_of_getElem? en))), hq⟩
    intro H5 s6 eD
    refine ⟨(m, q, D, b, Mir.pick L ns), rfl, ⟨hm3.same s6, SqL.of eD, by rw [pick_len]; omega⟩, ?_⟩
    rintro _ H6 ⟨kp, rfl, nkp, s7, ekp⟩
    have s67 := s6.trans s7
    -- places = speakers(member, len(numbers), kept)
    refine ⟨_, rfl, _, rfl, nu, _, rfl, .inl (SqL.of (s67 _ _ enu)), _, rfl, (m, (kd, q), ns.length, kp, Mir.kept kd q (Mir.pick L ns), pl), (by rw [List.length_map]; rfl), ⟨hm3.same s67, SqL.of ekp, (by show ns.length ≤ 1000; omega), hpl⟩, ?_⟩
    rintro _ H7 ⟨pla, rfl, npla, s8, epla⟩
    have s678 := s67.trans s8
    -- voices = [places[voice] for voice in voices]
    refine ⟨_, rfl, vo, rfl, ⟨_, SqL.of (s678 _ _ evo)⟩, fun D2 nD2 => lc_map (walk_list (K := K) (xs := vs.map nV)) nD2 ((Mir.pick pl vs).map nV) (by rw [List.length_map, List.length_map, pick_len]) (by rw [List.length_map]; omega) (fun H8 z => SqL.of (z _ _ (s678 _ _ evo))) ?_ (fun _ _ _ _ => gName_mono) ?_⟩
    · intro j x y H8 ex ey z Qe hq
      obtain ⟨n, en, rfl⟩ := get_map ex
      have ey2 : ((Mir.pick pl vs).map nV)[j]? = some (nV (pl.getD n 0)) := map_get (pick_get en)
      obtain rfl := Option.some.inj (ey2.symm.trans ey)
      have lt : n < pl.length := of_decide_eq_true (List.all_eq_true.mp hva n (List.mem_of_getElem? en))
      exact ⟨rfl, _, rfl, _, rfl, pla, _, _, _, rfl, rfl, SqL.of (z _ _ epla), at_map (i := n) rfl (get_of_lt lt), hq⟩
    intro H8 s9 eD2
    -- numbers = [numbers[at] for at in kept]
    have ekp8 := s9 _ _ (s8 _ _ ekp)
    have enu8 := s9 _ _ (s678 _ _ enu)
    refine ⟨_, rfl, kp, rfl, ⟨_, SqL.of ekp8⟩, fun D3 nD3 => lc_map (walk_list (K := K) (xs := (Mir.kept kd q (Mir.pick L ns)).map nV)) nD3 ((Mir.leftM L ns kd q).map nV) (by unfold Mir.leftM; rw [List.length_map, List.length_map, pick_len]) ?_ (fun H9 z => SqL.of (z _ _ ekp8)) ?_ (fun _ _ _ _ => gName_mono) ?_⟩
    · have := kept_len kd q (Mir.pick L ns)
      rw [pick_len] at this
      rw [List.length_map]
      omega
    · intro j x y H9 ex ey z Qe hq
      obtain ⟨n, en, rfl⟩ := get_map ex
      have ey2 : ((Mir.leftM L ns kd q).map nV)[j]? = some (nV (ns.getD n 0)) := map_get (pick_get en)
      obtain rfl := Option.some.inj (ey2.symm.trans ey)
      have lt : n < ns.length := by
        have := kept_lt (List.mem_of_getElem? en)
        rw [pick_len] at this
        exact this
      exact ⟨rfl, _, rfl, _, rfl, nu, _, _, _, rfl, rfl, SqL.of (z _ _ enu8), at_map (i := n) rfl (get_of_lt lt), hq⟩
    intro H9 s10 eD3
    refine ⟨D3, D2, _, _, _, _, _, rfl, (s5.trans s678).trans (s9.trans s10), eD3, s10 _ _ eD2, hgo2, fun n h => hlt n (left_mem h), ?_, by rw [pick_len]; exact hlv⟩
    have := left_len L ns kd q
    omega
  · clear enu evo nnu nvo
    rintro σ H3 ⟨nu, vo, ns, vs, y4, y5, y6, rfl, s5, enu, evo, hgo, hlt, hln, hlv⟩
    rw [List.length_map, hms.len, List.drop_length] at hgo
    have hgo : some (ns, vs) = some (nf, vf) := hgo
    injection hgo with hgo
    injection hgo with e1 e2
    subst e1 e2
    have s45 := s4.trans s5
    -- heads = {}; tails = {}
    intro hd nhd tl ntl
    have s6 := same_up (u := .dK []) (same_up (u := .dK []) (Same.refl H3) nhd) (by
      have := (same_upd1 (u := .dK []) nhd).free ntl
      exact this)
    have ntlhd : tl ≠ hd := fun z => by rw [z, upd_same] at ntl; cases ntl
    have ntl3 : H3 tl = none := (same_upd1 (u := .dK []) nhd).free ntl
    refine ⟨_, rfl, vo, _, rfl, SqL.of (s6 _ _ evo), for_it (walk_enum (K := K) (xs := vs.map nV)) (fun i σ H4 => ∃ (hk tk : List (L2.Key × V)) (y9 y10 : Option V), σ = [some (.ref r), some (.ref s), some (.ref nu), some (.ref vo), y4, y5, y6, some (.ref hd), some (.ref tl), y9, y10, none, none] ∧ Same H3 H4 ∧
        H4 hd = some (.dK hk) ∧ H4 tl = some (.dK tk) ∧ hk.length ≤ i ∧ tk.length ≤ i ∧ ∀ v ∈ vs.take i, (valV hk (.inl (v : Int))).isSome = true ∧ (valV tk (.inl (v : Int))).isSome = true)
      ⟨[], [], none, none, rfl, s6, by rw [upd_ne ntlhd.symm, upd_same], upd_same, Nat.le_refl _, Nat.le_refl _, fun v h => by cases h⟩ (fun i σ H4 _ ⟨_, _, _, _, _, z, _⟩ => SqL.of (z _ _ evo)) ?_ ?_⟩
    · rintro i x σ H4 H5 hi ⟨hk, tk, y9, y10, rfl, s7, ehd, etl, lhk, ltk, hin⟩ ⟨T1, x1, x2, rfl, n1, rfl, e1, e2⟩
      obtain rfl := Option.some.inj e1
      obtain ⟨v, hv, rfl⟩ := get_map e2
      have lv : i < vs.length := lt_of_get hv
      have ehd5 := up_old (u := .tup [V.int (i : Nat), nV v]) ehd n1
      have etl5 := up_old (u := .tup [V.int (i : Nat), nV v]) etl n1
      have s8 := same_new (u := .tup [V.int (i : Nat), nV v]) s7 n1
      refine ⟨T1, _, rfl, SqT.of upd_same, rfl, _, _, rfl, _, _, rfl, rfl, ?_⟩
      refine ⟨_, rfl, hd, rfl, .inl ⟨hk, .inl ehd5⟩, _, rfl, _, rfl, _, DGet.k (k := .inl (v : Int)) ehd5, _, rfl, _, rfl, hd, _, rfl, DPut.k (k := .inl (v : Int)) ehd5 (len_ok (by omega)), ?_⟩
      generalize hg : (valV hk (.inl (v : Int) : L2.Key)).getD (V.int (i : Nat)) = hv2
      have etl6 : ∀ o, (upd (upd H4 T1 (.tup [V.int (i : Nat), nV v])) hd o) tl = some (.dK tk) := fun o => by rw [upd_ne ntlhd]; exact etl5
      refine ⟨_, rfl, _, rfl, _, rfl, tl, _, rfl, DPut.k (k := .inl (v : Int)) (etl6 _) (len_ok (by omega)), ?_⟩
      refine ⟨_, _, _, _, rfl, same_up (same_up s8 nhd) ntl3, by rw [upd_ne ntlhd.symm, upd_same], upd_same, ?_, ?_, ?_⟩
      · exact Nat.le_trans (length_putK _ _ _) (by omega)
      · exact Nat.le_trans (length_putK _ _ _) (by omega)
      · intro u hu2
        rw [List.take_succ, hv] at hu2
        rw [valV_put, valV_put]
        by_cases c : (Sum.inl (u : Int) : L2.Key) = Sum.inl (v : Int)
        · rw [if_pos c, if_pos c]
          exact ⟨rfl, rfl⟩
        · rw [if_neg c, if_neg c]
          rcases List.mem_append.mp hu2 with z | z
          · exact hin u z
          · rw [List.mem_singleton.mp z] at c
            exact absurd rfl c
    · rintro σ H4 ⟨hk, tk, y9, y10, rfl, s7, ehd, etl, lhk, ltk, hin⟩
      rw [List.length_map, List.take_length] at hin
      -- late = row.delays()
      have hrow4 := (hrow.same s45).same s7
      obtain ⟨dx4, tm4, ms4, er4, rest4⟩ := id hrow4
      refine ⟨_, rfl, r, dx4, _, rfl, er4, rfl, (r, rs), rfl, ⟨hrow4, hlr⟩, ?_⟩
      rintro _ H5 ⟨rfl, s8⟩
      generalize (rs.map late).sum = lt
      have enu5 := s8 _ _ (s7 _ _ enu)
      have hs5 := s8.seq (s7.seq (s45.seq hs))
      have ehd5 := s8 _ _ ehd
      have etl5 := s8 _ _ etl
      refine ⟨_, rfl, nu, _, rfl, SqL.of enu5, fun D nD => lc_it (walk_enum (K := K) (xs := ns.map nV))
        (fun i H6 => Same H5 H6 ∧ ∃ ms : List Addr, H6 D = some (.lst (ms.map V.ref)) ∧ ms.length = i ∧ ∀ (j : Nat) (m : Addr) (n : Nat), ms[j]? = some m → ns[j]? = some n → ToldAt K H6 m n)
        ⟨same_upd1 nD, [], upd_same, rfl, fun j m n z => by cases z⟩ (fun i H6 _ z => SqL.of (z.1 _ _ enu5)) ?_ ?_⟩
      · rintro i x H6 H7 hi ⟨s9, mm, eD, lmm, hmm⟩ ⟨T1, x1, x2, rfl, n1, rfl, e1, e2⟩
        obtain rfl := Option.some.inj e1
        obtain ⟨n, hn, rfl⟩ := get_map e2
        have ln : i < ns.length := lt_of_get hn
        have eD7 := up_old (u := .tup [V.int (i : Nat), nV n]) eD n1
        have s10 := same_new (u := .tup [V.int (i : Nat), nV n]) s9 n1
        have hmm7 : ∀ (j : Nat) (m : Addr) (n2 : Nat), mm[j]? = some m → ns[j]? = some n2 → ToldAt K (upd H6 T1 (.tup [V.int (i : Nat), nV n])) m n2 := fun j m n2 a c => by
          obtain ⟨d1, f1, q1, q2⟩ := hmm j m n2 a c
          exact ⟨d1, f1, up_old q1 n1, q2⟩
        have eT7 : (upd H6 T1 (.tup [V.int (i : Nat), nV n])) T1 = some (.tup [V.int (i : Nat), nV n]) := upd_same
        generalize upd H6 T1 (.tup [V.int (i : Nat), nV n]) = H7 at eD7 s10 hmm7 eT7
        refine ⟨T1, _, rfl, SqT.of eT7, rfl, _, _, rfl, _, _, rfl, rfl, ?_⟩
        refine ⟨rfl, tYes_go ?_⟩
        have lt1 : n < L.length := hlt n (List.mem_of_getElem? hn)
        have hvi : i ∈ vs := by
          have := List.all_eq_true.mp hall i (List.mem_range.mpr ln)
          exact List.contains_iff_mem.mp this
        obtain ⟨q1, q2⟩ := hin i hvi
        obtain ⟨h1, e1⟩ := Option.isSome_iff_exists.mp q1
        obtain ⟨h2, e2⟩ := Option.isSome_iff_exists.mp q2
        refine ⟨_, rfl, _, rfl, _, rfl, s, _, _, _, rfl, rfl, s10.seq hs5, at_map (i := n) rfl (get_of_lt lt1), _, rfl, _, _, rfl, rfl, ?_⟩
        have d1 := DGet.k (k := (Sum.inl (i : Int) : L2.Key)) (s10 _ _ ehd5)
        have d2 := DGet.k (k := (Sum.inl (i : Int) : L2.Key)) (s10 _ _ etl5)
        rw [e1] at d1
        rw [e2] at d2
        refine ⟨_, rfl, _, rfl, hd, h1, rfl, d1, _, rfl, _, rfl, tl, h2, rfl, d2, fun x dx nx ndx nex => ?_⟩
        refine ⟨((x, dx), _, _, _, _), rfl, upd_same, ?_⟩
        rintro _ H8 ⟨rfl, rfl⟩
        refine ⟨rfl, ?_⟩
        generalize hto : toldF (nV n) (V.int (b + (L.getD n 0 : Int) + (lt : Int))) h1 h2 = ff
        have s11 := same_made (C := He.ga K "Told") (fs := []) (gs := ff) (Same.refl H7) nx ndx
        have eD8 := s11 _ _ eD7
        refine ⟨_, eD8, len_ok (by rw [List.length_map]; omega), same_up (s10.trans s11) nD, mm ++ [x], by rw [upd_same, List.map_append]; rfl, by rw [List.length_append, lmm]; rfl, fun j m n2 e3 e4 => ?_⟩
        by_cases hj : j < mm.length
        · rw [List.getElem?_append_left hj] at e3
          obtain ⟨dd, fs, w1, w2⟩ := hmm7 j m n2 e3 e4
          have w3 := s11 _ _ w1
          exact ⟨dd, fs, by rw [upd_ne (ne_of w3 eD8 (fun z => by cases z))]; exact w3, w2⟩
        · have ej : j = mm.length := by
            have := lt_of_get e3
            rw [List.length_append] at this
            simp at this
            omega
          subst ej
          rw [List.getElem?_append_right (Nat.le_refl _), Nat.sub_self] at e3
          obtain rfl : x = m := Option.some.inj e3
          rw [lmm, hn] at e4
          obtain rfl := Option.some.inj e4
          refine ⟨dx, ff, by rw [upd_ne (ne_of_none eD7 nx).symm, upd_same], ?_⟩
          rw [← hto]
          rfl
      · rintro H6 ⟨s9, mm, eD, lmm, hmm⟩
        rw [List.length_map] at lmm
        exact k _ _ ⟨D, mm, rfl, (s45.trans (s7.trans (s8.trans s9))), eD, lmm, hmm⟩
end
end Qr
set_option maxHeartbeats 4000000
namespace Qr
open PySem PySem.Spec PyProof.Rows L2
/-! comprehensions over enumerate(list) that only read -/
theorem lc_enumM {K : PySem.W.Frag} {a : Addr} {g : TG} {te : TE} {vs : List Nat} {σ : L2.St} {H : Hp} {D : Addr} {Qd : Hp → Prop} {xs : List V} (hS : SqL K H a xs) (nD : H D = none) (ys : List V) (hl : ys.length = xs.length) (hz : xs.length ≤ 1000)
    (he : ∀ (i : Nat) (x y : V) (H2 : Hp) (T : Addr), xs[i]? = some x → ys[i]? = some y → Same H H2 → H2 T = some (.tup [.int (i : Nat), x]) → ∀ Qe : VK, Qe y H2 → g (.ref T) (wipe σ vs) H2 fun σ2 H3 => wipe σ2 vs = wipe σ vs ∧ te σ2 H3 Qe)
    (hg : ∀ x H2 (Q1 Q2 : L2.St → Hp → Prop), (∀ s h, Q1 s h → Q2 s h) → g x (wipe σ vs) H2 Q1 → g x (wipe σ vs) H2 Q2)
    (hd : ∀ H2, Same H H2 → H2 D = some (.lst ys) → Qd H2) :
    ∃ W : Nat → Nat → Hp → Prop, (∃ m, W 0 m (upd H D (.lst []))) ∧ ∀ i m H, W i m H →
      ((Ite K a).stop i H ∧ Qd H) ∨ ((Ite K a).go i H ∧ ∃ Nx : Hp → Prop, (∀ H', Nx H' → ∃ m', m' < m ∧ W (i + 1) m' H') ∧ ∀ x H', (Ite K a).yld i H x H' → g x (wipe σ vs) H' fun σ2 H2 => wipe σ2 vs = wipe σ vs ∧ tYes σ2 H2 fun b H3 =>
        if b = true then te σ2 H3 fun y H4 => ∃ acc, H4 D = some (.lst acc) ∧ acc.length < sizeLine ∧ Nx (upd H4 D (.lst (acc ++ [y]))) else Nx H3) := by
  refine lc_it (walk_enum (K := K) (xs := xs)) (fun i H2 => Same H H2 ∧ H2 D = some (.lst (ys.take i))) ⟨same_upd1 nD, upd_same⟩ (fun i H2 _ z => z.1.seq hS) ?_ ?_
  · rintro i x H2 H3 hi ⟨s2, eD⟩ ⟨T1, x1, x2, rfl, n1, rfl, e1, e2⟩
    obtain rfl := Option.some.inj e1
    have ly : i < ys.length := by omega
    have ey : ys[i]? = some ys[i] := List.getElem?_eq_getElem ly
    have s3 := same_new (u := .tup [V.int (i : Nat), x2]) s2 n1
    have eD3 := up_old (u := .tup [V.int (i : Nat), x2]) eD n1
    refine hg _ _ _ _ (fun σ2 h => fun z => ?_) (he i x2 _ _ T1 e2 ey s3 upd_same (fun y H4 => ∃ acc, H4 D = some (.lst acc) ∧ acc.length < sizeLine ∧ (Same H (upd H4 D (.lst (acc ++ [y]))) ∧ (upd H4 D (.lst (acc ++ [y]))) D = some (.lst (ys.take (i + 1))))) ?_)
    · exact ⟨z.1, tYes_go z.2⟩
    · refine ⟨_, eD3, len_ok (by rw [List.length_take]; omega), same_up s3 nD, ?_⟩
      rw [upd_same, List.take_succ, ey]
      rfl
  · rintro H2 ⟨s2, eD⟩
    rw [← hl, List.take_length] at eD
    exact hd H2 s2 eD
/-- the ints of a range -/
def rgL (lo : Int) (n : Nat) : List V := (List.range n).map fun (i : Nat) => V.int (lo + (i : Int))
theorem rgL_len (lo : Int) (n : Nat) : (rgL lo n).length = n := by unfold rgL; rw [List.length_map, List.length_range]
theorem rgL_get {lo : Int} {n i : Nat} {x : V} (h : (rgL lo n)[i]? = some x) : i < n ∧ x = V.int (lo + (i : Int)) := by
  obtain ⟨j, hj, rfl⟩ := get_map h
  obtain ⟨lj, e⟩ := List.getElem?_eq_some_iff.mp hj
  rw [List.length_range] at lj
  rw [List.getElem_range] at e
  subst e
  exact ⟨lj, rfl⟩
theorem walk_rangeL {lo : Int} {n : Nat} : Walk (Itr lo n) (rgL lo n).length (fun _ => True) (YAt (rgL lo n)) := by
  rw [rgL_len]
  refine walk_range.mono (fun _ _ => trivial) fun i H x H' hi _ y => ⟨y.1, ?_⟩
  unfold rgL
  rw [List.getElem?_map, List.getElem?_range hi, y.2]
  rfl
theorem gTup2_mono {K : PySem.W.Frag} {n i j : Nat} {x : V} {σ : L2.St} {H2 : Hp} {Q1 Q2 : L2.St → Hp → Prop} (h : ∀ s h, Q1 s h → Q2 s h) (z : gTup K n (gCons (gName i) (gCons (gName j) gNil)) x σ H2 Q1) : gTup K n (gCons (gName i) (gCons (gName j) gNil)) x σ H2 Q2 := by
  obtain ⟨a, xs, e1, e2, e3, v, r, e4, v2, r2, e5, e6, q⟩ := z
  exact ⟨a, xs, e1, e2, e3, v, r, e4, v2, r2, e5, e6, h _ _ q⟩
/-! lengths of the tables -/
theorem folded_len (a b : List Nat) (n : Nat) : (Mir.folded a b n).length = n + 1 := by
  unfold Mir.folded
  rw [List.length_map, List.length_range]
theorem above_len (q : Nat) (a : List Nat) : (Mir.above q a).length = a.length := by
  unfold Mir.above
  rw [List.length_map, List.length_range]
theorem below_len (q : Nat) (a : List Nat) : (Mir.below q a).length = a.length := by
  unfold Mir.below
  rw [List.length_map, List.length_range]
theorem chainsGo_len (st : List Nat) (q : Nat) : ∀ (n w : Nat) (f : List Nat), (Mir.chainsGo st q n w f).length = f.length + n
  | 0, _, _ => rfl
  | n + 1, w, f => by
    show (Mir.chainsGo st q n (w + 1) (f ++ [_])).length = _
    rw [chainsGo_len st q n (w + 1), List.length_append]
    simp
    omega
theorem chains_len (st : List Nat) (n q : Nat) : (Mir.chainsM st n q).length = n + 1 := by
  unfold Mir.chainsM
  rw [chainsGo_len]
  simp
  omega
theorem bnd_at {xs : List Nat} (h : Mir.bnd xs = true) (i : Nat) : xs.getD i 0 < 1000000000 := by
  rw [List.getD_eq_getElem?_getD]
  cases e : xs[i]? with
  | none => show (0 : Nat) < 1000000000; decide
  | some x => exact of_decide_eq_true (List.all_eq_true.mp h x (List.mem_of_getElem? e))
theorem chainsGo_pre (st : List Nat) (q : Nat) : ∀ (n w : Nat) (f : List Nat), ∃ t, Mir.chainsGo st q n w f = f ++ t
  | 0, _, f => ⟨[], (List.append_nil f).symm⟩
  | n + 1, w, f => by
    obtain ⟨t, e⟩ := chainsGo_pre st q n (w + 1) (f ++ [((List.range (min w (q - 1))).map fun j => st.getD (j + 1) 0 * f.getD (w - (j + 1)) 0).sum])
    refine ⟨[((List.range (min w (q - 1))).map fun j => st.getD (j + 1) 0 * f.getD (w - (j + 1)) 0).sum] ++ t, ?_⟩
    rw [← List.append_assoc]
    exact e
theorem bnd_pre {f t : List Nat} (h : Mir.bnd (f ++ t) = true) : Mir.bnd f = true := List.all_eq_true.mpr fun x hx => List.all_eq_true.mp h x (List.mem_append_left _ hx)
/-! sums of whole numbers in a list -/
theorem rd_sum {K : PySem.W.Frag} {H : Hp} {a : Addr} {l : List Nat} {Q : VK} (h : H a = some (.lst (l.map nV))) (q : Q (nV l.sum) H) : rSum K [.ref a] H Q := by
  refine ⟨a, l.map fun (n : Nat) => (n : Int), rfl, SqL.of (by rw [map_nV]; exact h), ?_⟩
  rw [sum_cast]
  exact q
section
variable {P : Program} {w : World} {K : PySem.W.Frag} {mg : Str → Option Value} {base : Heap}
/-! check_numbers -/
def spCheckN (K : PySem.W.Frag) : Sp := spOf (fun a : Addr × Int × List Nat × Addr × List Nat => [.ref a.1, .ref a.2.2.2.1])
  (fun a H => SqL K H a.1 (a.2.2.1.map (tV a.2.1)) ∧ SqL K H a.2.2.2.1 (a.2.2.2.2.map nV) ∧ (∀ i x y, a.2.2.2.2[i]? = some x → a.2.2.2.2[i + 1]? = some y → x < y) ∧ ∀ n ∈ a.2.2.2.2, n < a.2.2.1.length)
  (fun _ H r H' => r = .non ∧ Same H H')
theorem ok_check_numbers (T : Txt K mg) : Cal P w K mg base "check_numbers" ["stream", "numbers"] 2 (spCheckN K) := by
  have G_is_number := ok_is_number (P := P) (w := w) (base := base) T
  refine ⟨fn_mk T.F_check_numbers sc_check_numbers bd_check_numbers (spOf_len fun _ => rfl) (fun cdv A outer s H vs Q E hr h => ?_), T.F_check_numbers.elim fun _ F => F.kp, T.g_check_numbers⟩
  obtain ⟨⟨a, b, L, nu, ns⟩, rfl, ⟨hS, hN, hI, hlt⟩, k⟩ := h
  dsimp only at hS hN hI hlt k
  refine ⟨_, (pss_cons (ps_if (pt_not (pt_val (pe_callB call_isiT rfl T.z_isinstance (by decide +kernel) (pa_cons (pv 1) (pa_cons (pe_tup (pa_cons (pe_bltn (v := .ty "list") rfl T.z_list (by decide +kernel) rfl) (pa_cons (pe_bltn (v := .ty "tuple") rfl T.z_tuple (by decide +kernel) rfl) pa_nil))) pa_nil))))) pss_never pss_nil) (pss_one (ps_for PassesOwn.never rfl (pi_enum rfl T.z_enumerate (pa_cons (pv 1) pa_nil)) (pg_tup rfl (pgs_cons (pg_name (i := 2) sc_check_numbers.nd rfl (.inl rfl)) (pgs_cons (pg_name (i := 3) sc_check_numbers.nd rfl (.inl rfl)) pgs_nil))) (pss_one (ps_if (PW.pt (pw_or (pt_not (pt_val (pe_c G_is_number (hr.mono (by omega)) rfl (pa_cons (pv 3) pa_nil)))) (pw_or (pt_not (pt_chain op_le op_lt pe_int (pv 3) (pe_callB call_len_seq rfl T.z_len (by decide +kernel) (pa_cons (pv 0) pa_nil)))) (pw_or1 (PW.pt (pw_and (pt_cmpR op_gt (pv 2) pe_int (nomark _)) (pw_and1 (pt_cmpR op_le (pv 3) (pe_ix ix_list (pv 1) (pe_op op_sub (pv 2) pe_int) (fun _ _ => rfl)) (nomark _))))))))) pss_never pss_nil))))), ?_⟩
  refine ⟨_, rfl, len_ok' (by show 2 ≤ 1000; decide), fun t nt => ?_⟩
  have s1 : Same H (upd H t (.tup [.ty "list", .ty "tuple"])) := same_upd1 nt
  refine ⟨.ref nu, t, _, .type "list", [.type "list", .type "tuple"], true, rfl, upd_same, .cons (.ty _) (.cons (.ty _) .nil), tyL (s1.seq hN), kitAny_cons (b := true) (kit_ty (by decide +kernel)) (fun z => by cases z) (fun _ => rfl), _, rfl, iteF ?_⟩
  refine ⟨_, rfl, nu, _, rfl, s1.seq hN, for_it (walk_enum (K := K) (xs := ns.map nV)) (fun i σ H2 => ∃ y1 y2, σ = [some (.ref a), some (.ref nu), y1, y2] ∧ Same H H2) ⟨_, _, rfl, s1⟩ (fun i σ H2 _ ⟨_, _, _, s⟩ => s.seq hN) ?_ ?_⟩
  · rintro i x σ H2 H3 hi ⟨y1, y2, rfl, s2⟩ ⟨T1, x1, x2, rfl, n1, rfl, e1, e2⟩
    obtain rfl := Option.some.inj e1
    obtain ⟨z, hz, rfl⟩ := get_map e2
    have s3 := same_new (u := .tup [V.int (i : Nat), nV z]) s2 n1
    refine ⟨T1, _, rfl, SqT.of upd_same, rfl, _, _, rfl, _, _, rfl, rfl, ?_⟩
    refine ⟨_, rfl, (z : Int), rfl, trivial, ?_⟩
    rintro _ H4 ⟨rfl, rfl⟩
    refine ⟨_, rfl, iteF ?_⟩
    have lz := hlt z (List.mem_of_getElem? hz)
    refine ⟨_, rfl, _, _, rfl, rfl, _, rfl, ?_⟩
    rw [decide_eq_true (show (0 : Int) ≤ (z : Int) by omega)]
    refine iteT ⟨_, rfl, a, _, rfl, .inl (s3.seq hS), _, _, rfl, rfl, _, rfl, ?_⟩
    rw [List.length_map, decide_eq_true (show (z : Int) < (L.length : Int) by omega)]
    refine iteF ⟨_, rfl, _, _, rfl, rfl, _, rfl, ?_⟩
    cases i with
    | zero => exact iteF (iteF ⟨_, _, rfl, s3⟩)
    | succ j =>
      refine ite2 (fun _ => ?_) (fun _ => iteF ⟨_, _, rfl, s3⟩)
      have hj : j < ns.length := by
        have := lt_of_get hz
        omega
      refine ⟨_, rfl, _, rfl, _, rfl, _, _, rfl, rfl, nu, _, _, _, rfl, rfl, s3.seq hN, at_map (i := j) (by simp) (List.getElem?_eq_getElem hj), _, _, rfl, rfl, _, rfl, ?_⟩
      have lt := hI j _ _ (List.getElem?_eq_getElem hj) hz
      rw [decide_eq_false (by omega)]
      exact iteF ⟨_, _, rfl, s3⟩
  · rintro σ H2 ⟨y1, y2, rfl, s2⟩
    exact k _ _ ⟨rfl, s2⟩
/-! folded -/
def lcSc : List Stmt → Scope
  | [.Return (some (.ListComp _ _ sc _)) _] => sc
  | _ => { kind := .function, names := [], isGenerator := false, isCoroutine := false }
def spFolded (K : PySem.W.Frag) : Sp := spOf (fun a : Addr × List Nat × Addr × List Nat × Nat => [.ref a.1, .ref a.2.2.1, nV a.2.2.2.2])
  (fun a H => SqL K H a.1 (a.2.1.map nV) ∧ SqL K H a.2.2.1 (a.2.2.2.1.map nV) ∧ Mir.bnd a.2.1 = true ∧ a.2.1.length = a.2.2.2.2 + 1 ∧ a.2.2.2.1.length = a.2.2.2.2 + 1 ∧ a.2.2.2.2 ≤ 500)
  (fun a H r H' => ∃ p, r = .ref p ∧ H p = none ∧ Same H H' ∧ H' p = some (.lst ((Mir.folded a.2.1 a.2.2.2.1 a.2.2.2.2).map nV)))
theorem ok_folded (T : Txt K mg) : Cal P w K mg base "folded" ["one", "other", "size"] 1 (spFolded K) := by
  refine ⟨fn_mk T.F_folded sc_folded bd_folded (spOf_len fun _ => rfl) (fun cdv A outer s H vs Q E hr h => ?_), T.F_folded.elim fun _ F => F.kp, T.g_folded⟩
  obtain ⟨⟨a, xs, b, ys, n⟩, rfl, ⟨ha, hb, hbn, hx, hy, hn⟩, k⟩ := h
  dsimp only at ha hb hbn hx hy hn k
  refine ⟨_, (pss_one (ps_ret (pe_lc (own := [("whole", 3)]) (by rfl) sc_folded.nd (pi_range1 rfl T.z_range (pa_cons (pe_op op_add (pv 2) pe_int) pa_nil)) (blkOk_by (own := [("whole", 3)]) (N := ["one", "other", "size", "whole", "part"]) (sc := defScope sf_folded) (by decide +kernel)) (fun _ _ _ _ _ => (pg_name (i := 3) sc_folded.nd rfl (by first | exact Or.inl rfl | exact Or.inr rfl))) (fun _ _ _ _ _ => pts_nil) (fun _ _ _ _ _ => (pe_callB (cr_sumK (K := K) rfl rfl) rfl T.z_sum (by decide +kernel) (pa_cons (pe_lc (own := [("part", 4)]) (by rfl) sc_folded.nd (pi_range1 rfl T.z_range (pa_cons (pe_op op_add (pv 3) pe_int) pa_nil)) (blkOk_by (own := [("part", 4)]) (N := ["one", "other", "size", "whole", "part"]) (sc := relS (lcSc (defBody sf_folded)) (defScope sf_folded)) (by decide +kernel)) (fun _ _ _ _ _ => (pg_name (i := 4) sc_folded.nd rfl (by first | exact Or.inl rfl | exact Or.inr rfl))) (fun _ _ _ _ _ => pts_nil) (fun _ _ _ _ _ => (pe_op op_mul (pe_ix (ix_listK (K := K) rfl) (pv 0) (pv 4) (fun _ _ => rfl)) (pe_ix (ix_listK (K := K) rfl) (pv 1) (pe_op op_sub (pv 3) (pv 4)) (fun _ _ => rfl))))) pa_nil)))))), ?_⟩
  refine ⟨_, rfl, _, _, rfl, rfl, ((n + 1 : Nat) : Int), rfl, by omega, by omega, fun D nD => lc_it (walk_range (lo := 0) (n := n + 1))
    (fun i H2 => Same H H2 ∧ H2 D = some (.lst (((Mir.folded xs ys n).take i).map nV))) ⟨same_upd1 nD, upd_same⟩ (fun _ _ _ _ => trivial) ?_ ?_⟩
  · rintro i x H2 H3 hi ⟨s2, eD⟩ ⟨rfl, rfl⟩
    refine ⟨rfl, tYes_go ?_⟩
    refine ⟨_, rfl, _, _, rfl, rfl, ((i + 1 : Nat) : Int), (by simp), by omega, by omega, fun D2 nD2 => lc_map (walk_rangeL (lo := 0) (n := i + 1)) nD2
      (((List.range (i + 1)).map fun p => xs.getD p 0 * ys.getD (i - p) 0).map nV) (by rw [rgL_len, List.length_map, List.length_map, List.length_range]) (by rw [rgL_len]; omega) (fun _ _ => trivial) ?_ (fun _ _ _ _ => gName_mono) ?_⟩
    · intro j x y H4 ex ey z Qe hq
      obtain ⟨lj, rfl⟩ := rgL_get ex
      have ey2 : (((List.range (i + 1)).map fun p => xs.getD p 0 * ys.getD (i - p) 0).map nV)[j]? = some (nV (xs.getD j 0 * ys.getD (i - j) 0)) := map_get (map_get (List.getElem?_range lj))
      obtain rfl := Option.some.inj (ey2.symm.trans ey)
      have z2 := s2.trans z
      have b1 := bnd_at hbn j
      refine ⟨rfl, _, rfl, _, rfl, a, _, _, _, rfl, rfl, z2.seq ha, at_map (i := j) (by simp) (get_of_lt (by omega)), _, rfl, _, rfl, _, rfl, _, _, rfl, rfl, b, _, _, _, rfl, rfl, z2.seq hb, at_map (i := i - j) (by omega) (get_of_lt (by omega)), _, _, rfl, rfl, .inl ⟨by omega, by omega⟩, ?_⟩
      have e : V.int ((xs.getD j 0 : Int) * (ys.getD (i - j) 0 : Int)) = nV (xs.getD j 0 * ys.getD (i - j) 0) := by
        show _ = V.int (((xs.getD j 0 * ys.getD (i - j) 0 : Nat)) : Int)
        rw [Int.natCast_mul]
      dsimp only
      rw [e]
      exact hq
    · intro H4 z eD2
      dsimp only [tNil]
      refine rd_sum eD2 ?_
      refine ⟨_, z _ _ eD, len_ok (by rw [List.length_map, List.length_take]; omega), same_up (s2.trans z) nD, ?_⟩
      have ew : (Mir.folded xs ys n)[i]? = some (((List.range (i + 1)).map fun p => xs.getD p 0 * ys.getD (i - p) 0).sum) := by
        unfold Mir.folded
        exact map_get (List.getElem?_range hi)
      rw [upd_same, take_map nV ew]
  · rintro H2 ⟨s2, eD⟩
    refine k _ _ ⟨D, rfl, nD, s2, ?_⟩
    rw [eD, List.take_of_length_le (by rw [folded_len]; exact Nat.le_refl _)]
end
end Qr
set_option maxHeartbeats 4000000
namespace Qr
open PySem PySem.Spec PyProof.Rows L2
/-! all but one object stays -/
def Keep (p : Addr) (H H' : Hp) : Prop := ∀ b o, H b = some o → b ≠ p → H' b = some o
theorem keep_of {p : Addr} {H H' : Hp} (s : Same H H') : Keep p H H' := fun b o e _ => s b o e
theorem Keep.trans {p : Addr} {H H1 H2 : Hp} (a : Keep p H H1) (b : Keep p H1 H2) : Keep p H H2 := fun c o e n => b c o (a c o e n) n
theorem keep_up {p : Addr} {H H1 : Hp} {o : HO} (a : Keep p H H1) : Keep p H (upd H1 p o) := fun b o e n => by
  rw [upd_ne n]
  exact a b o e n
/-- a new object behind it all: nothing is lost -/
theorem same_keep {p : Addr} {H H1 : Hp} (k : Keep p H H1) (n : H p = none) : Same H H1 := fun b o e => k b o e (ne_of_none e n)
/-! the tables -/
def wyF (n : Nat) (a b c : Addr) : List (Str × V) := [("size", nV n), ("steps", .ref a), ("heads", .ref b), ("tails", .ref c)]
structure WayAt (K : PySem.W.Frag) (H : Hp) (p : Addr) (n : Nat) (w : Mir.Wy) : Prop where
  ex : ∃ dx a b c, H p = some (.ins (He.ga K "Ways") dx (wyF n a b c)) ∧ H a = some (.lst (w.st.map nV)) ∧ H b = some (.lst (w.hd.map nV)) ∧ H c = some (.lst (w.tl.map nV))
theorem WayAt.same {K : PySem.W.Frag} {H H' : Hp} {p : Addr} {n : Nat} {w : Mir.Wy} (h : WayAt K H p n w) (s : Same H H') : WayAt K H' p n w := by
  obtain ⟨dx, a, b, c, h1, h2, h3, h4⟩ := h.ex
  exact ⟨dx, a, b, c, s _ _ h1, s _ _ h2, s _ _ h3, s _ _ h4⟩
structure WLen (n : Nat) (w : Mir.Wy) : Prop where
  st : w.st.length = n + 1
  hd : w.hd.length = n + 1
  tl : w.tl.length = n + 1
theorem WLen.add {n : Nat} {w : Mir.Wy} (h : WLen n w) (r : Rec) : WLen n (Mir.addW n w r) := by
  obtain ⟨k, q⟩ := r
  cases k with
  | last => exact ⟨folded_len _ _ _, folded_len _ _ _, h.tl⟩
  | first => exact ⟨folded_len _ _ _, h.hd, folded_len _ _ _⟩
  | limit => exact ⟨by show (Mir.above q _).length = n + 1; rw [above_len, folded_len], h.hd, folded_len _ _ _⟩
theorem flat_rep {α : Type} (x : α) : ∀ n : Nat, (List.replicate n [x]).flatten = List.replicate n x
  | 0 => rfl
  | n + 1 => by
    rw [List.replicate_succ, List.flatten_cons, flat_rep x n, List.replicate_succ]
    rfl
theorem bnd_below {q : Nat} {xs : List Nat} (h : Mir.bnd xs = true) : Mir.bnd (Mir.below q xs) = true := by
  refine List.all_eq_true.mpr fun x hx => decide_eq_true ?_
  obtain ⟨i, _, e⟩ := List.mem_map.mp hx
  have b := bnd_at h i
  by_cases c : i < q
  · rw [if_pos c] at e
    omega
  · rw [if_neg c] at e
    omega
section
variable {P : Program} {w : World} {K : PySem.W.Frag} {mg : Str → Option Value} {base : Heap}
/-! Ways.__init__ -/
def spWInit (K : PySem.W.Frag) : Sp := spOf (fun a : Addr × Addr × Nat => [.ref a.1, nV a.2.2]) (fun a H => H a.1 = some (.ins (He.ga K "Ways") a.2.1 []) ∧ a.2.2 ≤ 500)
  (fun a H r H' => r = .non ∧ WayAt K H' a.1 a.2.2 (Mir.wy0 a.2.2) ∧ Keep a.1 H H')
theorem ok_Ways_init (T : Txt K mg) : CalI P w K mg base "Ways" ["self", "size"] 1 (spWInit K) := by
  refine ⟨fn_mk T.M_Ways_init sc_Ways_init bd_Ways_init (spOf_len fun _ => rfl) (fun cdv A outer s H vs Q E hr h => ?_), T.k_Ways, T.g_Ways⟩
  obtain ⟨⟨p, dx, n⟩, rfl, ⟨hp, hn⟩, k⟩ := h
  dsimp only at hp hn k
  refine ⟨_, (pss_cons (ps_fld (pv 0) (pv 1) (by rfl)) (pss_cons (ps_fld (pv 0) (pe_op op_cat (pe_lst (pa_cons pe_int pa_nil)) (pe_op op_rep (pe_lst (pa_cons pe_int pa_nil)) (pv 1))) (by rfl)) (pss_cons (ps_fld (pv 0) (pe_op op_rep (pe_lst (pa_cons pe_int pa_nil)) (pe_op op_add (pv 1) pe_int)) (by rfl)) (pss_one (ps_fld (pv 0) (pe_op op_rep (pe_lst (pa_cons pe_int pa_nil)) (pe_op op_add (pv 1) pe_int)) (by rfl)))))), ?_⟩
  -- size
  refine ⟨_, rfl, _, rfl, p, _, dx, [], rfl, hp, T.c_Ways, T.n_Ways_size, (by decide), ?_⟩
  have ka : Keep p H (upd H p (.ins (He.ga K "Ways") dx (putF "size" (nV n) []))) := keep_up (keep_of (Same.refl H))
  have ea : (upd H p (.ins (He.ga K "Ways") dx (putF "size" (nV n) []))) p = some (.ins (He.ga K "Ways") dx [("size", nV n)]) := upd_same
  generalize upd H p (.ins (He.ga K "Ways") dx (putF "size" (nV n) [])) = Ha at ka ea
  have le1 : ([V.int 0] : List V).length ≤ sizeLine := len_ok' (by decide)
  have le2 : ([V.int 1] : List V).length ≤ sizeLine := len_ok' (by decide)
  -- steps
  refine ⟨le1, fun l0 n0 => ⟨le2, fun l1 n1 => ⟨_, rfl, l1, (n : Int), _, rfl, rfl, upd_same, by omega, by omega, len_ok' (by simp; omega), fun l2 n2 => ⟨l0, l2, _, _, rfl, rfl, up_old (up_old upd_same n1) n2, upd_same, len_ok' (by rw [flat_rep]; simp; omega), fun l3 n3 => ?_⟩⟩⟩⟩
  rw [flat_rep]
  have s1 := same_new (u := .lst [V.int 0]) (Same.refl Ha) n0
  have s2 := same_new (u := .lst [V.int 1]) s1 n1
  have s3 := same_new (u := .lst (List.replicate (n : Int).toNat [V.int 1]).flatten) s2 n2
  have s4 := same_new (u := .lst ([V.int 0] ++ (List.replicate (n : Int).toNat [V.int 1]).flatten)) s3 n3
  have e3 : (upd (upd (upd (upd Ha l0 (.lst [V.int 0])) l1 (.lst [V.int 1])) l2 (.lst (List.replicate (n : Int).toNat [V.int 1]).flatten)) l3 (.lst ([V.int 0] ++ (List.replicate (n : Int).toNat [V.int 1]).flatten))) l3 = some (.lst ((Mir.wy0 n).st.map nV)) := by
    rw [upd_same, flat_rep]
    show some (HO.lst (V.int 0 :: List.replicate n (V.int 1))) = some (HO.lst ((0 :: List.replicate n 1).map nV))
    rw [List.map_cons, List.map_replicate]
    rfl
  rw [flat_rep] at s3 s4 e3
  generalize upd (upd (upd (upd Ha l0 (.lst [V.int 0])) l1 (.lst [V.int 1])) l2 (.lst (List.replicate (n : Int).toNat (V.int 1)))) l3 (.lst ([V.int 0] ++ List.replicate (n : Int).toNat (V.int 1))) = Hb at s4 e3
  refine ⟨_, rfl, p, _, dx, _, rfl, s4 _ _ ea, T.c_Ways, T.n_Ways_steps, (by show 1 < 1000; decide), ?_⟩
  have f2 : putF "steps" (.ref l3) [("size", nV n)] = ([("size", nV n), ("steps", .ref l3)] : List (Str × V)) := putF_ne (by decide +kernel)
  rw [f2]
  have kb := (ka.trans (keep_of s4)).trans (keep_up (o := .ins (He.ga K "Ways") dx [("size", nV n), ("steps", .ref l3)]) (keep_of (Same.refl Hb)))
  have nl3 : l3 ≠ p := ne_of e3 (s4 _ _ ea) (fun z => by cases z)
  have e3' : (upd Hb p (.ins (He.ga K "Ways") dx [("size", nV n), ("steps", .ref l3)])) l3 = some (.lst ((Mir.wy0 n).st.map nV)) := by rw [upd_ne nl3]; exact e3
  have ep : (upd Hb p (.ins (He.ga K "Ways") dx [("size", nV n), ("steps", .ref l3)])) p = some (.ins (He.ga K "Ways") dx [("size", nV n), ("steps", .ref l3)]) := upd_same
  generalize upd Hb p (.ins (He.ga K "Ways") dx [("size", nV n), ("steps", .ref l3)]) = Hc at kb e3' ep
  -- heads
  refine ⟨le2, fun l4 n4 => ⟨_, rfl, _, _, rfl, rfl, l4, (n : Int) + 1, _, rfl, rfl, upd_same, by omega, by omega, len_ok' (by simp; omega), fun l5 n5 => ?_⟩⟩
  rw [flat_rep]
  have s5 := same_new (u := .lst (List.replicate ((n : Int) + 1).toNat (V.int 1))) (same_new (u := .lst [V.int 1]) (Same.refl Hc) n4) n5
  have e5 : (upd (upd Hc l4 (.lst [V.int 1])) l5 (.lst (List.replicate ((n : Int) + 1).toNat (V.int 1)))) l5 = some (.lst ((Mir.wy0 n).hd.map nV)) := by
    rw [upd_same, show ((n : Int) + 1).toNat = n + 1 by omega]
    show _ = some (HO.lst ((List.replicate (n + 1) 1).map nV))
    rw [List.map_replicate]
    rfl
  generalize upd (upd Hc l4 (.lst [V.int 1])) l5 (.lst (List.replicate ((n : Int) + 1).toNat (V.int 1))) = Hd at s5 e5
  refine ⟨_, rfl, p, _, dx, _, rfl, s5 _ _ ep, T.c_Ways, T.n_Ways_heads, (by show 2 < 1000; decide), ?_⟩
  have f3 : putF "heads" (.ref l5) [("size", nV n), ("steps", .ref l3)] = ([("size", nV n), ("steps", .ref l3), ("heads", .ref l5)] : List (Str × V)) := by
    rw [putF_ne (by decide +kernel), putF_ne (by decide +kernel)]
    rfl
  rw [f3]
  have kc := (kb.trans (keep_of s5)).trans (keep_up (o := .ins (He.ga K "Ways") dx [("size", nV n), ("steps", .ref l3), ("heads", .ref l5)]) (keep_of (Same.refl Hd)))
  have nl5 : l5 ≠ p := ne_of e5 (s5 _ _ ep) (fun z => by cases z)
  have e5' : (upd Hd p (.ins (He.ga K "Ways") dx [("size", nV n), ("steps", .ref l3), ("heads", .ref l5)])) l5 = some (.lst ((Mir.wy0 n).hd.map nV)) := by rw [upd_ne nl5]; exact e5
  have e3'' : (upd Hd p (.ins (He.ga K "Ways") dx [("size", nV n), ("steps", .ref l3), ("heads", .ref l5)])) l3 = some (.lst ((Mir.wy0 n).st.map nV)) := by rw [upd_ne nl3]; exact s5 _ _ e3'
  have ep2 : (upd Hd p (.ins (He.ga K "Ways") dx [("size", nV n), ("steps", .ref l3), ("heads", .ref l5)])) p = some (.ins (He.ga K "Ways") dx [("size", nV n), ("steps", .ref l3), ("heads", .ref l5)]) := upd_same
  generalize upd Hd p (.ins (He.ga K "Ways") dx [("size", nV n), ("steps", .ref l3), ("heads", .ref l5)]) = He2 at kc e5' e3'' ep2
  -- tails
  refine ⟨le2, fun l6 n6 => ⟨_, rfl, _, _, rfl, rfl, l6, (n : Int) + 1, _, rfl, rfl, upd_same, by omega, by omega, len_ok' (by simp; omega), fun l7 n7 => ?_⟩⟩
  rw [flat_rep]
  have s7 := same_new (u := .lst (List.replicate ((n : Int) + 1).toNat (V.int 1))) (same_new (u := .lst [V.int 1]) (Same.refl He2) n6) n7
  have e7 : (upd (upd He2 l6 (.lst [V.int 1])) l7 (.lst (List.replicate ((n : Int) + 1).toNat (V.int 1)))) l7 = some (.lst ((Mir.wy0 n).tl.map nV)) := by
    rw [upd_same, show ((n : Int) + 1).toNat = n + 1 by omega]
    show _ = some (HO.lst ((List.replicate (n + 1) 1).map nV))
    rw [List.map_replicate]
    rfl
  generalize upd (upd He2 l6 (.lst [V.int 1])) l7 (.lst (List.replicate ((n : Int) + 1).toNat (V.int 1))) = Hf at s7 e7
  refine ⟨_, rfl, p, _, dx, _, rfl, s7 _ _ ep2, T.c_Ways, T.n_Ways_tails, (by show 3 < 1000; decide), ?_⟩
  have f4 : putF "tails" (.ref l7) [("size", nV n), ("steps", .ref l3), ("heads", .ref l5)] = wyF n l3 l5 l7 := by
    rw [putF_ne (by decide +kernel), putF_ne (by decide +kernel), putF_ne (by decide +kernel)]
    rfl
  rw [f4]
  have nl7 : l7 ≠ p := ne_of e7 (s7 _ _ ep2) (fun z => by cases z)
  refine k _ _ ⟨rfl, ⟨dx, l3, l5, l7, upd_same, ?_, ?_, ?_⟩, (kc.trans (keep_of s7)).trans (keep_up (keep_of (Same.refl Hf)))⟩
  · rw [upd_ne nl3]
    exact s7 _ _ e3''
  · rw [upd_ne nl5]
    exact s7 _ _ e5'
  · rw [upd_ne nl7]
    exact e7
/-! Ways.chains -/
def spChains (K : PySem.W.Frag) : Sp := spOf (fun a : Addr × Nat × Mir.Wy × Nat => [.ref a.1, nV a.2.2.2]) (fun a H => WayAt K H a.1 a.2.1 a.2.2.1 ∧ WLen a.2.1 a.2.2.1 ∧ 1 ≤ a.2.2.2 ∧ a.2.1 ≤ 500 ∧ Mir.bnd (Mir.chainsM a.2.2.1.st a.2.1 a.2.2.2) = true)
  (fun a H r H' => ∃ c, r = .ref c ∧ H c = none ∧ Same H H' ∧ H' c = some (.lst ((Mir.chainsM a.2.2.1.st a.2.1 a.2.2.2).map nV)))
theorem ok_Ways_chains (T : Txt K mg) : CalM P w K mg base "Ways" "chains" ["self", "quiet"] 1 (spChains K) := by
  refine ⟨fn_mk T.M_Ways_chains sc_Ways_chains bd_Ways_chains (spOf_len fun _ => rfl) (fun cdv A outer s H vs Q E hr h => ?_), T.c_Ways, T.m_Ways_chains⟩
  obtain ⟨⟨p, n, wy, q⟩, rfl, ⟨hw, hl, hq, hn, hb⟩, k⟩ := h
  dsimp only at hw hl hq hn hb k
  refine ⟨_, (pss_cons (ps_set (i := 2) sc_Ways_chains.nd rfl (.inr rfl) (pe_lst (pa_cons pe_int pa_nil))) (pss_cons (ps_for PassesOwn.never rfl (pi_range2 rfl T.z_range (pa_cons pe_int (pa_cons (pe_op op_add (pe_fld (pv 0) (by rfl)) pe_int) pa_nil))) (pg_name (i := 3) sc_Ways_chains.nd rfl (.inr rfl)) (pss_cons (ps_set (i := 4) sc_Ways_chains.nd rfl (.inl rfl) (pe_callB (call_min2 rfl) rfl T.z_min (by decide +kernel) (pa_cons (pv 3) (pa_cons (pe_op op_sub (pv 1) pe_int) pa_nil)))) (pss_one (ps_expr (pe_bm PySem.F.plainAttrs_list PySem.F.slot_list_append PySem.F.type_list_append mt_append (pv 2) (pa_cons (pe_callB (cr_sum rfl) rfl T.z_sum (by decide +kernel) (pa_cons (pe_lc (own := [("step", 5)]) (by rfl) sc_Ways_chains.nd (pi_range2 rfl T.z_range (pa_cons pe_int (pa_cons (pe_op op_add (pv 4) pe_int) pa_nil))) (blkOk_by (own := [("step", 5)]) (N := ["self", "quiet", "found", "whole", "longest", "step"]) (sc := defScope s_Ways_chains) (by decide +kernel)) (fun _ _ _ _ _ => (pg_name (i := 5) sc_Ways_chains.nd rfl (by first | exact Or.inl rfl | exact Or.inr rfl))) (fun _ _ _ _ _ => pts_nil) (fun _ _ _ _ _ => (pe_op op_mul (pe_ix (ix_listK (K := K) rfl) (pe_fldK (K := K) rfl (pv 0) (by rfl)) (pv 5) (fun _ _ => rfl)) (pe_ix (ix_listK (K := K) rfl) (pv 2) (pe_op op_sub (pv 3) (pv 5)) (fun _ _ => rfl))))) pa_nil)) pa_nil)))))) (pss_one (ps_ret (pv 2))))), ?_⟩
  refine ⟨len_ok' (by show 1 ≤ 1000; decide), fun f nf => ?_⟩
  have s1 : Same H (upd H f (.lst [V.int 1])) := same_upd1 nf
  obtain ⟨dx, a, b, c, ep, ea, eb, ec⟩ := hw.ex
  refine ⟨_, rfl, p, _, dx, _, _, rfl, s1 _ _ ep, T.c_Ways, T.n_Ways_size, rfl, _, _, rfl, rfl, 1, (n : Int) + 1, rfl, ⟨by omega, by omega, by omega, by omega⟩, ?_⟩
  rw [show ((n : Int) + 1 - 1).toNat = n by omega]
  refine for_it (walk_range (lo := 1) (n := n)) (fun i σ H2 => ∃ (fl : List Nat) (y3 y4 : Option V), σ = [some (.ref p), some (nV q), some (.ref f), y3, y4, none] ∧ Same H H2 ∧ H2 f = some (.lst (fl.map nV)) ∧ fl.length = i + 1 ∧ Mir.chainsGo wy.st q (n - i) (i + 1) fl = Mir.chainsM wy.st n q)
    ⟨[1], none, none, rfl, s1, upd_same, rfl, rfl⟩ (fun _ _ _ _ _ => trivial) ?_ ?_
  · rintro i x σ H2 H3 hi ⟨fl, y3, y4, rfl, s2, ef, lf, eg⟩ ⟨rfl, rfl⟩
    obtain ⟨j, ej⟩ : ∃ j, n - i = j + 1 := ⟨n - i - 1, by omega⟩
    have ej2 : n - (i + 1) = j := by omega
    rw [ej] at eg
    have bf : Mir.bnd fl = true := by
      obtain ⟨t, e⟩ := chainsGo_pre wy.st q (j + 1) (i + 1) fl
      rw [← eg, e] at hb
      exact bnd_pre hb
    -- longest
    refine ⟨_, rfl, _, rfl, _, _, rfl, rfl, _, _, rfl, ?_⟩
    have em : (V.int (if (q : Int) - 1 < 1 + (i : Int) then (q : Int) - 1 else 1 + (i : Int))) = nV (min (i + 1) (q - 1)) := by
      show _ = V.int _
      congr 1
      split <;> omega
    dsimp only
    rw [em]
    generalize hm : min (i + 1) (q - 1) = m
    have hm1 : m ≤ i + 1 := by omega
    -- the sum
    have ep3 := s2 _ _ ep
    have ea3 := s2 _ _ ea
    refine ⟨_, rfl, .inl ⟨rfl, _, SqL.of ef⟩, _, rfl, _, _, rfl, rfl, 1, (m : Int) + 1, rfl, ⟨by omega, by omega, by omega, by omega⟩, ?_⟩
    rw [show ((m : Int) + 1 - 1).toNat = m by omega]
    refine fun D nD => lc_map (walk_rangeL (lo := 1) (n := m)) nD (((List.range m).map fun j => wy.st.getD (j + 1) 0 * fl.getD (i + 1 - (j + 1)) 0).map nV) (by rw [rgL_len, List.length_map, List.length_map, List.length_range]) (by rw [rgL_len]; omega) (fun _ _ => trivial) ?_ (fun _ _ _ _ => gName_mono) ?_
    · intro u x y H4 ex ey z Qe hq2
      obtain ⟨lu, rfl⟩ := rgL_get ex
      have ey2 : (((List.range m).map fun j => wy.st.getD (j + 1) 0 * fl.getD (i + 1 - (j + 1)) 0).map nV)[u]? = some (nV (wy.st.getD (u + 1) 0 * fl.getD (i + 1 - (u + 1)) 0)) := map_get (map_get (List.getElem?_range lu))
      obtain rfl := Option.some.inj (ey2.symm.trans ey)
      have b1 := bnd_at bf (i + 1 - (u + 1))
      refine ⟨rfl, _, rfl, p, _, dx, _, _, rfl, z _ _ ep3, T.c_Ways, T.n_Ways_steps, rfl, _, rfl, a, _, _, _, rfl, rfl, SqL.of (z _ _ ea3), at_map (i := u + 1) (by omega) (get_of_lt (by rw [hl.st]; omega)), _, rfl, _, rfl, _, rfl, _, _, rfl, rfl, f, _, _, _, rfl, rfl, SqL.of (z _ _ ef), at_map (i := i + 1 - (u + 1)) (by omega) (get_of_lt (by omega)), _, _, rfl, rfl, .inr ⟨by omega, by omega⟩, ?_⟩
      have e : V.int ((wy.st.getD (u + 1) 0 : Int) * (fl.getD (i + 1 - (u + 1)) 0 : Int)) = nV (wy.st.getD (u + 1) 0 * fl.getD (i + 1 - (u + 1)) 0) := by
        show _ = V.int _
        rw [Int.natCast_mul]
      dsimp only
      rw [e]
      exact hq2
    · intro H4 z eD
      dsimp only [tNil]
      refine rd_sum eD ?_
      have ef4 := z _ _ ef
      refine ⟨f, _, _, rfl, rfl, ef4, len_ok (by rw [List.length_map]; omega), fl ++ [((List.range m).map fun j => wy.st.getD (j + 1) 0 * fl.getD (i + 1 - (j + 1)) 0).sum], _, _, rfl, same_up (s2.trans z) nf, ?_, by rw [List.length_append, lf]; rfl, ?_⟩
      · rw [upd_same, List.map_append]
        rfl
      · rw [ej2, ← eg, ← hm]
        rfl
  · rintro σ H2 ⟨fl, y3, y4, rfl, s2, ef, lf, eg⟩
    rw [Nat.sub_self] at eg
    have eg : fl = Mir.chainsM wy.st n q := eg
    refine ⟨_, rfl, k _ _ ⟨f, rfl, nf, s2, ?_⟩⟩
    rw [ef, eg]
end
end Qr
set_option maxHeartbeats 4000000
namespace Qr
open PySem PySem.Spec PyProof.Rows L2
theorem above_get {q i : Nat} {xs : List Nat} (h : i < xs.length) : (Mir.above q xs)[i]? = some (if q ≤ i then xs.getD i 0 else 0) := by
  unfold Mir.above
  exact map_get (List.getElem?_range h)
theorem below_get {q i : Nat} {xs : List Nat} (h : i < xs.length) : (Mir.below q xs)[i]? = some (if i < q then xs.getD i 0 else 0) := by
  unfold Mir.below
  exact map_get (List.getElem?_range h)
section
variable {P : Program} {w : World} {K : PySem.W.Frag} {mg : Str → Option Value} {base : Heap}
/-! Ways.add -/
def spWAdd (K : PySem.W.Frag) : Sp := spOf (fun a : Addr × Nat × Mir.Wy × Rec => [.ref a.1, .str (kS a.2.2.2.1), nV a.2.2.2.2]) (fun a H => WayAt K H a.1 a.2.1 a.2.2.1 ∧ WLen a.2.1 a.2.2.1 ∧ 1 ≤ a.2.2.2.2 ∧ a.2.1 ≤ 500 ∧ Mir.bnd (Mir.chainsM a.2.2.1.st a.2.1 a.2.2.2.2) = true)
  (fun a H r H' => r = .non ∧ WayAt K H' a.1 a.2.1 (Mir.addW a.2.1 a.2.2.1 a.2.2.2) ∧ Keep a.1 H H')
theorem ok_Ways_add (T : Txt K mg) : CalM P w K mg base "Ways" "add" ["self", "kind", "quiet"] 2 (spWAdd K) := by
  have G_Ways_chains := ok_Ways_chains (P := P) (w := w) (base := base) T
  have G_folded := ok_folded (P := P) (w := w) (base := base) T
  obtain ⟨_, hLAST⟩ := T.t_LAST
  obtain ⟨_, hFIRST⟩ := T.t_FIRST
  obtain ⟨_, hLIMIT⟩ := T.t_LIMIT
  refine ⟨fn_mk T.M_Ways_add sc_Ways_add bd_Ways_add (spOf_len fun _ => rfl) (fun cdv A outer s H vs Q E hr h => ?_), T.c_Ways, T.m_Ways_add⟩
  obtain ⟨⟨p, n, wy, kd, q⟩, rfl, ⟨hw, hl, hq, hn, hb⟩, k⟩ := h
  dsimp only at hw hl hq hn hb k
  refine ⟨_, (pss_cons (ps_set (i := 3) sc_Ways_add.nd rfl (.inl rfl) (pe_cm (pv 0) G_Ways_chains (hr.mono (by omega)) (pa_cons (pv 2) pa_nil))) (pss_cons (ps_if (pt_cmpR op_eq (pv 1) (pe_glob (v := .str "limit") rfl hLIMIT ⟨_, rfl⟩) (nomark _)) (pss_cons (ps_setLc (i := 3) (own := [("whole", 6), ("many", 7)]) (by rfl) sc_Ways_add.nd rfl rfl (sw_true rfl rfl rfl (by decide +kernel)) (pi_enum rfl T.z_enumerate (pa_cons (pv 3) pa_nil)) (blkOk_by (own := [("whole", 6), ("many", 7)]) (N := ["self", "kind", "quiet", "chains", "steps", "great", "whole", "many", "step"]) (sc := defScope s_Ways_add) (by decide +kernel)) (fun _ _ _ _ _ => (pg_tupK (K := K) 2 rfl rfl (pgs_cons (pg_name (i := 6) sc_Ways_add.nd rfl (by first | exact Or.inl rfl | exact Or.inr rfl)) (pgs_cons (pg_name (i := 7) sc_Ways_add.nd rfl (by first | exact Or.inl rfl | exact Or.inr rfl)) pgs_nil)))) (fun _ _ _ _ _ => pts_nil) (fun _ _ _ _ _ => (pe_ifExp (pt_cmpR op_lt (pv 6) (pv 2) (nomark _)) (pv 7) pe_int))) (pss_cons (ps_set (i := 4) sc_Ways_add.nd rfl (.inl rfl) (pe_c G_folded (hr.mono (by omega)) rfl (pa_cons (pv 3) (pa_cons (pe_fld (pv 0) (by rfl)) (pa_cons (pe_fld (pv 0) (by rfl)) pa_nil))))) (pss_one (ps_fld (pv 0) (pe_lc (own := [("whole", 6), ("many", 7)]) (by rfl) sc_Ways_add.nd (pi_enum rfl T.z_enumerate (pa_cons (pv 4) pa_nil)) (blkOk_by (own := [("whole", 6), ("many", 7)]) (N := ["self", "kind", "quiet", "chains", "steps", "great", "whole", "many", "step"]) (sc := defScope s_Ways_add) (by decide +kernel)) (fun _ _ _ _ _ => (pg_tupK (K := K) 2 rfl rfl (pgs_cons (pg_name (i := 6) sc_Ways_add.nd rfl (by first | exact Or.inl rfl | exact Or.inr rfl)) (pgs_cons (pg_name (i := 7) sc_Ways_add.nd rfl (by first | exact Or.inl rfl | exact Or.inr rfl)) pgs_nil)))) (fun _ _ _ _ _ => pts_nil) (fun _ _ _ _ _ => (pe_ifExp (pt_cmpR op_ge (pv 6) (pv 2) (nomark _)) (pv 7) pe_int))) (by rfl))))) (pss_cons (ps_setLc (i := 5) (own := [("step", 8), ("many", 7)]) (by rfl) sc_Ways_add.nd rfl rfl (sw_true rfl rfl rfl (by decide +kernel)) (pi_enum rfl T.z_enumerate (pa_cons (pe_fld (pv 0) (by rfl)) pa_nil)) (blkOk_by (own := [("step", 8), ("many", 7)]) (N := ["self", "kind", "quiet", "chains", "steps", "great", "whole", "many", "step"]) (sc := defScope s_Ways_add) (by decide +kernel)) (fun _ _ _ _ _ => (pg_tupK (K := K) 2 rfl rfl (pgs_cons (pg_name (i := 8) sc_Ways_add.nd rfl (by first | exact Or.inl rfl | exact Or.inr rfl)) (pgs_cons (pg_name (i := 7) sc_Ways_add.nd rfl (by first | exact Or.inl rfl | exact Or.inr rfl)) pgs_nil)))) (fun _ _ _ _ _ => pts_nil) (fun _ _ _ _ _ => (pe_ifExp (pt_cmpR op_ge (pv 8) (pv 2) (nomark _)) (pv 7) pe_int))) (pss_one (ps_fld (pv 0) (pe_c G_folded (hr.mono (by omega)) rfl (pa_cons (pv 3) (pa_cons (pv 5) (pa_cons (pe_fld (pv 0) (by rfl)) pa_nil)))) (by rfl))))) (pss_cons (ps_if (pt_cmpR op_eq (pv 1) (pe_glob (v := .str "last") rfl hLAST ⟨_, rfl⟩) (nomark _)) (pss_one (ps_fld (pv 0) (pe_c G_folded (hr.mono (by omega)) rfl (pa_cons (pv 3) (pa_cons (pe_fld (pv 0) (by rfl)) (pa_cons (pe_fld (pv 0) (by rfl)) pa_nil)))) (by rfl))) pss_nil) (pss_one (ps_if (pt_cmpR op_in_seq (pv 1) (pe_tup (pa_cons (pe_glob (v := .str "first") rfl hFIRST ⟨_, rfl⟩) (pa_cons (pe_glob (v := .str "limit") rfl hLIMIT ⟨_, rfl⟩) pa_nil))) rfl) (pss_one (ps_fld (pv 0) (pe_c G_folded (hr.mono (by omega)) rfl (pa_cons (pv 3) (pa_cons (pe_fld (pv 0) (by rfl)) (pa_cons (pe_fld (pv 0) (by rfl)) pa_nil)))) (by rfl))) pss_nil))))), ?_⟩
  obtain ⟨dx, a, b, c, ep, ea, eb, ec⟩ := id hw.ex
  -- chains = self.chains(quiet)
  refine ⟨_, rfl, p, dx, _, rfl, ep, rfl, _, rfl, (p, n, wy, q), rfl, ⟨hw, hl, hq, hn, hb⟩, ?_⟩
  rintro _ H1 ⟨ch, rfl, nch, s1, ech⟩
  have cl : (Mir.chainsM wy.st n q).length = n + 1 := chains_len _ _ _
  have ep1 := s1 _ _ ep
  have ea1 := s1 _ _ ea
  have eb1 := s1 _ _ eb
  have ec1 := s1 _ _ ec
  have na : a ≠ p := ne_of ea ep (fun z => by cases z)
  have nb : b ≠ p := ne_of eb ep (fun z => by cases z)
  have nc : c ≠ p := ne_of ec ep (fun z => by cases z)
  -- putting a table back
  have f1 : ∀ x : V, putF "steps" x (wyF n a b c) = ([("size", nV n), ("steps", x), ("heads", .ref b), ("tails", .ref c)] : List (Str × V)) := fun x => by
    unfold wyF
    rw [putF_ne (by decide +kernel)]
    rfl
  have f2 : ∀ a2 x : V, putF "heads" x ([("size", nV n), ("steps", a2), ("heads", .ref b), ("tails", .ref c)] : List (Str × V)) = ([("size", nV n), ("steps", a2), ("heads", x), ("tails", .ref c)] : List (Str × V)) := fun a2 x => by
    rw [putF_ne (by decide +kernel), putF_ne (by decide +kernel)]
    rfl
  have f3 : ∀ a2 b2 x : V, putF "tails" x ([("size", nV n), ("steps", a2), ("heads", b2), ("tails", .ref c)] : List (Str × V)) = ([("size", nV n), ("steps", a2), ("heads", b2), ("tails", x)] : List (Str × V)) := fun a2 b2 x => by
    rw [putF_ne (by decide +kernel), putF_ne (by decide +kernel), putF_ne (by decide +kernel)]
    rfl
  cases kd with
  | limit =>
    refine ⟨_, rfl, rfl, _, rfl, ?_⟩
    rw [decide_eq_true (show V.str (kS .limit) = V.str "limit" from rfl)]
    -- chains = [many if whole < quiet else 0 for whole, many in enumerate(chains)]
    refine iteT ⟨_, rfl, ch, _, rfl, SqL.of ech, fun D nD => lc_enumM (SqL.of ech) nD ((Mir.below q (Mir.chainsM wy.st n q)).map nV) (by rw [List.length_map, List.length_map, below_len]) (by rw [List.length_map, cl]; omega) ?_ (fun _ _ _ _ => gTup2_mono) ?_⟩
    · intro j x y H2 T1 ex ey z eT Qe hq2
      obtain ⟨v, hv, rfl⟩ := get_map ex
      have ey2 : ((Mir.below q (Mir.chainsM wy.st n q)).map nV)[j]? = some (nV (if j < q then (Mir.chainsM wy.st n q).getD j 0 else 0)) := map_get (below_get (lt_of_get hv))
      obtain rfl := Option.some.inj (ey2.symm.trans ey)
      rw [getD_of hv] at hq2
      refine ⟨T1, _, rfl, SqT.of eT, rfl, _, _, rfl, _, _, rfl, rfl, rfl, _, rfl, _, rfl, _, _, rfl, rfl, _, rfl, ?_⟩
      refine ite2 (fun hc => ?_) (fun hc => ?_)
      · rw [decide_eq_true_eq] at hc
        dsimp only at hc
        rw [if_pos (by omega)] at hq2
        exact ⟨_, rfl, hq2⟩
      · rw [decide_eq_true_eq] at hc
        dsimp only at hc
        rw [if_neg (by omega)] at hq2
        exact hq2
    intro H2 s2 eD
    have s12 := s1.trans s2
    -- steps = folded(chains, self.steps, self.size)
    refine ⟨_, rfl, _, rfl, p, _, dx, _, _, rfl, s2 _ _ ep1, T.c_Ways, T.n_Ways_steps, rfl, _, rfl, p, _, dx, _, _, rfl, s2 _ _ ep1, T.c_Ways, T.n_Ways_size, rfl,
      (D, Mir.below q (Mir.chainsM wy.st n q), a, wy.st, n), rfl, ⟨SqL.of eD, SqL.of (s2 _ _ ea1), bnd_below hb, by rw [below_len, cl], hl.st, hn⟩, ?_⟩
    rintro _ H3 ⟨g, rfl, ng, s3, eg⟩
    have s23 := s2.trans s3
    -- self.steps = [many if whole >= quiet else 0 for whole, many in enumerate(steps)]
    refine ⟨_, rfl, g, _, rfl, SqL.of eg, fun D2 nD2 => lc_enumM (SqL.of eg) nD2 ((Mir.above q (Mir.folded (Mir.below q (Mir.chainsM wy.st n q)) wy.st n)).map nV) (by rw [List.length_map, List.length_map, above_len]) (by rw [List.length_map, folded_len]; show n + 1 ≤ 1000; omega) ?_ (fun _ _ _ _ => gTup2_mono) ?_⟩
    · intro j x y H4 T1 ex ey z eT Qe hq2
      obtain ⟨v, hv, rfl⟩ := get_map ex
      have ey2 : ((Mir.above q (Mir.folded (Mir.below q (Mir.chainsM wy.st n q)) wy.st n)).map nV)[j]? = some (nV (if q ≤ j then (Mir.folded (Mir.below q (Mir.chainsM wy.st n q)) wy.st n).getD j 0 else 0)) := map_get (above_get (lt_of_get hv))
      obtain rfl := Option.some.inj (ey2.symm.trans ey)
      rw [getD_of hv] at hq2
      refine ⟨T1, _, rfl, SqT.of eT, rfl, _, _, rfl, _, _, rfl, rfl, rfl, _, rfl, _, rfl, _, _, rfl, rfl, _, rfl, ?_⟩
      refine ite2 (fun hc => ?_) (fun hc => ?_)
      · rw [decide_eq_true_eq] at hc
        dsimp only at hc
        rw [if_pos (by omega)] at hq2
        exact ⟨_, rfl, hq2⟩
      · rw [decide_eq_true_eq] at hc
        dsimp only at hc
        rw [if_neg (by omega)] at hq2
        exact hq2
    intro H4 s4 eD2
    have s234 := s23.trans s4
    have ep4 := s234 _ _ ep1
    refine ⟨_, rfl, p, _, dx, _, rfl, ep4, T.c_Ways, T.n_Ways_steps, (by show 4 < 1000; decide), ?_⟩
    rw [f1]
    have nD2 : D2 ≠ p := ne_of eD2 ep4 (fun z => by cases z)
    have k5 : Keep p H (upd H4 p (.ins (He.ga K "Ways") dx [("size", nV n), ("steps", .ref D2), ("heads", .ref b), ("tails", .ref c)])) := keep_up (keep_of (s1.trans s234))
    have ep5 : (upd H4 p (.ins (He.ga K "Ways") dx [("size", nV n), ("steps", .ref D2), ("heads", .ref b), ("tails", .ref c)])) p = some (.ins (He.ga K "Ways") dx [("size", nV n), ("steps", .ref D2), ("heads", .ref b), ("tails", .ref c)]) := upd_same
    have eD5 : (upd H4 p (.ins (He.ga K "Ways") dx [("size", nV n), ("steps", .ref D2), ("heads", .ref b), ("tails", .ref c)])) D = some (.lst ((Mir.below q (Mir.chainsM wy.st n q)).map nV)) := by
      rw [upd_ne (ne_of eD (s2 _ _ ep1) (fun z => by cases z))]
      exact s4 _ _ (s3 _ _ eD)
    have eD25 : (upd H4 p (.ins (He.ga K "Ways") dx [("size", nV n), ("steps", .ref D2), ("heads", .ref b), ("tails", .ref c)])) D2 = some (.lst ((Mir.above q (Mir.folded (Mir.below q (Mir.chainsM wy.st n q)) wy.st n)).map nV)) := by
      rw [upd_ne nD2]
      exact eD2
    generalize upd H4 p (.ins (He.ga K "Ways") dx [("size", nV n), ("steps", .ref D2), ("heads", .ref b), ("tails", .ref c)]) = H5 at k5 ep5 eD5 eD25
    have eb5 := k5 _ _ eb nb
    have ec5 := k5 _ _ ec nc
    -- if kind == LAST
    refine ⟨_, rfl, rfl, _, rfl, ?_⟩
    rw [decide_eq_false (show ¬ V.str (kS .limit) = V.str "last" by decide +kernel)]
    refine iteF ?_
    -- if kind in (FIRST, LIMIT)
    refine ⟨_, rfl, len_ok' (by show 2 ≤ 1000; decide), fun t nt => ⟨t, _, rfl, .inr (SqT.of upd_same), rfl, rfl, _, rfl, ?_⟩⟩
    have s6 : Same H5 (upd H5 t (.tup [.str "first", .str "limit"])) := same_upd1 nt
    refine iteT ?_
    refine ⟨_, rfl, _, rfl, p, _, dx, _, _, rfl, s6 _ _ ep5, T.c_Ways, T.n_Ways_tails, rfl, _, rfl, p, _, dx, _, _, rfl, s6 _ _ ep5, T.c_Ways, T.n_Ways_size, rfl,
      (D, Mir.below q (Mir.chainsM wy.st n q), c, wy.tl, n), rfl, ⟨SqL.of (s6 _ _ eD5), SqL.of (s6 _ _ ec5), bnd_below hb, by rw [below_len, cl], hl.tl, hn⟩, ?_⟩
    rintro _ H7 ⟨g2, rfl, ng2, s7, eg2⟩
    have s67 := s6.trans s7
    refine ⟨_, rfl, p, _, dx, _, rfl, s67 _ _ ep5, T.c_Ways, T.n_Ways_tails, (by show 4 < 1000; decide), ?_⟩
    rw [f3]
    refine k _ _ ⟨rfl, ⟨dx, D2, b, g2, upd_same, ?_, ?_, ?_⟩, k5.trans (keep_up (keep_of s67))⟩
    · rw [upd_ne nD2]
      exact s67 _ _ eD25
    · rw [upd_ne nb]
      exact s67 _ _ eb5
    · rw [upd_ne (ne_of eg2 (s67 _ _ ep5) (fun z => by cases z))]
      exact eg2
  | first =>
    refine ⟨_, rfl, rfl, _, rfl, ?_⟩
    rw [decide_eq_false (show ¬ V.str (kS .first) = V.str "limit" by decide +kernel)]
    -- great = [many if step >= quiet else 0 for step, many in enumerate(self.steps)]
    refine iteF ⟨_, rfl, p, _, dx, _, _, rfl, ep1, T.c_Ways, T.n_Ways_steps, rfl, a, _, rfl, SqL.of ea1, fun D nD => lc_enumM (SqL.of ea1) nD ((Mir.above q wy.st).map nV) (by rw [List.length_map, List.length_map, above_len]) (by rw [List.length_map, hl.st]; omega) ?_ (fun _ _ _ _ => gTup2_mono) ?_⟩
    · intro j x y H2 T1 ex ey z eT Qe hq2
      obtain ⟨v, hv, rfl⟩ := get_map ex
      have ey2 : ((Mir.above q wy.st).map nV)[j]? = some (nV (if q ≤ j then wy.st.getD j 0 else 0)) := map_get (above_get (lt_of_get hv))
      obtain rfl := Option.some.inj (ey2.symm.trans ey)
      rw [getD_of hv] at hq2
      refine ⟨T1, _, rfl, SqT.of eT, rfl, _, _, rfl, _, _, rfl, rfl, rfl, _, rfl, _, rfl, _, _, rfl, rfl, _, rfl, ?_⟩
      refine ite2 (fun hc => ?_) (fun hc => ?_)
      · rw [decide_eq_true_eq] at hc
        dsimp only at hc
        rw [if_pos (by omega)] at hq2
        exact ⟨_, rfl, hq2⟩
      · rw [decide_eq_true_eq] at hc
        dsimp only at hc
        rw [if_neg (by omega)] at hq2
        exact hq2
    intro H2 s2 eD
    -- self.steps = folded(chains, great, self.size)
    refine ⟨_, rfl, _, rfl, _, rfl, p, _, dx, _, _, rfl, s2 _ _ ep1, T.c_Ways, T.n_Ways_size, rfl,
      (ch, Mir.chainsM wy.st n q, D, Mir.above q wy.st, n), rfl, ⟨SqL.of (s2 _ _ ech), SqL.of eD, hb, cl, by rw [above_len, hl.st], hn⟩, ?_⟩
    rintro _ H3 ⟨g, rfl, ng, s3, eg⟩
    have s23 := s2.trans s3
    have ep3 := s23 _ _ ep1
    refine ⟨_, rfl, p, _, dx, _, rfl, ep3, T.c_Ways, T.n_Ways_steps, (by show 4 < 1000; decide), ?_⟩
    rw [f1]
    have ngp : g ≠ p := ne_of eg ep3 (fun z => by cases z)
    have k4 : Keep p H (upd H3 p (.ins (He.ga K "Ways") dx [("size", nV n), ("steps", .ref g), ("heads", .ref b), ("tails", .ref c)])) := keep_up (keep_of (s1.trans s23))
    have ep4 : (upd H3 p (.ins (He.ga K "Ways") dx [("size", nV n), ("steps", .ref g), ("heads", .ref b), ("tails", .ref c)])) p = some (.ins (He.ga K "Ways") dx [("size", nV n), ("steps", .ref g), ("heads", .ref b), ("tails", .ref c)]) := upd_same
    have eg4 : (upd H3 p (.ins (He.ga K "Ways") dx [("size", nV n), ("steps", .ref g), ("heads", .ref b), ("tails", .ref c)])) g = some (.lst ((Mir.folded (Mir.chainsM wy.st n q) (Mir.above q wy.st) n).map nV)) := by
      rw [upd_ne ngp]
      exact eg
    have ech4 : (upd H3 p (.ins (He.ga K "Ways") dx [("size", nV n), ("steps", .ref g), ("heads", .ref b), ("tails", .ref c)])) ch = some (.lst ((Mir.chainsM wy.st n q).map nV)) := by
      rw [upd_ne (ne_of ech ep1 (fun z => by cases z))]
      exact s23 _ _ ech
    generalize upd H3 p (.ins (He.ga K "Ways") dx [("size", nV n), ("steps", .ref g), ("heads", .ref b), ("tails", .ref c)]) = H4 at k4 ep4 eg4 ech4
    have eb4 := k4 _ _ eb nb
    have ec4 := k4 _ _ ec nc
    refine ⟨_, rfl, rfl, _, rfl, ?_⟩
    rw [decide_eq_false (show ¬ V.str (kS .first) = V.str "last" by decide +kernel)]
    refine iteF ?_
    refine ⟨_, rfl, len_ok' (by show 2 ≤ 1000; decide), fun t nt => ⟨t, _, rfl, .inr (SqT.of upd_same), rfl, rfl, _, rfl, ?_⟩⟩
    have s6 : Same H4 (upd H4 t (.tup [.str "first", .str "limit"])) := same_upd1 nt
    refine iteT ?_
    refine ⟨_, rfl, _, rfl, p, _, dx, _, _, rfl, s6 _ _ ep4, T.c_Ways, T.n_Ways_tails, rfl, _, rfl, p, _, dx, _, _, rfl, s6 _ _ ep4, T.c_Ways, T.n_Ways_size, rfl,
      (ch, Mir.chainsM wy.st n q, c, wy.tl, n), rfl, ⟨SqL.of (s6 _ _ ech4), SqL.of (s6 _ _ ec4), hb, cl, hl.tl, hn⟩, ?_⟩
    rintro _ H7 ⟨g2, rfl, ng2, s7, eg2⟩
    have s67 := s6.trans s7
    refine ⟨_, rfl, p, _, dx, _, rfl, s67 _ _ ep4, T.c_Ways, T.n_Ways_tails, (by show 4 < 1000; decide), ?_⟩
    rw [f3]
    refine k _ _ ⟨rfl, ⟨dx, g, b, g2, upd_same, ?_, ?_, ?_⟩, k4.trans (keep_up (keep_of s67))⟩
    · rw [upd_ne ngp]
      exact s67 _ _ eg4
    · rw [upd_ne nb]
      exact s67 _ _ eb4
    · rw [upd_ne (ne_of eg2 (s67 _ _ ep4) (fun z => by cases z))]
      exact eg2
  | last =>
    refine ⟨_, rfl, rfl, _, rfl, ?_⟩
    rw [decide_eq_false (show ¬ V.str (kS .last) = V.str "limit" by decide +kernel)]
    -- great = [many if step >= quiet else 0 for step, many in enumerate(self.steps)]
    refine iteF ⟨_, rfl, p, _, dx, _, _, rfl, ep1, T.c_Ways, T.n_Ways_steps, rfl, a, _, rfl, SqL.of ea1, fun D nD => lc_enumM (SqL.of ea1) nD ((Mir.above q wy.st).map nV) (by rw [List.length_map, List.length_map, above_len]) (by rw [List.length_map, hl.st]; omega) ?_ (fun _ _ _ _ => gTup2_mono) ?_⟩
    · intro j x y H2 T1 ex ey z eT Qe hq2
      obtain ⟨v, hv, rfl⟩ := get_map ex
      have ey2 : ((Mir.above q wy.st).map nV)[j]? = some (nV (if q ≤ j then wy.st.getD j 0 else 0)) := map_get (above_get (lt_of_get hv))
      obtain rfl := Option.some.inj (ey2.symm.trans ey)
      rw [getD_of hv] at hq2
      refine ⟨T1, _, rfl, SqT.of eT, rfl, _, _, rfl, _, _, rfl, rfl, rfl, _, rfl, _, rfl, _, _, rfl, rfl, _, rfl, ?_⟩
      refine ite2 (fun hc => ?_) (fun hc => ?_)
      · rw [decide_eq_true_eq] at hc
        dsimp only at hc
        rw [if_pos (by omega)] at hq2
        exact ⟨_, rfl, hq2⟩
      · rw [decide_eq_true_eq] at hc
        dsimp only at hc
        rw [if_neg (by omega)] at hq2
        exact hq2
    intro H2 s2 eD
    -- self.steps = folded(chains, great, self.size)
    refine ⟨_, rfl, _, rfl, _, rfl, p, _, dx, _, _, rfl, s2 _ _ ep1, T.c_Ways, T.n_Ways_size, rfl,
      (ch, Mir.chainsM wy.st n q, D, Mir.above q wy.st, n), rfl, ⟨SqL.of (s2 _ _ ech), SqL.of eD, hb, cl, by rw [above_len, hl.st], hn⟩, ?_⟩
    rintro _ H3 ⟨g, rfl, ng, s3, eg⟩
    have s23 := s2.trans s3
    have ep3 := s23 _ _ ep1
    refine ⟨_, rfl, p, _, dx, _, rfl, ep3, T.c_Ways, T.n_Ways_steps, (by show 4 < 1000; decide), ?_⟩
    rw [f1]
    have ngp : g ≠ p := ne_of eg ep3 (fun z => by cases z)
    have k4 : Keep p H (upd H3 p (.ins (He.ga K "Ways") dx [("size", nV n), ("steps", .ref g), ("heads", .ref b), ("tails", .ref c)])) := keep_up (keep_of (s1.trans s23))
    have ep4 : (upd H3 p (.ins (He.ga K "Ways") dx [("size", nV n), ("steps", .ref g), ("heads", .ref b), ("tails", .ref c)])) p = some (.ins (He.ga K "Ways") dx [("size", nV n), ("steps", .ref g), ("heads", .ref b), ("tails", .ref c)]) := upd_same
    have eg4 : (upd H3 p (.ins (He.ga K "Ways") dx [("size", nV n), ("steps", .ref g), ("heads", .ref b), ("tails", .ref c)])) g = some (.lst ((Mir.folded (Mir.chainsM wy.st n q) (Mir.above q wy.st) n).map nV)) := by
      rw [upd_ne ngp]
      exact eg
    have ech4 : (upd H3 p (.ins (He.ga K "Ways") dx [("size", nV n), ("steps", .ref g), ("heads", .ref b), ("tails", .ref c)])) ch = some (.lst ((Mir.chainsM wy.st n q).map nV)) := by
      rw [upd_ne (ne_of ech ep1 (fun z => by cases z))]
      exact s23 _ _ ech
    generalize upd H3 p (.ins (He.ga K "Ways") dx [("size", nV n), ("steps", .ref g), ("heads", .ref b), ("tails", .ref c)]) = H4 at k4 ep4 eg4 ech4
    have eb4 := k4 _ _ eb nb
    have ec4 := k4 _ _ ec nc
    refine ⟨_, rfl, rfl, _, rfl, ?_⟩
    rw [decide_eq_true (show V.str (kS .last) = V.str "last" from rfl)]
    refine iteT ?_
    refine ⟨_, rfl, _, rfl, p, _, dx, _, _, rfl, ep4, T.c_Ways, T.n_Ways_heads, rfl, _, rfl, p, _, dx, _, _, rfl, ep4, T.c_Ways, T.n_Ways_size, rfl,
      (ch, Mir.chainsM wy.st n q, b, wy.hd, n), rfl, ⟨SqL.of ech4, SqL.of eb4, hb, cl, hl.hd, hn⟩, ?_⟩
    rintro _ H7 ⟨g2, rfl, ng2, s7, eg2⟩
    refine ⟨_, rfl, p, _, dx, _, rfl, s7 _ _ ep4, T.c_Ways, T.n_Ways_heads, (by show 4 < 1000; decide), ?_⟩
    rw [f2]
    have ng2p : g2 ≠ p := ne_of eg2 (s7 _ _ ep4) (fun z => by cases z)
    refine ⟨_, rfl, len_ok' (by show 2 ≤ 1000; decide), fun t nt => ⟨t, _, rfl, .inr (SqT.of upd_same), rfl, rfl, _, rfl, ?_⟩⟩
    refine iteF ?_
    refine k _ _ ⟨rfl, ⟨dx, g, g2, c, up_old upd_same nt, up_old ?_ nt, up_old ?_ nt, up_old ?_ nt⟩, (k4.trans (keep_up (keep_of s7))).trans (keep_of (same_upd1 nt))⟩
    · rw [upd_ne ngp]
      exact s7 _ _ eg4
    · rw [upd_ne ng2p]
      exact eg2
    · rw [upd_ne nc]
      exact s7 _ _ ec4
end
end Qr
set_option maxHeartbeats 4000000
namespace Qr
open PySem PySem.Spec PyProof.Rows L2
theorem RecsT.get {H : Hp} {t : Addr} {rs : List Rec} (h : RecsT H t rs) : ∃ as : List Addr, H t = some (.tup (as.map V.ref)) ∧ as.length = rs.length ∧ ∀ (i : Nat) (a : Addr), as[i]? = some a → ∃ r, rs[i]? = some r ∧ H a = some (.tup [.str (kS r.1), nV r.2]) := by
  obtain ⟨as, h1, h2, h3⟩ := h.ex
  refine ⟨as, h1, h2, fun i a e => ?_⟩
  have l := lt_of_get e
  rw [h2] at l
  exact ⟨rs[i], List.getElem?_eq_getElem l, h3 i a _ e (List.getElem?_eq_getElem l)⟩
theorem foldl_take {α β : Type} (f : β → α → β) (b : β) {l : List α} {i : Nat} {x : α} (h : l[i]? = some x) : (l.take (i + 1)).foldl f b = f ((l.take i).foldl f b) x := by
  rw [List.take_succ, h, List.foldl_append]
  rfl
theorem wlen_fold {n : Nat} : ∀ (rs : List Rec) (w : Mir.Wy), WLen n w → WLen n (rs.foldl (Mir.addW n) w)
  | [], _, h => h
  | r :: t, w, h => wlen_fold t _ (h.add r)
theorem wlen0 (n : Nat) : WLen n (Mir.wy0 n) := ⟨by simp [Mir.wy0], by simp [Mir.wy0], by simp [Mir.wy0]⟩
/-- the small numbers, by the prefix -/
theorem pOk_at {n : Nat} : ∀ {rs : List Rec} {w : Mir.Wy} {i : Nat} {r : Rec}, Mir.pOk n w rs = true → rs[i]? = some r → Mir.bnd (Mir.chainsM ((rs.take i).foldl (Mir.addW n) w).st n r.2) = true
  | [], _, i, _, _, e => by cases e
  | r0 :: t, w, 0, r, h, e => by
    obtain rfl := Option.some.inj e
    exact (Bool.and_eq_true_iff.mp (show (Mir.bnd (Mir.chainsM w.st n r0.2) && Mir.pOk n (Mir.addW n w r0) t) = true from h)).1
  | r0 :: t, w, i + 1, r, h, e => pOk_at (rs := t) (Bool.and_eq_true_iff.mp (show (Mir.bnd (Mir.chainsM w.st n r0.2) && Mir.pOk n (Mir.addW n w r0) t) = true from h)).2 e
theorem pOk_end {n : Nat} : ∀ {rs : List Rec} {w : Mir.Wy}, Mir.pOk n w rs = true → Mir.bnd (rs.foldl (Mir.addW n) w).st = true ∧ Mir.bnd (rs.foldl (Mir.addW n) w).hd = true
  | [], w, h => by
    obtain ⟨h1, h2⟩ := Bool.and_eq_true_iff.mp (show ((Mir.bnd w.st && Mir.bnd w.hd) && Mir.bnd w.tl) = true from h)
    exact Bool.and_eq_true_iff.mp h1
  | r0 :: t, w, h => pOk_end (rs := t) (Bool.and_eq_true_iff.mp (show (Mir.bnd (Mir.chainsM w.st n r0.2) && Mir.pOk n (Mir.addW n w r0) t) = true from h)).2
theorem stepsProd_at (st : List Nat) : ∀ (E : List Nat) (i x a b : Nat), E[i]? = some a → E[i + 1]? = some b → Mir.stepsProd st (E.drop i) x = Mir.stepsProd st (E.drop (i + 1)) (x * st.getD (b - a) 0)
  | [], _, _, _, _, h, _ => by cases h
  | [e], 0, _, _, _, _, h => by cases h
  | [e], i + 1, _, _, _, h, _ => by cases h
  | e :: f :: r, 0, x, a, b, h1, h2 => by
    obtain rfl := Option.some.inj h1
    obtain rfl := Option.some.inj h2
    rfl
  | e :: f :: r, i + 1, x, a, b, h1, h2 => stepsProd_at st (f :: r) i x a b h1 h2
theorem rinc_pos : ∀ {rs : List Rec} {m i : Nat} {r : Rec}, rInc m rs = true → rs[i]? = some r → m < r.2
  | [], _, _, _, _, e => by cases e
  | r0 :: t, m, 0, r, h, e => by
    obtain rfl := Option.some.inj e
    exact of_decide_eq_true (Bool.and_eq_true_iff.mp (show (decide (m < r0.2) && rInc r0.2 t) = true from h)).1
  | r0 :: t, m, i + 1, r, h, e => by
    obtain ⟨h1, h2⟩ := Bool.and_eq_true_iff.mp (show (decide (m < r0.2) && rInc r0.2 t) = true from h)
    have := rinc_pos (rs := t) h2 e
    have := of_decide_eq_true h1
    omega
section
variable {P : Program} {w : World} {K : PySem.W.Frag} {mg : Str → Option Value} {base : Heap}
/-! count_pasts -/
structure PastPre (K : PySem.W.Frag) (H : Hp) (r : Addr) (rs : List Rec) (t : Addr) (b : Int) (E : List Nat) (n : Nat) : Prop where
  row : RowAt K H r rs
  inc : rInc 1 rs = true
  few : rs.length ≤ 1000
  ts : SqL K H t (E.map fun (e : Nat) => V.int (b + (e : Int) + (((rs.map late).sum : Nat) : Int)))
  ne : E ≠ []
  up : ∀ (i x y : Nat), E[i]? = some x → E[i + 1]? = some y → x < y
  le : ∀ e ∈ E, e ≤ n
  nn : n ≤ 200
  elen : E.length ≤ 1000
  ok : Mir.pOk n (Mir.wy0 n) rs = true
def spPasts (K : PySem.W.Frag) : Sp := spOf (fun a : Addr × List Rec × Addr × Int × List Nat × Nat => [.ref a.1, .ref a.2.2.1, .int a.2.2.2.1, .int (a.2.2.2.1 + (a.2.2.2.2.2 : Int))])
  (fun a H => PastPre K H a.1 a.2.1 a.2.2.1 a.2.2.2.1 a.2.2.2.2.1 a.2.2.2.2.2) (fun a H r H' => r = nV (Mir.pastsM a.2.1 a.2.2.2.2.1 a.2.2.2.2.2) ∧ Same H H')
theorem ok_count_pasts (T : Txt K mg) : Cal P w K mg base "count_pasts" ["row", "times", "begin", "end"] 5 (spPasts K) := by
  have G_check_stream := ok_check_stream (P := P) (w := w) (base := base) T
  have G_Row_delays := ok_Row_delays (P := P) (w := w) (base := base) T
  have G_Ways_init := ok_Ways_init (P := P) (w := w) (base := base) T
  have G_Ways_add := ok_Ways_add (P := P) (w := w) (base := base) T
  have G_records_of := ok_records_of (P := P) (w := w) (base := base) T
  obtain ⟨_, hMOST_TIMES⟩ := T.i_MOST_TIMES
  refine ⟨fn_mk T.F_count_pasts sc_count_pasts bd_count_pasts (spOf_len fun _ => rfl) (fun cdv A outer s0 H vs Q E0 hr h => ?_), T.F_count_pasts.elim fun _ F => F.kp, T.g_count_pasts⟩
  obtain ⟨⟨r, rs, t, b, E, n⟩, rfl, pre, k⟩ := h
  dsimp only at pre k
  obtain ⟨hrow, hinc, hfew, hts, hne, hup, hle, hnn, hel, hok⟩ := pre
  refine ⟨_, (pss_cons (ps_expr (pe_c G_check_stream (hr.mono (by omega)) rfl (pa_cons (pv 1) pa_nil))) (pss_cons (ps_if (pt_cmpR op_gt (pe_op op_add (pe_op op_sub (pv 3) (pv 2)) pe_int) (pe_glob (v := .int 300) rfl hMOST_TIMES ⟨_, rfl⟩) (nomark _)) pss_never pss_nil) (pss_cons (ps_if (pt_cmpR op_eq (pe_callB call_len_seq rfl T.z_len (by decide +kernel) (pa_cons (pv 1) pa_nil)) pe_int (nomark _)) (pss_one (ps_ret pe_int)) pss_nil) (pss_cons (ps_set (i := 4) sc_count_pasts.nd rfl (.inl rfl) (pe_cm0 (pv 0) G_Row_delays (hr.mono (by omega)))) (pss_cons (ps_if (PW.pt (pw_or (pt_cmpR op_lt (pe_op op_sub (pe_ix ix_list (pv 1) pe_int (fun _ _ => rfl)) (pv 4)) (pv 2) (nomark _)) (pw_or1 (pt_cmpR op_gt (pe_op op_sub (pe_ix ix_list (pv 1) (pe_un un_neg pe_int) (fun _ _ => rfl)) (pv 4)) (pv 3) (nomark _))))) (pss_one (ps_ret pe_int)) pss_nil) (pss_cons (ps_set (i := 5) sc_count_pasts.nd rfl (.inl rfl) (pe_ci G_Ways_init (hr.mono (by omega)) rfl (pa_cons (pe_op op_sub (pv 3) (pv 2)) pa_nil))) (pss_cons (ps_for PassesOwn.never rfl (pi_tup (pe_c G_records_of (hr.mono (by omega)) rfl (pa_cons (pv 0) pa_nil))) (pg_tup rfl (pgs_cons (pg_name (i := 6) sc_count_pasts.nd rfl (.inl rfl)) (pgs_cons (pg_name (i := 7) sc_count_pasts.nd rfl (.inl rfl)) pgs_nil))) (pss_one (ps_expr (pe_cm (pv 5) G_Ways_add (hr.mono (by omega)) (pa_cons (pv 6) (pa_cons (pv 7) pa_nil)))))) (pss_cons (ps_set (i := 8) sc_count_pasts.nd rfl (.inl rfl) (pe_op op_mul (pe_ix ix_list (pe_fld (pv 5) (by rfl)) (pe_op op_sub (pe_op op_sub (pe_ix ix_list (pv 1) pe_int (fun _ _ => rfl)) (pv 4)) (pv 2)) (fun _ _ => rfl)) (pe_ix ix_list (pe_fld (pv 5) (by rfl)) (pe_op op_add (pe_op op_sub (pv 3) (pe_ix ix_list (pv 1) (pe_un un_neg pe_int) (fun _ _ => rfl))) (pv 4)) (fun _ _ => rfl)))) (pss_cons (ps_for PassesOwn.never rfl (pi_range1 rfl T.z_range (pa_cons (pe_op op_sub (pe_callB call_len_seq rfl T.z_len (by decide +kernel) (pa_cons (pv 1) pa_nil)) pe_int) pa_nil)) (pg_name (i := 9) sc_count_pasts.nd rfl (.inl rfl)) (pss_one (ps_set (i := 8) sc_count_pasts.nd rfl (.inl rfl) (pe_op op_mul (pv 8) (pe_ix ix_list (pe_fld (pv 5) (by rfl)) (pe_op op_sub (pe_ix ix_list (pv 1) (pe_op op_add (pv 9) pe_int) (fun _ _ => rfl)) (pe_ix ix_list (pv 1) (pv 9) (fun _ _ => rfl))) (fun _ _ => rfl)))))) (pss_one (ps_ret (pv 8)))))))))))), ?_⟩
  generalize hD : (rs.map late).sum = dl at hts
  -- check_stream(times)
  refine ⟨_, rfl, (t, E.map fun (e : Nat) => b + (e : Int) + (dl : Int)), rfl, ⟨?_, ?_⟩, ?_⟩
  · rw [List.map_map]
    exact hts
  · intro i x y e1 e2
    obtain ⟨u, hu, rfl⟩ := get_map e1
    obtain ⟨v, hv, rfl⟩ := get_map e2
    have := hup i u v hu hv
    omega
  rintro _ H1 ⟨rfl, s1⟩
  have lE : 0 < E.length := List.length_pos_iff.mpr hne
  obtain ⟨e0, he0⟩ : ∃ e0, E[0]? = some e0 := ⟨E[0], List.getElem?_eq_getElem lE⟩
  obtain ⟨el, hel2⟩ : ∃ el, E[E.length - 1]? = some el := ⟨E[E.length - 1], List.getElem?_eq_getElem (by omega)⟩
  have le0 := hle e0 (List.mem_of_getElem? he0)
  have lel := hle el (List.mem_of_getElem? hel2)
  -- end - begin + 1 > MOST_TIMES
  refine ⟨_, rfl, _, rfl, _, _, rfl, rfl, _, _, rfl, rfl, _, _, rfl, rfl, _, rfl, ?_⟩
  dsimp only
  rw [decide_eq_false (by omega)]
  refine iteF ?_
  -- len(times) == 0
  refine ⟨_, rfl, t, _, rfl, .inl (s1.seq hts), rfl, _, rfl, ?_⟩
  rw [List.length_map, decide_eq_false (show ¬ V.int (E.length : Int) = V.int 0 from fun z => by injection z with z; omega)]
  refine iteF ?_
  -- late = row.delays()
  obtain ⟨dxr, tm, ms, er, etm, hms⟩ := hrow.same s1
  refine ⟨_, rfl, r, dxr, _, rfl, er, rfl, (r, rs), rfl, ⟨hrow.same s1, hfew⟩, ?_⟩
  rintro _ H2 ⟨rfl, s2⟩
  have s12 := s1.trans s2
  have ht2 := s12.seq hts
  dsimp only
  rw [hD]
  have hlast : ∀ (z : Int), atI (E.map fun (e : Nat) => V.int (b + (e : Int) + (dl : Int))) (-1) = some (V.int (b + (el : Int) + (dl : Int))) := fun _ => by
    have e : E = E.take (E.length - 1) ++ [el] := by
      have := List.take_succ (l := E) (i := E.length - 1)
      rw [hel2, show E.length - 1 + 1 = E.length by omega, List.take_length] at this
      exact this
    rw [e, List.map_append]
    exact atI_last _ _
  -- the bounds
  refine ⟨_, rfl, t, _, _, _, rfl, rfl, ht2, at_map (i := 0) rfl he0, _, rfl, _, _, rfl, rfl, _, rfl, _, _, rfl, rfl, _, rfl, ?_⟩
  rw [decide_eq_false (by omega)]
  refine iteF ⟨_, rfl, _, rfl, t, _, _, _, rfl, rfl, ht2, hlast 0, _, rfl, _, _, rfl, rfl, _, rfl, _, _, rfl, rfl, _, rfl, ?_⟩
  rw [decide_eq_false (by omega)]
  refine iteF ?_
  -- ways = Ways(end - begin)
  refine ⟨_, rfl, _, rfl, _, _, rfl, rfl, fun wa dw nwa ndw ndd => ⟨(wa, dw, n), ?_, ⟨upd_same, (by show n ≤ 500; omega)⟩, ?_⟩⟩
  · show [V.ref wa, V.int (b + (n : Int) - b)] = [V.ref wa, V.int (n : Int)]
    rw [show b + (n : Int) - b = (n : Int) by omega]
  rintro _ H3 ⟨rfl, hw3, k3⟩
  have sd : Same H2 (upd (upd H2 dw (.own wa)) wa (.ins (He.ga K "Ways") dw [])) := same_up (same_up (Same.refl _) ndw) nwa
  have s3 : Same H2 H3 := fun c o e => k3 c o (sd c o e) (ne_of_none e nwa)
  refine ⟨rfl, ?_⟩
  have s13 := s12.trans s3
  -- for kind, quiet in records_of(row)
  refine ⟨_, rfl, (r, rs), rfl, ⟨hrow.same s13, hinc, hfew⟩, ?_⟩
  rintro _ H4 ⟨tr, rfl, s4, hrt⟩
  obtain ⟨as, eas, las, has⟩ := hrt.get
  refine ⟨tr, rfl, ⟨_, SqT.of eas⟩, for_it (walk_tup (K := K) (xs := as.map V.ref)) (fun i σ H5 => ∃ (y6 y7 : Option V), σ = [some (.ref r), some (.ref t), some (.int b), some (.int (b + (n : Int))), some (nV dl), some (.ref wa), y6, y7, none, none] ∧ Keep wa H4 H5 ∧ WayAt K H5 wa n ((rs.take i).foldl (Mir.addW n) (Mir.wy0 n)))
    ⟨none, none, rfl, keep_of (Same.refl _), hw3.same s4⟩ (fun i σ H5 _ ⟨_, _, _, kp, hw⟩ => ?_) ?_ ?_⟩
  · obtain ⟨d, a, b', c, ep, _⟩ := hw3.ex
    exact SqT.of (kp _ _ eas (ne_of eas (s4 _ _ ep) (fun z => by cases z)))
  · rintro i x σ H5 H6 hi ⟨y6, y7, rfl, kp, hw5⟩ ⟨rfl, e1⟩
    obtain ⟨a, ea, rfl⟩ := get_map e1
    obtain ⟨⟨kd, q⟩, erc, eat⟩ := has i a ea
    have na : a ≠ wa := by
      obtain ⟨d, a1, b1, c1, ep, _⟩ := hw3.ex
      exact ne_of eat (s4 _ _ ep) (fun z => by cases z)
    refine ⟨a, _, rfl, SqT.of (kp _ _ eat na), rfl, _, _, rfl, _, _, rfl, rfl, ?_⟩
    obtain ⟨d, a1, b1, c1, ep5, rest⟩ := id hw5.ex
    refine ⟨_, rfl, wa, d, _, rfl, ep5, rfl, _, rfl, _, rfl, (wa, n, _, (kd, q)), rfl, ⟨hw5, wlen_fold _ _ (wlen0 n), ?_, (by show n ≤ 500; omega), pOk_at hok erc⟩, ?_⟩
    · have := rinc_pos hinc erc
      show 1 ≤ q
      have : 1 < q := this
      omega
    rintro _ H7 ⟨rfl, hw7, k7⟩
    refine ⟨_, _, rfl, kp.trans k7, ?_⟩
    rw [foldl_take _ _ erc]
    exact hw7
  · rintro σ H5 ⟨y6, y7, rfl, kp, hw5⟩
    rw [List.length_map, las, List.take_length] at hw5
    have s5 : Same H2 H5 := by
      intro c o e
      exact kp c o (s4 _ _ (s3 _ _ e)) (ne_of_none e nwa)
    have ht5 := s5.seq ht2
    obtain ⟨bst, bhd⟩ := pOk_end hok
    have wl := wlen_fold rs _ (wlen0 n)
    obtain ⟨d, a1, b1, c1, ep5, ea5, eb5, ec5⟩ := hw5.ex
    have hpm : Mir.pastsM rs E n = Mir.stepsProd (rs.foldl (Mir.addW n) (Mir.wy0 n)).st E ((rs.foldl (Mir.addW n) (Mir.wy0 n)).hd.getD e0 0 * (rs.foldl (Mir.addW n) (Mir.wy0 n)).tl.getD (n - el) 0) := by
      unfold Mir.pastsM
      have h1 : E.headD 0 = e0 := by
        cases E with
        | nil => cases he0
        | cons z zs => exact Option.some.inj he0
      have h2 : E.getLastD 0 = el := by
        rw [List.getLastD_eq_getLast?, List.getLast?_eq_getElem?, hel2]
        rfl
      rw [h1, h2]
    rw [hpm] at k
    generalize rs.foldl (Mir.addW n) (Mir.wy0 n) = wy at *
    -- found = heads[..] * tails[..]
    refine ⟨_, rfl, wa, _, d, _, _, rfl, ep5, T.c_Ways, T.n_Ways_heads, rfl, _, rfl, t, _, _, _, rfl, rfl, ht5, at_map (i := 0) rfl he0, _, rfl, _, _, rfl, rfl, _, rfl, _, _, rfl, rfl, b1, _, _, _, rfl, rfl, SqL.of eb5, at_map (i := e0) (by omega) (get_of_lt (by rw [wl.hd]; omega)),
      _, rfl, wa, _, d, _, _, rfl, ep5, T.c_Ways, T.n_Ways_tails, rfl, _, rfl, _, rfl, _, rfl, t, _, _, _, rfl, rfl, ht5, hlast 0, _, _, rfl, rfl, _, rfl, _, _, rfl, rfl, c1, _, _, _, rfl, rfl, SqL.of ec5, at_map (i := n - el) (by omega) (get_of_lt (by rw [wl.tl]; omega)), _, _, rfl, rfl, .inl ?_, ?_⟩
    · have := bnd_at bhd e0
      constructor <;> omega
    have em : V.int ((wy.hd.getD e0 0 : Int) * (wy.tl.getD (n - el) 0 : Int)) = nV (wy.hd.getD e0 0 * wy.tl.getD (n - el) 0) := by
      show _ = V.int _
      rw [Int.natCast_mul]
    dsimp only
    rw [em]
    generalize wy.hd.getD e0 0 * wy.tl.getD (n - el) 0 = x0 at k
    -- for at in range(len(times) - 1)
    refine ⟨_, rfl, t, _, rfl, .inl ht5, _, _, rfl, rfl, ((E.length - 1 : Nat) : Int), ?_, by omega, by omega, for_it (walk_range (lo := 0) (n := E.length - 1)) (fun i σ H6 => ∃ (x : Nat) (y9 : Option V), σ = [some (.ref r), some (.ref t), some (.int b), some (.int (b + (n : Int))), some (nV dl), some (.ref wa), y6, y7, some (nV x), y9] ∧ H6 = H5 ∧ Mir.stepsProd wy.st (E.drop i) x = Mir.stepsProd wy.st E x0)
      ⟨x0, none, rfl, rfl, rfl⟩ (fun _ _ _ _ _ => trivial) ?_ ?_⟩
    · rw [List.length_map]
      dsimp only
      rw [show ((E.length : Int) - 1) = ((E.length - 1 : Nat) : Int) by omega]
    · rintro i x σ H6 H7 hi ⟨x1, y9, rfl, rfl, es⟩ ⟨rfl, rfl⟩
      obtain ⟨u, hu⟩ : ∃ u, E[i]? = some u := ⟨E[i], List.getElem?_eq_getElem (by omega)⟩
      obtain ⟨v, hv⟩ : ∃ v, E[i + 1]? = some v := ⟨E[i + 1], List.getElem?_eq_getElem (by omega)⟩
      have uv := hup i u v hu hv
      have vn := hle v (List.mem_of_getElem? hv)
      refine ⟨_, rfl, _, rfl, wa, _, d, _, _, rfl, ep5, T.c_Ways, T.n_Ways_steps, rfl, _, rfl, _, rfl, _, _, rfl, rfl, t, _, _, _, rfl, rfl, ht5, at_map (i := i + 1) (by omega) hv, _, rfl, _, rfl, t, _, _, _, rfl, rfl, ht5, at_map (i := i) (by omega) hu, _, _, rfl, rfl, a1, _, _, _, rfl, rfl, SqL.of ea5, at_map (i := v - u) (by omega) (get_of_lt (by rw [wl.st]; omega)), _, _, rfl, rfl, .inr ?_, ?_⟩
      · have := bnd_at bst (v - u)
        constructor <;> omega
      refine ⟨x1 * wy.st.getD (v - u) 0, some (.int (0 + (i : Int))), ?_, rfl, ?_⟩
      · have em : nV (x1 * wy.st.getD (v - u) 0) = V.int ((x1 : Int) * (wy.st.getD (v - u) 0 : Int)) := by
          show V.int _ = _
          rw [Int.natCast_mul]
        rw [em]
        rfl
      · rw [← stepsProd_at wy.st E i x1 u v hu hv]
        exact es
    · rintro σ H6 ⟨x1, y9, rfl, rfl, es⟩
      have e1 : Mir.stepsProd wy.st (E.drop (E.length - 1)) x1 = x1 := by
        rw [List.drop_eq_getElem_cons (by omega), show E.length - 1 + 1 = E.length by omega, List.drop_length]
        rfl
      rw [e1] at es
      refine ⟨_, rfl, ?_⟩
      rw [es]
      exact k _ _ ⟨rfl, s12.trans s5⟩
end
end Qr
set_option maxHeartbeats 4000000
namespace Qr
open PySem PySem.Spec PyProof.Rows L2
section
variable {P : Program} {w : World} {K : PySem.W.Frag} {mg : Str → Option Value} {base : Heap}
/-! the law's own helpers -/
def spCell (K : PySem.W.Frag) : Sp := spOf (fun a : Addr × List Int × Nat => [.ref a.1, nV a.2.2]) (fun a H => SqL K H a.1 (a.2.1.map V.int)) (fun a H r H' => (∃ z : Int, r = .int z) ∧ H' = H)
theorem ok_law_cell_at (T : Txt K mg) : Cal P w K mg base "_law_cell_at" ["_law_script", "_law_k"] 1 (spCell K) := by
  refine ⟨fn_mk T.F_law_cell_at sc_law_cell_at bd_law_cell_at (spOf_len fun _ => rfl) (fun cdv A outer s H vs Q E hr h => ?_), T.F_law_cell_at.elim fun _ F => F.kp, T.g__law_cell_at⟩
  obtain ⟨⟨a, ns, n⟩, rfl, hS, k⟩ := h
  dsimp only at hS k
  refine ⟨_, (pss_one (ps_ret (pe_ifExp (pt_cmpR op_lt (pv 1) (pe_callB call_len_seq rfl T.z_len (by decide +kernel) (pa_cons (pv 0) pa_nil)) (nomark _)) (pe_ix ix_list (pv 0) (pv 1) (fun _ _ => rfl)) pe_int))), ?_⟩
  refine ⟨_, rfl, _, rfl, a, _, rfl, .inl hS, _, _, rfl, rfl, _, rfl, ?_⟩
  rw [List.length_map]
  refine ite2 (fun hc => ?_) (fun hc => k _ _ ⟨⟨0, rfl⟩, rfl⟩)
  rw [decide_eq_true_eq] at hc
  dsimp only at hc
  have hl : n < ns.length := by omega
  exact ⟨_, rfl, _, rfl, a, _, _, _, rfl, rfl, hS, at_map (i := n) rfl (List.getElem?_eq_getElem hl), k _ _ ⟨⟨_, rfl⟩, rfl⟩⟩
/-- a source of draws -/
structure StAt (H : Hp) (l : Addr) : Prop where
  ex : ∃ x0 x1 x2 : Int, H l = some (.lst [.int x0, .int x1, .int x2]) ∧ 0 ≤ x0 ∧ 0 ≤ x1 ∧ x1 < 4294967296 ∧ 0 ≤ x2 ∧ x2 < 4294967296
theorem StAt.same {H H' : Hp} {l : Addr} (h : StAt H l) (s : Same H H') : StAt H' l := by
  obtain ⟨x0, x1, x2, e, r⟩ := h.ex
  exact ⟨x0, x1, x2, s _ _ e, r⟩
def spState : Sp := spOf (fun a : Int => [.int a]) (fun _ _ => True) (fun a H r H' => ∃ l, r = .ref l ∧ H l = none ∧ Same H H' ∧ StAt H' l)
theorem ok_law_state (T : Txt K mg) : Cal P w K mg base "_law_state" ["_law_source"] 1 spState := by
  refine ⟨fn_mk T.F_law_state sc_law_state bd_law_state (spOf_len fun _ => rfl) (fun cdv A outer s H vs Q E hr h => ?_), T.F_law_state.elim fun _ F => F.kp, T.g__law_state⟩
  obtain ⟨z, rfl, _, k⟩ := h
  refine ⟨_, (pss_cons (ps_set (i := 0) sc_law_state.nd rfl (.inl rfl) (pe_callB call_abs rfl T.z_abs (by decide +kernel) (pa_cons (pv 0) pa_nil))) (pss_one (ps_ret (pe_lst (pa_cons (pe_op op_mul (pv 0) (pe_callTy call_int1 rfl T.z_int (by decide +kernel) (pa_cons (pe_cmpR op_ge (pv 0) (pe_op op_pow pe_int pe_int) (nomark _)) pa_nil))) (pa_cons (pe_op op_add (pe_op op_mod (pe_callTy call_int1 rfl T.z_int (by decide +kernel) (pa_cons (pv 0) pa_nil)) pe_int) pe_int) (pa_cons (pe_op op_mod (pe_callTy call_int1 rfl T.z_int (by decide +kernel) (pa_cons (pv 0) pa_nil)) pe_int) pa_nil))))))), ?_⟩
  refine ⟨_, rfl, z, rfl, ?_⟩
  have hz : 0 ≤ (if z < 0 then -z else z) := by split <;> omega
  generalize (if z < 0 then -z else z) = y at hz
  refine ⟨_, rfl, _, rfl, _, _, rfl, rfl, ⟨by decide, by decide, by decide⟩, _, _, rfl, rfl, .inr ⟨_, rfl, ?_⟩⟩
  generalize hc : (decide ((10 : Int) ^ (18 : Int).toNat ≤ y)) = cb
  refine ⟨_, _, rfl, rfl, .inr (by cases cb <;> decide), ?_⟩
  refine ⟨_, rfl, .inl ⟨_, rfl, _, _, rfl, rfl, (by show (0 : Int) < 2147483629; decide), _, _, rfl, rfl, ?_⟩⟩
  refine ⟨_, rfl, .inl ⟨_, rfl, _, _, rfl, rfl, (by show (0 : Int) < 2147483587; decide), ?_⟩⟩
  refine ⟨len_ok' (by show 3 ≤ 1000; decide), fun l nl => ?_⟩
  have b1 := Int.emod_nonneg y (show (2147483629 : Int) ≠ 0 by decide)
  have b2 := Int.emod_lt_of_pos y (show (0 : Int) < 2147483629 by decide)
  have b3 := Int.emod_nonneg y (show (2147483587 : Int) ≠ 0 by decide)
  have b4 := Int.emod_lt_of_pos y (show (0 : Int) < 2147483587 by decide)
  refine k _ _ ⟨l, rfl, nl, same_upd1 nl, ⟨_, _, _, upd_same, ?_, by omega, by omega, by omega, by omega⟩⟩
  cases cb
  · simp
  · simp
    exact hz
def spDigit : Sp := spOf (fun a : Addr × Nat => [.ref a.1, nV a.2]) (fun a H => StAt H a.1 ∧ 1 ≤ a.2 ∧ a.2 < 1000) (fun a H r H' => (∃ d : Nat, r = nV d ∧ d < a.2) ∧ StAt H' a.1 ∧ Keep a.1 H H' ∧ ∀ b, H b = none → H' b = none)
theorem ok_law_digit (T : Txt K mg) : Cal P w K mg base "_law_digit" ["_law_state_here", "_law_base"] 1 spDigit := by
  refine ⟨fn_mk T.F_law_digit sc_law_digit bd_law_digit (spOf_len fun _ => rfl) (fun cdv A outer s H vs Q E hr h => ?_), T.F_law_digit.elim fun _ F => F.kp, T.g__law_digit⟩
  obtain ⟨⟨l, n⟩, rfl, ⟨⟨x0, x1, x2, el, h0, h1, h1', h2, h2'⟩, hn, hn'⟩, k⟩ := h
  dsimp only at el hn hn' k
  refine ⟨_, (pss_cons (ps_if (pt_cmpR op_gt (pe_ix ix_list (pv 0) pe_int (fun _ _ => rfl)) pe_int (nomark _)) (pss_cons (ps_set (i := 2) sc_law_digit.nd rfl (.inl rfl) (pe_op op_mod (pe_callTy call_int1 rfl T.z_int (by decide +kernel) (pa_cons (pe_ix ix_list (pv 0) pe_int (fun _ _ => rfl)) pa_nil)) (pv 1))) (pss_cons (ps_asg (pe_op op_fdiv (pe_ix ix_list (pv 0) pe_int (fun _ _ => rfl)) (pv 1)) (pg_sub (pv 0) pe_int set_list)) (pss_one (ps_ret (pv 2))))) pss_nil) (pss_cons (ps_set (i := 3) sc_law_digit.nd rfl (.inl rfl) (pe_op op_mul (pe_ix ix_list (pv 0) pe_int (fun _ _ => rfl)) (pe_op op_add (pe_op op_fdiv (pe_ix ix_list (pv 0) pe_int (fun _ _ => rfl)) pe_int) pe_int))) (pss_cons (ps_asg (pe_op op_add (pe_op op_mod (pe_callTy call_int1 rfl T.z_int (by decide +kernel) (pa_cons (pe_op op_add (pv 3) (pe_ix ix_list (pv 0) pe_int (fun _ _ => rfl))) pa_nil)) pe_int) pe_int) (pg_sub (pv 0) pe_int set_list)) (pss_one (ps_ret (pe_op op_mod (pe_callTy call_int1 rfl T.z_int (by decide +kernel) (pa_cons (pe_op op_fdiv (pe_ix ix_list (pv 0) pe_int (fun _ _ => rfl)) pe_int) pa_nil)) (pv 1))))))), ?_⟩
  have a0 : atI [V.int x0, V.int x1, V.int x2] 0 = some (V.int x0) := rfl
  have a1 : atI [V.int x0, V.int x1, V.int x2] 1 = some (V.int x1) := rfl
  have a2 : atI [V.int x0, V.int x1, V.int x2] 2 = some (V.int x2) := rfl
  have free : ∀ (o : HO) (b : Addr), H b = none → (upd H l o) b = none := fun o b e => by
    rw [upd_ne (fun z => by rw [z, el] at e; cases e)]
    exact e
  have nat : ∀ y : Int, 0 ≤ y → ∃ d : Nat, V.int (y % (n : Int)) = nV d ∧ d < n := fun y hy => by
    have b1 := Int.emod_nonneg y (show (n : Int) ≠ 0 by omega)
    have b2 := Int.emod_lt_of_pos y (show (0 : Int) < (n : Int) by omega)
    refine ⟨(y % (n : Int)).toNat, ?_, by omega⟩
    show _ = V.int _
    congr 1
    omega
  refine ⟨_, rfl, l, _, _, _, rfl, rfl, SqL.of el, a0, _, _, rfl, rfl, _, rfl, ?_⟩
  refine ite2 (fun hc => ?_) (fun hc => ?_)
  · refine ⟨_, rfl, l, _, _, _, rfl, rfl, SqL.of el, a0, .inl ⟨_, rfl, _, rfl, _, _, rfl, rfl, (by show (0 : Int) < (n : Int); omega), ?_⟩⟩
    refine ⟨_, rfl, l, _, _, _, rfl, rfl, SqL.of el, a0, _, rfl, _, _, rfl, rfl, ⟨(by show (0 : Int) < (n : Int); omega), (by show (n : Int) < 1073741824; omega)⟩, ?_⟩
    refine ⟨_, rfl, l, _, _, 0, rfl, rfl, el, rfl, ?_⟩
    exact ⟨_, rfl, k _ _ ⟨nat x0 h0, ⟨_, _, _, upd_same, Int.ediv_nonneg h0 (by omega), h1, h1', h2, h2'⟩, keep_up (keep_of (Same.refl H)), free _⟩⟩
  · refine ⟨_, rfl, l, _, _, _, rfl, rfl, SqL.of el, a1, _, rfl, l, _, _, _, rfl, rfl, SqL.of el, a1, _, _, rfl, rfl, ⟨by decide, by decide⟩, _, _, rfl, rfl, _, _, rfl, rfl, .inl ⟨by omega, by omega⟩, ?_⟩
    have m0 : 0 ≤ x1 * (x1 / 1009 + 69621) := Int.mul_nonneg h1 (by omega)
    refine ⟨_, rfl, _, rfl, l, _, _, _, rfl, rfl, SqL.of el, a2, _, _, rfl, rfl, .inl ⟨_, rfl, _, _, rfl, rfl, (by show (0 : Int) < 2147483629; decide), _, _, rfl, rfl, ?_⟩⟩
    have b1 := Int.emod_nonneg (x1 * (x1 / 1009 + 69621) + x2) (show (2147483629 : Int) ≠ 0 by decide)
    have b2 := Int.emod_lt_of_pos (x1 * (x1 / 1009 + 69621) + x2) (show (0 : Int) < 2147483629 by decide)
    refine ⟨_, rfl, l, _, _, 1, rfl, rfl, el, rfl, ?_⟩
    dsimp only
    generalize (x1 * (x1 / 1009 + 69621) + x2) % 2147483629 = y at b1 b2
    refine ⟨_, rfl, l, _, _, V.int (y + 7), rfl, rfl, SqL.of upd_same, rfl, _, _, rfl, rfl, ⟨by decide, by decide⟩, .inl ⟨_, rfl, _, rfl, _, _, rfl, rfl, (by show (0 : Int) < (n : Int); omega), ?_⟩⟩
    exact k _ _ ⟨nat _ (by omega), ⟨x0, y + 7, x2, upd_same, h0, by omega, by omega, h2, h2'⟩, keep_up (keep_of (Same.refl H)), free _⟩
/-! kinds -/
def spKinds : Sp := spOf (fun _ : Unit => []) (fun _ _ => True) (fun _ H r H' => ∃ l, r = .ref l ∧ H l = none ∧ Same H H' ∧ H' l = some (.lst [.str (kS .last), .str (kS .first), .str (kS .limit)]))
theorem ok_law_kinds (T : Txt K mg) : Cal P w K mg base "_law_kinds" [] 1 spKinds := by
  refine ⟨fn_mk T.F_law_kinds sc_law_kinds bd_law_kinds (spOf_len fun _ => rfl) (fun cdv A outer s H vs Q E hr h => ?_), T.F_law_kinds.elim fun _ F => F.kp, T.g__law_kinds⟩
  obtain ⟨_, rfl, _, k⟩ := h
  refine ⟨_, (pss_one (ps_ret (pe_lst (pa_cons pe_str (pa_cons pe_str (pa_cons pe_str pa_nil)))))), ?_⟩
  exact ⟨len_ok' (by show 3 ≤ 1000; decide), fun l nl => k _ _ ⟨l, rfl, nl, same_upd1 nl, upd_same⟩⟩
/-! made -/
def spMade (K : PySem.W.Frag) : Sp := spOf (fun a : Addr × List Rec => [.ref a.1]) (fun a H => RecsT H a.1 a.2 ∧ rInc 1 a.2 = true ∧ a.2.length ≤ 1000) (fun a H r H' => ∃ l ms, r = .ref l ∧ Same H H' ∧ H' l = some (.lst (ms.map V.ref)) ∧ MemsAt K H' ms a.2)
theorem ok_law_made (T : Txt K mg) : Cal P w K mg base "_law_made" ["_law_members"] 4 (spMade K) := by
  have G_Last_init := ok_Last_init (P := P) (w := w) (base := base) T
  have G_First_init := ok_First_init (P := P) (w := w) (base := base) T
  have G_Limit_init := ok_Limit_init (P := P) (w := w) (base := base) T
  refine ⟨fn_mk T.F_law_made sc_law_made bd_law_made (spOf_len fun _ => rfl) (fun cdv A outer s H vs Q E hr h => ?_), T.F_law_made.elim fun _ F => F.kp, T.g__law_made⟩
  obtain ⟨⟨t, rs⟩, rfl, ⟨hrt, hinc, hl⟩, k⟩ := h
  dsimp only at hrt hinc hl k
  obtain ⟨as, eas, las, has⟩ := hrt.get
  refine ⟨_, (pss_cons (ps_set (i := 1) sc_law_made.nd rfl (.inl rfl) (pe_lst pa_nil)) (pss_cons (ps_for PassesOwn.never rfl (pi_tup (pv 0)) (pg_tup rfl (pgs_cons (pg_name (i := 2) sc_law_made.nd rfl (.inl rfl)) (pgs_cons (pg_name (i := 3) sc_law_made.nd rfl (.inl rfl)) pgs_nil))) (pss_one (ps_if (pt_cmpR op_eq (pv 2) pe_str (nomark _)) (pss_one (ps_expr (pe_bm PySem.F.plainAttrs_list PySem.F.slot_list_append PySem.F.type_list_append mt_append (pv 1) (pa_cons (pe_ci G_Last_init (hr.mono (by omega)) rfl (pa_cons (pv 3) pa_nil)) pa_nil)))) (pss_one (ps_if (pt_cmpR op_eq (pv 2) pe_str (nomark _)) (pss_one (ps_expr (pe_bm PySem.F.plainAttrs_list PySem.F.slot_list_append PySem.F.type_list_append mt_append (pv 1) (pa_cons (pe_ci G_First_init (hr.mono (by omega)) rfl (pa_cons (pv 3) pa_nil)) pa_nil)))) (pss_one (ps_if (pt_cmpR op_eq (pv 2) pe_str (nomark _)) (pss_one (ps_expr (pe_bm PySem.F.plainAttrs_list PySem.F.slot_list_append PySem.F.type_list_append mt_append (pv 1) (pa_cons (pe_ci G_Limit_init (hr.mono (by omega)) rfl (pa_cons (pv 3) pa_nil)) pa_nil)))) (pss_one ps_never)))))))) (pss_one (ps_ret (pv 1))))), ?_⟩
  refine ⟨Nat.zero_le _, fun f nf => ?_⟩
  have s1 : Same H (upd H f (.lst [])) := same_upd1 nf
  refine ⟨_, rfl, t, rfl, ⟨_, SqT.of (s1 _ _ eas)⟩, for_it (walk_tup (K := K) (xs := as.map V.ref)) (fun i σ H2 => ∃ (ms : List Addr) (y2 y3 : Option V), σ = [some (.ref t), some (.ref f), y2, y3] ∧ Same H H2 ∧ H2 f = some (.lst (ms.map V.ref)) ∧ MemsAt K H2 ms (rs.take i))
    ⟨[], none, none, rfl, s1, upd_same, rfl, fun _ _ _ z => by cases z⟩ (fun i σ H2 _ ⟨_, _, _, _, z, _⟩ => SqT.of (z _ _ eas)) ?_ ?_⟩
  · rintro i x σ H2 H3 hi ⟨ms, y2, y3, rfl, s2, ef, hm⟩ ⟨rfl, e1⟩
    obtain ⟨a, ea, rfl⟩ := get_map e1
    obtain ⟨⟨kd, q⟩, erc, eat⟩ := has i a ea
    have lr := lt_of_get erc
    have lms : ms.length = i := by
      have := hm.len
      rw [List.length_take] at this
      omega
    have hq : 1 ≤ q := by
      have := rinc_pos hinc erc
      have : 1 < q := this
      omega
    refine ⟨a, _, rfl, SqT.of (s2 _ _ eat), rfl, _, _, rfl, _, _, rfl, rfl, ?_⟩
    -- a member made, appended
    have fin : ∀ (x dx : Addr), H3 x = none → H3 dx = none → ∀ H4, H4 = upd (upd (upd H3 dx (.own x)) x (.ins (He.ga K (kC kd)) dx [])) x (.ins (He.ga K (kC kd)) dx [("q", nV q)]) →
        H4 f = some (.lst (ms.map V.ref)) ∧ (ms.map V.ref).length < sizeLine ∧ (∃ (ms2 : List Addr) (y2 y3 : Option V), [some (.ref t), some (.ref f), some (.str (kS kd)), some (nV q)] = [some (V.ref t), some (V.ref f), y2, y3] ∧ Same H (upd H4 f (.lst (ms.map V.ref ++ [.ref x]))) ∧
          (upd H4 f (.lst (ms.map V.ref ++ [.ref x]))) f = some (.lst (ms2.map V.ref)) ∧ MemsAt K (upd H4 f (.lst (ms.map V.ref ++ [.ref x]))) ms2 (rs.take (i + 1))) := fun x dx nx nd H4 e4 => by
      have s4 : Same H3 H4 := by
        rw [e4]
        exact same_made (Same.refl H3) nx nd
      have ef4 := s4 _ _ ef
      have ex4 : H4 x = some (.ins (He.ga K (kC kd)) dx [("q", nV q)]) := by rw [e4, upd_same]
      refine ⟨ef4, len_ok (by rw [List.length_map]; omega), ms ++ [x], _, _, rfl, same_up (s2.trans s4) nf, by rw [upd_same, List.map_append]; rfl, ?_, fun j m r e2 e3 => ?_⟩
      · rw [List.length_append, List.length_take, lms]
        simp
        omega
      · have keepM : ∀ {m r}, MemAt K H4 m r → MemAt K (upd H4 f (.lst (ms.map V.ref ++ [.ref x]))) m r := fun {m r} ⟨d, e⟩ => ⟨d, by rw [upd_ne (ne_of e ef4 (fun z => by cases z))]; exact e⟩
        by_cases hj : j < ms.length
        · rw [List.getElem?_append_left hj] at e2
          have e3' : (rs.take i)[j]? = some r := by
            rw [List.getElem?_take_of_lt (by omega)] at e3 ⊢
            exact e3
          exact keepM ((hm.at_ j m r e2 e3').same s4)
        · have ej : j = ms.length := by
            have := lt_of_get e2
            rw [List.length_append] at this
            simp at this
            omega
          subst ej
          rw [List.getElem?_append_right (Nat.le_refl _), Nat.sub_self] at e2
          obtain rfl : x = m := Option.some.inj e2
          rw [List.getElem?_take_of_lt (by omega), lms, erc] at e3
          obtain rfl := Option.some.inj e3
          exact keepM ⟨dx, ex4⟩
    cases kd with
    | last =>
      refine ⟨_, rfl, rfl, _, rfl, ?_⟩
      rw [decide_eq_true (show V.str (kS .last) = V.str "last" from rfl)]
      refine iteT ⟨_, rfl, .inl ⟨rfl, _, SqL.of ef⟩, _, rfl, fun x dx nx nd ne => ⟨(x, dx, q), rfl, ⟨upd_same, hq⟩, ?_⟩⟩
      rintro r H' ⟨rfl, rfl⟩
      obtain ⟨w1, w2, w3⟩ := fin x dx nx nd _ rfl
      exact ⟨rfl, f, _, _, rfl, rfl, w1, w2, w3⟩
    | first =>
      refine ⟨_, rfl, rfl, _, rfl, ?_⟩
      rw [decide_eq_false (show ¬ V.str (kS .first) = V.str "last" by decide +kernel)]
      refine iteF ⟨_, rfl, rfl, _, rfl, ?_⟩
      rw [decide_eq_true (show V.str (kS .first) = V.str "first" from rfl)]
      refine iteT ⟨_, rfl, .inl ⟨rfl, _, SqL.of ef⟩, _, rfl, fun x dx nx nd ne => ⟨(x, dx, q), rfl, ⟨upd_same, hq⟩, ?_⟩⟩
      rintro r H' ⟨rfl, rfl⟩
      obtain ⟨w1, w2, w3⟩ := fin x dx nx nd _ rfl
      exact ⟨rfl, f, _, _, rfl, rfl, w1, w2, w3⟩
    | limit =>
      refine ⟨_, rfl, rfl, _, rfl, ?_⟩
      rw [decide_eq_false (show ¬ V.str (kS .limit) = V.str "last" by decide +kernel)]
      refine iteF ⟨_, rfl, rfl, _, rfl, ?_⟩
      rw [decide_eq_false (show ¬ V.str (kS .limit) = V.str "first" by decide +kernel)]
      refine iteF ⟨_, rfl, rfl, _, rfl, ?_⟩
      rw [decide_eq_true (show V.str (kS .limit) = V.str "limit" from rfl)]
      refine iteT ⟨_, rfl, .inl ⟨rfl, _, SqL.of ef⟩, _, rfl, fun x dx nx nd ne => ⟨(x, dx, q), rfl, ⟨upd_same, hq⟩, ?_⟩⟩
      rintro r H' ⟨rfl, rfl⟩
      obtain ⟨w1, w2, w3⟩ := fin x dx nx nd _ rfl
      exact ⟨rfl, f, _, _, rfl, rfl, w1, w2, w3⟩
  · rintro σ H2 ⟨ms, y2, y3, rfl, s2, ef, hm⟩
    rw [List.length_map, las, List.take_length] at hm
    exact ⟨_, rfl, k _ _ ⟨f, ms, rfl, s2, ef, hm⟩⟩
/-! late_of -/
def spLateOf : Sp := spOf (fun a : Addr × List Rec => [.ref a.1]) (fun a H => RecsT H a.1 a.2 ∧ a.2.length ≤ 1000) (fun a H r H' => r = nV (a.2.map late).sum ∧ Same H H')
theorem ok_law_late_of (T : Txt K mg) : Cal P w K mg base "_law_late_of" ["_law_members"] 1 spLateOf := by
  refine ⟨fn_mk T.F_law_late_of sc_law_late_of bd_law_late_of (spOf_len fun _ => rfl) (fun cdv A outer s H vs Q E hr h => ?_), T.F_law_late_of.elim fun _ F => F.kp, T.g__law_late_of⟩
  obtain ⟨⟨t, rs⟩, rfl, ⟨hrt, hl⟩, k⟩ := h
  dsimp only at hrt hl k
  obtain ⟨as, eas, las, has⟩ := hrt.get
  refine ⟨_, (pss_one (ps_ret (pe_callB (cr_sum rfl) rfl T.z_sum (by decide +kernel) (pa_cons (pe_lc (own := [("_law_kind", 1), ("_law_number", 2)]) (by rfl) sc_law_late_of.nd (pi_tup (pv 0)) (blkOk_by (own := [("_law_kind", 1), ("_law_number", 2)]) (N := ["_law_members", "_law_kind", "_law_number"]) (sc := defScope sf_law_late_of) (by decide +kernel)) (fun _ _ _ _ _ => (pg_tupK (K := K) 2 rfl rfl (pgs_cons (pg_name (i := 1) sc_law_late_of.nd rfl (by first | exact Or.inl rfl | exact Or.inr rfl)) (pgs_cons (pg_name (i := 2) sc_law_late_of.nd rfl (by first | exact Or.inl rfl | exact Or.inr rfl)) pgs_nil)))) (fun _ _ _ _ _ => (pts_one (pt_cmpR (op_in_seqK (K := K) rfl) (pv 1) (pe_tup (pa_cons pe_str (pa_cons pe_str pa_nil))) rfl))) (fun _ _ _ _ _ => (pv 2))) pa_nil)))), ?_⟩
  refine ⟨_, rfl, t, rfl, ⟨_, SqT.of eas⟩, fun D nD => lc_it (walk_tup (K := K) (xs := as.map V.ref))
    (fun i H2 => Same H H2 ∧ ∃ l : List Nat, H2 D = some (.lst (l.map nV)) ∧ l.length ≤ i ∧ l.sum = ((rs.take i).map late).sum) ⟨same_upd1 nD, [], upd_same, Nat.le_refl _, rfl⟩ (fun i H2 _ z => SqT.of (z.1 _ _ eas)) ?_ ?_⟩
  · rintro i x H2 H3 hi ⟨s2, l, eD, ll, es⟩ ⟨rfl, e1⟩
    obtain ⟨a, ea, rfl⟩ := get_map e1
    obtain ⟨⟨kd, q⟩, erc, eat⟩ := has i a ea
    have lr := lt_of_get erc
    have es2 : ((rs.take (i + 1)).map late).sum = l.sum + late (kd, q) := by
      rw [take_map late erc, List.sum_append, es]
      simp
    refine ⟨a, _, rfl, SqT.of (s2 _ _ eat), rfl, _, _, rfl, _, _, rfl, rfl, rfl, ?_⟩
    refine ⟨_, rfl, len_ok' (by show 2 ≤ 1000; decide), fun t2 nt2 => ⟨t2, _, rfl, .inr (SqT.of upd_same), rfl, rfl, _, rfl, ?_⟩⟩
    have s3 := same_new (u := .tup [V.str "last", V.str "delay"]) s2 nt2
    have eD3 := up_old (u := .tup [V.str "last", V.str "delay"]) eD nt2
    cases kd with
    | last =>
      refine iteT ⟨_, rfl, _, eD3, len_ok (by rw [List.length_map]; omega), same_up s3 nD, l ++ [q], by rw [upd_same, List.map_append]; rfl, by rw [List.length_append]; simp; omega, ?_⟩
      rw [es2, List.sum_append]
      simp [late]
    | first => exact iteF ⟨s3, l, eD3, by omega, by rw [es2]; rfl⟩
    | limit => exact iteF ⟨s3, l, eD3, by omega, by rw [es2]; rfl⟩
  · rintro H2 ⟨s2, l, eD, ll, es⟩
    rw [List.length_map, las, List.take_length] at es
    dsimp only [tNil]
    refine rd_sum eD ?_
    rw [es]
    exact k _ _ ⟨rfl, s2⟩
/-! row_of -/
def spRowOf (K : PySem.W.Frag) : Sp := spOf (fun a : Addr × List Rec => [.ref a.1]) (fun a H => RecsT H a.1 a.2 ∧ rInc 1 a.2 = true ∧ a.2.length ≤ 1000) (fun a H r H' => ∃ p, r = .ref p ∧ Same H H' ∧ RowAt K H' p a.2)
theorem ok_law_row_of (T : Txt K mg) : Cal P w K mg base "_law_row_of" ["_law_members"] 5 (spRowOf K) := by
  have G_Row_init := ok_Row_init (P := P) (w := w) (base := base) T
  have G_law_made := ok_law_made (P := P) (w := w) (base := base) T
  refine ⟨fn_mk T.F_law_row_of sc_law_row_of bd_law_row_of (spOf_len fun _ => rfl) (fun cdv A outer s H vs Q E hr h => ?_), T.F_law_row_of.elim fun _ F => F.kp, T.g__law_row_of⟩
  obtain ⟨⟨t, rs⟩, rfl, hpre, k⟩ := h
  dsimp only at hpre k
  refine ⟨_, (pss_one (ps_ret (pe_ci G_Row_init (hr.mono (by omega)) rfl (pa_cons (pe_c G_law_made (hr.mono (by omega)) rfl (pa_cons (pv 0) pa_nil)) pa_nil)))), ?_⟩
  refine ⟨_, rfl, (t, rs), rfl, hpre, ?_⟩
  rintro _ H1 ⟨l, ms, rfl, s1, el, hm⟩
  intro x dx nx nd ne
  have sd : Same H1 (upd (upd H1 dx (.own x)) x (.ins (He.ga K "Row") dx [])) := same_up (same_up (Same.refl _) nd) nx
  refine ⟨(x, dx, l, ms, rs), rfl, ⟨upd_same, SqL.of (sd _ _ el), hm.same sd⟩, ?_⟩
  rintro _ H2 ⟨rfl, ⟨t2, e1, e2⟩, k2⟩
  have s2 : Same H1 H2 := fun c o e => k2 c o (sd c o e) (ne_of_none e nx)
  exact ⟨rfl, k _ _ ⟨x, rfl, s1.trans s2, dx, t2, ms, e1, e2, hm.same s2⟩⟩
end
end Qr
set_option maxHeartbeats 4000000
namespace Qr
open PySem PySem.Spec PyProof.Rows L2
theorem op_catAK {X : Cx} {K : PySem.W.Frag} (hK : X.K = K) : OpR X (binaryOp .Add) (rCatA K) := by subst hK; exact op_catA
/-! lists of things, each at its address -/
structure Each {α : Type} (R : Hp → Addr → α → Prop) (H : Hp) (as : List Addr) (xs : List α) : Prop where
  len : as.length = xs.length
  at_ : ∀ (i : Nat) (a : Addr) (x : α), as[i]? = some a → xs[i]? = some x → R H a x
theorem Each.nil {α : Type} {R : Hp → Addr → α → Prop} {H : Hp} : Each R H [] [] := ⟨rfl, fun _ _ _ z => by cases z⟩
theorem Each.mono {α : Type} {R : Hp → Addr → α → Prop} {H H' : Hp} {as : List Addr} {xs : List α} (h : Each R H as xs) (f : ∀ a x, R H a x → R H' a x) : Each R H' as xs := ⟨h.len, fun i a x e1 e2 => f _ _ (h.at_ i a x e1 e2)⟩
theorem Each.append {α : Type} {R : Hp → Addr → α → Prop} {H : Hp} {as bs : List Addr} {xs ys : List α} (h : Each R H as xs) (g : Each R H bs ys) : Each R H (as ++ bs) (xs ++ ys) := by
  refine ⟨by rw [List.length_append, List.length_append, h.len, g.len], fun i a x e1 e2 => ?_⟩
  by_cases c : i < as.length
  · rw [List.getElem?_append_left c] at e1
    rw [List.getElem?_append_left (by rw [← h.len]; exact c)] at e2
    exact h.at_ i a x e1 e2
  · rw [List.getElem?_append_right (by omega)] at e1
    rw [List.getElem?_append_right (by rw [← h.len]; omega)] at e2
    rw [← h.len] at e2
    exact g.at_ _ a x e1 e2
theorem Each.one {α : Type} {R : Hp → Addr → α → Prop} {H : Hp} {a : Addr} {x : α} (h : R H a x) : Each R H [a] [x] := by
  refine ⟨rfl, fun i b y e1 e2 => ?_⟩
  cases i with
  | zero =>
    obtain rfl := Option.some.inj e1
    obtain rfl := Option.some.inj e2
    exact h
  | succ i => cases e1
theorem Each.get {α : Type} {R : Hp → Addr → α → Prop} {H : Hp} {as : List Addr} {xs : List α} (h : Each R H as xs) {i : Nat} {a : Addr} (e : as[i]? = some a) : ∃ x, xs[i]? = some x ∧ R H a x := by
  have l := lt_of_get e
  rw [h.len] at l
  exact ⟨xs[i], List.getElem?_eq_getElem l, h.at_ i a _ e (List.getElem?_eq_getElem l)⟩
def StrAt (b : Int) (H : Hp) (a : Addr) (s : List Nat) : Prop := H a = some (.lst (s.map (tV b)))
theorem win_len : ∀ n, (Mir.winGo n).length = 2 ^ n
  | 0 => rfl
  | n + 1 => by
    show (Mir.winGo n ++ (Mir.winGo n).map fun s => s ++ [n]).length = _
    rw [List.length_append, List.length_map, win_len n, Nat.pow_succ]
    omega
theorem win_mem : ∀ {n : Nat} {s : List Nat}, s ∈ Mir.winGo n → s.length ≤ n ∧ ∀ x ∈ s, x < n
  | 0, s, h => by
    rw [List.mem_singleton.mp h]
    exact ⟨Nat.le_refl _, fun x z => by cases z⟩
  | n + 1, s, h => by
    rcases List.mem_append.mp (show s ∈ Mir.winGo n ++ (Mir.winGo n).map fun s => s ++ [n] from h) with h | h
    · obtain ⟨h1, h2⟩ := win_mem h
      exact ⟨by omega, fun x z => Nat.lt_succ_of_lt (h2 x z)⟩
    · obtain ⟨u, hu, rfl⟩ := List.mem_map.mp h
      obtain ⟨h1, h2⟩ := win_mem hu
      refine ⟨by rw [List.length_append]; simp; omega, fun x z => ?_⟩
      rcases List.mem_append.mp z with z | z
      · exact Nat.lt_succ_of_lt (h2 x z)
      · rw [List.mem_singleton.mp z]
        exact Nat.lt_succ_self _
theorem win_small {n : Nat} (h : n ≤ 7) : (Mir.winGo n).length ≤ 128 := by
  rw [win_len]
  exact Nat.pow_le_pow_right (by decide) h
theorem forms_len : ∀ n, (Mir.formsGo n).length = 4 ^ n
  | 0 => rfl
  | n + 1 => by
    show (Mir.formsGo n ++ ([Mir.Kd.last, .first, .limit].map fun k => (Mir.formsGo n).map fun r => r ++ [(k, n + 2)]).flatten).length = _
    rw [List.length_append, Nat.pow_succ]
    simp [forms_len n]
    omega
theorem forms_mem : ∀ {n : Nat} {r : List Rec}, r ∈ Mir.formsGo n → r.length ≤ n
  | 0, r, h => by
    rw [List.mem_singleton.mp h]
    exact Nat.le_refl _
  | n + 1, r, h => by
    rcases List.mem_append.mp (show r ∈ Mir.formsGo n ++ ([Mir.Kd.last, .first, .limit].map fun k => (Mir.formsGo n).map fun r => r ++ [(k, n + 2)]).flatten from h) with h | h
    · have := forms_mem h
      omega
    · obtain ⟨l, hl, hr⟩ := List.mem_flatten.mp h
      obtain ⟨k, _, rfl⟩ := List.mem_map.mp hl
      obtain ⟨u, hu, rfl⟩ := List.mem_map.mp hr
      have := forms_mem hu
      rw [List.length_append]
      simp
      omega
theorem forms_small {n : Nat} (h : n ≤ 3) : (Mir.formsGo n).length ≤ 64 := by
  rw [forms_len]
  exact Nat.pow_le_pow_right (by decide) h
section
variable {P : Program} {w : World} {K : PySem.W.Frag} {mg : Str → Option Value} {base : Heap}
/-! windows -/
def spWin : Sp := spOf (fun a : Int × Nat => [.int a.1, nV a.2]) (fun a _ => a.2 ≤ 7) (fun a H r H' => ∃ l as, r = .ref l ∧ Same H H' ∧ H' l = some (.lst (as.map V.ref)) ∧ Each (StrAt a.1) H' as (Mir.winGo a.2))
theorem ok_law_windows (T : Txt K mg) : Cal P w K mg base "_law_windows" ["_law_begin", "_law_many"] 1 spWin := by
  refine ⟨fn_mk T.F_law_windows sc_law_windows bd_law_windows (spOf_len fun _ => rfl) (fun cdv A outer s H vs Q E hr h => ?_), T.F_law_windows.elim fun _ F => F.kp, T.g__law_windows⟩
  obtain ⟨⟨b, n⟩, rfl, hn, k⟩ := h
  dsimp only at hn k
  refine ⟨_, (pss_cons (ps_set (i := 2) sc_law_windows.nd rfl (.inl rfl) (pe_lst (pa_cons (pe_lst pa_nil) pa_nil))) (pss_cons (ps_for PassesOwn.never rfl (pi_range1 rfl T.z_range (pa_cons (pv 1) pa_nil)) (pg_name (i := 3) sc_law_windows.nd rfl (.inr rfl)) (pss_one (ps_set (i := 2) sc_law_windows.nd rfl (.inl rfl) (pe_op op_cat (pv 2) (pe_lc (own := [("_law_stream", 4)]) (by rfl) sc_law_windows.nd (pi_list (pv 2)) (blkOk_by (own := [("_law_stream", 4)]) (N := ["_law_begin", "_law_many", "_law_found", "_law_k", "_law_stream"]) (sc := defScope sf_law_windows) (by decide +kernel)) (fun _ _ _ _ _ => (pg_name (i := 4) sc_law_windows.nd rfl (by first | exact Or.inl rfl | exact Or.inr rfl))) (fun _ _ _ _ _ => pts_nil) (fun _ _ _ _ _ => (pe_op op_cat (pv 4) (pe_lst (pa_cons (pe_op op_add (pv 0) (pv 3)) pa_nil))))))))) (pss_one (ps_ret (pv 2))))), ?_⟩
  refine ⟨Nat.zero_le _, fun l0 n0 => ⟨len_ok' (by show 1 ≤ 1000; decide), fun l1 n1 => ?_⟩⟩
  have s1 := same_new (u := .lst [V.ref l0]) (same_upd1 (u := .lst []) n0) n1
  refine ⟨_, rfl, (n : Int), rfl, by omega, by omega, for_it (walk_range (lo := 0) (n := n)) (fun i σ H2 => ∃ (f : Addr) (as : List Addr) (y3 : Option V), σ = [some (.int b), some (nV n), some (.ref f), y3, none] ∧ Same H H2 ∧ H2 f = some (.lst (as.map V.ref)) ∧ Each (StrAt b) H2 as (Mir.winGo i))
    ⟨l1, [l0], none, rfl, s1, upd_same, Each.one (up_old upd_same n1)⟩ (fun _ _ _ _ _ => trivial) ?_ ?_⟩
  · rintro i x σ H2 H3 hi ⟨f, as, y3, rfl, s2, ef, hw⟩ ⟨rfl, rfl⟩
    have ws : (Mir.winGo i).length ≤ 128 := win_small (by omega)
    have la : as.length ≤ 128 := by rw [hw.len]; exact ws
    refine ⟨_, rfl, _, rfl, f, rfl, ⟨_, SqL.of ef⟩, fun D nD => lc_it (walk_list (K := K) (xs := as.map V.ref))
      (fun j H4 => Same H3 H4 ∧ ∃ bs : List Addr, H4 D = some (.lst (bs.map V.ref)) ∧ Each (StrAt b) H4 bs (((Mir.winGo i).take j).map fun s => s ++ [i])) ⟨same_upd1 nD, [], upd_same, Each.nil⟩ (fun j H4 _ z => SqL.of (z.1 _ _ ef)) ?_ ?_⟩
    · rintro j y H4 H5 hj ⟨s4, bs, eD, hb⟩ ⟨rfl, e1⟩
      obtain ⟨a, ea, rfl⟩ := get_map e1
      obtain ⟨u, hu, hua⟩ := hw.get ea
      have lu := (win_mem (List.mem_of_getElem? hu)).1
      have ea4 := s4 _ _ hua
      have lbs : bs.length ≤ 128 := by rw [hb.len, List.length_map, List.length_take]; omega
      refine ⟨rfl, tYes_go ?_⟩
      refine ⟨_, rfl, _, rfl, _, rfl, _, _, rfl, rfl, len_ok' (by show 1 ≤ 1000; decide), fun l2 n2 => ⟨a, l2, _, _, rfl, rfl, up_old ea4 n2, upd_same, len_ok' (by rw [List.length_map]; simp; omega), fun l3 n3 => ?_⟩⟩
      have s6 := same_new (u := .lst (u.map (tV b) ++ [V.int (b + (0 + (i : Int)))])) (same_new (u := .lst [V.int (b + (0 + (i : Int)))]) s4 n2) n3
      have eD6 := up_old (u := .lst (u.map (tV b) ++ [V.int (b + (0 + (i : Int)))])) (up_old (u := .lst [V.int (b + (0 + (i : Int)))]) eD n2) n3
      have s46 := same_new (u := .lst (u.map (tV b) ++ [V.int (b + (0 + (i : Int)))])) (same_new (u := .lst [V.int (b + (0 + (i : Int)))]) (Same.refl H5) n2) n3
      have el3 : (upd (upd H5 l2 (.lst [V.int (b + (0 + (i : Int)))])) l3 (.lst (u.map (tV b) ++ [V.int (b + (0 + (i : Int)))]))) l3 = some (.lst ((u ++ [i]).map (tV b))) := by
        rw [upd_same, List.map_append, Int.zero_add]
        rfl
      have nl3D : l3 ≠ D := (ne_of_none (up_old eD n2) n3).symm
      dsimp only
      generalize upd (upd H5 l2 (.lst [V.int (b + (0 + (i : Int)))])) l3 (.lst (u.map (tV b) ++ [V.int (b + (0 + (i : Int)))])) = H6 at s6 eD6 s46 el3
      refine ⟨_, eD6, len_ok (by rw [List.length_map]; omega), same_up s6 nD, bs ++ [l3], by rw [upd_same, List.map_append]; rfl, ?_⟩
      rw [take_map _ hu]
      have old : ∀ a x, StrAt b H6 a x → a ≠ D → StrAt b (upd H6 D (.lst (bs.map V.ref ++ [.ref l3]))) a x := fun a x e ne => by
        show (upd H6 D _) a = _
        rw [upd_ne ne]
        exact e
      refine Each.append ⟨hb.len, fun v c z e2 e3 => ?_⟩ (Each.one ?_)
      · have q := hb.at_ v c z e2 e3
        exact old c z (s46 _ _ q) (fun eq => by
          have q : H5 c = some (.lst (z.map (tV b))) := q
          rw [eq, eD] at q
          injection q with q
          injection q with q
          -- the new list holds references alone
          obtain ⟨z0, hz0⟩ : ∃ z0 zs, z = z0 :: zs := by
            obtain ⟨p, hp, e4⟩ := get_map e3
            rw [e4]
            cases p with
            | nil => exact ⟨i, [], rfl⟩
            | cons p0 ps => exact ⟨p0, ps ++ [i], rfl⟩
          obtain ⟨zs, rfl⟩ := hz0
          cases bs with
          | nil => cases q
          | cons b0 bs => injection q with q _; cases q)
      · exact old l3 _ el3 nl3D
    · rintro H4 ⟨s4, bs, eD, hb⟩
      rw [List.length_map, hw.len, List.take_length] at hb
      have ef4 := s4 _ _ ef
      have lb : bs.length ≤ 128 := by rw [hb.len, List.length_map]; exact ws
      refine ⟨f, D, _, _, rfl, rfl, ef4, eD, len_ok' (by rw [List.length_map, List.length_map]; omega), fun g ng => ?_⟩
      refine ⟨g, as ++ bs, _, rfl, same_new (s2.trans s4) ng, by rw [upd_same, List.map_append], ?_⟩
      exact ((hw.mono fun a x e => s4 _ _ e).append hb).mono fun a x e => up_old e ng
  · rintro σ H2 ⟨f, as, y3, rfl, s2, ef, hw⟩
    exact ⟨_, rfl, k _ _ ⟨f, as, rfl, s2, ef, hw⟩⟩
/-! forms -/
def FormAt (H : Hp) (a : Addr) (rs : List Rec) : Prop := RecsT H a rs
def spForms : Sp := spOf (fun a : Nat => [nV (a + 1)]) (fun a _ => a ≤ 3) (fun a H r H' => ∃ l as, r = .ref l ∧ Same H H' ∧ H' l = some (.lst (as.map V.ref)) ∧ Each FormAt H' as (Mir.formsGo a))
def KL : List Mir.Kd := [.last, .first, .limit]
def fStep (i : Nat) (k : Mir.Kd) : List (List Rec) := (Mir.formsGo i).map fun r => r ++ [(k, i + 2)]
theorem ok_law_forms (T : Txt K mg) : Cal P w K mg base "_law_forms" ["_law_most"] 2 spForms := by
  have G_law_kinds := ok_law_kinds (P := P) (w := w) (base := base) T
  refine ⟨fn_mk T.F_law_forms sc_law_forms bd_law_forms (spOf_len fun _ => rfl) (fun cdv A outer s H vs Q E hr h => ?_), T.F_law_forms.elim fun _ F => F.kp, T.g__law_forms⟩
  obtain ⟨n, rfl, hn, k⟩ := h
  refine ⟨_, (pss_cons (ps_set (i := 1) sc_law_forms.nd rfl (.inl rfl) (pe_lst (pa_cons (pe_tup pa_nil) pa_nil))) (pss_cons (ps_for PassesOwn.never rfl (pi_range2 rfl T.z_range (pa_cons pe_int (pa_cons (pe_op op_add (pv 0) pe_int) pa_nil))) (pg_name (i := 2) sc_law_forms.nd rfl (.inr rfl)) (pss_cons (ps_set (i := 3) sc_law_forms.nd rfl (.inl rfl) (pe_lst pa_nil)) (pss_cons (ps_for PassesOwn.never rfl (pi_list (pe_c0 G_law_kinds (hr.mono (by omega)) rfl)) (pg_name (i := 4) sc_law_forms.nd rfl (.inr rfl)) (pss_one (ps_expr (pe_bm PySem.F.plainAttrs_list PySem.F.slot_list_extend PySem.F.type_list_extend mt_extend (pv 3) (pa_cons (pe_lc (own := [("_law_records", 5)]) (by rfl) sc_law_forms.nd (pi_list (pv 1)) (blkOk_by (own := [("_law_records", 5)]) (N := ["_law_most", "_law_found", "_law_quiet", "_law_more", "_law_kind", "_law_records"]) (sc := defScope sf_law_forms) (by decide +kernel)) (fun _ _ _ _ _ => (pg_name (i := 5) sc_law_forms.nd rfl (by first | exact Or.inl rfl | exact Or.inr rfl))) (fun _ _ _ _ _ => pts_nil) (fun _ _ _ _ _ => (pe_op (op_catAK (K := K) rfl) (pv 5) (pe_tup (pa_cons (pe_tup (pa_cons (pv 4) (pa_cons (pv 2) pa_nil))) pa_nil))))) pa_nil))))) (pss_one (ps_set (i := 1) sc_law_forms.nd rfl (.inl rfl) (pe_op op_cat (pv 1) (pv 3))))))) (pss_one (ps_ret (pv 1))))), ?_⟩
  refine ⟨Nat.zero_le _, fun l0 n0 => ⟨len_ok' (by show 1 ≤ 1000; decide), fun l1 n1 => ?_⟩⟩
  have s1 := same_new (u := .lst [V.ref l0]) (same_upd1 (u := .tup []) n0) n1
  refine ⟨_, rfl, _, _, rfl, rfl, 2, ((n + 1 : Nat) : Int) + 1, rfl, ⟨by omega, by omega, by omega, by omega⟩, ?_⟩
  rw [show (((n + 1 : Nat) : Int) + 1 - 2).toNat = n by omega]
  refine for_it (walk_range (lo := 2) (n := n)) (fun i σ H2 => ∃ (f : Addr) (as : List Addr) (y2 y3 y4 : Option V), σ = [some (nV (n + 1)), some (.ref f), y2, y3, y4, none] ∧ Same H H2 ∧ H2 f = some (.lst (as.map V.ref)) ∧ Each FormAt H2 as (Mir.formsGo i))
    ⟨l1, [l0], none, none, none, rfl, s1, upd_same, Each.one ⟨[], up_old upd_same n1, rfl, fun _ _ _ z => by cases z⟩⟩ (fun _ _ _ _ _ => trivial) ?_ ?_
  · rintro i x σ H2 H3 hi ⟨f, as, y2, y3, y4, rfl, s2, ef, hw⟩ ⟨rfl, rfl⟩
    have ws : (Mir.formsGo i).length ≤ 64 := forms_small (by omega)
    have la : as.length ≤ 64 := by rw [hw.len]; exact ws
    refine ⟨Nat.zero_le _, fun m nm => ?_⟩
    have s3 : Same H3 (upd H3 m (.lst [])) := same_upd1 nm
    refine ⟨(), rfl, trivial, ?_⟩
    rintro _ H4 ⟨kl, rfl, nkl, s4, ekl⟩
    have s34 := s3.trans s4
    have em4 := s4 _ _ (upd_same (H := H3) (a := m) (o := .lst []))
    refine ⟨kl, rfl, ⟨_, SqL.of ekl⟩, for_it (walk_list (K := K) (xs := KL.map fun k => V.str (kS k))) (fun u σ H5 => ∃ (bs : List Addr) (y4 : Option V), σ = [some (nV (n + 1)), some (.ref f), some (.int (2 + (i : Int))), some (.ref m), y4, none] ∧ Same H3 H5 ∧ (∀ b o, b ≠ m → H4 b = some o → H5 b = some o) ∧
        H5 m = some (.lst (bs.map V.ref)) ∧ Each FormAt H5 bs ((KL.take u).map (fStep i)).flatten)
      ⟨[], y4, rfl, s34, fun _ _ _ e => e, em4, Each.nil⟩ (fun u σ H5 _ ⟨_, _, _, _, z, _⟩ => SqL.of (z _ _ (ne_of ekl em4 (fun z => by cases z)) ekl)) ?_ ?_⟩
    · rintro u y σ H5 H6 hu ⟨bs, y4, rfl, s5, k5, em5, hb⟩ ⟨rfl, e1⟩
      obtain ⟨kd, ekd, rfl⟩ := get_map e1
      have lu : u < 3 := lt_of_get ekd
      have ef5 := s5 _ _ ef
      have lb : bs.length ≤ 192 := by
        rw [hb.len]
        have : ∀ l : List Mir.Kd, ((l.map (fStep i)).flatten).length ≤ l.length * 64 := fun l => by
          induction l with
          | nil => exact Nat.le_refl _
          | cons z zs ih =>
            have : (fStep i z).length = (Mir.formsGo i).length := List.length_map _
            rw [List.map_cons, List.flatten_cons, List.length_append, List.length_cons]
            omega
        have := this (KL.take u)
        rw [List.length_take] at this
        have : KL.length = 3 := rfl
        omega
      -- the new records
      refine ⟨_, rfl, .inl ⟨rfl, _, SqL.of em5⟩, _, rfl, f, rfl, ⟨_, SqL.of ef5⟩, fun D nD => lc_it (walk_list (K := K) (xs := as.map V.ref))
        (fun j H7 => Same H6 H7 ∧ ∃ cs : List Addr, H7 D = some (.lst (cs.map V.ref)) ∧ Each FormAt H7 cs ((fStep i kd).take j)) ⟨same_upd1 nD, [], upd_same, Each.nil⟩ (fun j H7 _ z => SqL.of (z.1 _ _ ef5)) ?_ ?_⟩
      · rintro j y H7 H8 hj ⟨s7, cs, eD, hc⟩ ⟨rfl, e1⟩
        obtain ⟨a, ea, rfl⟩ := get_map e1
        obtain ⟨rr, hrr, hra⟩ := hw.get ea
        have lrr := forms_mem (List.mem_of_getElem? hrr)
        have ljl : j < (Mir.formsGo i).length := lt_of_get hrr
        obtain ⟨aa, eaa, laa, haa⟩ := hra.ex
        have s57 := s5.trans s7
        have eaa7 := s57 _ _ eaa
        have lcs : cs.length ≤ 64 := by
          rw [hc.len, List.length_take]
          omega
        have ej : (fStep i kd)[j]? = some (rr ++ [(kd, i + 2)]) := map_get hrr
        refine ⟨rfl, tYes_go ?_⟩
        refine ⟨_, rfl, _, rfl, _, rfl, len_ok' (by show 2 ≤ 1000; decide), fun p1 np1 => ⟨len_ok' (by show 1 ≤ 1000; decide), fun p2 np2 => ?_⟩⟩
        have eq2 : V.int (2 + (i : Int)) = nV (i + 2) := by
          show _ = V.int _
          congr 1
          omega
        dsimp only
        rw [eq2] at np2 ⊢
        have s78 := same_new (u := .tup [V.ref p1]) (same_new (u := .tup [V.str (kS kd), nV (i + 2)]) (Same.refl H8) np1) np2
        have ep1 := up_old (u := .tup [V.ref p1]) (upd_same (H := H8) (a := p1) (o := .tup [V.str (kS kd), nV (i + 2)])) np2
        have ep2 : (upd (upd H8 p1 (.tup [V.str (kS kd), nV (i + 2)])) p2 (.tup [V.ref p1])) p2 = some (.tup [V.ref p1]) := upd_same
        generalize upd (upd H8 p1 (.tup [V.str (kS kd), nV (i + 2)])) p2 (.tup [V.ref p1]) = H9 at s78 ep1 ep2
        have eaa9 := s78 _ _ eaa7
        have fin : ∀ (z : Addr) (Ha : Hp), Same H9 Ha → Ha z = some (.tup ((aa ++ [p1]).map V.ref)) → ∃ acc, Ha D = some (.lst acc) ∧ acc.length < sizeLine ∧ (Same H6 (upd Ha D (.lst (acc ++ [.ref z]))) ∧ ∃ cs : List Addr, (upd Ha D (.lst (acc ++ [.ref z]))) D = some (.lst (cs.map V.ref)) ∧ Each FormAt (upd Ha D (.lst (acc ++ [.ref z]))) cs ((fStep i kd).take (j + 1))) := fun z Ha sa ez => by
          have eDa := sa _ _ (s78 _ _ eD)
          have st := sameT_upd (u := .lst (cs.map V.ref ++ [.ref z])) eDa (fun _ z => by cases z)
          refine ⟨_, eDa, len_ok (by rw [List.length_map]; omega), same_up (s7.trans (s78.trans sa)) nD, cs ++ [z], by rw [upd_same, List.map_append]; rfl, ?_⟩
          rw [List.take_succ, ej]
          refine (hc.mono fun a x (e : RecsT _ _ _) => ?_).append (Each.one ?_)
          · exact RecsT.sameT e ((sameT_of (s78.trans sa)).trans st)
          · refine RecsT.sameT (H := Ha) ⟨aa ++ [p1], ez, by rw [List.length_append, List.length_append, laa]; rfl, fun v c r e2 e3 => ?_⟩ st
            by_cases hv : v < aa.length
            · rw [List.getElem?_append_left hv] at e2
              rw [List.getElem?_append_left (by rw [← laa]; exact hv)] at e3
              exact sa _ _ (s78 _ _ (s57 _ _ (haa v c r e2 e3)))
            · rw [List.getElem?_append_right (by omega)] at e2
              rw [List.getElem?_append_right (by rw [← laa]; omega), ← laa] at e3
              cases hz : v - aa.length with
              | zero =>
                rw [hz] at e2 e3
                obtain rfl := Option.some.inj e2
                obtain rfl := Option.some.inj e3
                exact sa _ _ ep1
              | succ w => rw [hz] at e2; cases e2
        refine ⟨a, p2, _, _, rfl, rfl, SqT.of eaa9, SqT.of ep2, len_ok' (by rw [List.length_map]; show aa.length + 1 ≤ 1000; omega), fun e0 => ?_, (fun _ e0 => by cases e0), fun _ _ z nz => ?_⟩
        · have e0 : aa = [] := List.map_eq_nil_iff.mp e0
          exact fin p2 H9 (Same.refl H9) (by rw [e0]; exact ep2)
        · exact fin z _ (same_upd1 nz) (by rw [upd_same, List.map_append]; rfl)
      · rintro H7 ⟨s7, cs, eD, hc⟩
        have lf : (as.map V.ref).length = (fStep i kd).length := by
          show _ = ((Mir.formsGo i).map _).length
          rw [List.length_map, List.length_map, hw.len]
        rw [lf, List.take_length] at hc
        have em7 := s7 _ _ em5
        have lc : cs.length ≤ 64 := by rw [hc.len]; show ((Mir.formsGo i).map _).length ≤ 64; rw [List.length_map]; exact ws
        refine ⟨m, D, _, _, rfl, rfl, em7, eD, len_ok' (by rw [List.length_map, List.length_map]; omega), ?_⟩
        have st := sameT_upd (u := .lst (bs.map V.ref ++ cs.map V.ref)) em7 (fun _ z => by cases z)
        refine ⟨bs ++ cs, _, rfl, same_up (s5.trans s7) nm, fun c o nc e => by rw [upd_ne nc]; exact s7 _ _ (k5 c o nc e), by rw [upd_same, List.map_append], ?_⟩
        rw [List.take_succ, ekd, List.map_append, List.flatten_append]
        refine (hb.mono fun a x (e : RecsT _ _ _) => RecsT.sameT e ((sameT_of s7).trans st)).append ?_
        show Each FormAt _ cs ([fStep i kd].flatten)
        rw [List.flatten_cons, List.flatten_nil, List.append_nil]
        exact hc.mono fun a x (e : RecsT _ _ _) => RecsT.sameT e st
    · rintro σ H5 ⟨bs, y4, rfl, s5, k5, em5, hb⟩
      have ef5 := s5 _ _ ef
      have lb : bs.length ≤ 192 := by
        rw [hb.len]
        show ((KL.map (fStep i)).flatten).length ≤ 192
        have : ∀ z, (fStep i z).length = (Mir.formsGo i).length := fun z => List.length_map _
        show (([fStep i .last, fStep i .first, fStep i .limit] : List (List (List Rec))).flatten).length ≤ 192
        rw [List.flatten_cons, List.flatten_cons, List.flatten_cons, List.flatten_nil, List.length_append, List.length_append, List.length_append, this, this, this]
        simp
        omega
      refine ⟨_, rfl, _, rfl, f, m, _, _, rfl, rfl, ef5, em5, len_ok' (by rw [List.length_map, List.length_map]; omega), fun g ng => ?_⟩
      refine ⟨g, as ++ bs, _, _, _, rfl, same_new (s2.trans s5) ng, by rw [upd_same, List.map_append], ?_⟩
      have sg := sameT_of (same_new (u := .lst (as.map V.ref ++ bs.map V.ref)) (Same.refl H5) ng)
      exact (hw.mono fun a x (e : RecsT _ _ _) => RecsT.sameT e ((sameT_of s5).trans sg)).append (hb.mono fun a x (e : RecsT _ _ _) => RecsT.sameT e sg)
  · rintro σ H2 ⟨f, as, y2, y3, y4, rfl, s2, ef, hw⟩
    exact ⟨_, rfl, k _ _ ⟨f, as, rfl, s2, ef, hw⟩⟩
end
end Qr
set_option maxHeartbeats 4000000
/-! set(xs) of a list of whole numbers -/
namespace Qr
open PySem PySem.Spec PyProof.Rows L2
/-- a set just made, of whole numbers to come -/
abbrev bareSet (w : World) : Obj := { cls := .type "set", dict := none, data := .set #[] 0 (.fresh 0 0 (!w.params.followText "set-order")) }
section
variable {P : Program} {w : World} {A : Around} {E : Value → Shared → Prop} {s : Shared}
/-- a call of a built-in type by its two halves, __new__ and __init__ -/
theorem type_call_halves {T nw ini : String} {vs : List Value} {Q Qn : Value → Shared → Prop} (tc : TypeCalled T nw ini) (ck : checkTypeCall T ⟨vs, []⟩ = pure ())
    (one : codeAny (model P w) A.in1 (.call (.builtin nw) ⟨.type T :: vs, []⟩) (wants Qn E) s)
    (two : ∀ ob t, Qn ob t → t.TypeIs ob T ∧ codeAny (model P w) A.in1 (.call (.builtin ini) ⟨ob :: vs, []⟩) (wants (fun r t2 => r = .none ∧ Q ob t2) E) t) :
    wpAny (model P w) A (call (.type T) vs) Q E s := by
  obtain ⟨top, rest, lin⟩ := tc.mro
  have f1 := tc.made; have f2 := tc.sub; have f3 := tc.notType; have f4 := tc.canCreate
  refine wpAny_call (codeAny_of_tree (show wpAny _ _ (callAny (.type T) _) _ _ _ from wpAny_pure ⟨Code.quiet_builtin _ (by decide +kernel), codeAny_builtin F.entry_type_call ?_⟩))
  rw [Around.under_plain (weight_type_call_type T vs []) (units_type_call_type T vs [])]
  repeat any_goals first | assumption | wp_step
  refine codeAny_mono one fun out t hout => ?_
  match out, hout with
  | .error e, hout => exact hout
  | .ok (.ret ob), hout =>
    obtain ⟨isT, run2⟩ := two ob t hout
    have f5 := tc.init.lookup; have f6 := tc.init.bind ob
    repeat any_goals first | assumption | wp_step
    refine codeAny_mono run2 fun out2 t2 hout2 => ?_
    match out2, hout2 with
    | .error e, hout2 => exact hout2
    | .ok (.ret r), hout2 =>
      obtain ⟨rfl, q⟩ := hout2
      repeat any_goals first | assumption | wp_step
    | .ok .next, hout2 => exact hout2.elim
    | .ok .brk, hout2 => exact hout2.elim
    | .ok .cont, hout2 => exact hout2.elim
  | .ok .next, hout => exact hout.elim
  | .ok .brk, hout => exact hout.elim
  | .ok .cont, hout => exact hout.elim
theorem set_of_list {src : Addr} {items : Array Value} (ns : List Int) {Q : Value → Shared → Prop} (calm : A.handled = none) (at_ : s.heap.IsList src items) (wh : IntsAre items.toList ns) (few : ns.length + 1 < scanBound)
    (q : ∀ (g : Heap) (tk c : Nat), SetR w g s.heap.objs.size (fun j => decide (j ∈ ns)) c → c ≤ ns.length → (∀ b o, s.heap.get? b = some o → g.get? b = some o) → Q (.ref s.heap.objs.size) { s with heap := g, toks := tk }) :
    wpAny (model P w) A (call (.type "set") [.ref src]) Q E s := by
  have many : items.size = ns.length := by rw [← Array.length_toList]; exact wh.length
  refine type_call_halves (Qn := fun ob t => ob = .ref s.heap.objs.size ∧ t = { s with heap := s.heap.push (bareSet w) }) F.called_set (F.typeCall_set_1 _) (code_set_led1 _ ⟨rfl, rfl⟩) ?_
  rintro ob t ⟨rfl, rfl⟩
  have new : (s.heap.push (bareSet w)).get? s.heap.objs.size = some (bareSet w) := Heap.get?_push_size _ rfl
  have isT : Shared.TypeIs { s with heap := s.heap.push (bareSet w) } (.ref s.heap.objs.size) "set" := ⟨_, new, rfl⟩
  have at2 : (s.heap.push (bareSet w)).IsList src items := at_.push _
  have low : src < s.heap.objs.size := at_.elim fun o h => Heap.lt_size h.1
  have size2 : (s.heap.push (bareSet w)).objs.size = s.heap.objs.size + 1 := Heap.size_push ..
  refine ⟨isT, codeAny_call_builtin F.called_set.init.plain F.entry_set_init (check_set_init_1 isT ?_)⟩
  -- the items, one by one
  have item : ∀ (i : Nat) (v : Value), items[i]? = some v → ∃ k u, ns[i]? = some k ∧ v = .int k u := fun i v hv => by
    have lt : i < ns.length := many ▸ (Array.getElem?_eq_some_iff.mp hv).1
    obtain ⟨u, e⟩ := IntsAre.int_at wh i v (by rw [Array.getElem?_toList]; exact hv)
    exact ⟨ns[i], u, List.getElem?_eq_getElem lt, by rw [e, List.getD_eq_getElem?_getD, List.getElem?_eq_getElem lt] <;> rfl⟩
  have s1 := F.sub_list_set; have s2 := F.sub_list_frozenset
  have s3 : (Value.type "list" == Value.type "dict") = false := by decide
  obtain ⟨ol, e0, cl0, nl, da0⟩ := at_
  obtain ⟨kls, di, da, sls⟩ := ol
  dsimp only at cl0 da0
  subst cl0 da0
  have e2 : (s.heap.push (bareSet w)).get? src = some { cls := .type "list", dict := di, data := .seq items nl, slots := sls } := Heap.get?_push_of_some _ e0
  unfold Builtin.«set.__init__» noKeywords Builtin.Frozenset.updateFrom
  generalize hit : pyIter = it
  wp_walk
  subst hit
  have calm3 : A.in1.in1.in1.handled = none := calm
  have apart : src ≠ (s.heap.push (bareSet w)).objs.size := size2 ▸ Nat.ne_of_lt (Nat.lt_succ_of_lt low)
  have out : s.heap.objs.size ∉ [(s.heap.push (bareSet w)).objs.size, src] := fun z => by
    rcases List.mem_cons.mp z with z | z
    · exact absurd (z.trans size2) (Nat.ne_of_lt (Nat.lt_succ_self _))
    · exact absurd (List.mem_singleton.mp z) (Nat.ne_of_gt low)
  refine wpAny_pyIter_list at2 (wpAny_bind (wpAny_runValue (set_update_ints (Walks.list calm3 _ src apart items).toS s.heap.objs.size out ns many few item items.size 0 _ rfl (Nat.zero_le _)
    ⟨⟨_, Heap.get?_push_size _ rfl, rfl, rfl⟩, at2.push _⟩ ⟨0, Nat.le_refl 0, setR_new_at (Heap.get?_push_of_some _ new)⟩ fun t c mv lec S2 => ?_)))
  obtain ⟨g, gg, dd, tk, oo⟩ := t
  obtain rfl : gg = s.gens := mv.gens
  obtain rfl : dd = s.drawn := mv.drawn
  obtain rfl : oo = s.os := mv.os
  refine wpAny_pure (wpAny_pure ⟨rfl, q g tk c S2 (many ▸ lec) fun b o e => mv.heap b o (fun z => ?_) (Heap.get?_push_of_some _ (Heap.get?_push_of_some _ e))⟩)
  have lb := Heap.lt_size e
  rcases List.mem_cons.mp z with z | z
  · exact absurd z (Nat.ne_of_lt lb)
  · exact absurd ((List.mem_singleton.mp z).trans size2) (Nat.ne_of_lt (Nat.lt_succ_of_lt lb))
/-- set(xs), xs a list of whole numbers -/
def rSetOfI (K : PySem.W.Frag) (w : World) : List V → Hp → VK → Prop := fun xs H Q => ∃ (l : Addr) (ns : List Int), xs = [.ref l] ∧ SqL K H l (ns.map V.int) ∧ ns.length < 1000 ∧
  ∀ a c, c ≤ ns.length → H a = none → Q (.ref a) (upd H a (SetO w a (fun k => decide (k ∈ ns)) c))
end
section
variable {X : Cx}
theorem cr_setOfI (hc : X.calm = true) : CallR X (.type "set") (rSetOfI X.K X.w) := by
  rintro pins s σ H xs us Q I r ⟨l, ns, rfl, hq, hl, q⟩
  rw [Vals.ref1 r]
  obtain ⟨its, rv, pl, _⟩ := I.list hq
  refine set_of_list ns (I.ok.hd hc) pl.isList (by simpa using ints_of_vals rv) (by unfold scanBound; omega) fun g tk c R1 hcn k => ?_
  exact ⟨.ref s.heap.objs.size, _, I.laid (t' := tk) k (Nat.le_refl _) (setO_new R1), rfl, q _ c hcn (I.hok.fresh (Nat.le_refl _))⟩
theorem cr_setOfIK {K : PySem.W.Frag} {w : World} (hc : X.calm = true) (hK : X.K = K) (hw : X.w = w) : CallR X (.type "set") (rSetOfI K w) := by subst hK hw; exact cr_setOfI hc
end
end Qr
set_option maxHeartbeats 4000000
/-! dicts whose keys are tuples: a display of one pair, dict(d), for .. in d.items() -/
namespace Qr
open PySem PySem.Spec PyProof.Rows L2
section
variable {prog : Program} {w : World} {K : Type} [DecidableEq K] {knd : HeapKind prog w K} {A : Around} {E : Value → Shared → Prop} {s : Shared}
theorem call_dictH {o : Addr} {more : List (K × Addr × Value)} {Q : Value → Shared → Prop} (hu : knd.room A.in1.in1) (hoS : (o == sysModules) = false) (ho : s.heap.DictOfH knd o more) (hsz : more.length ≤ sizeLine)
    (hty : ∀ x ∈ more, s.TypeIs (.ref x.2.1) "tuple") (hap : (more.map fun x => knd.hash x.1).Nodup) (hkeep : ∀ (x : K) (a : Addr) (ob : Obj), knd.is s.heap x a → knd.is (s.heap.push ob) x a)
    (h : ∀ h', h'.DictOfH knd s.heap.objs.size more → Heap.SameBut s.heap.objs.size (s.heap.push { cls := .type "dict", data := .dict #[] }) h' → Q (.ref s.heap.objs.size) { s with heap := h' }) :
    wpAny (model prog w) A (call (.type "dict") [.ref o]) Q E s := by
  refine callType_codes (Q₁ := fun obj s₁ => obj = .ref s.heap.objs.size ∧ s₁ = { s with heap := s.heap.push { cls := .type "dict", data := .dict #[] } }) F.kt_called_dict (F.kt_typeCall_dict_1 _) F.entry_dict_init (kt_code_dict_new _ ⟨rfl, rfl⟩) ?_
  rintro obj s₁ ⟨rfl, rfl⟩
  have hnew : (s.heap.push { cls := .type "dict", data := .dict #[] }).DictOfH knd s.heap.objs.size [] := Heap.DictOfH.new s.heap
  have ho' : (s.heap.push { cls := .type "dict", data := .dict #[] }).DictOfH knd o more := by
    obtain ⟨oo, es, ep, h1, h2, h3, h4, h5, h6⟩ := ho
    exact ⟨oo, es, ep, Heap.get?_push_of_some _ h1, h2, h3, h4, fun x hx => hkeep _ _ _ (h5 x hx), h6⟩
  have hdo : s.heap.objs.size ≠ o := by
    obtain ⟨_, _, _, hg, _⟩ := ho
    exact fun e => absurd (Heap.lt_size hg) (by rw [e]; exact Nat.lt_irrefl _)
  refine ⟨hnew.typeIs, F.args_dict_init_2 _ _, ?_⟩
  unfold Builtin.«dict.__init__»
  refine wpAny_bind ?_
  unfold Builtin.Dict.selfAndRest
  refine wpAny_bind (wpAny_notOrdered_dict hnew.typeIs ?_)
  show wpAny _ _ (pure (s.heap.objs.size, [Value.ref o])) _ _ _
  refine wpAny_pure ?_
  show wpAny _ _ (Builtin.Dict.updateFrom "dict.__init__" s.heap.objs.size (.ref o) [] .none) _ _ _
  refine updateFrom_dictH (A := A.in1) .none hu hdo hoS hnew ho' (.inr ⟨fun x hx => ?_, hap⟩) (by simpa using hsz) fun h' hd' _ hs' => ?_
  · obtain ⟨ob, h1, h2⟩ := hty x hx
    exact ⟨ob, Heap.get?_push_of_some _ h1, h2⟩
  · rw [storedAllH_nil_of_nodup more ho.nodup] at hd'
    exact ⟨rfl, h h' hd' hs'⟩
end
/-- the hash of a tuple of whole numbers -/
def tHash (ns : List Nat) : Int := reduceHash (Builtin.Tuple.tupleHashOf (ns.map fun (n : Nat) => hashInt (n : Int)))
def nK (ns : List Nat) : List Key := ns.map fun (n : Nat) => Sum.inl (n : Int)
theorem nK_kV (ns : List Nat) : (nK ns).map kV = ns.map nV := by
  unfold nK
  rw [List.map_map]
  rfl
theorem nK_hash {P : Program} {w : World} (ns : List Nat) : (tupleKind (mixKind P w)).hash (nK ns) = tHash ns := by
  show reduceHash (Builtin.Tuple.tupleHashOf ((nK ns).map (keyH w))) = _
  unfold nK tHash
  rw [List.map_map]
  rfl
theorem nK_inj : ∀ {a b : List Nat}, nK a = nK b → a = b
  | [], [], _ => rfl
  | [], _ :: _, h => by cases h
  | _ :: _, [], h => by cases h
  | x :: a, y :: b, h => by
    unfold nK at h
    rw [List.map_cons, List.map_cons] at h
    injection h with h1 h2
    injection h1 with h1
    rw [nK_inj h2, show x = y by omega]
/-- the entries of a table: tuples of whole numbers, whole numbers -/
abbrev tE (kvs : List (List Nat × Nat)) : List (List Key × V) := kvs.map fun kv => (nK kv.1, nV kv.2)
section
variable {X : Cx}
/-- dict(d), d a table whose keys hash apart -/
def rDictT : List V → Hp → VK → Prop := fun xs H Q => ∃ (a : Addr) (kvs : List (List Nat × Nat)), xs = [.ref a] ∧ Rd H a (.dT (tE kvs)) ∧ (kvs.map fun kv => tHash kv.1).Nodup ∧ ∀ p, H p = none → Q (.ref p) (upd H p (.dT (tE kvs)))
theorem cr_dictT (hu : X.A.units + 2 < cLine) : CallR X (.type "dict") rDictT := by
  intro pins s σ H xs us Q I r h
  obtain ⟨a, kvs, rfl, e, hap, q⟩ := h
  rw [Vals.ref1 r]
  obtain ⟨z, hd, es, rel, dd⟩ := dt_rd I.hok e
  have hn : H s.heap.objs.size = none := I.hok.fresh (Nat.le_refl _)
  have hl : (tE kvs).length = es.length := Paired.length rel
  have hin : ∀ x ∈ es, ∃ k, H x.2.1 = some (.tup k) := by
    have all : ∀ {l : List (List Key × V)} {m : List (List Key × Addr × Value)}, KT H l m → ∀ x ∈ m, ∃ k, H x.2.1 = some (.tup k) := by
      intro l m r
      induction r with
      | nil => intro x hx; cases hx
      | @cons p q ps qs h t ih =>
        intro x hx
        rcases List.mem_cons.mp hx with e | hx
        · rw [e]; exact ⟨_, h.2.1⟩
        · exact ih x hx
    exact all rel
  have hh : es.map (fun x => (tupleKind (mixKind X.prog X.w)).hash x.1) = kvs.map fun kv => tHash kv.1 := by
    have all : ∀ {l : List (List Nat × Nat)} {m : List (List Key × Addr × Value)}, KT H (tE l) m → m.map (fun x => (tupleKind (mixKind X.prog X.w)).hash x.1) = l.map fun kv => tHash kv.1 := by
      intro l
      induction l with
      | nil => intro m r; cases r; rfl
      | cons p l ih =>
        intro m r
        cases r with
        | cons h t =>
          rw [List.map_cons, List.map_cons, ih t, ← h.1, nK_hash]
    exact all rel
  refine call_dictH (knd := tupleKind (mixKind X.prog X.w)) hu hd dd (by rw [← hl]; exact z) (fun x hx => ?_) (by rw [hh]; exact hap) (fun x a ob hx => ?_) fun h' dd' hs => ?_
  · obtain ⟨k, ek⟩ := hin x hx
    obtain ⟨_, its, _, o, h1, h2, _⟩ := I.hok _ _ ek
    exact ⟨o, h1, h2⟩
  · obtain ⟨o, items, n, h1, h2, h3, h4⟩ := hx
    exact ⟨o, items, n, Heap.get?_push_of_some _ h1, h2, h3, h4⟩
  · obtain ⟨q0, es0, ep, hq, h2, h3, h4, _, h5⟩ := dd'
    refine ⟨.ref s.heap.objs.size, upd H s.heap.objs.size (.dT (tE kvs)), I.laid (t' := s.toks) (fun b u hb => (hs.2 b (Nat.ne_of_lt (Heap.lt_size hb))).trans (Heap.get?_push_of_some _ hb)) (Nat.le_refl _)
      ⟨z, beq_eq_false_iff_ne.mpr (Ne.symm (Nat.ne_of_lt I.big)), es, rel.keeps fun b ys eb => up_old eb hn, q0, es0, ep, hq, h2, h3, h4, h5⟩, rfl, q _ hn⟩
end
/-! {k: v} -/
def tDispT (tk tv : TE) : TE := fun σ H Q => ∀ p, H p = none → tk σ (upd H p (.dT [])) fun x H1 => tv σ H1 fun y H2 => ∃ (b : Addr) (k : List Nat) (n : Nat), x = .ref b ∧ y = nV n ∧ H2 p = some (.dT []) ∧ H2 b = some (.tup (k.map nV)) ∧ Q (.ref p) (upd H2 p (.dT (tE [(k, n)])))
theorem pe_dispT {X : Cx} {pos : Pos} {k v : Expr} {tk tv : TE} (hu : X.A.units + 1 < cLine) (hk : PE X k tk) (hv : PE X v tv) : PE X (.Dict [some k] [v] pos) (tDispT tk tv) := by
  refine ⟨fun pins s σ H Q I q => ?_⟩
  have hn := I.hok.fresh (Nat.le_refl s.heap.objs.size)
  have I1 := I.laid (a := s.heap.objs.size) (o := .dT []) (h' := s.heap.push { cls := .type "dict", data := .dict #[] }) (t' := s.toks) (fun _ _ q => Heap.get?_push_of_some _ q) (Nat.le_refl _) (dt_empty s.heap I.big)
  rw [arm_eval_Dict]
  rw [show (evalEachOpt [some k] X.env).zip ((evalEach [v] X.env).map fun v => do let x ← v; standAt pos; pure x) = (pairTrees [some k] [v] X.env pos).map fun p => (some p.1, p.2) from rfl, dictDisplay_pairs _ (by simp [pairTrees]) (by simp [pairTrees])]
  refine wpAny_bind (wpAny_standAt (wpAny_bind (wpAny_subDictH (knd := tupleKind (mixKind X.prog X.w)) (Q := fun d s' => wpAny (model X.prog X.w) X.A (pure (Value.ref d)) (EP X pins σ Q) X.xe s') (by show X.A.units < cLine; omega) (by simp [pairTrees]) ?_)))
  refine pairTrees_cons_walk (thn (hk.run pins _ σ _ _ I1 (q _ hn)) fun u s1 ⟨x, H1, I2, rx, q1⟩ => thn (hv.run pins s1 σ H1 _ I2 q1) fun u2 s2 ⟨y, H2, I3, ry, b, kk, n, ex, ey, e0, eb, q2⟩ => pairTrees_nil_walk ?_)
  subst ex ey
  obtain rfl : u = Value.ref b := rx
  have eb' : H2 b = some (.tup ((nK kk).map kV)) := by rw [nK_kV]; exact eb
  have kis := key_of (P := X.prog) (w := X.w) I3.hok eb'
  obtain ⟨_, hd, xs0, rel0, dd0⟩ := dt_rd I3.hok (.inl e0)
  have hx0 : xs0 = [] := by cases rel0; rfl
  subst hx0
  refine ⟨[(nK kk, b, u2)], ⟨rfl, rfl, kis, trivial⟩, dd0, fun h' tk dd' hs => wpAny_pure ?_⟩
  obtain ⟨q0, es0, ep, hq, h2, h3, h4, _, h5⟩ := dd'
  have nb : b ≠ s.heap.objs.size := ne_of eb e0 (fun z => by cases z)
  refine ⟨.ref s.heap.objs.size, _, d_write (ob := .dT (tE [(kk, n)])) I3 (by rw [e0]; exact True.intro) hs ⟨q0, hq⟩ ⟨by show 1 ≤ sizeLine; decide, hd, [(nK kk, b, u2)], .cons ⟨rfl, ?_, ry⟩ .nil, q0, es0, ep, hq, h2, h3, h4, h5⟩, rfl, q2⟩
  rw [upd_ne nb]
  exact eb'
/-! for numbers, many in d.items(), d locked -/
def Itti (d : Addr) (o : Obj) (kvs : List (List Nat × Nat)) : It :=
  ⟨fun i H => H d = some (.frz o (.dT (tE kvs))) ∧ i < kvs.length,
   fun i H x H' => ∃ T k n q, kvs[i]? = some (k, n) ∧ x = .ref T ∧ H T = none ∧ H q = some (.tup (k.map nV)) ∧ H' = upd H T (.tup [.ref q, nV n]),
   fun i H => H d = some (.frz o (.dT (tE kvs))) ∧ kvs.length ≤ i⟩
section
variable {X : Cx} {pins : List (Addr × Obj)} {σ : L2.St} {H : Hp} {s : Shared} {d : Addr} {o : Obj}
theorem frzTT {kvs : List (List Nat × Nat)} (I : Inv X pins σ H s) (h : H d = some (.frz o (.dT (tE kvs)))) :
    (d == sysModules) = false ∧ s.heap.get? d = some o ∧ o.ExactDict ∧ ∃ (es : Array DictEntry) (ep : Nat), o.data = .dict es ep ∧ es.size = kvs.length ∧
      ∀ (i : Nat) (k : List Nat) (n : Nat), kvs[i]? = some (k, n) → ∃ (en : DictEntry) (q : Addr), es[i]? = some en ∧ en.key = .ref q ∧ H q = some (.tup (k.map nV)) ∧ RelV (nV n) en.val := by
  obtain ⟨hd, z, hs, xs, pr, o', es, ep, ho, hx, hdt, he, _⟩ := I.hok d _ h
  rw [hd] at ho
  cases ho
  refine ⟨hs, hd, hx, es, ep, hdt, ?_, fun i k n e => ?_⟩
  · have l1 : es.size = xs.length := size_of_entries he
    have l2 : (tE kvs).length = xs.length := Paired.length pr
    rw [List.length_map] at l2
    omega
  · obtain ⟨b, hb, e1, e2, e3⟩ := paired_get pr (map_get (f := fun kv : List Nat × Nat => (nK kv.1, nV kv.2)) e)
    have q := entry_at he i
    rw [hb] at q
    refine ⟨_, b.2.1, q, rfl, ?_, e3⟩
    rw [nK_kV] at e2
    exact e2
end
theorem turn_itemsT {P : Program} {w : World} {K : PySem.W.Frag} {d : Addr} {o : Obj} {es : Array DictEntry} {ep : Nat} {kvs : List (List Nat × Nat)} {elts : List Expr} {kk : Nat} {tpos : Pos} (it : Addr) (hod : o.data = .dict es ep) :
    Turn P w K (.Tuple elts kk tpos) (Itti d o kvs) [it] it (fun i h => ∃ ok ov, IsItemIter h it d i kvs.length ep ok ov) where
  mem := by simp
  obj := fun i h st b hb => by
    have e : b = it := by simpa using hb
    subst e
    obtain ⟨ok, ov, e⟩ := st
    exact ⟨_, e, fun v z => nomatch z⟩
  keep := fun i h h' st k => let ⟨ok, ov, e⟩ := st; ⟨ok, ov, k it (by simp) _ e⟩
  item := by
    intro X hP hw hK hc i pins s σ H E I hf st hg
    subst hP hw hK
    obtain ⟨hd, hi⟩ := hg
    obtain ⟨hs, hgd, hx, es', ep', hdt, hsz, ent⟩ := frzTT I hd
    obtain ⟨rfl, rfl⟩ := dict_ep hod hdt
    obtain ⟨⟨k, n⟩, hkv⟩ : ∃ p, kvs[i]? = some p := ⟨kvs[i], List.getElem?_eq_getElem hi⟩
    obtain ⟨en, q, hen, hkey, hq, hval⟩ := ent i k n hkv
    obtain ⟨ok, ov, he⟩ := st
    rw [← hsz] at he
    have hlt : it < s.heap.objs.size := Heap.lt_size he
    have hi' : i < es'.size := by rw [hsz]; exact hi
    have een : es'[i] = en := by
      rw [Array.getElem?_eq_getElem hi'] at hen
      exact Option.some.inj hen
    refine wpAny_pyNext_items_item_raw he ⟨o, hgd, hx, hdt⟩ hi' fun h' ho hT hz hk => ?_
    refine ⟨_, rfl, wpAny_letOwnedTupleGo_items (s := { s with heap := h' }) ho fun h'' he' sb => ?_⟩
    have hT2 : h''.get? s.heap.objs.size = some { cls := .type "tuple", data := .seq #[es'[i].key, es'[i].val] } := (sb.2 _ (Nat.ne_of_gt hlt)).trans hT
    rw [een] at hT2
    have new : ObjOk X.prog X.w (upd H s.heap.objs.size (.tup [.ref q, nV n])) h'' s.heap.objs.size (.tup [.ref q, nV n]) :=
      ⟨by show 2 ≤ sizeLine; decide, [en.key, en.val], .cons hkey (.cons hval .nil), ⟨_, hT2, rfl, _, rfl⟩⟩
    have I1 : Inv X pins σ (upd H s.heap.objs.size (.tup [.ref q, nV n])) { s with heap := h'' } :=
      I.turnedNew (t' := s.toks) (ch := [it]) (fun b ob hb e => (sb.2 b (by simpa using hb)).trans (hk b ob (by simpa using hb) e)) hf (Nat.le_refl _) new
    refine ⟨.ref s.heap.objs.size, _, I1, rfl, ⟨_, k, n, q, hkv, rfl, I.hok.fresh (Nat.le_refl _), hq, rfl⟩, ⟨es'[i].key, es'[i].val, ?_⟩, fun b hb => ?_⟩
    · rw [← hsz]
      exact he'
    · have e : b = it := by simpa using hb
      rw [e, upd_ne (Nat.ne_of_lt hlt)]
      exact (hf it (by simp)).1
  done := by
    intro X hP hw hK hc i pins s σ H E I hf st hg
    subst hP hw hK
    obtain ⟨hd, hi⟩ := hg
    obtain ⟨f0, f1, f2, f3, f4, f5⟩ := hf it (by simp)
    obtain ⟨hs, hgd, hx, es', ep', hdt, hsz, ent⟩ := frzTT I hd
    obtain ⟨rfl, rfl⟩ := dict_ep hod hdt
    obtain ⟨ok, ov, he⟩ := st
    rw [← hsz] at he
    exact wpAny_pyNext_items_end_raw (I.ok.hd hc) he ⟨o, hgd, hx, hdt⟩ (by omega) fun h' eb => ⟨rfl, I.turned (t' := s.toks) (fun b ob hb e => eb b ob hb e) f0 f1 f3 f4 f5⟩
  self := fun A i s Q E st h => let ⟨_, _, e⟩ := st; PySem.W.kcp_self e h
def iItemsT (td : TE) : TI := fun σ H R => td σ H fun x H1 => ∃ d o kvs, x = .ref d ∧ H1 d = some (.frz o (.dT (tE kvs))) ∧ R (Itti d o kvs) H1
theorem pi_itemsT {X : Cx} {e : Expr} {td : TE} {apos cpos : Pos} {elts : List Expr} {kk : Nat} {tpos : Pos} (he : PE X e td) (hbase : attributeBase e "items" X.env (eval e X.env) = eval e X.env := by rfl) (hline : (apos.endLine == cpos.line) = true := by rfl) :
    PI X (.Tuple elts kk tpos) (.Call (.Attribute e "items" apos) [] [] cpos) (iItemsT td) := by
  refine ⟨fun pins s σ H R I h => ?_⟩
  refine wpAny_Call_method (T := "dict") (id := "dict.items") hbase rfl hline F.plainAttrs_dict F.slot_dict_items F.type_dict_items (thn (he.run pins s σ H _ I h) fun u s1 ⟨x, H1, I1, rx, d, o, kvs, ex, hd, q⟩ => ?_)
  subst ex
  obtain rfl : u = Value.ref d := rx
  obtain ⟨hs, hgd, hx, es, ep, hdt, hsz, ent⟩ := frzTT I1 hd
  have hR : s1.heap.DictRaw d es ep := ⟨o, hgd, hx, hdt⟩
  refine ⟨hR.typeIs, fun b z => ?_, ?_⟩
  · cases z
    exact ⟨o, hgd, hx.2.1⟩
  have I2 : Inv X pins σ H1 { s1 with heap := s1.heap.push { cls := .type "dict_items", data := .fields #[.ref d] } } := I1.kept (t' := s1.toks) fun b ob q => Heap.get?_push_of_some _ q
  have fin : wpAny (model X.prog X.w) X.A (pyIter (.ref s1.heap.objs.size)) (PIE X pins σ (.Tuple elts kk tpos) R) X.xe { s1 with heap := s1.heap.push { cls := .type "dict_items", data := .fields #[.ref d] } } := by
    refine wpAny_pyIter_items_raw (d := d) ⟨_, Heap.get?_push_size _ rfl, rfl, rfl⟩ (hR.push _) (pi_one (tk := s1.toks) I2 _ (turn_itemsT _ hdt) ⟨.none, .none, ?_⟩ q)
    rw [← hsz]
    exact Heap.get?_push_size _ rfl
  show wpAny _ _ (callWith cpos (.builtin "dict.items") [.ref d] [] []) _ X.xe s1
  exact method_meetsIn F.slot_dict_items F.entry_dict_items rfl (PySem.evalArgs_none ⟨rfl, hR.typeIs, F.args_dict_items_1 _, _, meets_dict_items_raw d hs, ⟨⟨es, ep, hR⟩, fin⟩⟩)
end Qr
set_option maxHeartbeats 4000000
/-! a dict whose keys are (tuple of whole numbers, whole number), its values whole numbers or None -/
namespace Qr
open PySem PySem.Spec PyProof.Rows L2
abbrev MKey := List Nat × Nat
/-- key, the key's tuple, value -/
abbrev MEnt := MKey × Addr × Option Nat
def mkN (k : MKey) : NestedKey := .tup [.tup (k.1.map fun (n : Nat) => .num (n : Int)), .num (k.2 : Int)]
def oV : Option Nat → V
  | none => .non
  | some n => nV n
def KeyAt (H : Hp) (t : Addr) (k : MKey) : Prop := ∃ b, H t = some (.tup [.ref b, nV k.2]) ∧ H b = some (.tup (k.1.map nV))
def MemT (H : Hp) (L : List MEnt) : Prop := ∀ e ∈ L, KeyAt H e.2.1 e.1
theorem KeyAt.sameT {H H' : Hp} {t : Addr} {k : MKey} (h : KeyAt H t k) (s : ∀ b xs, H b = some (.tup xs) → H' b = some (.tup xs)) : KeyAt H' t k := by
  obtain ⟨b, h1, h2⟩ := h
  exact ⟨b, s _ _ h1, s _ _ h2⟩
theorem MemT.sameT {H H' : Hp} {L : List MEnt} (h : MemT H L) (s : ∀ b xs, H b = some (.tup xs) → H' b = some (.tup xs)) : MemT H' L := fun e he => (h e he).sameT s
theorem numsN_inj : ∀ {a b : List Nat}, (a.map fun (n : Nat) => NestedKey.num (n : Int)) = b.map (fun (n : Nat) => NestedKey.num (n : Int)) → a = b
  | [], [], _ => rfl
  | [], _ :: _, h => by cases h
  | _ :: _, [], h => by cases h
  | x :: a, y :: b, h => by
    rw [List.map_cons, List.map_cons] at h
    injection h with h1 h2
    injection h1 with h1
    rw [numsN_inj h2, show x = y by omega]
theorem mkN_inj {a b : MKey} (h : mkN a = mkN b) : a = b := by
  unfold mkN at h
  injection h with h
  injection h with h1 h2
  injection h1 with h1
  injection h2 with h2 _
  injection h2 with h2
  obtain ⟨a1, a2⟩ := a
  obtain ⟨b1, b2⟩ := b
  dsimp only at h1 h2
  rw [numsN_inj h1, show a2 = b2 by omega]
def EntP (e : MEnt) (u : NestedKey × Addr × Value) : Prop := u.1 = mkN e.1 ∧ u.2.1 = e.2.1 ∧ RelV (oV e.2.2) u.2.2
def MemOk (P : Program) (w : World) (a : Addr) (L : List MEnt) (h : Heap) : Prop := (a == sysModules) = false ∧ (L.map (·.1)).Nodup ∧
  ∃ (us : List (NestedKey × Addr × Value)), Paired EntP L us ∧ ∃ o es ep, h.get? a = some o ∧ o.ExactDict ∧ o.data = .dict es ep ∧ es.toList = us.map (entryOfKey (nestedKind P w))
def MemO (P : Program) (w : World) (a : Addr) (L : List MEnt) : HO := .ext fun h => MemOk P w a L h
theorem nest_nums {h : Heap} : ∀ {ns : List Nat} {us : List Value}, Vals (ns.map nV) us → NestedAll h (ns.map fun (n : Nat) => NestedKey.num (n : Int)) us
  | [], _, .nil => .nil
  | n :: ns, _, .cons r t => by
    obtain ⟨tk, rfl⟩ := r
    exact .cons (.int _ _) (nest_nums t)
theorem key_nest {P : Program} {w : World} {H : Hp} {h : Heap} {t : Addr} {k : MKey} (ok : HOk P w H h) (e : KeyAt H t k) : (nestedKind P w).is h (mkN k) t := by
  obtain ⟨b, h1, h2⟩ := e
  obtain ⟨_, its, rv, o, g1, g2, n, g3⟩ := ok _ _ h1
  obtain ⟨_, its2, rv2, o2, g4, g5, n2, g6⟩ := ok _ _ h2
  cases rv with
  | cons r rr =>
    cases rr with
    | cons r2 rr =>
      cases rr
      cases r
      obtain ⟨tk, rfl⟩ := r2
      refine ⟨.tup g1 g2 g3 ?_, ?_⟩
      · show NestedAll h _ ([Value.ref b, Value.int _ tk].toArray.toList)
        refine .cons (.tup g4 g5 g6 ?_) (.cons (.int _ _) .nil)
        simpa using nest_nums rv2
      · have d0 : ∀ l : List Nat, NestedKey.depthAll (l.map fun (n : Nat) => NestedKey.num (n : Int)) = 0 := fun l => by
          induction l with
          | nil => rfl
          | cons z zs ih => rw [List.map_cons, NestedKey.depthAll, ih]; rfl
        show NestedKey.depth (.tup _) ≤ 8
        simp [NestedKey.depth, NestedKey.depthAll, d0]
theorem paired_keys : ∀ {L : List MEnt} {us : List (NestedKey × Addr × Value)}, Paired EntP L us → us.map (·.1) = (L.map (·.1)).map mkN
  | [], _, .nil => rfl
  | e :: L, _, .cons r t => by rw [List.map_cons, List.map_cons, List.map_cons, paired_keys t, r.1]
theorem nodup_mkN {l : List MKey} (h : l.Nodup) : (l.map mkN).Nodup := by
  rw [List.Nodup, List.pairwise_map]
  exact h.imp fun n z => n (mkN_inj z)
section
variable {X : Cx} {pins : List (Addr × Obj)} {σ : L2.St} {H : Hp} {s : Shared} {a : Addr} {L : List MEnt}
theorem mem_dict (I : Inv X pins σ H s) (e : H a = some (MemO X.prog X.w a L)) (m : MemT H L) : (a == sysModules) = false ∧ (L.map (·.1)).Nodup ∧ ∃ us, Paired EntP L us ∧ s.heap.DictOfH (nestedKind X.prog X.w) a us := by
  obtain ⟨⟨hd, nd, us, r, o, es, ep, h1, h2, h3, h4⟩, _⟩ := I.hok _ _ e
  refine ⟨hd, nd, us, r, o, es, ep, h1, h2, h3, h4, fun x hx => ?_, ?_⟩
  · have all : ∀ {L : List MEnt} {us : List (NestedKey × Addr × Value)}, Paired EntP L us → MemT H L → ∀ x ∈ us, (nestedKind X.prog X.w).is s.heap x.1 x.2.1 := by
      intro L us r
      induction r with
      | nil => intro _ x hx; cases hx
      | @cons p q ps qs h t ih =>
        intro m x hx
        rcases List.mem_cons.mp hx with e | hx
        · rw [e, h.1, h.2.1]
          exact key_nest I.hok (m p List.mem_cons_self)
        · exact ih (fun e he => m e (List.mem_cons_of_mem _ he)) x hx
    exact all r m x hx
  · rw [paired_keys r]
    exact nodup_mkN nd
theorem mem_new {P : Program} {w : World} {H' : Hp} {h' : Heap} (x : MemOk P w a L h') : ObjOk P w H' h' a (MemO P w a L) := by
  have ⟨_, _, us, _, o, es, ep, h1, _⟩ := x
  refine ⟨x, ⟨o, h1⟩, fun h1 h2 p k => ?_⟩
  obtain ⟨hd, nd, us, r, o, es, ep, g1, g⟩ := p
  exact ⟨hd, nd, us, r, o, es, ep, k o g1, g⟩
/-- {} -/
def tDNewM (P : Program) (w : World) : TE := fun _ H Q => ∀ p, H p = none → Q (.ref p) (upd H p (MemO P w p []))
theorem pe_dnewM {pos : Pos} : PE X (.Dict [] [] pos) (tDNewM X.prog X.w) := ⟨fun pins s σ H Q I h =>
  wpAny_Dict_empty ⟨.ref s.heap.objs.size, _, I.laid (a := s.heap.objs.size) (o := MemO X.prog X.w s.heap.objs.size []) (t' := s.toks) (fun _ _ q => Heap.get?_push_of_some _ q) (Nat.le_refl _)
    (mem_new ⟨beq_eq_false_iff_ne.mpr (Ne.symm (Nat.ne_of_lt I.big)), List.nodup_nil, [], .nil, _, #[], 0, Heap.get?_push_size _ rfl, ⟨rfl, rfl, rfl⟩, rfl, rfl⟩), rfl, h _ (I.hok.fresh (Nat.le_refl _))⟩⟩
theorem at_of : ∀ {L : List MEnt} {us : List (NestedKey × Addr × Value)}, Paired EntP L us → ∀ k, (atKey us (mkN k)).isSome = decide (k ∈ L.map (·.1))
  | [], _, .nil, k => rfl
  | e :: L, u :: us, .cons r t, k => by
    have ih := at_of t k
    unfold atKey at ih ⊢
    rw [List.find?_cons, r.1]
    by_cases z : e.1 = k
    · rw [decide_eq_true (by rw [z])]
      rw [List.map_cons]
      simp [z]
    · rw [decide_eq_false (fun q => z (mkN_inj q))]
      dsimp only
      rw [ih, List.map_cons]
      have : ¬ k = e.1 := fun q => z q.symm
      simp [this]
theorem at_get : ∀ {L : List MEnt} {us : List (NestedKey × Addr × Value)}, Paired EntP L us → ∀ (e : MEnt), e ∈ L → (L.map (·.1)).Nodup → ∃ u, atKey us (mkN e.1) = some u ∧ RelV (oV e.2.2) u.2
  | [], _, .nil, _, h, _ => by cases h
  | e0 :: L, u :: us, .cons r t, e, h, nd => by
    rw [List.map_cons, List.nodup_cons] at nd
    unfold atKey
    rw [List.find?_cons, r.1]
    rcases List.mem_cons.mp h with q | q
    · subst q
      rw [decide_eq_true rfl]
      exact ⟨u.2, rfl, r.2.2⟩
    · have ne : e0.1 ≠ e.1 := fun z => nd.1 (by rw [z]; exact List.mem_map_of_mem q)
      rw [decide_eq_false (fun z => ne (mkN_inj z))]
      exact at_get t e q nd.2
/-- key not in memo -/
def rNotInM (P : Program) (w : World) : R2 := fun x y H Q => ∃ t a k L, x = .ref t ∧ y = .ref a ∧ H a = some (MemO P w a L) ∧ MemT H L ∧ KeyAt H t k ∧ Q (.bl (!decide (k ∈ L.map (·.1)))) H
theorem op_notInM (hu : X.A.units + 9 < cLine) : OpR X (compareOp .NotIn) (rNotInM X.prog X.w) := by
  intro pins s σ H x y v u Q I rx ry h
  obtain ⟨t, a, k, L, rfl, rfl, e, m, hk, q⟩ := h
  cases rx
  cases ry
  obtain ⟨hd, nd, us, r, dd⟩ := mem_dict I e m
  refine wpAny_notIn_heap (knd := nestedKind X.prog X.w) (by show X.A.units + 1 + 8 < cLine; omega) (key_nest I.hok hk) hd dd ?_
  rw [at_of r k]
  exact ⟨.bl (!decide (k ∈ L.map (fun e : MEnt => e.1))), H, I.tok _, rfl, q⟩
/-- memo[key] -/
def tMGet (P : Program) (w : World) (td ty : TE) : TE := fun σ H Q => td σ H fun x H1 => ty σ H1 fun y H2 => ∃ t a e L, y = .ref t ∧ x = .ref a ∧ H2 a = some (MemO P w a L) ∧ MemT H2 L ∧ e ∈ L ∧ KeyAt H2 t e.1 ∧ Q (oV e.2.2) H2
theorem pe_mget {o i : Expr} {pos : Pos} {td ty : TE} (hu : X.A.units + 9 < cLine) (ho : PE X o td) (hi : PE X i ty) (hs : NoSl i) : PE X (.Subscript o i pos) (tMGet X.prog X.w td ty) := by
  refine ⟨fun pins s σ H Q I h => ?_⟩
  refine subD_of PySem.F.slot_dict_getitem.lookup hs (thn (ho.run pins s σ H _ I h) fun u s1 ⟨x, H1, I1, rx, q1⟩ => thn (hi.run pins s1 σ H1 _ I1 q1) fun iv s2 ⟨y, H2, I2, ry, t, a, en, L, ey, ex, e, m, he, hk, q2⟩ => ?_)
  subst ex ey
  obtain rfl : u = Value.ref a := rx
  obtain rfl : iv = Value.ref t := ry
  obtain ⟨hd, nd, us, r, dd⟩ := mem_dict I2 e m
  obtain ⟨p, hp, rp⟩ := at_get r en he nd
  exact ⟨dd.typeIs, wpAny_getItem_heap (knd := nestedKind X.prog X.w) (by show X.A.units + 1 + 8 < cLine; omega) (key_nest I2.hok hk) dd hp ⟨_, H2, I2.tok _, rp, q2⟩⟩
/-- memo[key] = v, key not there -/
def sMPut (P : Program) (w : World) (td ty tv : TE) : TS := fun D σ H => tv σ H fun v H1 => td σ H1 fun x H2 => ty σ H2 fun y H3 => ∃ t a k L n, v = oV n ∧ y = .ref t ∧ x = .ref a ∧ H3 a = some (MemO P w a L) ∧ MemT H3 L ∧ KeyAt H3 t k ∧ k ∉ L.map (·.1) ∧ L.length ≤ 1000 ∧
  D.nx σ (upd H3 a (MemO P w a (L ++ [(k, t, n)])))
theorem paired_append {α β : Type} {F : α → β → Prop} : ∀ {l : List α} {m : List β} {a : α} {b : β}, Paired F l m → F a b → Paired F (l ++ [a]) (m ++ [b])
  | [], _, _, _, .nil, h => .cons h .nil
  | x :: l, _, _, _, .cons r t, h => .cons r (paired_append t h)
theorem ps_mput {o i value : Expr} {pos pos' : Pos} {td ty tv : TE} (hu : X.A.units + 9 < cLine) (ho : PE X o td) (hi : PE X i ty) (hv : PE X value tv) (hs : swapsWith value (some (.Subscript o i pos')) pos.line X.env = pure false) :
    PS X (.Assign [.Subscript o i pos'] value pos) (sMPut X.prog X.w td ty tv) := by
  refine ⟨fun pins s σ H D I h => ?_⟩
  refine wpAny_Assign_Subscript (thn (hv.run pins s σ H _ I h) fun rr s1 ⟨v, H1, I1, rv, q1⟩ => thn (ho.run pins s1 σ H1 _ I1 q1) fun u s2 ⟨x, H2, I2, rx, q2⟩ => thn (hi.run pins s2 σ H2 _ I2 q2) fun iv s3 ⟨y, H3, I3, ry, t, a, k, L, n, ev, ey, ex, e, m, hk, hnk, hl, q3⟩ => ?_) hs
  subst ex ey ev
  obtain rfl : u = Value.ref a := rx
  obtain rfl : iv = Value.ref t := ry
  obtain ⟨hd, nd, us, r, dd⟩ := mem_dict I3 e m
  have hz : us.length ≤ sizeLine := by
    have := Paired.length r
    rw [sizeLine_eq]
    omega
  refine wpAny_setItem_heap (knd := nestedKind X.prog X.w) (hsz := hz) (by show X.A.units + 1 + 8 < cLine; omega) (key_nest I3.hok hk) dd fun h' dd' hs => ?_
  have hno : atKey us (mkN k) = none := by
    have := at_of r k
    rw [decide_eq_false hnk] at this
    exact Option.not_isSome_iff_eq_none.mp (by rw [this]; exact Bool.false_ne_true)
  rw [storedH_new hno] at dd'
  obtain ⟨q0, es0, ep, hq, h2, h3, h4, _, h5⟩ := dd'
  refine ⟨σ, _, d_write (ob := MemO X.prog X.w a (L ++ [(k, t, n)])) I3 (by rw [e]; exact True.intro) hs ⟨q0, hq⟩ (mem_new ⟨hd, ?_, us ++ [(mkN k, t, rr)], paired_append r ⟨rfl, rfl, rv⟩, q0, es0, ep, hq, h2, h3, h4⟩), q3⟩
  rw [List.map_append, List.nodup_append]
  refine ⟨nd, by simp, fun x hx y hy => ?_⟩
  rw [List.mem_singleton.mp (show y ∈ [k] from hy)]
  exact fun z => hnk (by rw [← z]; exact hx)
end
end Qr
set_option maxHeartbeats 4000000
namespace Qr
open PySem PySem.Spec PyProof.Rows L2
theorem sl_listK {X : Cx} {K : PySem.W.Frag} (hK : X.K = K) : SlR X (rSlL K) := by subst hK; exact sl_list
theorem pi_listK {X : Cx} {tg l : Expr} {tl : TE} {K : PySem.W.Frag} (hK : X.K = K) (hl : PE X l tl) : PI X tg l (iList K tl) := by subst hK; exact pi_list hl
/-! sorted sets -/
theorem insU_mem {x y : Nat} : ∀ {l : List Nat}, y ∈ Mir.insU x l ↔ y = x ∨ y ∈ l
  | [] => by simp [Mir.insU]
  | z :: l => by
    have ih := insU_mem (x := x) (y := y) (l := l)
    unfold Mir.insU
    split
    · simp
    · split
      · rename_i h1 h2
        subst h2
        simp
      · simp [ih]
        constructor
        · rintro (h | h | h) <;> simp [h]
        · rintro (h | h | h) <;> simp [h]
theorem insU_inc {x : Nat} : ∀ {l : List Nat}, l.Pairwise (· < ·) → (Mir.insU x l).Pairwise (· < ·)
  | [], _ => by simp [Mir.insU]
  | z :: l, h => by
    have h' := List.pairwise_cons.mp h
    unfold Mir.insU
    split
    · rename_i h1
      refine List.pairwise_cons.mpr ⟨fun y hy => ?_, h⟩
      rcases List.mem_cons.mp hy with rfl | hy
      · exact h1
      · exact Nat.lt_trans h1 (h'.1 y hy)
    · split
      · exact h
      · refine List.pairwise_cons.mpr ⟨fun y hy => ?_, insU_inc h'.2⟩
        rcases insU_mem.mp hy with rfl | hy
        · omega
        · exact h'.1 y hy
theorem sortU_mem {y : Nat} : ∀ {l : List Nat}, y ∈ Mir.sortU l ↔ y ∈ l
  | [] => Iff.rfl
  | z :: l => by
    show y ∈ Mir.insU z (Mir.sortU l) ↔ _
    rw [insU_mem, sortU_mem, List.mem_cons]
theorem sortU_inc : ∀ (l : List Nat), (Mir.sortU l).Pairwise (· < ·)
  | [] => .nil
  | z :: l => insU_inc (sortU_inc l)
theorem inc_eq : ∀ {a b : List Int}, a.Pairwise (· < ·) → b.Pairwise (· < ·) → (∀ x, x ∈ a ↔ x ∈ b) → a = b
  | [], [], _, _, _ => rfl
  | [], y :: b, _, _, h => by have := (h y).mpr List.mem_cons_self; cases this
  | x :: a, [], _, _, h => by have := (h x).mp List.mem_cons_self; cases this
  | x :: a, y :: b, ha, hb, h => by
    have ha' := List.pairwise_cons.mp ha
    have hb' := List.pairwise_cons.mp hb
    have e : x = y := by
      rcases List.mem_cons.mp ((h x).mp List.mem_cons_self) with e | e
      · exact e
      · rcases List.mem_cons.mp ((h y).mpr List.mem_cons_self) with e2 | e2
        · exact e2.symm
        · have h1 := hb'.1 x e
          have h2 := ha'.1 y e2
          omega
    subst e
    rw [inc_eq ha'.2 hb'.2 fun z => ⟨fun hz => ?_, fun hz => ?_⟩]
    · rcases List.mem_cons.mp ((h z).mp (List.mem_cons_of_mem _ hz)) with e | e
      · have := ha'.1 z hz
        omega
      · exact e
    · rcases List.mem_cons.mp ((h z).mpr (List.mem_cons_of_mem _ hz)) with e | e
      · have := hb'.1 z hz
        omega
      · exact e
/-- what sorted(set(..)) gives -/
theorem sorted_eq {f : Nat → Int} (hf : ∀ x y, x < y → f x < f y) {l : List Nat} {ns : List Int} (hi : ns.Pairwise (· < ·)) (hm : ∀ k : Int, k ∈ ns ↔ (decide (k ∈ l.map f)) = true) : ns = (Mir.sortU l).map f := by
  refine inc_eq hi (List.pairwise_map.mpr ((sortU_inc l).imp fun {a b} h => hf a b h)) fun k => ?_
  rw [hm, decide_eq_true_eq, List.mem_map, List.mem_map]
  exact ⟨fun ⟨x, h1, h2⟩ => ⟨x, sortU_mem.mpr h1, h2⟩, fun ⟨x, h1, h2⟩ => ⟨x, sortU_mem.mp h1, h2⟩⟩
theorem diffs_drop {L : List Nat} {i t : Nat} (h : L[i]? = some t) : Mir.diffs (L.drop i) = (L.drop (i + 1)).map (· - t) ++ Mir.diffs (L.drop (i + 1)) := by
  obtain ⟨hl, e⟩ := List.getElem?_eq_some_iff.mp h
  rw [List.drop_eq_getElem_cons hl, e]
  rfl
theorem diffs_len : ∀ (L : List Nat), (Mir.diffs L).length ≤ L.length * L.length
  | [] => Nat.le_refl _
  | t :: r => by
    have := diffs_len r
    show (r.map (· - t) ++ Mir.diffs r).length ≤ (r.length + 1) * (r.length + 1)
    rw [List.length_append, List.length_map, Nat.add_mul, Nat.mul_add]
    omega
theorem walk_it {J : It} {n : Nat} {G : Hp → Prop} {Y : Nat → Hp → V → Hp → Prop} (w : Walk J n G Y) {B : (Hp → Prop) → V → Hp → Prop} {Hs : Hp} {Qd : Hp → Prop} (Pv : Nat → Hp → Prop) (h0 : Pv 0 Hs) (hG : ∀ i H, i ≤ n → Pv i H → G H)
    (hs : ∀ i x H H', i < n → Pv i H → Y i H x H' → B (Pv (i + 1)) x H') (hd : ∀ H, Pv n H → Qd H) :
    ∃ W : Nat → Nat → Hp → Prop, (∃ m, W 0 m Hs) ∧ ∀ i m H, W i m H → (J.stop i H ∧ Qd H) ∨ (J.go i H ∧ ∃ Nx : Hp → Prop, (∀ H', Nx H' → ∃ m', m' < m ∧ W (i + 1) m' H') ∧ ∀ x H', J.yld i H x H' → B Nx x H') := by
  refine ⟨fun i m H => m = n - i ∧ i ≤ n ∧ Pv i H, ⟨n, by simp, Nat.zero_le _, h0⟩, ?_⟩
  rintro i m H ⟨rfl, hi, p⟩
  have q := hG i H hi p
  by_cases hlt : i < n
  · exact .inr ⟨w.goes i H hlt q, Pv (i + 1), fun H' p' => ⟨n - (i + 1), by omega, rfl, hlt, p'⟩, fun x H' y => hs i x H H' hlt p (w.yields i H x H' hlt q y)⟩
  · have e : i = n := by omega
    subst e
    exact .inl ⟨w.stops H q, hd H p⟩
theorem cutV_from (xs : List V) (i : Nat) : cutV xs (some ((i : Int) + 1)) none = xs.drop (i + 1) := by
  unfold cutV
  have e1 : HT.sIx xs.length 0 (some ((i : Int) + 1)) = min (i + 1) xs.length := by
    unfold HT.sIx
    dsimp only
    split <;> omega
  have e2 : HT.sIx xs.length xs.length none = xs.length := rfl
  rw [e1, e2]
  by_cases h : i + 1 ≤ xs.length
  · rw [Nat.min_eq_left h, List.take_of_length_le (by rw [List.length_drop]; omega)]
  · rw [Nat.min_eq_right (by omega), List.drop_eq_nil_of_le (by omega), List.drop_eq_nil_of_le (by omega), List.take_nil]
theorem cr_sortedSetK {X : Cx} {w : World} (hc : X.calm = true) (hw : X.w = w) : CallR X (.builtin "sorted") (rSortedSet w) := by subst hw; exact cr_sortedSet hc
def PairAt (H : Hp) (a : Addr) (p : Nat × Nat) : Prop := H a = some (.tup [nV p.1, nV p.2])
section
variable {P : Program} {w : World} {K : PySem.W.Frag} {mg : Str → Option Value} {base : Heap}
def spStretch (K : PySem.W.Frag) : Sp := spOf (fun a : Addr × Int × List Nat × Nat => [.ref a.1, nV a.2.2.2]) (fun a H => SqL K H a.1 (a.2.2.1.map (tV a.2.1)) ∧ a.2.2.1.Pairwise (· < ·) ∧ a.2.2.1.length ≤ 7)
  (fun a H r H' => ∃ (p : Addr) (as : List Addr), r = .ref p ∧ Same H H' ∧ H' p = some (.lst (as.map V.ref)) ∧ Each PairAt H' as (Mir.stretchM a.2.2.1 a.2.2.2))
theorem ok_stretches (T : Txt K mg) : Cal P w K mg base "stretches" ["stream", "most"] 1 (spStretch K) := by
  refine ⟨fn_mk T.F_stretches sc_stretches bd_stretches (spOf_len fun _ => rfl) (fun cdv A outer s H vs Q E hr h => ?_), T.F_stretches.elim fun _ F => F.kp, T.g_stretches⟩
  obtain ⟨⟨a, b, L, m⟩, rfl, ⟨hs, hp, hl⟩, k⟩ := h
  dsimp only at hs hp hl k
  refine ⟨_, (pss_cons (ps_set (i := 2) sc_stretches.nd rfl (.inl rfl) (pe_callB (cr_sortedSetK (w := w) rfl rfl) rfl T.z_sorted (by decide +kernel) (pa_cons (pe_callTy (cr_setOfIK (K := K) (w := w) rfl rfl rfl) rfl T.z_set (by decide +kernel) (pa_cons (pe_lc2 (own := [("at", 7), ("time", 8), ("later", 9)]) (vs1 := [9]) (by rfl) sc_stretches.nd (pi_enum rfl T.z_enumerate (pa_cons (pv 0) pa_nil)) (blkOk_by (own := [("at", 7), ("time", 8), ("later", 9)]) (N := ["stream", "most", "gaps", "found", "low", "gap", "high", "at", "time", "later"]) (sc := defScope sf_stretches) (by decide +kernel)) (by decide) (fun _ _ _ _ _ => (pg_tupK (K := K) 2 rfl rfl (pgs_cons (pg_name (i := 7) sc_stretches.nd rfl (by first | exact Or.inl rfl | exact Or.inr rfl)) (pgs_cons (pg_name (i := 8) sc_stretches.nd rfl (by first | exact Or.inl rfl | exact Or.inr rfl)) pgs_nil)))) (fun _ _ _ _ _ => pts_nil) (fun _ _ _ _ _ => (pi_listK (K := K) rfl (pe_slice (sl_listK (K := K) rfl) (pv 0) (po_some (pe_op op_add (pv 7) pe_int)) po_none))) (fun _ _ _ _ _ => (pg_name (i := 9) sc_stretches.nd rfl (by first | exact Or.inl rfl | exact Or.inr rfl))) (fun _ _ _ _ _ => pts_nil) (fun _ _ _ _ _ => (pe_op op_sub (pv 9) (pv 8)))) pa_nil)) pa_nil))) (pss_cons (ps_par (i := 3) (j := 4) rfl sc_stretches.nd rfl rfl (by decide) rfl rfl (pa_cons (pe_lst pa_nil) (pa_cons pe_int pa_nil)) rfl) (pss_cons (ps_for PassesOwn.never rfl (pi_list (pe_op op_cat (pv 2) (pe_lst (pa_cons (pv 1) pa_nil)))) (pg_name (i := 5) sc_stretches.nd rfl (.inl rfl)) (pss_cons (ps_set (i := 6) sc_stretches.nd rfl (.inl rfl) (pe_callB (call_min2 rfl) rfl T.z_min (by decide +kernel) (pa_cons (pv 5) (pa_cons (pv 1) pa_nil)))) (pss_one (ps_if (pt_cmpR op_le (pv 4) (pv 6) (nomark _)) (pss_cons (ps_expr (pe_bm PySem.F.plainAttrs_list PySem.F.slot_list_append PySem.F.type_list_append mt_append (pv 3) (pa_cons (pe_tup (pa_cons (pv 4) (pa_cons (pv 6) pa_nil))) pa_nil))) (pss_one (ps_set (i := 4) sc_stretches.nd rfl (.inl rfl) (pe_op op_add (pv 6) pe_int)))) pss_nil)))) (pss_one (ps_ret (pv 3)))))), ?_⟩
  refine ⟨_, rfl, a, L.map (tV b), rfl, hs, fun D nD => walk_it (walk_enum (K := K) (xs := L.map (tV b))) (fun i H2 => Same H H2 ∧ ∃ acc : List Nat, H2 D = some (.lst (acc.map nV)) ∧ acc ++ Mir.diffs (L.drop i) = Mir.diffs L)
    ⟨same_upd1 nD, [], upd_same, rfl⟩ (fun i H2 _ z => z.1.seq hs) ?_ ?_⟩
  · rintro i x H2 H3 hi ⟨s2, acc, eD, hacc⟩ ⟨T1, x1, x2, rfl, n1, rfl, e1, e2⟩
    obtain rfl := Option.some.inj e1
    obtain ⟨t, ht, rfl⟩ := get_map e2
    have s3 := same_new (u := .tup [V.int (i : Nat), tV b t]) s2 n1
    have eD3 := up_old (u := .tup [V.int (i : Nat), tV b t]) eD n1
    refine ⟨T1, _, rfl, SqT.of upd_same, rfl, _, _, rfl, _, _, rfl, rfl, rfl, tYes_go ?_⟩
    refine ⟨_, rfl, _, rfl, _, _, rfl, rfl, _, rfl, a, _, rfl, s3.seq hs, fun S nS => ?_⟩
    rw [cutV_from, ← List.map_drop]
    generalize upd H2 T1 (.tup [V.int (i : Nat), tV b t]) = H4 at s3 eD3 nS ⊢
    have s4 := same_new (u := .lst ((L.drop (i + 1)).map (tV b))) s3 nS
    have eD4 := up_old (u := .lst ((L.drop (i + 1)).map (tV b))) eD3 nS
    have eS4 : (upd H4 S (.lst ((L.drop (i + 1)).map (tV b)))) S = some (.lst ((L.drop (i + 1)).map (tV b))) := upd_same
    have nDS : S ≠ D := (ne_of_none eD3 nS).symm
    generalize upd H4 S (.lst ((L.drop (i + 1)).map (tV b))) = H5 at s4 eD4 eS4 ⊢
    refine ⟨S, rfl, ⟨_, SqL.of eS4⟩, walk_it (walk_list (K := K) (xs := (L.drop (i + 1)).map (tV b))) (fun j H6 => Same H H6 ∧ H6 S = some (.lst ((L.drop (i + 1)).map (tV b))) ∧ H6 D = some (.lst ((acc ++ ((L.drop (i + 1)).take j).map (· - t)).map nV)))
      ⟨s4, eS4, by simpa using eD4⟩ (fun j H6 _ z => SqL.of z.2.1) ?_ ?_⟩
    · rintro j y H6 H7 hj ⟨s6, eS6, eD6⟩ ⟨rfl, e3⟩
      obtain ⟨u, hu, rfl⟩ := get_map e3
      refine ⟨rfl, tYes_go ?_⟩
      refine ⟨_, rfl, _, rfl, _, _, rfl, rfl, _, eD6, ?_, ?_⟩
      · rw [List.length_map, List.length_append, List.length_map, List.length_take]
        have h1 := diffs_len L
        rw [← hacc, List.length_append] at h1
        have h2 : L.length * L.length ≤ 7 * 7 := Nat.mul_le_mul hl hl
        have h3 : (L.drop (i + 1)).length ≤ 7 := by rw [List.length_drop]; omega
        exact len_ok (by omega)
      · refine ⟨same_up s6 nD, by rw [upd_ne nDS]; exact eS6, ?_⟩
        rw [upd_same, List.take_succ, hu]
        have lt : t < u := by
          rw [List.getElem?_drop] at hu
          have l1 := lt_of_get ht
          have l2 := lt_of_get hu
          have := List.pairwise_iff_getElem.mp hp i (i + 1 + j) l1 l2 (by omega)
          rw [(List.getElem?_eq_some_iff.mp ht).2, (List.getElem?_eq_some_iff.mp hu).2] at this
          exact this
        have e4 : V.int (b + (u : Int) - (b + (t : Int))) = nV (u - t) := by
          show V.int _ = V.int _
          congr 1
          omega
        show some (HO.lst (_ ++ [V.int (b + (u : Int) - (b + (t : Int)))])) = _
        rw [e4, List.map_append, List.map_append, List.map_append]
        simp
    · rintro H6 ⟨s6, eS6, eD6⟩
      rw [List.length_map, List.take_length] at eD6
      refine ⟨s6, _, eD6, ?_⟩
      rw [← hacc, diffs_drop ht, List.append_assoc]
  · rintro H2 ⟨s2, acc, eD, hacc⟩
    rw [List.length_map, List.drop_length, show Mir.diffs [] = [] from rfl, List.append_nil] at hacc
    subst hacc
    have dl : (Mir.diffs L).length ≤ 49 := Nat.le_trans (diffs_len L) (Nat.mul_le_mul hl hl)
    refine ⟨D, (Mir.diffs L).map (fun (n : Nat) => (n : Int)), rfl, SqL.of (by rw [eD, List.map_map]; rfl), by rw [List.length_map]; omega, fun sa c hc nsa => ?_⟩
    rw [List.length_map] at hc
    have s3 := same_new (u := SetO w sa (fun k => decide (k ∈ (Mir.diffs L).map (fun (n : Nat) => (n : Int)))) c) s2 nsa
    refine ⟨sa, _, c, rfl, upd_same, by omega, fun ns g hi hm hln ng => ?_⟩
    obtain rfl := sorted_eq (f := fun (n : Nat) => (n : Int)) (fun x y h => by show (x : Int) < y; omega) hi hm
    rw [List.length_map] at hln
    have s4 := same_new (u := .lst (((Mir.sortU (Mir.diffs L)).map fun (n : Nat) => (n : Int)).map V.int)) s3 ng
    have eg : (upd (upd H2 sa (SetO w sa (fun k => decide (k ∈ (Mir.diffs L).map (fun (n : Nat) => (n : Int)))) c)) g (.lst (((Mir.sortU (Mir.diffs L)).map fun (n : Nat) => (n : Int)).map V.int))) g = some (.lst ((Mir.sortU (Mir.diffs L)).map nV)) := by
      rw [upd_same, List.map_map]
      rfl
    generalize upd (upd H2 sa (SetO w sa (fun k => decide (k ∈ (Mir.diffs L).map (fun (n : Nat) => (n : Int)))) c)) g (.lst (((Mir.sortU (Mir.diffs L)).map fun (n : Nat) => (n : Int)).map V.int)) = H3 at s4 eg ⊢
    refine ⟨len_ok' (by show 0 ≤ 1000; decide), fun fo nf => ?_⟩
    have s5 := same_new (u := .lst []) s4 nf
    have eg5 := up_old (u := .lst []) eg nf
    have ef5 : (upd H3 fo (.lst [])) fo = some (.lst []) := upd_same
    generalize upd H3 fo (.lst []) = H4 at s5 eg5 ef5 ⊢
    refine ⟨_, _, rfl, ?_⟩
    refine ⟨_, rfl, _, rfl, len_ok' (by show 1 ≤ 1000; decide), fun l1 n1 => ?_⟩
    have s6 := same_new (u := .lst [nV m]) s5 n1
    have eg6 := up_old (u := .lst [nV m]) eg5 n1
    have ef6 := up_old (u := .lst [nV m]) ef5 n1
    have el6 : (upd H4 l1 (.lst [nV m])) l1 = some (.lst [nV m]) := upd_same
    generalize upd H4 l1 (.lst [nV m]) = H5 at s6 eg6 ef6 el6 ⊢
    have gl : (Mir.sortU (Mir.diffs L)).length ≤ 49 := by omega
    refine ⟨g, l1, _, _, rfl, rfl, eg6, el6, len_ok' (by rw [List.length_map]; simp; omega), fun l2 n2 => ?_⟩
    rw [show [nV m] = [m].map nV from rfl, ← List.map_append]
    have s7 := same_new (u := .lst ((Mir.sortU (Mir.diffs L) ++ [m]).map nV)) s6 n2
    have ef7 := up_old (u := .lst ((Mir.sortU (Mir.diffs L) ++ [m]).map nV)) ef6 n2
    have el7 : (upd H5 l2 (.lst ((Mir.sortU (Mir.diffs L) ++ [m]).map nV))) l2 = some (.lst ((Mir.sortU (Mir.diffs L) ++ [m]).map nV)) := upd_same
    have n27 : l2 ≠ fo := (ne_of_none ef6 n2).symm
    have nf0 : H fo = none := s4.free nf
    generalize upd H5 l2 (.lst ((Mir.sortU (Mir.diffs L) ++ [m]).map nV)) = H6 at s7 ef7 el7 ⊢
    have gsl : (Mir.sortU (Mir.diffs L) ++ [m]).length ≤ 50 := by rw [List.length_append]; simp; omega
    have gse : Mir.stretchM L m = Mir.strGo m (Mir.sortU (Mir.diffs L) ++ [m]) 2 := rfl
    rw [← gse] at *
    refine ⟨l2, rfl, ⟨_, SqL.of el7⟩, for_it (walk_list (K := K) (xs := (Mir.sortU (Mir.diffs L) ++ [m]).map nV)) (fun i σ H7 => ∃ (low : Nat) (as : List Addr) (ps : List (Nat × Nat)) (y5 y6 : Option V), σ = [some (.ref a), some (nV m), some (.ref g), some (.ref fo), some (nV low), y5, y6, none, none, none] ∧ Same H H7 ∧
        H7 l2 = some (.lst ((Mir.sortU (Mir.diffs L) ++ [m]).map nV)) ∧ H7 fo = some (.lst (as.map V.ref)) ∧ Each PairAt H7 as ps ∧ ps.length ≤ i ∧ ps ++ Mir.strGo m ((Mir.sortU (Mir.diffs L) ++ [m]).drop i) low = Mir.stretchM L m)
      ⟨2, [], [], none, none, rfl, s7, el7, ef7, Each.nil, Nat.le_refl _, rfl⟩ (fun i σ H7 _ ⟨_, _, _, _, _, _, _, z, _⟩ => SqL.of z) ?_ ?_⟩
    · rintro i x σ H7 H8 hi ⟨low, as, ps, y5, y6, rfl, s8, el8, ef8, hps, hpl, hgo⟩ ⟨rfl, e1⟩
      obtain ⟨gp, hgp, rfl⟩ := get_map e1
      have hdr : (Mir.sortU (Mir.diffs L) ++ [m]).drop i = gp :: (Mir.sortU (Mir.diffs L) ++ [m]).drop (i + 1) := by
        obtain ⟨h1, h2⟩ := List.getElem?_eq_some_iff.mp hgp
        rw [List.drop_eq_getElem_cons h1, h2]
      rw [hdr] at hgo
      have il : i < 50 := by rw [List.length_map] at hi; omega
      refine ⟨_, rfl, _, rfl, _, _, rfl, ?_⟩
      have emin : V.int (if (m : Int) < (gp : Int) then (m : Int) else (gp : Int)) = nV (min gp m) := by
        show V.int _ = V.int _
        congr 1
        split <;> omega
      rw [emin]
      refine ⟨_, rfl, _, rfl, _, _, rfl, rfl, _, rfl, ?_⟩
      by_cases hc : low ≤ min gp m
      · have hgo' : ps ++ ((low, min gp m) :: Mir.strGo m ((Mir.sortU (Mir.diffs L) ++ [m]).drop (i + 1)) (min gp m + 1)) = Mir.stretchM L m := by
          rw [← hgo]
          show _ = ps ++ (if low ≤ min gp m then _ else _)
          rw [if_pos hc]
        rw [decide_eq_true (by omega)]
        refine iteT ?_
        refine ⟨_, rfl, .inl ⟨rfl, _, SqL.of ef8⟩, _, rfl, _, rfl, len_ok' (by show 2 ≤ 1000; decide), fun p np => ?_⟩
        have s9 := same_new (u := .tup [nV low, nV (min gp m)]) s8 np
        have ef9 := up_old (u := .tup [nV low, nV (min gp m)]) ef8 np
        have el9 := up_old (u := .tup [nV low, nV (min gp m)]) el8 np
        have ep9 : (upd H8 p (.tup [nV low, nV (min gp m)])) p = some (.tup [nV low, nV (min gp m)]) := upd_same
        have hps9 := hps.mono fun c q (e : PairAt H8 c q) => (up_old (u := .tup [nV low, nV (min gp m)]) e np : PairAt (upd H8 p (.tup [nV low, nV (min gp m)])) c q)
        generalize upd H8 p (.tup [nV low, nV (min gp m)]) = H9 at s9 ef9 el9 ep9 hps9 ⊢
        have asl : as.length ≤ 50 := by rw [hps.len]; omega
        refine ⟨fo, _, _, rfl, rfl, ef9, len_ok (by rw [List.length_map]; omega), ?_⟩
        have old : ∀ c q, PairAt H9 c q → PairAt (upd H9 fo (.lst (as.map V.ref ++ [.ref p]))) c q := fun c q e => by
          show (upd H9 fo _) c = _
          rw [upd_ne (ne_of e ef9 (fun z => by cases z))]
          exact e
        refine ⟨_, rfl, _, _, rfl, rfl, min gp m + 1, as ++ [p], ps ++ [(low, min gp m)], some (nV gp), some (nV (min gp m)), ?_, same_up s9 nf0, ?_, ?_, Each.append (hps9.mono old) (Each.one (old _ _ ep9)), ?_, ?_⟩
        · rfl
        · rw [upd_ne n27]
          exact el9
        · rw [upd_same, List.map_append]
          rfl
        · rw [List.length_append]
          show _ + 1 ≤ _
          omega
        · rw [List.append_assoc]
          exact hgo'
      · have hgo' : ps ++ Mir.strGo m ((Mir.sortU (Mir.diffs L) ++ [m]).drop (i + 1)) low = Mir.stretchM L m := by
          rw [← hgo]
          show _ = ps ++ (if low ≤ min gp m then _ else _)
          rw [if_neg hc]
        rw [decide_eq_false (by omega)]
        exact iteF ⟨low, as, ps, _, _, rfl, s8, el8, ef8, hps, by omega, hgo'⟩
    · rintro σ H7 ⟨low, as, ps, y5, y6, rfl, s8, el8, ef8, hps, hpl, hgo⟩
      rw [List.length_map, List.drop_length, show Mir.strGo m [] low = [] from rfl, List.append_nil] at hgo
      rw [hgo] at hps
      exact ⟨_, rfl, k _ _ ⟨fo, as, rfl, s8, ef8, hps⟩⟩
end
end Qr
set_option maxHeartbeats 4000000
namespace Qr
open PySem PySem.Spec PyProof.Rows L2
theorem kind_altG {K : PySem.W.Frag} {σ : L2.St} {H : Hp} {Q : VK} (kd : Mir.Kd) {mn : Str} {sp : Mir.Kd → Sp} {ta : TE} {t : TA} (h : tMeth (He.ga K (kC kd)) mn (sp kd) [] E0 ta t σ H Q) :
    tAlt (tMeth (He.ga K "Last") mn (sp .last) [] E0 ta t) (tAlt (tMeth (He.ga K "First") mn (sp .first) [] E0 ta t) (tMeth (He.ga K "Limit") mn (sp .limit) [] E0 ta t)) σ H Q := by
  cases kd with
  | last => exact Or.inl h
  | first => exact Or.inr (Or.inl h)
  | limit => exact Or.inr (Or.inr h)
/-- a Leads and what it holds -/
structure LD where
  p : Addr
  S : Addr
  G : Addr
  R : Addr
  M : Addr
  b : Int
  L : List Nat
  goal : List Nat
  st : List (Nat × Nat)
def leF (d : LD) : List (Str × V) := [("stream", .ref d.S), ("goal", .ref d.G), ("stretches", .ref d.R), ("fewest", .ref d.M)]
structure LeadAt (K : PySem.W.Frag) (H : Hp) (d : LD) : Prop where
  obj : ∃ dx, H d.p = some (.ins (He.ga K "Leads") dx (leF d))
  str : H d.S = some (.lst (d.L.map (tV d.b)))
  gl : H d.G = some (.tup (d.goal.map nV))
  sts : ∃ as : List Addr, H d.R = some (.lst (as.map V.ref)) ∧ Each PairAt H as d.st
/-- sizes -/
structure LOk (d : LD) : Prop where
  ll : d.L.length ≤ 7
  gg : d.goal.length ≤ 7
  sl : d.st.length ≤ 3
  s1 : ∀ q ∈ d.st, 1 ≤ q.1 ∧ q.1 ≤ q.2 ∧ q.2 ≤ 4
theorem LeadAt.same {K : PySem.W.Frag} {H H' : Hp} {d : LD} (h : LeadAt K H d) (s : Same H H') : LeadAt K H' d := by
  obtain ⟨⟨dx, h1⟩, h2, h3, as, h4, h5⟩ := h
  exact ⟨⟨dx, s _ _ h1⟩, s _ _ h2, s _ _ h3, as, s _ _ h4, h5.mono fun a x e => s _ _ e⟩
theorem LeadAt.keep {K : PySem.W.Frag} {H H' : Hp} {d : LD} {M : Addr} {φ : Heap → Prop} (h : LeadAt K H d) (m : H M = some (.ext φ)) (s : Keep M H H') : LeadAt K H' d := by
  obtain ⟨⟨dx, h1⟩, h2, h3, as, h4, h5⟩ := h
  exact ⟨⟨dx, s _ _ h1 (ne_of h1 m (fun z => by cases z))⟩, s _ _ h2 (ne_of h2 m (fun z => by cases z)), s _ _ h3 (ne_of h3 m (fun z => by cases z)), as, s _ _ h4 (ne_of h4 m (fun z => by cases z)),
    h5.mono fun a x (e : PairAt H a x) => s _ _ e (ne_of e m (fun z => by cases z))⟩
theorem inV_nat : ∀ (n : Nat) (ns : List Nat), inV (nV n) (ns.map nV) = ns.contains n := fun n ns => by
  induction ns with
  | nil => rfl
  | cons x r ih =>
    rw [List.map_cons, List.contains_cons, ← ih]
    show (((x : Int) == (n : Int)) || inV (nV n) (r.map nV)) = _
    congr 1
    by_cases h : x = n
    · subst h
      simp
    · have h2 : ¬ ((x : Int) = (n : Int)) := by omega
      have h3 : ¬ n = x := fun z => h z.symm
      rw [beq_eq_false_iff_ne.mpr h2, beq_eq_false_iff_ne.mpr h3]
theorem flat_nat (ns : List Nat) : (ns.map nV).all flatV = true := by
  rw [List.all_eq_true]
  intro x hx
  obtain ⟨n, _, rfl⟩ := List.mem_map.mp hx
  rfl
theorem open_filter (goal ns : List Nat) : decide (goal.filter (fun g => !ns.contains g) = []) = Mir.isOpen goal ns := by
  unfold Mir.isOpen
  by_cases h : (goal.all fun g => ns.contains g) = true
  · rw [h, decide_eq_true_eq, List.filter_eq_nil_iff]
    intro g hg
    have := List.all_eq_true.mp h g hg
    simpa using this
  · rw [Bool.not_eq_true] at h
    rw [h, decide_eq_false_iff_not]
    intro z
    rw [List.filter_eq_nil_iff] at z
    have : (goal.all fun g => ns.contains g) = true := List.all_eq_true.mpr fun g hg => by
      have := z g hg
      rw [Bool.not_eq_true, Bool.not_eq_false'] at this
      exact this
    rw [h] at this
    cases this
section
variable {P : Program} {w : World} {K : PySem.W.Frag} {mg : Str → Option Value} {base : Heap}
/-! left -/
def spLeft (K : PySem.W.Frag) : Sp := spOf (fun a : LD × Addr × List Nat × Mir.Kd × Nat => [.ref a.1.p, .ref a.2.1, .str (kS a.2.2.2.1), nV a.2.2.2.2])
  (fun a H => LeadAt K H a.1 ∧ LOk a.1 ∧ H a.2.1 = some (.tup (a.2.2.1.map nV)) ∧ (∀ n ∈ a.2.2.1, n < a.1.L.length) ∧ a.2.2.1.length ≤ 7 ∧ a.2.2.2.2 < a.1.st.length)
  (fun a H r H' => ∃ l, r = .ref l ∧ Same H H' ∧ H' l = some (.tup ((Mir.leftM a.1.L a.2.2.1 a.2.2.2.1 (a.1.st.getD a.2.2.2.2 (0, 0)).1).map nV)))
theorem ok_Leads_left (T : Txt K mg) : CalM P w K mg base "Leads" "left" ["self", "numbers", "kind", "place"] 5 (spLeft K) := by
  have G_member_of := ok_member_of (P := P) (w := w) (base := base) T
  have G_Last_kept := ok_Last_kept (P := P) (w := w) (base := base) T
  have G_First_kept := ok_First_kept (P := P) (w := w) (base := base) T
  have G_Limit_kept := ok_Limit_kept (P := P) (w := w) (base := base) T
  refine ⟨fn_mk T.M_Leads_left sc_Leads_left bd_Leads_left (spOf_len fun _ => rfl) (fun cdv A outer s H vs Q E hr h => ?_), T.c_Leads, T.m_Leads_left⟩
  obtain ⟨⟨d, nu, ns, kd, pl⟩, rfl, ⟨hd, ok, enu, hlt, hnl, hpl⟩, k⟩ := h
  dsimp only at hd ok enu hlt hnl hpl k
  refine ⟨_, (pss_cons (ps_set (i := 4) sc_Leads_left.nd rfl (.inl rfl) (pe_alt (pe_cm (pe_c G_member_of (hr.mono (by omega)) rfl (pa_cons (pv 2) (pa_cons (pe_ix ix_tup (pe_ix ix_list (pe_fld (pv 0) (by rfl)) (pv 3) (fun _ _ => rfl)) pe_int (fun _ _ => rfl)) pa_nil))) G_Last_kept (hr.mono (by omega)) (pa_cons (pe_lc (own := [("number", 5)]) (by rfl) sc_Leads_left.nd (pi_tup (pv 1)) (blkOk_by (own := [("number", 5)]) (N := ["self", "numbers", "kind", "place", "kept", "number", "at"]) (sc := defScope s_Leads_left) (by decide +kernel)) (fun _ _ _ _ _ => (pg_name (i := 5) sc_Leads_left.nd rfl (by first | exact Or.inl rfl | exact Or.inr rfl))) (fun _ _ _ _ _ => pts_nil) (fun _ _ _ _ _ => (pe_ix (ix_listK (K := K) rfl) (pe_fldK (K := K) rfl (pv 0) (by rfl)) (pv 5) (fun _ _ => rfl)))) pa_nil)) (pe_alt (pe_cm (pe_c G_member_of (hr.mono (by omega)) rfl (pa_cons (pv 2) (pa_cons (pe_ix ix_tup (pe_ix ix_list (pe_fld (pv 0) (by rfl)) (pv 3) (fun _ _ => rfl)) pe_int (fun _ _ => rfl)) pa_nil))) G_First_kept (hr.mono (by omega)) (pa_cons (pe_lc (own := [("number", 5)]) (by rfl) sc_Leads_left.nd (pi_tup (pv 1)) (blkOk_by (own := [("number", 5)]) (N := ["self", "numbers", "kind", "place", "kept", "number", "at"]) (sc := defScope s_Leads_left) (by decide +kernel)) (fun _ _ _ _ _ => (pg_name (i := 5) sc_Leads_left.nd rfl (by first | exact Or.inl rfl | exact Or.inr rfl))) (fun _ _ _ _ _ => pts_nil) (fun _ _ _ _ _ => (pe_ix (ix_listK (K := K) rfl) (pe_fldK (K := K) rfl (pv 0) (by rfl)) (pv 5) (fun _ _ => rfl)))) pa_nil)) (pe_cm (pe_c G_member_of (hr.mono (by omega)) rfl (pa_cons (pv 2) (pa_cons (pe_ix ix_tup (pe_ix ix_list (pe_fld (pv 0) (by rfl)) (pv 3) (fun _ _ => rfl)) pe_int (fun _ _ => rfl)) pa_nil))) G_Limit_kept (hr.mono (by omega)) (pa_cons (pe_lc (own := [("number", 5)]) (by rfl) sc_Leads_left.nd (pi_tup (pv 1)) (blkOk_by (own := [("number", 5)]) (N := ["self", "numbers", "kind", "place", "kept", "number", "at"]) (sc := defScope s_Leads_left) (by decide +kernel)) (fun _ _ _ _ _ => (pg_name (i := 5) sc_Leads_left.nd rfl (by first | exact Or.inl rfl | exact Or.inr rfl))) (fun _ _ _ _ _ => pts_nil) (fun _ _ _ _ _ => (pe_ix (ix_listK (K := K) rfl) (pe_fldK (K := K) rfl (pv 0) (by rfl)) (pv 5) (fun _ _ => rfl)))) pa_nil))))) (pss_one (ps_ret (pe_callTy call_tuple_of rfl T.z_tuple (by decide +kernel) (pa_cons (pe_lc (own := [("at", 6)]) (by rfl) sc_Leads_left.nd (pi_list (pv 4)) (blkOk_by (own := [("at", 6)]) (N := ["self", "numbers", "kind", "place", "kept", "number", "at"]) (sc := defScope s_Leads_left) (by decide +kernel)) (fun _ _ _ _ _ => (pg_name (i := 6) sc_Leads_left.nd rfl (by first | exact Or.inl rfl | exact Or.inr rfl))) (fun _ _ _ _ _ => pts_nil) (fun _ _ _ _ _ => (pe_ix (ix_tupK (K := K) rfl) (pv 1) (pv 6) (fun _ _ => rfl)))) pa_nil))))), ?_⟩
  obtain ⟨dx, eo⟩ := hd.obj
  obtain ⟨as, eR, hst⟩ := hd.sts
  have lpl : pl < as.length := by rw [hst.len]; exact hpl
  have eap : as[pl]? = some as[pl] := List.getElem?_eq_getElem lpl
  have est : d.st[pl]? = some (d.st.getD pl (0, 0)) := by rw [List.getD_eq_getElem?_getD, List.getElem?_eq_getElem hpl]; rfl
  have epr : PairAt H as[pl] (d.st.getD pl (0, 0)) := hst.at_ _ _ _ eap est
  have q1 := (ok.s1 _ (List.mem_of_getElem? est)).1
  generalize d.st.getD pl (0, 0) = pr at *
  refine kind_altG (sp := spKept K) kd ?_
  refine ⟨_, rfl, _, rfl, d.p, _, dx, _, _, rfl, eo, T.c_Leads, T.n_Leads_stretches, rfl, _, rfl, d.R, _, _, _, rfl, rfl, SqL.of eR, at_map (i := pl) rfl eap, as[pl], _, _, _, rfl, rfl, SqT.of epr, rfl, (kd, pr.1), rfl, q1, ?_⟩
  rintro _ H2 ⟨m, rfl, nm, s2, hm⟩
  obtain ⟨dm, em⟩ := id hm
  refine ⟨m, dm, _, rfl, em, rfl, ?_⟩
  have enu2 := s2 _ _ enu
  refine ⟨_, rfl, nu, rfl, ⟨_, SqT.of enu2⟩, fun D nD => lc_map (walk_tup (K := K) (xs := ns.map nV)) nD ((Mir.pick d.L ns).map (tV d.b)) (by rw [List.length_map, List.length_map, pick_len]) (by rw [List.length_map]; omega) (fun H5 z => SqT.of (z _ _ enu2)) ?_ (fun _ _ _ _ => gName_mono) ?_⟩
  · intro j x y H5 ex ey z Qe hq
    obtain ⟨n, en, rfl⟩ := get_map ex
    have ey2 : ((Mir.pick d.L ns).map (tV d.b))[j]? = some (tV d.b (d.L.getD n 0)) := map_get (pick_get en)
    obtain rfl := Option.some.inj (ey2.symm.trans ey)
    exact ⟨rfl, _, rfl, d.p, _, dx, _, _, rfl, z _ _ (s2 _ _ eo), T.c_Leads, T.n_Leads_stream, rfl, _, rfl, d.S, _, _, _, rfl, rfl, SqL.of (z _ _ (s2 _ _ hd.str)), at_map (i := n) rfl (get_of_lt (hlt n (List.mem_of_getElem? en))), hq⟩
  intro H5 s6 eD
  have kl := kept_len kd pr.1 (Mir.pick d.L ns)
  rw [pick_len] at kl
  refine ⟨(m, pr.1, D, d.b, Mir.pick d.L ns), rfl, ⟨hm.same s6, SqL.of eD, by rw [pick_len]; omega⟩, ?_⟩
  rintro _ H6 ⟨kp, rfl, nkp, s7, ekp⟩
  have s67 := (s2.trans s6).trans s7
  have enu6 := s67 _ _ enu
  refine ⟨_, rfl, kp, rfl, ⟨_, SqL.of ekp⟩, fun D2 nD2 => lc_map (walk_list (K := K) (xs := (Mir.kept kd pr.1 (Mir.pick d.L ns)).map nV)) nD2 ((Mir.leftM d.L ns kd pr.1).map nV) (by rw [List.length_map, List.length_map]; exact pick_len _ _) (by rw [List.length_map]; omega) (fun H7 z => SqL.of (z _ _ ekp)) ?_ (fun _ _ _ _ => gName_mono) ?_⟩
  · intro j x y H7 ex ey z Qe hq
    obtain ⟨n, en, rfl⟩ := get_map ex
    have ey2 : ((Mir.leftM d.L ns kd pr.1).map nV)[j]? = some (nV (ns.getD n 0)) := map_get (pick_get en)
    obtain rfl := Option.some.inj (ey2.symm.trans ey)
    have lt := kept_lt (List.mem_of_getElem? en)
    rw [pick_len] at lt
    exact ⟨rfl, _, rfl, _, rfl, nu, _, _, _, rfl, rfl, SqT.of (z _ _ enu6), at_map (i := n) rfl (get_of_lt lt), hq⟩
  · intro H7 s8 eD2
    exact ⟨D2, _, rfl, .inl ⟨SqL.of eD2, fun l nl => k _ _ ⟨l, rfl, same_new (s67.trans s8) nl, upd_same⟩⟩⟩
/-! is_open -/
def spOpen (K : PySem.W.Frag) : Sp := spOf (fun a : LD × Addr × List Nat => [.ref a.1.p, .ref a.2.1]) (fun a H => LeadAt K H a.1 ∧ LOk a.1 ∧ H a.2.1 = some (.tup (a.2.2.map nV)))
  (fun a H r H' => r = .bl (Mir.isOpen a.1.goal a.2.2) ∧ Same H H')
theorem ok_Leads_is_open (T : Txt K mg) : CalM P w K mg base "Leads" "is_open" ["self", "numbers"] 1 (spOpen K) := by
  refine ⟨fn_mk T.M_Leads_is_open sc_Leads_is_open bd_Leads_is_open (spOf_len fun _ => rfl) (fun cdv A outer s H vs Q E hr h => ?_), T.c_Leads, T.m_Leads_is_open⟩
  obtain ⟨⟨d, nu, ns⟩, rfl, ⟨hd, ok, enu⟩, k⟩ := h
  dsimp only at hd ok enu k
  refine ⟨_, (pss_one (ps_ret (pe_cmpR (op_eqD hr.units) (pe_lc (own := [("number", 2)]) (by rfl) sc_Leads_is_open.nd (pi_tup (pe_fld (pv 0) (by rfl))) (blkOk_by (own := [("number", 2)]) (N := ["self", "numbers", "number"]) (sc := defScope s_Leads_is_open) (by decide +kernel)) (fun _ _ _ _ _ => (pg_name (i := 2) sc_Leads_is_open.nd rfl (by first | exact Or.inl rfl | exact Or.inr rfl))) (fun _ _ _ _ _ => (pts_one (pt_cmpR (op_notIn_seqK (K := K) rfl) (pv 2) (pv 1) rfl))) (fun _ _ _ _ _ => (pv 2))) (pe_lst pa_nil) (nomark _)))), ?_⟩
  obtain ⟨dx, eo⟩ := hd.obj
  have egl := hd.gl
  refine ⟨_, rfl, d.p, _, dx, _, _, rfl, eo, T.c_Leads, T.n_Leads_goal, rfl, d.G, rfl, ⟨_, SqT.of egl⟩, fun D nD => lc_it (walk_tup (K := K) (xs := d.goal.map nV)) (fun i H2 => Same H H2 ∧ H2 D = some (.lst (((d.goal.take i).filter (fun g => !ns.contains g)).map nV)))
    ⟨same_upd1 nD, upd_same⟩ (fun i H2 _ z => SqT.of (z.1 _ _ egl)) ?_ ?_⟩
  · rintro i x H2 H3 hi ⟨s2, eD⟩ ⟨rfl, e1⟩
    obtain ⟨g, hg, rfl⟩ := get_map e1
    refine ⟨rfl, _, rfl, _, rfl, nu, _, rfl, .inr (SqT.of (s2 _ _ enu)), rfl, flat_nat ns, _, rfl, ?_⟩
    rw [inV_nat]
    have et : d.goal.take (i + 1) = d.goal.take i ++ [g] := by
      rw [List.take_succ, hg]
      rfl
    have ll : (d.goal.take i).length ≤ 7 := by
      rw [List.length_take]
      have := ok.gg
      omega
    have fl := List.length_filter_le (fun g => !ns.contains g) (d.goal.take i)
    cases hc : ns.contains g with
    | true =>
      refine iteF ⟨s2, ?_⟩
      rw [et, List.filter_append, eD]
      simp only [List.filter, hc, Bool.not_true, List.append_nil]
    | false =>
      refine iteT ⟨_, rfl, _, eD, len_ok (by rw [List.length_map]; omega), same_up s2 nD, ?_⟩
      rw [upd_same, et, List.filter_append]
      simp only [List.filter, hc, Bool.not_false, List.map_append]
      rfl
  · rintro H2 ⟨s2, eD⟩
    rw [List.length_map, List.take_length] at eD
    refine ⟨len_ok' (by show 0 ≤ 1000; decide), fun l nl => rd_eqL (ms := []) (SqL.of (up_old eD nl)) (SqL.of upd_same) (k _ _ ⟨?_, same_new s2 nl⟩)⟩
    rw [open_filter]
/-! init -/
def spLInit (P : Program) (w : World) (K : PySem.W.Frag) : Sp := spOf (fun a : (Addr × Addr) × (Addr × Int × List Nat) × (Addr × List Nat) × Nat => [.ref a.1.1, .ref a.2.1.1, .ref a.2.2.1.1, nV a.2.2.2])
  (fun a H => H a.1.1 = some (.ins (He.ga K "Leads") a.1.2 []) ∧ H a.2.1.1 = some (.lst (a.2.1.2.2.map (tV a.2.1.2.1))) ∧ a.2.1.2.2.Pairwise (· < ·) ∧ a.2.1.2.2.length ≤ 7 ∧ H a.2.2.1.1 = some (.lst (a.2.2.1.2.map nV)))
  (fun a H r H' => r = .non ∧ (∃ G R M, LeadAt K H' ⟨a.1.1, a.2.1.1, G, R, M, a.2.1.2.1, a.2.1.2.2, a.2.2.1.2, Mir.stretchM a.2.1.2.2 a.2.2.2⟩ ∧ H' M = some (MemO P w M []) ∧ H M = none) ∧ Keep a.1.1 H H')
theorem ok_Leads_init (T : Txt K mg) : CalI P w K mg base "Leads" ["self", "stream", "numbers", "most"] 2 (spLInit P w K) := by
  have G_stretches := ok_stretches (P := P) (w := w) (base := base) T
  refine ⟨fn_mk T.M_Leads_init sc_Leads_init bd_Leads_init (spOf_len fun _ => rfl) (fun cdv A outer s H vs Q E hr h => ?_), T.k_Leads, T.g_Leads⟩
  obtain ⟨⟨⟨p, dx⟩, ⟨S, b, L⟩, ⟨nu, ns⟩, m⟩, rfl, ⟨hp, hS, hpw, hl, hnu⟩, k⟩ := h
  dsimp only at hp hS hpw hl hnu k
  refine ⟨_, (pss_cons (ps_fld (pv 0) (pv 1) (by rfl)) (pss_cons (ps_fld (pv 0) (pe_callTy call_tuple_of rfl T.z_tuple (by decide +kernel) (pa_cons (pv 2) pa_nil)) (by rfl)) (pss_cons (ps_fld (pv 0) (pe_c G_stretches (hr.mono (by omega)) rfl (pa_cons (pv 1) (pa_cons (pv 3) pa_nil))) (by rfl)) (pss_one (ps_fld (pv 0) pe_dnewM (by rfl)))))), ?_⟩
  refine ⟨_, rfl, _, rfl, p, _, dx, [], rfl, hp, T.c_Leads, T.n_Leads_stream, (by decide), ?_⟩
  have nSp : S ≠ p := ne_of hS hp (fun z => by cases z)
  have nNp : nu ≠ p := ne_of hnu hp (fun z => by cases z)
  have k1 : Keep p H (upd H p (.ins (He.ga K "Leads") dx (putF "stream" (.ref S) []))) := keep_up (keep_of (Same.refl H))
  have e1 : (upd H p (.ins (He.ga K "Leads") dx (putF "stream" (.ref S) []))) p = some (.ins (He.ga K "Leads") dx [("stream", .ref S)]) := upd_same
  generalize upd H p (.ins (He.ga K "Leads") dx (putF "stream" (.ref S) [])) = H1 at k1 e1 ⊢
  refine ⟨_, rfl, nu, _, rfl, .inl ⟨SqL.of (k1 _ _ hnu nNp), fun G nG => ?_⟩⟩
  have nGp : G ≠ p := (ne_of_none e1 nG).symm
  have k2 : Keep p H (upd H1 G (.tup (ns.map nV))) := k1.trans (keep_of (same_upd1 nG))
  have e2 := up_old (u := .tup (ns.map nV)) e1 nG
  have g2 : (upd H1 G (.tup (ns.map nV))) G = some (.tup (ns.map nV)) := upd_same
  generalize upd H1 G (.tup (ns.map nV)) = H2 at k2 e2 g2 ⊢
  refine ⟨_, rfl, p, _, dx, _, rfl, e2, T.c_Leads, T.n_Leads_goal, (by show 1 < 1000; decide), ?_⟩
  have pf2 : putF "goal" (.ref G) [("stream", V.ref S)] = ([("stream", V.ref S), ("goal", .ref G)] : List (Str × V)) := putF_ne (by decide +kernel)
  have k3 : Keep p H (upd H2 p (.ins (He.ga K "Leads") dx (putF "goal" (.ref G) [("stream", V.ref S)]))) := keep_up k2
  have e3 : (upd H2 p (.ins (He.ga K "Leads") dx (putF "goal" (.ref G) [("stream", V.ref S)]))) p = some (.ins (He.ga K "Leads") dx [("stream", V.ref S), ("goal", .ref G)]) := by rw [upd_same, pf2]
  have g3 : (upd H2 p (.ins (He.ga K "Leads") dx (putF "goal" (.ref G) [("stream", V.ref S)]))) G = some (.tup (ns.map nV)) := by rw [upd_ne nGp]; exact g2
  generalize upd H2 p (.ins (He.ga K "Leads") dx (putF "goal" (.ref G) [("stream", V.ref S)])) = H3 at k3 e3 g3 ⊢
  refine ⟨_, rfl, _, rfl, (S, b, L, m), rfl, ⟨SqL.of (k3 _ _ hS nSp), hpw, hl⟩, ?_⟩
  rintro _ H4 ⟨R, as, rfl, s4, eR, hps⟩
  have e4 := s4 _ _ e3
  have g4 := s4 _ _ g3
  have k4 : Keep p H H4 := k3.trans (keep_of s4)
  refine ⟨_, rfl, p, _, dx, _, rfl, e4, T.c_Leads, T.n_Leads_stretches, (by show 2 < 1000; decide), ?_⟩
  have nRp : R ≠ p := ne_of eR e4 (fun z => by cases z)
  have pf3 : putF "stretches" (.ref R) [("stream", V.ref S), ("goal", .ref G)] = ([("stream", V.ref S), ("goal", .ref G), ("stretches", .ref R)] : List (Str × V)) := by
    rw [putF_ne (by decide +kernel), putF_ne (by decide +kernel)]
    rfl
  have k5 : Keep p H (upd H4 p (.ins (He.ga K "Leads") dx (putF "stretches" (.ref R) [("stream", V.ref S), ("goal", .ref G)]))) := keep_up k4
  have e5 : (upd H4 p (.ins (He.ga K "Leads") dx (putF "stretches" (.ref R) [("stream", V.ref S), ("goal", .ref G)]))) p = some (.ins (He.ga K "Leads") dx [("stream", V.ref S), ("goal", .ref G), ("stretches", .ref R)]) := by rw [upd_same, pf3]
  have g5 : (upd H4 p (.ins (He.ga K "Leads") dx (putF "stretches" (.ref R) [("stream", V.ref S), ("goal", .ref G)]))) G = some (.tup (ns.map nV)) := by rw [upd_ne nGp]; exact g4
  have r5 : (upd H4 p (.ins (He.ga K "Leads") dx (putF "stretches" (.ref R) [("stream", V.ref S), ("goal", .ref G)]))) R = some (.lst (as.map V.ref)) := by rw [upd_ne nRp]; exact eR
  have p5 : Each PairAt (upd H4 p (.ins (He.ga K "Leads") dx (putF "stretches" (.ref R) [("stream", V.ref S), ("goal", .ref G)]))) as (Mir.stretchM L m) := hps.mono fun c q (e : PairAt H4 c q) => by
    show (upd H4 p _) c = _
    rw [upd_ne (ne_of e e4 (fun z => by cases z))]
    exact e
  generalize upd H4 p (.ins (He.ga K "Leads") dx (putF "stretches" (.ref R) [("stream", V.ref S), ("goal", .ref G)])) = H5 at k5 e5 g5 r5 p5 ⊢
  intro M nM
  have nMp : M ≠ p := (ne_of_none e5 nM).symm
  have s6 : Same H5 (upd H5 M (MemO P w M [])) := same_upd1 nM
  have m6 : (upd H5 M (MemO P w M [])) M = some (MemO P w M []) := upd_same
  refine ⟨_, rfl, p, _, dx, _, rfl, s6 _ _ e5, T.c_Leads, T.n_Leads_fewest, (by show 3 < 1000; decide), ?_⟩
  have pf4 : putF "fewest" (.ref M) [("stream", V.ref S), ("goal", .ref G), ("stretches", .ref R)] = leF ⟨p, S, G, R, M, b, L, ns, Mir.stretchM L m⟩ := by
    rw [putF_ne (by decide +kernel), putF_ne (by decide +kernel), putF_ne (by decide +kernel)]
    rfl
  have up : ∀ (c : Addr) (o : HO), H5 c = some o → c ≠ p → (upd (upd H5 M (MemO P w M [])) p (.ins (He.ga K "Leads") dx (putF "fewest" (.ref M) [("stream", V.ref S), ("goal", .ref G), ("stretches", .ref R)]))) c = some o := fun c o e n => by
    rw [upd_ne n]
    exact s6 _ _ e
  refine k _ _ ⟨rfl, ⟨G, R, M, ⟨⟨dx, ?_⟩, up _ _ (k5 _ _ hS nSp) nSp, up _ _ g5 nGp, as, up _ _ r5 nRp, p5.mono fun c q (e : PairAt H5 c q) => up _ _ e (ne_of e e5 (fun z => by cases z))⟩, ?_, ?_⟩, fun c o e n => up _ _ (k5 _ _ e n) n⟩
  · show (upd _ p _) p = _
    rw [upd_same, ← pf4]
  · show (upd _ p _) M = _
    rw [upd_ne nMp]
    exact m6
  · cases e : H M with
    | none => rfl
    | some u =>
      have := k5 M u e nMp
      rw [nM] at this
      cases this
end
end Qr
set_option maxHeartbeats 4000000
namespace Qr
open PySem PySem.Spec PyProof.Rows L2
/-! increasing lists -/
theorem win_inc : ∀ {n : Nat} {s : List Nat}, s ∈ Mir.winGo n → s.Pairwise (· < ·)
  | 0, s, h => by rw [List.mem_singleton.mp h]; exact .nil
  | n + 1, s, h => by
    rcases List.mem_append.mp (show s ∈ Mir.winGo n ++ (Mir.winGo n).map fun s => s ++ [n] from h) with h | h
    · exact win_inc h
    · obtain ⟨u, hu, rfl⟩ := List.mem_map.mp h
      refine List.pairwise_append.mpr ⟨win_inc hu, by simp, fun a ha b hb => ?_⟩
      rw [List.mem_singleton.mp hb]
      exact (win_mem hu).2 a ha
theorem win_of : ∀ {n : Nat} {s : List Nat}, s.Pairwise (· < ·) → (∀ x ∈ s, x < n) → s ∈ Mir.winGo n
  | 0, s, _, h => by
    cases s with
    | nil => exact List.mem_singleton.mpr rfl
    | cons x r => exact absurd (h x List.mem_cons_self) (Nat.not_lt_zero _)
  | n + 1, s, hp, h => by
    show s ∈ Mir.winGo n ++ (Mir.winGo n).map fun s => s ++ [n]
    rcases List.eq_nil_or_concat s with rfl | ⟨t, x, e⟩
    · exact List.mem_append.mpr (.inl (win_of .nil fun x z => by cases z))
    · rw [List.concat_eq_append] at e
      subst e
      obtain ⟨h1, _, h3⟩ := List.pairwise_append.mp hp
      have hx := h x (List.mem_append.mpr (.inr List.mem_cons_self))
      by_cases c : x = n
      · subst c
        exact List.mem_append.mpr (.inr (List.mem_map.mpr ⟨t, win_of h1 fun a ha => h3 a ha x List.mem_cons_self, rfl⟩))
      · refine List.mem_append.mpr (.inl (win_of hp fun a ha => ?_))
        rcases List.mem_append.mp ha with q | q
        · have := h3 a q x List.mem_cons_self
          omega
        · rw [List.mem_singleton.mp q]
          omega
theorem win_mono {n m : Nat} {s : List Nat} (h : n ≤ m) (hs : s ∈ Mir.winGo n) : s ∈ Mir.winGo m := win_of (win_inc hs) fun x z => Nat.lt_of_lt_of_le ((win_mem hs).2 x z) h
theorem range_win (n : Nat) : List.range n ∈ Mir.winGo n := win_of List.pairwise_lt_range fun x z => List.mem_range.mp z
theorem limit_ge (q : Nat) : ∀ (L : List Nat) (i : Nat) (l : Option Nat), ∀ x ∈ Mir.kLimitGo q L i l, i ≤ x
  | [], _, _, x, h => by cases h
  | t :: r, i, none, x, h => by
    rcases List.mem_cons.mp (show x ∈ i :: Mir.kLimitGo q r (i + 1) (some t) from h) with rfl | h
    · exact Nat.le_refl _
    · have := limit_ge q r (i + 1) (some t) x h
      omega
  | t :: r, i, some l, x, h => by
    have h : x ∈ (if l + q ≤ t then i :: Mir.kLimitGo q r (i + 1) (some t) else Mir.kLimitGo q r (i + 1) (some l)) := h
    by_cases hc : l + q ≤ t
    · rw [if_pos hc] at h
      rcases List.mem_cons.mp h with rfl | h
      · exact Nat.le_refl _
      · have := limit_ge q r (i + 1) (some t) x h
        omega
    · rw [if_neg hc] at h
      have := limit_ge q r (i + 1) (some l) x h
      omega
theorem limit_inc (q : Nat) : ∀ (L : List Nat) (i : Nat) (l : Option Nat), (Mir.kLimitGo q L i l).Pairwise (· < ·)
  | [], _, _ => .nil
  | t :: r, i, none => List.pairwise_cons.mpr ⟨fun x h => limit_ge q r (i + 1) (some t) x h, limit_inc q r (i + 1) (some t)⟩
  | t :: r, i, some l => by
    show (if l + q ≤ t then i :: Mir.kLimitGo q r (i + 1) (some t) else Mir.kLimitGo q r (i + 1) (some l)).Pairwise (· < ·)
    by_cases hc : l + q ≤ t
    · rw [if_pos hc]
      exact List.pairwise_cons.mpr ⟨fun x h => limit_ge q r (i + 1) (some t) x h, limit_inc q r (i + 1) (some t)⟩
    · rw [if_neg hc]
      exact limit_inc q r (i + 1) (some l)
theorem kept_inc (k : Mir.Kd) (q : Nat) (L : List Nat) : (Mir.kept k q L).Pairwise (· < ·) := by
  cases k with
  | last => exact List.Pairwise.filter _ List.pairwise_lt_range
  | first => exact List.Pairwise.filter _ List.pairwise_lt_range
  | limit => exact limit_inc q L 0 none
theorem pick_inc {xs is : List Nat} (hx : xs.Pairwise (· < ·)) (hi : is.Pairwise (· < ·)) (hl : ∀ i ∈ is, i < xs.length) : (Mir.pick xs is).Pairwise (· < ·) := by
  unfold Mir.pick
  rw [List.pairwise_map]
  refine List.Pairwise.imp_of_mem (fun {i j} h1 h2 h => ?_) hi
  have l1 := hl i h1
  have l2 := hl j h2
  have := List.pairwise_iff_getElem.mp hx i j l1 l2 h
  rw [List.getD_eq_getElem?_getD, List.getD_eq_getElem?_getD, List.getElem?_eq_getElem l1, List.getElem?_eq_getElem l2]
  exact this
theorem left_win {n : Nat} {L ns : List Nat} (k : Mir.Kd) (q : Nat) (h : ns ∈ Mir.winGo n) : Mir.leftM L ns k q ∈ Mir.winGo n :=
  win_of (pick_inc (win_inc h) (kept_inc _ _ _) fun i hi => by
    have := kept_lt hi
    rw [pick_len] at this
    exact this) fun x hx => (win_mem h).2 x (left_mem hx)
/-! hashes apart -/
def ndB : List Int → Bool
  | [] => true
  | x :: r => r.all (fun y => !decide (x = y)) && ndB r
theorem hash_nd : ndB ((Mir.winGo 7).map tHash) = true := by decide +kernel
theorem ndB_of : ∀ {l : List Int}, ndB l = true → l.Nodup
  | [], _ => List.nodup_nil
  | x :: r, h => by
    obtain ⟨h1, h2⟩ := (Bool.and_eq_true _ _).mp (show (r.all (fun y => !decide (x = y)) && ndB r) = true from h)
    refine List.nodup_cons.mpr ⟨fun z => ?_, ndB_of h2⟩
    have := List.all_eq_true.mp h1 x z
    simp at this
theorem inj_of {α β : Type} {f : α → β} : ∀ {l : List α}, (l.map f).Nodup → ∀ a ∈ l, ∀ b ∈ l, f a = f b → a = b
  | [], _, a, h, _, _, _ => by cases h
  | x :: r, nd, a, ha, b, hb, e => by
    rw [List.map_cons, List.nodup_cons] at nd
    rcases List.mem_cons.mp ha with q | ha'
    · rcases List.mem_cons.mp hb with q2 | hb'
      · rw [q, q2]
      · exact absurd (show f x ∈ r.map f by rw [← q, e]; exact List.mem_map_of_mem hb') nd.1
    · rcases List.mem_cons.mp hb with q2 | hb'
      · exact absurd (show f x ∈ r.map f by rw [← q2, ← e]; exact List.mem_map_of_mem ha') nd.1
      · exact inj_of nd.2 a ha' b hb' e
/-! tables -/
abbrev Tab := List (List Nat × Nat)
structure TabK (n : Nat) (t : Tab) : Prop where
  nd : (t.map (·.1)).Nodup
  mem : ∀ kv ∈ t, kv.1 ∈ Mir.winGo n
theorem TabK.hash {n : Nat} {t : Tab} (h : TabK n t) (hn : n ≤ 7) : (t.map fun kv => tHash kv.1).Nodup := by
  have e : (t.map fun kv => tHash kv.1) = (t.map (·.1)).map tHash := by rw [List.map_map]; rfl
  rw [e, List.Nodup, List.pairwise_map]
  refine List.Pairwise.imp_of_mem (fun {a b} ha hb ne z => ?_) h.nd
  obtain ⟨x, hx, rfl⟩ := List.mem_map.mp ha
  obtain ⟨y, hy, rfl⟩ := List.mem_map.mp hb
  exact ne (inj_of (ndB_of hash_nd) _ (win_mono hn (h.mem x hx)) _ (win_mono hn (h.mem y hy)) z)
theorem put_len (t : Tab) (k : List Nat) (v : Nat) : (Mir.put t k v).length ≤ t.length + 1 := by
  unfold Mir.put
  split
  · rw [List.length_map]; omega
  · rw [List.length_append]; simp
theorem TabK.put {n : Nat} {t : Tab} (h : TabK n t) {k : List Nat} (hk : k ∈ Mir.winGo n) (v : Nat) : TabK n (Mir.put t k v) := by
  unfold Mir.put
  by_cases c : (t.any fun kv => decide (kv.1 = k)) = true
  · rw [if_pos c]
    refine ⟨?_, fun kv hkv => ?_⟩
    · have e : (t.map fun kv => if kv.1 = k then (kv.1, v) else kv).map (·.1) = t.map (·.1) := by
        rw [List.map_map]
        refine List.map_congr_left fun kv _ => ?_
        show (if kv.1 = k then (kv.1, v) else kv).1 = kv.1
        split <;> rfl
      rw [e]
      exact h.nd
    · obtain ⟨x, hx, rfl⟩ := List.mem_map.mp hkv
      have := h.mem x hx
      split <;> exact this
  · rw [if_neg c]
    refine ⟨?_, fun kv hkv => ?_⟩
    · rw [List.map_append, List.nodup_append]
      refine ⟨h.nd, by simp, fun a ha b hb z => c ?_⟩
      rw [List.mem_singleton.mp (show b ∈ [k] from hb)] at z
      obtain ⟨x, hx, e⟩ := List.mem_map.mp ha
      exact List.any_eq_true.mpr ⟨x, hx, decide_eq_true (e.trans z)⟩
    · rcases List.mem_append.mp hkv with q | q
      · exact h.mem kv q
      · rw [List.mem_singleton.mp q]
        exact hk
theorem valV_tE (k : List Nat) : ∀ t : Tab, valV (tE t) (nK k) = (Mir.val t k).map nV
  | [] => rfl
  | p :: r => by
    have ih := valV_tE k r
    unfold Mir.val at ih ⊢
    rw [List.find?_cons]
    by_cases e : p.1 = k
    · rw [decide_eq_true e]
      exact valV_pos (by show nK p.1 = nK k; rw [e])
    · rw [decide_eq_false e]
      exact (valV_neg (fun z => e (nK_inj z))).trans ih
theorem putK_tE (t : Tab) (k : List Nat) (v : Nat) : putK (tE t) (nK k) (nV v) = tE (Mir.put t k v) := by
  have ea : ((tE t).any fun kv => decide (kv.1 = nK k)) = t.any fun kv => decide (kv.1 = k) := by
    rw [List.any_map]
    congr 1
    funext kv
    show decide (nK kv.1 = nK k) = decide (kv.1 = k)
    by_cases e : kv.1 = k
    · rw [e]; simp
    · rw [decide_eq_false e, decide_eq_false (fun z => e (nK_inj z))]
  unfold putK Mir.put
  rw [ea]
  by_cases c : (t.any fun kv => decide (kv.1 = k)) = true
  · rw [if_pos c, if_pos c]
    unfold tE
    rw [List.map_map, List.map_map]
    refine List.map_congr_left fun kv _ => ?_
    show (if nK kv.1 = nK k then (nK kv.1, nV v) else (nK kv.1, nV kv.2)) = _
    by_cases e : kv.1 = k
    · rw [if_pos (by rw [e])]
      show _ = (nK (if kv.1 = k then (kv.1, v) else kv).1, nV (if kv.1 = k then (kv.1, v) else kv).2)
      rw [if_pos e]
    · rw [if_neg (fun z => e (nK_inj z))]
      show _ = (nK (if kv.1 = k then (kv.1, v) else kv).1, nV (if kv.1 = k then (kv.1, v) else kv).2)
      rw [if_neg e]
  · rw [if_neg c, if_neg c]
    unfold tE
    rw [List.map_append]
    rfl
theorem walk_itti {d : Addr} {o : Obj} {kvs : Tab} : Walk (Itti d o kvs) kvs.length (fun H => H d = some (.frz o (.dT (tE kvs)))) (fun i H x H' => ∃ T k n q, kvs[i]? = some (k, n) ∧ x = .ref T ∧ H T = none ∧ H q = some (.tup (k.map nV)) ∧ H' = upd H T (.tup [.ref q, nV n])) :=
  ⟨fun _ _ hi h => ⟨h, hi⟩, fun _ h => ⟨h, Nat.le_refl _⟩, fun _ _ _ _ _ _ y => y⟩
theorem ways_eq {p : Nat × Nat} (h : p.1 ≤ p.2) : ((1 * 2 ^ (2 * ((p.2 : Int) - (p.1 : Int) + 1)).toNat - 1) / 3 : Int) = ((Mir.waysOf p : Nat) : Int) := by
  unfold Mir.waysOf
  have e : (2 * ((p.2 : Int) - (p.1 : Int) + 1)).toNat = 2 * (p.2 - p.1 + 1) := by omega
  rw [e]
  have h1 : 1 ≤ 1 * 2 ^ (2 * (p.2 - p.1 + 1)) := by rw [Nat.one_mul]; exact Nat.one_le_two_pow
  generalize 2 * (p.2 - p.1 + 1) = z at *
  have e2 : ((1 : Int) * 2 ^ z) = ((1 * 2 ^ z : Nat) : Int) := by simp
  rw [e2]
  generalize 1 * 2 ^ z = y at *
  omega
theorem ways_le {p : Nat × Nat} (h : p.2 ≤ 4) (h1 : 1 ≤ p.1) : Mir.waysOf p < 1000 := by
  unfold Mir.waysOf
  have : 2 * (p.2 - p.1 + 1) ≤ 8 := by omega
  have := Nat.pow_le_pow_right (n := 2) (by decide) this
  omega
theorem kinds_at {K : PySem.W.Frag} {mg : Str → Option Value} (T : Txt K mg) (H : Hp) : SqT K H (He.ga K "KINDS") (Mir.KS.map fun k => V.str (kS k)) := He.tupB_ok T.x0 H
def waysS (L goal : List Nat) (st : List (Nat × Nat)) : Nat := (Mir.val (st.foldl (Mir.stepStr L goal) [(List.range L.length, 1)]) goal).getD 0
section
variable {P : Program} {w : World} {K : PySem.W.Frag} {mg : Str → Option Value} {base : Heap}
def spWays (K : PySem.W.Frag) : Sp := spOf (fun d : LD => [.ref d.p]) (fun d H => LeadAt K H d ∧ LOk d) (fun d H r H' => r = nV (waysS d.L d.goal d.st) ∧ Same H H')
theorem ok_Leads_ways_to_goal (T : Txt K mg) : CalM P w K mg base "Leads" "ways_to_goal" ["self"] 6 (spWays K) := by
  have G_Leads_left := ok_Leads_left (P := P) (w := w) (base := base) T
  have G_Leads_is_open := ok_Leads_is_open (P := P) (w := w) (base := base) T
  refine ⟨fn_mk T.M_Leads_ways_to_goal sc_Leads_ways_to_goal bd_Leads_ways_to_goal (spOf_len fun _ => rfl) (fun cdv A outer s H vs Q E hr h => ?_), T.c_Leads, T.m_Leads_ways_to_goal⟩
  obtain ⟨d, rfl, ⟨hd, ok⟩, k⟩ := h
  have hu := hu_of hr
  have hu2 : (A.deeper (envOfC "Leads.ways_to_goal" (defScope s_Leads_ways_to_goal) s.heap.objs.size (He.ma K (He.ga K "Leads") "ways_to_goal") cdv)).units + 2 < cLine := Nat.lt_of_le_of_lt (Nat.add_le_add_left (by decide : 2 ≤ 64) _) hr.units
  refine ⟨_, (pss_cons (ps_set (i := 1) sc_Leads_ways_to_goal.nd rfl (.inl rfl) (pe_dispT hu (pe_tupRg rfl rfl T.z_tuple (prg_1 rfl T.z_range (pe_callB call_len_seq rfl T.z_len (by decide +kernel) (pa_cons (pe_fld (pv 0) (by rfl)) pa_nil)))) pe_int)) (pss_cons (ps_for PassesOwn.never rfl (pi_enum rfl T.z_enumerate (pa_cons (pe_fld (pv 0) (by rfl)) pa_nil)) (pg_tup rfl (pgs_cons (pg_name (i := 2) sc_Leads_ways_to_goal.nd rfl (.inl rfl)) (pgs_cons (pg_tup rfl (pgs_cons (pg_name (i := 3) sc_Leads_ways_to_goal.nd rfl (.inl rfl)) (pgs_cons (pg_name (i := 4) sc_Leads_ways_to_goal.nd rfl (.inl rfl)) pgs_nil))) pgs_nil))) (pss_cons (ps_par (i := 5) (j := 6) rfl sc_Leads_ways_to_goal.nd rfl rfl (by decide) rfl rfl (pa_cons (pe_op op_fdiv (pe_op op_sub (pe_op op_shl pe_int (pe_op op_mul pe_int (pe_op op_add (pe_op op_sub (pv 4) (pv 3)) pe_int))) pe_int) pe_int) (pa_cons (pe_callTy (cr_dictT hu2) rfl T.z_dict (by decide +kernel) (pa_cons (pv 1) pa_nil)) pa_nil)) rfl) (pss_cons (ps_lock (ps_for PassesOwn.never rfl (pi_itemsT (pv 1)) (pg_tup rfl (pgs_cons (pg_name (i := 7) sc_Leads_ways_to_goal.nd rfl (.inl rfl)) (pgs_cons (pg_name (i := 8) sc_Leads_ways_to_goal.nd rfl (.inl rfl)) pgs_nil))) (pss_one (ps_for PassesOwn.never rfl (pi_tup (pe_glob (v := .ref (He.ga K "KINDS")) rfl T.g_KINDS rfl)) (pg_name (i := 9) sc_Leads_ways_to_goal.nd rfl (.inl rfl)) (pss_cons (ps_set (i := 10) sc_Leads_ways_to_goal.nd rfl (.inl rfl) (pe_cm (pv 0) G_Leads_left (hr.mono (by omega)) (pa_cons (pv 7) (pa_cons (pv 9) (pa_cons (pv 2) pa_nil))))) (pss_one (ps_if (pt_val (pe_cm (pv 0) G_Leads_is_open (hr.mono (by omega)) (pa_cons (pv 10) pa_nil))) (pss_one (ps_dput hu (pv 6) (pv 10) (pe_op op_add (pe_dget2 hu (pv 6) (pv 10) pe_int ⟨rfl, rfl, rfl, rfl⟩) (pe_op op_mul (pv 8) (pv 5))) (by rfl))) pss_nil))))))) (pss_one (ps_set (i := 1) sc_Leads_ways_to_goal.nd rfl (.inl rfl) (pv 6)))))) (pss_one (ps_ret (pe_dget2 hu (pv 1) (pe_fld (pv 0) (by rfl)) pe_int ⟨rfl, rfl, rfl, rfl⟩))))), ?_⟩
  obtain ⟨dx, eo⟩ := hd.obj
  obtain ⟨as, eR, hst⟩ := hd.sts
  have eS := hd.str
  have hn := ok.ll
  have rgl : RgOk 0 ((d.L.map (tV d.b)).length : Int) := by
    rw [List.length_map]
    exact rgOk_nat (by omega)
  intro t0 nt0
  have s1 : Same H (upd H t0 (.dT [])) := same_upd1 nt0
  have et0 : (upd H t0 (.dT [])) t0 = some (.dT []) := upd_same
  generalize upd H t0 (.dT []) = H1 at s1 et0 ⊢
  refine ⟨_, rfl, d.p, _, dx, _, _, rfl, s1 _ _ eo, T.c_Leads, T.n_Leads_stream, rfl, d.S, _, rfl, .inl (SqL.of (s1 _ _ eS)), _, rfl, rgl, fun rt nrt => ?_⟩
  rw [List.length_map, rgV_nat]
  have s2 := same_new (u := .tup ((List.range d.L.length).map nV)) s1 nrt
  refine ⟨rt, List.range d.L.length, 1, rfl, rfl, up_old et0 nrt, upd_same, ?_⟩
  have s3 : Same H (upd (upd H1 rt (.tup ((List.range d.L.length).map nV))) t0 (.dT (tE [(List.range d.L.length, 1)]))) := same_up s2 nt0
  have et3 : (upd (upd H1 rt (.tup ((List.range d.L.length).map nV))) t0 (.dT (tE [(List.range d.L.length, 1)]))) t0 = some (.dT (tE [(List.range d.L.length, 1)])) := upd_same
  generalize upd (upd H1 rt (.tup ((List.range d.L.length).map nV))) t0 (.dT (tE [(List.range d.L.length, 1)])) = H3 at s3 et3 ⊢
  have tk0 : TabK d.L.length [(List.range d.L.length, 1)] := ⟨by simp, fun kv h => by rw [List.mem_singleton.mp h]; exact range_win _⟩
  refine ⟨_, rfl, d.p, _, dx, _, _, rfl, s3 _ _ eo, T.c_Leads, T.n_Leads_stretches, rfl, d.R, as.map V.ref, rfl, SqL.of (s3 _ _ eR), for_it (walk_enum (K := K) (xs := as.map V.ref))
    (fun i σ H2 => ∃ (tb : Addr) (t : Tab) (y2 y3 y4 y5 y6 y7 y8 y9 y10 : Option V), σ = [some (.ref d.p), some (.ref tb), y2, y3, y4, y5, y6, y7, y8, y9, y10] ∧ Same H H2 ∧ H tb = none ∧ H2 tb = some (.dT (tE t)) ∧ t = (d.st.take i).foldl (Mir.stepStr d.L d.goal) [(List.range d.L.length, 1)] ∧ TabK d.L.length t ∧ t.length ≤ 4 ^ i)
    ⟨t0, _, none, none, none, none, none, none, none, none, none, rfl, s3, nt0, et3, rfl, tk0, Nat.le_refl _⟩ (fun i σ H2 _ z => by
      obtain ⟨_, _, _, _, _, _, _, _, _, _, _, _, z, _⟩ := z
      exact SqL.of (z _ _ eR)) ?_ ?_⟩
  · rintro i x σ H4 H5 hi ⟨tb, t, y2, y3, y4, y5, y6, y7, y8, y9, y10, rfl, s4, ntb, etb, ht, tk, tl⟩ ⟨T1, x1, x2, rfl, n1, rfl, e1, e2⟩
    obtain rfl := Option.some.inj e1
    obtain ⟨ap, eap, rfl⟩ := get_map e2
    obtain ⟨p, ep, hpr⟩ := hst.get eap
    have il : i < d.st.length := lt_of_get ep
    have i3 : i < 3 := by have := ok.sl; omega
    have egd : d.st.getD i (0, 0) = p := by rw [List.getD_eq_getElem?_getD, ep]; rfl
    obtain ⟨q1, q2, q3⟩ := ok.s1 p (List.mem_of_getElem? ep)
    have tl64 : t.length ≤ 16 := by
      have := Nat.pow_le_pow_right (n := 4) (by decide) (show i ≤ 2 by omega)
      omega
    have s5 := same_new (u := .tup [V.int (i : Nat), V.ref ap]) s4 n1
    have etb5 := up_old (u := .tup [V.int (i : Nat), V.ref ap]) etb n1
    have eT5 : (upd H4 T1 (.tup [V.int (i : Nat), V.ref ap])) T1 = some (.tup [V.int (i : Nat), V.ref ap]) := upd_same
    generalize upd H4 T1 (.tup [V.int (i : Nat), V.ref ap]) = H5 at s5 etb5 eT5 ⊢
    refine ⟨T1, _, rfl, SqT.of eT5, rfl, _, _, rfl, _, _, rfl, ap, _, rfl, SqT.of (s5 _ _ hpr), rfl, _, _, rfl, _, _, rfl, rfl, rfl, ?_⟩
    refine ⟨_, rfl, _, rfl, _, _, rfl, rfl, _, _, rfl, rfl, _, _, rfl, rfl, .inl ⟨by decide, by decide⟩, _, _, rfl, rfl, ⟨by omega, by omega, by decide⟩, _, _, rfl, rfl, _, _, rfl, rfl, ⟨by decide, by decide⟩, ?_⟩
    refine ⟨_, rfl, tb, t, rfl, .inl etb5, tk.hash hn, fun bh nbh => ⟨_, _, rfl, ?_⟩⟩
    dsimp only
    rw [ways_eq q2]
    have wl := ways_le q3 q1
    have nbt : bh ≠ tb := (ne_of_none etb5 nbh).symm
    have nbH : H bh = none := s5.free nbh
    have s6 := same_new (u := .dT (tE t)) s5 nbh
    have etb6 := up_old (u := .dT (tE t)) etb5 nbh
    have ebh6 : (upd H5 bh (.dT (tE t))) bh = some (.dT (tE t)) := upd_same
    generalize upd H5 bh (.dT (tE t)) = H6 at s6 etb6 ebh6 ⊢
    refine ⟨tb, _, etb6, True.intro, fun od => ?_⟩
    have s7 : Same H (upd H6 tb (.frz od (.dT (tE t)))) := same_up s6 ntb
    have etb7 : (upd H6 tb (.frz od (.dT (tE t)))) tb = some (.frz od (.dT (tE t))) := upd_same
    have ebh7 : (upd H6 tb (.frz od (.dT (tE t)))) bh = some (.dT (tE t)) := by rw [upd_ne nbt]; exact ebh6
    generalize upd H6 tb (.frz od (.dT (tE t))) = H7 at s7 etb7 ebh7 ⊢
    refine ⟨_, rfl, tb, od, t, rfl, etb7, for_it walk_itti
      (fun j σ H8 => ∃ (cur : Tab) (y7 y8 y9 y10 : Option V), σ = [some (.ref d.p), some (.ref tb), some (nV i), some (nV p.1), some (nV p.2), some (nV (Mir.waysOf p)), some (.ref bh), y7, y8, y9, y10] ∧ Same H H8 ∧ H8 tb = some (.frz od (.dT (tE t))) ∧ H8 bh = some (.dT (tE cur)) ∧
        cur = (t.take j).foldl (Mir.stepEnt d.L d.goal p) t ∧ TabK d.L.length cur ∧ cur.length ≤ t.length + 3 * j)
      ⟨t, y7, y8, y9, y10, rfl, s7, etb7, ebh7, rfl, tk, Nat.le_refl _⟩ (fun j σ H8 _ z => by
        obtain ⟨_, _, _, _, _, _, _, z, _⟩ := z
        exact z) ?_ ?_⟩
    · rintro j y σ H8 H9 hj ⟨cur, y7, y8, y9, y10, rfl, s8, etb8, ebh8, hcur, ck, cl⟩ ⟨T2, kk, nn, q, ekn, rfl, n2, eq, rfl⟩
      have hkk := tk.mem (kk, nn) (List.mem_of_getElem? ekn)
      dsimp only at hkk
      have kkl := (win_mem hkk).1
      have s9 := same_new (u := .tup [V.ref q, nV nn]) s8 n2
      have etb9 := up_old (u := .tup [V.ref q, nV nn]) etb8 n2
      have ebh9 := up_old (u := .tup [V.ref q, nV nn]) ebh8 n2
      have eq9 := up_old (u := .tup [V.ref q, nV nn]) eq n2
      have eT9 : (upd H8 T2 (.tup [V.ref q, nV nn])) T2 = some (.tup [V.ref q, nV nn]) := upd_same
      generalize upd H8 T2 (.tup [V.ref q, nV nn]) = H9 at s9 etb9 ebh9 eq9 eT9 ⊢
      refine ⟨T2, _, rfl, SqT.of eT9, rfl, _, _, rfl, _, _, rfl, rfl, ?_⟩
      refine ⟨He.ga K "KINDS", rfl, ⟨_, kinds_at T _⟩, for_it (walk_tup (K := K) (xs := Mir.KS.map fun k => V.str (kS k)))
        (fun u σ Ha => ∃ (cu : Tab) (y9 y10 : Option V), σ = [some (.ref d.p), some (.ref tb), some (nV i), some (nV p.1), some (nV p.2), some (nV (Mir.waysOf p)), some (.ref bh), some (.ref q), some (nV nn), y9, y10] ∧ Same H Ha ∧ Ha tb = some (.frz od (.dT (tE t))) ∧ Ha bh = some (.dT (tE cu)) ∧
          Ha q = some (.tup (kk.map nV)) ∧ cu = (Mir.KS.take u).foldl (Mir.stepKind d.L d.goal kk nn (Mir.waysOf p) p.1) cur ∧ TabK d.L.length cu ∧ cu.length ≤ cur.length + u)
        ⟨cur, y9, y10, rfl, s9, etb9, ebh9, eq9, rfl, ck, Nat.le_refl _⟩ (fun _ _ Ha _ _ => kinds_at T Ha) ?_ ?_⟩
      · rintro u y σ Ha Hb hu' ⟨cu, y9, y10, rfl, sa, etba, ebha, eqa, hcu, cuk, cul⟩ ⟨rfl, e1⟩
        obtain ⟨kd, ekd, rfl⟩ := get_map e1
        have u3 : u < 3 := lt_of_get ekd
        have hda := hd.same sa
        refine ⟨_, rfl, d.p, dx, _, rfl, sa _ _ eo, rfl, _, rfl, _, rfl, _, rfl, (d, q, kk, kd, i), rfl, ⟨hda, ok, eqa, (win_mem hkk).2, (by show kk.length ≤ 7; omega), il⟩, ?_⟩
        rintro _ Hc ⟨l, rfl, sc, elc⟩
        dsimp only at elc
        rw [egd] at elc
        have sac := sa.trans sc
        refine ⟨_, rfl, d.p, dx, _, rfl, sac _ _ eo, rfl, _, rfl, (d, l, Mir.leftM d.L kk kd p.1), rfl, ⟨hd.same sac, ok, elc⟩, ?_⟩
        rintro _ Hd ⟨rfl, sd⟩
        have sad := sac.trans sd
        have etbd := (sc.trans sd) _ _ etba
        have ebhd := (sc.trans sd) _ _ ebha
        have eqd := (sc.trans sd) _ _ eqa
        have eld := sd _ _ elc
        have lfw := left_win kd p.1 (L := d.L) hkk
        refine ⟨_, rfl, ?_⟩
        have step : (Mir.KS.take (u + 1)).foldl (Mir.stepKind d.L d.goal kk nn (Mir.waysOf p) p.1) cur = Mir.stepKind d.L d.goal kk nn (Mir.waysOf p) p.1 cu kd := by rw [foldl_take _ _ ekd, hcu]
        generalize hlf : Mir.leftM d.L kk kd p.1 = lf at *
        cases hop : Mir.isOpen d.goal lf with
        | true =>
          refine iteT ?_
          have hv : (valV (tE cu) (nK lf)).getD (V.int 0) = nV ((Mir.val cu lf).getD 0) := by
            rw [valV_tE]
            cases Mir.val cu lf <;> rfl
          refine ⟨_, rfl, bh, rfl, .inr ⟨_, .inl ebhd⟩, _, rfl, _, DGet.t (k := nK lf) ebhd (by rw [nK_kV]; exact eld), _, rfl, _, rfl, _, _, rfl, rfl, .inr ⟨by omega, by omega⟩, _, _, hv, rfl, _, rfl, _, rfl, bh, _, rfl, DPut.t (k := nK lf) ebhd (by rw [nK_kV]; exact eld) (len_ok (by rw [List.length_map]; omega)), ?_⟩
          have ev : V.int (((Mir.val cu lf).getD 0 : Nat) + ((nn : Int) * (Mir.waysOf p : Nat))) = nV ((Mir.val cu lf).getD 0 + nn * Mir.waysOf p) := by
            show V.int _ = V.int _
            rw [Int.natCast_add, Int.natCast_mul]
          dsimp only
          rw [ev, putK_tE]
          refine ⟨_, _, _, rfl, same_up sad nbH, by rw [upd_ne nbt.symm]; exact etbd, upd_same, ?_, ?_, cuk.put lfw _, ?_⟩
          · rw [upd_ne (ne_of eqd ebhd (fun z => by cases z))]
            exact eqd
          · rw [step]
            unfold Mir.stepKind
            rw [hlf, if_pos hop]
          · have := put_len cu lf ((Mir.val cu lf).getD 0 + nn * Mir.waysOf p)
            omega
        | false =>
          refine iteF ⟨cu, _, _, rfl, sad, etbd, ebhd, eqd, ?_, cuk, by omega⟩
          rw [step]
          unfold Mir.stepKind
          rw [hlf, if_neg (by rw [hop]; exact Bool.false_ne_true)]
      · rintro σ Ha ⟨cu, y9, y10, rfl, sa, etba, ebha, eqa, hcu, cuk, cul⟩
        refine ⟨cu, _, _, _, _, rfl, sa, etba, ebha, ?_, cuk, ?_⟩
        · rw [foldl_take _ _ ekn, ← hcur, hcu]
          rfl
        · rw [show (Mir.KS.map fun k => V.str (kS k)).length = 3 from rfl] at cul
          omega
    · rintro σ H8 ⟨cur, y7, y8, y9, y10, rfl, s8, etb8, ebh8, hcur, ck, cl⟩
      rw [List.take_length] at hcur
      refine ⟨etb8, _, rfl, bh, cur, _, _, _, _, _, _, _, _, _, rfl, same_up s8 ntb, nbH, ?_, ?_, ck, ?_⟩
      · rw [upd_ne nbt]
        exact ebh8
      · rw [foldl_take _ _ ep, ← ht, hcur]
        rfl
      · rw [Nat.pow_succ]
        omega
  · rintro σ H4 ⟨tb, t, y2, y3, y4, y5, y6, y7, y8, y9, y10, rfl, s4, ntb, etb, ht, tk, tl⟩
    rw [List.length_map, hst.len, List.take_length] at ht
    refine ⟨_, rfl, tb, rfl, .inr ⟨_, .inl etb⟩, _, rfl, d.p, _, dx, _, _, rfl, s4 _ _ eo, T.c_Leads, T.n_Leads_goal, rfl, _, DGet.t (k := nK d.goal) etb (by rw [nK_kV]; exact s4 _ _ hd.gl), k _ _ ⟨?_, s4⟩⟩
    rw [valV_tE]
    unfold waysS
    rw [← ht]
    cases Mir.val t d.goal <;> rfl
end
end Qr
set_option maxHeartbeats 4000000
namespace Qr
open PySem PySem.Spec PyProof.Rows L2
theorem nd_le {α : Type} [DecidableEq α] : ∀ {l m : List α}, l.Nodup → (∀ x ∈ l, x ∈ m) → l.length ≤ m.length
  | [], _, _, _ => Nat.zero_le _
  | x :: l, m, nd, h => by
    rw [List.nodup_cons] at nd
    have hx := h x List.mem_cons_self
    have := nd_le (m := m.erase x) nd.2 fun y hy => (List.mem_erase_of_ne (fun z => nd.1 (by rw [← z]; exact hy))).mpr (h y (List.mem_cons_of_mem _ hy))
    rw [List.length_erase_of_mem hx] at this
    have : 0 < m.length := List.length_pos_of_mem hx
    rw [List.length_cons]
    omega
theorem foldl_min : ∀ (r : List Nat) (x : Nat), (r.foldl min x ∈ x :: r) ∧ ∀ a ∈ x :: r, r.foldl min x ≤ a
  | [], x => ⟨List.mem_cons_self, fun a ha => by rw [List.mem_singleton.mp ha]; exact Nat.le_refl _⟩
  | y :: r, x => by
    obtain ⟨h1, h2⟩ := foldl_min r (min x y)
    refine ⟨?_, fun a ha => ?_⟩
    · rcases List.mem_cons.mp h1 with e | e
      · show r.foldl min (min x y) ∈ _
        rw [e]
        by_cases c : x ≤ y
        · rw [Nat.min_eq_left c]; exact List.mem_cons_self
        · rw [Nat.min_eq_right (by omega)]; exact List.mem_cons_of_mem _ List.mem_cons_self
      · exact List.mem_cons_of_mem _ (List.mem_cons_of_mem _ e)
    · have hm := h2 (min x y) List.mem_cons_self
      show r.foldl min (min x y) ≤ a
      rcases List.mem_cons.mp ha with rfl | ha
      · omega
      · rcases List.mem_cons.mp ha with rfl | ha
        · omega
        · exact h2 a (List.mem_cons_of_mem _ ha)
theorem minO_eq {xs : List (Option Nat)} {m : Nat} (h : m ∈ xs.filterMap id) (hl : ∀ a ∈ xs.filterMap id, m ≤ a) : Mir.minO xs = some m := by
  unfold Mir.minO
  cases e : xs.filterMap id with
  | nil => rw [e] at h; cases h
  | cons x r =>
    rw [e] at h hl
    obtain ⟨h1, h2⟩ := foldl_min r x
    have a := hl _ h1
    have b := h2 m h
    show some _ = some _
    congr 1
    omega
theorem minO_none {xs : List (Option Nat)} (h : xs.filterMap id = []) : Mir.minO xs = none := by
  unfold Mir.minO
  rw [h]
/-! the memo -/
structure MemI (P : Program) (w : World) (H : Hp) (d : LD) (E : List MEnt) : Prop where
  at_ : H d.M = some (MemO P w d.M E)
  tups : MemT H E
  nd : (E.map (·.1)).Nodup
  vals : ∀ e ∈ E, e.1.1 ∈ Mir.winGo d.L.length ∧ e.1.2 < d.st.length ∧ e.2.2 = Mir.needM d.L d.goal (d.st.drop e.1.2) e.1.1
theorem MemI.len {P : Program} {w : World} {H : Hp} {d : LD} {E : List MEnt} (h : MemI P w H d E) (ok : LOk d) : E.length ≤ 1000 := by
  have := nd_le (m := ((Mir.winGo 7).map fun s => (List.range 3).map fun i => (s, i)).flatten) h.nd fun x hx => by
    obtain ⟨e, he, rfl⟩ := List.mem_map.mp hx
    obtain ⟨h1, h2, _⟩ := h.vals e he
    refine List.mem_flatten.mpr ⟨_, List.mem_map.mpr ⟨e.1.1, win_mono ok.ll h1, rfl⟩, List.mem_map.mpr ⟨e.1.2, List.mem_range.mpr ?_, rfl⟩⟩
    have := ok.sl
    omega
  have e : (((Mir.winGo 7).map fun s => (List.range 3).map fun i => (s, i)).flatten).length = 384 := by decide +kernel
  rw [e, List.length_map] at this
  omega
theorem MemI.same {P : Program} {w : World} {H H' : Hp} {d : LD} {E : List MEnt} (h : MemI P w H d E) (s : Same H H') : MemI P w H' d E := ⟨s _ _ h.at_, h.tups.sameT fun b xs e => s _ _ e, h.nd, h.vals⟩
theorem keep_tup {M : Addr} {H H' : Hp} {φ : Heap → Prop} (m : H M = some (.ext φ)) (s : Keep M H H') : ∀ b xs, H b = some (.tup xs) → H' b = some (.tup xs) := fun b xs e => s _ _ e (ne_of e m (fun z => by cases z))
theorem Keep.free {M : Addr} {H H' : Hp} {o : HO} {b : Addr} (s : Keep M H H') (m : H' M = some o) (n : H' b = none) : H b = none := by
  cases e : H b with
  | none => rfl
  | some u =>
    have := s b u e (ne_of_none m n).symm
    rw [n] at this
    cases this
theorem app_more {K : PySem.W.Frag} {D : Ends} {σ : L2.St} {H : Hp} {fo : Addr} {xs : List V} {x : Option Nat} (h3 : σ[3]? = some (some (.ref fo))) (h6 : σ[6]? = some (some (oV x))) (e : H fo = some (.lst xs)) (hl : xs.length ≤ 1000) (h : D.nx σ (upd H fo (.lst (xs ++ [oV (x.map (· + 1))])))) :
    tDrop (tBM K "list" rAppend (tVar 3) (tCons (tIf (tB (tIsN (tVar 6))) (tC V.non) (tOp (rI0 fun i j => V.int (i + j)) (tVar 6) (tC (V.int 1)))) tNil)) D σ H := by
  refine ⟨_, h3, .inl ⟨rfl, _, SqL.of e⟩, _, h6, _, rfl, ?_⟩
  cases x with
  | none => exact iteT ⟨fo, _, _, rfl, rfl, e, len_ok hl, h⟩
  | some n => exact iteF ⟨_, h6, _, _, rfl, rfl, fo, _, _, rfl, rfl, e, len_ok hl, h⟩
def argsN (d : LD) (r : List (Nat × Nat)) (ns : List Nat) (q : Nat) : List (Option Nat) := Mir.needM d.L d.goal r ns :: Mir.KS.map fun k => if Mir.leftM d.L ns k q = ns then none else (Mir.needM d.L d.goal r (Mir.leftM d.L ns k q)).map (· + 1)
section
variable {P : Program} {w : World} {K : PySem.W.Frag} {mg : Str → Option Value} {base : Heap}
def spNeed (P : Program) (w : World) (K : PySem.W.Frag) (r : Nat) : Sp := spOf (fun a : LD × Addr × List Nat × Nat × List MEnt => [.ref a.1.p, .ref a.2.1, nV a.2.2.2.1])
  (fun a H => LeadAt K H a.1 ∧ LOk a.1 ∧ H a.2.1 = some (.tup (a.2.2.1.map nV)) ∧ a.2.2.1 ∈ Mir.winGo a.1.L.length ∧ a.2.2.2.1 ≤ a.1.st.length ∧ a.1.st.length < a.2.2.2.1 + r ∧ MemI P w H a.1 a.2.2.2.2)
  (fun a H r H' => r = oV (Mir.needM a.1.L a.1.goal (a.1.st.drop a.2.2.2.1) a.2.2.1) ∧ Keep a.1.M H H' ∧ ∃ E', MemI P w H' a.1 E' ∧ ∀ e ∈ E', e ∈ a.2.2.2.2 ∨ a.2.2.2.1 ≤ e.1.2)
theorem ok_Leads_need (T : Txt K mg) : ∀ r : Nat, CalM P w K mg base "Leads" "need" ["self", "numbers", "place"] (r + 6) (spNeed P w K r)
  | 0 => ⟨fn_mk T.M_Leads_need sc_Leads_need bd_Leads_need (spOf_len fun _ => rfl) (fun cdv A outer s H vs Q E hr h => by
      obtain ⟨a, _, ⟨_, _, _, _, h1, h2, _⟩, _⟩ := h
      omega), T.c_Leads, T.m_Leads_need⟩
  | r + 1 => by
    show CalM P w K mg base "Leads" "need" ["self", "numbers", "place"] (r + 6 + 1) (spNeed P w K (r + 1))
    have G_Leads_left := ok_Leads_left (P := P) (w := w) (base := base) T
    have G_Leads_is_open := ok_Leads_is_open (P := P) (w := w) (base := base) T
    have G_Leads_need := ok_Leads_need T r
    refine ⟨fn_mk T.M_Leads_need sc_Leads_need bd_Leads_need (spOf_len fun _ => rfl) (fun cdv A outer s H vs Q E hr h => ?_), T.c_Leads, T.m_Leads_need⟩
    obtain ⟨⟨d, nu, ns, pl, Em⟩, rfl, ⟨hd, ok, enu, hns, hpl, hplr, hM⟩, k⟩ := h
    dsimp only at hd ok enu hns hpl hplr hM k
    have hu9 : (A.deeper (envOfC "Leads.need" (defScope s_Leads_need) s.heap.objs.size (He.ma K (He.ga K "Leads") "need") cdv)).units + 9 < cLine := Nat.lt_of_le_of_lt (Nat.add_le_add_left (by decide : 9 ≤ 64) _) hr.units
    refine ⟨_, (pss_cons (ps_if (pt_cmpR (op_eqD hr.units) (pv 1) (pe_fld (pv 0) (by rfl)) (nomark _)) (pss_one (ps_ret pe_int)) pss_nil) (pss_cons (ps_if (PW.pt (pw_or (pt_cmpR op_eq (pv 2) (pe_callB call_len_seq rfl T.z_len (by decide +kernel) (pa_cons (pe_fld (pv 0) (by rfl)) pa_nil)) (nomark _)) (pw_or1 (pt_not (pt_val (pe_cm (pv 0) G_Leads_is_open (hr.mono (by omega)) (pa_cons (pv 1) pa_nil))))))) (pss_one (ps_ret pe_non)) pss_nil) (pss_cons (ps_if (pt_cmpR (op_notInM hu9) (pe_tup (pa_cons (pv 1) (pa_cons (pv 2) pa_nil))) (pe_fld (pv 0) (by rfl)) rfl) (pss_cons (ps_set (i := 3) sc_Leads_need.nd rfl (.inl rfl) (pe_lst (pa_cons (pe_cm (pv 0) G_Leads_need (hr.mono (by omega)) (pa_cons (pv 1) (pa_cons (pe_op op_add (pv 2) pe_int) pa_nil))) pa_nil))) (pss_cons (ps_for PassesOwn.never rfl (pi_tup (pe_glob (v := .ref (He.ga K "KINDS")) rfl T.g_KINDS rfl)) (pg_name (i := 4) sc_Leads_need.nd rfl (.inl rfl)) (pss_cons (ps_set (i := 5) sc_Leads_need.nd rfl (.inl rfl) (pe_cm (pv 0) G_Leads_left (hr.mono (by omega)) (pa_cons (pv 1) (pa_cons (pv 4) (pa_cons (pv 2) pa_nil))))) (pss_cons (ps_set (i := 6) sc_Leads_need.nd rfl (.inl rfl) (pe_ifExp (pt_cmpR (op_neD hr.units) (pv 5) (pv 1) (nomark _)) (pe_cm (pv 0) G_Leads_need (hr.mono (by omega)) (pa_cons (pv 5) (pa_cons (pe_op op_add (pv 2) pe_int) pa_nil))) pe_non)) (pss_one (ps_expr (pe_bm PySem.F.plainAttrs_list PySem.F.slot_list_append PySem.F.type_list_append mt_append (pv 3) (pa_cons (pe_ifExp (pt_cmp (pc_isN (pv 6))) pe_non (pe_op op_add (pv 6) pe_int)) pa_nil))))))) (pss_cons (ps_setLc (i := 3) (own := [("many", 7)]) (by rfl) sc_Leads_need.nd rfl rfl (sw_true rfl rfl rfl (by decide +kernel)) (pi_list (pv 3)) (blkOk_by (own := [("many", 7)]) (N := ["self", "numbers", "place", "found", "kind", "left", "more", "many"]) (sc := defScope s_Leads_need) (by decide +kernel)) (fun _ _ _ _ _ => (pg_name (i := 7) sc_Leads_need.nd rfl (by first | exact Or.inl rfl | exact Or.inr rfl))) (fun _ _ _ _ _ => (pts_one (pt_cmp (pc_notN (pv 7))))) (fun _ _ _ _ _ => (pv 7))) (pss_one (ps_mput hu9 (pe_fld (pv 0) (by rfl)) (pe_tup (pa_cons (pv 1) (pa_cons (pv 2) pa_nil))) (pe_ifExp (pt_cmpR (op_neD hr.units) (pv 3) (pe_lst pa_nil) (nomark _)) (pe_callB (cr_min rfl) rfl T.z_min (by decide +kernel) (pa_cons (pv 3) pa_nil)) pe_non) (by rfl)))))) pss_nil) (pss_one (ps_ret (pe_mget hu9 (pe_fld (pv 0) (by rfl)) (pe_tup (pa_cons (pv 1) (pa_cons (pv 2) pa_nil))) (fun _ _ => rfl))))))), ?_⟩
    obtain ⟨dx, eo⟩ := hd.obj
    obtain ⟨as, eR, hst⟩ := hd.sts
    have egl := hd.gl
    refine ⟨_, rfl, _, rfl, d.p, _, dx, _, _, rfl, eo, T.c_Leads, T.n_Leads_goal, rfl, rd_eqT (SqT.of enu) (SqT.of egl) ⟨_, rfl, ?_⟩⟩
    by_cases hg : ns = d.goal
    · rw [decide_eq_true hg]
      have en : Mir.needM d.L d.goal (d.st.drop pl) ns = some 0 := by
        cases d.st.drop pl with
        | nil => exact if_pos hg
        | cons p r => exact if_pos hg
      refine iteT (k _ _ ⟨?_, keep_of (Same.refl H), Em, hM, fun e he => .inl he⟩)
      rw [en]
      rfl
    rw [decide_eq_false hg]
    refine iteF ?_
    -- the end of the stretches, or shut
    refine ⟨_, rfl, _, rfl, d.p, _, dx, _, _, rfl, eo, T.c_Leads, T.n_Leads_stretches, rfl, d.R, _, rfl, .inl (SqL.of eR), rfl, _, rfl, ?_⟩
    rw [List.length_map, hst.len, dec_nV]
    by_cases hend : pl = d.st.length
    · rw [decide_eq_true hend]
      refine iteT (iteT (k _ _ ⟨?_, keep_of (Same.refl H), Em, hM, fun e he => .inl he⟩))
      rw [List.drop_eq_nil_of_le (by omega)]
      show _ = oV (if ns = d.goal then some 0 else none)
      rw [if_neg hg]
      rfl
    rw [decide_eq_false hend]
    have il : pl < d.st.length := by omega
    have edr : d.st.drop pl = d.st[pl] :: d.st.drop (pl + 1) := List.drop_eq_getElem_cons il
    have egd : d.st.getD pl (0, 0) = d.st[pl] := by rw [List.getD_eq_getElem?_getD, List.getElem?_eq_getElem il]; rfl
    obtain ⟨q1, q2, q3⟩ := ok.s1 _ (List.getElem_mem il)
    generalize d.st[pl] = p at *
    have needE : Mir.needM d.L d.goal (d.st.drop pl) ns = if Mir.isOpen d.goal ns = false then none else Mir.minO (argsN d (d.st.drop (pl + 1)) ns p.1) := by
      rw [edr]
      show (if ns = d.goal then some 0 else _) = _
      rw [if_neg hg]
      rfl
    have nl := (win_mem hns).1
    have nn := ok.ll
    refine iteF ⟨_, rfl, d.p, dx, _, rfl, eo, rfl, _, rfl, (d, nu, ns), rfl, ⟨hd, ok, enu⟩, ?_⟩
    rintro _ H1 ⟨rfl, s1⟩
    refine ⟨_, rfl, ?_⟩
    dsimp only
    cases hop : Mir.isOpen d.goal ns with
    | false =>
      refine iteT (k _ _ ⟨?_, keep_of s1, Em, hM.same s1, fun e he => .inl he⟩)
      rw [needE, if_pos hop]
      rfl
    | true =>
    rw [if_neg (by rw [hop]; exact fun z => by cases z)] at needE
    refine iteF ?_
    -- the key
    have s1' := s1
    refine ⟨_, rfl, _, rfl, len_ok' (by show 2 ≤ 1000; decide), fun kt nkt => ?_⟩
    have s2 := same_new (u := .tup [V.ref nu, nV pl]) s1 nkt
    have ekt : (upd H1 kt (.tup [V.ref nu, nV pl])) kt = some (.tup [V.ref nu, nV pl]) := upd_same
    generalize upd H1 kt (.tup [V.ref nu, nV pl]) = H2 at s2 ekt ⊢
    have M2 := hM.same s2
    refine ⟨_, rfl, d.p, _, dx, _, _, rfl, s2 _ _ eo, T.c_Leads, T.n_Leads_fewest, rfl, kt, d.M, (ns, pl), Em, rfl, rfl, M2.at_, M2.tups, ⟨nu, ekt, s2 _ _ enu⟩, _, rfl, ?_⟩
    by_cases hin : (ns, pl) ∈ Em.map (·.1)
    · -- it is there
      rw [decide_eq_true hin]
      refine iteF ?_
      obtain ⟨e, he, hek⟩ := List.mem_map.mp hin
      obtain ⟨_, _, hev⟩ := M2.vals e he
      rw [hek] at hev
      dsimp only at hev
      refine ⟨_, rfl, d.p, _, dx, _, _, rfl, s2 _ _ eo, T.c_Leads, T.n_Leads_fewest, rfl, _, rfl, _, rfl, len_ok' (by show 2 ≤ 1000; decide), fun k2 nk2 => ?_⟩
      have s3 := same_new (u := .tup [V.ref nu, nV pl]) s2 nk2
      have M3 := hM.same s3
      refine ⟨k2, d.M, e, Em, rfl, rfl, M3.at_, M3.tups, he, ⟨nu, by rw [hek]; exact upd_same, by rw [hek]; exact s3 _ _ enu⟩, k _ _ ⟨by rw [hev], keep_of s3, Em, M3, fun e he => .inl he⟩⟩
    rw [decide_eq_false hin]
    refine iteT ?_
    -- found = [self.need(numbers, place + 1)]
    refine ⟨_, rfl, d.p, dx, _, rfl, s2 _ _ eo, rfl, _, rfl, _, rfl, _, _, rfl, rfl, (d, nu, ns, pl + 1, Em), rfl, ⟨hd.same s2, ok, s2 _ _ enu, hns, by show pl + 1 ≤ d.st.length; omega, by show d.st.length < pl + 1 + r; omega, M2⟩, ?_⟩
    rintro _ H3 ⟨rfl, k3, E3, M3, g3⟩
    dsimp only at k3 M3 g3 ⊢
    have k3 : Keep d.M H H3 := (keep_of s2).trans k3
    have lead : ∀ {Hx : Hp}, Keep d.M H Hx → LeadAt K Hx d := fun kx => hd.keep hM.at_ kx
    have nuat : ∀ {Hx : Hp}, Keep d.M H Hx → Hx nu = some (.tup (ns.map nV)) := fun kx => kx _ _ enu (ne_of enu hM.at_ (fun z => by cases z))
    have pat : ∀ {Hx : Hp}, Keep d.M H Hx → Hx d.p = some (.ins (He.ga K "Leads") dx (leF d)) := fun kx => kx _ _ eo (ne_of eo hM.at_ (fun z => by cases z))
    refine ⟨len_ok' (by show 1 ≤ 1000; decide), fun fo nfo => ?_⟩
    have nfoH : H fo = none := k3.free M3.at_ nfo
    have nfM : fo ≠ d.M := (ne_of_none M3.at_ nfo).symm
    have s4 : Same H3 (upd H3 fo (.lst [oV (Mir.needM d.L d.goal (d.st.drop (pl + 1)) ns)])) := same_upd1 nfo
    have k4 : Keep d.M H (upd H3 fo (.lst [oV (Mir.needM d.L d.goal (d.st.drop (pl + 1)) ns)])) := k3.trans (keep_of s4)
    have ef4 : (upd H3 fo (.lst [oV (Mir.needM d.L d.goal (d.st.drop (pl + 1)) ns)])) fo = some (.lst [oV (Mir.needM d.L d.goal (d.st.drop (pl + 1)) ns)]) := upd_same
    have M4 := M3.same s4
    generalize upd H3 fo (.lst [oV (Mir.needM d.L d.goal (d.st.drop (pl + 1)) ns)]) = H4 at k4 ef4 M4 ⊢
    have al : (argsN d (d.st.drop (pl + 1)) ns p.1).length = 4 := rfl
    refine ⟨He.ga K "KINDS", rfl, ⟨_, kinds_at T _⟩, for_it (walk_tup (K := K) (xs := Mir.KS.map fun k => V.str (kS k)))
      (fun u σ Hx => ∃ (E4 : List MEnt) (y4 y5 y6 : Option V), σ = [some (.ref d.p), some (.ref nu), some (nV pl), some (.ref fo), y4, y5, y6, none] ∧ Keep d.M H Hx ∧ Hx fo = some (.lst (((argsN d (d.st.drop (pl + 1)) ns p.1).take (u + 1)).map oV)) ∧
        MemI P w Hx d E4 ∧ ∀ e ∈ E4, e ∈ Em ∨ pl + 1 ≤ e.1.2)
      ⟨E3, none, none, none, rfl, k4, ef4, M4, g3⟩ (fun _ _ Hx _ _ => kinds_at T Hx) ?_ ?_⟩
    · rintro u y σ Ha Hb hu' ⟨E4, y4, y5, y6, rfl, ka, efa, Ma, ga⟩ ⟨rfl, e1⟩
      obtain ⟨kd, ekd, rfl⟩ := get_map e1
      have u3 : u < 3 := lt_of_get ekd
      have nxt : (argsN d (d.st.drop (pl + 1)) ns p.1)[u + 1]? = some (if Mir.leftM d.L ns kd p.1 = ns then none else (Mir.needM d.L d.goal (d.st.drop (pl + 1)) (Mir.leftM d.L ns kd p.1)).map (· + 1)) := map_get (f := fun k => if Mir.leftM d.L ns k p.1 = ns then none else (Mir.needM d.L d.goal (d.st.drop (pl + 1)) (Mir.leftM d.L ns k p.1)).map (· + 1)) ekd
      refine ⟨_, rfl, d.p, dx, _, rfl, pat ka, rfl, _, rfl, _, rfl, _, rfl, (d, nu, ns, kd, pl), rfl, ⟨lead ka, ok, nuat ka, (win_mem hns).2, (by show ns.length ≤ 7; omega), il⟩, ?_⟩
      rintro _ Hc ⟨l, rfl, sc, elc⟩
      dsimp only at elc
      rw [egd] at elc
      have kc := ka.trans (keep_of sc)
      have Mc := Ma.same sc
      have efc := sc _ _ efa
      have lfw := left_win kd p.1 (L := d.L) hns
      generalize hlf : Mir.leftM d.L ns kd p.1 = lf at *
      have fin : ∀ (Hx : Hp) (x : Option Nat) (E6 : List MEnt), Keep d.M H Hx → Hx fo = some (.lst (((argsN d (d.st.drop (pl + 1)) ns p.1).take (u + 1)).map oV)) → MemI P w Hx d E6 → (∀ e ∈ E6, e ∈ Em ∨ pl + 1 ≤ e.1.2) → (argsN d (d.st.drop (pl + 1)) ns p.1)[u + 1]? = some (x.map (· + 1)) →
          Keep d.M H (upd Hx fo (.lst ((((argsN d (d.st.drop (pl + 1)) ns p.1).take (u + 1)).map oV) ++ [oV (x.map (· + 1))]))) ∧ (upd Hx fo (.lst ((((argsN d (d.st.drop (pl + 1)) ns p.1).take (u + 1)).map oV) ++ [oV (x.map (· + 1))]))) fo = some (.lst (((argsN d (d.st.drop (pl + 1)) ns p.1).take (u + 1 + 1)).map oV)) ∧
            MemI P w (upd Hx fo (.lst ((((argsN d (d.st.drop (pl + 1)) ns p.1).take (u + 1)).map oV) ++ [oV (x.map (· + 1))]))) d E6 := fun Hx x E6 kx ex Mx gx hx => by
        refine ⟨fun b o e n => ?_, ?_, ?_⟩
        · rw [upd_ne (ne_of_none e nfoH)]
          exact kx b o e n
        · rw [upd_same, List.take_succ (i := u + 1), hx, List.map_append]
          rfl
        · refine ⟨by rw [upd_ne nfM.symm]; exact Mx.at_, Mx.tups.sameT fun b xs e => ?_, Mx.nd, Mx.vals⟩
          rw [upd_ne (ne_of e ex (fun z => by cases z))]
          exact e
      have tl : (((argsN d (d.st.drop (pl + 1)) ns p.1).take (u + 1)).map oV).length ≤ 1000 := by
        rw [List.length_map, List.length_take]
        omega
      refine ⟨_, rfl, _, rfl, rd_neT (SqT.of elc) (SqT.of (nuat kc)) ⟨_, rfl, ?_⟩⟩
      by_cases hl : lf = ns
      · rw [decide_eq_true hl]
        rw [if_pos hl] at nxt
        obtain ⟨f1, f2, f3⟩ := fin Hc none E4 kc efc Mc ga nxt
        exact iteF (app_more (x := none) rfl rfl efc tl ⟨E4, _, _, _, rfl, f1, f2, f3, ga⟩)
      · rw [decide_eq_false hl]
        rw [if_neg hl] at nxt
        refine iteT ⟨_, rfl, d.p, dx, _, rfl, pat kc, rfl, _, rfl, _, rfl, _, _, rfl, rfl, (d, l, lf, pl + 1, E4), rfl, ⟨lead kc, ok, elc, lfw, by show pl + 1 ≤ d.st.length; omega, by show d.st.length < pl + 1 + r; omega, Mc⟩, ?_⟩
        rintro _ Hd ⟨rfl, kd', E6, M6, g6⟩
        dsimp only at kd' M6 g6 ⊢
        have kdd := kc.trans kd'
        have efd := kd' _ _ efc nfM
        have g6' : ∀ e ∈ E6, e ∈ Em ∨ pl + 1 ≤ e.1.2 := fun e he => by
          rcases g6 e he with z | z
          · exact ga e z
          · exact .inr z
        obtain ⟨f1, f2, f3⟩ := fin Hd _ E6 kdd efd M6 g6' nxt
        exact app_more rfl rfl efd tl ⟨E6, _, _, _, rfl, f1, f2, f3, g6'⟩
    · rintro σ Ha ⟨E4, y4, y5, y6, rfl, ka, efa, Ma, ga⟩
      rw [show (Mir.KS.map fun k => V.str (kS k)).length = 3 from rfl, List.take_of_length_le (by rw [al]; decide)] at efa
      generalize hA : argsN d (d.st.drop (pl + 1)) ns p.1 = Ar at *
      refine ⟨_, rfl, fo, rfl, ⟨_, SqL.of efa⟩, fun D nD => lc_it (walk_list (K := K) (xs := Ar.map oV)) (fun j Hx => Same Ha Hx ∧ Hx D = some (.lst (((Ar.take j).filterMap id).map nV))) ⟨same_upd1 nD, upd_same⟩ (fun j Hx _ z => SqL.of (z.1 _ _ efa)) ?_ ?_⟩
      · rintro j x Hb Hc hj ⟨sb, eD⟩ ⟨rfl, e1⟩
        obtain ⟨o, eo', rfl⟩ := get_map e1
        have fl := List.length_filterMap_le id (Ar.take j)
        rw [List.length_take] at fl
        refine ⟨rfl, _, rfl, _, rfl, ?_⟩
        cases o with
        | none =>
          refine iteF ⟨sb, ?_⟩
          rw [List.take_succ, eo', List.filterMap_append, eD]
          simp
        | some v =>
          refine iteT ⟨_, rfl, _, eD, len_ok (by rw [List.length_map]; omega), same_up sb nD, ?_⟩
          rw [upd_same, List.take_succ, eo', List.filterMap_append, List.map_append]
          rfl
      · rintro Hb ⟨sb, eD⟩
        rw [List.length_map, List.take_length] at eD
        have kb := ka.trans (keep_of sb)
        have Mb := Ma.same sb
        have knew : (ns, pl) ∉ E4.map (·.1) := fun z => by
          obtain ⟨e, he, hek⟩ := List.mem_map.mp z
          rcases ga e he with q | q
          · exact hin (List.mem_map.mpr ⟨e, q, hek⟩)
          · rw [hek] at q
            have q : pl + 1 ≤ pl := q
            omega
        have nDM : D ≠ d.M := (ne_of_none Ma.at_ nD).symm
        have fin : ∀ (Hx : Hp) (kt2 : Addr), Same Hb Hx → Hx kt2 = some (.tup [V.ref nu, nV pl]) → ∀ v, v = Mir.minO Ar → Keep d.M H (upd Hx d.M (MemO P w d.M (E4 ++ [((ns, pl), kt2, v)]))) ∧ MemI P w (upd Hx d.M (MemO P w d.M (E4 ++ [((ns, pl), kt2, v)]))) d (E4 ++ [((ns, pl), kt2, v)]) := fun Hx kt2 sx ex v hv => by
          have Mx := Mb.same sx
          have tk : ∀ b xs, Hx b = some (.tup xs) → (upd Hx d.M (MemO P w d.M (E4 ++ [((ns, pl), kt2, v)]))) b = some (.tup xs) := fun b xs e => by
            rw [upd_ne (ne_of e Mx.at_ (fun z => by cases z))]
            exact e
          refine ⟨keep_up (kb.trans (keep_of sx)), upd_same, fun e he => ?_, ?_, fun e he => ?_⟩
          · rcases List.mem_append.mp he with q | q
            · exact (Mx.tups e q).sameT tk
            · rw [List.mem_singleton.mp q]
              exact ⟨nu, tk _ _ ex, tk _ _ (sx _ _ (nuat kb))⟩
          · rw [List.map_append, List.nodup_append]
            refine ⟨Mx.nd, by simp, fun a ha b hb z => knew ?_⟩
            rw [List.mem_singleton.mp (show b ∈ [(ns, pl)] from hb)] at z
            rw [← z]
            exact ha
          · rcases List.mem_append.mp he with q | q
            · exact Mx.vals e q
            · rw [List.mem_singleton.mp q]
              exact ⟨hns, il, by show v = Mir.needM d.L d.goal (d.st.drop pl) ns; rw [hv, needE]⟩
        have El := Mb.len ok
        have done : ∀ (σ : L2.St) (Hx : Hp) (kt2 : Addr) (v : Option Nat), σ[0]? = some (some (.ref d.p)) → σ[1]? = some (some (.ref nu)) → σ[2]? = some (some (nV pl)) → Keep d.M H Hx → MemI P w Hx d (E4 ++ [((ns, pl), kt2, v)]) → v = Mir.minO Ar →
            tRet (tMGet P w (tFld K (tVar 0) "fewest") (tTup (tCons (tVar 1) (tCons (tVar 2) tNil)))) { nx := fun _ H' => Q .non H', rt := Q } σ Hx := fun σ Hx kt2 v h0 h1 h2 kx Mx hv => by
          refine ⟨_, h0, d.p, _, dx, _, _, rfl, pat kx, T.c_Leads, T.n_Leads_fewest, rfl, _, h1, _, h2, len_ok' (by show 2 ≤ 1000; decide), fun kt3 nk3 => ?_⟩
          have s7 : Same Hx (upd Hx kt3 (.tup [V.ref nu, nV pl])) := same_upd1 nk3
          have My := Mx.same s7
          refine ⟨kt3, d.M, ((ns, pl), kt2, v), _, rfl, rfl, My.at_, My.tups, List.mem_append.mpr (.inr List.mem_cons_self), ⟨nu, upd_same, s7 _ _ (nuat kx)⟩, k _ _ ⟨by rw [needE, hv], kx.trans (keep_of s7), _, My, fun e he => ?_⟩⟩
          rcases List.mem_append.mp he with q | q
          · rcases ga e q with z | z
            · exact .inl z
            · exact .inr (by omega)
          · rw [List.mem_singleton.mp q]
            exact .inr (Nat.le_refl _)
        refine ⟨_, rfl, len_ok' (by show 0 ≤ 1000; decide), fun l0 nl0 => ?_⟩
        have s5 : Same Hb (upd Hb l0 (.lst [])) := same_upd1 nl0
        refine rd_neL (ms := []) (SqL.of (up_old eD nl0)) (SqL.of upd_same) ⟨_, rfl, ?_⟩
        generalize upd Hb l0 (.lst []) = Hc at s5 ⊢
        have kc := kb.trans (keep_of s5)
        by_cases hnil : Ar.filterMap id = []
        · rw [decide_eq_true hnil]
          refine iteF ⟨_, rfl, d.p, _, dx, _, _, rfl, pat kc, T.c_Leads, T.n_Leads_fewest, rfl, _, rfl, _, rfl, len_ok' (by show 2 ≤ 1000; decide), fun kt2 nk2 => ?_⟩
          have s6 := same_new (u := .tup [V.ref nu, nV pl]) s5 nk2
          have ek2 : (upd Hc kt2 (.tup [V.ref nu, nV pl])) kt2 = some (.tup [V.ref nu, nV pl]) := upd_same
          generalize upd Hc kt2 (.tup [V.ref nu, nV pl]) = Hd at s6 ek2 ⊢
          have Md := Mb.same s6
          obtain ⟨f1, f2⟩ := fin Hd kt2 s6 ek2 none (minO_none hnil).symm
          refine ⟨kt2, d.M, (ns, pl), E4, none, rfl, rfl, rfl, Md.at_, Md.tups, ⟨nu, ek2, nuat (kb.trans (keep_of s6))⟩, knew, El, ?_⟩
          exact done _ _ kt2 none rfl rfl rfl f1 f2 (minO_none hnil).symm
        · rw [decide_eq_false hnil]
          have hpos : 0 < ((Ar.filterMap id).map fun (n : Nat) => (n : Int)).length := by
            rw [List.length_map]
            cases e : Ar.filterMap id with
            | nil => exact absurd e hnil
            | cons a b => exact Nat.succ_pos _
          refine iteT ⟨_, rfl, D, (Ar.filterMap id).map (fun (n : Nat) => (n : Int)), rfl, SqL.of (by rw [List.map_map]; exact s5 _ _ eD), hpos, fun m hm hle => ?_⟩
          obtain ⟨v, hv, rfl⟩ := List.mem_map.mp hm
          have hmin : some v = Mir.minO Ar := (minO_eq hv fun a ha => by
            have := hle _ (List.mem_map_of_mem (f := fun (n : Nat) => (n : Int)) ha)
            omega).symm
          refine ⟨_, rfl, d.p, _, dx, _, _, rfl, pat kc, T.c_Leads, T.n_Leads_fewest, rfl, _, rfl, _, rfl, len_ok' (by show 2 ≤ 1000; decide), fun kt2 nk2 => ?_⟩
          have s6 := same_new (u := .tup [V.ref nu, nV pl]) s5 nk2
          have ek2 : (upd Hc kt2 (.tup [V.ref nu, nV pl])) kt2 = some (.tup [V.ref nu, nV pl]) := upd_same
          generalize upd Hc kt2 (.tup [V.ref nu, nV pl]) = Hd at s6 ek2 ⊢
          have Md := Mb.same s6
          obtain ⟨f1, f2⟩ := fin Hd kt2 s6 ek2 (some v) hmin
          refine ⟨kt2, d.M, (ns, pl), E4, some v, rfl, rfl, rfl, Md.at_, Md.tups, ⟨nu, ek2, nuat (kb.trans (keep_of s6))⟩, knew, El, ?_⟩
          exact done _ _ kt2 (some v) rfl rfl rfl f1 f2 hmin
end
end Qr
set_option maxHeartbeats 4000000
namespace Qr
open PySem PySem.Spec PyProof.Rows L2
section
variable {P : Program} {w : World} {K : PySem.W.Frag} {mg : Str → Option Value} {base : Heap}
def NextP (H' : Hp) (d : LD) (pl : Nat) (r : V) : Option (Mir.Kd × List (Nat × Nat) × Nat × List Nat) → Prop
  | none => r = .non
  | some (k, rest, q, l) => ∃ (t : Addr) (i : Nat) (la : Addr), r = .ref t ∧ H' t = some (.tup [.str (kS k), nV i, .ref la]) ∧ H' la = some (.tup (l.map nV)) ∧ rest = d.st.drop (i + 1) ∧ i < d.st.length ∧ q = (d.st.getD i (0, 0)).1 ∧ pl ≤ i ∧ l ∈ Mir.winGo d.L.length
def spNext (P : Program) (w : World) (K : PySem.W.Frag) : Sp := spOf (fun a : LD × Addr × List Nat × Nat × Nat × List MEnt => [.ref a.1.p, .ref a.2.1, nV a.2.2.2.1, nV a.2.2.2.2.1])
  (fun a H => LeadAt K H a.1 ∧ LOk a.1 ∧ H a.2.1 = some (.tup (a.2.2.1.map nV)) ∧ a.2.2.1 ∈ Mir.winGo a.1.L.length ∧ a.2.2.2.1 ≤ a.1.st.length ∧ 1 ≤ a.2.2.2.2.1 ∧ MemI P w H a.1 a.2.2.2.2.2)
  (fun a H r H' => NextP H' a.1 a.2.2.2.1 r (Mir.nextM a.1.L a.1.goal a.2.2.1 a.2.2.2.2.1 (a.1.st.drop a.2.2.2.1) Mir.KS) ∧ Keep a.1.M H H' ∧ ∃ E', MemI P w H' a.1 E')
theorem ok_Leads_next_record (T : Txt K mg) : CalM P w K mg base "Leads" "next_record" ["self", "numbers", "place", "many"] 11 (spNext P w K) := by
  have G_Leads_left := ok_Leads_left (P := P) (w := w) (base := base) T
  have G_Leads_need := ok_Leads_need (P := P) (w := w) (base := base) T 4
  refine ⟨fn_mk T.M_Leads_next_record sc_Leads_next_record bd_Leads_next_record (spOf_len fun _ => rfl) (fun cdv A outer s H vs Q E hr h => ?_), T.c_Leads, T.m_Leads_next_record⟩
  obtain ⟨⟨d, nu, ns, pl, mn, Em⟩, rfl, ⟨hd, ok, enu, hns, hpl, hmn, hM⟩, k⟩ := h
  dsimp only at hd ok enu hns hpl hmn hM k
  refine ⟨_, (pss_cons (ps_for PassesOwn.never rfl (pi_tup (pe_glob (v := .ref (He.ga K "KINDS")) rfl T.g_KINDS rfl)) (pg_name (i := 4) sc_Leads_next_record.nd rfl (.inl rfl)) (pss_one (ps_for PassesOwn.never rfl (pi_range2 rfl T.z_range (pa_cons (pv 2) (pa_cons (pe_callB call_len_seq rfl T.z_len (by decide +kernel) (pa_cons (pe_fld (pv 0) (by rfl)) pa_nil)) pa_nil))) (pg_name (i := 5) sc_Leads_next_record.nd rfl (.inl rfl)) (pss_cons (ps_set (i := 6) sc_Leads_next_record.nd rfl (.inl rfl) (pe_cm (pv 0) G_Leads_left (hr.mono (by omega)) (pa_cons (pv 1) (pa_cons (pv 4) (pa_cons (pv 5) pa_nil))))) (pss_one (ps_if (PW.pt (pw_and (pt_cmpR (op_neD hr.units) (pv 6) (pv 1) (nomark _)) (pw_and1 (pt_cmpR op_eq (pe_cm (pv 0) G_Leads_need (hr.mono (by omega)) (pa_cons (pv 6) (pa_cons (pe_op op_add (pv 5) pe_int) pa_nil))) (pe_op op_sub (pv 3) pe_int) (nomark _))))) (pss_one (ps_ret (pe_tup (pa_cons (pv 4) (pa_cons (pv 5) (pa_cons (pv 6) pa_nil)))))) pss_nil)))))) (pss_one (ps_ret pe_non))), ?_⟩
  obtain ⟨dx, eo⟩ := hd.obj
  obtain ⟨as, eR, hst⟩ := hd.sts
  have lead : ∀ {Hx : Hp}, Keep d.M H Hx → LeadAt K Hx d := fun kx => hd.keep hM.at_ kx
  have nuat : ∀ {Hx : Hp}, Keep d.M H Hx → Hx nu = some (.tup (ns.map nV)) := fun kx => kx _ _ enu (ne_of enu hM.at_ (fun z => by cases z))
  have pat : ∀ {Hx : Hp}, Keep d.M H Hx → Hx d.p = some (.ins (He.ga K "Leads") dx (leF d)) := fun kx => kx _ _ eo (ne_of eo hM.at_ (fun z => by cases z))
  have rat : ∀ {Hx : Hp}, Keep d.M H Hx → Hx d.R = some (.lst (as.map V.ref)) := fun kx => kx _ _ eR (ne_of eR hM.at_ (fun z => by cases z))
  have nl := (win_mem hns).1
  have nn := ok.ll
  have sl := ok.sl
  refine ⟨He.ga K "KINDS", rfl, ⟨_, kinds_at T _⟩, for_it (walk_tup (K := K) (xs := Mir.KS.map fun k => V.str (kS k)))
    (fun u σ Hx => ∃ (E4 : List MEnt) (y4 y5 y6 : Option V), σ = [some (.ref d.p), some (.ref nu), some (nV pl), some (nV mn), y4, y5, y6] ∧ Keep d.M H Hx ∧ MemI P w Hx d E4 ∧
      Mir.nextM d.L d.goal ns mn (d.st.drop pl) Mir.KS = Mir.nextM d.L d.goal ns mn (d.st.drop pl) (Mir.KS.drop u))
    ⟨Em, none, none, none, rfl, keep_of (Same.refl H), hM, rfl⟩ (fun _ _ Hx _ _ => kinds_at T Hx) ?_ ?_⟩
  · rintro u y σ Ha Hb hu' ⟨E4, y4, y5, y6, rfl, ka, Ma, na⟩ ⟨rfl, e1⟩
    obtain ⟨kd, ekd, rfl⟩ := get_map e1
    have kdr : Mir.KS.drop u = kd :: Mir.KS.drop (u + 1) := by
      obtain ⟨h1, h2⟩ := List.getElem?_eq_some_iff.mp ekd
      rw [List.drop_eq_getElem_cons h1, h2]
    refine ⟨_, rfl, _, rfl, d.p, _, dx, _, _, rfl, pat ka, T.c_Leads, T.n_Leads_stretches, rfl, d.R, _, rfl, .inl (SqL.of (rat ka)), (pl : Int), (d.st.length : Int), by rw [List.length_map, hst.len], ⟨by omega, by omega, by omega, by omega⟩, ?_⟩
    rw [show ((d.st.length : Int) - (pl : Int)).toNat = d.st.length - pl by omega]
    refine for_it (walk_range (lo := (pl : Int)) (n := d.st.length - pl))
      (fun j σ Hx => ∃ (E5 : List MEnt) (y5 y6 : Option V), σ = [some (.ref d.p), some (.ref nu), some (nV pl), some (nV mn), some (.str (kS kd)), y5, y6] ∧ Keep d.M H Hx ∧ MemI P w Hx d E5 ∧
        Mir.nextAt d.L d.goal ns mn kd (d.st.drop pl) = Mir.nextAt d.L d.goal ns mn kd (d.st.drop (pl + j)))
      ⟨E4, y5, y6, rfl, ka, Ma, rfl⟩ (fun _ _ _ _ _ => trivial) ?_ ?_
    · rintro j y σ Hb Hc hj ⟨E5, y5, y6, rfl, kb, Mb, nb⟩ ⟨rfl, rfl⟩
      have il : pl + j < d.st.length := by omega
      have edr : d.st.drop (pl + j) = d.st[pl + j] :: d.st.drop (pl + j + 1) := List.drop_eq_getElem_cons il
      have egd : d.st.getD (pl + j) (0, 0) = d.st[pl + j] := by rw [List.getD_eq_getElem?_getD, List.getElem?_eq_getElem il]; rfl
      refine ⟨_, rfl, d.p, dx, _, rfl, pat kb, rfl, _, rfl, _, rfl, _, rfl, (d, nu, ns, kd, pl + j), rfl, ⟨lead kb, ok, nuat kb, (win_mem hns).2, (by show ns.length ≤ 7; omega), il⟩, ?_⟩
      rintro _ Hd ⟨l, rfl, sc, elc⟩
      dsimp only at elc
      rw [egd] at elc
      have kc := kb.trans (keep_of sc)
      have Mc := Mb.same sc
      have lfw := left_win kd (d.st[pl + j]).1 (L := d.L) hns
      have nxt : Mir.nextAt d.L d.goal ns mn kd (d.st.drop (pl + j)) = if Mir.leftM d.L ns kd (d.st[pl + j]).1 ≠ ns ∧ Mir.needM d.L d.goal (d.st.drop (pl + j + 1)) (Mir.leftM d.L ns kd (d.st[pl + j]).1) = some (mn - 1) then some (d.st.drop (pl + j + 1), (d.st[pl + j]).1, Mir.leftM d.L ns kd (d.st[pl + j]).1) else Mir.nextAt d.L d.goal ns mn kd (d.st.drop (pl + j + 1)) := by
        rw [edr]
        rfl
      generalize hlf : Mir.leftM d.L ns kd (d.st[pl + j]).1 = lf at *
      refine ⟨_, rfl, _, rfl, rd_neT (SqT.of elc) (SqT.of (nuat kc)) ⟨_, rfl, ?_⟩⟩
      by_cases hl : lf = ns
      · rw [decide_eq_true hl]
        rw [if_neg (fun z => z.1 hl)] at nxt
        exact iteF (iteF ⟨E5, _, _, rfl, kc, Mc, nb.trans nxt⟩)
      rw [decide_eq_false hl]
      refine iteT ⟨_, rfl, d.p, dx, _, rfl, pat kc, rfl, _, rfl, _, rfl, _, _, rfl, rfl, (d, l, lf, pl + j + 1, E5), rfl, ⟨lead kc, ok, elc, lfw, by show pl + j + 1 ≤ d.st.length; omega, by show d.st.length < pl + j + 1 + 4; omega, Mc⟩, ?_⟩
      rintro _ He ⟨rfl, ke', E6, M6, g6⟩
      dsimp only at ke' M6 ⊢
      have ke := kc.trans ke'
      have ele := ke' _ _ elc (ne_of elc Mc.at_ (fun z => by cases z))
      generalize hx : Mir.needM d.L d.goal (d.st.drop (pl + j + 1)) lf = x at *
      refine ⟨_, rfl, _, _, rfl, rfl, by cases x <;> rfl, _, rfl, ?_⟩
      have hm1 : ((mn : Int) - 1) = ((mn - 1 : Nat) : Int) := by omega
      by_cases hxe : x = some (mn - 1)
      · rw [decide_eq_true (by rw [hxe]; show V.int _ = V.int _; rw [hm1])]
        rw [if_pos ⟨hl, hxe⟩] at nxt
        refine iteT ⟨_, rfl, _, rfl, _, rfl, len_ok' (by show 3 ≤ 1000; decide), fun t nt => k _ _ ⟨?_, ke.trans (keep_of (same_upd1 nt)), E6, M6.same (same_upd1 nt)⟩⟩
        rw [na, kdr]
        show NextP _ d pl (.ref t) (match Mir.nextAt d.L d.goal ns mn kd (d.st.drop pl) with | some x => some (kd, x) | none => Mir.nextM d.L d.goal ns mn (d.st.drop pl) (Mir.KS.drop (u + 1)))
        rw [nb, nxt]
        exact ⟨t, pl + j, l, rfl, upd_same, up_old ele nt, rfl, il, by rw [egd], by omega, lfw⟩
      · rw [decide_eq_false (fun z => hxe (by
          cases x with
          | none => cases z
          | some v =>
            have z : V.int (v : Int) = V.int ((mn : Int) - 1) := z
            injection z with z
            congr 1
            omega))]
        rw [if_neg (fun z => hxe z.2)] at nxt
        exact iteF ⟨E6, _, _, rfl, ke, M6, nb.trans nxt⟩
    · rintro σ Hb ⟨E5, y5, y6, rfl, kb, Mb, nb⟩
      refine ⟨E5, _, _, _, rfl, kb, Mb, ?_⟩
      rw [na, kdr]
      rw [show pl + (d.st.length - pl) = d.st.length by omega, List.drop_length] at nb
      show (match Mir.nextAt d.L d.goal ns mn kd (d.st.drop pl) with | some x => some (kd, x) | none => Mir.nextM d.L d.goal ns mn (d.st.drop pl) (Mir.KS.drop (u + 1))) = _
      rw [nb]
      rfl
  · rintro σ Ha ⟨E4, y4, y5, y6, rfl, ka, Ma, na⟩
    exact k _ _ ⟨by rw [na]; rfl, ka, E4, Ma⟩
end
end Qr
set_option maxHeartbeats 4000000
namespace Qr
open PySem PySem.Spec PyProof.Rows L2
theorem nextAt_len {L goal ns : List Nat} {mn : Nat} {k : Mir.Kd} : ∀ {st r : List (Nat × Nat)} {q : Nat} {l : List Nat}, Mir.nextAt L goal ns mn k st = some (r, q, l) → r.length < st.length
  | [], r, q, l, h => by cases h
  | p :: t, r, q, l, h => by
    have h : (if Mir.leftM L ns k p.1 ≠ ns ∧ Mir.needM L goal t (Mir.leftM L ns k p.1) = some (mn - 1) then some (t, p.1, Mir.leftM L ns k p.1) else Mir.nextAt L goal ns mn k t) = some (r, q, l) := h
    by_cases c : Mir.leftM L ns k p.1 ≠ ns ∧ Mir.needM L goal t (Mir.leftM L ns k p.1) = some (mn - 1)
    · rw [if_pos c] at h
      have := Option.some.inj h
      injection this with e _
      rw [← e]
      exact Nat.lt_succ_self _
    · rw [if_neg c] at h
      exact Nat.lt_succ_of_lt (nextAt_len h)
theorem nextM_len {L goal ns : List Nat} {mn : Nat} {st : List (Nat × Nat)} : ∀ {ks : List Mir.Kd} {k : Mir.Kd} {r : List (Nat × Nat)} {q : Nat} {l : List Nat}, Mir.nextM L goal ns mn st ks = some (k, r, q, l) → r.length < st.length
  | [], k, r, q, l, h => by cases h
  | kd :: ks, k, r, q, l, h => by
    have h : (match Mir.nextAt L goal ns mn kd st with | some x => some (kd, x) | none => Mir.nextM L goal ns mn st ks) = some (k, r, q, l) := h
    cases e : Mir.nextAt L goal ns mn kd st with
    | none => rw [e] at h; exact nextM_len h
    | some x =>
      rw [e] at h
      obtain ⟨a, b, c⟩ := x
      have h := Option.some.inj h
      injection h with h1 h2
      injection h2 with h2 _
      rw [← h2]
      exact nextAt_len e
theorem least_len {L goal : List Nat} : ∀ {n : Nat} {st : List (Nat × Nat)} {ns : List Nat} {rs : List Rec}, Mir.leastGo L goal n st ns = some rs → rs.length = n ∧ n ≤ st.length
  | 0, st, ns, rs, h => by
    have h : some [] = some rs := h
    rw [← Option.some.inj h]
    exact ⟨rfl, Nat.zero_le _⟩
  | n + 1, st, ns, rs, h => by
    have h : (match Mir.nextM L goal ns (n + 1) st Mir.KS with | none => none | some (k, r, q, l) => (Mir.leastGo L goal n r l).map ((k, q) :: ·)) = some rs := h
    cases e : Mir.nextM L goal ns (n + 1) st Mir.KS with
    | none => rw [e] at h; cases h
    | some x =>
      rw [e] at h
      obtain ⟨k, r, q, l⟩ := x
      have h : (Mir.leastGo L goal n r l).map ((k, q) :: ·) = some rs := h
      obtain ⟨z, hz, rfl⟩ := Option.map_eq_some_iff.mp h
      obtain ⟨h1, h2⟩ := least_len hz
      have := nextM_len e
      exact ⟨by rw [List.length_cons, h1], by omega⟩
def leastS (L goal : List Nat) (st : List (Nat × Nat)) : Option (Option (List Rec)) := match Mir.needM L goal st (List.range L.length) with
  | none => some none
  | some m => (Mir.leastGo L goal m st (List.range L.length)).map some
def LeastP (H' : Hp) (r : V) : Option (List Rec) → Prop
  | none => r = .non
  | some rs => ∃ t, r = .ref t ∧ RecsT H' t rs
section
variable {P : Program} {w : World} {K : PySem.W.Frag} {mg : Str → Option Value} {base : Heap}
def spLeast (P : Program) (w : World) (K : PySem.W.Frag) : Sp := spOf (fun a : LD × List MEnt × Option (List Rec) => [.ref a.1.p]) (fun a H => LeadAt K H a.1 ∧ LOk a.1 ∧ leastS a.1.L a.1.goal a.1.st = some a.2.2 ∧ MemI P w H a.1 a.2.1)
  (fun a H r H' => LeastP H' r a.2.2 ∧ Keep a.1.M H H')
theorem ok_Leads_least (T : Txt K mg) : CalM P w K mg base "Leads" "least" ["self"] 12 (spLeast P w K) := by
  have G_Leads_next_record := ok_Leads_next_record (P := P) (w := w) (base := base) T
  have G_Leads_need := ok_Leads_need (P := P) (w := w) (base := base) T 4
  refine ⟨fn_mk T.M_Leads_least sc_Leads_least bd_Leads_least (spOf_len fun _ => rfl) (fun cdv A outer s H vs Q E hr h => ?_), T.c_Leads, T.m_Leads_least⟩
  obtain ⟨⟨d, Em, res⟩, rfl, ⟨hd, ok, hres, hM⟩, k⟩ := h
  dsimp only at hd ok hres hM k
  refine ⟨_, (pss_cons (ps_par3 (i := 1) (j := 2) (l := 3) rfl sc_Leads_least.nd rfl rfl rfl (by decide) (by decide) (by decide) rfl rfl rfl (pa_cons (pe_tupRg rfl rfl T.z_tuple (prg_1 rfl T.z_range (pe_callB call_len_seq rfl T.z_len (by decide +kernel) (pa_cons (pe_fld (pv 0) (by rfl)) pa_nil)))) (pa_cons pe_int (pa_cons (pe_lst pa_nil) pa_nil))) rfl) (pss_cons (ps_set (i := 4) sc_Leads_least.nd rfl (.inl rfl) (pe_cm (pv 0) G_Leads_need (hr.mono (by omega)) (pa_cons (pv 1) (pa_cons pe_int pa_nil)))) (pss_cons (ps_if (pt_cmp (pc_isN (pv 4))) (pss_one (ps_ret pe_non)) pss_nil) (pss_cons (ps_for PassesOwn.never rfl (pi_range3 rfl T.z_range (pa_cons (pv 4) (pa_cons pe_int (pa_cons (pe_un un_neg pe_int) pa_nil)))) (pg_name (i := 5) sc_Leads_least.nd rfl (.inl rfl)) (pss_cons (ps_asg (pe_cm (pv 0) G_Leads_next_record (hr.mono (by omega)) (pa_cons (pv 1) (pa_cons (pv 2) (pa_cons (pv 5) pa_nil)))) (pg_tup rfl (pgs_cons (pg_name (i := 6) sc_Leads_least.nd rfl (.inl rfl)) (pgs_cons (pg_name (i := 7) sc_Leads_least.nd rfl (.inl rfl)) (pgs_cons (pg_name (i := 1) sc_Leads_least.nd rfl (.inl rfl)) pgs_nil))))) (pss_cons (ps_expr (pe_bm PySem.F.plainAttrs_list PySem.F.slot_list_append PySem.F.type_list_append mt_append (pv 3) (pa_cons (pe_tup (pa_cons (pv 6) (pa_cons (pe_ix ix_tup (pe_ix ix_list (pe_fld (pv 0) (by rfl)) (pv 7) (fun _ _ => rfl)) pe_int (fun _ _ => rfl)) pa_nil))) pa_nil))) (pss_one (ps_set (i := 2) sc_Leads_least.nd rfl (.inl rfl) (pe_op op_add (pv 7) pe_int)))))) (pss_one (ps_ret (pe_callTy call_tuple_of rfl T.z_tuple (by decide +kernel) (pa_cons (pv 3) pa_nil)))))))), ?_⟩
  obtain ⟨dx, eo⟩ := hd.obj
  obtain ⟨as, eR, hst⟩ := hd.sts
  have eS := hd.str
  have lead : ∀ {Hx : Hp}, Keep d.M H Hx → LeadAt K Hx d := fun kx => hd.keep hM.at_ kx
  have pat : ∀ {Hx : Hp}, Keep d.M H Hx → Hx d.p = some (.ins (He.ga K "Leads") dx (leF d)) := fun kx => kx _ _ eo (ne_of eo hM.at_ (fun z => by cases z))
  have rat : ∀ {Hx : Hp}, Keep d.M H Hx → Hx d.R = some (.lst (as.map V.ref)) := fun kx => kx _ _ eR (ne_of eR hM.at_ (fun z => by cases z))
  have sl := ok.sl
  have hn := ok.ll
  have rgl : RgOk 0 ((d.L.map (tV d.b)).length : Int) := by
    rw [List.length_map]
    exact rgOk_nat (by omega)
  refine ⟨_, rfl, d.p, _, dx, _, _, rfl, eo, T.c_Leads, T.n_Leads_stream, rfl, d.S, _, rfl, .inl (SqL.of eS), _, rfl, rgl, fun nu nnu => ?_⟩
  rw [List.length_map, rgV_nat]
  have s1 : Same H (upd H nu (.tup ((List.range d.L.length).map nV))) := same_upd1 nnu
  have en1 : (upd H nu (.tup ((List.range d.L.length).map nV))) nu = some (.tup ((List.range d.L.length).map nV)) := upd_same
  generalize upd H nu (.tup ((List.range d.L.length).map nV)) = H1 at s1 en1 ⊢
  refine ⟨len_ok' (by show 0 ≤ 1000; decide), fun fo nfo => ?_⟩
  have nfoH : H fo = none := s1.free nfo
  have s2 := same_new (u := .lst []) s1 nfo
  have en2 := up_old (u := .lst []) en1 nfo
  have ef2 : (upd H1 fo (.lst [])) fo = some (.lst []) := upd_same
  generalize upd H1 fo (.lst []) = H2 at s2 en2 ef2 ⊢
  have M2 := hM.same s2
  have k2 : Keep d.M H H2 := keep_of s2
  refine ⟨_, _, _, rfl, ?_⟩
  refine ⟨_, rfl, d.p, dx, _, rfl, pat k2, rfl, _, rfl, (d, nu, List.range d.L.length, 0, Em), rfl, ⟨lead k2, ok, en2, range_win _, Nat.zero_le _, by show d.st.length < 0 + 4; omega, M2⟩, ?_⟩
  rintro _ H3 ⟨rfl, k3', E3, M3, g3⟩
  dsimp only at k3' M3 ⊢
  rw [List.drop_zero]
  have k3 := k2.trans k3'
  have ef3 := k3' _ _ ef2 (ne_of ef2 M2.at_ (fun z => by cases z))
  have en3 := k3' _ _ en2 (ne_of en2 M2.at_ (fun z => by cases z))
  unfold leastS at hres
  cases hneed : Mir.needM d.L d.goal d.st (List.range d.L.length) with
  | none =>
    rw [hneed] at hres
    have hres := Option.some.inj hres
    subst hres
    exact ⟨_, rfl, _, rfl, iteT (k _ _ ⟨rfl, k3⟩)⟩
  | some m =>
    rw [hneed] at hres
    obtain ⟨rs, hgo, rfl⟩ := Option.map_eq_some_iff.mp (show (Mir.leastGo d.L d.goal m d.st (List.range d.L.length)).map some = some res from hres)
    obtain ⟨hl1, hl2⟩ := least_len hgo
    refine ⟨_, rfl, _, rfl, iteF ?_⟩
    refine ⟨_, rfl, _, rfl, (m : Int), 0, -1, m, rfl, ?_, ?_⟩
    · have := RgC.neg (i := (m : Int)) (j := 0) (by omega) (by omega) (by omega) (by omega)
      rw [show ((m : Int) - 0).toNat = m by omega] at this
      exact this
    refine for_it (walk_rangeC (lo := (m : Int)) (c := -1) (n := m))
      (fun i σ Hx => ∃ (E5 : List MEnt) (nu5 : Addr) (ns5 : List Nat) (pl : Nat) (fs : List Addr) (acc tl : List Rec) (y5 y6 y7 : Option V), σ = [some (.ref d.p), some (.ref nu5), some (nV pl), some (.ref fo), some (nV m), y5, y6, y7] ∧ Keep d.M H Hx ∧ MemI P w Hx d E5 ∧ Hx nu5 = some (.tup (ns5.map nV)) ∧ ns5 ∈ Mir.winGo d.L.length ∧ pl ≤ d.st.length ∧
        Hx fo = some (.lst (fs.map V.ref)) ∧ fs.length = i ∧ acc.length = i ∧ (∀ (j : Nat) (a : Addr) (r : Rec), fs[j]? = some a → acc[j]? = some r → Hx a = some (.tup [.str (kS r.1), nV r.2])) ∧ Mir.leastGo d.L d.goal (m - i) (d.st.drop pl) ns5 = some tl ∧ acc ++ tl = rs)
      ⟨E3, nu, List.range d.L.length, 0, [], [], rs, none, none, none, rfl, k3, M3, en3, range_win _, Nat.zero_le _, ef3, rfl, rfl, (fun j a r z => by cases z), hgo, rfl⟩ (fun _ _ _ _ _ => trivial) ?_ ?_
    · rintro i y σ Ha Hb hi ⟨E5, nu5, ns5, pl, fs, acc, tl, y5, y6, y7, rfl, ka, Ma, enu, hns, hpl, efa, lfs, lacc, hrec, hgo5, hrs⟩ ⟨rfl, rfl⟩
      obtain ⟨n, hn'⟩ : ∃ n, m - i = n + 1 := ⟨m - i - 1, by omega⟩
      rw [hn'] at hgo5
      have hv : V.int ((m : Int) + (i : Nat) * -1) = nV (n + 1) := by
        show V.int _ = V.int _
        congr 1
        omega
      have hgo5 : (match Mir.nextM d.L d.goal ns5 (n + 1) (d.st.drop pl) Mir.KS with | none => none | some (k, r, q, l) => (Mir.leastGo d.L d.goal n r l).map ((k, q) :: ·)) = some tl := hgo5
      refine ⟨_, rfl, d.p, dx, _, rfl, pat ka, rfl, _, rfl, _, rfl, _, rfl, (d, nu5, ns5, pl, n + 1, E5), ?_, ⟨lead ka, ok, enu, hns, hpl, Nat.succ_pos _, Ma⟩, ?_⟩
      · show [V.ref d.p, V.ref nu5, nV pl, V.int ((m : Int) + (i : Nat) * -1)] = _
        rw [hv]
      rintro r Hc ⟨hnx, kc', E6, Mc⟩
      dsimp only at hnx kc' Mc
      have kc := ka.trans kc'
      cases hN : Mir.nextM d.L d.goal ns5 (n + 1) (d.st.drop pl) Mir.KS with
      | none => rw [hN] at hgo5; cases hgo5
      | some x =>
        obtain ⟨kd, rest, q, lf⟩ := x
        rw [hN] at hgo5 hnx
        have hgo5 : (Mir.leastGo d.L d.goal n rest lf).map ((kd, q) :: ·) = some tl := hgo5
        obtain ⟨tl', htl, rfl⟩ := Option.map_eq_some_iff.mp hgo5
        obtain ⟨t, at_, la, rfl, et, ela, rfl, hat, rfl, hpa, lfw⟩ := hnx
        have lat : at_ < as.length := by rw [hst.len]; exact hat
        have eap : as[at_]? = some as[at_] := List.getElem?_eq_getElem lat
        have est : d.st[at_]? = some (d.st.getD at_ (0, 0)) := by rw [List.getD_eq_getElem?_getD, List.getElem?_eq_getElem hat]; rfl
        have epr0 : PairAt H as[at_] (d.st.getD at_ (0, 0)) := hst.at_ _ _ _ eap est
        generalize d.st.getD at_ (0, 0) = pr at *
        have epr : Hc as[at_] = some (.tup [nV pr.1, nV pr.2]) := kc _ _ epr0 (ne_of epr0 hM.at_ (fun z => by cases z))
        have efc := kc' _ _ efa (ne_of efa Ma.at_ (fun z => by cases z))
        refine ⟨t, _, rfl, SqT.of et, rfl, _, _, rfl, _, _, rfl, _, _, rfl, rfl, ?_⟩
        refine ⟨_, rfl, .inl ⟨rfl, _, SqL.of efc⟩, _, rfl, _, rfl, d.p, _, dx, _, _, rfl, pat kc, T.c_Leads, T.n_Leads_stretches, rfl, _, rfl, d.R, _, _, _, rfl, rfl, SqL.of (rat kc), at_map (i := at_) rfl eap, as[at_], _, _, _, rfl, rfl, SqT.of epr, rfl, len_ok' (by show 2 ≤ 1000; decide), fun z nz => ?_⟩
        have s7 : Same Hc (upd Hc z (.tup [.str (kS kd), nV pr.1])) := same_upd1 nz
        have ez : (upd Hc z (.tup [.str (kS kd), nV pr.1])) z = some (.tup [.str (kS kd), nV pr.1]) := upd_same
        generalize upd Hc z (.tup [.str (kS kd), nV pr.1]) = Hd at s7 ez ⊢
        have kd7 := kc.trans (keep_of s7)
        have Md := Mc.same s7
        have efd := s7 _ _ efc
        refine ⟨fo, _, _, rfl, rfl, efd, len_ok (by rw [List.length_map, lfs]; omega), ?_⟩
        have tk : ∀ b xs, Hd b = some (.tup xs) → (upd Hd fo (.lst (fs.map V.ref ++ [.ref z]))) b = some (.tup xs) := fun b xs e => by
          rw [upd_ne (ne_of e efd (fun z => by cases z))]
          exact e
        have nfM : fo ≠ d.M := ne_of efd Md.at_ (fun z => by cases z)
        refine ⟨_, rfl, _, _, rfl, rfl, E6, la, lf, at_ + 1, fs ++ [z], acc ++ [(kd, pr.1)], tl', some (V.int ((m : Int) + (i : Nat) * -1)), some (.str (kS kd)), some (nV at_), rfl, fun b o e ne => ?_, ⟨by rw [upd_ne nfM.symm]; exact Md.at_, Md.tups.sameT tk, Md.nd, Md.vals⟩, tk _ _ (s7 _ _ ela), lfw, hat, ?_, ?_, ?_, ?_, ?_, ?_⟩
        · rw [upd_ne (ne_of_none e nfoH)]
          exact kd7 b o e ne
        · rw [upd_same, List.map_append]
          rfl
        · rw [List.length_append, lfs]
          rfl
        · rw [List.length_append, lacc]
          rfl
        · intro j a r e1 e2
          by_cases c : j < fs.length
          · rw [List.getElem?_append_left c] at e1
            rw [List.getElem?_append_left (by omega)] at e2
            have q := hrec j a r e1 e2
            exact tk _ _ (s7 _ _ (kc' _ _ q (ne_of q Ma.at_ (fun z => by cases z))))
          · have hj : j = fs.length := by
              have := lt_of_get e1
              rw [List.length_append] at this
              have : j < fs.length + 1 := this
              omega
            subst hj
            rw [List.getElem?_append_right (Nat.le_refl _), Nat.sub_self] at e1
            rw [lfs, ← lacc, List.getElem?_append_right (Nat.le_refl _), Nat.sub_self] at e2
            obtain rfl := Option.some.inj e1
            obtain rfl := Option.some.inj e2
            exact tk _ _ ez
        · rw [show m - (i + 1) = n by omega]
          exact htl
        · rw [List.append_assoc]
          exact hrs
    · rintro σ Ha ⟨E5, nu5, ns5, pl, fs, acc, tl, y5, y6, y7, rfl, ka, Ma, enu, hns, hpl, efa, lfs, lacc, hrec, hgo5, hrs⟩
      rw [Nat.sub_self] at hgo5
      have hgo5 : some [] = some tl := hgo5
      obtain rfl := Option.some.inj hgo5
      rw [List.append_nil] at hrs
      subst hrs
      refine ⟨_, rfl, fo, _, rfl, .inl ⟨SqL.of efa, fun t nt => k _ _ ⟨⟨t, rfl, ⟨fs, upd_same, by rw [lfs, lacc], fun j a r e1 e2 => up_old (hrec j a r e1 e2) nt⟩⟩, ka.trans (keep_of (same_upd1 nt))⟩⟩⟩
end
end Qr
set_option maxHeartbeats 4000000
namespace Qr
open PySem PySem.Spec PyProof.Rows L2
theorem str_ok {m : Nat} : ∀ (gs : List Nat) (low : Nat), ∀ q ∈ Mir.strGo m gs low, low ≤ q.1 ∧ q.1 ≤ q.2 ∧ q.2 ≤ m
  | [], low, q, h => by cases h
  | g :: r, low, q, h => by
    have h : q ∈ (if low ≤ min g m then (low, min g m) :: Mir.strGo m r (min g m + 1) else Mir.strGo m r low) := h
    by_cases c : low ≤ min g m
    · rw [if_pos c] at h
      rcases List.mem_cons.mp h with rfl | h
      · exact ⟨Nat.le_refl _, c, by show min g m ≤ m; omega⟩
      · obtain ⟨h1, h2⟩ := str_ok r _ q h
        exact ⟨by omega, h2⟩
    · rw [if_neg c] at h
      exact str_ok r _ q h
theorem str_len {m : Nat} : ∀ (gs : List Nat) (low : Nat), (Mir.strGo m gs low).length ≤ m + 1 - low
  | [], low => Nat.zero_le _
  | g :: r, low => by
    show (if low ≤ min g m then (low, min g m) :: Mir.strGo m r (min g m + 1) else Mir.strGo m r low).length ≤ _
    by_cases c : low ≤ min g m
    · rw [if_pos c, List.length_cons]
      have := str_len (m := m) r (min g m + 1)
      omega
    · rw [if_neg c]
      exact str_len r low
theorem inc_of {L : List Nat} (b : Int) (h : L.Pairwise (· < ·)) : Inc (L.map fun (t : Nat) => b + (t : Int)) := fun i x y e1 e2 => by
  obtain ⟨s, hs, rfl⟩ := get_map e1
  obtain ⟨t, ht, rfl⟩ := get_map e2
  have l1 := lt_of_get hs
  have l2 := lt_of_get ht
  have := List.pairwise_iff_getElem.mp h i (i + 1) l1 l2 (Nat.lt_succ_self _)
  rw [(List.getElem?_eq_some_iff.mp hs).2, (List.getElem?_eq_some_iff.mp ht).2] at this
  omega
theorem up_of {L : List Nat} (h : L.Pairwise (· < ·)) : ∀ i x y, L[i]? = some x → L[i + 1]? = some y → x < y := fun i x y hs ht => by
  have := List.pairwise_iff_getElem.mp h i (i + 1) (lt_of_get hs) (lt_of_get ht) (Nat.lt_succ_self _)
  rw [(List.getElem?_eq_some_iff.mp hs).2, (List.getElem?_eq_some_iff.mp ht).2] at this
  exact this
/-- a question: a stream, its numbers, how many kinds of quiet -/
structure QA where
  S : Addr
  b : Int
  L : List Nat
  nu : Addr
  ns : List Nat
  m : Nat
structure QOk (H : Hp) (a : QA) : Prop where
  str : H a.S = some (.lst (a.L.map (tV a.b)))
  nus : H a.nu = some (.lst (a.ns.map nV))
  inc : a.L.Pairwise (· < ·)
  ll : a.L.length ≤ 7
  ninc : a.ns.Pairwise (· < ·)
  nlt : ∀ n ∈ a.ns, n < a.L.length
  m4 : a.m ≤ 4
theorem QOk.lok {H : Hp} {a : QA} (h : QOk H a) (p G R M : Addr) : LOk ⟨p, a.S, G, R, M, a.b, a.L, a.ns, Mir.stretchM a.L a.m⟩ where
  ll := h.ll
  gg := Nat.le_trans (win_mem (win_of h.ninc h.nlt)).1 h.ll
  sl := by
    have := str_len (m := a.m) (Mir.sortU (Mir.diffs a.L) ++ [a.m]) 2
    have h4 := h.m4
    show (Mir.strGo a.m (Mir.sortU (Mir.diffs a.L) ++ [a.m]) 2).length ≤ 3
    omega
  s1 := fun q hq => by
    obtain ⟨h1, h2, h3⟩ := str_ok _ _ q (show q ∈ Mir.strGo a.m (Mir.sortU (Mir.diffs a.L) ++ [a.m]) 2 from hq)
    have h4 := h.m4
    exact ⟨by omega, h2, by omega⟩
theorem made1 {H1 : Hp} {x dx : Addr} {C : Addr} (nx : H1 x = none) (nd : H1 dx = none) : Same H1 (upd (upd H1 dx (.own x)) x (.ins C dx [])) := same_up (same_upd1 nd) nx
section
variable {P : Program} {w : World} {K : PySem.W.Frag} {mg : Str → Option Value} {base : Heap}
def spCount (K : PySem.W.Frag) : Sp := spOf (fun a : QA => [.ref a.S, .ref a.nu, nV a.m]) (fun a H => QOk H a) (fun a H r H' => r = nV (Mir.waysM a.L a.ns a.m) ∧ Same H H')
theorem ok_count_leading (T : Txt K mg) : Cal P w K mg base "count_leading" ["stream", "numbers", "most"] 7 (spCount K) := by
  have G_check_stream := ok_check_stream (P := P) (w := w) (base := base) T
  have G_check_numbers := ok_check_numbers (P := P) (w := w) (base := base) T
  have G_Leads_init := ok_Leads_init (P := P) (w := w) (base := base) T
  have G_Leads_ways_to_goal := ok_Leads_ways_to_goal (P := P) (w := w) (base := base) T
  obtain ⟨_, hMOST_QUIET⟩ := T.i_MOST_QUIET
  refine ⟨fn_mk T.F_count_leading sc_count_leading bd_count_leading (spOf_len fun _ => rfl) (fun cdv A outer s H vs Q E hr h => ?_), T.F_count_leading.elim fun _ F => F.kp, T.g_count_leading⟩
  obtain ⟨a, rfl, ha, k⟩ := h
  refine ⟨_, (pss_cons (ps_expr (pe_c G_check_stream (hr.mono (by omega)) rfl (pa_cons (pv 0) pa_nil))) (pss_cons (ps_expr (pe_c G_check_numbers (hr.mono (by omega)) rfl (pa_cons (pv 0) (pa_cons (pv 1) pa_nil)))) (pss_cons (ps_if (pt_cmpR op_gt (pv 2) (pe_glob (v := .int 300) rfl hMOST_QUIET ⟨_, rfl⟩) (nomark _)) pss_never pss_nil) (pss_one (ps_ret (pe_cm0 (pe_ci G_Leads_init (hr.mono (by omega)) rfl (pa_cons (pv 0) (pa_cons (pv 1) (pa_cons (pv 2) pa_nil)))) G_Leads_ways_to_goal (hr.mono (by omega)))))))), ?_⟩
  refine ⟨_, rfl, (a.S, a.L.map fun (t : Nat) => a.b + (t : Int)), rfl, ⟨SqL.of (by rw [List.map_map]; exact ha.str), inc_of a.b ha.inc⟩, ?_⟩
  rintro _ H1 ⟨rfl, s1⟩
  refine ⟨_, rfl, _, rfl, (a.S, a.b, a.L, a.nu, a.ns), rfl, ⟨SqL.of (s1 _ _ ha.str), SqL.of (s1 _ _ ha.nus), up_of ha.ninc, ha.nlt⟩, ?_⟩
  rintro _ H2 ⟨rfl, s2⟩
  have s12 := s1.trans s2
  have hm := ha.m4
  refine ⟨_, rfl, _, _, rfl, rfl, _, rfl, ?_⟩
  rw [decide_eq_false (by omega)]
  refine iteF ?_
  refine ⟨_, rfl, _, rfl, _, rfl, fun x dx nx ndx ne => ⟨((x, dx), (a.S, a.b, a.L), (a.nu, a.ns), a.m), rfl, ⟨upd_same, ?_, ha.inc, ha.ll, ?_⟩, ?_⟩⟩
  · exact made1 nx ndx _ _ (s12 _ _ ha.str)
  · exact made1 nx ndx _ _ (s12 _ _ ha.nus)
  rintro _ H3 ⟨rfl, ⟨G, R, M, hl, hM, nM⟩, kp⟩
  obtain ⟨dx2, eo⟩ := id hl.obj
  refine ⟨rfl, x, dx2, _, rfl, eo, rfl, ⟨x, a.S, G, R, M, a.b, a.L, a.ns, Mir.stretchM a.L a.m⟩, rfl, ⟨hl, ha.lok _ _ _ _⟩, ?_⟩
  rintro _ H4 ⟨rfl, s4⟩
  have s23 : Same H2 H3 := fun b o e => kp b o (made1 nx ndx b o e) (ne_of_none e nx)
  exact k _ _ ⟨rfl, (s12.trans s23).trans s4⟩
def spLeastL (K : PySem.W.Frag) : Sp := spOf (fun a : QA × Option (List Rec) => [.ref a.1.S, .ref a.1.nu, nV a.1.m]) (fun a H => QOk H a.1 ∧ Mir.leastM a.1.L a.1.ns a.1.m = some a.2) (fun a H r H' => LeastP H' r a.2 ∧ Same H H')
theorem ok_least_leading (T : Txt K mg) : Cal P w K mg base "least_leading" ["stream", "numbers", "most"] 13 (spLeastL K) := by
  have G_check_stream := ok_check_stream (P := P) (w := w) (base := base) T
  have G_check_numbers := ok_check_numbers (P := P) (w := w) (base := base) T
  have G_Leads_init := ok_Leads_init (P := P) (w := w) (base := base) T
  have G_Leads_least := ok_Leads_least (P := P) (w := w) (base := base) T
  refine ⟨fn_mk T.F_least_leading sc_least_leading bd_least_leading (spOf_len fun _ => rfl) (fun cdv A outer s H vs Q E hr h => ?_), T.F_least_leading.elim fun _ F => F.kp, T.g_least_leading⟩
  obtain ⟨⟨a, res⟩, rfl, ⟨ha, hres⟩, k⟩ := h
  dsimp only at ha hres k
  refine ⟨_, (pss_cons (ps_expr (pe_c G_check_stream (hr.mono (by omega)) rfl (pa_cons (pv 0) pa_nil))) (pss_cons (ps_expr (pe_c G_check_numbers (hr.mono (by omega)) rfl (pa_cons (pv 0) (pa_cons (pv 1) pa_nil)))) (pss_one (ps_ret (pe_cm0 (pe_ci G_Leads_init (hr.mono (by omega)) rfl (pa_cons (pv 0) (pa_cons (pv 1) (pa_cons (pv 2) pa_nil)))) G_Leads_least (hr.mono (by omega))))))), ?_⟩
  refine ⟨_, rfl, (a.S, a.L.map fun (t : Nat) => a.b + (t : Int)), rfl, ⟨SqL.of (by rw [List.map_map]; exact ha.str), inc_of a.b ha.inc⟩, ?_⟩
  rintro _ H1 ⟨rfl, s1⟩
  refine ⟨_, rfl, _, rfl, (a.S, a.b, a.L, a.nu, a.ns), rfl, ⟨SqL.of (s1 _ _ ha.str), SqL.of (s1 _ _ ha.nus), up_of ha.ninc, ha.nlt⟩, ?_⟩
  rintro _ H2 ⟨rfl, s2⟩
  have s12 := s1.trans s2
  refine ⟨_, rfl, _, rfl, _, rfl, fun x dx nx ndx ne => ⟨((x, dx), (a.S, a.b, a.L), (a.nu, a.ns), a.m), rfl, ⟨upd_same, ?_, ha.inc, ha.ll, ?_⟩, ?_⟩⟩
  · exact made1 nx ndx _ _ (s12 _ _ ha.str)
  · exact made1 nx ndx _ _ (s12 _ _ ha.nus)
  rintro _ H3 ⟨rfl, ⟨G, R, M, hl, hM, nM⟩, kp⟩
  obtain ⟨dx2, eo⟩ := id hl.obj
  refine ⟨rfl, x, dx2, _, rfl, eo, rfl, (⟨x, a.S, G, R, M, a.b, a.L, a.ns, Mir.stretchM a.L a.m⟩, [], res), rfl, ⟨hl, ha.lok _ _ _ _, hres, ⟨hM, fun e he => (by cases he), List.nodup_nil, fun e he => (by cases he)⟩⟩, ?_⟩
  rintro r H4 ⟨hr4, k4⟩
  have s23 : Same H2 H3 := fun b o e => kp b o (made1 nx ndx b o e) (ne_of_none e nx)
  have nM2 : H2 M = none := by
    cases e : H2 M with
    | none => rfl
    | some u =>
      rw [made1 nx ndx _ _ e] at nM
      cases nM
  have s24 : Same H2 H4 := fun b o e => k4 b o (s23 b o e) (ne_of_none e nM2)
  exact k _ _ ⟨hr4, s12.trans s24⟩
end
end Qr
namespace Mir
def rIncB : Nat → List (Kd × Nat) → Bool
  | _, [] => true
  | m, r :: t => decide (m < r.2) && rIncB r.2 t
/-- one stream: how many ways lead to the events, where all is as the law says -/
def chkT (most : Nat) (E T : List Nat) : Option Nat :=
  let ns := numsOf E T
  let ws := waysM T ns most
  if incB ns && ns.all (· < T.length) then
    match leastM T ns most with
    | none => none
    | some none => if ws = 0 then some ws else none
    | some (some rs) => if ws = 0 then none else if rIncB 1 rs && decide (toldM T rs = some ns) then some ws else none
  else none
def sumT : List (Option Nat) → Option Nat
  | [] => some 0
  | none :: _ => none
  | some a :: r => (sumT r).map (a + ·)
def chkE (most size : Nat) (E : List Nat) : Bool := decide (sumT (((winGo size).filter (sub E)).map (chkT most E)) = some (byRows most size E))
def chkA (most size : Nat) : Bool := (evs size).all (chkE most size)
theorem chk_2 : ((List.range 7).all fun s => chkA 2 (s + 1)) = true := by decide +kernel
theorem chk_3 : ((List.range 4).all fun s => chkA 3 (s + 3)) = true := by decide +kernel
theorem chk_37 : chkA 3 7 = true := by decide +kernel
theorem chk_4 : ((List.range 3).all fun s => chkA 4 (s + 3)) = true := by decide +kernel
theorem chk_46 : chkA 4 6 = true := by decide +kernel
theorem chk_f : ((List.range 7).all fun n => (formsGo 3).all fun rs => rIncB 1 rs && pOk n (wy0 n) rs) = true := by decide +kernel
end Mir
set_option maxHeartbeats 4000000
namespace Qr
open PySem PySem.Spec PyProof.Rows L2
theorem pe_bmK {X : Cx} {K : PySem.W.Frag} {o e : Expr} {es : List Expr} {to : TE} {t : TA} {name : Str} {apos cpos : Pos} {T id : String} {r : V → List V → Hp → VK → Prop} (hK : X.K = K) (pa : PlainAttrs T) (slot : Slot T name id) (hty : typeOf (.builtin id) = pure (.type "method_descriptor")) (hm : MtR X id r) (ho : PE X o to) (ha : PA X (e :: es) t)
    (hbase : attributeBase o name X.env (eval o X.env) = eval o X.env := by rfl)
    (hfew : ((backTo cpos (starEach (e :: es) X.env)).all (fun x => !x.1) && (backToKw cpos (keywordEach [] X.env)).all (fun x => x.1.isSome)
      && decide ((e :: es).length + ([] : List Keyword).length + (if ([] : List Keyword).isEmpty then 0 else 1) < 30)) = true := by rfl)
    (hline : (apos.endLine == cpos.line) = true := by rfl) (hs : starEach (e :: es) X.env = (false, eval e X.env) :: starEach es X.env := by rfl) (hplain : (backTo cpos (starEach es X.env)).any (·.1) = false := by rfl) :
    PE X (.Call (.Attribute o name apos) (e :: es) [] cpos) (tBM K T r to t) := by
  subst hK
  exact pe_bm pa slot hty hm ho ha hbase hfew hline hs hplain
theorem inc_pair : ∀ {l : List Nat}, Mir.incB l = true → l.Pairwise (· < ·)
  | [], _ => .nil
  | [x], _ => by simp
  | a :: b :: r, h => by
    obtain ⟨h1, h2⟩ := (Bool.and_eq_true _ _).mp (show (decide (a < b) && Mir.incB (b :: r)) = true from h)
    have ih := inc_pair h2
    have h1 := of_decide_eq_true h1
    refine List.pairwise_cons.mpr ⟨fun x hx => ?_, ih⟩
    rcases List.mem_cons.mp hx with rfl | hx
    · exact h1
    · exact Nat.lt_trans h1 ((List.pairwise_cons.mp ih).1 x hx)
theorem rInc_eq : ∀ (m : Nat) (rs : List Rec), rInc m rs = Mir.rIncB m rs
  | _, [] => rfl
  | m, r :: t => by
    show (decide (m < r.2) && rInc r.2 t) = (decide (m < r.2) && Mir.rIncB r.2 t)
    rw [rInc_eq r.2 t]
theorem chkT_facts {most : Nat} {E T : List Nat} {ws : Nat} (h : Mir.chkT most E T = some ws) : ws = Mir.waysM T (Mir.numsOf E T) most ∧ Mir.incB (Mir.numsOf E T) = true ∧ (∀ n ∈ Mir.numsOf E T, n < T.length) ∧
    ((Mir.leastM T (Mir.numsOf E T) most = some none ∧ ws = 0) ∨ ∃ rs, Mir.leastM T (Mir.numsOf E T) most = some (some rs) ∧ ws ≠ 0 ∧ rInc 1 rs = true ∧ Mir.toldM T rs = some (Mir.numsOf E T)) := by
  unfold Mir.chkT at h
  dsimp only at h
  generalize Mir.numsOf E T = ns at *
  by_cases c : (Mir.incB ns && ns.all (· < T.length)) = true
  · rw [if_pos c] at h
    obtain ⟨c1, c2⟩ := (Bool.and_eq_true _ _).mp c
    have c2 : ∀ n ∈ ns, n < T.length := fun n hn => of_decide_eq_true (List.all_eq_true.mp c2 n hn)
    cases e : Mir.leastM T ns most with
    | none => rw [e] at h; cases h
    | some o =>
      rw [e] at h
      cases o with
      | none =>
        dsimp only at h
        by_cases z : Mir.waysM T ns most = 0
        · rw [if_pos z] at h
          have := Option.some.inj h
          exact ⟨this.symm, c1, c2, .inl ⟨rfl, by omega⟩⟩
        · rw [if_neg z] at h
          cases h
      | some rs =>
        dsimp only at h
        by_cases z : Mir.waysM T ns most = 0
        · rw [if_pos z] at h
          cases h
        · rw [if_neg z] at h
          by_cases y : (Mir.rIncB 1 rs && decide (Mir.toldM T rs = some ns)) = true
          · rw [if_pos y] at h
            obtain ⟨y1, y2⟩ := (Bool.and_eq_true _ _).mp y
            have := Option.some.inj h
            exact ⟨this.symm, c1, c2, .inr ⟨rs, rfl, by omega, by rw [rInc_eq]; exact y1, of_decide_eq_true y2⟩⟩
          · rw [if_neg y] at h
            cases h
  · rw [if_neg c] at h
    cases h
theorem inV_tV (b : Int) : ∀ (n : Nat) (ns : List Nat), inV (tV b n) (ns.map (tV b)) = ns.contains n := fun n ns => by
  induction ns with
  | nil => rfl
  | cons x r ih =>
    rw [List.map_cons, List.contains_cons, ← ih]
    show (((b + (x : Int)) == (b + (n : Int))) || inV (tV b n) (r.map (tV b))) = _
    congr 1
    by_cases h : x = n
    · subst h
      simp
    · have h2 : ¬ ((b + (x : Int)) = (b + (n : Int))) := by omega
      have h3 : ¬ n = x := fun z => h z.symm
      rw [beq_eq_false_iff_ne.mpr h2, beq_eq_false_iff_ne.mpr h3]
theorem flat_tV (b : Int) (ns : List Nat) : (ns.map (tV b)).all flatV = true := by
  rw [List.all_eq_true]
  intro x hx
  obtain ⟨n, _, rfl⟩ := List.mem_map.mp hx
  rfl
theorem insU_len (x : Nat) : ∀ l : List Nat, (Mir.insU x l).length ≤ l.length + 1
  | [] => Nat.le_refl _
  | y :: r => by
    unfold Mir.insU
    have := insU_len x r
    split
    · exact Nat.le_refl _
    · split
      · exact Nat.le_succ _
      · rw [List.length_cons, List.length_cons]
        omega
theorem sortU_len : ∀ l : List Nat, (Mir.sortU l).length ≤ l.length
  | [] => Nat.le_refl _
  | x :: r => by
    have h1 := insU_len x (Mir.sortU r)
    have h2 := sortU_len r
    show (Mir.insU x (Mir.sortU r)).length ≤ r.length + 1
    omega
theorem evs_of {n : Nat} {l : List Nat} (h : ∀ x ∈ l, x < n) (h1 : l ≠ []) (h3 : l.length ≤ 3) : Mir.sortU l ∈ Mir.evs n := by
  unfold Mir.evs
  refine List.mem_filter.mpr ⟨win_of (sortU_inc l) fun x hx => h x (sortU_mem.mp hx), ?_⟩
  have h2 := sortU_len l
  have h4 : 0 < (Mir.sortU l).length := by
    cases l with
    | nil => exact absurd rfl h1
    | cons x r => exact List.length_pos_of_mem (sortU_mem.mpr List.mem_cons_self)
  rw [Bool.and_eq_true]
  exact ⟨decide_eq_true h4, decide_eq_true (by omega)⟩
/-! lists of whole numbers, compared -/
section
variable {K : PySem.W.Frag} {H : Hp}
theorem dp_allI : ∀ ns : List Int, DpAll K H (ns.map V.int) (ns.map PyData.int)
  | [] => .nil
  | n :: r => .cons (.int n) (dp_allI r)
theorem can_intsI : ∀ ns : List Int, PyData.canLayAll0 (ns.map PyData.int) = true
  | [] => by rw [List.map_nil, PyData.canLayAll0]
  | n :: r => by rw [List.map_cons, PyData.canLayAll0, can_intsI r, PyData.canLay0]; rfl
theorem dep_intsI : ∀ ns : List Int, PyData.depthAll (ns.map PyData.int) = 0
  | [] => by rw [List.map_nil, PyData.depthAll]
  | n :: r => by rw [List.map_cons, PyData.depthAll, dep_intsI r, PyData.depth]; rfl
theorem shaped_listI (ns : List Int) : SeqAt.shaped (.list (ns.map PyData.int)) = true := by
  unfold SeqAt.shaped
  rw [PyData.canLay0, can_intsI, PyData.depth, dep_intsI]
  decide
theorem rd_eqN {a b : Addr} {ns : List Int} {Q : VK} (ha : SqL K H a (ns.map V.int)) (hb : SqL K H b []) (h : Q (.bl (decide (ns = []))) H) : rEqD K (.ref a) (.ref b) H Q := by
  refine ⟨_, _, .lst ha (dp_allI ns), .lst hb .nil, shaped_listI _, shaped_listI [], ?_⟩
  rw [PyData.eqv]
  cases ns with
  | nil => rw [List.map_nil, PyData.eqvAll]; exact h
  | cons x r => rw [List.map_cons, PyData.eqvAll]; exact h
end
theorem StAt.of {H H' : Hp} {l : Addr} (h : StAt H l) (e : ∀ o, H l = some o → H' l = some o) : StAt H' l := by
  obtain ⟨x0, x1, x2, el, r⟩ := h
  exact ⟨x0, x1, x2, e _ el, r⟩
theorem idx_facts : ∀ {T : List Nat} {e : Nat}, e ∈ T → T[T.idxOf e]? = some e ∧ ∀ m, m < T.idxOf e → T[m]? ≠ some e
  | [], e, h => by cases h
  | x :: r, e, h => by
    by_cases c : x = e
    · subst c
      rw [List.idxOf_cons_self]
      exact ⟨rfl, fun m z => absurd z (Nat.not_lt_zero _)⟩
    · have hxe : (x == e) = false := beq_eq_false_iff_ne.mpr c
      rw [List.idxOf_cons, hxe, cond_false]
      rcases List.mem_cons.mp h with rfl | h
      · exact absurd rfl c
      obtain ⟨h1, h2⟩ := idx_facts h
      refine ⟨h1, fun m z => ?_⟩
      cases m with
      | zero => exact fun q => c (Option.some.inj q)
      | succ m => exact h2 m (by omega)
theorem forms_mono : ∀ {n m : Nat} {r : List Rec}, n ≤ m → r ∈ Mir.formsGo n → r ∈ Mir.formsGo m
  | n, 0, r, h, hr => by
    have : n = 0 := by omega
    rw [← this]
    exact hr
  | n, m + 1, r, h, hr => by
    by_cases c : n = m + 1
    · rw [← c]
      exact hr
    · exact List.mem_append.mpr (.inl (forms_mono (by omega) hr))
theorem forms_ok {m n : Nat} {r : List Rec} (hm : m ≤ 3) (hn : n < 7) (hr : r ∈ Mir.formsGo m) : rInc 1 r = true ∧ Mir.pOk n (Mir.wy0 n) r = true := by
  have := List.all_eq_true.mp (List.all_eq_true.mp Mir.chk_f n (List.mem_range.mpr hn)) r (forms_mono hm hr)
  obtain ⟨h1, h2⟩ := (Bool.and_eq_true _ _).mp this
  exact ⟨by rw [rInc_eq]; exact h1, h2⟩
theorem sum_snoc (l : List Nat) (a : Nat) : (l ++ [a]).sum = l.sum + a := by
  rw [List.sum_append]
  simp
structure SzOk (most size : Nat) : Prop where
  m1 : 2 ≤ most
  m2 : most ≤ 4
  s1 : 1 ≤ size
  s2 : size ≤ 7
  ck : Mir.chkA most size = true
section
variable {P : Program} {w : World} {K : PySem.W.Frag} {mg : Str → Option Value} {base : Heap}
def spRight : Sp := spOf (fun a : Addr × Nat × Nat => [.ref a.1, nV a.2.1, nV a.2.2]) (fun a H => StAt H a.1 ∧ SzOk a.2.1 a.2.2) (fun a H r H' => r = .bl true ∧ StAt H' a.1 ∧ Keep a.1 H H')
theorem ok_law_right (T : Txt K mg) : Cal P w K mg base "_law_right" ["_law_s", "_law_most", "_law_size"] 14 spRight := by
  have G_law_digit := ok_law_digit (P := P) (w := w) (base := base) T
  have G_law_windows := ok_law_windows (P := P) (w := w) (base := base) T
  have G_count_leading := ok_count_leading (P := P) (w := w) (base := base) T
  have G_least_leading := ok_least_leading (P := P) (w := w) (base := base) T
  have G_told_events := ok_told_events (P := P) (w := w) (base := base) T
  have G_law_row_of := ok_law_row_of (P := P) (w := w) (base := base) T
  have G_law_forms := ok_law_forms (P := P) (w := w) (base := base) T
  have G_law_late_of := ok_law_late_of (P := P) (w := w) (base := base) T
  have G_count_pasts := ok_count_pasts (P := P) (w := w) (base := base) T
  refine ⟨fn_mk T.F_law_right sc_law_right bd_law_right (spOf_len fun _ => rfl) (fun cdv A outer s H vs Q E0 hr h => ?_), T.F_law_right.elim fun _ F => F.kp, T.g__law_right⟩
  obtain ⟨⟨l, most, size⟩, rfl, ⟨hs, ok⟩, k⟩ := h
  dsimp only at hs ok k
  refine ⟨_, (pss_cons (ps_set (i := 3) sc_law_right.nd rfl (.inr rfl) (pe_op op_sub (pe_c G_law_digit (hr.mono (by omega)) rfl (pa_cons (pv 0) (pa_cons pe_int pa_nil))) pe_int)) (pss_cons (ps_set (i := 4) sc_law_right.nd rfl (.inl rfl) (pe_callB (cr_sortedSetK (w := w) rfl rfl) rfl T.z_sorted (by decide +kernel) (pa_cons (pe_callTy (cr_setOfIK (K := K) (w := w) rfl rfl rfl) rfl T.z_set (by decide +kernel) (pa_cons (pe_lc (own := [("_law_turn", 15)]) (by rfl) sc_law_right.nd (pi_range1 rfl T.z_range (pa_cons (pe_op op_add pe_int (pe_c G_law_digit (hr.mono (by omega)) rfl (pa_cons (pv 0) (pa_cons pe_int pa_nil)))) pa_nil)) (blkOk_by (own := [("_law_turn", 15)]) (N := ["_law_s", "_law_most", "_law_size", "_law_begin", "_law_events", "_law_by_streams", "_law_by_rows", "_law_stream", "_law_numbers", "_law_many", "_law_least", "_law_told", "_law_records", "_law_late", "_law_times", "_law_turn", "_law_time", "_law_one"]) (sc := defScope sf_law_right) (by decide +kernel)) (fun _ _ _ _ _ => (pg_name (i := 15) sc_law_right.nd rfl (by first | exact Or.inl rfl | exact Or.inr rfl))) (fun _ _ _ _ _ => pts_nil) (fun _ _ _ _ _ => (pe_op op_add (pv 3) (pe_c G_law_digit (hr.mono (by omega)) rfl (pa_cons (pv 0) (pa_cons (pv 2) pa_nil)))))) pa_nil)) pa_nil))) (pss_cons (ps_asg (pe_tup (pa_cons pe_int (pa_cons pe_int pa_nil))) (pg_tup rfl (pgs_cons (pg_name (i := 5) sc_law_right.nd rfl (.inl rfl)) (pgs_cons (pg_name (i := 6) sc_law_right.nd rfl (.inl rfl)) pgs_nil)))) (pss_cons (ps_for PassesOwn.never rfl (pi_list (pe_c G_law_windows (hr.mono (by omega)) rfl (pa_cons (pv 3) (pa_cons (pv 2) pa_nil)))) (pg_name (i := 7) sc_law_right.nd rfl (.inr rfl)) (pss_one (ps_if (pt_cmpR (op_eqD hr.units) (pe_lc (own := [("_law_time", 16)]) (by rfl) sc_law_right.nd (pi_list (pv 4)) (blkOk_by (own := [("_law_time", 16)]) (N := ["_law_s", "_law_most", "_law_size", "_law_begin", "_law_events", "_law_by_streams", "_law_by_rows", "_law_stream", "_law_numbers", "_law_many", "_law_least", "_law_told", "_law_records", "_law_late", "_law_times", "_law_turn", "_law_time", "_law_one"]) (sc := defScope sf_law_right) (by decide +kernel)) (fun _ _ _ _ _ => (pg_name (i := 16) sc_law_right.nd rfl (by first | exact Or.inl rfl | exact Or.inr rfl))) (fun _ _ _ _ _ => (pts_one (pt_cmpR (op_notIn_seqK (K := K) rfl) (pv 16) (pv 7) rfl))) (fun _ _ _ _ _ => (pv 16))) (pe_lst pa_nil) (nomark _)) (pss_cons (ps_setLc (i := 8) (own := [("_law_time", 16)]) (by rfl) sc_law_right.nd rfl rfl (sw_true rfl rfl rfl (by decide +kernel)) (pi_list (pv 4)) (blkOk_by (own := [("_law_time", 16)]) (N := ["_law_s", "_law_most", "_law_size", "_law_begin", "_law_events", "_law_by_streams", "_law_by_rows", "_law_stream", "_law_numbers", "_law_many", "_law_least", "_law_told", "_law_records", "_law_late", "_law_times", "_law_turn", "_law_time", "_law_one"]) (sc := defScope sf_law_right) (by decide +kernel)) (fun _ _ _ _ _ => (pg_name (i := 16) sc_law_right.nd rfl (by first | exact Or.inl rfl | exact Or.inr rfl))) (fun _ _ _ _ _ => pts_nil) (fun _ _ _ _ _ => (pe_bmK (K := K) rfl PySem.F.plainAttrs_list PySem.F.slot_list_index PySem.F.type_list_index (mt_indexK (K := K) rfl) (pv 7) (pa_cons (pv 16) pa_nil)))) (pss_cons (ps_par (i := 9) (j := 10) rfl sc_law_right.nd rfl rfl (by decide) rfl rfl (pa_cons (pe_c G_count_leading (hr.mono (by omega)) rfl (pa_cons (pv 7) (pa_cons (pv 8) (pa_cons (pv 1) pa_nil)))) (pa_cons (pe_c G_least_leading (hr.mono (by omega)) rfl (pa_cons (pv 7) (pa_cons (pv 8) (pa_cons (pv 1) pa_nil)))) pa_nil)) rfl) (pss_cons (ps_if (pt_cmpR op_ne (pe_cmpR op_eq (pv 9) pe_int (nomark _)) (pe_cmp (pc_isN (pv 10))) (nomark _)) (pss_one (ps_ret pe_bl)) pss_nil) (pss_cons (ps_set (i := 11) sc_law_right.nd rfl (.inl rfl) (pe_ifExp (pt_cmp (pc_notN (pv 10))) (pe_c G_told_events (hr.mono (by omega)) rfl (pa_cons (pe_c G_law_row_of (hr.mono (by omega)) rfl (pa_cons (pv 10) pa_nil)) (pa_cons (pv 7) pa_nil))) (pe_lst pa_nil))) (pss_cons (ps_if (PW.pt (pw_and (pt_cmp (pc_notN (pv 10))) (pw_and1 (pt_cmpR (op_neD hr.units) (pe_lc (own := [("_law_one", 17)]) (by rfl) sc_law_right.nd (pi_list (pv 11)) (blkOk_by (own := [("_law_one", 17)]) (N := ["_law_s", "_law_most", "_law_size", "_law_begin", "_law_events", "_law_by_streams", "_law_by_rows", "_law_stream", "_law_numbers", "_law_many", "_law_least", "_law_told", "_law_records", "_law_late", "_law_times", "_law_turn", "_law_time", "_law_one"]) (sc := defScope sf_law_right) (by decide +kernel)) (fun _ _ _ _ _ => (pg_name (i := 17) sc_law_right.nd rfl (by first | exact Or.inl rfl | exact Or.inr rfl))) (fun _ _ _ _ _ => pts_nil) (fun _ _ _ _ _ => (pe_fldK (K := K) rfl (pv 17) (by rfl)))) (pv 8) (nomark _))))) (pss_one (ps_ret pe_bl)) pss_nil) (pss_one (ps_set (i := 5) sc_law_right.nd rfl (.inl rfl) (pe_op op_add (pv 5) (pv 9))))))))) pss_nil))) (pss_cons (ps_for PassesOwn.never rfl (pi_list (pe_c G_law_forms (hr.mono (by omega)) rfl (pa_cons (pv 1) pa_nil))) (pg_name (i := 12) sc_law_right.nd rfl (.inl rfl)) (pss_cons (ps_set (i := 13) sc_law_right.nd rfl (.inr rfl) (pe_c G_law_late_of (hr.mono (by omega)) rfl (pa_cons (pv 12) pa_nil))) (pss_cons (ps_setLc (i := 14) (own := [("_law_time", 16)]) (by rfl) sc_law_right.nd rfl rfl (sw_true rfl rfl rfl (by decide +kernel)) (pi_list (pv 4)) (blkOk_by (own := [("_law_time", 16)]) (N := ["_law_s", "_law_most", "_law_size", "_law_begin", "_law_events", "_law_by_streams", "_law_by_rows", "_law_stream", "_law_numbers", "_law_many", "_law_least", "_law_told", "_law_records", "_law_late", "_law_times", "_law_turn", "_law_time", "_law_one"]) (sc := defScope sf_law_right) (by decide +kernel)) (fun _ _ _ _ _ => (pg_name (i := 16) sc_law_right.nd rfl (by first | exact Or.inl rfl | exact Or.inr rfl))) (fun _ _ _ _ _ => pts_nil) (fun _ _ _ _ _ => (pe_op op_add (pv 16) (pv 13)))) (pss_one (ps_set (i := 6) sc_law_right.nd rfl (.inl rfl) (pe_op op_add (pv 6) (pe_c G_count_pasts (hr.mono (by omega)) rfl (pa_cons (pe_c G_law_row_of (hr.mono (by omega)) rfl (pa_cons (pv 12) pa_nil)) (pa_cons (pv 14) (pa_cons (pv 3) (pa_cons (pe_op op_sub (pe_op op_add (pv 3) (pv 2)) pe_int) pa_nil))))))))))) (pss_one (ps_ret (pe_cmpR op_eq (pv 5) (pv 6) (nomark _))))))))), ?_⟩
  obtain ⟨m1, rfl⟩ : ∃ m1, most = m1 + 1 := ⟨most - 1, by have := ok.m1; omega⟩
  have ok1 := ok.m2
  have ok2 := ok.s1
  have ok3 := ok.s2
  -- begin
  refine ⟨_, rfl, (l, 50), rfl, ⟨hs, by show 1 ≤ 50; decide, by show 50 < 1000; decide⟩, ?_⟩
  rintro _ H1 ⟨⟨d0, rfl, hd0⟩, hs1, k1, f1⟩
  dsimp only at hs1 k1
  refine ⟨_, _, rfl, rfl, ?_⟩
  dsimp only
  generalize ((d0 : Nat) : Int) - 25 = b
  -- events
  refine ⟨_, rfl, (l, 3), rfl, ⟨hs1, by show 1 ≤ 3; decide, by show 3 < 1000; decide⟩, ?_⟩
  rintro _ H2 ⟨⟨d1, rfl, hd1⟩, hs2, k2, f2⟩
  dsimp only at hs2 k2 hd1
  have k12 : Keep l H H2 := k1.trans k2
  refine ⟨_, _, rfl, rfl, ((1 + d1 : Nat) : Int), rfl, by omega, by omega, fun D nD => lc_it (walk_range (lo := 0) (n := 1 + d1))
    (fun i H3 => StAt H3 l ∧ Keep l H H3 ∧ ∃ ds : List Nat, H3 D = some (.lst (ds.map (tV b))) ∧ ds.length = i ∧ ∀ x ∈ ds, x < size) ⟨?_, ?_, [], upd_same, rfl, fun x z => by cases z⟩ (fun _ _ _ _ => trivial) ?_ ?_⟩
  · exact hs2.of fun o e => up_old e nD
  · exact k12.trans (keep_of (same_upd1 nD))
  · rintro i x H3 H4 hi ⟨hs3, k3, ds, eD, ld, hds⟩ ⟨rfl, rfl⟩
    have nDl : D ≠ l := by
      obtain ⟨x0, x1, x2, el, _⟩ := hs2
      exact (ne_of_none el nD).symm
    have nDH : H D = none := by
      obtain ⟨x0, x1, x2, el, _⟩ := hs2
      exact k12.free el nD
    refine ⟨rfl, tYes_go ⟨_, rfl, _, rfl, _, rfl, (l, size), rfl, ⟨hs3, ok2, by show size < 1000; omega⟩, ?_⟩⟩
    rintro _ H5 ⟨⟨x, rfl, hx⟩, hs5, k5, f5⟩
    dsimp only at hs5 k5 hx
    refine ⟨_, _, rfl, rfl, _, k5 _ _ eD nDl, len_ok (by rw [List.length_map]; omega), hs5.of fun o e => by rw [upd_ne nDl.symm]; exact e, fun c o e n => ?_, ds ++ [x], ?_, ?_, fun y hy => ?_⟩
    · rw [upd_ne (ne_of_none e nDH)]
      exact k5 _ _ (k3 c o e n) n
    · rw [upd_same, List.map_append]
      rfl
    · rw [List.length_append, ld]
      rfl
    · rcases List.mem_append.mp hy with z | z
      · exact hds y z
      · rw [List.mem_singleton.mp z]
        exact hx
  rintro H3 ⟨hs3, k3, ds, eD, ld, hds⟩
  have hdE : Mir.sortU ds ∈ Mir.evs size := evs_of hds (fun z => by
    rw [z] at ld
    have ld : 0 = 1 + d1 := ld
    omega) (by omega)
  refine ⟨D, ds.map (fun (n : Nat) => b + (n : Int)), rfl, SqL.of (by rw [List.map_map]; exact eD), by rw [List.length_map]; omega, fun sa c hc nsa => ?_⟩
  rw [List.length_map] at hc
  have s4 : Same H3 (upd H3 sa (SetO w sa (fun k => decide (k ∈ ds.map (fun (n : Nat) => b + (n : Int)))) c)) := same_upd1 nsa
  refine ⟨sa, _, c, rfl, upd_same, by omega, fun ns g hi hm hln ng => ?_⟩
  obtain rfl := sorted_eq (f := fun (n : Nat) => b + (n : Int)) (fun x y h => by show b + (x : Int) < b + (y : Int); omega) hi hm
  have s5 := same_new (u := .lst (((Mir.sortU ds).map fun (n : Nat) => b + (n : Int)).map V.int)) s4 ng
  have eg : (upd (upd H3 sa (SetO w sa (fun k => decide (k ∈ ds.map (fun (n : Nat) => b + (n : Int)))) c)) g (.lst (((Mir.sortU ds).map fun (n : Nat) => b + (n : Int)).map V.int))) g = some (.lst ((Mir.sortU ds).map (tV b))) := by
    rw [upd_same, List.map_map]
    rfl
  generalize upd (upd H3 sa (SetO w sa (fun k => decide (k ∈ ds.map (fun (n : Nat) => b + (n : Int)))) c)) g (.lst (((Mir.sortU ds).map fun (n : Nat) => b + (n : Int)).map V.int)) = H5 at s5 eg ⊢
  clear hm hi hln
  generalize Mir.sortU ds = E at *
  have hck : Mir.chkE (m1 + 1) size E = true := List.all_eq_true.mp ok.ck E hdE
  have hck : Mir.sumT (((Mir.winGo size).filter (Mir.sub E)).map (Mir.chkT (m1 + 1) E)) = some (Mir.byRows (m1 + 1) size E) := of_decide_eq_true hck
  obtain ⟨hEw, hEl⟩ := List.mem_filter.mp hdE
  obtain ⟨hE0, hE3⟩ := (Bool.and_eq_true _ _).mp hEl
  have hE0 := of_decide_eq_true hE0
  have hE3 := of_decide_eq_true hE3
  -- the sums
  refine ⟨len_ok' (by show 2 ≤ 1000; decide), fun t2 nt2 => ⟨t2, _, rfl, SqT.of upd_same, rfl, _, _, rfl, _, _, rfl, rfl, ?_⟩⟩
  have s6 := same_new (u := .tup [V.int 0, V.int 0]) s5 nt2
  have eg6 := up_old (u := .tup [V.int 0, V.int 0]) eg nt2
  generalize upd H5 t2 (.tup [V.int 0, V.int 0]) = H6 at s6 eg6 ⊢
  have hs6 : StAt H6 l := hs3.of fun o e => s6 _ _ e
  have k6 : Keep l H H6 := k3.trans (keep_of s6)
  clear s5 s4 eg
  refine ⟨_, rfl, _, rfl, (b, size), rfl, ok3, ?_⟩
  rintro _ H8 ⟨wl, was, rfl, s8, ewl, hw⟩
  dsimp only at hw
  have eg8 := s8 _ _ eg6
  have hs8 : StAt H8 l := hs6.of fun o e => s8 _ _ e
  have k8 : Keep l H H8 := k6.trans (keep_of s8)
  refine ⟨wl, rfl, ⟨_, SqL.of ewl⟩, for_it (walk_list (K := K) (xs := was.map V.ref)) (fun i σ Hx => ∃ (a r : Nat) (y7 y8 y9 y10 y11 : Option V), σ = [some (.ref l), some (nV (m1 + 1)), some (nV size), some (.int b), some (.ref g), some (nV a), some (nV 0), y7, y8, y9, y10, y11, none, none, none, none, none, none] ∧ Same H8 Hx ∧
      Mir.sumT ((((Mir.winGo size).drop i).filter (Mir.sub E)).map (Mir.chkT (m1 + 1) E)) = some r ∧ a + r = Mir.byRows (m1 + 1) size E)
    ⟨0, _, none, none, none, none, none, rfl, Same.refl H8, hck, Nat.zero_add _⟩ (fun i σ Hx _ z => by
      obtain ⟨_, _, _, _, _, _, _, _, z, _⟩ := z
      exact SqL.of (z _ _ ewl)) ?_ ?_⟩
  · rintro i x σ Ha Hb hi ⟨a, r, y7, y8, y9, y10, y11, rfl, sx, hsum, har⟩ ⟨rfl, e1⟩
    obtain ⟨st, est, rfl⟩ := get_map e1
    obtain ⟨Tm, eT, hT⟩ := hw.get est
    have eT9 : Hb st = some (.lst (Tm.map (tV b))) := sx _ _ hT
    have egb := sx _ _ eg8
    have hTw := List.mem_of_getElem? eT
    have hTl := (win_mem hTw).1
    have hTi := win_inc hTw
    have hdr : (Mir.winGo size).drop i = Tm :: (Mir.winGo size).drop (i + 1) := by
      obtain ⟨h1, h2⟩ := List.getElem?_eq_some_iff.mp eT
      rw [List.drop_eq_getElem_cons h1, h2]
    rw [hdr, List.filter_cons] at hsum
    -- are all events in the stream?
    refine ⟨_, rfl, g, rfl, ⟨_, SqL.of egb⟩, fun D1 nD1 => lc_it (walk_list (K := K) (xs := E.map (tV b))) (fun j Hx => Same Hb Hx ∧ Hx D1 = some (.lst (((E.take j).filter (fun e => !Tm.contains e)).map (tV b)))) ⟨same_upd1 nD1, upd_same⟩ (fun j Hx _ z => SqL.of (z.1 _ _ egb)) ?_ ?_⟩
    · rintro j x Hc Hd hj ⟨sc, eD1⟩ ⟨rfl, e2⟩
      obtain ⟨e, he, rfl⟩ := get_map e2
      refine ⟨rfl, _, rfl, _, rfl, st, _, rfl, .inl (SqL.of (sc _ _ eT9)), rfl, flat_tV b Tm, _, rfl, ?_⟩
      rw [inV_tV]
      have et : E.take (j + 1) = E.take j ++ [e] := by
        rw [List.take_succ, he]
        rfl
      have ll : (E.take j).length ≤ 3 := by
        rw [List.length_take]
        omega
      have fl := List.length_filter_le (fun g => !Tm.contains g) (E.take j)
      cases hcon : Tm.contains e with
      | true =>
        refine iteF ⟨sc, ?_⟩
        rw [et, List.filter_append, eD1]
        simp only [List.filter, hcon, Bool.not_true, List.append_nil]
      | false =>
        refine iteT ⟨_, rfl, _, eD1, len_ok (by rw [List.length_map]; omega), same_up sc nD1, ?_⟩
        rw [upd_same, et, List.filter_append]
        simp only [List.filter, hcon, Bool.not_false, List.map_append]
        rfl
    rintro Hc ⟨sc, eD1⟩
    rw [List.length_map, List.take_length] at eD1
    refine ⟨len_ok' (by show 0 ≤ 1000; decide), fun l0 nl0 => rd_eqN (ns := (E.filter (fun e => !Tm.contains e)).map fun (n : Nat) => b + (n : Int)) (SqL.of (by rw [List.map_map]; exact up_old eD1 nl0)) (SqL.of upd_same) ⟨_, rfl, ?_⟩⟩
    have sd : Same Hb (upd Hc l0 (.lst [])) := same_new sc nl0
    generalize upd Hc l0 (.lst []) = Hd at sd ⊢
    have hdec : decide ((E.filter (fun e => !Tm.contains e)).map (fun (n : Nat) => b + (n : Int)) = []) = Mir.sub E Tm := by
      rw [← show Mir.isOpen E Tm = Mir.sub E Tm from rfl, ← open_filter]
      by_cases z : E.filter (fun e => !Tm.contains e) = []
      · rw [z]
        rfl
      · rw [decide_eq_false z, decide_eq_false fun q => z (List.map_eq_nil_iff.mp q)]
    rw [hdec]
    have sxd : Same H8 Hd := sx.trans sd
    cases hsub : Mir.sub E Tm with
    | false =>
      rw [hsub, if_neg Bool.false_ne_true] at hsum
      exact iteF ⟨a, r, _, _, _, _, _, rfl, sxd, hsum, har⟩
    | true =>
    rw [hsub, if_pos rfl, List.map_cons] at hsum
    refine iteT ?_
    cases hch : Mir.chkT (m1 + 1) E Tm with
    | none => rw [hch] at hsum; cases hsum
    | some ws =>
    rw [hch] at hsum
    obtain ⟨r', hr', hws⟩ := Option.map_eq_some_iff.mp (show (Mir.sumT ((((Mir.winGo size).drop (i + 1)).filter (Mir.sub E)).map (Mir.chkT (m1 + 1) E))).map (ws + ·) = some r from hsum)
    obtain ⟨hw1, hw2, hw3, hw4⟩ := chkT_facts hch
    have hnl : (Mir.numsOf E Tm).length = E.length := List.length_map ..
    have egd := sxd _ _ eg8
    have eTd := sd _ _ eT9
    -- numbers
    refine ⟨_, rfl, g, rfl, ⟨_, SqL.of egd⟩, fun D2 nD2 => lc_map (walk_list (K := K) (xs := E.map (tV b))) nD2 ((Mir.numsOf E Tm).map nV) (by rw [List.length_map, List.length_map, hnl]) (by rw [List.length_map]; omega) (fun Hx z => SqL.of (z _ _ egd)) ?_ (fun _ _ _ _ => gName_mono) ?_⟩
    · intro j x y Hx ex ey z Qe hq
      obtain ⟨e, he, rfl⟩ := get_map ex
      have ey2 : ((Mir.numsOf E Tm).map nV)[j]? = some (nV (Tm.idxOf e)) := map_get (map_get (f := fun e => Tm.idxOf e) he)
      obtain rfl := Option.some.inj (ey2.symm.trans ey)
      have hin : e ∈ Tm := by
        have := List.all_eq_true.mp hsub e (List.mem_of_getElem? he)
        simpa using this
      obtain ⟨i1, i2⟩ := idx_facts hin
      refine ⟨rfl, _, rfl, .inl ⟨rfl, _, SqL.of (z _ _ eTd)⟩, _, rfl, st, _, _, Tm.idxOf e, tV b e, rfl, rfl, SqL.of (z _ _ eTd), rfl, flat_tV b Tm, map_get i1, ?_, fun mm z' hmm hz' => ?_, hq⟩
      · show ((b + (e : Int)) == (b + (e : Int))) = true
        exact beq_self_eq_true _
      · obtain ⟨e', he', rfl⟩ := get_map hz'
        show ((b + (e' : Int)) == (b + (e : Int))) = false
        refine beq_eq_false_iff_ne.mpr fun q => i2 mm hmm ?_
        rw [he']
        congr 1
        omega
    intro He s9 enu
    have sxe : Same H8 He := sxd.trans s9
    have eTe := s9 _ _ eTd
    have qok : ∀ {Hx : Hp}, Same He Hx → QOk Hx ⟨st, b, Tm, D2, Mir.numsOf E Tm, m1 + 1⟩ := fun s => ⟨s _ _ eTe, s _ _ enu, hTi, by show Tm.length ≤ 7; omega, inc_pair hw2, hw3, ok1⟩
    have more : ∀ res, Mir.leastM Tm (Mir.numsOf E Tm) (m1 + 1) = some res → True := fun _ _ => trivial
    obtain ⟨res, hres⟩ : ∃ res, Mir.leastM Tm (Mir.numsOf E Tm) (m1 + 1) = some res := by
      rcases hw4 with ⟨z, _⟩ | ⟨rs, z, _⟩
      · exact ⟨_, z⟩
      · exact ⟨_, z⟩
    refine ⟨_, rfl, _, rfl, _, rfl, ⟨st, b, Tm, D2, Mir.numsOf E Tm, m1 + 1⟩, rfl, qok (Same.refl He), ?_⟩
    rintro _ Hf ⟨rfl, sf⟩
    dsimp only
    rw [← hw1]
    refine ⟨_, rfl, _, rfl, _, rfl, (⟨st, b, Tm, D2, Mir.numsOf E Tm, m1 + 1⟩, res), rfl, ⟨qok sf, hres⟩, ?_⟩
    rintro rl Hg ⟨hrl, sg⟩
    dsimp only at hrl
    have sfg := sf.trans sg
    have sxg := sxe.trans sfg
    refine ⟨_, _, rfl, ?_⟩
    refine ⟨_, rfl, rfl, _, rfl, rfl, _, rfl, ?_⟩
    have fin : ∀ {Hx : Hp} (y7 y8 y10 y11 : Option V), Same H8 Hx → ∃ (a' r'' : Nat) (z7 z8 z9 z10 z11 : Option V), [some (V.ref l), some (nV (m1 + 1)), some (nV size), some (V.int b), some (.ref g), some (V.int ((a : Int) + (ws : Int))), some (nV 0), y7, y8, some (nV ws), y10, y11, none, none, none, none, none, none] = [some (V.ref l), some (nV (m1 + 1)), some (nV size), some (.int b), some (.ref g), some (nV a'), some (nV 0), z7, z8, z9, z10, z11, none, none, none, none, none, none] ∧ Same H8 Hx ∧
        Mir.sumT ((((Mir.winGo size).drop (i + 1)).filter (Mir.sub E)).map (Mir.chkT (m1 + 1) E)) = some r'' ∧ a' + r'' = Mir.byRows (m1 + 1) size E := fun y7 y8 y10 y11 s => ⟨a + ws, r', y7, y8, some (nV ws), y10, y11, rfl, s, hr', by omega⟩
    rcases hw4 with ⟨hz1, hz2⟩ | ⟨rs, hz1, hz2, hz3, hz4⟩
    · rw [hres] at hz1
      have hz1 := Option.some.inj hz1
      subst hz1 hz2
      have hrl : rl = .non := hrl
      subst hrl
      refine iteF ?_
      refine ⟨_, rfl, _, rfl, iteF ⟨len_ok' (by show 0 ≤ 1000; decide), fun l2 nl2 => ?_⟩⟩
      refine ⟨_, rfl, _, rfl, iteF (iteF ⟨_, rfl, _, rfl, _, _, rfl, rfl, fin _ _ _ _ (same_new sxg nl2)⟩)⟩
    · rw [hres] at hz1
      have hz1 := Option.some.inj hz1
      subst hz1
      obtain ⟨t, rfl, hrec⟩ := hrl
      rw [decide_eq_false (show ¬ nV ws = V.int 0 from fun z => by injection z with z; omega)]
      refine iteF ?_
      have hlen : rs.length ≤ 1000 := by
        unfold Mir.leastM at hres
        cases hn : Mir.needM Tm (Mir.numsOf E Tm) (Mir.stretchM Tm (m1 + 1)) (List.range Tm.length) with
        | none => rw [hn] at hres; cases hres
        | some mm =>
          rw [hn] at hres
          obtain ⟨rs', hgo, hh⟩ := Option.map_eq_some_iff.mp (show (Mir.leastGo Tm (Mir.numsOf E Tm) mm (Mir.stretchM Tm (m1 + 1)) (List.range Tm.length)).map some = some (some rs) from hres)
          have hh := Option.some.inj hh
          subst hh
          obtain ⟨a1, a2⟩ := least_len hgo
          have : (Mir.stretchM Tm (m1 + 1)).length ≤ m1 + 1 + 1 - 2 := str_len _ _
          omega
      refine ⟨_, rfl, _, rfl, iteT ⟨_, rfl, (t, rs), rfl, ⟨hrec, hz3, hlen⟩, ?_⟩⟩
      rintro _ Hh ⟨p, rfl, sh, hrow⟩
      have sxh := sxg.trans sh
      have eTh := (sfg.trans sh) _ _ eTe
      refine ⟨_, rfl, (p, rs, st, b, Tm, Mir.numsOf E Tm), rfl, ⟨hrow, SqL.of eTh, inc_of b hTi, hlen, by show Tm.length ≤ 1000; omega, hz4⟩, ?_⟩
      rintro _ Hi ⟨tl, ms, rfl, si, etl, lms, hms⟩
      dsimp only at lms hms
      have sxi := sxh.trans si
      have enui := ((sfg.trans sh).trans si) _ _ enu
      refine ⟨_, rfl, _, rfl, iteT ⟨_, rfl, tl, rfl, ⟨_, SqL.of etl⟩, fun D3 nD3 => lc_map (walk_list (K := K) (xs := ms.map V.ref)) nD3 ((Mir.numsOf E Tm).map nV) (by rw [List.length_map, List.length_map, lms]) (by rw [List.length_map, lms, hnl]; omega) (fun Hx z => SqL.of (z _ _ etl)) ?_ (fun _ _ _ _ => gName_mono) ?_⟩⟩
      · intro j x y Hx ex ey z Qe hq
        obtain ⟨m, em, rfl⟩ := get_map ex
        obtain ⟨n, en, rfl⟩ := get_map ey
        obtain ⟨dm, fs, e1, e2⟩ := hms j m n em en
        exact ⟨rfl, _, rfl, m, _, dm, fs, _, rfl, z _ _ e1, T.c_Told, T.n_Told_number, e2, hq⟩
      · intro Hj sj eD3
        refine ⟨_, rfl, rd_neL (SqL.of eD3) (SqL.of (sj _ _ enui)) ⟨_, rfl, ?_⟩⟩
        rw [decide_eq_true rfl]
        exact iteF ⟨_, rfl, _, rfl, _, _, rfl, rfl, fin _ _ _ _ (sxi.trans sj)⟩
  -- the rows
  · rintro σ Ha ⟨a, r, y7, y8, y9, y10, y11, rfl, sx, hsum, har⟩
    rw [List.length_map, hw.len, List.drop_length] at hsum
    have hr0 : r = 0 := (Option.some.inj hsum).symm
    subst hr0
    rw [Nat.add_zero] at har
    subst har
    refine ⟨_, rfl, m1, rfl, by show m1 ≤ 3; omega, ?_⟩
    rintro _ Hb ⟨fl, fas, rfl, sb, efl, hf⟩
    have sxb := sx.trans sb
    have egb := sxb _ _ eg8
    refine ⟨fl, rfl, ⟨_, SqL.of efl⟩, for_it (walk_list (K := K) (xs := fas.map V.ref)) (fun i σ Hx => ∃ (y12 y13 y14 : Option V), σ = [some (.ref l), some (nV (m1 + 1)), some (nV size), some (.int b), some (.ref g), some (nV (Mir.byRows (m1 + 1) size E)), some (nV ((((Mir.formsGo m1).take i).map fun rs => Mir.pastsM rs E (size - 1)).sum)), y7, y8, y9, y10, y11, y12, y13, y14, none, none, none] ∧ Same Hb Hx)
      ⟨none, none, none, rfl, Same.refl Hb⟩ (fun i σ Hx _ z => by
        obtain ⟨_, _, _, _, z⟩ := z
        exact SqL.of (z _ _ efl)) ?_ ?_⟩
    · rintro i x σ Hc Hd hi ⟨y12, y13, y14, rfl, sc⟩ ⟨rfl, e1⟩
      obtain ⟨fa, efa, rfl⟩ := get_map e1
      obtain ⟨rs, ers, hrec0⟩ := hf.get efa
      have hrec : RecsT Hd fa rs := hrec0.sameT (sameT_of sc)
      have hrm := List.mem_of_getElem? ers
      obtain ⟨fi, fp⟩ := forms_ok (n := size - 1) (show m1 ≤ 3 by omega) (by omega) hrm
      have frl := forms_mem hrm
      have egd := (sxb.trans sc) _ _ eg8
      refine ⟨_, rfl, (fa, rs), rfl, ⟨hrec, by show rs.length ≤ 1000; omega⟩, ?_⟩
      rintro _ He ⟨rfl, se⟩
      dsimp only
      have ege := se _ _ egd
      refine ⟨_, rfl, g, rfl, ⟨_, SqL.of ege⟩, fun D4 nD4 => lc_map (walk_list (K := K) (xs := E.map (tV b))) nD4 (E.map fun (e : Nat) => V.int (b + (e : Int) + (((rs.map late).sum : Nat) : Int))) (by rw [List.length_map, List.length_map]) (by rw [List.length_map]; omega) (fun Hx z => SqL.of (z _ _ ege)) ?_ (fun _ _ _ _ => gName_mono) ?_⟩
      · intro j x y Hx ex ey z Qe hq
        obtain ⟨e, he, rfl⟩ := get_map ex
        have ey2 : (E.map fun (e : Nat) => V.int (b + (e : Int) + (((rs.map late).sum : Nat) : Int)))[j]? = some (V.int (b + (e : Int) + (((rs.map late).sum : Nat) : Int))) := map_get (f := fun (e : Nat) => V.int (b + (e : Int) + (((rs.map late).sum : Nat) : Int))) he
        obtain rfl := Option.some.inj (ey2.symm.trans ey)
        exact ⟨rfl, _, rfl, _, rfl, _, _, rfl, rfl, hq⟩
      intro Hf sf eD4
      have sdf := se.trans sf
      refine ⟨_, rfl, _, rfl, (fa, rs), rfl, ⟨hrec.sameT (sameT_of sdf), fi, by show rs.length ≤ 1000; omega⟩, ?_⟩
      rintro _ Hg ⟨p, rfl, sg, hrow⟩
      have pre : PastPre K Hg p rs D4 b E (size - 1) := ⟨hrow, fi, by omega, SqL.of (sg _ _ eD4), fun z => by rw [z] at hE0; exact Nat.lt_irrefl _ hE0, up_of (win_inc hEw), fun e he => by have := (win_mem hEw).2 e he; omega, by omega, by omega, fp⟩
      refine ⟨_, rfl, _, rfl, _, rfl, _, rfl, _, _, rfl, rfl, _, _, rfl, rfl, (p, rs, D4, b, E, size - 1), ?_, pre, ?_⟩
      · show [V.ref p, V.ref D4, V.int b, V.int (b + (size : Int) - 1)] = [V.ref p, V.ref D4, V.int b, V.int (b + ((size - 1 : Nat) : Int))]
        rw [show b + (size : Int) - 1 = b + ((size - 1 : Nat) : Int) by omega]
      rintro _ Hh ⟨rfl, sh⟩
      dsimp only
      refine ⟨_, _, rfl, rfl, some (.ref fa), some (nV (rs.map late).sum), some (.ref D4), ?_, ((sc.trans sdf).trans sg).trans sh⟩
      have es : ((((Mir.formsGo m1).take (i + 1)).map fun rs => Mir.pastsM rs E (size - 1)).sum) = ((((Mir.formsGo m1).take i).map fun rs => Mir.pastsM rs E (size - 1)).sum) + Mir.pastsM rs E (size - 1) := by
        rw [List.take_succ, ers, List.map_append]
        exact sum_snoc _ _
      rw [es]
      rfl
    · rintro σ Hc ⟨y12, y13, y14, rfl, sc⟩
      rw [List.length_map, hf.len, List.take_length]
      have sxc := sxb.trans sc
      refine ⟨_, rfl, _, rfl, rfl, k _ _ ⟨?_, hs8.of fun o e => sxc _ _ e, k8.trans (keep_of sxc)⟩⟩
      rw [decide_eq_true (show nV (Mir.byRows (m1 + 1) size E) = nV ((((Mir.formsGo m1).map fun rs => Mir.pastsM rs E (size - 1)).sum)) from rfl)]
end
end Qr
set_option maxHeartbeats 4000000
namespace Qr
open PySem PySem.Spec PyProof.Rows L2
theorem sz2 {d : Nat} (h : d < 7) : SzOk 2 (1 + d) := ⟨by omega, by omega, by omega, by omega, by
  have := List.all_eq_true.mp Mir.chk_2 d (List.mem_range.mpr h)
  rw [Nat.add_comm]
  exact this⟩
theorem sz3 {d : Nat} (h : d < 5) : SzOk 3 (3 + d) := ⟨by omega, by omega, by omega, by omega, by
  by_cases c : d < 4
  · have := List.all_eq_true.mp Mir.chk_3 d (List.mem_range.mpr c)
    rw [Nat.add_comm]
    exact this
  · rw [show d = 4 by omega]
    exact Mir.chk_37⟩
theorem sz4 {d : Nat} (h : d < 4) : SzOk 4 (3 + d) := ⟨by omega, by omega, by omega, by omega, by
  by_cases c : d < 3
  · have := List.all_eq_true.mp Mir.chk_4 d (List.mem_range.mpr c)
    rw [Nat.add_comm]
    exact this
  · rw [show d = 3 by omega]
    exact Mir.chk_46⟩
section
variable {P : Program} {w : World} {K : PySem.W.Frag} {mg : Str → Option Value} {base : Heap}
def spLaw (K : PySem.W.Frag) : Sp := spOf (fun a : Addr × List Int => [.ref a.1]) (fun a H => SqL K H a.1 (a.2.map V.int)) (fun a H r H' => r = .bl true)
theorem ok_law (T : Txt K mg) {fd : FuncData} (F : FnP K "law" "law" sf_law (He.ga K "law") fd) : FnOk P w K mg base CX0 15 (He.ga K "law") fd ["_law_script"] (spLaw K) := by
  have G_law_state := ok_law_state (P := P) (w := w) (base := base) T
  have G_law_cell_at := ok_law_cell_at (P := P) (w := w) (base := base) T
  have G_law_digit := ok_law_digit (P := P) (w := w) (base := base) T
  have G_law_right := ok_law_right (P := P) (w := w) (base := base) T
  refine F.ok sc_law (spOf_len fun _ => rfl) fun cdv A outer s H vs Q E0 hr h => ?_
  suffices hh : ∃ t, PSs (cxOf CX0 P w K mg base ["_law_script", "_law_k", "_law_s", "_law_most", "_law_size"] "law" (defScope sf_law) (He.ga K "law") cdv A outer s H E0).nox (defBody sf_law) t ∧ t { nx := fun _ H' => Q .non H', rt := Q } (start ["_law_script", "_law_k", "_law_s", "_law_most", "_law_size"] vs) H by
    obtain ⟨t, h1, h2⟩ := hh
    exact ⟨t, h1.nox, h2⟩
  obtain ⟨⟨sc, ns⟩, rfl, hS, k⟩ := h
  dsimp only at hS k
  refine ⟨_, (pss_cons (ps_for PassesOwn.never rfl (pi_range1 rfl T.z_range (pa_cons (pe_callB (call_max2 rfl) rfl T.z_max (by decide +kernel) (pa_cons pe_int (pa_cons (pe_callB (call_min2 rfl) rfl T.z_min (by decide +kernel) (pa_cons pe_int (pa_cons (pe_callB call_len_seq rfl T.z_len (by decide +kernel) (pa_cons (pv 0) pa_nil)) pa_nil))) pa_nil))) pa_nil)) (pg_name (i := 1) sc_law.nd rfl (.inl rfl)) (pss_cons (ps_set (i := 2) sc_law.nd rfl (.inl rfl) (pe_c G_law_state (hr.mono (by omega)) rfl (pa_cons (pe_c G_law_cell_at (hr.mono (by omega)) rfl (pa_cons (pv 0) (pa_cons (pv 1) pa_nil))) pa_nil))) (pss_one (ps_for PassesOwn.never rfl (pi_tup (pe_tup (pa_cons (pe_tup (pa_cons pe_int (pa_cons (pe_op op_add pe_int (pe_c G_law_digit (hr.mono (by omega)) rfl (pa_cons (pv 2) (pa_cons pe_int pa_nil)))) pa_nil))) (pa_cons (pe_tup (pa_cons pe_int (pa_cons (pe_op op_add pe_int (pe_c G_law_digit (hr.mono (by omega)) rfl (pa_cons (pv 2) (pa_cons pe_int pa_nil)))) pa_nil))) (pa_cons (pe_tup (pa_cons pe_int (pa_cons (pe_op op_add pe_int (pe_c G_law_digit (hr.mono (by omega)) rfl (pa_cons (pv 2) (pa_cons pe_int pa_nil)))) pa_nil))) pa_nil))))) (pg_tup rfl (pgs_cons (pg_name (i := 3) sc_law.nd rfl (.inl rfl)) (pgs_cons (pg_name (i := 4) sc_law.nd rfl (.inl rfl)) pgs_nil))) (pss_one (ps_if (pt_not (pt_val (pe_c G_law_right (hr.mono (by omega)) rfl (pa_cons (pv 2) (pa_cons (pv 3) (pa_cons (pv 4) pa_nil)))))) (pss_one (ps_ret pe_bl)) pss_nil)))))) (pss_one (ps_ret pe_bl))), ?_⟩
  refine ⟨_, rfl, sc, _, rfl, .inl hS, _, _, rfl, _, _, rfl, _, rfl, ?_, ?_, ?_⟩
  · split <;> split <;> omega
  · split <;> split <;> omega
  refine for_it (walk_range (lo := 0)) (fun i σ Hx => ∃ (y1 y2 y3 y4 : Option V), σ = [some (.ref sc), y1, y2, y3, y4] ∧ Same H Hx) ⟨none, none, none, none, rfl, Same.refl H⟩ (fun _ _ _ _ _ => trivial) ?_ ?_
  · rintro i x σ Ha Hb hi ⟨y1, y2, y3, y4, rfl, sa⟩ ⟨rfl, rfl⟩
    refine ⟨_, rfl, _, rfl, (sc, ns, i), ?_, sa.seq hS, ?_⟩
    · show [V.ref sc, V.int (0 + (i : Int))] = [V.ref sc, nV i]
      rw [Int.zero_add]
    rintro _ Hc ⟨⟨z, rfl⟩, rfl⟩
    refine ⟨z, rfl, trivial, ?_⟩
    rintro _ Hd ⟨l, rfl, nl, sl, hs0⟩
    have sd := sa.trans sl
    have nlH : H l = none := sa.free nl
    have lst0 : ∀ {Hx : Hp}, StAt Hx l → ∃ xs, Hx l = some (.lst xs) := fun h => by
      obtain ⟨x0, x1, x2, el, _⟩ := h
      exact ⟨_, el⟩
    -- the draws
    refine ⟨_, rfl, (l, 7), rfl, ⟨hs0, by show 1 ≤ 7; decide, by show 7 < 1000; decide⟩, ?_⟩
    rintro _ H1 ⟨⟨d1, rfl, hd1⟩, hs1, k1, f1⟩
    dsimp only at hs1 k1 hd1
    refine ⟨_, _, rfl, rfl, len_ok' (by show 2 ≤ 1000; decide), fun t1 nt1 => ?_⟩
    have e1 : (upd H1 t1 (.tup [V.int 2, V.int (1 + (d1 : Int))])) t1 = some (.tup [V.int 2, V.int (1 + (d1 : Int))]) := upd_same
    have hs1' : StAt (upd H1 t1 (.tup [V.int 2, V.int (1 + (d1 : Int))])) l := hs1.of fun o e => up_old e nt1
    have k1' : Keep l Hd (upd H1 t1 (.tup [V.int 2, V.int (1 + (d1 : Int))])) := k1.trans (keep_of (same_upd1 nt1))
    generalize upd H1 t1 (.tup [V.int 2, V.int (1 + (d1 : Int))]) = H1' at e1 hs1' k1' ⊢
    refine ⟨_, rfl, (l, 5), rfl, ⟨hs1', by show 1 ≤ 5; decide, by show 5 < 1000; decide⟩, ?_⟩
    rintro _ H2 ⟨⟨d2, rfl, hd2⟩, hs2, k2, f2⟩
    dsimp only at hs2 k2 hd2
    have tk : ∀ {Hx Hy : Hp} {t : Addr} {xs : List V}, StAt Hx l → Keep l Hx Hy → Hx t = some (.tup xs) → Hy t = some (.tup xs) := fun h kk e => by
      obtain ⟨ys, el⟩ := lst0 h
      exact kk _ _ e (ne_of e el (fun z => by cases z))
    have e12 := tk hs1' k2 e1
    refine ⟨_, _, rfl, rfl, len_ok' (by show 2 ≤ 1000; decide), fun t2 nt2 => ?_⟩
    have e2 : (upd H2 t2 (.tup [V.int 3, V.int (3 + (d2 : Int))])) t2 = some (.tup [V.int 3, V.int (3 + (d2 : Int))]) := upd_same
    have e12' := up_old (u := .tup [V.int 3, V.int (3 + (d2 : Int))]) e12 nt2
    have hs2' : StAt (upd H2 t2 (.tup [V.int 3, V.int (3 + (d2 : Int))])) l := hs2.of fun o e => up_old e nt2
    have k2' : Keep l Hd (upd H2 t2 (.tup [V.int 3, V.int (3 + (d2 : Int))])) := (k1'.trans k2).trans (keep_of (same_upd1 nt2))
    generalize upd H2 t2 (.tup [V.int 3, V.int (3 + (d2 : Int))]) = H2' at e2 e12' hs2' k2' ⊢
    refine ⟨_, rfl, (l, 4), rfl, ⟨hs2', by show 1 ≤ 4; decide, by show 4 < 1000; decide⟩, ?_⟩
    rintro _ H3 ⟨⟨d3, rfl, hd3⟩, hs3, k3, f3⟩
    dsimp only at hs3 k3 hd3
    have e13 := tk hs2' k3 e12'
    have e23 := tk hs2' k3 e2
    refine ⟨_, _, rfl, rfl, len_ok' (by show 2 ≤ 1000; decide), fun t3 nt3 => ?_⟩
    have e3 : (upd H3 t3 (.tup [V.int 4, V.int (3 + (d3 : Int))])) t3 = some (.tup [V.int 4, V.int (3 + (d3 : Int))]) := upd_same
    have e13' := up_old (u := .tup [V.int 4, V.int (3 + (d3 : Int))]) e13 nt3
    have e23' := up_old (u := .tup [V.int 4, V.int (3 + (d3 : Int))]) e23 nt3
    have hs3' : StAt (upd H3 t3 (.tup [V.int 4, V.int (3 + (d3 : Int))])) l := hs3.of fun o e => up_old e nt3
    have k3' : Keep l Hd (upd H3 t3 (.tup [V.int 4, V.int (3 + (d3 : Int))])) := (k2'.trans k3).trans (keep_of (same_upd1 nt3))
    generalize upd H3 t3 (.tup [V.int 4, V.int (3 + (d3 : Int))]) = H3' at e3 e13' e23' hs3' k3' ⊢
    refine ⟨len_ok' (by show 3 ≤ 1000; decide), fun tt ntt => ?_⟩
    have e4 : (upd H3' tt (.tup [V.ref t1, V.ref t2, V.ref t3])) tt = some (.tup [V.ref t1, V.ref t2, V.ref t3]) := upd_same
    have e14 := up_old (u := .tup [V.ref t1, V.ref t2, V.ref t3]) e13' ntt
    have e24 := up_old (u := .tup [V.ref t1, V.ref t2, V.ref t3]) e23' ntt
    have e34 := up_old (u := .tup [V.ref t1, V.ref t2, V.ref t3]) e3 ntt
    have hs4 : StAt (upd H3' tt (.tup [V.ref t1, V.ref t2, V.ref t3])) l := hs3'.of fun o e => up_old e ntt
    have k4 : Keep l Hd (upd H3' tt (.tup [V.ref t1, V.ref t2, V.ref t3])) := k3'.trans (keep_of (same_upd1 ntt))
    generalize upd H3' tt (.tup [V.ref t1, V.ref t2, V.ref t3]) = H4 at e4 e14 e24 e34 hs4 k4 ⊢
    refine ⟨tt, rfl, ⟨_, SqT.of e4⟩, for_it (walk_tup (K := K) (xs := [V.ref t1, V.ref t2, V.ref t3])) (fun j σ Hx => ∃ (y3 y4 : Option V), σ = [some (.ref sc), some (.int (0 + (i : Int))), some (.ref l), y3, y4] ∧ StAt Hx l ∧ Keep l H4 Hx)
      ⟨y3, y4, rfl, hs4, keep_of (Same.refl H4)⟩ (fun j σ Hx _ ⟨_, _, _, _, z⟩ => SqT.of (tk hs4 z e4)) ?_ ?_⟩
    · rintro j y σ Hx Hy hj ⟨y3, y4, rfl, hsx, kx⟩ ⟨rfl, ej⟩
      obtain ⟨t, m, n, rfl, et, hok⟩ : ∃ t m n, y = V.ref t ∧ Hy t = some (.tup [nV m, nV n]) ∧ SzOk m n := by
        have hj3 : j < 3 := hj
        match j, hj3, ej with
        | 0, _, ej => exact ⟨t1, 2, 1 + d1, (Option.some.inj ej).symm, tk hs4 kx e14, sz2 hd1⟩
        | 1, _, ej => exact ⟨t2, 3, 3 + d2, (Option.some.inj ej).symm, tk hs4 kx e24, sz3 hd2⟩
        | 2, _, ej => exact ⟨t3, 4, 3 + d3, (Option.some.inj ej).symm, tk hs4 kx e34, sz4 hd3⟩
      refine ⟨t, _, rfl, SqT.of et, rfl, _, _, rfl, _, _, rfl, rfl, ?_⟩
      refine ⟨_, rfl, _, rfl, _, rfl, (l, m, n), rfl, ⟨hsx, hok⟩, ?_⟩
      rintro _ Hz ⟨rfl, hsz, kz⟩
      exact ⟨_, rfl, iteF ⟨_, _, rfl, hsz, kx.trans kz⟩⟩
    · rintro σ Hx ⟨y3, y4, rfl, hsx, kx⟩
      refine ⟨_, _, _, _, rfl, fun b o e => ?_⟩
      have nb := ne_of_none e nlH
      exact kx _ _ (k4 _ _ (sd b o e) nb) nb
  · rintro σ Hx ⟨y1, y2, y3, y4, rfl, sx⟩
    exact k _ _ rfl
end
end Qr
set_option maxHeartbeats 0
namespace Qr
open PySem PySem.Spec PyProof.Rows L2
theorem facts {P : Program} {w : World} {K : PySem.W.Frag} {h : Heap} {mg : Str → Option Value} {f : Addr} (X : K.In h) (G : h.Ns mainGlobals mg) (hfa : mg ("law" : Str) = some (.ref f)) (c : He.SaysD fa fn K) (m : ex K = true) :
    ∃ fd : FuncData, (∀ (s : Shared) (v : Value), BindsTo s fd ⟨[v], []⟩ [("_law_script", v)]) ∧ ∀ base : Heap, K.In base → base.Ns mainGlobals mg → FnOk P w K mg base CX0 15 f fd ["_law_script"] (spLaw K) := by
  have T : Txt K mg := ⟨⟨h, X, G⟩, c, m⟩
  obtain ⟨fd, F⟩ := T.F_law
  have e := hfa.symm.trans T.g_law
  cases e
  have b := FunD.bindsA (ps := ["_law_script"]) F fun _ _ _ _ _ _ us hl => match us, hl with | [_], _ => rfl
  exact ⟨fd, fun s v => b s [v] rfl, fun base _ _ => ok_law T F⟩
end Qr
open PySem PySem.W PySem.Calls PyProof.Rows
theorem PySem.Challenge.cw_quietrows_k94_whole_streams_and_rows_cou_holds : PySem.Challenge.rw_quietrows_k94_whole_streams_and_rows_cou.Holds := by
  w_on; o_law
  refine HandSHeadRun.head_any (r := OpenLaw.row PySem.Challenge.rw_quietrows_k94_whole_streams_and_rows_cou) (q := view (OpenLaw.row PySem.Challenge.rw_quietrows_k94_whole_streams_and_rows_cou).prog [55]) (H := Qr.hk) (ob := Qr.ob) (M := 20000) (loose := Qr.names) (d := HandSHeadRun.topDef (OpenLaw.row PySem.Challenge.rw_quietrows_k94_whole_streams_and_rows_cou).prog 55) (kwd := []) Qr.ob_eq
    (by kernel_rfl) (fun s => by kernel_rfl) Qr.run (by kernel_rfl) (by kernel_rfl) (by kernel_rfl) (by rfl) (by first | assumption | decide +kernel) (by decide +kernel) ⟨rfl, rfl, rfl, rfl, rfl, by decide +kernel⟩ ?hw ?hc
  case hw => w_witness2
  case hc =>
    refine L2.walk_ofE (l := PySem.Challenge.rw_quietrows_k94_whole_streams_and_rows_cou) (n := 63) (k := 15) (x := "_law_script") (CX := L2.CX0) rfl (by decide) (by kernel_rfl) ⟨rfl, by decide, by decide⟩ ?F (fun _ _ _ _ z => z)
    intro w mg fa h Y G hmg0
    obtain ⟨K, KX, c⟩ := Y
    have hmg : mg ("law" : PySem.Str) = some (.ref fa) := by
      have e : (HandSHeadRun.topDef (OpenLaw.row PySem.Challenge.rw_quietrows_k94_whole_streams_and_rows_cou).prog 55).name = ("law" : PySem.Str) := by kernel_rfl
      rw [← e]
      exact hmg0
    obtain ⟨fd, hb, hF⟩ := Qr.facts (P := (PySem.Challenge.rw_quietrows_k94_whole_streams_and_rows_cou).prog) (w := w) KX G hmg c.t.d c.more
    exact ⟨K, fd, Qr.spLaw K, KX, hb, fun H a ns hl _ hS => ⟨(a, ns), rfl, hS, fun r H' e => e⟩, hF⟩
