import PyProof.Rows.All
import Wide.All
import OpenK.AllK
import Wide.FinOn
import PyProof.EqAt
import PyProof.EqKinds
import PyProof.TupleCall
import KE.GoesEnum
import KE.DataMinMax
import PyProof.ReprRoads
import PyProof.ReprLen
import HandS.ForMost
import HandS.IsInst
import HandS.Zip
import HandS.Style
import HandS.TupAny
import HandS.TupMul
import HandS.Star
import HandS.Walk
import HandS.Defaults
import HandS.IterVal
import PySem.Challenge.RW_newsbehind_k53_whole_stops_are_late_news
set_option linter.all false
set_option autoImplicit false
/-! A small language for the pure part of the program and of the law: data, syntax, an evaluator that answers none where it does not know. -/
namespace NB

/-- the words that stand in the program's data -/
inductive Wd
  | w_is | w_hear | w_least | w_most | w_add | w_middle | w_times | w_part | w_clip | w_from | w_bar | w_row | w_none | w_both | w_falls | w_rises
  deriving DecidableEq
def Wd.s : Wd → String
  | .w_is => "is" | .w_hear => "hear" | .w_least => "least" | .w_most => "most" | .w_add => "add" | .w_middle => "middle" | .w_times => "times" | .w_part => "part"
  | .w_clip => "clip" | .w_from => "from" | .w_bar => "bar" | .w_row => "row" | .w_none => "none" | .w_both => "both" | .w_falls => "falls" | .w_rises => "rises"

/-- data: lists are told by their items; deal is the law's source of draws; rep d is the written form of d -/
inductive D where
  | int (i : Int) | str (w : Wd) | bl (b : Bool) | non
  | tup (ds : List D) | lst (ds : List D) | deal | rep (d : D)

/-- the source of draws: the great cells, the blend -/
structure Dl where
  cs : List Int
  z : Int

inductive Bin | add | sub | mul | fdiv | lt | le | gt | ge | eq | ne | isS | isNot | inn
  deriving DecidableEq
inductive Ty | tuple | str | int | bool
  deriving DecidableEq
inductive B | len | all | mn | mx | sum | sorted | tuple | list | repr
  deriving DecidableEq
/-- the defs that are walked by the evaluator -/
inductive F
  | is_integer | is_number | is_index | is_worth | is_head | parts_of | branches | made | told_by | told | is_state | wanted | is_past | is_house_lateness | is_lateness | can_follow | fault_of | is_run
  | shows_next | moves_of | stopped_shown | aged | plain_run | entries_for | range_of | house_range | is_rising_row | turn_of | words_within | ways | one_way | heard_ends | stepped | first_ends | rows_of_ends
  | last_ends | rounds_needed | rests_always | the_rest | settled_from | settled_with
  | l_any | l_of | l_rule | l_net | l_parts | l_branches | l_made | l_told | l_wants | l_past | l_hears | l_stopped
  deriving DecidableEq
inductive Tg | one (i : Nat) | many (is : List Nat)
  deriving DecidableEq

/-- expressions, lists of them (nil, cons, star), what a for walks (itS, itR1, itR2, itZ, itE), a part left out (nop) -/
inductive E where
  | var (i : Nat) | glob (x : String) (c : Int)
  | int (i : Int) | neg (i : Int) | str (w : Wd) | bl (b : Bool) | non
  | tup (es : E) | lst (es : E)
  | bin (o : Bin) (a b : E) | chain (a b c : E)
  | and (a b : E) | or (a b : E) | one (a : E) | not (a : E) | ite (c a b : E)
  | ix (a i : E) | sl (a lo hi : E) | isi (a : E) (T : Ty)
  | fn (b : B) (es : E) | call (f : F) (es : E) | callk (f : F) (ks : List Nat) (es : E)
  | lc (own : List Nat) (tg : Tg) (it c elt : E)
  | itS (a : E) | itR1 (a : E) | itR2 (a b : E) | itZ (a b : E) | itE (a : E)
  | nil | cons (a r : E) | star (a r : E) | nop
/-- how a statement's expression is taken: full: the lists that the def is making may be read, and the answer holds no list; own: it is a list that this def makes and may change -/
structure Md where
  full : Bool
  own : Bool
inductive S where
  | ret (e : E)
  | set (x : Nat) (e : E) (m : Md)
  | par (ps : List (Nat × E × Md))
  | unp (xs : List Nat) (e : E) (m : Md)
  | sto (x : Nat) (i e : E) (m : Md)
  | app (x : Nat) (e : E) (m : Md)
  | ext (x : Nat) (e : E) (m : Md)
  | drop (e : E)
  | ife (c : E) (a b : S)
  | for (tg : Tg) (it : E) (body : S)
  | whl (c : E) (body : S)
  | never
  | skip | seq (a b : S)
  | frz (x : Nat) (rest : S)

/-! ### values -/
def intOf : D → Option Int
  | .int i => some i
  | _ => none
def blOf : D → Option Bool
  | .bl b => some b
  | _ => none
def wdOf : D → Option Wd
  | .str w => some w
  | _ => none
def intsOf : List D → Option (List Int)
  | [] => some []
  | d :: ds => match intOf d, intsOf ds with
    | some i, some is => some (i :: is)
    | _, _ => none
def blsOf : List D → Option (List Bool)
  | [] => some []
  | d :: ds => match blOf d, blsOf ds with
    | some i, some is => some (i :: is)
    | _, _ => none
def wdsOf : List D → Option (List Wd)
  | [] => some []
  | d :: ds => match wdOf d, wdsOf ds with
    | some i, some is => some (i :: is)
    | _, _ => none
/-- a list's or a tuple's items -/
def seqOf : D → Option (List D)
  | .tup ds => some ds
  | .lst ds => some ds
  | _ => none
mutual
/-- no list, no source of draws within -/
def flat : D → Bool
  | .int _ => true | .str _ => true | .bl _ => true | .non => true | .rep _ => true | .lst _ => false | .deal => false
  | .tup ds => flats ds
def flats : List D → Bool
  | [] => true
  | d :: ds => flat d && flats ds
end
/-- plain data of a small depth: what == is asked of -/
def fitN : Nat → D → Bool
  | _, .int _ => true
  | _, .str _ => true
  | _, .bl _ => true
  | _, .non => true
  | n + 1, .tup ds => ds.all (fitN n)
  | n + 1, .lst ds => ds.all (fitN n)
  | _, _ => false
mutual
/-- is it the same datum -/
def same : D → D → Bool
  | .int i, .int j => decide (i = j)
  | .str a, .str b => decide (a = b)
  | .bl a, .bl b => decide (a = b)
  | .non, .non => true
  | .tup a, .tup b => sames a b
  | .lst a, .lst b => sames a b
  | .rep a, .rep b => same a b
  | _, _ => false
def sames : List D → List D → Bool
  | [], [] => true
  | a :: as, b :: bs => same a b && sames as bs
  | _, _ => false
end
mutual
/-- ==, where it is known -/
def eqD : D → D → Option Bool
  | .int i, .int j => some (decide (i = j))
  | .str a, .str b => some (decide (a = b))
  | .bl a, .bl b => some (decide (a = b))
  | .non, .non => some true
  | .tup a, .tup b => eqDs a b
  | .lst a, .lst b => eqDs a b
  | _, _ => none
def eqDs : List D → List D → Option Bool
  | [], [] => some true
  | [], _ :: _ => some false
  | _ :: _, [] => some false
  | a :: as, b :: bs => match eqD a b with
    | some true => eqDs as bs
    | some false => some false
    | none => none
end
def minL : Int → List Int → Int
  | a, [] => a
  | a, b :: r => minL (if b < a then b else a) r
def maxL : Int → List Int → Int
  | a, [] => a
  | a, b :: r => maxL (if b > a then b else a) r
def insI (a : Int) : List Int → List Int
  | [] => [a]
  | b :: r => if a ≤ b then a :: b :: r else b :: insI a r
def sortI : List Int → List Int
  | [] => []
  | a :: r => insI a (sortI r)
/-- a tuple of tuples of small numbers: what repr is asked of -/
def smallI : D → Bool
  | .int i => decide (-1000000 < i ∧ i < 1000000)
  | _ => false
def smallT : D → Bool
  | .tup es => decide (es.length ≤ 100) && es.all smallI
  | _ => false
def okRep : D → Bool
  | .tup ds => decide (ds.length ≤ 100) && ds.all smallT
  | _ => false

/-- one argument that is a list or a tuple -/
def seq1 : List D → Option (List D)
  | [d] => seqOf d
  | _ => none
/-- one argument that is a list -/
def lst1 : List D → Option (List D)
  | [.lst ds] => some ds
  | _ => none
def int2 : List D → Option (Int × Int)
  | [.int a, .int b] => some (a, b)
  | _ => none
def evMM (f : Int → Int → Int) (g : Int → List Int → Int) (ds : List D) : Option D :=
  match int2 ds with
  | some (a, b) => some (.int (f a b))
  | none => match seq1 ds with
    | some es => match intsOf es with
      | some (a :: r) => some (.int (g a r))
      | _ => none
    | none => none
def evSort (ds : List D) : Option D :=
  match lst1 ds with
  | some es => match intsOf es with
    | some ns => if ns.length < 64 then some (.lst ((sortI ns).map .int)) else none
    | none => none
  | none => none
def evRep : List D → Option D
  | [d] => if okRep d then some (.rep d) else none
  | _ => none
def evB (b : B) (ds : List D) : Option D :=
  match b with
  | .len => (seq1 ds).map fun es => .int es.length
  | .all => (lst1 ds).bind fun es => (blsOf es).map fun bs => .bl (bs.all id)
  | .mn => evMM (fun a b => if b < a then b else a) minL ds
  | .mx => evMM (fun a b => if b > a then b else a) maxL ds
  | .sum => (lst1 ds).bind fun es => (intsOf es).map fun ns => .int ns.sum
  | .sorted => evSort ds
  | .tuple => (seq1 ds).map .tup
  | .list => (seq1 ds).map .lst
  | .repr => evRep ds

def evEq (a b : D) : Option Bool :=
  match a, b with
  | .rep x, .rep y => if same x y then some true else none
  | _, _ => if fitN 6 a = true ∧ fitN 6 b = true then eqD a b else none
def ii (f : Int → Int → D) : D → D → Option D
  | .int i, .int j => some (f i j)
  | _, _ => none
def evAdd : D → D → Option D
  | .int i, .int j => some (.int (i + j))
  | .lst a, .lst b => if a.length + b.length ≤ 100000 then some (.lst (a ++ b)) else none
  | .tup a, .tup b => if a.length + b.length ≤ 100000 then some (.tup (a ++ b)) else none
  | _, _ => none
def evMul : D → D → Option D
  | .int i, .int j => if -(2 ^ 64) < i ∧ i < 2 ^ 64 then some (.int (i * j)) else none
  | .lst [d], .int k => if 0 ≤ k ∧ k ≤ 1000 then some (.lst (List.replicate k.toNat d)) else none
  | .tup [d], .int k => if 1 ≤ k ∧ k ≤ 1000 then some (.tup (List.replicate k.toNat d)) else none
  | _, _ => none
def evFdiv : D → D → Option D
  | .int i, .int j => if j ≠ 0 ∧ j.natAbs < 1073741824 then some (.int (i.fdiv j)) else none
  | _, _ => none
/-- is, is not: against None, or two truth values -/
def evIs : D → D → Option Bool
  | .bl a, .bl b => some (decide (a = b))
  | .non, .non => some true
  | .int _, .non => some false
  | .str _, .non => some false
  | .bl _, .non => some false
  | .tup _, .non => some false
  | .lst _, .non => some false
  | _, _ => none
def evIn (a b : D) : Option Bool :=
  match seqOf b with
  | none => none
  | some ds => match a with
    | .int i => (intsOf ds).map fun ns => decide (i ∈ ns)
    | .str w => (wdsOf ds).map fun ws => decide (w ∈ ws)
    | _ => none
def evBin (o : Bin) (a b : D) : Option D :=
  match o with
  | .add => evAdd a b
  | .sub => ii (fun i j => .int (i - j)) a b
  | .mul => evMul a b
  | .fdiv => evFdiv a b
  | .lt => ii (fun i j => .bl (decide (i < j))) a b
  | .le => ii (fun i j => .bl (decide (i ≤ j))) a b
  | .gt => ii (fun i j => .bl (decide (j < i))) a b
  | .ge => ii (fun i j => .bl (decide (j ≤ i))) a b
  | .eq => (evEq a b).map .bl
  | .ne => (evEq a b).map fun r => .bl (!r)
  | .isS => (evIs a b).map .bl
  | .isNot => (evIs a b).map fun r => .bl (!r)
  | .inn => (evIn a b).map .bl
/-- an item by its index -/
def atD (ds : List D) (i : Int) : Option D := if 0 ≤ i then ds[i.toNat]? else if -(ds.length : Int) ≤ i then ds[(i + ds.length).toNat]? else none
def evIx : D → D → Option D
  | .tup ds, .int i => atD ds i
  | .lst ds, .int i => atD ds i
  | _, _ => none
def cutAt (n d : Nat) : Option Int → Nat
  | none => d
  | some v => if v < 0 then (v + n).toNat else min v.toNat n
def cutD (ds : List D) (lo hi : Option Int) : List D := (ds.drop (cutAt ds.length 0 lo)).take (cutAt ds.length ds.length hi - cutAt ds.length 0 lo)
def evSl (a : D) (lo hi : Option Int) : Option D :=
  match a with
  | .tup ds => some (.tup (cutD ds lo hi))
  | .lst ds => some (.lst (cutD ds lo hi))
  | _ => none
def evIsi : D → Ty → Option Bool
  | .int _, .int => some true | .int _, _ => some false
  | .bl _, .int => some true | .bl _, .bool => some true | .bl _, _ => some false
  | .str _, .str => some true | .str _, _ => some false
  | .tup _, .tuple => some true | .tup _, _ => some false
  | .lst _, _ => some false
  | .non, _ => some false
  | _, _ => none
abbrev Env := List (Option D)
def asg : Tg → Env → D → Option Env
  | .one i, ρ, d => some (ρ.set i (some d))
  | .many is, ρ, .tup ds => if ds.length = is.length then some ((is.zip ds).foldl (fun r p => r.set p.1 (some p.2)) ρ) else none
  | _, _, _ => none
def wipeE (ρ : Env) : List Nat → Env
  | [] => ρ
  | v :: vs => (wipeE ρ vs).set v none
def enumD : Nat → List D → List D
  | _, [] => []
  | k, d :: ds => .tup [.int k, d] :: enumD (k + 1) ds
/-- a comprehension over its items -/
def compGo (tst : Env → Dl → Option (Bool × Dl)) (elt : Env → Dl → Option (D × Dl)) (tg : Tg) (ρ : Env) : List D → Dl → Option (List D × Dl)
  | [], δ => some ([], δ)
  | x :: xs, δ => do
    let ρ1 ← asg tg ρ x
    let (b, δ1) ← tst ρ1 δ
    if b then
      let (d, δ2) ← elt ρ1 δ1
      let (ds, δ3) ← compGo tst elt tg ρ xs δ2
      some (d :: ds, δ3)
    else compGo tst elt tg ρ xs δ1
abbrev CF := F → List D → Dl → Option (D × Dl)
mutual
def evE (cf : CF) : E → Env → Dl → Option (D × Dl)
  | .var i, ρ, δ => match ρ[i]? with | some (some d) => some (d, δ) | _ => none
  | .glob _ c, _, δ => some (.int c, δ)
  | .int i, _, δ => some (.int i, δ)
  | .neg i, _, δ => some (.int (-i), δ)
  | .str w, _, δ => some (.str w, δ)
  | .bl b, _, δ => some (.bl b, δ)
  | .non, _, δ => some (.non, δ)
  | .tup es, ρ, δ => do let (ds, δ) ← evL cf es ρ δ; if ds.length ≤ 100000 then some (.tup ds, δ) else none
  | .lst es, ρ, δ => do let (ds, δ) ← evL cf es ρ δ; if ds.length ≤ 100000 then some (.lst ds, δ) else none
  | .bin o a b, ρ, δ => do
    let (x, δ) ← evE cf a ρ δ
    let (y, δ) ← evE cf b ρ δ
    let r ← evBin o x y
    some (r, δ)
  | .chain a b c, ρ, δ => do
    let (x, δ) ← evE cf a ρ δ
    let (y, δ) ← evE cf b ρ δ
    let i ← intOf x
    let j ← intOf y
    if i ≤ j then
      let (z, δ) ← evE cf c ρ δ
      let k ← intOf z
      some (.bl (decide (j ≤ k)), δ)
    else some (.bl false, δ)
  | .and a b, ρ, δ => do
    let (x, δ) ← evE cf a ρ δ
    let c ← blOf x
    if c then evE cf b ρ δ else some (.bl false, δ)
  | .or a b, ρ, δ => do
    let (x, δ) ← evE cf a ρ δ
    let c ← blOf x
    if c then some (.bl true, δ) else evE cf b ρ δ
  | .one a, ρ, δ => evE cf a ρ δ
  | .not a, ρ, δ => do
    let (x, δ) ← evE cf a ρ δ
    let c ← blOf x
    some (.bl (!c), δ)
  | .ite c a b, ρ, δ => do
    let (x, δ) ← evE cf c ρ δ
    let c ← blOf x
    if c then evE cf a ρ δ else evE cf b ρ δ
  | .ix a i, ρ, δ => do
    let (x, δ) ← evE cf a ρ δ
    let (y, δ) ← evE cf i ρ δ
    let r ← evIx x y
    some (r, δ)
  | .sl a lo hi, ρ, δ => do
    let (x, δ) ← evE cf a ρ δ
    let (l, δ) ← evO cf lo ρ δ
    let (h, δ) ← evO cf hi ρ δ
    let r ← evSl x l h
    some (r, δ)
  | .isi a T, ρ, δ => do
    let (x, δ) ← evE cf a ρ δ
    let r ← evIsi x T
    some (.bl r, δ)
  | .fn b es, ρ, δ => do
    let (ds, δ) ← evL cf es ρ δ
    let r ← evB b ds
    some (r, δ)
  | .call f es, ρ, δ => do
    let (ds, δ) ← evL cf es ρ δ
    cf f ds δ
  | .callk f ks es, ρ, δ => do
    let (ds, δ) ← evL cf es ρ δ
    let ds' ← ks.mapM fun k => ds[k]?
    cf f ds' δ
  | .lc own tg it c elt, ρ, δ => do
    let (xs, δ) ← evI cf it ρ δ
    if xs.length ≤ 100000 then
      let (ds, δ) ← compGo (fun r δ => evT cf c r δ) (fun r δ => evE cf elt r δ) tg (wipeE ρ own) xs δ
      some (.lst ds, δ)
    else none
  | _, _, _ => none
/-- a test; nop: none stands there -/
def evT (cf : CF) : E → Env → Dl → Option (Bool × Dl)
  | .nop, _, δ => some (true, δ)
  | .one a, ρ, δ => do
    let (x, δ) ← evE cf a ρ δ
    let b ← blOf x
    some (b, δ)
  | _, _, _ => none
def evO (cf : CF) : E → Env → Dl → Option (Option Int × Dl)
  | .nop, _, δ => some (none, δ)
  | .one a, ρ, δ => do
    let (x, δ) ← evE cf a ρ δ
    let i ← intOf x
    some (some i, δ)
  | _, _, _ => none
def evL (cf : CF) : E → Env → Dl → Option (List D × Dl)
  | .nil, _, δ => some ([], δ)
  | .cons a r, ρ, δ => do
    let (x, δ) ← evE cf a ρ δ
    let (xs, δ) ← evL cf r ρ δ
    some (x :: xs, δ)
  | .star a r, ρ, δ => do
    let (x, δ) ← evE cf a ρ δ
    let ys ← seqOf x
    let (xs, δ) ← evL cf r ρ δ
    some (ys ++ xs, δ)
  | _, _, _ => none
def evI (cf : CF) : E → Env → Dl → Option (List D × Dl)
  | .itS a, ρ, δ => do
    let (x, δ) ← evE cf a ρ δ
    let ds ← seqOf x
    some (ds, δ)
  | .itR1 a, ρ, δ => do
    let (x, δ) ← evE cf a ρ δ
    let j ← intOf x
    if -(2 ^ 62) ≤ j ∧ j < 2 ^ 62 then some ((List.range j.toNat).map fun (i : Nat) => .int (0 + (i : Int)), δ) else none
  | .itR2 a b, ρ, δ => do
    let (x, δ) ← evE cf a ρ δ
    let (y, δ) ← evE cf b ρ δ
    let i ← intOf x
    let j ← intOf y
    if -(2 ^ 62) ≤ i ∧ i < 2 ^ 62 ∧ -(2 ^ 62) ≤ j ∧ j < 2 ^ 62 then some ((List.range (j - i).toNat).map fun (k : Nat) => .int (i + (k : Int)), δ) else none
  | .itZ a b, ρ, δ => do
    let (x, δ) ← evE cf a ρ δ
    let (y, δ) ← evE cf b ρ δ
    let xs ← seqOf x
    let ys ← seqOf y
    some (List.zipWith (fun p q => .tup [p, q]) xs ys, δ)
  | .itE a, ρ, δ => do
    let (x, δ) ← evE cf a ρ δ
    let xs ← seqOf x
    some (enumD 0 xs, δ)
  | _, _, _ => none
end

/-! ### statements -/
/-- a name's slot: nothing, a value, a list that the def is making -/
inductive Sl | no | va (d : D) | ow (ds : List D)
def Sl.full : Sl → Option D
  | .no => none | .va d => some d | .ow ds => some (.lst ds)
def Sl.hide : Sl → Option D
  | .va d => some d | _ => none
def view (b : Bool) (ρ : List Sl) : Env := ρ.map fun s => if b then s.full else s.hide
inductive Fl | nx (ρ : List Sl) | rt (d : D)
/-- an expression that makes a new list -/
def isFresh : E → Bool
  | .lst _ => true
  | .lc .. => true
  | .fn .list _ => true
  | .bin .mul (.lst _) _ => true
  | _ => false
def evM (cf : CF) (e : E) (m : Md) (ρ : List Sl) (δ : Dl) : Option (Sl × Dl) := do
  let (d, δ) ← evE cf e (view m.full ρ) δ
  if m.own then
    match d with
    | .lst ds => if isFresh e && flats ds then some (.ow ds, δ) else none
    | _ => none
  else if !m.full || flat d then some (.va d, δ) else none
def evPar (cf : CF) (ρ : List Sl) : List (Nat × E × Md) → Dl → Option (List (Nat × Sl) × Dl)
  | [], δ => some ([], δ)
  | (x, e, m) :: r, δ => do
    let (s, δ) ← evM cf e m ρ δ
    let (ss, δ) ← evPar cf ρ r δ
    some ((x, s) :: ss, δ)
def setAll (ρ : List Sl) (ps : List (Nat × Sl)) : List Sl := ps.foldl (fun r p => r.set p.1 p.2) ρ
def asgS : Tg → List Sl → D → Option (List Sl)
  | .one i, ρ, d => some (ρ.set i (.va d))
  | .many is, ρ, .tup ds => if ds.length = is.length then some (setAll ρ (is.zip (ds.map .va))) else none
  | _, _, _ => none
def forGo (body : List Sl → Dl → Option (Fl × Dl)) (tg : Tg) : List D → List Sl → Dl → Option (Fl × Dl)
  | [], ρ, δ => some (.nx ρ, δ)
  | x :: xs, ρ, δ => do
    let ρ1 ← asgS tg ρ x
    let (f, δ) ← body ρ1 δ
    match f with
    | .nx ρ2 => forGo body tg xs ρ2 δ
    | .rt d => some (.rt d, δ)
def whGo (tst : List Sl → Dl → Option (Bool × Dl)) (body : List Sl → Dl → Option (Fl × Dl)) : Nat → List Sl → Dl → Option (Fl × Dl)
  | 0, _, _ => none
  | n + 1, ρ, δ => do
    let (b, δ) ← tst ρ δ
    if b then
      let (f, δ) ← body ρ δ
      match f with
      | .nx ρ2 => whGo tst body n ρ2 δ
      | .rt d => some (.rt d, δ)
    else some (.nx ρ, δ)
def exec (cf : CF) : S → List Sl → Dl → Option (Fl × Dl)
  | .ret e, ρ, δ => do
    let (d, δ) ← evE cf e (view true ρ) δ
    some (.rt d, δ)
  | .set x e m, ρ, δ => do
    let (s, δ) ← evM cf e m ρ δ
    some (.nx (ρ.set x s), δ)
  | .par ps, ρ, δ => do
    let (ss, δ) ← evPar cf ρ ps δ
    some (.nx (setAll ρ ss), δ)
  | .unp xs e m, ρ, δ => do
    let (s, δ) ← evM cf e m ρ δ
    match s with
    | .va (.tup ds) => if ds.length = xs.length then some (.nx (setAll ρ (xs.zip (ds.map .va))), δ) else none
    | _ => none
  | .sto x i e m, ρ, δ => do
    let (s, δ) ← evM cf e m ρ δ
    let (k, δ) ← evE cf i (view true ρ) δ
    let k ← intOf k
    match s, ρ[x]? with
    | .va d, some (.ow ds) => if 0 ≤ k ∧ k < ds.length then some (.nx (ρ.set x (.ow (ds.set k.toNat d))), δ) else none
    | _, _ => none
  | .app x e m, ρ, δ => do
    let (s, δ) ← evM cf e m ρ δ
    match s, ρ[x]? with
    | .va d, some (.ow ds) => if ds.length < 100000 then some (.nx (ρ.set x (.ow (ds ++ [d]))), δ) else none
    | _, _ => none
  | .ext x e m, ρ, δ => do
    let (s, δ) ← evM cf e m ρ δ
    match s, ρ[x]? with
    | .va d, some (.ow ds) => match seqOf d with
      | some xs => if ds.length + xs.length ≤ 100000 then some (.nx (ρ.set x (.ow (ds ++ xs))), δ) else none
      | none => none
    | _, _ => none
  | .drop e, ρ, δ => do
    let (_, δ) ← evE cf e (view true ρ) δ
    some (.nx ρ, δ)
  | .ife c a b, ρ, δ => do
    let (x, δ) ← evE cf c (view true ρ) δ
    let t ← blOf x
    if t then exec cf a ρ δ else exec cf b ρ δ
  | .for tg it body, ρ, δ => do
    let (xs, δ) ← evI cf it (view false ρ) δ
    forGo (fun r d => exec cf body r d) tg xs ρ δ
  | .whl c body, ρ, δ => whGo (fun r d => do let (x, d) ← evE cf c (view true r) d; let t ← blOf x; some (t, d)) (fun r d => exec cf body r d) 100 ρ δ
  | .never, _, _ => none
  | .skip, ρ, δ => some (.nx ρ, δ)
  | .seq a b, ρ, δ => do
    let (f, δ) ← exec cf a ρ δ
    match f with
    | .nx ρ1 => exec cf b ρ1 δ
    | .rt d => some (.rt d, δ)
  | .frz x rest, ρ, δ => match ρ[x]? with
    | some (.ow ds) => exec cf rest (ρ.set x (.va (.lst ds))) δ
    | _ => none
end NB

set_option linter.all false
set_option maxRecDepth 100000
namespace NB
/-- 0 value -/
def b_is_integer : S :=
  (.seq (.ret (.and (.isi (.var 0) .int) (.one (.not (.isi (.var 0) .bool))))) .skip)
def n_is_integer : List String := ["value"]
/-- 0 value -/
def b_is_number : S :=
  (.seq (.ret (.and (.call .is_integer (.cons (.var 0) .nil)) (.one (.bin .ge (.var 0) (.int 0))))) .skip)
def n_is_number : List String := ["value"]
/-- 0 value, 1 many -/
def b_is_index : S :=
  (.seq (.ret (.and (.call .is_number (.cons (.var 0) .nil)) (.one (.bin .lt (.var 0) (.var 1))))) .skip)
def n_is_index : List String := ["value", "many"]
/-- 0 value -/
def b_is_worth : S :=
  (.seq (.ret (.call .is_index (.cons (.var 0) (.cons (.glob "MOST" 1001) .nil)))) .skip)
def n_is_worth : List String := ["value"]
/-- 0 value, 1 one -/
def b_is_head : S :=
  (.seq (.ife (.bin .eq (.ix (.var 0) (.int 0)) (.str .w_times)) (.seq (.ret (.and (.bin .eq (.fn .len (.cons (.var 0) .nil)) (.int 3)) (.one (.call .is_worth (.cons (.ix (.var 0) (.int 1)) .nil))))) .skip) .skip) (.seq (.ife (.bin .eq (.ix (.var 0) (.int 0)) (.str .w_part)) (.seq (.ret (.and (.bin .eq (.fn .len (.cons (.var 0) .nil)) (.int 3)) (.and (.call .is_worth (.cons (.ix (.var 0) (.int 1)) .nil)) (.one (.bin .gt (.ix (.var 0) (.int 1)) (.int 0)))))) .skip) .skip) (.seq (.ife (.bin .eq (.ix (.var 0) (.int 0)) (.str .w_clip)) (.seq (.ret (.and (.bin .eq (.fn .len (.cons (.var 0) .nil)) (.int 4)) (.and (.call .is_worth (.cons (.ix (.var 0) (.int 1)) .nil)) (.and (.call .is_worth (.cons (.ix (.var 0) (.int 2)) .nil)) (.one (.bin .le (.ix (.var 0) (.int 1)) (.ix (.var 0) (.int 2)))))))) .skip) .skip) (.seq (.ife (.bin .eq (.ix (.var 0) (.int 0)) (.str .w_from)) (.seq (.ret (.and (.bin .eq (.fn .len (.cons (.var 0) .nil)) (.int 3)) (.one (.call .is_worth (.cons (.ix (.var 0) (.int 1)) .nil))))) .skip) .skip) (.seq (.ife (.bin .eq (.ix (.var 0) (.int 0)) (.str .w_bar)) (.seq (.ret (.and (.bin .eq (.fn .len (.cons (.var 0) .nil)) (.int 5)) (.and (.call .is_worth (.cons (.ix (.var 0) (.int 1)) .nil)) (.and (.call .is_worth (.cons (.ix (.var 0) (.int 2)) .nil)) (.one (.call .is_worth (.cons (.ix (.var 0) (.int 3)) .nil))))))) .skip) .skip) (.seq (.ife (.or (.bin .ne (.ix (.var 0) (.int 0)) (.str .w_row)) (.or (.bin .ne (.fn .len (.cons (.var 0) .nil)) (.int 3)) (.one (.not (.isi (.ix (.var 0) (.int 1)) .tuple))))) (.seq (.ret (.bl false)) .skip) .skip) (.seq (.ret (.and (.chain (.int 1) (.fn .len (.cons (.ix (.var 0) (.int 1)) .nil)) (.glob "MOST_ROW" 64)) (.one (.fn .all (.cons (.lc [1] (.one 1) (.itS (.ix (.var 0) (.int 1))) .nop (.call .is_worth (.cons (.var 1) .nil))) .nil))))) .skip)))))))
def n_is_head : List String := ["value", "one"]
/-- 0 value -/
def b_parts_of : S :=
  (.seq (.ife (.or (.not (.isi (.var 0) .tuple)) (.or (.bin .lt (.fn .len (.cons (.var 0) .nil)) (.int 2)) (.one (.not (.isi (.ix (.var 0) (.int 0)) .str))))) (.seq (.ret .non) .skip) .skip) (.seq (.ife (.bin .eq (.ix (.var 0) (.int 0)) (.str .w_is)) (.seq (.ret (.ite (.and (.bin .eq (.fn .len (.cons (.var 0) .nil)) (.int 2)) (.one (.call .is_worth (.cons (.ix (.var 0) (.int 1)) .nil)))) (.tup .nil) .non)) .skip) .skip) (.seq (.ife (.bin .eq (.ix (.var 0) (.int 0)) (.str .w_hear)) (.seq (.ret (.ite (.and (.bin .eq (.fn .len (.cons (.var 0) .nil)) (.int 2)) (.one (.call .is_worth (.cons (.ix (.var 0) (.int 1)) .nil)))) (.tup .nil) .non)) .skip) .skip) (.seq (.ife (.bin .inn (.ix (.var 0) (.int 0)) (.tup (.cons (.str .w_least) (.cons (.str .w_most) (.cons (.str .w_add) .nil))))) (.seq (.ret (.ite (.and (.bin .eq (.fn .len (.cons (.var 0) .nil)) (.int 2)) (.and (.isi (.ix (.var 0) (.int 1)) .tuple) (.one (.bin .gt (.fn .len (.cons (.ix (.var 0) (.int 1)) .nil)) (.int 0))))) (.ix (.var 0) (.int 1)) .non)) .skip) .skip) (.seq (.ife (.bin .eq (.ix (.var 0) (.int 0)) (.str .w_middle)) (.seq (.ret (.ite (.bin .eq (.fn .len (.cons (.var 0) .nil)) (.int 4)) (.sl (.var 0) (.one (.int 1)) .nop) .non)) .skip) .skip) (.seq (.ret (.ite (.call .is_head (.cons (.var 0) .nil)) (.sl (.var 0) (.one (.neg 1)) .nop) .non)) .skip))))))
def n_parts_of : List String := ["value"]
/-- 0 rule, 1 found, 2 part -/
def b_branches : S :=
  (.seq (.ife (.bin .eq (.ix (.var 0) (.int 0)) (.str .w_hear)) (.seq (.ret (.tup (.cons (.ix (.var 0) (.int 1)) .nil))) .skip) .skip) (.seq (.set 1 (.lst .nil) ⟨false, true⟩) (.seq (.for (.one 2) (.itS (.call .parts_of (.cons (.var 0) .nil))) (.seq (.ext 1 (.call .branches (.cons (.var 2) .nil)) ⟨false, false⟩) .skip)) (.seq (.ret (.fn .tuple (.cons (.var 1) .nil))) .skip))))
def n_branches : List String := ["rule", "found", "part"]
/-- 0 rule, 1 values -/
def b_made : S :=
  (.seq (.ife (.bin .eq (.ix (.var 0) (.int 0)) (.str .w_least)) (.seq (.ret (.fn .mn (.cons (.var 1) .nil))) .skip) .skip) (.seq (.ife (.bin .eq (.ix (.var 0) (.int 0)) (.str .w_most)) (.seq (.ret (.fn .mx (.cons (.var 1) .nil))) .skip) .skip) (.seq (.ife (.bin .eq (.ix (.var 0) (.int 0)) (.str .w_middle)) (.seq (.ret (.ix (.fn .sorted (.cons (.var 1) .nil)) (.int 1))) .skip) .skip) (.seq (.ife (.bin .eq (.ix (.var 0) (.int 0)) (.str .w_add)) (.seq (.ret (.fn .sum (.cons (.var 1) .nil))) .skip) .skip) (.seq (.ife (.bin .eq (.ix (.var 0) (.int 0)) (.str .w_times)) (.seq (.ret (.bin .mul (.ix (.var 0) (.int 1)) (.ix (.var 1) (.int 0)))) .skip) .skip) (.seq (.ife (.bin .eq (.ix (.var 0) (.int 0)) (.str .w_part)) (.seq (.ret (.bin .fdiv (.ix (.var 1) (.int 0)) (.ix (.var 0) (.int 1)))) .skip) .skip) (.seq (.ife (.bin .eq (.ix (.var 0) (.int 0)) (.str .w_clip)) (.seq (.ret (.fn .mn (.cons (.fn .mx (.cons (.ix (.var 1) (.int 0)) (.cons (.ix (.var 0) (.int 1)) .nil))) (.cons (.ix (.var 0) (.int 2)) .nil)))) .skip) .skip) (.seq (.ife (.bin .eq (.ix (.var 0) (.int 0)) (.str .w_from)) (.seq (.ret (.fn .mx (.cons (.int 0) (.cons (.bin .sub (.ix (.var 0) (.int 1)) (.ix (.var 1) (.int 0))) .nil)))) .skip) .skip) (.seq (.ife (.bin .eq (.ix (.var 0) (.int 0)) (.str .w_bar)) (.seq (.ret (.ite (.bin .ge (.ix (.var 1) (.int 0)) (.ix (.var 0) (.int 1))) (.ix (.var 0) (.int 3)) (.ix (.var 0) (.int 2)))) .skip) .skip) (.seq (.ret (.ix (.ix (.var 0) (.int 1)) (.fn .mn (.cons (.ix (.var 1) (.int 0)) (.cons (.bin .sub (.fn .len (.cons (.ix (.var 0) (.int 1)) .nil)) (.int 1)) .nil))))) .skip))))))))))
def n_made : List String := ["rule", "values"]
/-- 0 rule, 1 heard, 2 at, 3 values, 4 part, 5 value -/
def b_told_by : S :=
  (.seq (.ife (.bin .eq (.ix (.var 0) (.int 0)) (.str .w_is)) (.seq (.ret (.tup (.cons (.ix (.var 0) (.int 1)) (.cons (.var 2) .nil)))) .skip) .skip) (.seq (.ife (.bin .eq (.ix (.var 0) (.int 0)) (.str .w_hear)) (.seq (.ret (.tup (.cons (.ix (.var 1) (.var 2)) (.cons (.bin .add (.var 2) (.int 1)) .nil)))) .skip) .skip) (.seq (.set 3 (.lst .nil) ⟨false, true⟩) (.seq (.for (.one 4) (.itS (.call .parts_of (.cons (.var 0) .nil))) (.seq (.unp [5, 2] (.call .told_by (.cons (.var 4) (.cons (.var 1) (.cons (.var 2) .nil)))) ⟨false, false⟩) (.seq (.app 3 (.var 5) ⟨false, false⟩) .skip))) (.seq (.ret (.tup (.cons (.call .made (.cons (.var 0) (.cons (.var 3) .nil))) (.cons (.var 2) .nil)))) .skip)))))
def n_told_by : List String := ["rule", "heard", "at", "values", "part", "value"]
/-- 0 rule, 1 heard -/
def b_told : S :=
  (.seq (.ret (.ix (.call .told_by (.cons (.var 0) (.cons (.var 1) (.cons (.int 0) .nil)))) (.int 0))) .skip)
def n_told : List String := ["rule", "heard"]
/-- 0 net, 1 value, 2 one, 3 top -/
def b_is_state : S :=
  (.seq (.ife (.or (.not (.isi (.var 1) .tuple)) (.one (.bin .ne (.fn .len (.cons (.var 1) .nil)) (.fn .len (.cons (.ix (.var 0) (.int 0)) .nil))))) (.seq (.ret (.bl false)) .skip) .skip) (.seq (.ret (.fn .all (.cons (.lc [2, 3] (.many [2, 3]) (.itZ (.var 1) (.ix (.var 0) (.int 0))) .nop (.call .is_index (.cons (.var 2) (.cons (.bin .add (.var 3) (.int 1)) .nil)))) .nil))) .skip))
def n_is_state : List String := ["net", "value", "one", "top"]
/-- 0 net, 1 house, 2 heard -/
def b_wanted : S :=
  (.seq (.ret (.fn .mn (.cons (.ix (.ix (.var 0) (.int 0)) (.var 1)) (.cons (.call .told (.cons (.ix (.ix (.var 0) (.int 1)) (.var 1)) (.cons (.var 2) .nil))) .nil)))) .skip)
def n_wanted : List String := ["net", "house", "heard"]
/-- 0 net, 1 d, 2 value, 3 one -/
def b_is_past : S :=
  (.seq (.ret (.and (.isi (.var 2) .tuple) (.and (.bin .eq (.fn .len (.cons (.var 2) .nil)) (.var 1)) (.one (.fn .all (.cons (.lc [3] (.one 3) (.itS (.var 2)) .nop (.call .is_state (.cons (.var 0) (.cons (.var 3) .nil)))) .nil)))))) .skip)
def n_is_past : List String := ["net", "d", "value", "one"]
/-- 0 rule, 1 d, 2 value, 3 one -/
def b_is_house_lateness : S :=
  (.seq (.ife (.or (.not (.isi (.var 2) .tuple)) (.one (.bin .ne (.fn .len (.cons (.var 2) .nil)) (.fn .len (.cons (.call .branches (.cons (.var 0) .nil)) .nil))))) (.seq (.ret (.bl false)) .skip) .skip) (.seq (.ret (.fn .all (.cons (.lc [3] (.one 3) (.itS (.var 2)) .nop (.and (.call .is_index (.cons (.var 3) (.cons (.bin .add (.var 1) (.int 1)) .nil))) (.one (.bin .gt (.var 3) (.int 0))))) .nil))) .skip))
def n_is_house_lateness : List String := ["rule", "d", "value", "one"]
/-- 0 net, 1 d, 2 value, 3 rule, 4 one -/
def b_is_lateness : S :=
  (.seq (.ife (.or (.not (.isi (.var 2) .tuple)) (.one (.bin .ne (.fn .len (.cons (.var 2) .nil)) (.fn .len (.cons (.ix (.var 0) (.int 1)) .nil))))) (.seq (.ret (.bl false)) .skip) .skip) (.seq (.ret (.fn .all (.cons (.lc [3, 4] (.many [3, 4]) (.itZ (.ix (.var 0) (.int 1)) (.var 2)) .nop (.call .is_house_lateness (.cons (.var 3) (.cons (.var 1) (.cons (.var 4) .nil))))) .nil))) .skip))
def n_is_lateness : List String := ["net", "d", "value", "rule", "one"]
/-- 0 lateness, 1 later, 2 one, 3 other, 4 first, 5 second -/
def b_can_follow : S :=
  (.seq (.for (.many [2, 3]) (.itZ (.var 0) (.var 1)) (.seq (.ife (.not (.fn .all (.cons (.lc [4, 5] (.many [4, 5]) (.itZ (.var 2) (.var 3)) .nop (.bin .le (.var 5) (.bin .add (.var 4) (.int 1)))) .nil))) (.seq (.ret (.bl false)) .skip) .skip) .skip)) (.seq (.ret (.bl true)) .skip))
def n_can_follow : List String := ["lateness", "later", "one", "other", "first", "second"]
/-- 0 net, 1 d, 2 value, 3 at, 4 one -/
def b_fault_of : S :=
  (.seq (.ife (.or (.not (.isi (.var 2) .tuple)) (.or (.bin .ne (.fn .len (.cons (.var 2) .nil)) (.int 2)) (.one (.not (.call .is_past (.cons (.var 0) (.cons (.var 1) (.cons (.ix (.var 2) (.int 0)) .nil)))))))) (.seq (.ret (.int 0)) .skip) .skip) (.seq (.ife (.not (.isi (.ix (.var 2) (.int 1)) .tuple)) (.seq (.ret (.int 1)) .skip) .skip) (.seq (.for (.many [3, 4]) (.itE (.ix (.var 2) (.int 1))) (.seq (.ife (.or (.not (.call .is_lateness (.cons (.var 0) (.cons (.var 1) (.cons (.var 4) .nil))))) (.one (.and (.bin .gt (.var 3) (.int 0)) (.one (.not (.call .can_follow (.cons (.ix (.ix (.var 2) (.int 1)) (.bin .sub (.var 3) (.int 1))) (.cons (.var 4) .nil)))))))) (.seq (.ret (.bin .add (.var 3) (.int 2))) .skip) .skip) .skip)) (.seq (.ret .non) .skip))))
def n_fault_of : List String := ["net", "d", "value", "at", "one"]
/-- 0 net, 1 d, 2 value -/
def b_is_run : S :=
  (.seq (.ret (.bin .isS (.call .fault_of (.cons (.var 0) (.cons (.var 1) (.cons (.var 2) .nil)))) .non)) .skip)
def n_is_run : List String := ["net", "d", "value"]
/-- 0 net, 1 past, 2 lateness, 3 found, 4 house, 5 late, 6 heard, 7 one, 8 old -/
def b_shows_next : S :=
  (.seq (.set 3 (.lst .nil) ⟨false, true⟩) (.seq (.for (.many [4, 5]) (.itE (.var 2)) (.seq (.set 6 (.lc [7, 8] (.many [7, 8]) (.itZ (.call .branches (.cons (.ix (.ix (.var 0) (.int 1)) (.var 4)) .nil)) (.var 5)) .nop (.ix (.ix (.var 1) (.bin .sub (.fn .len (.cons (.var 1) .nil)) (.var 8))) (.var 7))) ⟨false, false⟩) (.seq (.app 3 (.call .wanted (.cons (.var 0) (.cons (.var 4) (.cons (.fn .tuple (.cons (.var 6) .nil)) .nil)))) ⟨false, false⟩) .skip))) (.seq (.ret (.fn .tuple (.cons (.var 3) .nil))) .skip)))
def n_shows_next : List String := ["net", "past", "lateness", "found", "house", "late", "heard", "one", "old"]
/-- 0 beats, 1 house, 2 at, 3 beat -/
def b_moves_of : S :=
  (.seq (.ret (.lc [2, 3] (.many [2, 3]) (.itE (.var 0)) (.one (.bin .inn (.var 1) (.ix (.var 3) (.int 0)))) (.var 2))) .skip)
def n_moves_of : List String := ["beats", "house", "at", "beat"]
/-- 0 net, 1 d, 2 run, 3 past, 4 found, 5 movers, 6 lateness, 7 wants, 8 state, 9 house -/
def b_stopped_shown : S :=
  (.seq (.par [(3, (.ix (.var 2) (.int 0)), ⟨false, false⟩), (4, (.lst .nil), ⟨false, true⟩)]) (.seq (.for (.many [5, 6]) (.itS (.ix (.var 2) (.int 1))) (.seq (.set 7 (.call .shows_next (.cons (.var 0) (.cons (.var 3) (.cons (.var 6) .nil)))) ⟨false, false⟩) (.seq (.set 8 (.fn .tuple (.cons (.lc [9] (.one 9) (.itR1 (.fn .len (.cons (.ix (.var 0) (.int 0)) .nil))) .nop (.ite (.bin .inn (.var 9) (.var 5)) (.ix (.var 7) (.var 9)) (.ix (.ix (.var 3) (.neg 1)) (.var 9)))) .nil)) ⟨false, false⟩) (.seq (.app 4 (.var 8) ⟨false, false⟩) (.seq (.set 3 (.tup (.star (.sl (.var 3) (.one (.int 1)) .nop) (.cons (.var 8) .nil))) ⟨false, false⟩) .skip))))) (.seq (.ret (.fn .tuple (.cons (.var 4) .nil))) .skip)))
def n_stopped_shown : List String := ["net", "d", "run", "past", "found", "movers", "lateness", "wants", "state", "house"]
/-- 0 beats, 1 house, 2 at, 3 last, 4 move, 5 number -/
def b_aged : S :=
  (.seq (.set 3 (.ix (.lc [4] (.one 4) (.itS (.call .moves_of (.cons (.var 0) (.cons (.var 1) .nil)))) (.one (.bin .le (.var 4) (.var 2))) (.var 4)) (.neg 1)) ⟨false, false⟩) (.seq (.ret (.fn .tuple (.cons (.lc [5] (.one 5) (.itS (.ix (.ix (.ix (.var 0) (.var 3)) (.int 1)) (.var 1))) .nop (.bin .sub (.bin .add (.var 5) (.var 2)) (.var 3))) .nil))) .skip))
def n_aged : List String := ["beats", "house", "at", "last", "move", "number"]
/-- 0 net, 1 d, 2 e, 3 run, 4 past, 5 beats, 6 states, 7 rows, 8 at, 9 house -/
def b_plain_run : S :=
  (.seq (.unp [4, 5] (.var 3) ⟨false, false⟩) (.seq (.set 6 (.call .stopped_shown (.cons (.var 0) (.cons (.var 1) (.cons (.var 3) .nil)))) ⟨false, false⟩) (.seq (.set 7 (.lst .nil) ⟨false, true⟩) (.seq (.for (.one 8) (.itR2 (.bin .sub (.var 2) (.int 1)) (.fn .len (.cons (.var 5) .nil))) (.seq (.app 7 (.fn .tuple (.cons (.lc [9] (.one 9) (.itR1 (.fn .len (.cons (.ix (.var 0) (.int 0)) .nil))) .nop (.call .aged (.cons (.var 5) (.cons (.var 9) (.cons (.var 8) .nil))))) .nil)) ⟨false, false⟩) .skip)) (.seq (.ret (.tup (.cons (.tup (.star (.var 4) (.star (.sl (.var 6) .nop (.one (.bin .sub (.var 2) (.int 1)))) .nil))) (.cons (.fn .tuple (.cons (.var 7) .nil)) .nil)))) .skip)))))
def n_plain_run : List String := ["net", "d", "e", "run", "past", "beats", "states", "rows", "at", "house"]
/-- 0 worths, 1 low, 2 high -/
def b_entries_for : S :=
  (.seq (.ret (.sl (.var 0) (.one (.fn .mn (.cons (.var 1) (.cons (.bin .sub (.fn .len (.cons (.var 0) .nil)) (.int 1)) .nil)))) (.one (.bin .add (.var 2) (.int 1))))) .skip)
def n_entries_for : List String := ["worths", "low", "high"]
/-- 0 net, 1 rule, 2 inner, 3 part, 4 some, 5 ends, 6 low, 7 high -/
def b_range_of : S :=
  (.seq (.ife (.bin .eq (.ix (.var 1) (.int 0)) (.str .w_is)) (.seq (.ret (.tup (.cons (.ix (.var 1) (.int 1)) (.cons (.ix (.var 1) (.int 1)) .nil)))) .skip) .skip) (.seq (.ife (.bin .eq (.ix (.var 1) (.int 0)) (.str .w_hear)) (.seq (.ret (.tup (.cons (.int 0) (.cons (.ix (.ix (.var 0) (.int 0)) (.ix (.var 1) (.int 1))) .nil)))) .skip) .skip) (.seq (.set 2 (.lc [3] (.one 3) (.itS (.call .parts_of (.cons (.var 1) .nil))) .nop (.call .range_of (.cons (.var 0) (.cons (.var 3) .nil)))) ⟨false, false⟩) (.seq (.ife (.bin .eq (.ix (.var 1) (.int 0)) (.str .w_row)) (.seq (.set 4 (.call .entries_for (.cons (.ix (.var 1) (.int 1)) (.cons (.ix (.ix (.var 2) (.int 0)) (.int 0)) (.cons (.ix (.ix (.var 2) (.int 0)) (.int 1)) .nil)))) ⟨false, false⟩) (.seq (.ret (.tup (.cons (.fn .mn (.cons (.var 4) .nil)) (.cons (.fn .mx (.cons (.var 4) .nil)) .nil)))) .skip)) .skip) (.seq (.set 5 (.tup (.cons (.call .made (.cons (.var 1) (.cons (.lc [6, 7] (.many [6, 7]) (.itS (.var 2)) .nop (.var 6)) .nil))) (.cons (.call .made (.cons (.var 1) (.cons (.lc [6, 7] (.many [6, 7]) (.itS (.var 2)) .nop (.var 7)) .nil))) .nil))) ⟨false, false⟩) (.seq (.ret (.tup (.cons (.fn .mn (.cons (.var 5) .nil)) (.cons (.fn .mx (.cons (.var 5) .nil)) .nil)))) .skip))))))
def n_range_of : List String := ["net", "rule", "inner", "part", "some", "ends", "low", "high"]
/-- 0 net, 1 house, 2 low, 3 high -/
def b_house_range : S :=
  (.seq (.unp [2, 3] (.call .range_of (.cons (.var 0) (.cons (.ix (.ix (.var 0) (.int 1)) (.var 1)) .nil))) ⟨false, false⟩) (.seq (.ret (.tup (.cons (.fn .mn (.cons (.var 2) (.cons (.ix (.ix (.var 0) (.int 0)) (.var 1)) .nil))) (.cons (.fn .mn (.cons (.var 3) (.cons (.ix (.ix (.var 0) (.int 0)) (.var 1)) .nil))) .nil)))) .skip))
def n_house_range : List String := ["net", "house", "low", "high"]
/-- 0 row, 1 at -/
def b_is_rising_row : S :=
  (.seq (.ret (.fn .all (.cons (.lc [1] (.one 1) (.itR2 (.int 1) (.fn .len (.cons (.var 0) .nil))) .nop (.bin .le (.ix (.var 0) (.bin .sub (.var 1) (.int 1))) (.ix (.var 0) (.var 1)))) .nil))) .skip)
def n_is_rising_row : List String := ["row", "at"]
/-- 0 net, 1 rule, 2 low, 3 high, 4 some -/
def b_turn_of : S :=
  (.seq (.ife (.bin .eq (.ix (.var 1) (.int 0)) (.str .w_row)) (.seq (.unp [2, 3] (.call .range_of (.cons (.var 0) (.cons (.ix (.var 1) (.int 2)) .nil))) ⟨false, false⟩) (.seq (.set 4 (.call .entries_for (.cons (.ix (.var 1) (.int 1)) (.cons (.var 2) (.cons (.var 3) .nil)))) ⟨false, false⟩) (.seq (.ife (.call .is_rising_row (.cons (.var 4) .nil)) (.seq (.ret (.bl false)) .skip) .skip) (.seq .never .skip)))) .skip) (.seq (.ret (.or (.bin .eq (.ix (.var 1) (.int 0)) (.str .w_from)) (.one (.and (.bin .eq (.ix (.var 1) (.int 0)) (.str .w_bar)) (.one (.bin .gt (.ix (.var 1) (.int 2)) (.ix (.var 1) (.int 3)))))))) .skip))
def n_turn_of : List String := ["net", "rule", "low", "high", "some"]
/-- 0 net, 1 rule, 2 is_still, 3 is_both, 4 falls, 5 low, 6 high, 7 still, 8 turn, 9 found, 10 part -/
def b_words_within : S :=
  (.seq (.unp [5, 6] (.call .range_of (.cons (.var 0) (.cons (.var 1) .nil))) ⟨false, false⟩) (.seq (.set 7 (.or (.var 2) (.one (.bin .eq (.var 5) (.var 6)))) ⟨false, false⟩) (.seq (.ife (.bin .eq (.ix (.var 1) (.int 0)) (.str .w_hear)) (.seq (.ret (.lst (.cons (.ite (.var 7) (.str .w_none) (.ite (.var 3) (.str .w_both) (.ite (.var 4) (.str .w_falls) (.str .w_rises)))) .nil))) .skip) .skip) (.seq (.par [(8, (.call .turn_of (.cons (.var 0) (.cons (.var 1) .nil))), ⟨false, false⟩), (9, (.lst .nil), ⟨false, true⟩)]) (.seq (.for (.one 10) (.itS (.call .parts_of (.cons (.var 1) .nil))) (.seq (.ext 9 (.call .words_within (.cons (.var 0) (.cons (.var 10) (.cons (.var 7) (.cons (.or (.var 3) (.one (.bin .isS (.var 8) .non))) (.cons (.bin .ne (.var 4) (.bin .isS (.var 8) (.bl true))) .nil)))))) ⟨false, false⟩) .skip)) (.seq (.ret (.var 9)) .skip))))))
def n_words_within : List String := ["net", "rule", "is_still", "is_both", "falls", "low", "high", "still", "turn", "found", "part"]
/-- 0 net, 1 house, 2 low, 3 high -/
def b_ways : S :=
  (.seq (.unp [2, 3] (.call .house_range (.cons (.var 0) (.cons (.var 1) .nil))) ⟨false, false⟩) (.seq (.ret (.fn .tuple (.cons (.call .words_within (.cons (.var 0) (.cons (.ix (.ix (.var 0) (.int 1)) (.var 1)) (.cons (.bin .eq (.var 2) (.var 3)) (.cons (.bl false) (.cons (.bl false) .nil)))))) .nil))) .skip))
def n_ways : List String := ["net", "house", "low", "high"]
/-- 0 net, 1 found, 2 house, 3 words -/
def b_one_way : S :=
  (.seq (.set 1 (.lc [2] (.one 2) (.itR1 (.fn .len (.cons (.ix (.var 0) (.int 1)) .nil))) .nop (.call .ways (.cons (.var 0) (.cons (.var 2) .nil)))) ⟨false, false⟩) (.seq (.for (.many [2, 3]) (.itE (.var 1)) (.seq (.ife (.bin .inn (.str .w_both) (.var 3)) (.seq .never .skip) .skip) .skip)) (.seq (.ret (.var 1)) .skip)))
def n_one_way : List String := ["net", "found", "house", "words"]
/-- 0 net, 1 house, 2 words, 3 near, 4 far, 5 heard, 6 one, 7 word -/
def b_heard_ends : S :=
  (.seq (.ret (.fn .tuple (.cons (.lc [6, 7] (.many [6, 7]) (.itZ (.call .branches (.cons (.ix (.ix (.var 0) (.int 1)) (.var 1)) .nil)) (.var 2)) .nop (.ite (.bin .eq (.var 7) (.str .w_falls)) (.ix (.var 4) (.var 6)) (.ix (.var 3) (.var 6)))) .nil))) .skip)
def n_heard_ends : List String := ["net", "house", "words", "near", "far", "heard", "one", "word"]
/-- 0 net, 1 found, 2 ends, 3 lows, 4 highs, 5 low, 6 house, 7 words, 8 high -/
def b_stepped : S :=
  (.seq (.unp [3, 4] (.var 2) ⟨false, false⟩) (.seq (.set 5 (.lc [6, 7] (.many [6, 7]) (.itE (.var 1)) .nop (.call .wanted (.cons (.var 0) (.cons (.var 6) (.cons (.call .heard_ends (.cons (.var 0) (.cons (.var 6) (.cons (.var 7) (.cons (.var 3) (.cons (.var 4) .nil)))))) .nil))))) ⟨false, false⟩) (.seq (.set 8 (.lc [6, 7] (.many [6, 7]) (.itE (.var 1)) .nop (.call .wanted (.cons (.var 0) (.cons (.var 6) (.cons (.call .heard_ends (.cons (.var 0) (.cons (.var 6) (.cons (.var 7) (.cons (.var 4) (.cons (.var 3) .nil)))))) .nil))))) ⟨false, false⟩) (.seq (.ret (.tup (.cons (.fn .tuple (.cons (.var 5) .nil)) (.cons (.fn .tuple (.cons (.var 8) .nil)) .nil)))) .skip))))
def n_stepped : List String := ["net", "found", "ends", "lows", "highs", "low", "house", "words", "high"]
/-- 0 net -/
def b_first_ends : S :=
  (.seq (.drop (.call .one_way (.cons (.var 0) .nil))) (.seq (.ret (.tup (.cons (.bin .mul (.tup (.cons (.int 0) .nil)) (.fn .len (.cons (.ix (.var 0) (.int 0)) .nil))) (.cons (.ix (.var 0) (.int 0)) .nil)))) .skip))
def n_first_ends : List String := ["net"]
/-- 0 net, 1 most, 2 found, 3 rows, 4 later -/
def b_rows_of_ends : S :=
  (.seq (.par [(2, (.call .one_way (.cons (.var 0) .nil)), ⟨false, false⟩), (3, (.lst (.cons (.call .first_ends (.cons (.var 0) .nil)) .nil)), ⟨false, true⟩)]) (.seq (.whl (.or (.bin .isS (.var 1) .non) (.one (.bin .le (.fn .len (.cons (.var 3) .nil)) (.var 1)))) (.seq (.set 4 (.call .stepped (.cons (.var 0) (.cons (.var 2) (.cons (.ix (.var 3) (.neg 1)) .nil)))) ⟨true, false⟩) (.seq (.ife (.bin .eq (.var 4) (.ix (.var 3) (.neg 1))) (.seq (.ret (.var 3)) .skip) .skip) (.seq (.app 3 (.var 4) ⟨false, false⟩) .skip)))) (.seq (.ret (.var 3)) .skip)))
def n_rows_of_ends : List String := ["net", "most", "found", "rows", "later"]
/-- 0 net -/
def b_last_ends : S :=
  (.seq (.ret (.ix (.call .rows_of_ends (.cons (.var 0) (.cons .non .nil))) (.neg 1))) .skip)
def n_last_ends : List String := ["net"]
/-- 0 net -/
def b_rounds_needed : S :=
  (.seq (.ret (.bin .sub (.fn .len (.cons (.call .rows_of_ends (.cons (.var 0) (.cons .non .nil))) .nil)) (.int 1))) .skip)
def n_rounds_needed : List String := ["net"]
/-- 0 net, 1 lows, 2 highs -/
def b_rests_always : S :=
  (.seq (.unp [1, 2] (.call .last_ends (.cons (.var 0) .nil)) ⟨false, false⟩) (.seq (.ret (.bin .eq (.var 1) (.var 2))) .skip))
def n_rests_always : List String := ["net", "lows", "highs"]
/-- 0 net, 1 lows, 2 highs -/
def b_the_rest : S :=
  (.seq (.unp [1, 2] (.call .last_ends (.cons (.var 0) .nil)) ⟨false, false⟩) (.seq (.ret (.ite (.bin .eq (.var 1) (.var 2)) (.var 1) .non)) .skip))
def n_the_rest : List String := ["net", "lows", "highs"]
/-- 0 net, 1 d -/
def b_settled_from : S :=
  (.seq (.ife (.not (.call .rests_always (.cons (.var 0) .nil))) (.seq .never .skip) .skip) (.seq (.ret (.bin .mul (.var 1) (.fn .mx (.cons (.int 0) (.cons (.bin .sub (.call .rounds_needed (.cons (.var 0) .nil)) (.int 1)) .nil))))) .skip))
def n_settled_from : List String := ["net", "d"]
/-- 0 net, 1 d, 2 e, 3 loss -/
def b_settled_with : S :=
  (.seq (.ret (.bin .add (.bin .sub (.var 2) (.int 1)) (.call .settled_from (.cons (.var 0) (.cons (.bin .sub (.bin .add (.bin .add (.var 1) (.var 2)) (.var 3)) (.int 1)) .nil))))) .skip)
def n_settled_with : List String := ["net", "d", "e", "loss"]
/-- 0 _law_deal, 1 _law_some -/
def b_l_of : S :=
  (.seq (.ret (.ix (.var 1) (.call .l_any (.cons (.var 0) (.cons (.fn .len (.cons (.var 1) .nil)) .nil))))) .skip)
def n_l_of : List String := ["_law_deal", "_law_some"]
/-- 0 _law_deal, 1 _law_n, 2 _law_top, 3 _law_deep, 4 _law_any_row, 5 _law_form, 6 _law_parts_here, 7 _law_turn, 8 _law_inner, 9 _law_low, 10 _law_row -/
def b_l_rule : S :=
  (.seq (.set 5 (.ite (.bin .gt (.var 3) (.int 0)) (.call .l_any (.cons (.var 0) (.cons (.int 14) .nil))) (.call .l_any (.cons (.var 0) (.cons (.int 4) .nil)))) ⟨false, false⟩) (.seq (.ife (.bin .eq (.var 5) (.int 0)) (.seq (.ret (.tup (.cons (.str .w_is) (.cons (.call .l_any (.cons (.var 0) (.cons (.bin .add (.var 2) (.int 1)) .nil))) .nil)))) .skip) .skip) (.seq (.ife (.bin .lt (.var 5) (.int 4)) (.seq (.ret (.tup (.cons (.str .w_hear) (.cons (.call .l_any (.cons (.var 0) (.cons (.var 1) .nil))) .nil)))) .skip) .skip) (.seq (.ife (.bin .lt (.var 5) (.int 8)) (.seq (.set 6 (.fn .tuple (.cons (.lc [7] (.one 7) (.itR1 (.bin .add (.int 1) (.call .l_any (.cons (.var 0) (.cons (.int 2) .nil))))) .nop (.call .l_rule (.cons (.var 0) (.cons (.var 1) (.cons (.var 2) (.cons (.bin .sub (.var 3) (.int 1)) (.cons (.var 4) .nil))))))) .nil)) ⟨false, false⟩) (.seq (.ret (.tup (.cons (.call .l_of (.cons (.var 0) (.cons (.lst (.cons (.str .w_least) (.cons (.str .w_most) (.cons (.str .w_add) .nil)))) .nil))) (.cons (.var 6) .nil)))) .skip)) .skip) (.seq (.ife (.and (.bin .eq (.var 5) (.int 8)) (.one (.bin .eq (.var 3) (.int 1)))) (.seq (.ret (.bin .add (.tup (.cons (.str .w_middle) .nil)) (.fn .tuple (.cons (.lc [7] (.one 7) (.itR1 (.int 3)) .nop (.call .l_rule (.cons (.var 0) (.cons (.var 1) (.cons (.var 2) (.cons (.int 0) (.cons (.var 4) .nil))))))) .nil)))) .skip) .skip) (.seq (.set 8 (.call .l_rule (.cons (.var 0) (.cons (.var 1) (.cons (.var 2) (.cons (.bin .sub (.var 3) (.int 1)) (.cons (.var 4) .nil)))))) ⟨false, false⟩) (.seq (.ife (.bin .eq (.var 5) (.int 9)) (.seq (.ret (.tup (.cons (.str .w_times) (.cons (.call .l_any (.cons (.var 0) (.cons (.int 3) .nil))) (.cons (.var 8) .nil))))) .skip) .skip) (.seq (.ife (.bin .eq (.var 5) (.int 10)) (.seq (.ret (.tup (.cons (.str .w_part) (.cons (.bin .add (.int 1) (.call .l_any (.cons (.var 0) (.cons (.int 3) .nil)))) (.cons (.var 8) .nil))))) .skip) .skip) (.seq (.ife (.bin .eq (.var 5) (.int 11)) (.seq (.set 9 (.call .l_any (.cons (.var 0) (.cons (.bin .add (.var 2) (.int 1)) .nil))) ⟨false, false⟩) (.seq (.ret (.tup (.cons (.str .w_clip) (.cons (.var 9) (.cons (.bin .add (.var 9) (.call .l_any (.cons (.var 0) (.cons (.int 3) .nil)))) (.cons (.var 8) .nil)))))) .skip)) .skip) (.seq (.ife (.bin .eq (.var 5) (.int 12)) (.seq (.ret (.tup (.cons (.str .w_bar) (.cons (.call .l_any (.cons (.var 0) (.cons (.bin .add (.var 2) (.int 2)) .nil))) (.cons (.call .l_any (.cons (.var 0) (.cons (.bin .add (.var 2) (.int 1)) .nil))) (.cons (.call .l_any (.cons (.var 0) (.cons (.bin .add (.var 2) (.int 1)) .nil))) (.cons (.var 8) .nil))))))) .skip) .skip) (.seq (.ife (.bin .eq (.var 5) (.int 13)) (.seq (.set 10 (.lc [7] (.one 7) (.itR1 (.bin .add (.int 1) (.call .l_any (.cons (.var 0) (.cons (.bin .add (.var 2) (.int 1)) .nil))))) .nop (.call .l_any (.cons (.var 0) (.cons (.bin .add (.var 2) (.int 1)) .nil)))) ⟨false, false⟩) (.seq (.ret (.tup (.cons (.str .w_row) (.cons (.fn .tuple (.cons (.ite (.var 4) (.var 10) (.fn .sorted (.cons (.var 10) .nil))) .nil)) (.cons (.var 8) .nil))))) .skip)) .skip) (.seq (.ret (.tup (.cons (.str .w_from) (.cons (.call .l_any (.cons (.var 0) (.cons (.bin .add (.var 2) (.int 2)) .nil))) (.cons (.var 8) .nil))))) .skip))))))))))))
def n_l_rule : List String := ["_law_deal", "_law_n", "_law_top", "_law_deep", "_law_any_row", "_law_form", "_law_parts_here", "_law_turn", "_law_inner", "_law_low", "_law_row"]
/-- 0 _law_deal, 1 _law_most, 2 _law_top, 3 _law_any_row, 4 _law_n, 5 _law_tops, 6 _law_house -/
def b_l_net : S :=
  (.seq (.set 4 (.bin .add (.int 1) (.call .l_any (.cons (.var 0) (.cons (.var 1) .nil)))) ⟨false, false⟩) (.seq (.set 5 (.fn .tuple (.cons (.lc [6] (.one 6) (.itR1 (.var 4)) .nop (.bin .add (.int 1) (.call .l_any (.cons (.var 0) (.cons (.var 2) .nil))))) .nil)) ⟨false, false⟩) (.seq (.ret (.tup (.cons (.var 5) (.cons (.fn .tuple (.cons (.lc [6] (.one 6) (.itR1 (.var 4)) .nop (.call .l_rule (.cons (.var 0) (.cons (.var 4) (.cons (.var 2) (.cons (.call .l_any (.cons (.var 0) (.cons (.int 4) .nil))) (.cons (.var 3) .nil))))))) .nil)) .nil)))) .skip)))
def n_l_net : List String := ["_law_deal", "_law_most", "_law_top", "_law_any_row", "_law_n", "_law_tops", "_law_house"]
/-- 0 _law_rule_here -/
def b_l_parts : S :=
  (.seq (.ife (.bin .inn (.ix (.var 0) (.int 0)) (.lst (.cons (.str .w_is) (.cons (.str .w_hear) .nil)))) (.seq (.ret (.lst .nil)) .skip) .skip) (.seq (.ife (.bin .inn (.ix (.var 0) (.int 0)) (.lst (.cons (.str .w_least) (.cons (.str .w_most) (.cons (.str .w_add) .nil))))) (.seq (.ret (.fn .list (.cons (.ix (.var 0) (.int 1)) .nil))) .skip) .skip) (.seq (.ret (.ite (.bin .eq (.ix (.var 0) (.int 0)) (.str .w_middle)) (.fn .list (.cons (.sl (.var 0) (.one (.int 1)) .nop) .nil)) (.lst (.cons (.ix (.var 0) (.neg 1)) .nil)))) .skip)))
def n_l_parts : List String := ["_law_rule_here"]
/-- 0 _law_rule_here, 1 _law_found, 2 _law_part -/
def b_l_branches : S :=
  (.seq (.set 1 (.ite (.bin .eq (.ix (.var 0) (.int 0)) (.str .w_hear)) (.lst (.cons (.ix (.var 0) (.int 1)) .nil)) (.lst .nil)) ⟨false, false⟩) (.seq (.for (.one 2) (.itS (.call .l_parts (.cons (.var 0) .nil))) (.seq (.set 1 (.bin .add (.var 1) (.call .l_branches (.cons (.var 2) .nil))) ⟨false, false⟩) .skip)) (.seq (.ret (.var 1)) .skip)))
def n_l_branches : List String := ["_law_rule_here", "_law_found", "_law_part"]
/-- 0 _law_rule_here, 1 _law_some, 2 _law_word, 3 _law_a -/
def b_l_made : S :=
  (.seq (.par [(2, (.ix (.var 0) (.int 0)), ⟨false, false⟩), (3, (.ix (.var 1) (.int 0)), ⟨false, false⟩)]) (.seq (.ife (.bin .inn (.var 2) (.lst (.cons (.str .w_least) (.cons (.str .w_most) (.cons (.str .w_add) (.cons (.str .w_middle) .nil)))))) (.seq (.ret (.ite (.bin .eq (.var 2) (.str .w_least)) (.fn .mn (.cons (.var 1) .nil)) (.ite (.bin .eq (.var 2) (.str .w_most)) (.fn .mx (.cons (.var 1) .nil)) (.ite (.bin .eq (.var 2) (.str .w_add)) (.fn .sum (.cons (.var 1) .nil)) (.ix (.fn .sorted (.cons (.var 1) .nil)) (.int 1)))))) .skip) .skip) (.seq (.ife (.bin .inn (.var 2) (.lst (.cons (.str .w_times) (.cons (.str .w_part) .nil)))) (.seq (.ret (.ite (.bin .eq (.var 2) (.str .w_times)) (.bin .mul (.ix (.var 0) (.int 1)) (.var 3)) (.bin .fdiv (.var 3) (.ix (.var 0) (.int 1))))) .skip) .skip) (.seq (.ife (.bin .eq (.var 2) (.str .w_clip)) (.seq (.ret (.ite (.bin .lt (.var 3) (.ix (.var 0) (.int 1))) (.ix (.var 0) (.int 1)) (.ite (.bin .gt (.var 3) (.ix (.var 0) (.int 2))) (.ix (.var 0) (.int 2)) (.var 3)))) .skip) .skip) (.seq (.ife (.bin .eq (.var 2) (.str .w_from)) (.seq (.ret (.ite (.bin .lt (.var 3) (.ix (.var 0) (.int 1))) (.bin .sub (.ix (.var 0) (.int 1)) (.var 3)) (.int 0))) .skip) .skip) (.seq (.ife (.bin .eq (.var 2) (.str .w_bar)) (.seq (.ret (.ite (.bin .ge (.var 3) (.ix (.var 0) (.int 1))) (.ix (.var 0) (.int 3)) (.ix (.var 0) (.int 2)))) .skip) .skip) (.seq (.ret (.ite (.bin .lt (.var 3) (.fn .len (.cons (.ix (.var 0) (.int 1)) .nil))) (.ix (.ix (.var 0) (.int 1)) (.var 3)) (.ix (.ix (.var 0) (.int 1)) (.neg 1)))) .skip)))))))
def n_l_made : List String := ["_law_rule_here", "_law_some", "_law_word", "_law_a"]
/-- 0 _law_rule_here, 1 _law_heard, 2 _law_some, 3 _law_at, 4 _law_part, 5 _law_many -/
def b_l_told : S :=
  (.seq (.ife (.bin .inn (.ix (.var 0) (.int 0)) (.lst (.cons (.str .w_is) (.cons (.str .w_hear) .nil)))) (.seq (.ret (.ite (.bin .eq (.ix (.var 0) (.int 0)) (.str .w_is)) (.ix (.var 0) (.int 1)) (.ix (.var 1) (.int 0)))) .skip) .skip) (.seq (.par [(2, (.lst .nil), ⟨false, true⟩), (3, (.int 0), ⟨false, false⟩)]) (.seq (.for (.one 4) (.itS (.call .l_parts (.cons (.var 0) .nil))) (.seq (.set 5 (.fn .len (.cons (.call .l_branches (.cons (.var 4) .nil)) .nil)) ⟨false, false⟩) (.seq (.app 2 (.call .l_told (.cons (.var 4) (.cons (.sl (.var 1) (.one (.var 3)) (.one (.bin .add (.var 3) (.var 5)))) .nil))) ⟨false, false⟩) (.seq (.set 3 (.bin .add (.var 3) (.var 5)) ⟨false, false⟩) .skip)))) (.seq (.ret (.call .l_made (.cons (.var 0) (.cons (.var 2) .nil)))) .skip))))
def n_l_told : List String := ["_law_rule_here", "_law_heard", "_law_some", "_law_at", "_law_part", "_law_many"]
/-- 0 _law_net_here, 1 _law_house, 2 _law_heard -/
def b_l_wants : S :=
  (.seq (.ret (.fn .mn (.cons (.ix (.ix (.var 0) (.int 0)) (.var 1)) (.cons (.call .l_told (.cons (.ix (.ix (.var 0) (.int 1)) (.var 1)) (.cons (.fn .list (.cons (.var 2) .nil)) .nil))) .nil)))) .skip)
def n_l_wants : List String := ["_law_net_here", "_law_house", "_law_heard"]
/-- 0 _law_deal, 1 _law_net_here, 2 _law_d, 3 _law_beat, 4 _law_top -/
def b_l_past : S :=
  (.seq (.ret (.fn .tuple (.cons (.lc [3] (.one 3) (.itR1 (.var 2)) .nop (.fn .tuple (.cons (.lc [4] (.one 4) (.itS (.ix (.var 1) (.int 0))) .nop (.call .l_any (.cons (.var 0) (.cons (.bin .add (.var 4) (.int 1)) .nil)))) .nil))) .nil))) .skip)
def n_l_past : List String := ["_law_deal", "_law_net_here", "_law_d", "_law_beat", "_law_top"]
/-- 0 _law_net_here, 1 _law_states, 2 _law_house, 3 _law_row, 4 _law_heard, 5 _law_one, 6 _law_number -/
def b_l_hears : S :=
  (.seq (.set 4 (.lst .nil) ⟨false, true⟩) (.seq (.for (.many [5, 6]) (.itZ (.call .l_branches (.cons (.ix (.ix (.var 0) (.int 1)) (.var 2)) .nil)) (.var 3)) (.seq (.app 4 (.ix (.ix (.var 1) (.bin .sub (.fn .len (.cons (.var 1) .nil)) (.var 6))) (.var 5)) ⟨false, false⟩) .skip)) (.seq (.ret (.call .l_wants (.cons (.var 0) (.cons (.var 2) (.cons (.var 4) .nil))))) .skip)))
def n_l_hears : List String := ["_law_net_here", "_law_states", "_law_house", "_law_row", "_law_heard", "_law_one", "_law_number"]
/-- 0 _law_deal, 1 _law_net_here, 2 _law_d, 3 _law_e, 4 _law_beats, 5 _law_n, 6 _law_past_here, 7 _law_since, 8 _law_last, 9 _law_rows, 10 _law_states, 11 _law_beat, 12 _law_movers, 13 _law_house, 14 _law_lateness, 15 _law_now, 16 _law_row, 17 _law_place, 18 _law_most -/
def b_l_stopped : S :=
  (.seq (.set 5 (.fn .len (.cons (.ix (.var 1) (.int 0)) .nil)) ⟨false, false⟩) (.seq (.par [(6, (.call .l_past (.cons (.var 0) (.cons (.var 1) (.cons (.var 2) .nil)))), ⟨false, false⟩), (7, (.bin .mul (.lst (.cons (.int 0) .nil)) (.var 5)), ⟨false, true⟩), (8, (.bin .mul (.lst (.cons .non .nil)) (.var 5)), ⟨false, true⟩), (9, (.lst .nil), ⟨false, true⟩)]) (.seq (.set 10 (.fn .list (.cons (.var 6) .nil)) ⟨false, true⟩) (.seq (.for (.one 11) (.itR1 (.var 4)) (.seq (.set 12 (.fn .tuple (.cons (.lc [13] (.one 13) (.itR1 (.var 5)) (.one (.or (.bin .ge (.ix (.var 7) (.var 13)) (.bin .sub (.var 3) (.int 1))) (.one (.bin .eq (.call .l_any (.cons (.var 0) (.cons (.int 2) .nil))) (.int 0))))) (.var 13)) .nil)) ⟨true, false⟩) (.seq (.par [(14, (.lst .nil), ⟨false, true⟩), (15, (.fn .list (.cons (.ix (.var 10) (.neg 1)) .nil)), ⟨true, true⟩)]) (.seq (.for (.one 13) (.itR1 (.var 5)) (.seq (.set 16 (.lst .nil) ⟨false, true⟩) (.seq (.for (.one 17) (.itR1 (.fn .len (.cons (.call .l_branches (.cons (.ix (.ix (.var 1) (.int 1)) (.var 13)) .nil)) .nil))) (.seq (.set 18 (.ite (.bin .isS (.ix (.var 8) (.var 13)) .non) (.var 2) (.fn .mn (.cons (.var 2) (.cons (.bin .sub (.bin .add (.ix (.ix (.ix (.var 8) (.var 13)) (.int 1)) (.var 17)) (.var 11)) (.ix (.ix (.var 8) (.var 13)) (.int 0))) .nil)))) ⟨true, false⟩) (.seq (.app 16 (.bin .add (.int 1) (.call .l_any (.cons (.var 0) (.cons (.ite (.bin .inn (.var 13) (.var 12)) (.var 18) (.var 2)) .nil)))) ⟨false, false⟩) .skip))) (.seq (.app 14 (.fn .tuple (.cons (.var 16) .nil)) ⟨true, false⟩) (.seq (.ife (.bin .inn (.var 13) (.var 12)) (.seq (.sto 15 (.var 13) (.call .l_hears (.cons (.var 1) (.cons (.var 10) (.cons (.var 13) (.cons (.var 16) .nil))))) ⟨true, false⟩) (.frz 16 (.seq (.sto 8 (.var 13) (.tup (.cons (.var 11) (.cons (.var 16) .nil))) ⟨false, false⟩) .skip))) .skip) (.seq (.sto 7 (.var 13) (.ite (.bin .inn (.var 13) (.var 12)) (.int 0) (.bin .add (.ix (.var 7) (.var 13)) (.int 1))) ⟨true, false⟩) .skip)))))) (.seq (.app 10 (.fn .tuple (.cons (.var 15) .nil)) ⟨true, false⟩) (.seq (.app 9 (.tup (.cons (.var 12) (.cons (.fn .tuple (.cons (.var 14) .nil)) .nil))) ⟨true, false⟩) .skip)))))) (.seq (.ret (.tup (.cons (.tup (.cons (.var 6) (.cons (.fn .tuple (.cons (.var 9) .nil)) .nil))) (.cons (.sl (.var 10) (.one (.var 2)) .nop) .nil)))) .skip)))))
def n_l_stopped : List String := ["_law_deal", "_law_net_here", "_law_d", "_law_e", "_law_beats", "_law_n", "_law_past_here", "_law_since", "_law_last", "_law_rows", "_law_states", "_law_beat", "_law_movers", "_law_house", "_law_lateness", "_law_now", "_law_row", "_law_place", "_law_most"]
/-- 0 _law_script, 1 _law_deal, 2 _law_turn, 3 _law_net_here, 4 _law_d, 5 _law_e, 6 _law_run, 7 _law_states, 8 _law_plain, 9 _law_past_here, 10 _law_rows, 11 _law_shown, 12 _law_at, 13 _law_lateness, 14 _law_house, 15 _law_row, 16 _law_number, 17 _law_place, 18 _law_beat, 19 _law_rest, 20 _law_state -/
def b_law : S :=
  (.seq (.for (.one 2) (.itR1 (.int 2)) (.seq (.par [(3, (.call .l_net (.cons (.var 1) (.cons (.int 5) (.cons (.call .l_of (.cons (.var 1) (.cons (.lst (.cons (.int 2) (.cons (.int 5) .nil))) .nil))) (.cons (.bl false) .nil))))), ⟨false, false⟩), (4, (.bin .add (.int 2) (.call .l_any (.cons (.var 1) (.cons (.int 3) .nil)))), ⟨false, false⟩), (5, (.bin .add (.int 1) (.call .l_any (.cons (.var 1) (.cons (.int 4) .nil)))), ⟨false, false⟩)]) (.seq (.unp [6, 7] (.call .l_stopped (.cons (.var 1) (.cons (.var 3) (.cons (.var 4) (.cons (.var 5) (.cons (.bin .add (.bin .sub (.var 5) (.int 1)) (.call .l_any (.cons (.var 1) (.cons (.int 12) .nil)))) .nil)))))) ⟨false, false⟩) (.seq (.set 8 (.callk .plain_run [3, 2, 1, 0] (.cons (.var 6) (.cons (.var 5) (.cons (.var 4) (.cons (.var 3) .nil))))) ⟨false, false⟩) (.seq (.unp [9, 10] (.var 8) ⟨false, false⟩) (.seq (.ife (.or (.bin .ne (.fn .repr (.cons (.var 9) .nil)) (.fn .repr (.cons (.bin .add (.ix (.var 6) (.int 0)) (.fn .tuple (.cons (.sl (.var 7) .nop (.one (.bin .sub (.var 5) (.int 1)))) .nil))) .nil))) (.or (.bin .ne (.fn .len (.cons (.var 10) .nil)) (.bin .add (.bin .sub (.fn .len (.cons (.ix (.var 6) (.int 1)) .nil)) (.var 5)) (.int 1))) (.one (.bin .isNot (.call .is_run (.cons (.var 3) (.cons (.bin .sub (.bin .add (.var 4) (.var 5)) (.int 1)) (.cons (.var 8) .nil)))) (.bl true))))) (.seq (.ret (.bl false)) .skip) .skip) (.seq (.set 11 (.fn .list (.cons (.var 9) .nil)) ⟨false, true⟩) (.seq (.for (.many [12, 13]) (.itE (.var 10)) (.seq (.for (.many [14, 15]) (.itE (.var 13)) (.seq (.ife (.or (.bin .ne (.lc [16] (.one 16) (.itS (.var 15)) (.one (.not (.chain (.int 1) (.var 16) (.bin .sub (.bin .add (.var 4) (.var 5)) (.int 1))))) (.var 16)) (.lst .nil)) (.one (.bin .ne (.fn .len (.cons (.var 15) .nil)) (.fn .len (.cons (.call .l_branches (.cons (.ix (.ix (.var 3) (.int 1)) (.var 14)) .nil)) .nil))))) (.seq (.ret (.bl false)) .skip) .skip) (.seq (.ife (.and (.bin .gt (.var 12) (.int 0)) (.one (.bin .ne (.lc [17] (.one 17) (.itR1 (.fn .len (.cons (.var 15) .nil))) (.one (.bin .gt (.ix (.var 15) (.var 17)) (.bin .add (.ix (.ix (.ix (.var 10) (.bin .sub (.var 12) (.int 1))) (.var 14)) (.var 17)) (.int 1)))) (.var 17)) (.lst .nil)))) (.seq (.ret (.bl false)) .skip) .skip) .skip))) (.seq (.app 11 (.fn .tuple (.cons (.lc [14] (.one 14) (.itR1 (.fn .len (.cons (.ix (.var 3) (.int 0)) .nil))) .nop (.call .l_hears (.cons (.var 3) (.cons (.var 11) (.cons (.var 14) (.cons (.ix (.var 13) (.var 14)) .nil)))))) .nil)) ⟨true, false⟩) .skip))) (.seq (.ife (.bin .ne (.sl (.var 11) (.one (.fn .len (.cons (.var 9) .nil))) .nop) (.sl (.var 7) (.one (.bin .sub (.var 5) (.int 1))) .nop)) (.seq (.ret (.bl false)) .skip) .skip) (.seq (.ife (.call .rests_always (.cons (.var 3) .nil)) (.seq (.par [(18, (.callk .settled_with [3, 2, 1, 0] (.cons (.int 0) (.cons (.var 5) (.cons (.var 4) (.cons (.var 3) .nil))))), ⟨false, false⟩), (19, (.call .the_rest (.cons (.var 3) .nil)), ⟨false, false⟩)]) (.seq (.ife (.bin .ne (.lc [20] (.one 20) (.itS (.sl (.var 7) (.one (.var 18)) .nop)) (.one (.bin .ne (.var 20) (.var 19))) (.var 20)) (.lst .nil)) (.seq (.ret (.bl false)) .skip) .skip) .skip)) .skip) .skip)))))))))) (.seq (.ret (.bl true)) .skip))
def n_law : List String := ["_law_script", "_law_deal", "_law_turn", "_law_net_here", "_law_d", "_law_e", "_law_run", "_law_states", "_law_plain", "_law_past_here", "_law_rows", "_law_shown", "_law_at", "_law_lateness", "_law_house", "_law_row", "_law_number", "_law_place", "_law_beat", "_law_rest", "_law_state"]
def F.body : F → S
  | .is_integer => b_is_integer
  | .is_number => b_is_number
  | .is_index => b_is_index
  | .is_worth => b_is_worth
  | .is_head => b_is_head
  | .parts_of => b_parts_of
  | .branches => b_branches
  | .made => b_made
  | .told_by => b_told_by
  | .told => b_told
  | .is_state => b_is_state
  | .wanted => b_wanted
  | .is_past => b_is_past
  | .is_house_lateness => b_is_house_lateness
  | .is_lateness => b_is_lateness
  | .can_follow => b_can_follow
  | .fault_of => b_fault_of
  | .is_run => b_is_run
  | .shows_next => b_shows_next
  | .moves_of => b_moves_of
  | .stopped_shown => b_stopped_shown
  | .aged => b_aged
  | .plain_run => b_plain_run
  | .entries_for => b_entries_for
  | .range_of => b_range_of
  | .house_range => b_house_range
  | .is_rising_row => b_is_rising_row
  | .turn_of => b_turn_of
  | .words_within => b_words_within
  | .ways => b_ways
  | .one_way => b_one_way
  | .heard_ends => b_heard_ends
  | .stepped => b_stepped
  | .first_ends => b_first_ends
  | .rows_of_ends => b_rows_of_ends
  | .last_ends => b_last_ends
  | .rounds_needed => b_rounds_needed
  | .rests_always => b_rests_always
  | .the_rest => b_the_rest
  | .settled_from => b_settled_from
  | .settled_with => b_settled_with
  | .l_of => b_l_of
  | .l_rule => b_l_rule
  | .l_net => b_l_net
  | .l_parts => b_l_parts
  | .l_branches => b_l_branches
  | .l_made => b_l_made
  | .l_told => b_l_told
  | .l_wants => b_l_wants
  | .l_past => b_l_past
  | .l_hears => b_l_hears
  | .l_stopped => b_l_stopped
  | .l_any => .never
def F.names : F → List String
  | .is_integer => n_is_integer
  | .is_number => n_is_number
  | .is_index => n_is_index
  | .is_worth => n_is_worth
  | .is_head => n_is_head
  | .parts_of => n_parts_of
  | .branches => n_branches
  | .made => n_made
  | .told_by => n_told_by
  | .told => n_told
  | .is_state => n_is_state
  | .wanted => n_wanted
  | .is_past => n_is_past
  | .is_house_lateness => n_is_house_lateness
  | .is_lateness => n_is_lateness
  | .can_follow => n_can_follow
  | .fault_of => n_fault_of
  | .is_run => n_is_run
  | .shows_next => n_shows_next
  | .moves_of => n_moves_of
  | .stopped_shown => n_stopped_shown
  | .aged => n_aged
  | .plain_run => n_plain_run
  | .entries_for => n_entries_for
  | .range_of => n_range_of
  | .house_range => n_house_range
  | .is_rising_row => n_is_rising_row
  | .turn_of => n_turn_of
  | .words_within => n_words_within
  | .ways => n_ways
  | .one_way => n_one_way
  | .heard_ends => n_heard_ends
  | .stepped => n_stepped
  | .first_ends => n_first_ends
  | .rows_of_ends => n_rows_of_ends
  | .last_ends => n_last_ends
  | .rounds_needed => n_rounds_needed
  | .rests_always => n_rests_always
  | .the_rest => n_the_rest
  | .settled_from => n_settled_from
  | .settled_with => n_settled_with
  | .l_of => n_l_of
  | .l_rule => n_l_rule
  | .l_net => n_l_net
  | .l_parts => n_l_parts
  | .l_branches => n_l_branches
  | .l_made => n_l_made
  | .l_told => n_l_told
  | .l_wants => n_l_wants
  | .l_past => n_l_past
  | .l_hears => n_l_hears
  | .l_stopped => n_l_stopped
  | .l_any => ["_law_deal", "_law_bound", "_law_rest"]
def F.np : F → Nat
  | .is_integer => 1
  | .is_number => 1
  | .is_index => 2
  | .is_worth => 1
  | .is_head => 1
  | .parts_of => 1
  | .branches => 1
  | .made => 2
  | .told_by => 3
  | .told => 2
  | .is_state => 2
  | .wanted => 3
  | .is_past => 3
  | .is_house_lateness => 3
  | .is_lateness => 3
  | .can_follow => 2
  | .fault_of => 3
  | .is_run => 3
  | .shows_next => 3
  | .moves_of => 2
  | .stopped_shown => 3
  | .aged => 3
  | .plain_run => 4
  | .entries_for => 3
  | .range_of => 2
  | .house_range => 2
  | .is_rising_row => 1
  | .turn_of => 2
  | .words_within => 5
  | .ways => 2
  | .one_way => 1
  | .heard_ends => 5
  | .stepped => 3
  | .first_ends => 1
  | .rows_of_ends => 2
  | .last_ends => 1
  | .rounds_needed => 1
  | .rests_always => 1
  | .the_rest => 1
  | .settled_from => 2
  | .settled_with => 4
  | .l_of => 2
  | .l_rule => 5
  | .l_net => 4
  | .l_parts => 1
  | .l_branches => 1
  | .l_made => 2
  | .l_told => 2
  | .l_wants => 3
  | .l_past => 3
  | .l_hears => 4
  | .l_stopped => 5
  | .l_any => 2
def F.ns : F → Nat
  | .is_integer => 1
  | .is_number => 1
  | .is_index => 2
  | .is_worth => 1
  | .is_head => 2
  | .parts_of => 1
  | .branches => 3
  | .made => 2
  | .told_by => 6
  | .told => 2
  | .is_state => 4
  | .wanted => 3
  | .is_past => 4
  | .is_house_lateness => 4
  | .is_lateness => 5
  | .can_follow => 6
  | .fault_of => 5
  | .is_run => 3
  | .shows_next => 9
  | .moves_of => 4
  | .stopped_shown => 10
  | .aged => 6
  | .plain_run => 10
  | .entries_for => 3
  | .range_of => 8
  | .house_range => 4
  | .is_rising_row => 2
  | .turn_of => 5
  | .words_within => 11
  | .ways => 4
  | .one_way => 4
  | .heard_ends => 8
  | .stepped => 9
  | .first_ends => 1
  | .rows_of_ends => 5
  | .last_ends => 1
  | .rounds_needed => 1
  | .rests_always => 3
  | .the_rest => 3
  | .settled_from => 2
  | .settled_with => 4
  | .l_of => 2
  | .l_rule => 11
  | .l_net => 7
  | .l_parts => 1
  | .l_branches => 3
  | .l_made => 4
  | .l_told => 6
  | .l_wants => 3
  | .l_past => 5
  | .l_hears => 7
  | .l_stopped => 19
  | .l_any => 3
def F.py : F → String
  | .is_integer => "is_integer"
  | .is_number => "is_number"
  | .is_index => "is_index"
  | .is_worth => "is_worth"
  | .is_head => "is_head"
  | .parts_of => "parts_of"
  | .branches => "branches"
  | .made => "made"
  | .told_by => "told_by"
  | .told => "told"
  | .is_state => "is_state"
  | .wanted => "wanted"
  | .is_past => "is_past"
  | .is_house_lateness => "is_house_lateness"
  | .is_lateness => "is_lateness"
  | .can_follow => "can_follow"
  | .fault_of => "fault_of"
  | .is_run => "is_run"
  | .shows_next => "shows_next"
  | .moves_of => "moves_of"
  | .stopped_shown => "stopped_shown"
  | .aged => "aged"
  | .plain_run => "plain_run"
  | .entries_for => "entries_for"
  | .range_of => "range_of"
  | .house_range => "house_range"
  | .is_rising_row => "is_rising_row"
  | .turn_of => "turn_of"
  | .words_within => "words_within"
  | .ways => "ways"
  | .one_way => "one_way"
  | .heard_ends => "heard_ends"
  | .stepped => "stepped"
  | .first_ends => "first_ends"
  | .rows_of_ends => "rows_of_ends"
  | .last_ends => "last_ends"
  | .rounds_needed => "rounds_needed"
  | .rests_always => "rests_always"
  | .the_rest => "the_rest"
  | .settled_from => "settled_from"
  | .settled_with => "settled_with"
  | .l_of => "_law_of"
  | .l_rule => "_law_rule"
  | .l_net => "_law_net"
  | .l_parts => "_law_parts"
  | .l_branches => "_law_branches"
  | .l_made => "_law_made"
  | .l_told => "_law_told"
  | .l_wants => "_law_wants"
  | .l_past => "_law_past"
  | .l_hears => "_law_hears"
  | .l_stopped => "_law_stopped"
  | .l_any => "_law_any"
def F.at : F → Nat
  | .is_integer => 4
  | .is_number => 5
  | .is_index => 6
  | .is_worth => 10
  | .is_head => 11
  | .parts_of => 12
  | .branches => 13
  | .made => 14
  | .told_by => 15
  | .told => 16
  | .is_state => 18
  | .wanted => 19
  | .is_past => 21
  | .is_house_lateness => 22
  | .is_lateness => 23
  | .can_follow => 24
  | .fault_of => 25
  | .is_run => 26
  | .shows_next => 28
  | .moves_of => 30
  | .stopped_shown => 31
  | .aged => 33
  | .plain_run => 34
  | .entries_for => 36
  | .range_of => 37
  | .house_range => 38
  | .is_rising_row => 40
  | .turn_of => 41
  | .words_within => 42
  | .ways => 43
  | .one_way => 45
  | .heard_ends => 46
  | .stepped => 47
  | .first_ends => 48
  | .rows_of_ends => 49
  | .last_ends => 50
  | .rounds_needed => 51
  | .rests_always => 54
  | .the_rest => 55
  | .settled_from => 56
  | .settled_with => 58
  | .l_of => 62
  | .l_rule => 64
  | .l_net => 65
  | .l_parts => 66
  | .l_branches => 67
  | .l_made => 68
  | .l_told => 69
  | .l_wants => 70
  | .l_past => 71
  | .l_hears => 72
  | .l_stopped => 73
  | .l_any => 61

/-- the draw, as the law makes it -/
def dropZ : List Int → List Int
  | [] => []
  | c :: r => if c = 0 then dropZ r else c :: r
/-- the great cells stand in turned order here: the last one first -/
def anyP : List D → Dl → Option (D × Dl)
  | [.deal, .int b], δ =>
    if 0 < b ∧ b < 1073741824 then
      match dropZ δ.cs with
      | c :: r => some (.int (c % b), ⟨(c / b) :: r, δ.z⟩)
      | [] => some (.int ((((δ.z * 40693 + 71) % 2147483647) / 64) % b), ⟨[], (δ.z * 40693 + 71) % 2147483647⟩)
    else none
  | _, _ => none
def callF : Nat → CF
  | 0, _, _, _ => none
  | n + 1, f, args, δ =>
    match f with
    | .l_any => anyP args δ
    | f => if args.length = f.np then
        match exec (callF n) f.body (args.map .va ++ List.replicate (f.ns - f.np) .no) δ with
        | some (.rt d, δ) => some (d, δ)
        | some (.nx _, δ) => some (.non, δ)
        | none => none
      else none
end NB

set_option Elab.async false
set_option linter.all false
set_option maxRecDepth 100000
set_option maxHeartbeats 2000000
/-! Rules over the hand layer that it lacks: walks over a list or a tuple alike (for, enumerate, zip in any mix), extend by a tuple, min and max of a tuple, repr of data, tuple * 1, calls by keywords alone. -/
namespace NR
open PySem PySem.Spec PyProof.Rows L2

/-! ### a list or a tuple -/
def SqK (K : PySem.W.Frag) : Bool → Hp → Addr → List V → Prop
  | true, H, a, xs => SqL K H a xs
  | false, H, a, xs => SqT K H a xs
def ContK : Bool → Heap → Addr → Array Value → Prop
  | true, h, a, items => h.IsList a items
  | false, h, a, items => h.IsTuple a items
def IterK : Bool → Heap → Addr → Addr → Nat → Prop
  | true, h, it, a, i => h.IsListIter it a i
  | false, h, it, a, i => h.IsTupleIter it a i
def iterObj : Bool → Addr → Obj
  | true, a => { cls := .type "list_iterator", data := .fields #[.ref a, .int 0 0] }
  | false, a => { cls := .type "tuple_iterator", data := .fields #[.ref a, .int 0 0] }
section
variable {X : Cx} {pins : List (Addr × Obj)} {σ : L2.St} {H : Hp} {s : Shared} {a : Addr} {xs ys : List V} {k : Bool}
theorem Inv.seqK (I : Inv X pins σ H s) (h : SqK X.K k H a xs) : ∃ its : List Value, Vals xs its ∧ ContK k s.heap a its.toArray ∧ xs.length ≤ sizeLine := by
  cases k with
  | true =>
    obtain ⟨its, r, p, z⟩ := I.list h
    exact ⟨its, r, p.isList, z⟩
  | false =>
    obtain ⟨its, r, p, z⟩ := I.tuple h
    exact ⟨its, r, p, z⟩
theorem Inv.seqK_inj (I : Inv X pins σ H s) (h : SqK X.K k H a xs) (h' : SqK X.K k H a ys) : xs = ys := by
  cases k with
  | true => exact I.list_inj h h'
  | false => exact I.tuple_inj h h'
theorem ContK.lt {h : Heap} {its : Array Value} (c : ContK k h a its) : a < h.objs.size := by
  cases k with
  | true => exact Heap.lt_size c.choose_spec.1
  | false => exact Heap.lt_size c.choose_spec.1
theorem IterK.obj {h : Heap} {it : Addr} {i : Nat} (c : IterK k h it a i) : ∃ o, h.get? it = some o ∧ ∀ v, o.data ≠ .cell v := by
  cases k with
  | true =>
    obtain ⟨o, e, _, d⟩ := c
    exact ⟨o, e, fun v q => by rw [d] at q; cases q⟩
  | false =>
    obtain ⟨o, e, _, d⟩ := c
    exact ⟨o, e, fun v q => by rw [d] at q; cases q⟩
theorem IterK.at {h h' : Heap} {it : Addr} {i : Nat} (c : IterK k h it a i) (q : ∀ o, h.get? it = some o → h'.get? it = some o) : IterK k h' it a i := by
  cases k with
  | true => exact Heap.IsListIter.at c q
  | false => exact Heap.IsTupleIter.at c q
theorem drawsK {prog : Program} {w : World} {A : Around} (k : Bool) (hh : A.handled = none) (it l : Addr) (hne : l ≠ it) (items : Array Value) :
    Draws prog w A it [it, l] items.size (fun i v => items[i]? = some v) (fun i h => IterK k h it l i ∧ ContK k h l items) := by
  cases k with
  | true => exact Draws.list hh it l hne items
  | false => exact Draws.tuple hh it l hne items
theorem beginsK (k : Bool) (l : Addr) (items : Array Value) : Begins (.ref l) (iterObj k l) fun h => ContK k h l items := by
  cases k with
  | true => exact begins_list l items
  | false => exact begins_tuple l items
theorem IterK.new {h : Heap} {it : Addr} (k : Bool) (e : h.get? it = some (iterObj k a)) : IterK k h it a 0 := by
  cases k with
  | true => exact ⟨_, e, rfl, rfl⟩
  | false => exact ⟨_, e, rfl, rfl⟩
end

/-! ### for x in .. -/
def ItA (K : PySem.W.Frag) : Bool → Addr → It
  | true, a => Itl K a
  | false, a => Itt K a
theorem walkA {K : PySem.W.Frag} (k : Bool) {a : Addr} {xs : List V} : Walk (ItA K k a) xs.length (fun H => SqK K k H a xs) (YAt xs) := by
  cases k with
  | true => exact walk_list
  | false => exact walk_tup
def iAny (K : PySem.W.Frag) (te : TE) : TI := fun σ H R => te σ H fun x H1 => ∃ (k : Bool) (a : Addr) (xs : List V), x = .ref a ∧ SqK K k H1 a xs ∧ R (ItA K k a) H1
theorem pi_any {X : Cx} {tg e : Expr} {te : TE} (he : PE X e te) : PI X tg e (iAny X.K te) := by
  refine ⟨fun pins s σ H R I h => ?_⟩
  refine thn (he.run pins s σ H _ I h) fun v s1 ⟨x, H1, I1, rx, k, a, xs, ex, hS, q⟩ => ?_
  subst ex
  obtain rfl : v = Value.ref a := rx
  have hn : H1 s1.heap.objs.size = none := I1.hok.fresh (Nat.le_refl _)
  cases k with
  | true =>
    have P : PI X tg e (iList X.K fun _ _ Q => Q (.ref a) H1) → True := fun _ => trivial
    obtain ⟨its, rv, p, _⟩ := I1.list hS
    refine wpAny_pyIter_list p.isList ⟨s1.heap.objs.size, [s1.heap.objs.size], _, Itl X.K a, H1, rfl, I1.kept (t' := s1.toks) (fun b u e => Heap.get?_push_of_some _ e), turn_list a s1.heap.objs.size,
      ⟨_, Heap.get?_push_size _ rfl, rfl, rfl⟩, fun b hb => ?_, q⟩
    obtain rfl := List.mem_singleton.mp hb
    exact I1.fpOk (Nat.le_refl _) hn
  | false =>
    obtain ⟨its, rv, p, _⟩ := I1.tuple hS
    refine wpAny_pyIter_tuple p ⟨s1.heap.objs.size, [s1.heap.objs.size], _, Itt X.K a, H1, rfl, I1.kept (t' := s1.toks) (fun b u e => Heap.get?_push_of_some _ e), turn_tuple a s1.heap.objs.size,
      ⟨_, Heap.get?_push_size _ rfl, rfl, rfl⟩, fun b hb => ?_, q⟩
    obtain rfl := List.mem_singleton.mp hb
    exact I1.fpOk (Nat.le_refl _) hn

/-! ### for i, x in enumerate(..) -/
def IteA (K : PySem.W.Frag) (k : Bool) (a : Addr) : It :=
  ⟨fun i H => ∃ (xs : List V) (x : V), SqK K k H a xs ∧ xs[i]? = some x, fun i H v H' => ∃ T x, v = .ref T ∧ H T = none ∧ H' = upd H T (.tup [.int (i : Nat), x]) ∧ ∀ xs, SqK K k H a xs → xs[i]? = some x, fun i H => ∃ xs : List V, SqK K k H a xs ∧ xs.length = i⟩
theorem turn_enumA {P : Program} {w : World} {K : PySem.W.Frag} {elts : List Expr} {kk : Nat} {tpos : Pos} (k : Bool) (a e it : Addr) (hae : a < it) (hie : it < e) :
    Turn P w K (.Tuple elts kk tpos) (IteA K k a) [e, it] e (fun i h => (∃ old, IsEnum h e it ((i : Nat) : Int) old) ∧ IterK k h it a i) where
  mem := by simp
  obj := fun i h st b hb => by
    obtain ⟨⟨old, he⟩, hi⟩ := st
    have e' : b = e ∨ b = it := by simpa using hb
    rcases e' with z | z
    · rw [z]; exact ⟨_, he, fun v q => nomatch q⟩
    · rw [z]; exact hi.obj
  keep := fun i h h' st q => ⟨let ⟨old, he⟩ := st.1; ⟨old, q e (by simp) _ he⟩, st.2.at fun o z => q it (by simp) o z⟩
  item := by
    intro X hP hw hK hc i pins s σ H E I hf st hg
    subst hP hw hK
    obtain ⟨⟨old, he⟩, hit⟩ := st
    obtain ⟨xs, x, hq, hx⟩ := hg
    obtain ⟨its, rv, p, hz⟩ := Inv.seqK I hq
    have hel : e < s.heap.objs.size := Heap.lt_size he
    have hil : it < s.heap.objs.size := Nat.lt_trans hie hel
    have hne : a ≠ it := Nat.ne_of_lt hae
    have hlt : i < its.toArray.size := by
      have h1 := (List.getElem?_eq_some_iff.mp hx).1
      rw [List.size_toArray, ← rv.length]; exact h1
    have hef : e ∉ [it, a] := fun hm => by
      rcases List.mem_cons.mp hm with z | hm
      · exact Nat.ne_of_gt hie z
      · exact Nat.ne_of_gt (Nat.lt_trans hae hie) (List.mem_singleton.mp hm)
    refine wpAny_pyNext_enum_itemD (drawsK k (show X.A.in1.handled = none from I.ok.hd hc) it a hne its.toArray) he ⟨hit, p⟩ hlt (Nat.ne_of_gt hie) hef fun u h' tk hu ho hit' hT hsz hk => ?_
    have ru : RelV x u := by
      obtain ⟨u', hu', ru⟩ := rv.get hx
      have e1 : its.toArray[i]? = some u' := by simpa using hu'
      rw [hu] at e1
      cases e1
      exact ru
    refine ⟨_, rfl, wpAny_letOwnedTupleGo_enum (s := { s with heap := h', toks := tk + 1 }) ho fun h'' he' sb => ?_⟩
    have hT2 : h''.get? s.heap.objs.size = some { cls := .type "tuple", data := .seq #[.int i tk, u] } := (sb.2 _ (Nat.ne_of_gt hel)).trans hT
    have new : ObjOk X.prog X.w (upd H s.heap.objs.size (.tup [.int (i : Nat), x])) h'' s.heap.objs.size (.tup [.int (i : Nat), x]) :=
      ⟨by show 2 ≤ sizeLine; decide, [.int i tk, u], .cons ⟨_, rfl⟩ (.cons ru .nil), ⟨_, hT2, rfl, _, rfl⟩⟩
    have I1 : Inv X pins σ (upd H s.heap.objs.size (.tup [.int (i : Nat), x])) { s with heap := h'', toks := tk + 1 } :=
      I.turnedNew (ch := [e, it]) (fun b ob hb q => (sb.2 b (fun z => hb (by simp [z]))).trans (hk b ob (fun z => hb (by simp [z])) (fun z => hb (by simp [z])) q)) hf (Nat.le_refl _) new
    refine ⟨.ref s.heap.objs.size, _, I1, rfl, ⟨_, x, rfl, I.hok.fresh (Nat.le_refl _), rfl, fun ys hy => by rw [Inv.seqK_inj I hy hq]; exact hx⟩, ⟨⟨u, ?_⟩, hit'.1.at fun o q => (sb.2 it (Nat.ne_of_lt hie)).trans q⟩, fun b hb => ?_⟩
    · have e1 : ((i + 1 : Nat) : Int) = (i : Int) + 1 := by omega
      rw [e1]; exact he'
    · have hb' : b < s.heap.objs.size := by
        have e' : b = e ∨ b = it := by simpa using hb
        rcases e' with z | z
        · rw [z]; exact hel
        · rw [z]; exact hil
      rw [upd_ne (Nat.ne_of_lt hb')]
      exact (hf b hb).1
  done := by
    intro X hP hw hK hc i pins s σ H E I hf st hg
    subst hP hw hK
    obtain ⟨⟨old, he⟩, hit⟩ := st
    obtain ⟨xs, hq, hx⟩ := hg
    obtain ⟨its, rv, p, hz⟩ := Inv.seqK I hq
    obtain ⟨f0, f1, f2, f3, f4, f5⟩ := hf it (by simp)
    have hl : its.toArray.size = i := by rw [List.size_toArray, ← rv.length]; exact hx
    subst hl
    exact wpAny_pyNext_enum_endD (drawsK k (show X.A.in1.handled = none from I.ok.hd hc) it a (Nat.ne_of_lt hae) its.toArray) he ⟨hit, p⟩ fun h' eb => ⟨rfl, I.turned (t' := s.toks) (fun b o hb q => eb b o hb q) f0 f1 f3 f4 f5⟩
  self := fun A i s Q E st h => let ⟨⟨_, he⟩, _⟩ := st; wpAny_pyIter_enum he h
set_option maxHeartbeats 4000000 in
theorem meets_enum1 {v : Value} {o : Obj} {G : Heap → Prop} (B : Begins v o G) :
    Meets (Builtin.«enumerate.__new__» ⟨[.type "enumerate", v], []⟩) (fun _ R s => G s.heap ∧
      R (.ok (.ret (.ref (s.heap.push o).objs.size))) { s with heap := (s.heap.push o).push { cls := .type "enumerate", data := .fields #[.none, .bool false, .ref s.heap.objs.size, rawInt 0, .none, .none] } }) :=
  .of_wp fun prog w A R s h => by
    obtain ⟨hp, g, d, tk, os⟩ := s
    obtain ⟨h1, h⟩ := h
    have hsub := sub_enumerate
    have q1 : ∀ {A' : Around} {E : Value → Shared → Prop} {Q : Value → Shared → Prop}, Q (.ref hp.objs.size) ⟨hp.push o, g, d, tk, os⟩ → wpAny (model prog w) A' (pyIter v) Q E ⟨hp, g, d, tk, os⟩ :=
      fun q => B.iter prog w _ _ ⟨hp, g, d, tk, os⟩ _ h1 q
    wp_walk using q1
    refine wpAny_stack_any fun st => wpAny_pure ?_
    split
    · rename_i c _ _ _ _ _
      cases (c == Value.type "enumerate")
      · wp_walk using q1
        exact ⟨_, rfl, h⟩
      · wp_walk using q1
        exact ⟨_, rfl, h⟩
    · wp_walk using q1
      exact ⟨_, rfl, h⟩
theorem enum1_begins {prog : Program} {w : World} {A : Around} {E : Value → Shared → Prop} {s : Shared} {v : Value} {o : Obj} {G : Heap → Prop} {Q : Value → Shared → Prop} (B : Begins v o G) (h1 : G s.heap)
    (h : ∀ h', IsEnum h' (s.heap.objs.size + 1) s.heap.objs.size 0 .none → h'.get? s.heap.objs.size = some o →
      (∀ b o, s.heap.get? b = some o → h'.get? b = some o) → Q (.ref (s.heap.objs.size + 1)) { s with heap := h' }) :
    wpAny (model prog w) A (call (.type "enumerate") [v]) Q E s := by
  refine callType_new F.called_enumerate (by decide) (F.typeCall_enumerate_1 _) (F.newCall_enumerate_1 _) (fun obj => F.args_object_init_2 obj _) F.entry_enumerate_new (meets_enum1 B) ⟨h1, ?_⟩
  have hz : (s.heap.push o).objs.size = s.heap.objs.size + 1 := Heap.size_push ..
  show _ ∧ _
  rw [hz]
  have he : IsEnum ((s.heap.push o).push { cls := .type "enumerate", data := .fields #[.none, .bool false, .ref s.heap.objs.size, rawInt 0, .none, .none] }) (s.heap.objs.size + 1) s.heap.objs.size 0 .none := by
    have q := Heap.get?_push_size (s.heap.push o) (o := { cls := .type "enumerate", data := .fields #[.none, .bool false, .ref s.heap.objs.size, rawInt 0, .none, .none] }) rfl
    rw [hz] at q
    exact q
  exact ⟨⟨_, he, rfl⟩, h _ he (Heap.get?_push_of_some _ (Heap.get?_push_size _ B.free)) fun b o x => Heap.get?_push_of_some _ (Heap.get?_push_of_some _ x)⟩
def iEnumA (K : PySem.W.Frag) (ta : TA) : TI := fun σ H R => ta σ H fun vs H1 => ∃ (k : Bool) (a : Addr) (xs : List V), vs = [.ref a] ∧ SqK K k H1 a xs ∧ R (IteA K k a) H1
theorem pi_enumA {X : Cx} {e : Expr} {ta : TA} {p pos tpos : Pos} {elts : List Expr} {kk : Nat} (hg : Gl X "enumerate") (hm : X.mg "enumerate" = none) (ha : PA X [e] ta) (hs : starEach [e] X.env = [(false, eval e X.env)]) :
    PI X (.Tuple elts kk tpos) (.Call (.Name "enumerate" p) [e] [] pos) (iEnumA X.K ta) := by
  refine ⟨fun pins s σ H R I h => ?_⟩
  refine Call_ (ld_blt I hg hm boot_enumerate (PyProof.Rows.callWith_type1 (thn (ha.run pos pins s σ H _ I h) fun us s1 ⟨vs, H1, I1, r1, q1⟩ => ?_) hs rfl))
  obtain ⟨k, a, xs, ex, hq, q⟩ := q1
  subst ex
  cases r1 with
  | cons r rr =>
    cases rr
    cases r
    obtain ⟨its, rv, p', hz⟩ := Inv.seqK I1 hq
    refine enum1_begins (beginsK k a its.toArray) p' fun h' he hit hk => wpAny_pyIter_enum he ?_
    have I2 : Inv X pins σ H1 { s1 with heap := h' } := I1.kept (t' := s1.toks) hk
    refine ⟨s1.heap.objs.size + 1, [s1.heap.objs.size + 1, s1.heap.objs.size], _, _, H1, rfl, I2, turn_enumA k a (s1.heap.objs.size + 1) s1.heap.objs.size p'.lt (Nat.lt_succ_self _), ⟨⟨.none, he⟩, IterK.new k hit⟩, fun b hb => ?_, q⟩
    have e' : b = s1.heap.objs.size + 1 ∨ b = s1.heap.objs.size := by simpa using hb
    have hle : s1.heap.objs.size ≤ b := by
      rcases e' with z | z
      · rw [z]; exact Nat.le_add_right _ _
      · rw [z]; exact Nat.le_refl _
    exact I1.fpOk hle (I1.hok.fresh hle)
theorem walkEnumA {K : PySem.W.Frag} (k : Bool) {a : Addr} {xs : List V} : Walk (IteA K k a) xs.length (fun H => SqK K k H a xs) (YPair (fun i => some (.int (i : Nat))) (fun i => xs[i]?)) := by
  refine ⟨fun i _ hi q => ⟨xs, xs[i], q, by simp [hi]⟩, fun _ q => ⟨xs, q, rfl⟩, fun i H v H' _ q y => ?_⟩
  obtain ⟨T, x, h1, h2, h3, h4⟩ := y
  exact ⟨T, .int (i : Nat), x, h1, h2, h3, rfl, h4 xs q⟩

/-! ### for a, b in zip(.., ..) -/
def ItzA (K : PySem.W.Frag) (k j : Bool) (a b : Addr) : It :=
  ⟨fun i H => ∃ (xs ys : List V) (x y : V), SqK K k H a xs ∧ SqK K j H b ys ∧ xs[i]? = some x ∧ ys[i]? = some y,
    fun i H v H' => ∃ T x y, v = .ref T ∧ H T = none ∧ H' = upd H T (.tup [x, y]) ∧ (∀ xs, SqK K k H a xs → xs[i]? = some x) ∧ ∀ ys, SqK K j H b ys → ys[i]? = some y,
    fun i H => ∃ xs ys : List V, SqK K k H a xs ∧ SqK K j H b ys ∧ i ≤ xs.length ∧ i ≤ ys.length ∧ (i = xs.length ∨ i = ys.length)⟩
theorem turn_zipA {P : Program} {w : World} {K : PySem.W.Frag} {elts : List Expr} {kk : Nat} {tpos : Pos} (k j : Bool) {a b z TI TO i1 i2 : Addr} (D : ZipSep2 z TI TO i1 i2 [i1, a] [i2, b]) (n1 : a ≠ i1) (n2 : b ≠ i2) :
    Turn P w K (.Tuple elts kk tpos) (ItzA K k j a b) [z, TI, TO, i1, i2] z (fun i h => IsZip h z TI TO .none ∧ IsTupOf2 h TI (.ref i1) (.ref i2) ∧ (∃ x y, IsTupOf2 h TO x y) ∧ IterK k h i1 a i ∧ IterK j h i2 b i) where
  mem := by simp
  obj := fun i h st c hc => by
    obtain ⟨hz, hTI, ⟨x, y, hTO⟩, h1, h2⟩ := st
    have e' : c = z ∨ c = TI ∨ c = TO ∨ c = i1 ∨ c = i2 := by simpa using hc
    rcases e' with q | q | q | q | q
    · rw [q]; exact ⟨_, hz, fun v q => nomatch q⟩
    · rw [q]; exact ⟨_, hTI, fun v q => nomatch q⟩
    · rw [q]; exact ⟨_, hTO, fun v q => nomatch q⟩
    · rw [q]; exact h1.obj
    · rw [q]; exact h2.obj
  keep := fun i h h' st q => by
    obtain ⟨hz, hTI, ⟨x, y, hTO⟩, h1, h2⟩ := st
    exact ⟨q z (by simp) _ hz, q TI (by simp) _ hTI, ⟨x, y, q TO (by simp) _ hTO⟩, h1.at fun o r => q i1 (by simp) o r, h2.at fun o r => q i2 (by simp) o r⟩
  item := by
    intro X hP hw hK hc i pins s σ H E I hf st hg
    subst hP hw hK
    obtain ⟨hz, hTI, ⟨x0, y0, hTO⟩, h1, h2⟩ := st
    obtain ⟨xs, ys, x, y, hqx, hqy, hx, hy⟩ := hg
    obtain ⟨its, rv, p, _⟩ := Inv.seqK I hqx
    obtain ⟨its2, rv2, p2, _⟩ := Inv.seqK I hqy
    have hzl : z < s.heap.objs.size := Heap.lt_size hz
    have l1 : i < its.toArray.size := by
      have q := (List.getElem?_eq_some_iff.mp hx).1
      rw [List.size_toArray, ← rv.length]; exact q
    have l2 : i < its2.toArray.size := by
      have q := (List.getElem?_eq_some_iff.mp hy).1
      rw [List.size_toArray, ← rv2.length]; exact q
    refine wpAny_pyNext_zipD2_item D (drawsK k (show X.A.in1.handled = none from I.ok.hd hc) i1 a n1 its.toArray) (drawsK j (show X.A.in1.handled = none from I.ok.hd hc) i2 b n2 its2.toArray) hz hTI hTO ⟨h1, p⟩ ⟨h2, p2⟩ l1 l2 fun u u2 h' tk hu hu2 z' TO' h1' h2' hT hsz hk => ?_
    have ru : RelV x u := by
      obtain ⟨u', hu', ru⟩ := rv.get hx
      have e1 : its.toArray[i]? = some u' := by simpa using hu'
      rw [hu] at e1
      cases e1
      exact ru
    have ru2 : RelV y u2 := by
      obtain ⟨u', hu', ru⟩ := rv2.get hy
      have e1 : its2.toArray[i]? = some u' := by simpa using hu'
      rw [hu2] at e1
      cases e1
      exact ru
    refine ⟨_, rfl, wpAny_letOwnedTupleGo_zip (s := { s with heap := h', toks := tk }) z' fun h'' z'' sb => ?_⟩
    have hT2 : h''.get? s.heap.objs.size = some { cls := .type "tuple", data := .seq #[u, u2] } := (sb.2 _ (Nat.ne_of_gt hzl)).trans hT
    have new : ObjOk X.prog X.w (upd H s.heap.objs.size (.tup [x, y])) h'' s.heap.objs.size (.tup [x, y]) :=
      ⟨by show 2 ≤ sizeLine; decide, [u, u2], .cons ru (.cons ru2 .nil), ⟨_, hT2, rfl, _, rfl⟩⟩
    have I1 : Inv X pins σ (upd H s.heap.objs.size (.tup [x, y])) { s with heap := h'', toks := tk } :=
      I.turnedNew (ch := [z, TI, TO, i1, i2]) (fun c o hb q => (sb.2 c (fun q' => hb (by simp [q']))).trans (hk c o (fun q' => hb (by simp [q'])) (fun q' => hb (by simp [q'])) (fun q' => hb (by simp [q'])) (fun q' => hb (by simp [q'])) q)) hf (Nat.le_refl _) new
    refine ⟨.ref s.heap.objs.size, _, I1, rfl, ⟨_, x, y, rfl, I.hok.fresh (Nat.le_refl _), rfl, fun l hl => by rw [Inv.seqK_inj I hl hqx]; exact hx, fun l hl => by rw [Inv.seqK_inj I hl hqy]; exact hy⟩, ⟨z'', ?_, ⟨u, u2, ?_⟩, ?_, ?_⟩, fun c hcm => ?_⟩
    · exact (sb.2 _ D.TIz).trans (hk _ _ D.TIz D.TITO D.TIi1 D.TIi2 hTI)
    · exact (sb.2 _ D.TOz).trans TO'
    · exact h1'.1.at fun o q => (sb.2 _ D.zi1.symm).trans q
    · exact h2'.1.at fun o q => (sb.2 _ D.zi2.symm).trans q
    · have hlt : c < s.heap.objs.size := by
        have e' : c = z ∨ c = TI ∨ c = TO ∨ c = i1 ∨ c = i2 := by simpa using hcm
        rcases e' with q | q | q | q | q
        · rw [q]; exact hzl
        · rw [q]; exact Heap.lt_size hTI
        · rw [q]; exact Heap.lt_size hTO
        · rw [q]; exact Heap.lt_size h1.obj.choose_spec.1
        · rw [q]; exact Heap.lt_size h2.obj.choose_spec.1
      rw [upd_ne (Nat.ne_of_lt hlt)]
      exact (hf c hcm).1
  done := by
    intro X hP hw hK hc i pins s σ H E I hf st hg
    subst hP hw hK
    obtain ⟨hz, hTI, ⟨x0, y0, hTO⟩, h1, h2⟩ := st
    obtain ⟨xs, ys, hqx, hqy, hi1, hi2, hend⟩ := hg
    obtain ⟨its, rv, p, _⟩ := Inv.seqK I hqx
    obtain ⟨its2, rv2, p2, _⟩ := Inv.seqK I hqy
    have l1 : its.toArray.size = xs.length := by rw [List.size_toArray, ← rv.length]
    have l2 : its2.toArray.size = ys.length := by rw [List.size_toArray, ← rv2.length]
    exact wpAny_pyNext_zipD2_end D (drawsK k (show X.A.in1.handled = none from I.ok.hd hc) i1 a n1 its.toArray) (drawsK j (show X.A.in1.handled = none from I.ok.hd hc) i2 b n2 its2.toArray) hz hTI hTO ⟨h1, p⟩ ⟨h2, p2⟩ (by omega) (by omega) (by omega)
      fun h' tk hk => ⟨rfl, I.turnedL (t' := tk) (ch := [z, TI, TO, i1, i2]) (fun c o hb q =>
      hk c o (fun q' => hb (by simp [q'])) (fun q' => hb (by simp [q'])) (fun q' => hb (by simp [q'])) (fun q' => hb (by simp [q'])) q) hf⟩
  self := fun A i s Q E st h => wpAny_pyIter_zip st.1 h
def iZipAny (K : PySem.W.Frag) (ta : TA) : TI := fun σ H R => ta σ H fun vs H1 => ∃ (k j : Bool) (a b : Addr) (xs ys : List V), vs = [.ref a, .ref b] ∧ SqK K k H1 a xs ∧ SqK K j H1 b ys ∧ R (ItzA K k j a b) H1
theorem pi_zipAny {X : Cx} {e e2 : Expr} {ta : TA} {p pos tpos : Pos} {elts : List Expr} {kk : Nat} (hg : Gl X "zip") (hm : X.mg "zip" = none) (ha : PA X [e, e2] ta)
    (hs : starEach [e, e2] X.env = (false, eval e X.env) :: starEach [e2] X.env) (hpl : (backTo pos (starEach [e2] X.env)).any (·.1) = false) :
    PI X (.Tuple elts kk tpos) (.Call (.Name "zip" p) [e, e2] [] pos) (iZipAny X.K ta) := by
  refine ⟨fun pins s σ H R I h => ?_⟩
  refine Call_ (ld_blt I hg hm PyProof.Rows.boot_zip (PyProof.Rows.callWith_type1 (thn (ha.run pos pins s σ H _ I h) fun us s1 ⟨vs, H1, I1, r1, q1⟩ => ?_) hs hpl))
  obtain ⟨k, j, a, b, xs, ys, ex, hqx, hqy, q⟩ := q1
  subst ex
  cases r1 with
  | cons r rr =>
    cases rr with
    | cons r' rr =>
      cases rr
      cases r
      cases r'
      obtain ⟨its, rv, p1, _⟩ := Inv.seqK I1 hqx
      obtain ⟨its2, rv2, p2, _⟩ := Inv.seqK I1 hqy
      have la : a < s1.heap.objs.size := p1.lt
      have lb : b < s1.heap.objs.size := p2.lt
      refine zip_begins2 (beginsK k a its.toArray) (beginsK j b its2.toArray) p1 p2 fun h' hz hTI hTO h1 h2 hsz hk => wpAny_pyIter_zip hz ?_
      have I2 : Inv X pins σ H1 { s1 with heap := h' } := I1.kept (t' := s1.toks) hk
      refine ⟨s1.heap.objs.size + 4, [s1.heap.objs.size + 4, s1.heap.objs.size + 2, s1.heap.objs.size + 3, s1.heap.objs.size, s1.heap.objs.size + 1], _, _, H1, rfl, I2,
        turn_zipA k j (zip_sep2 (fun c hc => by rw [List.mem_singleton.mp hc]; exact la) (fun c hc => by rw [List.mem_singleton.mp hc]; exact lb)) (Nat.ne_of_lt la) (Nat.ne_of_lt (Nat.lt_succ_of_lt lb)),
        ⟨hz, hTI, ⟨_, _, hTO⟩, IterK.new k h1, IterK.new j h2⟩, fun c hcm => ?_, q⟩
      have e' : c = s1.heap.objs.size + 4 ∨ c = s1.heap.objs.size + 2 ∨ c = s1.heap.objs.size + 3 ∨ c = s1.heap.objs.size ∨ c = s1.heap.objs.size + 1 := by simpa using hcm
      have hle : s1.heap.objs.size ≤ c := by
        rcases e' with z | z | z | z | z <;> rw [z] <;> first | exact Nat.le_refl _ | exact Nat.le_add_right _ _
      exact I1.fpOk hle (I1.hok.fresh hle)
theorem walkZipA {K : PySem.W.Frag} (k j : Bool) {a b : Addr} {xs ys : List V} {n : Nat} (hn : n = min xs.length ys.length) : Walk (ItzA K k j a b) n (fun H => SqK K k H a xs ∧ SqK K j H b ys) (YPair (fun i => xs[i]?) (fun i => ys[i]?)) := by
  subst hn
  refine ⟨fun i _ hi q => ?_, fun _ q => ⟨xs, ys, q.1, q.2, by omega, by omega, by omega⟩, fun i H v H' _ q y => ?_⟩
  · have h1 : i < xs.length := by omega
    have h2 : i < ys.length := by omega
    exact ⟨xs, ys, xs[i], ys[i], q.1, q.2, by simp [h1], by simp [h2]⟩
  · obtain ⟨T, x, z, h1, h2, h3, h4, h5⟩ := y
    exact ⟨T, x, z, h1, h2, h3, h4 xs q.1, h5 ys q.2⟩

/-! ### xs.extend(t) -/
theorem extend_tupW (l : Addr) (items : Array Value) (n : Nat) (b : Addr) (items2 : Array Value) (n2 : Nat) (dd : Option Addr) (sl : Array (Option Value)) (hs0 : ¬(!items.isEmpty && Builtin.List.listTooLong (items.size + items2.size)) = true) (hs1 : items.size ≤ sizeLine) (hs2 : items.size + items2.size ≤ sizeLine + 1) :
    Meets (Builtin.«list.extend» ⟨[.ref l, .ref b], []⟩) (fun _ R s => s.heap.get? l = some { cls := .type "list", dict := none, data := .seq items n, slots := #[] } ∧ s.heap.get? b = some { cls := .type "tuple", dict := dd, data := .seq items2 n2, slots := sl } ∧
      R (.ok (.ret Value.none)) { s with heap := s.heap.update l (Obj.mapSeq fun x => x ++ items2), toks := s.toks }) :=
  .of_wp fun prog w A R s h => by
    obtain ⟨hp, g, d, tk, os⟩ := s
    obtain ⟨hl, hb, h⟩ := h
    have f1 := AutoSeq1.idx_int
    have f2 := AutoSeq1.sub_tuple_tuple
    have f3 := AutoSeq1.sub_list_list
    have f4 := AutoSeq1.sub_tuple_list
    have f5 := AutoSeq1.sub_list_tuple
    have hz' : (items ++ items2).size ≤ sizeLine + 1 := by rw [Array.size_append]; exact hs2
    wp_walk using (wpAny_updateSeq hl rfl (hz := hs1) (_hz' := hz')), AutoSeq1.wpAny_loadPart' hl, AutoSeq1.wpAny_loadPart' hb
    exact ⟨_, rfl, h⟩
section
variable {X : Cx}
def rExtT : V → List V → Hp → VK → Prop := fun x vs H Q => ∃ l b xs zs, x = .ref l ∧ vs = [.ref b] ∧ H l = some (.lst xs) ∧ H b = some (.tup zs) ∧ xs.length + zs.length ≤ sizeLine ∧ Q .non (upd H l (.lst (xs ++ zs)))
theorem mt_extT : MtR X "list.extend" rExtT := by
  intro pins s σ H x vs v us Q I rx rv h
  obtain ⟨l, b, xs, zs, rfl, rfl, hH, hB, hz, q⟩ := h
  cases rx
  obtain ⟨u, rfl, ru⟩ := rv.one
  cases ru
  obtain ⟨z, its, n, r, hl, e⟩ := I.lstM hH
  obtain ⟨z2, its2, r2, ⟨⟨cls, dd, data, sl⟩, e2, hc, n2, hd⟩⟩ := (show ObjOk X.prog X.w H s.heap b (.tup zs) from I.hok b _ hB)
  simp only at hc hd
  subst hc hd
  have hl2 := r2.length
  have hsz : its.toArray.size + its2.toArray.size ≤ sizeLine := by rw [List.size_toArray, List.size_toArray]; omega
  have hlong : ¬ (!its.toArray.isEmpty && Builtin.List.listTooLong (its.toArray.size + its2.toArray.size)) = true := by
    rw [notLongL hsz, Bool.and_false]
    exact Bool.false_ne_true
  refine call_meets F.slot_list_extend ⟨_, e, rfl⟩ F.entry_list_extend (F.args_list_extend_2 _ _)
    (extend_tupW l its.toArray n b its2.toArray n2 dd sl hlong (by rw [List.size_toArray]; omega) (by omega)) ⟨e, e2, ?_⟩
  refine ⟨.non, _, I.lset (its' := its ++ its2) hH e (by simp) (r.append r2) ?_, rfl, q⟩
  rw [List.length_append]
  omega
def rExtA : V → List V → Hp → VK → Prop := fun x vs H Q => rExtend x vs H Q ∨ rExtT x vs H Q
theorem mt_extA : MtR X "list.extend" rExtA := MtR.or (show MtR X "list.extend" rExtend from mt_extend) mt_extT

/-! ### min and max of a list or a tuple of ints -/
theorem reads_ints {h : Heap} : ∀ {us : List Value} {ns : List Int}, IntsAre us ns → ReadsAll h us (ns.map PyData.int) []
  | _, _, .nil => .nil
  | _, _, .cons n t r => ReadsAll.cons (Reads.int n t) (reads_ints r)
theorem alike_ints (ns : List Int) : PySem.W.AlikeAll (ns.map PyData.int) := by
  refine ⟨fun x hx y hy => ?_, fun x hx => ?_⟩
  · obtain ⟨i, _, rfl⟩ := List.mem_map.mp hx
    obtain ⟨j, _, rfl⟩ := List.mem_map.mp hy
    rfl
  · obtain ⟨i, _, rfl⟩ := List.mem_map.mp hx
    exact fun z => nomatch z
theorem depth_ints : ∀ ns : List Int, PyData.depthAll (ns.map PyData.int) = 0
  | [] => by simp [PyData.depthAll]
  | n :: r => by
    have q := depth_ints r
    simp only [List.map_cons, PyData.depthAll, PyData.depth, q]
    rfl
def rMnA (K : PySem.W.Frag) : List V → Hp → VK → Prop := fun vs H Q => ∃ (k : Bool) (a : Addr) (n : Int) (ns : List Int), vs = [V.ref a] ∧ SqK K k H a ((n :: ns).map V.int) ∧ Q (.int (ns.foldl min n)) H
def rMxA (K : PySem.W.Frag) : List V → Hp → VK → Prop := fun vs H Q => ∃ (k : Bool) (a : Addr) (n : Int) (ns : List Int), vs = [V.ref a] ∧ SqK K k H a ((n :: ns).map V.int) ∧ Q (.int (ns.foldl max n)) H
theorem cr_mnA (hc : X.calm = true) (hu : X.A.units + 1 < cLine) : CallR X (.builtin "min") (rMnA X.K) := by
  intro pins s σ H vs us Q I r h
  obtain ⟨k, a, n, ns, rfl, hs, q⟩ := h
  obtain ⟨its, rv, hl, _⟩ := Inv.seqK I hs
  rw [Vals.ref1 r]
  have hr : ReadsAll s.heap its.toArray.toList (PyData.int n :: ns.map PyData.int) [] := by
    have q := reads_ints (h := s.heap) (Vals.ints rv)
    simpa using q
  have ha : PySem.W.AlikeAll (PyData.int n :: ns.map PyData.int) := alike_ints (n :: ns)
  have hd : PyData.depthAll (PyData.int n :: ns.map PyData.int) = 0 := depth_ints (n :: ns)
  have fin : ∀ (i : Nat) v h' tk bs, its.toArray[i]? = some v → Reads h' v (PySem.W.minD (PyData.int n) (ns.map PyData.int)) bs → (∀ b o, s.heap.get? b = some o → h'.get? b = some o) → EP X pins σ Q v { s with heap := h', toks := tk } := fun i v h' tk bs _ hv hk => by
    rw [PySem.W.minD_ints] at hv
    cases hv with
    | int i t => exact ⟨.int _, H, I.kept hk, ⟨_, rfl⟩, q⟩
  cases k with
  | true => exact PySem.W.min_list_data (I.ok.hd hc) hl hr ha (by rw [hd]; omega) fin
  | false => exact PySem.W.min_tuple_data (I.ok.hd hc) hl hr ha (by rw [hd]; omega) fin
theorem cr_mxA (hc : X.calm = true) (hu : X.A.units + 1 < cLine) : CallR X (.builtin "max") (rMxA X.K) := by
  intro pins s σ H vs us Q I r h
  obtain ⟨k, a, n, ns, rfl, hs, q⟩ := h
  obtain ⟨its, rv, hl, _⟩ := Inv.seqK I hs
  rw [Vals.ref1 r]
  have hr : ReadsAll s.heap its.toArray.toList (PyData.int n :: ns.map PyData.int) [] := by
    have q := reads_ints (h := s.heap) (Vals.ints rv)
    simpa using q
  have ha : PySem.W.AlikeAll (PyData.int n :: ns.map PyData.int) := alike_ints (n :: ns)
  have hd : PyData.depthAll (PyData.int n :: ns.map PyData.int) = 0 := depth_ints (n :: ns)
  have fin : ∀ (i : Nat) v h' tk bs, its.toArray[i]? = some v → Reads h' v (PySem.W.maxD (PyData.int n) (ns.map PyData.int)) bs → (∀ b o, s.heap.get? b = some o → h'.get? b = some o) → EP X pins σ Q v { s with heap := h', toks := tk } := fun i v h' tk bs _ hv hk => by
    rw [PySem.W.maxD_ints] at hv
    cases hv with
    | int i t => exact ⟨.int _, H, I.kept hk, ⟨_, rfl⟩, q⟩
  cases k with
  | true => exact PySem.W.max_list_data (I.ok.hd hc) hl hr ha (by rw [hd]; omega) fin
  | false => exact PySem.W.max_tuple_data (I.ok.hd hc) hl hr ha (by rw [hd]; omega) fin

/-! ### repr of data that holds no dict -/
def rRepr (K : PySem.W.Frag) : List V → Hp → VK → Prop := fun vs H Q => ∃ (a : Addr) (d : PyData), vs = [V.ref a] ∧ Dp K H (.ref a) d ∧ d.showable = true ∧ d.hasDict = false ∧ d.depth ≤ 60 ∧ d.shown.length ≤ sizeLine ∧ Q (.str d.shown) H
theorem cr_repr (hu : X.A.units + 64 < cLine) (hg : X.A.guards = some []) : CallR X (.builtin "repr") (rRepr X.K) := by
  intro pins s σ H vs us Q I r h
  obtain ⟨a, d, rfl, hd, h1, h2, h3, h4, q⟩ := h
  rw [Vals.ref1 r]
  obtain ⟨as, rd⟩ := Dp.reads I d (.ref a) (.ref a) hd rfl
  exact repr_of_reads' rd h1 (fun z => by rw [h2] at z; cases z) hg (by omega) (fun b o e => e) (fun h' u tk hk => ⟨.str d.shown, H, I.kept hk, ⟨_, rfl⟩, q⟩) h4

/-! ### tuple * 1 -/
theorem tuple_mul1 (l : Addr) (items : Array Value) (n : Nat) (dd : Option Addr) (sl : Array (Option Value)) (u : Tok) :
    Meets (Builtin.«tuple.__mul__» ⟨[.ref l, .int 1 u], []⟩) (fun _ R s => s.heap.get? l = some { cls := .type "tuple", dict := dd, data := .seq items n, slots := sl } ∧ R (.ok (.ret (Value.ref l))) s) :=
  .of_wp fun prog w A R s h => by
    obtain ⟨hp, g, d, tk, os⟩ := s
    obtain ⟨hl, h⟩ := h
    have f1 := AutoSeq1.idx_int
    have c1 : (items.isEmpty || (1 : Int) == 1) = true := by simp
    wp_walk using AutoSeq1.wpAny_loadPart' hl
    exact ⟨_, rfl, h⟩
end

section
variable {X : Cx}
def rRep1 (K : PySem.W.Frag) : R2 := fun x y H Q => ∃ l xs, x = .ref l ∧ y = .int 1 ∧ SqT K H l xs ∧ Q (.ref l) H
theorem op_rep1 : OpR X (binaryOp .Mult) (rRep1 X.K) := by
  intro pins s σ H x y v u Q I rx ry h
  obtain ⟨l, xs, rfl, rfl, hT, q⟩ := h
  cases rx
  obtain ⟨t, rfl⟩ := ry
  obtain ⟨its, r, ⟨⟨cls, dd, data, sl⟩, ho, hc, n, hd⟩, hs⟩ := I.tuple hT
  simp only at hc hd
  subst hc hd
  refine wpAny_binaryOp_repeat_ref (T := "tuple") (U := "int") (by decide) ⟨_, ho, rfl⟩ (fun s' => typeIs_int s' 1 t) noFill_tuple_mul F.fills_int_mul F.slot_int_rmul repeat_tuple F.slot_int_index.lookup
    (call_meets F.slot_int_rmul (typeIs_int s 1 t) F.entry_int_rmul (F.args_int_rmul_2 _ _) (int_rmul_tuple 1 t l its.toArray n dd sl)
      ⟨ho, rfl, ⟨_, ho, rfl⟩, call_meets F.slot_tuple_mul ⟨_, ho, rfl⟩ F.entry_tuple_mul (F.args_tuple_mul_2 _ _) (tuple_mul1 l its.toArray n dd sl t) ⟨ho, ?_⟩⟩)
  exact ⟨.ref l, H, I, rfl, q⟩

/-! ### the operators in the kinds that are wanted -/
def rAddA (K : PySem.W.Frag) : R2 := fun x y H Q => (∃ i j, x = .int i ∧ y = .int j ∧ Q (.int (i + j)) H) ∨ rCat x y H Q ∨ rCatA K x y H Q
theorem op_addA : OpR X (binaryOp .Add) (rAddA X.K) := OpR.or op_add (OpR.or op_cat op_catA)
def rMulA (K : PySem.W.Frag) : R2 := fun x y H Q => rI CMul (fun i j => .int (i * j)) x y H Q ∨ rRep x y H Q ∨ rRepT K x y H Q ∨ rRep1 K x y H Q
theorem op_mulA : OpR X (binaryOp .Mult) (rMulA X.K) := OpR.or op_mul (OpR.or op_rep (OpR.or op_repT op_rep1))
def rEqA (K : PySem.W.Frag) : R2 := fun x y H Q => rEq x y H Q ∨ rEqD K x y H Q
theorem op_eqA (hu : X.A.units + 64 < cLine) : OpR X (compareOp .Eq) (rEqA X.K) := OpR.or op_eq (op_eqD hu)
def rNeA (K : PySem.W.Frag) : R2 := fun x y H Q => rNe x y H Q ∨ rNeD K x y H Q
theorem op_neA (hu : X.A.units + 64 < cLine) : OpR X (compareOp .NotEq) (rNeA X.K) := OpR.or op_ne (op_neD hu)
def rIsA : R2 := fun x y H Q => (y = .non ∧ Q (.bl (decide (x = .non))) H) ∨ ∃ a b : Bool, x = .bl a ∧ y = .bl b ∧ Q (.bl (decide (a = b))) H
theorem op_isA : OpR X (compareOp .Is) rIsA := OpR.or op_isN op_isBl
def rIsNA : R2 := fun x y H Q => (y = .non ∧ Q (.bl (!decide (x = .non))) H) ∨ ∃ a b : Bool, x = .bl a ∧ y = .bl b ∧ Q (.bl (!decide (a = b))) H
theorem op_isNA : OpR X (compareOp .IsNot) rIsNA := OpR.or op_notN op_notBl

/-! ### f(k = v, ..) -/
section
variable {CX : CXT} {k : Nat} {f : Addr} {fd : FuncData} {ps ks : List Str} {sp : Sp} {E : XK} {x : Str} {p pos : Pos} {kws : List Keyword} {tk : TA} {g : List Value → List Value → List Value} {gV : List V → List V → List V}
theorem pe_callK0 (F : FnOk X.prog X.w X.K X.mg X.base CX k f fd ps sp) (hr : Room k X.A) (hg : Gl X x) (hm : X.mg x = some (.ref f)) (hk : PySem.W.keepIn X.K (.ref f) = true) (hb : KBn X.K fd ps 0 ks g gV) (hx : Passes CX X E)
    (hkw : PK X kws tk) (hall : (backToKw pos (keywordEach kws X.env)).all (·.1.isSome) = true) (hks : (backToKw pos (keywordEach kws X.env)).filterMap (·.1) = ks)
    (hdb : (x == ("__debug__" : Str)) = false) (hpl : ((backTo pos (starEach [] X.env)).any (·.1) || (backToKw pos (keywordEach kws X.env)).any (·.1.isNone)) = false) :
    PE X (.Call (.Name x p) [] kws pos) (fun σ H Q => tk σ H fun zs H2 => zs.length = ks.length ∧ sp (gV [] zs) H2 Q E) := by
  refine ⟨fun pins s σ H Q I h => ?_⟩
  refine wpAny_Call_Name_kw (ld_glob I hg hm ?_ hdb)
  refine PySem.W.callWith_KW0 (h₀ := X.base) (first := []) I.ok.mod.kin hk hall (thn (hkw.run pos pins s σ H _ I h) fun ws s2 ⟨zs, H2, I2, rz, l2, q2⟩ => ⟨I2.kIn, ?_⟩) hpl
  rw [hks]
  exact run_fnN F hr hb hx I2 .nil rz rfl l2 q2
end
end
end NR

set_option Elab.async false
set_option linter.all false
set_option maxRecDepth 100000
set_option maxHeartbeats 1000000
/-! How data lies in the abstract heap. M: the addresses that must not be among it (lists that are being made, the source of draws). -/
namespace NS
open PySem PySem.Spec PyProof.Rows L2 NR

def wstr (w : NB.Wd) : Str := Str.ofString w.s
mutual
def toP : NB.D → PyData
  | .int i => .int i
  | .str w => .str (wstr w)
  | .bl b => .bool b
  | .non => .none
  | .tup ds => .tuple (toPs ds)
  | .lst ds => .list (toPs ds)
  | .deal => .none
  | .rep d => .str (toP d).shown
def toPs : List NB.D → List PyData
  | [] => []
  | d :: ds => toP d :: toPs ds
end
mutual
def At (da : Addr) (M : Addr → Prop) (H : Hp) : NB.D → V → Prop
  | .int i, v => v = .int i
  | .str w, v => v = .str (wstr w)
  | .bl b, v => v = .bl b
  | .non, v => v = .non
  | .tup ds, v => ∃ a vs, v = .ref a ∧ ¬ M a ∧ H a = some (.tup vs) ∧ Ats da M H ds vs
  | .lst ds, v => ∃ a vs, v = .ref a ∧ ¬ M a ∧ H a = some (.lst vs) ∧ Ats da M H ds vs
  | .deal, v => v = .ref da
  | .rep d, v => v = .str (toP d).shown
def Ats (da : Addr) (M : Addr → Prop) (H : Hp) : List NB.D → List V → Prop
  | [], vs => vs = []
  | d :: ds, vs => ∃ v r, vs = v :: r ∧ At da M H d v ∧ Ats da M H ds r
end
/-- all that is tracked stays, but for the source of draws -/
def Keep (da db : Addr) (H H' : Hp) : Prop := ∀ a o, a ≠ da → a ≠ db → H a = some o → H' a = some o
/-- what lies outside M stays, and stays outside M' -/
def Step (M : Addr → Prop) (H : Hp) (M' : Addr → Prop) (H' : Hp) : Prop := ∀ a o, ¬ M a → H a = some o → ¬ M' a ∧ H' a = some o
structure DealAt (da db : Addr) (H : Hp) (δ : NB.Dl) : Prop where
  ne : da ≠ db
  at_ : H da = some (.lst [.ref db, .int δ.z])
  cells : H db = some (.lst (δ.cs.reverse.map V.int))
  len : δ.cs.length ≤ 48
  z0 : 0 ≤ δ.z
  z1 : δ.z < 2147483647
structure EnvAt (da : Addr) (M : Addr → Prop) (H : Hp) (σ : L2.St) (ρ : NB.Env) : Prop where
  len : ρ.length = σ.length
  at_ : ∀ (i : Nat) d, ρ[i]? = some (some d) → ∃ v, σ[i]? = some (some v) ∧ At da M H d v
structure Pre (da db : Addr) (M : Addr → Prop) (H : Hp) (δ : NB.Dl) : Prop where
  ma : M da
  mb : M db
  mt : ∀ a, M a → H a ≠ none
  deal : DealAt da db H δ

theorem Keep.refl (da db : Addr) (H : Hp) : Keep da db H H := fun _ _ _ _ e => e
theorem Keep.trans {da db : Addr} {H H1 H2 : Hp} (a : Keep da db H H1) (b : Keep da db H1 H2) : Keep da db H H2 := fun x o h1 h2 e => b x o h1 h2 (a x o h1 h2 e)
theorem Keep.new {da db : Addr} {H : Hp} {p : Addr} {o : HO} (h : H p = none) : Keep da db H (upd H p o) := fun a u _ _ e => by
  rw [upd_ne (ne_of_none e h)]
  exact e
theorem Keep.step {da db : Addr} {M : Addr → Prop} {H H' : Hp} (ma : M da) (mb : M db) (k : Keep da db H H') : Step M H M H' := fun a o n e =>
  ⟨n, k a o (fun z => n (z ▸ ma)) (fun z => n (z ▸ mb)) e⟩
theorem Step.refl (M : Addr → Prop) (H : Hp) : Step M H M H := fun _ _ n e => ⟨n, e⟩
theorem Step.trans {M M1 M2 : Addr → Prop} {H H1 H2 : Hp} (a : Step M H M1 H1) (b : Step M1 H1 M2 H2) : Step M H M2 H2 := fun x o n e =>
  let ⟨n1, e1⟩ := a x o n e
  b x o n1 e1
mutual
theorem At.step {da : Addr} {M M' : Addr → Prop} {H H' : Hp} (s : Step M H M' H') : ∀ (d : NB.D) (v : V), At da M H d v → At da M' H' d v
  | .int _, _, h => by rw [At] at *; exact h
  | .str _, _, h => by rw [At] at *; exact h
  | .bl _, _, h => by rw [At] at *; exact h
  | .non, _, h => by rw [At] at *; exact h
  | .deal, _, h => by rw [At] at *; exact h
  | .rep _, _, h => by rw [At] at *; exact h
  | .tup ds, v, h => by
    rw [At] at *
    obtain ⟨a, vs, e, n, ha, r⟩ := h
    exact ⟨a, vs, e, (s a _ n ha).1, (s a _ n ha).2, Ats.step s ds vs r⟩
  | .lst ds, v, h => by
    rw [At] at *
    obtain ⟨a, vs, e, n, ha, r⟩ := h
    exact ⟨a, vs, e, (s a _ n ha).1, (s a _ n ha).2, Ats.step s ds vs r⟩
theorem Ats.step {da : Addr} {M M' : Addr → Prop} {H H' : Hp} (s : Step M H M' H') : ∀ (ds : List NB.D) (vs : List V), Ats da M H ds vs → Ats da M' H' ds vs
  | [], _, h => by rw [Ats] at *; exact h
  | d :: ds, vs, h => by
    rw [Ats] at *
    obtain ⟨v, r, e, h1, h2⟩ := h
    exact ⟨v, r, e, At.step s d v h1, Ats.step s ds r h2⟩
end
section
variable {da db : Addr} {M M' : Addr → Prop} {H H1 H' : Hp} {δ δ' : NB.Dl} {σ : L2.St} {ρ : NB.Env} {d : NB.D} {v : V} {ds : List NB.D} {vs : List V}
theorem Pre.next (p : Pre da db M H δ) (k : Keep da db H H') (q : DealAt da db H' δ') : Pre da db M H' δ' :=
  { ma := p.ma, mb := p.mb, deal := q, mt := fun a m => by
      by_cases h1 : a = da
      · rw [h1, q.at_]; exact fun z => nomatch z
      · by_cases h2 : a = db
        · rw [h2, q.cells]; exact fun z => nomatch z
        · cases e : H a with
          | none => exact absurd e (p.mt a m)
          | some o => rw [k a o h1 h2 e]; exact fun z => nomatch z }
theorem Pre.step (p : Pre da db M H δ) (k : Keep da db H H') : Step M H M H' := k.step p.ma p.mb
theorem At.keep (p : Pre da db M H δ) (k : Keep da db H H') (h : At da M H d v) : At da M H' d v := At.step (p.step k) d v h
theorem Ats.keep (p : Pre da db M H δ) (k : Keep da db H H') (h : Ats da M H ds vs) : Ats da M H' ds vs := Ats.step (p.step k) ds vs h
theorem EnvAt.step (s : Step M H M' H') (h : EnvAt da M H σ ρ) : EnvAt da M' H' σ ρ := ⟨h.len, fun i d e =>
  let ⟨v, e1, e2⟩ := h.at_ i d e
  ⟨v, e1, At.step s d v e2⟩⟩
theorem EnvAt.keep (p : Pre da db M H δ) (k : Keep da db H H') (h : EnvAt da M H σ ρ) : EnvAt da M H' σ ρ := h.step (p.step k)
/-- a new object is not in M -/
theorem Pre.fresh (p : Pre da db M H δ) {a : Addr} (h : H a = none) : ¬ M a := fun m => p.mt a m h
theorem Keep.free (p : DealAt da db H' δ) (k : Keep da db H H') {a : Addr} (h : H' a = none) : H a = none := by
  cases e : H a with
  | none => rfl
  | some o =>
    by_cases h1 : a = da
    · rw [h1, p.at_] at h; cases h
    · by_cases h2 : a = db
      · rw [h2, p.cells] at h; cases h
      · rw [k a o h1 h2 e] at h; cases h
theorem DealAt.new (p : DealAt da db H δ) {a : Addr} {o : HO} (h : H a = none) : DealAt da db (upd H a o) δ :=
  ⟨p.ne, by rw [upd_ne (ne_of_none p.at_ h)]; exact p.at_, by rw [upd_ne (ne_of_none p.cells h)]; exact p.cells, p.len, p.z0, p.z1⟩
theorem Ats.nil : Ats da M H [] [] := by rw [Ats]
theorem Ats.cons (h : At da M H d v) (r : Ats da M H ds vs) : Ats da M H (d :: ds) (v :: vs) := by
  rw [Ats]
  exact ⟨v, vs, rfl, h, r⟩
theorem Ats.length : ∀ {ds : List NB.D} {vs : List V}, Ats da M H ds vs → vs.length = ds.length
  | [], vs, h => by rw [Ats] at h; rw [h]; rfl
  | d :: ds, vs, h => by
    rw [Ats] at h
    obtain ⟨v, r, e, _, h2⟩ := h
    rw [e, List.length_cons, List.length_cons, Ats.length h2]
theorem Ats.append : ∀ {ds es : List NB.D} {vs us : List V}, Ats da M H ds vs → Ats da M H es us → Ats da M H (ds ++ es) (vs ++ us)
  | [], es, vs, us, h, r => by rw [Ats] at h; rw [h]; exact r
  | d :: ds, es, vs, us, h, r => by
    rw [Ats] at h
    obtain ⟨v, w, e, h1, h2⟩ := h
    rw [e]
    exact Ats.cons h1 (Ats.append h2 r)
theorem Ats.get : ∀ {ds : List NB.D} {vs : List V} {i : Nat} {d : NB.D}, Ats da M H ds vs → ds[i]? = some d → ∃ v, vs[i]? = some v ∧ At da M H d v
  | [], _, i, _, _, e => by simp at e
  | d :: ds, vs, i, x, h, e => by
    rw [Ats] at h
    obtain ⟨v, w, ev, h1, h2⟩ := h
    cases i with
    | zero =>
      have q : d = x := by simpa using e
      subst q
      exact ⟨v, by rw [ev]; rfl, h1⟩
    | succ i =>
      obtain ⟨u, e1, e2⟩ := Ats.get h2 (show ds[i]? = some x by simpa using e)
      exact ⟨u, by rw [ev]; simpa using e1, e2⟩
theorem Ats.get' : ∀ {ds : List NB.D} {vs : List V} {i : Nat} {v : V}, Ats da M H ds vs → vs[i]? = some v → ∃ d, ds[i]? = some d ∧ At da M H d v := fun {ds vs i v} h e => by
  have hl := h.length
  have hi : i < ds.length := by
    have q := (List.getElem?_eq_some_iff.mp e).1
    omega
  obtain ⟨u, e1, e2⟩ := h.get (List.getElem?_eq_getElem hi)
  rw [e] at e1
  cases e1
  exact ⟨_, List.getElem?_eq_getElem hi, e2⟩
theorem Ats.drop : ∀ (n : Nat) {ds : List NB.D} {vs : List V}, Ats da M H ds vs → Ats da M H (ds.drop n) (vs.drop n)
  | 0, _, _, h => h
  | n + 1, [], vs, h => by rw [Ats] at h; rw [h]; exact Ats.nil
  | n + 1, d :: ds, vs, h => by
    rw [Ats] at h
    obtain ⟨v, w, e, _, h2⟩ := h
    rw [e]
    exact Ats.drop n h2
theorem Ats.take : ∀ (n : Nat) {ds : List NB.D} {vs : List V}, Ats da M H ds vs → Ats da M H (ds.take n) (vs.take n)
  | 0, _, _, h => by rw [List.take_zero, List.take_zero]; exact Ats.nil
  | n + 1, [], vs, h => by rw [Ats] at h; rw [h]; exact Ats.nil
  | n + 1, d :: ds, vs, h => by
    rw [Ats] at h
    obtain ⟨v, w, e, h1, h2⟩ := h
    rw [e]
    exact Ats.cons h1 (Ats.take n h2)
theorem Ats.set : ∀ {ds : List NB.D} {vs : List V} (i : Nat) {d : NB.D} {v : V}, Ats da M H ds vs → At da M H d v → Ats da M H (ds.set i d) (vs.set i v)
  | [], vs, i, _, _, h, _ => by rw [Ats] at h; rw [h]; exact Ats.nil
  | x :: ds, vs, i, d, v, h, hv => by
    rw [Ats] at h
    obtain ⟨u, w, e, h1, h2⟩ := h
    rw [e]
    cases i with
    | zero => exact Ats.cons hv h2
    | succ i => exact Ats.cons h1 (Ats.set i h2 hv)
theorem Ats.replicate (h : At da M H d v) : ∀ n : Nat, Ats da M H (List.replicate n d) (List.replicate n v)
  | 0 => Ats.nil
  | n + 1 => Ats.cons h (Ats.replicate h n)
/-- the items of a datum that is a list or a tuple -/
theorem At.seq {K : PySem.W.Frag} (h : At da M H d v) (e : NB.seqOf d = some ds) : ∃ (k : Bool) (a : Addr) (vs : List V), v = .ref a ∧ ¬ M a ∧ H a = some (if k then .lst vs else .tup vs) ∧ SqK K k H a vs ∧ Ats da M H ds vs := by
  cases d with
  | tup es =>
    have q : es = ds := by simpa [NB.seqOf] using e
    subst q
    rw [At] at h
    obtain ⟨a, vs, e1, n, e2, r⟩ := h
    exact ⟨false, a, vs, e1, n, e2, SqT.of e2, r⟩
  | lst es =>
    have q : es = ds := by simpa [NB.seqOf] using e
    subst q
    rw [At] at h
    obtain ⟨a, vs, e1, n, e2, r⟩ := h
    exact ⟨true, a, vs, e1, n, e2, SqL.of e2, r⟩
  | _ => simp [NB.seqOf] at e
theorem At.int {i : Int} (h : At da M H (.int i) v) : v = .int i := by rw [At] at h; exact h
theorem At.bl {b : Bool} (h : At da M H (.bl b) v) : v = .bl b := by rw [At] at h; exact h
theorem At.str {w : NB.Wd} (h : At da M H (.str w) v) : v = .str (wstr w) := by rw [At] at h; exact h
theorem At.non (h : At da M H .non v) : v = .non := by rw [At] at h; exact h
theorem At.deal (h : At da M H .deal v) : v = .ref da := by rw [At] at h; exact h
theorem At.tup (h : At da M H (.tup ds) v) : ∃ a vs, v = .ref a ∧ ¬ M a ∧ H a = some (.tup vs) ∧ Ats da M H ds vs := by rw [At] at h; exact h
theorem At.lst (h : At da M H (.lst ds) v) : ∃ a vs, v = .ref a ∧ ¬ M a ∧ H a = some (.lst vs) ∧ Ats da M H ds vs := by rw [At] at h; exact h
theorem at_int (i : Int) : At da M H (.int i) (.int i) := by rw [At]
theorem at_bl (b : Bool) : At da M H (.bl b) (.bl b) := by rw [At]
theorem at_str (w : NB.Wd) : At da M H (.str w) (.str (wstr w)) := by rw [At]
theorem at_non : At da M H .non .non := by rw [At]
theorem at_deal : At da M H .deal (.ref da) := by rw [At]
theorem at_tup {a : Addr} (n : ¬ M a) (e : H a = some (.tup vs)) (r : Ats da M H ds vs) : At da M H (.tup ds) (.ref a) := by
  rw [At]
  exact ⟨a, vs, rfl, n, e, r⟩
theorem at_lst {a : Addr} (n : ¬ M a) (e : H a = some (.lst vs)) (r : Ats da M H ds vs) : At da M H (.lst ds) (.ref a) := by
  rw [At]
  exact ⟨a, vs, rfl, n, e, r⟩
/-- a new list, a new tuple -/
theorem at_newT (p : Pre da db M H δ) {a : Addr} (h : H a = none) (r : Ats da M H ds vs) : At da M (upd H a (.tup vs)) (.tup ds) (.ref a) := at_tup (p.fresh h) upd_same (r.keep p (Keep.new h))
theorem at_newL (p : Pre da db M H δ) {a : Addr} (h : H a = none) (r : Ats da M H ds vs) : At da M (upd H a (.lst vs)) (.lst ds) (.ref a) := at_lst (p.fresh h) upd_same (r.keep p (Keep.new h))
end
section
variable {da : Addr} {M : Addr → Prop} {H : Hp}
theorem intOf_eq {d : NB.D} {i : Int} (e : NB.intOf d = some i) : d = .int i := by
  cases d <;> simp [NB.intOf] at e
  rw [e]
theorem blOf_eq {d : NB.D} {i : Bool} (e : NB.blOf d = some i) : d = .bl i := by
  cases d <;> simp [NB.blOf] at e
  rw [e]
theorem wdOf_eq {d : NB.D} {i : NB.Wd} (e : NB.wdOf d = some i) : d = .str i := by
  cases d <;> simp [NB.wdOf] at e
  rw [e]
theorem Ats.ints : ∀ {ds : List NB.D} {ns : List Int} {vs : List V}, NB.intsOf ds = some ns → Ats da M H ds vs → vs = ns.map V.int
  | [], ns, vs, e, h => by
    rw [Ats] at h
    simp only [NB.intsOf, Option.some.injEq] at e
    rw [h, ← e]
    rfl
  | d :: ds, ns, vs, e, h => by
    rw [Ats] at h
    obtain ⟨v, r, e1, h1, h2⟩ := h
    simp only [NB.intsOf] at e
    split at e
    · rename_i i is q1 q2
      cases e
      rw [e1, Ats.ints q2 h2]
      have q := intOf_eq q1
      subst q
      rw [h1.int]
      rfl
    · cases e
theorem Ats.bls : ∀ {ds : List NB.D} {ns : List Bool} {vs : List V}, NB.blsOf ds = some ns → Ats da M H ds vs → vs = ns.map V.bl
  | [], ns, vs, e, h => by
    rw [Ats] at h
    simp only [NB.blsOf, Option.some.injEq] at e
    rw [h, ← e]
    rfl
  | d :: ds, ns, vs, e, h => by
    rw [Ats] at h
    obtain ⟨v, r, e1, h1, h2⟩ := h
    simp only [NB.blsOf] at e
    split at e
    · rename_i i is q1 q2
      cases e
      rw [e1, Ats.bls q2 h2]
      have q := blOf_eq q1
      subst q
      rw [h1.bl]
      rfl
    · cases e
theorem Ats.wds : ∀ {ds : List NB.D} {ns : List NB.Wd} {vs : List V}, NB.wdsOf ds = some ns → Ats da M H ds vs → vs = ns.map fun w => V.str (wstr w)
  | [], ns, vs, e, h => by
    rw [Ats] at h
    simp only [NB.wdsOf, Option.some.injEq] at e
    rw [h, ← e]
    rfl
  | d :: ds, ns, vs, e, h => by
    rw [Ats] at h
    obtain ⟨v, r, e1, h1, h2⟩ := h
    simp only [NB.wdsOf] at e
    split at e
    · rename_i i is q1 q2
      cases e
      rw [e1, Ats.wds q2 h2]
      have q := wdOf_eq q1
      subst q
      rw [h1.str]
      rfl
    · cases e
theorem ats_ints : ∀ (ns : List Int), Ats da M H (ns.map NB.D.int) (ns.map V.int)
  | [] => Ats.nil
  | n :: r => Ats.cons (at_int n) (ats_ints r)
/-! ### as the library's data -/
mutual
theorem At.dp {K : PySem.W.Frag} : ∀ (n : Nat) (d : NB.D) (v : V), NB.fitN n d = true → At da M H d v → Dp K H v (toP d)
  | _, .int i, v, _, h => by rw [h.int, toP]; exact .int i
  | _, .str w, v, _, h => by rw [h.str, toP]; exact .str _
  | _, .bl b, v, _, h => by rw [h.bl, toP]; exact .bl b
  | _, .non, v, _, h => by rw [h.non, toP]; exact .non
  | n, .deal, v, f, h => by cases n <;> simp [NB.fitN] at f
  | n, .rep d, v, f, h => by cases n <;> simp [NB.fitN] at f
  | 0, .tup ds, v, f, h => by simp [NB.fitN] at f
  | 0, .lst ds, v, f, h => by simp [NB.fitN] at f
  | n + 1, .tup ds, v, f, h => by
    obtain ⟨a, vs, e, _, ha, r⟩ := h.tup
    rw [e, toP]
    exact .tup (SqT.of ha) (Ats.dp n ds vs (by simpa only [NB.fitN] using f) r)
  | n + 1, .lst ds, v, f, h => by
    obtain ⟨a, vs, e, _, ha, r⟩ := h.lst
    rw [e, toP]
    exact .lst (SqL.of ha) (Ats.dp n ds vs (by simpa only [NB.fitN] using f) r)
theorem Ats.dp {K : PySem.W.Frag} : ∀ (n : Nat) (ds : List NB.D) (vs : List V), ds.all (NB.fitN n) = true → Ats da M H ds vs → DpAll K H vs (toPs ds)
  | _, [], vs, _, h => by
    rw [Ats] at h
    rw [h, toPs]
    exact .nil
  | n, d :: ds, vs, f, h => by
    rw [Ats] at h
    obtain ⟨v, r, e, h1, h2⟩ := h
    simp only [List.all_cons, Bool.and_eq_true] at f
    rw [e, toPs]
    exact .cons (At.dp n d v f.1 h1) (Ats.dp n ds r f.2 h2)
end
end
theorem strOk_w (w : NB.Wd) : PyData.strOk (wstr w) = true := by cases w <;> decide +kernel
theorem wstr_inj {v w : NB.Wd} (h : wstr v = wstr w) : v = w := by
  cases v <;> cases w <;> first | rfl | exact absurd h (by decide +kernel)
mutual
theorem fit_lay : ∀ (n : Nat) (d : NB.D), NB.fitN n d = true → (toP d).canLay0 = true
  | _, .int i, _ => by rw [toP]; rfl
  | _, .str w, _ => by rw [toP]; exact strOk_w w
  | _, .bl b, _ => by rw [toP]; rfl
  | _, .non, _ => by rw [toP]; rfl
  | n, .deal, f => by cases n <;> simp [NB.fitN] at f
  | n, .rep d, f => by cases n <;> simp [NB.fitN] at f
  | 0, .tup ds, f => by simp [NB.fitN] at f
  | 0, .lst ds, f => by simp [NB.fitN] at f
  | n + 1, .tup ds, f => by
    rw [toP]
    exact fits_lay n ds (by simpa only [NB.fitN] using f)
  | n + 1, .lst ds, f => by
    rw [toP]
    exact fits_lay n ds (by simpa only [NB.fitN] using f)
theorem fits_lay : ∀ (n : Nat) (ds : List NB.D), ds.all (NB.fitN n) = true → PyData.canLayAll0 (toPs ds) = true
  | _, [], _ => by rw [toPs]; rfl
  | n, d :: ds, f => by
    simp only [List.all_cons, Bool.and_eq_true] at f
    rw [toPs]
    show ((toP d).canLay0 && PyData.canLayAll0 (toPs ds)) = true
    rw [fit_lay n d f.1, fits_lay n ds f.2]
    rfl
end
mutual
theorem fit_dep : ∀ (n : Nat) (d : NB.D), NB.fitN n d = true → (toP d).depth ≤ n
  | _, .int i, _ => by rw [toP]; exact Nat.zero_le _
  | _, .str w, _ => by rw [toP]; exact Nat.zero_le _
  | _, .bl b, _ => by rw [toP]; exact Nat.zero_le _
  | _, .non, _ => by rw [toP]; exact Nat.zero_le _
  | n, .deal, f => by cases n <;> simp [NB.fitN] at f
  | n, .rep d, f => by cases n <;> simp [NB.fitN] at f
  | 0, .tup ds, f => by simp [NB.fitN] at f
  | 0, .lst ds, f => by simp [NB.fitN] at f
  | n + 1, .tup ds, f => by
    rw [toP]
    exact Nat.succ_le_succ (fits_dep n ds (by simpa only [NB.fitN] using f))
  | n + 1, .lst ds, f => by
    rw [toP]
    exact Nat.succ_le_succ (fits_dep n ds (by simpa only [NB.fitN] using f))
theorem fits_dep : ∀ (n : Nat) (ds : List NB.D), ds.all (NB.fitN n) = true → PyData.depthAll (toPs ds) ≤ n
  | _, [], _ => by rw [toPs]; exact Nat.zero_le _
  | n, d :: ds, f => by
    simp only [List.all_cons, Bool.and_eq_true] at f
    rw [toPs]
    show max (toP d).depth (PyData.depthAll (toPs ds)) ≤ n
    have h1 := fit_dep n d f.1
    have h2 := fits_dep n ds f.2
    omega
end
theorem fit_shaped {d : NB.D} (f : NB.fitN 6 d = true) : SeqAt.shaped (toP d) = true := by
  unfold SeqAt.shaped
  have h := fit_dep 6 d f
  rw [fit_lay 6 d f, decide_eq_true (show (toP d).depth ≤ 64 by omega)]
  rfl
mutual
theorem eqv_of : ∀ (a b : NB.D) (r : Bool), NB.eqD a b = some r → PyData.eqv (toP a) (toP b) = r
  | .int i, b, r, h => by
    cases b <;> simp [NB.eqD] at h
    rw [toP, toP, ← h]
    show (i == _) = _
    rw [Bool.eq_iff_iff]
    simp
  | .str i, b, r, h => by
    cases b <;> simp [NB.eqD] at h
    rename_i j
    rw [toP, toP, ← h]
    show (wstr i == wstr j) = _
    rw [Bool.eq_iff_iff]
    simp only [beq_iff_eq, decide_eq_true_eq]
    exact ⟨wstr_inj, fun z => by rw [z]⟩
  | .bl i, b, r, h => by
    cases b <;> simp [NB.eqD] at h
    rw [toP, toP, ← h]
    show (i == _) = _
    rw [Bool.eq_iff_iff]
    simp
  | .non, b, r, h => by
    cases b <;> simp [NB.eqD] at h
    rw [toP, h]
    rfl
  | .deal, b, r, h => by simp [NB.eqD] at h
  | .rep d, b, r, h => by simp [NB.eqD] at h
  | .tup as, b, r, h => by
    cases b with
    | tup bs =>
      simp only [NB.eqD] at h
      rw [toP, toP]
      exact eqvs_of as bs r h
    | _ => simp [NB.eqD] at h
  | .lst as, b, r, h => by
    cases b with
    | lst bs =>
      simp only [NB.eqD] at h
      rw [toP, toP]
      exact eqvs_of as bs r h
    | _ => simp [NB.eqD] at h
theorem eqvs_of : ∀ (a b : List NB.D) (r : Bool), NB.eqDs a b = some r → PyData.eqvAll (toPs a) (toPs b) = r
  | [], [], r, h => by
    simp [NB.eqDs] at h
    rw [toPs, h]
    rfl
  | [], _ :: _, r, h => by
    simp [NB.eqDs] at h
    rw [toPs, toPs, h]
    rfl
  | _ :: _, [], r, h => by
    simp [NB.eqDs] at h
    rw [toPs, toPs, h]
    rfl
  | a :: as, b :: bs, r, h => by
    rw [NB.eqDs] at h
    rw [toPs, toPs]
    show (PyData.eqv (toP a) (toP b) && PyData.eqvAll (toPs as) (toPs bs)) = r
    split at h
    · rename_i q
      rw [eqv_of a b true q, Bool.true_and]
      exact eqvs_of as bs r h
    · rename_i q
      rw [eqv_of a b false q, Bool.false_and]
      simpa using h
    · cases h
end
mutual
theorem same_eq : ∀ (a b : NB.D), NB.same a b = true → a = b
  | .int i, b, h => by cases b <;> simp [NB.same] at h; rw [h]
  | .str i, b, h => by cases b <;> simp [NB.same] at h; rw [h]
  | .bl i, b, h => by cases b <;> simp [NB.same] at h; rw [h]
  | .non, b, h => by cases b <;> simp [NB.same] at h; rfl
  | .deal, b, h => by simp [NB.same] at h
  | .rep d, b, h => by
    cases b with
    | rep e => simp only [NB.same] at h; rw [same_eq d e h]
    | _ => simp [NB.same] at h
  | .tup as, b, h => by
    cases b with
    | tup bs => simp only [NB.same] at h; rw [sames_eq as bs h]
    | _ => simp [NB.same] at h
  | .lst as, b, h => by
    cases b with
    | lst bs => simp only [NB.same] at h; rw [sames_eq as bs h]
    | _ => simp [NB.same] at h
theorem sames_eq : ∀ (a b : List NB.D), NB.sames a b = true → a = b
  | [], [], _ => rfl
  | [], _ :: _, h => by simp [NB.sames] at h
  | _ :: _, [], h => by simp [NB.sames] at h
  | a :: as, b :: bs, h => by
    simp only [NB.sames, Bool.and_eq_true] at h
    rw [same_eq a b h.1, sames_eq as bs h.2]
end
end NS

set_option Elab.async false
set_option linter.all false
set_option maxRecDepth 100000
set_option maxHeartbeats 1000000
/-! The operators, the built-in calls, subscripts and slices: the evaluator's answer is what the hand layer's rules read. -/
namespace NS
open PySem PySem.Spec PyProof.Rows L2 NR

theorem sl_le {n : Nat} (h : n ≤ 100000) : n ≤ sizeLine := by rw [sizeLine_eq]; omega
theorem sl_lt {n : Nat} (h : n < 100000) : n < sizeLine := by rw [sizeLine_eq]; omega
theorem rep_flat {α : Type} (x : α) : ∀ n : Nat, (List.replicate n [x]).flatten = List.replicate n x
  | 0 => rfl
  | n + 1 => by
    rw [List.replicate_succ, List.flatten_cons, rep_flat x n]
    rfl
def opA : NB.Bin → Option Operator
  | .add => some .Add | .sub => some .Sub | .mul => some .Mult | .fdiv => some .FloorDiv | _ => none
def opC : NB.Bin → Option CmpOp
  | .lt => some .Lt | .le => some .LtE | .gt => some .Gt | .ge => some .GtE | .eq => some .Eq | .ne => some .NotEq | .isS => some .Is | .isNot => some .IsNot | .inn => some .In | _ => none
def rOf (K : PySem.W.Frag) : NB.Bin → R2
  | .add => rAddA K
  | .sub => rI0 fun i j => .int (i - j)
  | .mul => rMulA K
  | .fdiv => rI CDivN fun i j => .int (i.fdiv j)
  | .lt => rI0 fun i j => .bl (decide (i < j))
  | .le => rI0 fun i j => .bl (decide (i ≤ j))
  | .gt => rI0 fun i j => .bl (decide (j < i))
  | .ge => rI0 fun i j => .bl (decide (j ≤ i))
  | .eq => rEqA K
  | .ne => rNeA K
  | .isS => rIsA
  | .isNot => rIsNA
  | .inn => rIn K false
theorem or_arith {X : Cx} {o : NB.Bin} {op : Operator} (h : opA o = some op) : OpR X (binaryOp op) (rOf X.K o) := by
  cases o <;> simp [opA] at h <;> subst h
  · exact op_addA
  · exact op_sub
  · exact op_mulA
  · exact op_fdivN
theorem or_cmp {X : Cx} (hu : X.A.units + 64 < cLine) {o : NB.Bin} {op : CmpOp} (h : opC o = some op) : OpR X (compareOp op) (rOf X.K o) := by
  cases o <;> simp [opC] at h <;> subst h
  · exact op_lt
  · exact op_le
  · exact op_gt
  · exact op_ge
  · exact op_eqA hu
  · exact op_neA hu
  · exact op_isA
  · exact op_isNA
  · exact op_in_seq
section
variable {K : PySem.W.Frag} {da db : Addr} {M : Addr → Prop} {H : Hp} {δ : NB.Dl} {d1 d2 d : NB.D} {x y : V} {Q : VK}
/-- what is wanted of a value: nothing that is tracked changes -/
def Res (da db : Addr) (M : Addr → Prop) (H : Hp) (δ : NB.Dl) (d : NB.D) (fr : Prop) (Q : VK) : Prop :=
  ∀ v H', Keep da db H H' → DealAt da db H' δ → At da M H' d v → (fr → ∃ p, v = .ref p ∧ H p = none) → Q v H'
theorem ii_eq {f : Int → Int → NB.D} (h : NB.ii f d1 d2 = some d) : ∃ i j, d1 = .int i ∧ d2 = .int j ∧ d = f i j := by
  unfold NB.ii at h
  split at h
  · cases h; exact ⟨_, _, rfl, rfl, rfl⟩
  · cases h
theorem read_ii {f : Int → Int → NB.D} {g : Int → Int → V} (hf : ∀ i j, At da M H (f i j) (g i j)) (h : NB.ii f d1 d2 = some d) (p : Pre da db M H δ) (hx : At da M H d1 x) (hy : At da M H d2 y)
    (q : Res da db M H δ d False Q) : rI0 g x y H Q := by
  obtain ⟨i, j, rfl, rfl, rfl⟩ := ii_eq h
  exact ⟨i, j, hx.int, hy.int, q _ _ (Keep.refl _ _ _) p.deal (hf i j) False.elim⟩
theorem read_bl {o : Option Bool} {f : Bool → Bool} {P : Bool → Prop} (h : (o.map fun r => NB.D.bl (f r)) = some d) (p : Pre da db M H δ) (q : Res da db M H δ d False Q) (k : ∀ b, o = some b → Q (.bl (f b)) H → P b) : ∃ b, o = some b ∧ P b := by
  cases o with
  | none => cases h
  | some b =>
    cases h
    exact ⟨b, rfl, k b rfl (q _ _ (Keep.refl _ _ _) p.deal (at_bl _) False.elim)⟩
theorem inV_int (i : Int) (ns : List Int) : inV (.int i) (ns.map V.int) = decide (i ∈ ns) := by
  unfold inV
  rw [Bool.eq_iff_iff]
  simp only [List.any_map, List.any_eq_true, decide_eq_true_eq, Function.comp]
  constructor
  · rintro ⟨a, ha, e⟩
    have e' : (a == i) = true := e
    rw [beq_iff_eq] at e'
    exact e' ▸ ha
  · intro ha
    exact ⟨i, ha, (by show (i == i) = true; simp)⟩
theorem inV_str (w : NB.Wd) (ws : List NB.Wd) : inV (.str (wstr w)) (ws.map fun v => V.str (wstr v)) = decide (w ∈ ws) := by
  unfold inV
  rw [Bool.eq_iff_iff]
  simp only [List.any_map, List.any_eq_true, decide_eq_true_eq, Function.comp]
  constructor
  · rintro ⟨a, ha, e⟩
    have e' : (wstr a == wstr w) = true := e
    rw [beq_iff_eq] at e'
    exact wstr_inj e' ▸ ha
  · intro ha
    exact ⟨w, ha, (by show (wstr w == wstr w) = true; simp)⟩
theorem read_in {b : Bool} (h : NB.evIn d1 d2 = some b) (hx : At da M H d1 x) (hy : At da M H d2 y) (q : Q (.bl b) H) : rIn K false x y H Q := by
  unfold NB.evIn at h
  split at h
  · cases h
  · rename_i ds e
    obtain ⟨k, a, vs, rfl, _, ha, hs, r⟩ := hy.seq (K := K) e
    have hs' : SqL K H a vs ∨ SqT K H a vs := by
      cases k with
      | true => exact .inl hs
      | false => exact .inr hs
    split at h
    · rename_i i
      cases e2 : NB.intsOf ds with
      | none => rw [e2] at h; cases h
      | some ns =>
        rw [e2] at h
        cases h
        have ev := Ats.ints e2 r
        subst ev
        refine ⟨a, _, rfl, hs', by rw [hx.int]; rfl, by simp [flatV], ?_⟩
        rw [hx.int, inV_int]
        exact q
    · rename_i w
      cases e2 : NB.wdsOf ds with
      | none => rw [e2] at h; cases h
      | some ns =>
        rw [e2] at h
        cases h
        have ev := Ats.wds e2 r
        subst ev
        refine ⟨a, _, rfl, hs', by rw [hx.str]; rfl, by simp [flatV], ?_⟩
        rw [hx.str, inV_str]
        exact q
    · cases h
theorem read_is {b : Bool} (h : NB.evIs d1 d2 = some b) (hx : At da M H d1 x) (hy : At da M H d2 y) : (y = .non ∧ decide (x = .non) = b) ∨ ∃ i j : Bool, x = .bl i ∧ y = .bl j ∧ decide (i = j) = b := by
  unfold NB.evIs at h
  split at h <;> (try cases h)
  · exact .inr ⟨_, _, hx.bl, hy.bl, rfl⟩
  · exact .inl ⟨hy.non, by rw [hx.non]; simp⟩
  · exact .inl ⟨hy.non, by rw [hx.int]; simp⟩
  · exact .inl ⟨hy.non, by rw [hx.str]; simp⟩
  · exact .inl ⟨hy.non, by rw [hx.bl]; simp⟩
  · obtain ⟨a, vs, e, _⟩ := hx.tup
    exact .inl ⟨hy.non, by rw [e]; simp⟩
  · obtain ⟨a, vs, e, _⟩ := hx.lst
    exact .inl ⟨hy.non, by rw [e]; simp⟩
theorem read_eq {b : Bool} (h : NB.evEq d1 d2 = some b) (hx : At da M H d1 x) (hy : At da M H d2 y) : (scal x y = true ∧ decide (x = y) = b) ∨ ∃ u v, Dp K H x u ∧ Dp K H y v ∧ SeqAt.shaped u = true ∧ SeqAt.shaped v = true ∧ PyData.eqv u v = b := by
  unfold NB.evEq at h
  split at h
  · rename_i a c
    split at h
    · rename_i e
      cases h
      have e2 := same_eq a c e
      subst e2
      rw [At] at hx hy
      rw [hx, hy]
      exact .inl ⟨rfl, decide_eq_true rfl⟩
    · cases h
  · split at h
    · rename_i e
      exact .inr ⟨_, _, At.dp 6 d1 x e.1 hx, At.dp 6 d2 y e.2 hy, fit_shaped e.1, fit_shaped e.2, eqv_of d1 d2 b h⟩
    · cases h
theorem read_bin (o : NB.Bin) (h : NB.evBin o d1 d2 = some d) (p : Pre da db M H δ) (hx : At da M H d1 x) (hy : At da M H d2 y) (q : Res da db M H δ d (o = .mul ∧ ∃ ds, d1 = .lst ds) Q) : rOf K o x y H Q := by
  have q0 : Res da db M H δ d False Q → Res da db M H δ d False Q := id
  cases o with
  | add =>
    simp only [NB.evBin] at h
    unfold NB.evAdd at h
    split at h
    · cases h
      exact .inl ⟨_, _, hx.int, hy.int, q _ _ (Keep.refl _ _ _) p.deal (at_int _) fun z => nomatch z.1⟩
    · split at h
      · rename_i hz
        cases h
        obtain ⟨a, vs, rfl, na, ha, r⟩ := hx.lst
        obtain ⟨b, us, rfl, nb, hb, r'⟩ := hy.lst
        refine .inr (.inl ⟨a, b, vs, us, rfl, rfl, ha, hb, by rw [r.length, r'.length]; exact sl_le hz, fun c hc => ?_⟩)
        exact q _ _ (Keep.new hc) (p.deal.new hc) (at_newL p hc (r.append r')) fun z => nomatch z.1
      · cases h
    · split at h
      · rename_i hz
        cases h
        obtain ⟨a, vs, rfl, na, ha, r⟩ := hx.tup
        obtain ⟨b, us, rfl, nb, hb, r'⟩ := hy.tup
        refine .inr (.inr ⟨a, b, vs, us, rfl, rfl, SqT.of ha, SqT.of hb, by rw [r.length, r'.length]; exact sl_le hz, fun e => ?_, fun _ e => ?_, fun _ _ c hc => ?_⟩)
        · subst e
          exact q _ _ (Keep.refl _ _ _) p.deal (at_tup nb hb (by have z := r.append r'; exact z)) fun z => nomatch z.1
        · subst e
          exact q _ _ (Keep.refl _ _ _) p.deal (at_tup na ha (by have z := r.append r'; rw [List.append_nil] at z; exact z)) fun z => nomatch z.1
        · exact q _ _ (Keep.new hc) (p.deal.new hc) (at_newT p hc (r.append r')) fun z => nomatch z.1
      · cases h
    · cases h
  | sub => exact read_ii (fun i j => at_int _) h p hx hy fun v H' a b c _ => q v H' a b c fun z => nomatch z.1
  | lt => exact read_ii (fun i j => at_bl _) h p hx hy fun v H' a b c _ => q v H' a b c fun z => nomatch z.1
  | le => exact read_ii (fun i j => at_bl _) h p hx hy fun v H' a b c _ => q v H' a b c fun z => nomatch z.1
  | gt => exact read_ii (fun i j => at_bl _) h p hx hy fun v H' a b c _ => q v H' a b c fun z => nomatch z.1
  | ge => exact read_ii (fun i j => at_bl _) h p hx hy fun v H' a b c _ => q v H' a b c fun z => nomatch z.1
  | fdiv =>
    simp only [NB.evBin] at h
    unfold NB.evFdiv at h
    split at h
    · split at h
      · rename_i hz
        cases h
        exact ⟨_, _, hx.int, hy.int, hz, q _ _ (Keep.refl _ _ _) p.deal (at_int _) fun z => nomatch z.1⟩
      · cases h
    · cases h
  | mul =>
    simp only [NB.evBin] at h
    unfold NB.evMul at h
    split at h
    · split at h
      · rename_i hz
        cases h
        exact .inl ⟨_, _, hx.int, hy.int, .inl hz, q _ _ (Keep.refl _ _ _) p.deal (at_int _) fun z => by obtain ⟨_, ds, e⟩ := z; cases e⟩
      · cases h
    · split at h
      · rename_i c k hz
        cases h
        obtain ⟨a, vs, rfl, na, ha, r⟩ := hx.lst
        rw [Ats] at r
        obtain ⟨v, w, rfl, hv, r⟩ := r
        rw [Ats] at r
        subst r
        refine .inr (.inl ⟨a, k, [v], rfl, hy.int, ha, by omega, by omega, by rw [sizeLine_eq]; simp only [List.length_cons, List.length_nil]; omega, fun c hc => ?_⟩)
        rw [rep_flat]
        exact q _ _ (Keep.new hc) (p.deal.new hc) (at_newL p hc (Ats.replicate hv _)) fun _ => ⟨c, rfl, hc⟩
      · cases h
    · split at h
      · rename_i c k hz
        cases h
        obtain ⟨a, vs, rfl, na, ha, r⟩ := hx.tup
        rw [Ats] at r
        obtain ⟨v, w, rfl, hv, r⟩ := r
        rw [Ats] at r
        subst r
        have nl : ¬ (NB.Bin.mul = .mul ∧ ∃ ds, NB.D.tup [c] = .lst ds) := fun z => by obtain ⟨_, ds, e⟩ := z; cases e
        by_cases h1 : k = 1
        · subst h1
          refine .inr (.inr (.inr ⟨a, [v], rfl, hy.int, SqT.of ha, ?_⟩))
          exact q _ _ (Keep.refl _ _ _) p.deal (at_tup na ha (Ats.cons hv Ats.nil)) fun z => absurd z nl
        · refine .inr (.inr (.inl ⟨a, k, [v], rfl, hy.int, SqT.of ha, fun e => (nomatch e), by omega, hz.2, by simp, fun c hc => ?_⟩))
          rw [rep_flat]
          exact q _ _ (Keep.new hc) (p.deal.new hc) (at_newT p hc (Ats.replicate hv _)) fun z => absurd z nl
      · cases h
    · cases h
  | eq =>
    simp only [NB.evBin] at h
    cases e : NB.evEq d1 d2 with
    | none => rw [e] at h; cases h
    | some b =>
      rw [e] at h
      cases h
      have qq : Q (.bl b) H := q _ _ (Keep.refl _ _ _) p.deal (at_bl b) fun z => nomatch z.1
      rcases read_eq (K := K) e hx hy with ⟨h1, h2⟩ | ⟨u, v, h1, h2, h3, h4, h5⟩
      · exact .inl ⟨h1, by rw [h2]; exact qq⟩
      · exact .inr ⟨u, v, h1, h2, h3, h4, by rw [h5]; exact qq⟩
  | ne =>
    simp only [NB.evBin] at h
    cases e : NB.evEq d1 d2 with
    | none => rw [e] at h; cases h
    | some b =>
      rw [e] at h
      cases h
      have qq : Q (.bl (!b)) H := q _ _ (Keep.refl _ _ _) p.deal (at_bl _) fun z => nomatch z.1
      rcases read_eq (K := K) e hx hy with ⟨h1, h2⟩ | ⟨u, v, h1, h2, h3, h4, h5⟩
      · exact .inl ⟨h1, by rw [h2]; exact qq⟩
      · exact .inr ⟨u, v, h1, h2, h3, h4, by rw [h5]; exact qq⟩
  | isS =>
    simp only [NB.evBin] at h
    cases e : NB.evIs d1 d2 with
    | none => rw [e] at h; cases h
    | some b =>
      rw [e] at h
      cases h
      have qq : Q (.bl b) H := q _ _ (Keep.refl _ _ _) p.deal (at_bl b) fun z => nomatch z.1
      rcases read_is e hx hy with ⟨h1, h2⟩ | ⟨i, j, h1, h2, h3⟩
      · exact .inl ⟨h1, by rw [h2]; exact qq⟩
      · exact .inr ⟨i, j, h1, h2, by rw [h3]; exact qq⟩
  | isNot =>
    simp only [NB.evBin] at h
    cases e : NB.evIs d1 d2 with
    | none => rw [e] at h; cases h
    | some b =>
      rw [e] at h
      cases h
      have qq : Q (.bl (!b)) H := q _ _ (Keep.refl _ _ _) p.deal (at_bl _) fun z => nomatch z.1
      rcases read_is e hx hy with ⟨h1, h2⟩ | ⟨i, j, h1, h2, h3⟩
      · exact .inl ⟨h1, by rw [h2]; exact qq⟩
      · exact .inr ⟨i, j, h1, h2, by rw [h3]; exact qq⟩
  | inn =>
    simp only [NB.evBin] at h
    cases e : NB.evIn d1 d2 with
    | none => rw [e] at h; cases h
    | some b =>
      rw [e] at h
      cases h
      exact read_in e hx hy (q _ _ (Keep.refl _ _ _) p.deal (at_bl b) fun z => nomatch z.1)

/-! ### subscripts, slices -/
theorem atD_eq {ds : List NB.D} {vs : List V} {i : Int} (h : NB.atD ds i = some d) (r : Ats da M H ds vs) : ∃ v, atI vs i = some v ∧ At da M H d v := by
  unfold NB.atD at h
  have hl := r.length
  split at h
  · rename_i h0
    obtain ⟨v, e1, e2⟩ := r.get h
    refine ⟨v, ?_, e2⟩
    have q := atI_nat e1
    rw [show ((i.toNat : Nat) : Int) = i by omega] at q
    exact q
  · rename_i h0
    split at h
    · rename_i h1
      obtain ⟨v, e1, e2⟩ := r.get h
      refine ⟨v, ?_, e2⟩
      unfold atI ixN
      rw [if_neg h0, if_pos (by rw [hl]; exact h1), hl]
      exact e1
    · cases h
theorem read_ix (h : NB.evIx d1 d2 = some d) (p : Pre da db M H δ) (hx : At da M H d1 x) (hy : At da M H d2 y) (q : Res da db M H δ d False Q) : rIx K x y H Q := by
  unfold NB.evIx at h
  split at h
  · obtain ⟨a, vs, rfl, na, ha, r⟩ := hx.tup
    obtain ⟨v, e1, e2⟩ := atD_eq h r
    exact .inr (.inl ⟨a, vs, _, v, rfl, hy.int, SqT.of ha, e1, q _ _ (Keep.refl _ _ _) p.deal e2 False.elim⟩)
  · obtain ⟨a, vs, rfl, na, ha, r⟩ := hx.lst
    obtain ⟨v, e1, e2⟩ := atD_eq h r
    exact .inl ⟨a, vs, _, v, rfl, hy.int, SqL.of ha, e1, q _ _ (Keep.refl _ _ _) p.deal e2 False.elim⟩
  · cases h
def rSl (K : PySem.W.Frag) : V → Option Int → Option Int → Hp → VK → Prop := fun x lo hi H Q => rSlL K x lo hi H Q ∨ rSlA K x lo hi H Q
theorem sl_any {X : Cx} : SlR X (rSl X.K) := SlR.or sl_list sl_tupA
theorem cut_eq (n k : Nat) (o : Option Int) : NB.cutAt n k o = HT.sIx n k o := by
  cases o <;> rfl
theorem Ats.cut {ds : List NB.D} {vs : List V} (r : Ats da M H ds vs) (lo hi : Option Int) : Ats da M H (NB.cutD ds lo hi) (cutV vs lo hi) := by
  unfold NB.cutD cutV
  rw [r.length, cut_eq, cut_eq]
  exact (r.drop _).take _
theorem read_sl {lo hi : Option Int} (h : NB.evSl d1 lo hi = some d) (p : Pre da db M H δ) (hx : At da M H d1 x) (q : Res da db M H δ d False Q) : rSl K x lo hi H Q := by
  unfold NB.evSl at h
  split at h
  · cases h
    obtain ⟨a, vs, rfl, na, ha, r⟩ := hx.tup
    refine .inr ⟨a, vs, rfl, SqT.of ha, fun e => ?_, fun _ c hc => q _ _ (Keep.new hc) (p.deal.new hc) (at_newT p hc (r.cut lo hi)) False.elim⟩
    refine q _ _ (Keep.refl _ _ _) p.deal (at_tup na ha ?_) False.elim
    have z := r.cut lo hi
    unfold cutV at z
    rw [e.1, e.2, List.drop_zero, Nat.sub_zero, List.take_length] at z
    exact z
  · cases h
    obtain ⟨a, vs, rfl, na, ha, r⟩ := hx.lst
    exact .inl ⟨a, vs, rfl, SqL.of ha, fun c hc => q _ _ (Keep.new hc) (p.deal.new hc) (at_newL p hc (r.cut lo hi)) False.elim⟩
  · cases h
end
end NS

set_option Elab.async false
set_option linter.all false
set_option maxRecDepth 100000
set_option maxHeartbeats 1000000
/-! The built-in calls. -/
namespace NS
open PySem PySem.Spec PyProof.Rows L2 NR

theorem minL_eq : ∀ (ns : List Int) (n : Int), ns.foldl min n = NB.minL n ns
  | [], n => rfl
  | b :: r, n => by
    rw [List.foldl_cons, NB.minL, minL_eq r]
    congr 1
    rw [Int.min_def]
    by_cases h : b < n
    · rw [if_pos h, if_neg (by omega)]
    · rw [if_neg h, if_pos (by omega)]
theorem maxL_eq : ∀ (ns : List Int) (n : Int), ns.foldl max n = NB.maxL n ns
  | [], n => rfl
  | b :: r, n => by
    rw [List.foldl_cons, NB.maxL, maxL_eq r]
    congr 1
    rw [Int.max_def]
    by_cases h : b > n
    · rw [if_pos h, if_pos (by omega)]
    · rw [if_neg h]
      by_cases e : n ≤ b
      · rw [if_pos e]; omega
      · rw [if_neg e]
theorem insI_perm (a : Int) : ∀ r : List Int, (NB.insI a r).Perm (a :: r)
  | [] => by rw [NB.insI]
  | b :: r => by
    rw [NB.insI]
    split
    · exact .refl _
    · exact ((insI_perm a r).cons b).trans (List.Perm.swap a b r)
theorem sortI_perm : ∀ r : List Int, (NB.sortI r).Perm r
  | [] => by rw [NB.sortI]
  | a :: r => by
    rw [NB.sortI]
    exact (insI_perm a _).trans ((sortI_perm r).cons a)
theorem insI_sorted (a : Int) : ∀ r : List Int, r.Pairwise (· ≤ ·) → (NB.insI a r).Pairwise (· ≤ ·)
  | [], _ => by rw [NB.insI]; exact List.pairwise_singleton _ _
  | b :: r, h => by
    rw [NB.insI]
    rw [List.pairwise_cons] at h
    split
    · rename_i hab
      rw [List.pairwise_cons]
      refine ⟨fun x hx => ?_, List.pairwise_cons.mpr h⟩
      rcases List.mem_cons.mp hx with e | hx
      · rw [e]; exact hab
      · exact Int.le_trans hab (h.1 x hx)
    · rename_i hab
      rw [List.pairwise_cons]
      refine ⟨fun x hx => ?_, insI_sorted a r h.2⟩
      rcases List.mem_cons.mp ((insI_perm a r).mem_iff.mp hx) with e | hx
      · rw [e]; omega
      · exact h.1 x hx
theorem sortI_sorted : ∀ r : List Int, (NB.sortI r).Pairwise (· ≤ ·)
  | [] => by rw [NB.sortI]; exact .nil
  | a :: r => by rw [NB.sortI]; exact insI_sorted a _ (sortI_sorted r)
theorem sorted_one {a b : List Int} (p : a.Perm b) (ha : a.Pairwise (· ≤ ·)) (hb : b.Pairwise (· ≤ ·)) : a = b :=
  List.Perm.eq_of_pairwise (fun x y _ _ h1 h2 => Int.le_antisymm h1 h2) ha hb p

def pyB : NB.B → String
  | .len => "len" | .all => "all" | .mn => "min" | .mx => "max" | .sum => "sum" | .sorted => "sorted" | .tuple => "tuple" | .list => "list" | .repr => "repr"
def isTy : NB.B → Bool
  | .tuple => true | .list => true | _ => false
def rFn (K : PySem.W.Frag) : NB.B → List V → Hp → VK → Prop
  | .len => fun xs H Q => ∃ x n, xs = [x] ∧ LenV K x H n ∧ Q (.int n) H
  | .all => rAll K
  | .mn => fun xs H Q => (∃ i j, xs = [.int i, .int j] ∧ Q (.int (if j < i then j else i)) H) ∨ rMnA K xs H Q
  | .mx => fun xs H Q => (∃ i j, xs = [.int i, .int j] ∧ Q (.int (if j > i then j else i)) H) ∨ rMxA K xs H Q
  | .sum => rSum K
  | .sorted => rSorted K
  | .tuple => fun xs H Q => ∃ p ys, xs = [.ref p] ∧ ((SqL K H p ys ∧ ∀ l, H l = none → Q (.ref l) (upd H l (.tup ys))) ∨ (SqT K H p ys ∧ Q (.ref p) H))
  | .list => fun xs H Q => ∃ p ys, xs = [.ref p] ∧ (SqL K H p ys ∨ SqT K H p ys) ∧ ∀ l, H l = none → Q (.ref l) (upd H l (.lst ys))
  | .repr => rRepr K
theorem cr_fn {X : Cx} (hc : X.calm = true) (hu : X.A.units + 64 < cLine) (b : NB.B) (hg : b = .repr → X.A.guards = some []) (ht : isTy b = false) : CallR X (.builtin (pyB b)) (rFn X.K b) := by
  cases b with
  | len => exact call_len
  | all => exact cr_all hc
  | mn => exact CallR.or (call_min2 hc) (cr_mnA hc (by omega))
  | mx => exact CallR.or (call_max2 hc) (cr_mxA hc (by omega))
  | sum => exact cr_sum hc
  | sorted => exact cr_sorted
  | repr => exact cr_repr hu (hg rfl)
  | tuple => cases ht
  | list => cases ht
theorem cr_ty {X : Cx} (b : NB.B) (ht : isTy b = true) : CallR X (.type (pyB b)) (rFn X.K b) := by
  cases b with
  | tuple => exact call_tuple_of
  | list => exact call_list_of
  | _ => cases ht
theorem boot_fn (b : NB.B) (ht : isTy b = false) : bootBuiltins (Str.ofString (pyB b)) = some (.builtin (pyB b)) := by
  cases b <;> first | (cases ht; done) | decide +kernel
theorem boot_ty (b : NB.B) (ht : isTy b = true) : bootBuiltins (Str.ofString (pyB b)) = some (.type (pyB b)) := by
  cases b <;> first | (cases ht; done) | decide +kernel

/-! ### what repr is asked of -/
theorem small_show {d : NB.D} (h : NB.smallI d = true) : ∃ i : Int, d = .int i ∧ -1000000 < i ∧ i < 1000000 := by
  cases d <;> simp [NB.smallI] at h
  exact ⟨_, rfl, h.1, h.2⟩
theorem show_ints : ∀ (ds : List NB.D), ds.all NB.smallI = true → PyData.showableAll (toPs ds) = true ∧ PyData.hasDictAll (toPs ds) = false ∧ PyData.leavesShortAll 13 (toPs ds) = true ∧ PyData.weightAll (toPs ds) ≤ 30 * ds.length ∧ PyData.depthAll (toPs ds) = 0
  | [], _ => by
    rw [toPs]
    exact ⟨rfl, rfl, rfl, Nat.zero_le _, rfl⟩
  | d :: ds, h => by
    simp only [List.all_cons, Bool.and_eq_true] at h
    obtain ⟨i, rfl, h1, h2⟩ := small_show h.1
    obtain ⟨q1, q2, q3, q4, q5⟩ := show_ints ds h.2
    have hn : i.natAbs < 10 ^ 12 := by omega
    have hl : i.natAbs.log2 < 1920 := by
      have : i.natAbs < 2 ^ 1920 := Nat.lt_of_lt_of_le hn (by decide +kernel)
      by_cases z : i.natAbs = 0
      · rw [z]; decide
      · exact (Nat.log2_lt z).mpr this
    rw [toPs, toP]
    refine ⟨?_, ?_, ?_, ?_, ?_⟩
    · simp only [PyData.showableAll, PyData.showable, q1, Bool.and_true, decide_eq_true_eq]
      exact hl
    · simp only [PyData.hasDictAll, PyData.hasDict, q2, Bool.or_false]
    · have q := PyData.shown_int_le hn
      simp only [PyData.leavesShortAll, PyData.leavesShort, q3, Bool.and_true, decide_eq_true_eq]
      first | exact q | (simpa [PyData.shown] using q)
    · have l20 : i.natAbs.log2 < 20 := by
        have : i.natAbs < 2 ^ 20 := by omega
        by_cases z : i.natAbs = 0
        · rw [z]; decide
        · exact (Nat.log2_lt z).mpr this
      simp only [PyData.weightAll, PyData.weight, List.length_cons]
      split <;> omega
    · simp only [PyData.depthAll, PyData.depth, q5]
      rfl
theorem show_tups : ∀ (ds : List NB.D), ds.all NB.smallT = true → PyData.showableAll (toPs ds) = true ∧ PyData.hasDictAll (toPs ds) = false ∧ PyData.leavesShortAll 13 (toPs ds) = true ∧ PyData.weightAll (toPs ds) ≤ 3003 * ds.length ∧ PyData.depthAll (toPs ds) ≤ 1
  | [], _ => by
    rw [toPs]
    exact ⟨rfl, rfl, rfl, Nat.zero_le _, Nat.zero_le _⟩
  | d :: ds, h => by
    simp only [List.all_cons, Bool.and_eq_true] at h
    obtain ⟨q1, q2, q3, q4, q5⟩ := show_tups ds h.2
    cases d with
    | tup es =>
      have hs := h.1
      simp only [NB.smallT, Bool.and_eq_true, decide_eq_true_eq] at hs
      obtain ⟨p1, p2, p3, p4, p5⟩ := show_ints es hs.2
      have hl := hs.1
      rw [toPs, toP]
      refine ⟨?_, ?_, ?_, ?_, ?_⟩
      · simp only [PyData.showableAll, PyData.showable, q1, p1, Bool.and_true]
      · simp only [PyData.hasDictAll, PyData.hasDict, q2, p2, Bool.or_false]
      · simp only [PyData.leavesShortAll, PyData.leavesShort, q3, p3, Bool.and_true]
      · simp only [PyData.weightAll, PyData.weight, List.length_cons]
        omega
      · simp only [PyData.depthAll, PyData.depth, p5]
        omega
    | _ => simp [NB.smallT] at h
theorem okRep_facts {d : NB.D} (h : NB.okRep d = true) : ∃ ds, d = .tup ds ∧ (toP d).showable = true ∧ (toP d).hasDict = false ∧ (toP d).depth ≤ 60 ∧ (toP d).shown.length ≤ sizeLine := by
  cases d with
  | tup ds =>
    simp only [NB.okRep, Bool.and_eq_true, decide_eq_true_eq] at h
    obtain ⟨p1, p2, p3, p4, p5⟩ := show_tups ds h.2
    have hl := h.1
    refine ⟨ds, rfl, ?_, ?_, ?_, ?_⟩
    · rw [toP]; simp only [PyData.showable, p1]
    · rw [toP]; simp only [PyData.hasDict, p2]
    · rw [toP]; simp only [PyData.depth]; omega
    · rw [toP]
      refine PyData.shown_fits (B := 13) (by decide) (by decide) ?_ ?_
      · simp only [PyData.leavesShort, p3]
      · simp only [PyData.weight]; omega
  | _ => simp [NB.okRep] at h
theorem fit_small : ∀ {d : NB.D}, NB.okRep d = true → NB.fitN 6 d = true := fun {d} h => by
  cases d with
  | tup ds =>
    simp only [NB.okRep, Bool.and_eq_true, decide_eq_true_eq] at h
    rw [NB.fitN, List.all_eq_true]
    intro e he
    have q := List.all_eq_true.mp h.2 e he
    cases e with
    | tup es =>
      simp only [NB.smallT, Bool.and_eq_true, decide_eq_true_eq] at q
      rw [NB.fitN, List.all_eq_true]
      intro f hf
      obtain ⟨i, rfl, _⟩ := small_show (List.all_eq_true.mp q.2 f hf)
      rfl
    | _ => simp [NB.smallT] at q
  | _ => simp [NB.okRep] at h

section
variable {K : PySem.W.Frag} {da db : Addr} {M : Addr → Prop} {H : Hp} {δ : NB.Dl} {d : NB.D} {ds es : List NB.D} {vs : List V} {Q : VK}
theorem Ats.one {x : NB.D} (h : Ats da M H [x] vs) : ∃ v, vs = [v] ∧ At da M H x v := by
  rw [Ats] at h
  obtain ⟨v, r, e, h1, h2⟩ := h
  rw [Ats] at h2
  exact ⟨v, by rw [e, h2], h1⟩
theorem Ats.two {x y : NB.D} (h : Ats da M H [x, y] vs) : ∃ v w, vs = [v, w] ∧ At da M H x v ∧ At da M H y w := by
  rw [Ats] at h
  obtain ⟨v, r, e, h1, h2⟩ := h
  obtain ⟨w, e2, h3⟩ := h2.one
  exact ⟨v, w, by rw [e, e2], h1, h3⟩
theorem read_seqM {ds : List NB.D} {n : Int} {r : List Int} {v : V} (x : NB.D) (hs : NB.seqOf x = some ds) (h : At da M H x v) (e : NB.intsOf ds = some (n :: r)) : ∃ (k : Bool) (a : Addr), v = .ref a ∧ SqK K k H a ((n :: r).map V.int) := by
  obtain ⟨k, a, ws, rfl, _, _, hq, ra⟩ := h.seq (K := K) hs
  have q := Ats.ints e ra
  subst q
  exact ⟨k, a, rfl, hq⟩
theorem seq1_eq (h : NB.seq1 ds = some es) : ∃ x, ds = [x] ∧ NB.seqOf x = some es := by
  unfold NB.seq1 at h
  split at h
  · exact ⟨_, rfl, h⟩
  · cases h
theorem lst1_eq (h : NB.lst1 ds = some es) : ds = [.lst es] := by
  unfold NB.lst1 at h
  split at h
  · cases h; rfl
  · cases h
theorem int2_eq {a b : Int} (h : NB.int2 ds = some (a, b)) : ds = [.int a, .int b] := by
  unfold NB.int2 at h
  split at h
  · cases h; rfl
  · cases h
theorem read_fn (b : NB.B) (h : NB.evB b ds = some d) (p : Pre da db M H δ) (hx : Ats da M H ds vs) (q : Res da db M H δ d (b = .list) Q) : rFn K b vs H Q := by
  have q0 : ∀ {v}, At da M H d v → b ≠ .list → Q v H := fun a n => q _ _ (Keep.refl _ _ _) p.deal a fun z => absurd z n
  cases b with
  | len =>
    simp only [NB.evB] at h
    obtain ⟨es, e1, e2⟩ := Option.map_eq_some_iff.mp h
    obtain ⟨x, rfl, e3⟩ := seq1_eq e1
    subst e2
    obtain ⟨v, rfl, hv⟩ := hx.one
    obtain ⟨k, a, ws, rfl, _, _, hq, r⟩ := hv.seq (K := K) e3
    refine ⟨.ref a, ws.length, rfl, ?_, by rw [r.length]; exact q0 (at_int _) (fun z => nomatch z)⟩
    cases k with
    | true => exact .inl ⟨ws, hq, rfl⟩
    | false => exact .inr ⟨ws, hq, rfl⟩
  | all =>
    simp only [NB.evB] at h
    obtain ⟨es, e1, e2⟩ := Option.bind_eq_some_iff.mp h
    obtain ⟨bs, e3, e4⟩ := Option.map_eq_some_iff.mp e2
    have e5 := lst1_eq e1
    subst e5 e4
    obtain ⟨v, rfl, hv⟩ := hx.one
    obtain ⟨a, ws, rfl, _, ha, r⟩ := hv.lst
    have e6 := Ats.bls e3 r
    subst e6
    exact ⟨a, bs, rfl, SqL.of ha, q0 (at_bl _) (fun z => nomatch z)⟩
  | mn =>
    simp only [NB.evB] at h
    unfold NB.evMM at h
    split at h
    · rename_i i j e
      cases h
      have e2 := int2_eq e
      subst e2
      obtain ⟨v, w, rfl, h1, h2⟩ := hx.two
      exact .inl ⟨i, j, by rw [h1.int, h2.int], q0 (at_int _) (fun z => nomatch z)⟩
    · split at h
      · rename_i es e
        split at h
        · rename_i a r e2
          cases h
          obtain ⟨x, rfl, e3⟩ := seq1_eq e
          obtain ⟨v, rfl, hv⟩ := hx.one
          obtain ⟨k, c, rfl, hq⟩ := read_seqM (K := K) x e3 hv e2
          exact .inr ⟨k, c, a, r, rfl, hq, by rw [minL_eq]; exact q0 (at_int _) (fun z => nomatch z)⟩
        · cases h
      · cases h
  | mx =>
    simp only [NB.evB] at h
    unfold NB.evMM at h
    split at h
    · rename_i i j e
      cases h
      have e2 := int2_eq e
      subst e2
      obtain ⟨v, w, rfl, h1, h2⟩ := hx.two
      exact .inl ⟨i, j, by rw [h1.int, h2.int], q0 (at_int _) (fun z => nomatch z)⟩
    · split at h
      · rename_i es e
        split at h
        · rename_i a r e2
          cases h
          obtain ⟨x, rfl, e3⟩ := seq1_eq e
          obtain ⟨v, rfl, hv⟩ := hx.one
          obtain ⟨k, c, rfl, hq⟩ := read_seqM (K := K) x e3 hv e2
          exact .inr ⟨k, c, a, r, rfl, hq, by rw [maxL_eq]; exact q0 (at_int _) (fun z => nomatch z)⟩
        · cases h
      · cases h
  | sum =>
    simp only [NB.evB] at h
    obtain ⟨es, e1, e2⟩ := Option.bind_eq_some_iff.mp h
    obtain ⟨bs, e3, e4⟩ := Option.map_eq_some_iff.mp e2
    have e5 := lst1_eq e1
    subst e5 e4
    obtain ⟨v, rfl, hv⟩ := hx.one
    obtain ⟨a, ws, rfl, _, ha, r⟩ := hv.lst
    have e6 := Ats.ints e3 r
    subst e6
    exact ⟨a, bs, rfl, SqL.of ha, q0 (at_int _) (fun z => nomatch z)⟩
  | sorted =>
    simp only [NB.evB] at h
    unfold NB.evSort at h
    split at h
    · rename_i es e
      split at h
      · rename_i ns e2
        split at h
        · rename_i hl
          cases h
          have e5 := lst1_eq e
          subst e5
          obtain ⟨v, rfl, hv⟩ := hx.one
          obtain ⟨a, ws, rfl, _, ha, r⟩ := hv.lst
          have e6 := Ats.ints e2 r
          subst e6
          refine ⟨a, ns, rfl, SqL.of ha, hl, fun ns' c h1 h2 hc => ?_⟩
          have e7 : ns' = NB.sortI ns := sorted_one (h1.trans (sortI_perm ns).symm) h2 (sortI_sorted ns)
          subst e7
          exact q _ _ (Keep.new hc) (p.deal.new hc) (at_newL p hc (ats_ints _)) fun z => nomatch z
        · cases h
      · cases h
    · cases h
  | tuple =>
    simp only [NB.evB] at h
    obtain ⟨es, e1, e2⟩ := Option.map_eq_some_iff.mp h
    obtain ⟨x, rfl, e3⟩ := seq1_eq e1
    subst e2
    obtain ⟨v, rfl, hv⟩ := hx.one
    obtain ⟨k, a, ws, rfl, na, ha, hq, r⟩ := hv.seq (K := K) e3
    refine ⟨a, ws, rfl, ?_⟩
    cases k with
    | true => exact .inl ⟨hq, fun c hc => q _ _ (Keep.new hc) (p.deal.new hc) (at_newT p hc r) fun z => nomatch z⟩
    | false => exact .inr ⟨hq, q0 (at_tup na ha r) (fun z => nomatch z)⟩
  | list =>
    simp only [NB.evB] at h
    obtain ⟨es, e1, e2⟩ := Option.map_eq_some_iff.mp h
    obtain ⟨x, rfl, e3⟩ := seq1_eq e1
    subst e2
    obtain ⟨v, rfl, hv⟩ := hx.one
    obtain ⟨k, a, ws, rfl, na, ha, hq, r⟩ := hv.seq (K := K) e3
    refine ⟨a, ws, rfl, ?_, fun c hc => q _ _ (Keep.new hc) (p.deal.new hc) (at_newL p hc r) fun _ => ⟨c, rfl, hc⟩⟩
    cases k with
    | true => exact .inl hq
    | false => exact .inr hq
  | repr =>
    simp only [NB.evB] at h
    unfold NB.evRep at h
    split at h
    · rename_i x
      split at h
      · rename_i ok
        cases h
        obtain ⟨es, e1, h1, h2, h3, h4⟩ := okRep_facts ok
        obtain ⟨v, rfl, hv⟩ := hx.one
        have hd := At.dp (K := K) 6 x v (fit_small ok) hv
        subst e1
        obtain ⟨a, ws, rfl, na, ha, r⟩ := hv.tup
        exact ⟨a, _, rfl, hd, h1, h2, h3, h4, q0 (by rw [At]) (fun z => nomatch z)⟩
      · cases h
    · cases h
/-! ### isinstance -/
def pyT : NB.Ty → String
  | .tuple => "tuple" | .str => "str" | .int => "int" | .bool => "bool"
theorem boot_T (T : NB.Ty) : bootBuiltins (Str.ofString (pyT T)) = some (.type (pyT T)) := by cases T <;> decide +kernel
theorem read_isi {x : NB.D} {v : V} {T : NB.Ty} {b : Bool} (h : NB.evIsi x T = some b) (p : Pre da db M H δ) (hx : At da M H x v) (q : Q (.bl b) H) : rIsi K [v, .ty (pyT T)] H Q := by
  have mk : ∀ (t : String), TyX K H v (.type t) → kitB t (pyT T) = some b → rIsi K [v, .ty (pyT T)] H Q := fun t ty e => ⟨v, .ty (pyT T), .type t, .type (pyT T), b, rfl, .ty _, ty, kit_ty e, q⟩
  cases x with
  | int i => exact mk "int" (by rw [hx.int]; exact .base (.int i)) (by cases T <;> simp [NB.evIsi] at h <;> subst h <;> decide +kernel)
  | bl i => exact mk "bool" (by rw [hx.bl]; exact .base (.bl i)) (by cases T <;> simp [NB.evIsi] at h <;> subst h <;> decide +kernel)
  | str i => exact mk "str" (by rw [hx.str]; exact .base (.str _)) (by cases T <;> simp [NB.evIsi] at h <;> subst h <;> decide +kernel)
  | non => exact mk "NoneType" (by rw [hx.non]; exact .base .non) (by cases T <;> simp [NB.evIsi] at h <;> subst h <;> decide +kernel)
  | tup ds =>
    obtain ⟨a, ws, rfl, _, ha, _⟩ := hx.tup
    exact mk "tuple" (.base (.tup ha)) (by cases T <;> simp [NB.evIsi] at h <;> subst h <;> decide +kernel)
  | lst ds =>
    obtain ⟨a, ws, rfl, _, ha, _⟩ := hx.lst
    exact mk "list" (.base (.lst ha)) (by cases T <;> simp [NB.evIsi] at h <;> subst h <;> decide +kernel)
  | deal => cases T <;> simp [NB.evIsi] at h
  | rep d => cases T <;> simp [NB.evIsi] at h
end
end NS

set_option Elab.async false
set_option linter.all false
set_option maxRecDepth 100000
set_option maxHeartbeats 1000000
/-! Does a term of the small language stand for this piece of the text: Bool checks. -/
namespace NS
open PySem PySem.Spec PyProof.Rows L2 NR

structure Sc where
  N : List Str
  sc : Scope
  g : Bool
/-- the block's scope within -/
def Sc.blk (c : Sc) (scope : Scope) : Sc := { c with sc := relS scope c.sc }
def visB (sc : Scope) (x : Str) : Bool := match sc.names.lookup x with
  | some .local => true | some .cell => true | some .free => true | _ => false
def glB (sc : Scope) (x : Str) : Bool := match sc.names.lookup x with
  | some .globalImplicit => !(x == ("__debug__" : Str)) && !decide (x = ("__name__" : Str))
  | _ => false
def varB (c : Sc) (i : Nat) (x : Str) : Bool := decide (c.N[i]? = some x) && (visB c.sc x && (!(x == ("__debug__" : Str)) && !(x == ("__classdict__" : Str))))
def locB (c : Sc) (i : Nat) (x : Str) : Bool := decide (c.N[i]? = some x) && decide (c.sc.names.lookup x = some .local)
def isStar : Expr → Bool
  | .Starred .. => true | _ => false
def isSlice : Expr → Bool
  | .Slice .. => true | _ => false
def isSet : Expr → Bool
  | .Set .. => true | _ => false
def pyS (f : NB.F) : Str := Str.ofString f.py
def globC (x : Str) (c : Int) : Bool := (x == ("MOST" : Str) && decide (c = 1001)) || ((x == ("MOST_ROW" : Str) && decide (c = 64)) || (x == ("NO_HOUSE" : Str) && decide (c = 20)))
def opAB (o : NB.Bin) (op : Operator) : Bool := match opA o, op with
  | some .Add, .Add => true | some .Sub, .Sub => true | some .Mult, .Mult => true | some .FloorDiv, .FloorDiv => true | _, _ => false
def opCB (o : NB.Bin) (op : CmpOp) : Bool := match opC o, op with
  | some .Lt, .Lt => true | some .LtE, .LtE => true | some .Gt, .Gt => true | some .GtE, .GtE => true | some .Eq, .Eq => true | some .NotEq, .NotEq => true | some .Is, .Is => true | some .IsNot, .IsNot => true | some .In, .In => true | _, _ => false
theorem opAB_eq {o : NB.Bin} {op : Operator} (h : opAB o op = true) : opA o = some op := by
  cases o <;> cases op <;> first | rfl | (cases h)
theorem opCB_eq {o : NB.Bin} {op : CmpOp} (h : opCB o op = true) : opC o = some op := by
  cases o <;> cases op <;> first | rfl | (cases h)
def tgNs (q : Nat → Str → Bool) : List Nat → List Expr → Bool
  | [], [] => true
  | i :: is, .Name x _ :: es => q i x && tgNs q is es
  | _, _ => false
def okTg (q : Nat → Str → Bool) : NB.Tg → Expr → Bool
  | .one i, .Name x _ => q i x
  | .many is, .Tuple es _ _ => tgNs q is es && decide (is.Nodup)
  | _, _ => false
def tgIn : NB.Tg → List Nat → Bool
  | .one i, own => decide (i ∈ own)
  | .many is, own => is.all fun i => decide (i ∈ own)
def isTup : Expr → Bool
  | .Tuple .. => true | _ => false
/-- what may stand as a test -/
def tst : NB.E → Bool
  | .ite .. => false
  | .and a b => tst a && tst b
  | .or a b => tst a && tst b
  | .one a => tst a
  | .not a => tst a
  | .nop => false | .nil => false
  | _ => true
def kwN : NB.F → Bool
  | .plain_run => true | .settled_with => true | _ => false
mutual
def okE (c : Sc) : NB.E → Expr → Bool
  | .var i, .Name x _ => varB c i x
  | .glob s v, .Name x _ => glB c.sc x && globC x v
  | .int i, .Constant (.int j) _ _ => decide (i = j)
  | .neg i, .UnaryOp .USub (.Constant (.int j) _ _) _ => decide (i = j)
  | .str w, .Constant (.str x) _ _ => x == wstr w
  | .bl b, .Constant (.bool d) _ _ => b == d
  | .non, .Constant .none _ _ => true
  | .tup es, .Tuple ps _ _ => okL c es ps
  | .lst es, .List ps _ => okL c es ps
  | .bin o a b, pe => match pe with
    | .BinOp pa op pb _ => opAB o op && (okE c a pa && okE c b pb)
    | .Compare pa [op] [pb] _ => opCB o op && (!isSet pb && (okE c a pa && okE c b pb))
    | _ => false
  | .chain a b d, .Compare pa [.LtE, .LtE] [pb, pd] _ => !isSet pd && (okE c a pa && (okE c b pb && okE c d pd))
  | .and a r, .BoolOp .And (pa :: pb :: rest) pos => okE c a pa && okE c r (.BoolOp .And (pb :: rest) pos)
  | .or a r, .BoolOp .Or (pa :: pb :: rest) pos => okE c a pa && okE c r (.BoolOp .Or (pb :: rest) pos)
  | .one a, .BoolOp _ [pa] _ => okE c a pa
  | .not a, .UnaryOp .Not pa _ => okE c a pa
  | .ite t a b, .IfExp pt pa pb _ => (tst t && okE c t pt) && (okE c a pa && okE c b pb)
  | .ix a i, .Subscript pa pi _ => !isSlice pi && (okE c a pa && okE c i pi)
  | .sl a lo hi, .Subscript pa (.Slice plo phi none _) _ => okE c a pa && (okO c lo plo && okO c hi phi)
  | .isi a T, .Call (.Name x _) [pa, .Name t _] [] _ => (x == ("isinstance" : Str) && glB c.sc x) && ((t == Str.ofString (pyT T) && glB c.sc t) && (!isStar pa && okE c a pa))
  | .fn b es, .Call (.Name x _) (p :: ps) [] _ => (x == Str.ofString (pyB b) && glB c.sc x) && ((c.g || !decide (b = .repr)) && (!isStar p && (!(ps.any isStar) && okL c es (p :: ps))))
  | .call f es, .Call (.Name x _) (p :: ps) [] _ => (x == pyS f && glB c.sc x) && (!isStar p && (!(ps.any isStar) && okL c es (p :: ps)))
  | .callk f ks (.cons a1 (.cons a2 (.cons a3 (.cons a4 .nil)))), .Call (.Name x _) [] [⟨k1, p1, _⟩, ⟨k2, p2, _⟩, ⟨k3, p3, _⟩, ⟨k4, p4, _⟩] _ =>
    (x == pyS f && glB c.sc x) && ((kwN f && (decide (ks = [3, 2, 1, 0]) && decide ([k1, k2, k3, k4] = (((f.names.take f.np).map Str.ofString).reverse).map some))) && (okE c a1 p1 && (okE c a2 p2 && (okE c a3 p3 && okE c a4 p4))))
  | .lc own tg it t elt, .ListComp pe [⟨ptg, pit, ifs, 0⟩] scope _ =>
    blkC c.N c.sc scope (own.filterMap fun i => (c.N[i]?).map fun x => (x, i)) && (decide ((own.filterMap fun i => (c.N[i]?).map fun x => (x, i)).map (·.2) = own) &&
      (!isSet pit && (okTg (locB (c.blk scope)) tg ptg && (tgIn tg own && (okI c ptg it pit && (okT (c.blk scope) t ifs && okE (c.blk scope) elt pe))))))
  | _, _ => false
def okT (c : Sc) : NB.E → List Expr → Bool
  | .nop, [] => true
  | .one a, [pa] => okE c a pa && tst a
  | _, _ => false
def okO (c : Sc) : NB.E → Option Expr → Bool
  | .nop, none => true
  | .one a, some pa => okE c a pa
  | _, _ => false
def okL (c : Sc) : NB.E → List Expr → Bool
  | .nil, [] => true
  | .cons a r, p :: ps => !isStar p && (okE c a p && okL c r ps)
  | .star a r, .Starred p _ :: ps => okE c a p && okL c r ps
  | _, _ => false
def okI (c : Sc) (ptg : Expr) : NB.E → Expr → Bool
  | .itS a, p => okE c a p
  | .itR1 a, .Call (.Name x _) [p] [] _ => (x == ("range" : Str) && glB c.sc x) && (!isStar p && okE c a p)
  | .itR2 a b, .Call (.Name x _) [p, q] [] _ => (x == ("range" : Str) && glB c.sc x) && (!isStar p && (!isStar q && (okE c a p && okE c b q)))
  | .itZ a b, .Call (.Name x _) [p, q] [] _ => isTup ptg && ((x == ("zip" : Str) && glB c.sc x) && (!isStar p && (!isStar q && (okE c a p && okE c b q))))
  | .itE a, .Call (.Name x _) [p] [] _ => isTup ptg && ((x == ("enumerate" : Str) && glB c.sc x) && (!isStar p && okE c a p))
  | _, _ => false
end
/-- at a def's own level -/
def locF (c : Sc) (i : Nat) (x : Str) : Bool := decide (c.N[i]? = some x) && (decide (c.sc.names.lookup x = some .local) || decide (c.sc.names.lookup x = some .cell))
def isComp : Expr → Bool
  | .ListComp .. => true | .SetComp .. => true | .DictComp .. => true | _ => false
def isTupE : Expr → Bool
  | .Tuple .. => true | .List .. => true | _ => false
/-- a comprehension into a local name, on one line -/
def swpB (c : Sc) (x : Str) (py : Pos) : Expr → Bool
  | .ListComp _ _ scope pos => decide (c.sc.names.lookup x = some .local) && ((py.line == pos.line) && !(scope.names.any fun (n, k) => n == x && (k == .local || k == .cell)))
  | _ => false
/-- the targets are two, three local names on one line: stores in turned order -/
def parSw (c : Sc) : List Expr → Bool
  | [.Name x px, .Name y py] => decide (c.sc.names.lookup x = some .local) && (decide (c.sc.names.lookup y = some .local) && ((py.line == px.line) && !(x == y)))
  | _ => false
def parNo (c : Sc) : List Expr → Bool
  | [.Name x _, .Name y _] => !decide (c.sc.names.lookup x = some .local) || !decide (c.sc.names.lookup y = some .local)
  | [.Name x _, .Name y _, .Name z _] => !decide (c.sc.names.lookup x = some .local) || !decide (c.sc.names.lookup y = some .local) || !decide (c.sc.names.lookup z = some .local)
  | [.Name _ _, .Name _ _, .Name _ _, .Name _ _] => true
  | _ => false
def parEs (c : Sc) : List (Nat × NB.E × NB.Md) → List Expr → Bool
  | [], [] => true
  | (_, e, _) :: r, p :: ps => !isStar p && (okE c e p && parEs c r ps)
  | _, _ => false
mutual
def okS (c : Sc) : NB.S → Stmt → Bool
  | .ret e, .Return (some p) _ => okE c e p
  | .set x e _, .Assign [.Name y py] p _ => locF c x y && (okE c e p && (!isComp p || swpB c y py p))
  | .par ps, .Assign [.Tuple ts _ _] (.Tuple vs _ _) _ => tgNs (locF c) (ps.map (·.1)) ts && (decide (ps.map (·.1)).Nodup && (parEs c ps vs && (parNo c ts || (parSw c ts && (!(vs.all (foldedForSure 8)) && !(vs.all (constantsAlone 8)))))))
  | .unp xs e _, .Assign [.Tuple ts _ _] p _ => tgNs (locF c) xs ts && (decide xs.Nodup && (!isTupE p && okE c e p))
  | .sto x i e _, .Assign [.Subscript (.Name y _) pi _] p _ => varB c x y && (!isSlice pi && (okE c i pi && okE c e p))
  | .app x e _, .Expr (.Call (.Attribute (.Name y _) a apos) [p] [] cpos) _ => varB c x y && ((a == ("append" : Str) && (apos.endLine == cpos.line)) && (!isStar p && okE c e p))
  | .ext x e _, .Expr (.Call (.Attribute (.Name y _) a apos) [p] [] cpos) _ => varB c x y && ((a == ("extend" : Str) && (apos.endLine == cpos.line)) && (!isStar p && okE c e p))
  | .drop e, .Expr p _ => !isComp p && okE c e p
  | .ife t a b, .If pt pa pb _ => (tst t && okE c t pt) && (okB c a pa && okB c b pb)
  | .for tg it body, .For ptg pit pb [] _ => okTg (locF c) tg ptg && (!isSet pit && (okI c ptg it pit && okB c body pb))
  | .whl t body, .While pt pb [] _ => (tst t && okE c t pt) && okB c body pb
  | .never, _ => true
  | _, _ => false
def okB (c : Sc) : NB.S → List Stmt → Bool
  | .skip, [] => true
  | .seq a r, st :: sts => okS c a st && okB c r sts
  | .frz _ r, sts => okB c r sts
  | _, _ => false
end
end NS

set_option Elab.async false
set_option linter.all false
set_option maxRecDepth 100000
set_option maxHeartbeats 1000000
/-! The soundness of the evaluator, expressions. -/
namespace NS
open PySem PySem.Spec PyProof.Rows L2 NR

theorem PEimp {X : Cx} {e : Expr} {t u : TE} (h : PE X e t) (k : ∀ σ H Q, u σ H Q → t σ H Q) : PE X e u := ⟨fun pins s σ H Q I q => h.run pins s σ H Q I (k σ H Q q)⟩
theorem PTimp {X : Cx} {e : Expr} {t u : TT} (h : PT X e t) (k : ∀ σ H Q, u σ H Q → t σ H Q) : PT X e u := ⟨fun pins s σ H Q I q => h.run pins s σ H Q I (k σ H Q q)⟩
theorem PWimp {X : Cx} {e : Expr} {t u : TT} (h : PW X e t) (k : ∀ σ H Q, u σ H Q → t σ H Q) : PW X e u := ⟨fun wh pins s σ H Q I q => h.run wh pins s σ H Q I (k σ H Q q)⟩
theorem PAimp {X : Cx} {e : List Expr} {t u : TA} (h : PA X e t) (k : ∀ σ H Q, u σ H Q → t σ H Q) : PA X e u := ⟨fun pos pins s σ H Q I q => h.run pos pins s σ H Q I (k σ H Q q)⟩
theorem PKimp {X : Cx} {e : List Keyword} {t u : TA} (h : PK X e t) (k : ∀ σ H Q, u σ H Q → t σ H Q) : PK X e u := ⟨fun pos pins s σ H Q I q => h.run pos pins s σ H Q I (k σ H Q q)⟩
theorem POimp {X : Cx} {e : Option Expr} {t u : TO} (h : PO X e t) (k : ∀ σ H Q, u σ H Q → t σ H Q) : PO X e u := ⟨fun pins s σ H Q I q => h.run pins s σ H Q I (k σ H Q q)⟩
theorem PIimp {X : Cx} {tg e : Expr} {t u : TI} (h : PI X tg e t) (k : ∀ σ H Q, u σ H Q → t σ H Q) : PI X tg e u := ⟨fun pins s σ H Q I q => h.run pins s σ H Q I (k σ H Q q)⟩
theorem PTsimp {X : Cx} {e : List Expr} {t u : TT} (h : PTs X e t) (k : ∀ σ H Q, u σ H Q → t σ H Q) : PTs X e u := ⟨fun pins s σ H Q I q => h.run pins s σ H Q I (k σ H Q q)⟩
theorem bnd {α β : Type} {o : Option α} {f : α → Option β} {b : β} (h : (o >>= f) = some b) : ∃ a, o = some a ∧ f a = some b := Option.bind_eq_some_iff.mp h

/-- what a def promises: what the evaluator says -/
def spF (cf : NB.CF) (f : NB.F) : Sp := fun vs H Q _ => vs.length = f.np ∧ ∃ da db M ds δ d δ', Pre da db M H δ ∧ Ats da M H ds vs ∧ cf f ds δ = some (d, δ') ∧
  ∀ v H', Keep da db H H' → DealAt da db H' δ' → At da M H' d v → Q v H'
structure Fs (ad : NB.F → Addr) (fd : NB.F → FuncData) (ps : NB.F → List Str) (K : PySem.W.Frag) (mg : Str → Option Value) : Prop where
  mgf : ∀ f, mg (pyS f) = some (.ref (ad f))
  kp : ∀ f, PySem.W.keepIn K (.ref (ad f)) = true
  bi : ∀ f, Binds K (fd f) (ps f) []
  kb : ∀ f, kwN f = true → KBn K (fd f) (ps f) 0 (((f.names.take f.np).map Str.ofString).reverse) (fun _ ws => ws.reverse) (fun _ zs => zs.reverse)
  bl : ∀ b : NB.B, mg (Str.ofString (pyB b)) = none
  ty : ∀ T : NB.Ty, mg (Str.ofString (pyT T)) = none
  isi : mg "isinstance" = none
  rng : mg "range" = none
  zip : mg "zip" = none
  enu : mg "enumerate" = none
  gl : ∀ x c, globC x c = true → ∃ u, mg x = some u ∧ RelV (.int c) u
structure Fa (cf : NB.CF) (ad : NB.F → Addr) (fd : NB.F → FuncData) (ps : NB.F → List Str) (n : Nat) (P : Program) (w : World) (K : PySem.W.Frag) (mg : Str → Option Value) (base : Heap) : Prop where
  st : Fs ad fd ps K mg
  fn : ∀ f, FnOk P w K mg base CX0 n (ad f) (fd f) (ps f) (spF cf f)
  ln : ∀ f ds δ r, cf f ds δ = some r → ds.length = f.np
structure Gd (cf : NB.CF) (ad : NB.F → Addr) (fd : NB.F → FuncData) (ps : NB.F → List Str) (n : Nat) (c : Sc) (X : Cx) : Prop where
  fa : Fa cf ad fd ps n X.prog X.w X.K X.mg X.base
  hN : X.N = c.N
  nd : X.N.Nodup
  hsc : X.env.scope = c.sc
  calm : X.calm = true
  room : Room n X.A
  gu : c.g = true → X.A.guards = some []
theorem Gd.blk {cf : NB.CF} {ad : NB.F → Addr} {fd : NB.F → FuncData} {ps : NB.F → List Str} {n : Nat} {c : Sc} {X : Cx} (g : Gd cf ad fd ps n c X) (s : Shared) (H : Hp) (scope : Scope) (cl : List (Str × Addr)) (C : Addr) (fp : List Addr) :
    Gd cf ad fd ps n (c.blk scope) (X.blk s H scope (compEnvC scope cl C X.env) fp) :=
  { fa := g.fa, hN := g.hN, nd := g.nd, hsc := by show relS scope X.env.scope = relS scope c.sc; rw [g.hsc], calm := g.calm, room := g.room, gu := g.gu }

/-! ### the readings -/
section
variable (cf : NB.CF)
def tE (e : NB.E) : TE := fun σ H Q => ∃ da db M ρ δ d δ', Pre da db M H δ ∧ EnvAt da M H σ ρ ∧ NB.evE cf e ρ δ = some (d, δ') ∧ Res da db M H δ' d (NB.isFresh e = true) Q
def tTt (e : NB.E) : TT := fun σ H Q => ∃ da db M ρ δ b δ', Pre da db M H δ ∧ EnvAt da M H σ ρ ∧ NB.evE cf e ρ δ = some (.bl b, δ') ∧ ∀ H', Keep da db H H' → DealAt da db H' δ' → Q b H'
def tTs (e : NB.E) : TT := fun σ H Q => ∃ da db M ρ δ b δ', Pre da db M H δ ∧ EnvAt da M H σ ρ ∧ NB.evT cf e ρ δ = some (b, δ') ∧ ∀ H', Keep da db H H' → DealAt da db H' δ' → Q b H'
def tOo (e : NB.E) : TO := fun σ H Q => ∃ da db M ρ δ o δ', Pre da db M H δ ∧ EnvAt da M H σ ρ ∧ NB.evO cf e ρ δ = some (o, δ') ∧ ∀ H', Keep da db H H' → DealAt da db H' δ' → Q o H'
def tLl (e : NB.E) : TA := fun σ H Q => ∃ da db M ρ δ ds δ', Pre da db M H δ ∧ EnvAt da M H σ ρ ∧ NB.evL cf e ρ δ = some (ds, δ') ∧ ∀ vs H', Keep da db H H' → DealAt da db H' δ' → Ats da M H' ds vs → Q vs H'
/-- an iterator: what each turn gives -/
def tIi (e : NB.E) : TI := fun σ H R => ∃ da db M ρ δ xs δ', Pre da db M H δ ∧ EnvAt da M H σ ρ ∧ NB.evI cf e ρ δ = some (xs, δ') ∧
  ∀ (J : It) H1 (G : Hp → Prop) (Y : Nat → Hp → V → Hp → Prop), Keep da db H H1 → DealAt da db H1 δ' → Walk J xs.length G Y → (∀ M2 H2, Step M H1 M2 H2 → G H2) →
    (∀ i Hi v H' M2 δ2, i < xs.length → Pre da db M2 Hi δ2 → Step M H1 M2 Hi → Y i Hi v H' → Keep da db Hi H' ∧ DealAt da db H' δ2 ∧ ∃ d, xs[i]? = some d ∧ At da M2 H' d v) → R J H1
end
theorem Res.on {da db : Addr} {M : Addr → Prop} {H H2 : Hp} {δ δ2 : NB.Dl} {d : NB.D} {fr fr2 : Prop} {Q : VK} (q : Res da db M H δ d fr Q) (k : Keep da db H H2) (dl : DealAt da db H2 δ2) (hf : fr → fr2) : Res da db M H2 δ d fr2 Q :=
  fun v H' k' q' a' f' => q v H' (k.trans k') q' a' fun h => let ⟨p, e, n⟩ := f' (hf h); ⟨p, e, Keep.free dl k n⟩
theorem Res.now {da db : Addr} {M : Addr → Prop} {H : Hp} {δ : NB.Dl} {d : NB.D} {fr : Prop} {Q : VK} (q : Res da db M H δ d fr Q) (hf : ¬ fr) (dl : DealAt da db H δ) {v : V} (a : At da M H d v) : Q v H := q v H (Keep.refl _ _ _) dl a fun z => absurd z hf
section
variable (cf : NB.CF) (ad : NB.F → Addr) (fd : NB.F → FuncData) (ps : NB.F → List Str) (n : Nat)
def SE (e : NB.E) : Prop := ∀ c pe, okE c e pe = true → ∀ X, Gd cf ad fd ps n c X → PE X pe (tE cf e)
def SP (e : NB.E) : Prop := ∀ c pe, okE c e pe = true → tst e = true → ∀ X, Gd cf ad fd ps n c X → PT X pe (tTt cf e)
def STs (e : NB.E) : Prop := ∀ c pe, okT c e pe = true → ∀ X, Gd cf ad fd ps n c X → PTs X pe (tTs cf e)
def SO (e : NB.E) : Prop := ∀ c pe, okO c e pe = true → ∀ X, Gd cf ad fd ps n c X → PO X pe (tOo cf e)
def SL (e : NB.E) : Prop := ∀ c pe, okL c e pe = true → ∀ X, Gd cf ad fd ps n c X → PA X pe (tLl cf e)
def SI (e : NB.E) : Prop := ∀ c ptg pe, okI c ptg e pe = true → ∀ X, Gd cf ad fd ps n c X → PI X ptg pe (tIi cf e)
end
section
variable {cf : NB.CF} {ad : NB.F → Addr} {fd : NB.F → FuncData} {ps : NB.F → List Str} {n : Nat}
theorem vis_of {sc : Scope} {x : Str} (h : visB sc x = true) : Vis sc x := by
  unfold visB at h
  unfold Vis
  split at h <;> first | (rename_i e; rw [e]; simp) | (cases h)
theorem gl_of {X : Cx} {c : Sc} (g : Gd cf ad fd ps n c X) {x : Str} (h : glB c.sc x = true) : Gl X x ∧ (x == ("__debug__" : Str)) = false ∧ x ≠ "__name__" := by
  unfold glB at h
  split at h
  · rename_i e
    simp only [Bool.and_eq_true, Bool.not_eq_true', decide_eq_false_iff_not] at h
    refine ⟨?_, h.1, h.2⟩
    show X.env.scope.names.lookup x = some .globalImplicit
    rw [g.hsc]
    exact e
  · cases h
theorem E_var (i : Nat) : SE cf ad fd ps n (.var i) := by
  intro c pe h X g
  cases pe <;> first | (exact nomatch (show false = true from h)) | skip
  rename_i x pos
  have h : varB c i x = true := h
  simp only [varB, Bool.and_eq_true, decide_eq_true_eq, Bool.not_eq_true'] at h
  refine PEimp (pe_var (i := i) (by rw [g.hN]; exact h.1) (by rw [g.hsc]; exact vis_of h.2.1) h.2.2.1 h.2.2.2) fun σ H Q q => ?_
  obtain ⟨da, db, M, ρ, δ, d, δ', p, en, e, r⟩ := q
  simp only [NB.evE] at e
  split at e
  · rename_i d' e'
    cases e
    obtain ⟨v, e1, e2⟩ := en.at_ i d e'
    exact ⟨v, e1, r.now (fun z => nomatch z) p.deal e2⟩
  · cases e
theorem E_glob (s : String) (v : Int) : SE cf ad fd ps n (.glob s v) := by
  intro c pe h X g
  cases pe <;> first | (exact nomatch (show false = true from h)) | skip
  rename_i x pos
  have h : (glB c.sc x && globC x v) = true := h
  simp only [Bool.and_eq_true] at h
  obtain ⟨u, e1, e2⟩ := g.fa.st.gl x v h.2
  obtain ⟨g1, g2, g3⟩ := gl_of g h.1
  refine PEimp (pe_glob g1 e1 e2 g2) fun σ H Q q => ?_
  obtain ⟨da, db, M, ρ, δ, d, δ', p, en, e, r⟩ := q
  simp only [NB.evE] at e
  cases e
  exact r.now (fun z => nomatch z) p.deal (at_int _)
theorem E_int (i : Int) : SE cf ad fd ps n (.int i) := by
  intro c pe h X g
  cases pe <;> first | (exact nomatch (show false = true from h)) | skip
  rename_i k j pos
  cases k <;> first | (exact nomatch (show false = true from h)) | skip
  obtain rfl := of_decide_eq_true h
  refine PEimp pe_int fun σ H Q q => ?_
  obtain ⟨da, db, M, ρ, δ, d, δ', p, en, e, r⟩ := q
  simp only [NB.evE] at e
  cases e
  exact r.now (fun z => nomatch z) p.deal (at_int _)
theorem E_neg (i : Int) : SE cf ad fd ps n (.neg i) := by
  intro c pe h X g
  cases pe <;> first | (exact nomatch (show false = true from h)) | skip
  rename_i op e pos
  cases op <;> first | (exact nomatch (show false = true from h)) | skip
  cases e <;> first | (exact nomatch (show false = true from h)) | skip
  rename_i k j pos
  cases k <;> first | (exact nomatch (show false = true from h)) | skip
  obtain rfl := of_decide_eq_true h
  refine PEimp (pe_un un_neg pe_int) fun σ H Q q => ?_
  obtain ⟨da, db, M, ρ, δ, d, δ', p, en, e, r⟩ := q
  simp only [NB.evE] at e
  cases e
  exact ⟨i, rfl, r.now (fun z => nomatch z) p.deal (at_int _)⟩
theorem E_str (w : NB.Wd) : SE cf ad fd ps n (.str w) := by
  intro c pe h X g
  cases pe <;> first | (exact nomatch (show false = true from h)) | skip
  rename_i k j pos
  cases k <;> first | (exact nomatch (show false = true from h)) | skip
  rename_i x
  have h : (x == wstr w) = true := h
  rw [beq_iff_eq] at h
  subst h
  refine PEimp pe_str fun σ H Q q => ?_
  obtain ⟨da, db, M, ρ, δ, d, δ', p, en, e, r⟩ := q
  simp only [NB.evE] at e
  cases e
  exact r.now (fun z => nomatch z) p.deal (at_str _)
theorem E_bl (b : Bool) : SE cf ad fd ps n (.bl b) := by
  intro c pe h X g
  cases pe <;> first | (exact nomatch (show false = true from h)) | skip
  rename_i k j pos
  cases k <;> first | (exact nomatch (show false = true from h)) | skip
  rename_i x
  have h : (b == x) = true := h
  rw [beq_iff_eq] at h
  subst h
  refine PEimp pe_bl fun σ H Q q => ?_
  obtain ⟨da, db, M, ρ, δ, d, δ', p, en, e, r⟩ := q
  simp only [NB.evE] at e
  cases e
  exact r.now (fun z => nomatch z) p.deal (at_bl _)
theorem E_non : SE cf ad fd ps n .non := by
  intro c pe h X g
  cases pe <;> first | (exact nomatch (show false = true from h)) | skip
  rename_i k j pos
  cases k <;> first | (exact nomatch (show false = true from h)) | skip
  refine PEimp pe_non fun σ H Q q => ?_
  obtain ⟨da, db, M, ρ, δ, d, δ', p, en, e, r⟩ := q
  simp only [NB.evE] at e
  cases e
  exact r.now (fun z => nomatch z) p.deal at_non
theorem E_tup {es : NB.E} (hl : SL cf ad fd ps n es) : SE cf ad fd ps n (.tup es) := by
  intro c pe h X g
  cases pe <;> first | (exact nomatch (show false = true from h)) | skip
  rename_i l k pos
  refine PEimp (pe_tup (hl c l h X g)) fun σ H Q q => ?_
  obtain ⟨da, db, M, ρ, δ, d, δ', p, en, e, r⟩ := q
  rw [NB.evE] at e
  obtain ⟨⟨ds, δ1⟩, e1, e⟩ := bnd e
  refine ⟨da, db, M, ρ, δ, ds, δ1, p, en, e1, fun vs H1 k1 q1 a1 => ?_⟩
  dsimp only at e
  split at e
  · rename_i hz
    cases e
    refine ⟨by rw [a1.length]; exact sl_le hz, fun a ha => ?_⟩
    exact r _ _ (k1.trans (Keep.new ha)) (q1.new ha) (at_newT (p.next k1 q1) ha a1) fun z => nomatch z
  · cases e
theorem E_lst {es : NB.E} (hl : SL cf ad fd ps n es) : SE cf ad fd ps n (.lst es) := by
  intro c pe h X g
  cases pe <;> first | (exact nomatch (show false = true from h)) | skip
  rename_i l pos
  refine PEimp (pe_lst (hl c l h X g)) fun σ H Q q => ?_
  obtain ⟨da, db, M, ρ, δ, d, δ', p, en, e, r⟩ := q
  rw [NB.evE] at e
  obtain ⟨⟨ds, δ1⟩, e1, e⟩ := bnd e
  refine ⟨da, db, M, ρ, δ, ds, δ1, p, en, e1, fun vs H1 k1 q1 a1 => ?_⟩
  dsimp only at e
  split at e
  · rename_i hz
    cases e
    refine ⟨by rw [a1.length]; exact sl_le hz, fun a ha => ?_⟩
    exact r _ _ (k1.trans (Keep.new ha)) (q1.new ha) (at_newL (p.next k1 q1) ha a1) fun _ => ⟨a, rfl, Keep.free q1 k1 ha⟩
  · cases e
theorem noset {pb : Expr} (h : isSet pb = false) (op : CmpOp) : behindInMarks op pb = false := by
  cases pb <;> first | rfl | (cases h)
/-- two in a row -/
theorem two {a b : NB.E} {da db : Addr} {M : Addr → Prop} {H : Hp} {σ : L2.St} {ρ : NB.Env} {δ δ1 δ2 : NB.Dl} {x y : NB.D} {R : V → V → Hp → Prop} (p : Pre da db M H δ) (en : EnvAt da M H σ ρ) (e1 : NB.evE cf a ρ δ = some (x, δ1)) (e2 : NB.evE cf b ρ δ1 = some (y, δ2))
    (k : ∀ v w H2, Keep da db H H2 → Pre da db M H2 δ2 → At da M H2 x v → At da M H2 y w → (NB.isFresh a = true → ∃ p, v = .ref p ∧ H p = none) → R v w H2) : tE cf a σ H fun v H1 => tE cf b σ H1 fun w H2 => R v w H2 :=
  ⟨da, db, M, ρ, δ, x, δ1, p, en, e1, fun v H1 k1 q1 a1 f1 => ⟨da, db, M, ρ, δ1, y, δ2, p.next k1 q1, en.keep p k1, e2, fun w H2 k2 q2 a2 _ =>
    k v w H2 (k1.trans k2) ((p.next k1 q1).next k2 q2) (a1.keep (p.next k1 q1) k2) a2 f1⟩⟩
theorem bin_read {o : NB.Bin} {a b : NB.E} {σ : L2.St} {H : Hp} {Q : VK} {K : PySem.W.Frag} (q : tE cf (.bin o a b) σ H Q) : tOp (rOf K o) (tE cf a) (tE cf b) σ H Q := by
  obtain ⟨da, db, M, ρ, δ, d, δ', p, en, e, r⟩ := q
  rw [NB.evE] at e
  obtain ⟨⟨x, δ1⟩, e1, e⟩ := bnd e
  obtain ⟨⟨y, δ2⟩, e2, e⟩ := bnd e
  obtain ⟨z, e3, e⟩ := bnd e
  cases e
  refine two p en e1 e2 fun v w H2 k p2 a1 a2 f1 => ?_
  refine read_bin o e3 p2 a1 a2 (r.on k p2.deal ?_)
  intro hf
  cases o <;> first | (exact nomatch (show false = true from hf)) | skip
  refine ⟨rfl, ?_⟩
  cases a <;> first | (exact nomatch (show false = true from hf)) | skip
  rw [NB.evE] at e1
  obtain ⟨⟨ds, δ3⟩, e4, e1⟩ := bnd e1
  dsimp only at e1
  split at e1
  · cases e1; exact ⟨_, rfl⟩
  · cases e1
theorem E_bin {o : NB.Bin} {a b : NB.E} (ha : SE cf ad fd ps n a) (hb : SE cf ad fd ps n b) : SE cf ad fd ps n (.bin o a b) := by
  intro c pe h X g
  cases pe <;> first | (exact nomatch (show false = true from h)) | skip
  · rename_i pa op pb pos
    have h : (opAB o op && (okE c a pa && okE c b pb)) = true := h
    simp only [Bool.and_eq_true] at h
    exact PEimp (pe_op (or_arith (opAB_eq h.1)) (ha c pa h.2.1 X g) (hb c pb h.2.2 X g)) fun σ H Q q => bin_read q
  · rename_i pa ops pbs pos
    rcases ops with _ | ⟨op, _ | ⟨_, _⟩⟩ <;> first | (exact nomatch (show false = true from h)) | skip
    rcases pbs with _ | ⟨pb, _ | ⟨_, _⟩⟩ <;> first | (exact nomatch (show false = true from h)) | skip
    have h : (opCB o op && (!isSet pb && (okE c a pa && okE c b pb))) = true := h
    simp only [Bool.and_eq_true, Bool.not_eq_true'] at h
    exact PEimp (pe_cmpR (or_cmp g.room.units (opCB_eq h.1)) (ha c pa h.2.2.1 X g) (hb c pb h.2.2.2 X g) (noset h.2.1 op)) fun σ H Q q => bin_read q
theorem int_eq {d : NB.D} {i : Int} (e : NB.intOf d = some i) : d = .int i := intOf_eq e
theorem chain_read {a b d : NB.E} {σ : L2.St} {H : Hp} {Q : VK} {K : PySem.W.Frag} (q : tE cf (.chain a b d) σ H Q) : tChain (rOf K .le) (rOf K .le) (tE cf a) (tE cf b) (tE cf d) σ H Q := by
  obtain ⟨da, db, M, ρ, δ, r0, δ', p, en, e, r⟩ := q
  rw [NB.evE] at e
  obtain ⟨⟨x, δ1⟩, e1, e⟩ := bnd e
  obtain ⟨⟨y, δ2⟩, e2, e⟩ := bnd e
  obtain ⟨i, e3, e⟩ := bnd e
  obtain ⟨j, e4, f⟩ := bnd e
  obtain rfl := intOf_eq e3
  obtain rfl := intOf_eq e4
  refine two p en e1 e2 fun v w H2 k p2 a1 a2 _ => ?_
  obtain rfl := a1.int
  obtain rfl := a2.int
  refine ⟨i, j, rfl, rfl, decide (i ≤ j), rfl, ?_⟩
  dsimp only at f
  by_cases hij : i ≤ j
  · rw [if_pos hij] at f
    obtain ⟨⟨z, δ3⟩, e5, f⟩ := bnd f
    obtain ⟨l, e6, f1⟩ := bnd f
    obtain rfl := intOf_eq e6
    cases f1
    rw [decide_eq_true hij, if_pos rfl]
    refine ⟨da, db, M, ρ, δ2, _, _, p2, en.keep p k, e5, fun u H3 k3 q3 a3 _ => ?_⟩
    obtain rfl := a3.int
    exact ⟨j, l, rfl, rfl, (r.on (k.trans k3) q3 id).now (fun z => nomatch z) q3 (at_bl _)⟩
  · rw [if_neg hij] at f
    cases f
    rw [decide_eq_false hij, if_neg (by decide)]
    exact (r.on k p2.deal id).now (fun z => nomatch z) p2.deal (at_bl _)
theorem le_op {X : Cx} : OpR X (compareOp .LtE) (rOf X.K .le) := op_le
theorem noset2 {pb pd : Expr} (h : isSet pd = false) (o1 o2 : CmpOp) : lastMarks [o1, o2] [pb, pd] = false := by
  show behindInMarks o2 pd = false
  exact noset h o2
theorem E_chain {a b d : NB.E} (ha : SE cf ad fd ps n a) (hb : SE cf ad fd ps n b) (hd : SE cf ad fd ps n d) : SE cf ad fd ps n (.chain a b d) := by
  intro c pe h X g
  cases pe <;> first | (exact nomatch (show false = true from h)) | skip
  rename_i pa ops pbs pos
  rcases ops with _ | ⟨op, _ | ⟨op2, _ | ⟨_, _⟩⟩⟩ <;> first | (exact nomatch (show false = true from h)) | skip
  · cases op <;> first | (exact nomatch (show false = true from h)) | skip
  · cases op <;> first | (exact nomatch (show false = true from h)) | skip
    cases op2 <;> first | (exact nomatch (show false = true from h)) | skip
    rcases pbs with _ | ⟨pb, _ | ⟨pd, _ | ⟨_, _⟩⟩⟩ <;> first | (exact nomatch (show false = true from h)) | skip
    have h : (!isSet pd && (okE c a pa && (okE c b pb && okE c d pd))) = true := h
    simp only [Bool.and_eq_true, Bool.not_eq_true'] at h
    exact PEimp (pe_chain le_op le_op (ha c pa h.2.1 X g) (hb c pb h.2.2.1 X g) (hd c pd h.2.2.2 X g) (noset2 h.1 _ _)) fun σ H Q q => chain_read q
  · cases op <;> first | (exact nomatch (show false = true from h)) | skip
    cases op2 <;> first | (exact nomatch (show false = true from h)) | skip
theorem P_chain {a b d : NB.E} (ha : SE cf ad fd ps n a) (hb : SE cf ad fd ps n b) (hd : SE cf ad fd ps n d) : SP cf ad fd ps n (.chain a b d) := by
  intro c pe h _ X g
  cases pe <;> first | (exact nomatch (show false = true from h)) | skip
  rename_i pa ops pbs pos
  rcases ops with _ | ⟨op, _ | ⟨op2, _ | ⟨_, _⟩⟩⟩ <;> first | (exact nomatch (show false = true from h)) | skip
  · cases op <;> first | (exact nomatch (show false = true from h)) | skip
  · cases op <;> first | (exact nomatch (show false = true from h)) | skip
    cases op2 <;> first | (exact nomatch (show false = true from h)) | skip
    rcases pbs with _ | ⟨pb, _ | ⟨pd, _ | ⟨_, _⟩⟩⟩ <;> first | (exact nomatch (show false = true from h)) | skip
    have h : (!isSet pd && (okE c a pa && (okE c b pb && okE c d pd))) = true := h
    simp only [Bool.and_eq_true, Bool.not_eq_true'] at h
    refine PTimp (pt_chain le_op le_op (ha c pa h.2.1 X g) (hb c pb h.2.2.1 X g) (hd c pd h.2.2.2 X g) (noset2 h.1 _ _)) fun σ H Q q => ?_
    obtain ⟨da, db, M, ρ, δ, r0, δ', p, en, e, r⟩ := q
    refine chain_read ⟨da, db, M, ρ, δ, _, δ', p, en, e, fun v H' k q' a' _ => ⟨r0, a'.bl, r H' k q'⟩⟩
  · cases op <;> first | (exact nomatch (show false = true from h)) | skip
    cases op2 <;> first | (exact nomatch (show false = true from h)) | skip
theorem P_bin {o : NB.Bin} {a b : NB.E} (ha : SE cf ad fd ps n a) (hb : SE cf ad fd ps n b) : SP cf ad fd ps n (.bin o a b) := by
  intro c pe h _ X g
  cases pe <;> first | (exact nomatch (show false = true from h)) | skip
  · rename_i pa op pb pos
    refine PTimp (pt_val (E_bin ha hb c _ h X g) (fun _ => by with_unfolding_all rfl)) fun σ H Q q => ?_
    obtain ⟨da, db, M, ρ, δ, r0, δ', p, en, e, r⟩ := q
    exact ⟨da, db, M, ρ, δ, _, δ', p, en, e, fun v H' k q' a' _ => ⟨r0, a'.bl, r H' k q'⟩⟩
  · rename_i pa ops pbs pos
    rcases ops with _ | ⟨op, _ | ⟨_, _⟩⟩ <;> first | (exact nomatch (show false = true from h)) | skip
    rcases pbs with _ | ⟨pb, _ | ⟨_, _⟩⟩ <;> first | (exact nomatch (show false = true from h)) | skip
    have h : (opCB o op && (!isSet pb && (okE c a pa && okE c b pb))) = true := h
    simp only [Bool.and_eq_true, Bool.not_eq_true'] at h
    refine PTimp (pt_cmpR (or_cmp g.room.units (opCB_eq h.1)) (ha c pa h.2.2.1 X g) (hb c pb h.2.2.2 X g) (noset h.2.1 op)) fun σ H Q q => ?_
    obtain ⟨da, db, M, ρ, δ, r0, δ', p, en, e, r⟩ := q
    exact bin_read ⟨da, db, M, ρ, δ, _, δ', p, en, e, fun v H' k q' a' _ => ⟨r0, a'.bl, r H' k q'⟩⟩
theorem E_and {a b : NB.E} (ha : SE cf ad fd ps n a) (hb : SE cf ad fd ps n b) : SE cf ad fd ps n (.and a b) := by
  intro c pe h X g
  cases pe <;> first | (exact nomatch (show false = true from h)) | skip
  rename_i op es pos
  cases op <;> first | (exact nomatch (show false = true from h)) | skip
  rcases es with _ | ⟨pa, _ | ⟨pb, rest⟩⟩ <;> first | (exact nomatch (show false = true from h)) | skip
  have h : (okE c a pa && okE c b (.BoolOp .And (pb :: rest) pos)) = true := h
  simp only [Bool.and_eq_true] at h
  refine PEimp (pe_and (ha c pa h.1 X g) (hb c _ h.2 X g)) fun σ H Q q => ?_
  obtain ⟨da, db, M, ρ, δ, d, δ', p, en, e, r⟩ := q
  rw [NB.evE] at e
  obtain ⟨⟨x, δ1⟩, e1, e⟩ := bnd e
  obtain ⟨t, e2, e5⟩ := bnd e
  obtain rfl := blOf_eq e2
  refine ⟨da, db, M, ρ, δ, _, δ1, p, en, e1, fun v H1 k1 q1 a1 _ => ⟨t, a1.bl, ?_⟩⟩
  cases t with
  | true => exact ⟨da, db, M, ρ, δ1, d, δ', p.next k1 q1, en.keep p k1, e5, r.on k1 q1 (fun z => nomatch z)⟩
  | false => cases e5; exact (r.on k1 q1 id).now (fun z => nomatch z) q1 (at_bl _)
theorem E_or {a b : NB.E} (ha : SE cf ad fd ps n a) (hb : SE cf ad fd ps n b) : SE cf ad fd ps n (.or a b) := by
  intro c pe h X g
  cases pe <;> first | (exact nomatch (show false = true from h)) | skip
  rename_i op es pos
  cases op <;> first | (exact nomatch (show false = true from h)) | skip
  rcases es with _ | ⟨pa, _ | ⟨pb, rest⟩⟩ <;> first | (exact nomatch (show false = true from h)) | skip
  have h : (okE c a pa && okE c b (.BoolOp .Or (pb :: rest) pos)) = true := h
  simp only [Bool.and_eq_true] at h
  refine PEimp (pe_or (ha c pa h.1 X g) (hb c _ h.2 X g)) fun σ H Q q => ?_
  obtain ⟨da, db, M, ρ, δ, d, δ', p, en, e, r⟩ := q
  rw [NB.evE] at e
  obtain ⟨⟨x, δ1⟩, e1, e⟩ := bnd e
  obtain ⟨t, e2, e5⟩ := bnd e
  obtain rfl := blOf_eq e2
  refine ⟨da, db, M, ρ, δ, _, δ1, p, en, e1, fun v H1 k1 q1 a1 _ => ⟨t, a1.bl, ?_⟩⟩
  cases t with
  | false => exact ⟨da, db, M, ρ, δ1, d, δ', p.next k1 q1, en.keep p k1, e5, r.on k1 q1 (fun z => nomatch z)⟩
  | true => cases e5; exact (r.on k1 q1 id).now (fun z => nomatch z) q1 (at_bl _)
theorem P_and {a b : NB.E} (ha : SP cf ad fd ps n a) (hb : ∀ c pe, okE c b pe = true → tst b = true → (∃ es pos, pe = .BoolOp .And es pos) → ∀ X, Gd cf ad fd ps n c X → PW X pe (tTt cf b)) :
    ∀ c pe, okE c (.and a b) pe = true → tst (.and a b) = true → ∀ X, Gd cf ad fd ps n c X → PW X pe (tTt cf (.and a b)) := by
  intro c pe h ht X g
  cases pe <;> first | (exact nomatch (show false = true from h)) | skip
  rename_i op es pos
  cases op <;> first | (exact nomatch (show false = true from h)) | skip
  rcases es with _ | ⟨pa, _ | ⟨pb, rest⟩⟩ <;> first | (exact nomatch (show false = true from h)) | skip
  have h : (okE c a pa && okE c b (.BoolOp .And (pb :: rest) pos)) = true := h
  have ht : (tst a && tst b) = true := ht
  simp only [Bool.and_eq_true] at h ht
  refine PWimp (pw_and (ha c pa h.1 ht.1 X g) (hb c _ h.2 ht.2 ⟨_, _, rfl⟩ X g)) fun σ H Q q => ?_
  obtain ⟨da, db, M, ρ, δ, d, δ', p, en, e, r⟩ := q
  rw [NB.evE] at e
  obtain ⟨⟨x, δ1⟩, e1, e⟩ := bnd e
  obtain ⟨t, e2, e5⟩ := bnd e
  obtain rfl := blOf_eq e2
  refine ⟨da, db, M, ρ, δ, _, δ1, p, en, e1, fun H1 k1 q1 => ?_⟩
  cases t with
  | true => exact ⟨da, db, M, ρ, δ1, d, δ', p.next k1 q1, en.keep p k1, e5, fun H2 k2 q2 => r H2 (k1.trans k2) q2⟩
  | false => cases e5; exact r H1 k1 q1
theorem P_or {a b : NB.E} (ha : SP cf ad fd ps n a) (hb : ∀ c pe, okE c b pe = true → tst b = true → (∃ es pos, pe = .BoolOp .Or es pos) → ∀ X, Gd cf ad fd ps n c X → PW X pe (tTt cf b)) :
    ∀ c pe, okE c (.or a b) pe = true → tst (.or a b) = true → ∀ X, Gd cf ad fd ps n c X → PW X pe (tTt cf (.or a b)) := by
  intro c pe h ht X g
  cases pe <;> first | (exact nomatch (show false = true from h)) | skip
  rename_i op es pos
  cases op <;> first | (exact nomatch (show false = true from h)) | skip
  rcases es with _ | ⟨pa, _ | ⟨pb, rest⟩⟩ <;> first | (exact nomatch (show false = true from h)) | skip
  have h : (okE c a pa && okE c b (.BoolOp .Or (pb :: rest) pos)) = true := h
  have ht : (tst a && tst b) = true := ht
  simp only [Bool.and_eq_true] at h ht
  refine PWimp (pw_or (ha c pa h.1 ht.1 X g) (hb c _ h.2 ht.2 ⟨_, _, rfl⟩ X g)) fun σ H Q q => ?_
  obtain ⟨da, db, M, ρ, δ, d, δ', p, en, e, r⟩ := q
  rw [NB.evE] at e
  obtain ⟨⟨x, δ1⟩, e1, e⟩ := bnd e
  obtain ⟨t, e2, e5⟩ := bnd e
  obtain rfl := blOf_eq e2
  refine ⟨da, db, M, ρ, δ, _, δ1, p, en, e1, fun H1 k1 q1 => ?_⟩
  cases t with
  | false => exact ⟨da, db, M, ρ, δ1, d, δ', p.next k1 q1, en.keep p k1, e5, fun H2 k2 q2 => r H2 (k1.trans k2) q2⟩
  | true => cases e5; exact r H1 k1 q1
theorem E_one {a : NB.E} (ha : SE cf ad fd ps n a) : SE cf ad fd ps n (.one a) := by
  intro c pe h X g
  cases pe <;> first | (exact nomatch (show false = true from h)) | skip
  rename_i op es pos
  rcases es with _ | ⟨pa, _ | ⟨pb, rest⟩⟩ <;> first | (exact nomatch (show false = true from h)) | skip
  refine PEimp (pe_one (ha c pa h X g)) fun σ H Q q => ?_
  obtain ⟨da, db, M, ρ, δ, d, δ', p, en, e, r⟩ := q
  rw [NB.evE] at e
  exact ⟨da, db, M, ρ, δ, d, δ', p, en, e, fun v H' k' q' a' f' => r v H' k' q' a' fun z => nomatch z⟩
theorem P_one {a : NB.E} (ha : SP cf ad fd ps n a) : ∀ c pe, okE c (.one a) pe = true → tst (.one a) = true → ∀ X, Gd cf ad fd ps n c X → PW X pe (tTt cf (.one a)) := by
  intro c pe h ht X g
  cases pe <;> first | (exact nomatch (show false = true from h)) | skip
  rename_i op es pos
  rcases es with _ | ⟨pa, _ | ⟨pb, rest⟩⟩ <;> first | (exact nomatch (show false = true from h)) | skip
  cases op with
  | And =>
    refine PWimp (pw_and1 (ha c pa h ht X g)) fun σ H Q q => ?_
    obtain ⟨da, db, M, ρ, δ, d, δ', p, en, e, r⟩ := q
    rw [NB.evE] at e
    exact ⟨da, db, M, ρ, δ, d, δ', p, en, e, r⟩
  | Or =>
    refine PWimp (pw_or1 (ha c pa h ht X g)) fun σ H Q q => ?_
    obtain ⟨da, db, M, ρ, δ, d, δ', p, en, e, r⟩ := q
    rw [NB.evE] at e
    exact ⟨da, db, M, ρ, δ, d, δ', p, en, e, r⟩
theorem E_not {a : NB.E} (ha : SE cf ad fd ps n a) : SE cf ad fd ps n (.not a) := by
  intro c pe h X g
  cases pe <;> first | (exact nomatch (show false = true from h)) | skip
  rename_i op pa pos
  cases op <;> first | (exact nomatch (show false = true from h)) | skip
  refine PEimp (pe_not (ha c pa h X g)) fun σ H Q q => ?_
  obtain ⟨da, db, M, ρ, δ, d, δ', p, en, e, r⟩ := q
  rw [NB.evE] at e
  obtain ⟨⟨x, δ1⟩, e1, e⟩ := bnd e
  obtain ⟨t, e2, e5⟩ := bnd e
  obtain rfl := blOf_eq e2
  cases e5
  exact ⟨da, db, M, ρ, δ, _, _, p, en, e1, fun v H1 k1 q1 a1 _ => ⟨t, a1.bl, (r.on k1 q1 id).now (fun z => nomatch z) q1 (at_bl _)⟩⟩
theorem P_not {a : NB.E} (ha : SP cf ad fd ps n a) : SP cf ad fd ps n (.not a) := by
  intro c pe h ht X g
  cases pe <;> first | (exact nomatch (show false = true from h)) | skip
  rename_i op pa pos
  cases op <;> first | (exact nomatch (show false = true from h)) | skip
  refine PTimp (pt_not (ha c pa h ht X g)) fun σ H Q q => ?_
  obtain ⟨da, db, M, ρ, δ, d, δ', p, en, e, r⟩ := q
  rw [NB.evE] at e
  obtain ⟨⟨x, δ1⟩, e1, e⟩ := bnd e
  obtain ⟨t, e2, e5⟩ := bnd e
  obtain rfl := blOf_eq e2
  cases e5
  exact ⟨da, db, M, ρ, δ, _, _, p, en, e1, fun H1 k1 q1 => r H1 k1 q1⟩
theorem E_ite {t a b : NB.E} (ht : SP cf ad fd ps n t) (ha : SE cf ad fd ps n a) (hb : SE cf ad fd ps n b) : SE cf ad fd ps n (.ite t a b) := by
  intro c pe h X g
  cases pe <;> first | (exact nomatch (show false = true from h)) | skip
  rename_i pt pa pb pos
  have h : ((tst t && okE c t pt) && (okE c a pa && okE c b pb)) = true := h
  simp only [Bool.and_eq_true] at h
  refine PEimp (pe_ifExp (ht c pt h.1.2 h.1.1 X g) (ha c pa h.2.1 X g) (hb c pb h.2.2 X g)) fun σ H Q q => ?_
  obtain ⟨da, db, M, ρ, δ, d, δ', p, en, e, r⟩ := q
  rw [NB.evE] at e
  obtain ⟨⟨x, δ1⟩, e1, e⟩ := bnd e
  obtain ⟨t, e2, e5⟩ := bnd e
  obtain rfl := blOf_eq e2
  refine ⟨da, db, M, ρ, δ, _, δ1, p, en, e1, fun H1 k1 q1 => ?_⟩
  cases t with
  | true => exact ⟨da, db, M, ρ, δ1, d, δ', p.next k1 q1, en.keep p k1, e5, r.on k1 q1 (fun z => nomatch z)⟩
  | false => exact ⟨da, db, M, ρ, δ1, d, δ', p.next k1 q1, en.keep p k1, e5, r.on k1 q1 (fun z => nomatch z)⟩
theorem plain_ix {pi : Expr} (h : isSlice pi = false) : PlainIx pi := by
  intro o i
  cases pi <;> first | rfl | (cases h)
theorem E_ix {a b : NB.E} (ha : SE cf ad fd ps n a) (hb : SE cf ad fd ps n b) : SE cf ad fd ps n (.ix a b) := by
  intro c pe h X g
  cases pe <;> first | (exact nomatch (show false = true from h)) | skip
  rename_i pa pi pos
  have h : (!isSlice pi && (okE c a pa && okE c b pi)) = true := by
    cases pi <;> first | exact h | skip
  simp only [Bool.and_eq_true, Bool.not_eq_true'] at h
  refine PEimp (pe_ix ix_seq (ha c pa h.2.1 X g) (hb c pi h.2.2 X g) (plain_ix h.1)) fun σ H Q q => ?_
  obtain ⟨da, db, M, ρ, δ, d, δ', p, en, e, r⟩ := q
  rw [NB.evE] at e
  obtain ⟨⟨x, δ1⟩, e1, e⟩ := bnd e
  obtain ⟨⟨y, δ2⟩, e2, e⟩ := bnd e
  obtain ⟨z, e3, e⟩ := bnd e
  cases e
  exact two p en e1 e2 fun v w H2 k p2 a1 a2 f1 => read_ix e3 p2 a1 a2 (r.on k p2.deal (fun z => nomatch z))
theorem E_sl {a lo hi : NB.E} (ha : SE cf ad fd ps n a) (hlo : SO cf ad fd ps n lo) (hhi : SO cf ad fd ps n hi) : SE cf ad fd ps n (.sl a lo hi) := by
  intro c pe h X g
  cases pe <;> first | (exact nomatch (show false = true from h)) | skip
  rename_i pa pi pos
  cases pi <;> first | (exact nomatch (show false = true from h)) | skip
  rename_i plo phi step p2
  cases step <;> first | (exact nomatch (show false = true from h)) | skip
  have h : (okE c a pa && (okO c lo plo && okO c hi phi)) = true := h
  simp only [Bool.and_eq_true] at h
  refine PEimp (pe_slice sl_any (ha c pa h.1 X g) (hlo c plo h.2.1 X g) (hhi c phi h.2.2 X g)) fun σ H Q q => ?_
  obtain ⟨da, db, M, ρ, δ, d, δ', p, en, e, r⟩ := q
  rw [NB.evE] at e
  obtain ⟨⟨x, δ1⟩, e1, e⟩ := bnd e
  obtain ⟨⟨l, δ2⟩, e2, e⟩ := bnd e
  obtain ⟨⟨u, δ3⟩, e3, e⟩ := bnd e
  obtain ⟨z, e4, e⟩ := bnd e
  cases e
  refine ⟨da, db, M, ρ, δ, x, δ1, p, en, e1, fun v H1 k1 q1 a1 _ => ⟨da, db, M, ρ, δ1, l, δ2, p.next k1 q1, en.keep p k1, e2, fun H2 k2 q2 => ?_⟩⟩
  refine ⟨da, db, M, ρ, δ2, u, _, (p.next k1 q1).next k2 q2, (en.keep p k1).keep (p.next k1 q1) k2, e3, fun H3 k3 q3 => ?_⟩
  exact read_sl e4 (((p.next k1 q1).next k2 q2).next k3 q3) ((a1.keep (p.next k1 q1) k2).keep ((p.next k1 q1).next k2 q2) k3) (r.on ((k1.trans k2).trans k3) q3 (fun z => nomatch z))
theorem O_of {a : NB.E} (ha : SE cf ad fd ps n a) : SO cf ad fd ps n (.one a) := by
  intro c pe h X g
  cases pe <;> first | (exact nomatch (show false = true from h)) | skip
  rename_i pa
  refine POimp (po_some (ha c pa h X g)) fun σ H Q q => ?_
  obtain ⟨da, db, M, ρ, δ, d, δ', p, en, e, r⟩ := q
  rw [NB.evO] at e
  obtain ⟨⟨x, δ1⟩, e1, e⟩ := bnd e
  obtain ⟨i, e2, e5⟩ := bnd e
  obtain rfl := intOf_eq e2
  cases e5
  exact ⟨da, db, M, ρ, δ, _, _, p, en, e1, fun v H1 k1 q1 a1 _ => ⟨i, a1.int, r H1 k1 q1⟩⟩
theorem O_no : SO cf ad fd ps n .nop := by
  intro c pe h X g
  cases pe <;> first | (exact nomatch (show false = true from h)) | skip
  refine POimp po_none fun σ H Q q => ?_
  obtain ⟨da, db, M, ρ, δ, d, δ', p, en, e, r⟩ := q
  rw [NB.evO] at e
  cases e
  exact r H (Keep.refl _ _ _) p.deal
theorem T_of {a : NB.E} (ha : SP cf ad fd ps n a) : STs cf ad fd ps n (.one a) := by
  intro c pe h X g
  rcases pe with _ | ⟨pa, _ | ⟨_, _⟩⟩ <;> first | (exact nomatch (show false = true from h)) | skip
  have h : (okE c a pa && tst a) = true := h
  simp only [Bool.and_eq_true] at h
  refine PTsimp (pts_one (ha c pa h.1 h.2 X g)) fun σ H Q q => ?_
  obtain ⟨da, db, M, ρ, δ, d, δ', p, en, e, r⟩ := q
  rw [NB.evT] at e
  obtain ⟨⟨x, δ1⟩, e1, e⟩ := bnd e
  obtain ⟨i, e2, e5⟩ := bnd e
  obtain rfl := blOf_eq e2
  cases e5
  exact ⟨da, db, M, ρ, δ, _, _, p, en, e1, fun H1 k1 q1 => r H1 k1 q1⟩
theorem T_no : STs cf ad fd ps n .nop := by
  intro c pe h X g
  rcases pe with _ | ⟨pa, _ | ⟨_, _⟩⟩ <;> first | (exact nomatch (show false = true from h)) | skip
  refine PTsimp pts_nil fun σ H Q q => ?_
  obtain ⟨da, db, M, ρ, δ, d, δ', p, en, e, r⟩ := q
  rw [NB.evT] at e
  cases e
  exact r H (Keep.refl _ _ _) p.deal
theorem star_plain {p : Expr} {es : List Expr} {env : Env} (h : isStar p = false) : starEach (p :: es) env = (false, eval p env) :: starEach es env := by
  cases p <;> first | (with_unfolding_all rfl) | (cases h)
theorem stars_plain {env : Env} {pos : Pos} : ∀ {es : List Expr}, es.any isStar = false → (backTo pos (starEach es env)).any (·.1) = false
  | [], _ => rfl
  | p :: es, h => by
    simp only [List.any_cons, Bool.or_eq_false_iff] at h
    rw [star_plain h.1]
    show (false || (backTo pos (starEach es env)).any (·.1)) = false
    rw [stars_plain h.2]
    rfl
theorem L_nil : SL cf ad fd ps n .nil := by
  intro c pe h X g
  cases pe <;> first | (exact nomatch (show false = true from h)) | skip
  refine PAimp pa_nil fun σ H Q q => ?_
  obtain ⟨da, db, M, ρ, δ, d, δ', p, en, e, r⟩ := q
  rw [NB.evL] at e
  cases e
  exact r [] H (Keep.refl _ _ _) p.deal Ats.nil
theorem L_cons {a r : NB.E} (ha : SE cf ad fd ps n a) (hr : SL cf ad fd ps n r) : SL cf ad fd ps n (.cons a r) := by
  intro c pe h X g
  cases pe <;> first | (exact nomatch (show false = true from h)) | skip
  rename_i p es
  have h : (!isStar p && (okE c a p && okL c r es)) = true := h
  simp only [Bool.and_eq_true, Bool.not_eq_true'] at h
  refine PAimp (pa_cons (ha c p h.2.1 X g) (hr c es h.2.2 X g) (star_plain h.1)) fun σ H Q q => ?_
  obtain ⟨da, db, M, ρ, δ, d, δ', p, en, e, r⟩ := q
  rw [NB.evL] at e
  obtain ⟨⟨x, δ1⟩, e1, e⟩ := bnd e
  obtain ⟨⟨xs, δ2⟩, e2, e⟩ := bnd e
  cases e
  exact ⟨da, db, M, ρ, δ, x, δ1, p, en, e1, fun v H1 k1 q1 a1 _ => ⟨da, db, M, ρ, δ1, xs, _, p.next k1 q1, en.keep p k1, e2, fun vs H2 k2 q2 a2 =>
    r _ H2 (k1.trans k2) q2 (Ats.cons (a1.keep (p.next k1 q1) k2) a2)⟩⟩
theorem L_star {a r : NB.E} (ha : SE cf ad fd ps n a) (hr : SL cf ad fd ps n r) : SL cf ad fd ps n (.star a r) := by
  intro c pe h X g
  cases pe <;> first | (exact nomatch (show false = true from h)) | skip
  rename_i p es
  cases p <;> first | (exact nomatch (show false = true from h)) | skip
  rename_i p pos
  have h : (okE c a p && okL c r es) = true := h
  simp only [Bool.and_eq_true] at h
  refine PAimp (StX.pa_star (ha c p h.1 X g) (hr c es h.2 X g) (by with_unfolding_all rfl)) fun σ H Q q => ?_
  obtain ⟨da, db, M, ρ, δ, d, δ', p, en, e, r⟩ := q
  rw [NB.evL] at e
  obtain ⟨⟨x, δ1⟩, e1, e⟩ := bnd e
  obtain ⟨ys, e3, e⟩ := bnd e
  obtain ⟨⟨xs, δ2⟩, e2, e⟩ := bnd e
  cases e
  refine ⟨da, db, M, ρ, δ, x, δ1, p, en, e1, fun v H1 k1 q1 a1 _ => ?_⟩
  obtain ⟨k, b, us, rfl, nb, hb, hs, ra⟩ := a1.seq (K := X.K) e3
  refine ⟨b, us, rfl, ?_, da, db, M, ρ, δ1, xs, _, p.next k1 q1, en.keep p k1, e2, fun vs H2 k2 q2 a2 => r _ H2 (k1.trans k2) q2 (Ats.append (ra.keep (p.next k1 q1) k2) a2)⟩
  cases k with
  | true => exact .inr hs
  | false => exact .inl hs
theorem E_isi {a : NB.E} {T : NB.Ty} (ha : SE cf ad fd ps n a) : SE cf ad fd ps n (.isi a T) := by
  intro c pe h X g
  cases pe <;> first | (exact nomatch (show false = true from h)) | skip
  rename_i f es kws pos
  cases f <;> first | (exact nomatch (show false = true from h)) | skip
  rename_i x px
  rcases es with _ | ⟨pa, _ | ⟨pt, _ | ⟨_, _⟩⟩⟩ <;> first | (exact nomatch (show false = true from h)) | skip
  · cases pt <;> first | (exact nomatch (show false = true from h)) | skip
    rename_i t pt
    cases kws <;> first | (exact nomatch (show false = true from h)) | skip
    have h : ((x == ("isinstance" : Str) && glB c.sc x) && ((t == Str.ofString (pyT T) && glB c.sc t) && (!isStar pa && okE c a pa))) = true := h
    simp only [Bool.and_eq_true, Bool.not_eq_true', beq_iff_eq] at h
    obtain ⟨⟨rfl, g1⟩, ⟨rfl, g2⟩, h1, h2⟩ := h
    obtain ⟨g1, d1, m1⟩ := gl_of g g1
    obtain ⟨g2, d2, m2⟩ := gl_of g g2
    refine PEimp (pe_callB call_isi g1 g.fa.st.isi PyProof.Rows.boot_isinstance (pa_cons (ha c pa h2 X g) (pa_cons (pe_bltn (v := .ty (pyT T)) g2 (g.fa.st.ty T) (boot_T T) rfl m2 d2) pa_nil (by with_unfolding_all rfl)) (star_plain h1)) m1 d1 (star_plain h1) (by with_unfolding_all rfl)) fun σ H Q q => ?_
    obtain ⟨da, db, M, ρ, δ, d, δ', p, en, e, r⟩ := q
    rw [NB.evE] at e
    obtain ⟨⟨x, δ1⟩, e1, e⟩ := bnd e
    obtain ⟨b, e2, e⟩ := bnd e
    cases e
    refine ⟨da, db, M, ρ, δ, x, _, p, en, e1, fun v H1 k1 q1 a1 _ => ?_⟩
    exact read_isi e2 (p.next k1 q1) a1 ((r.on k1 q1 id).now (fun z => nomatch z) q1 (at_bl _))
  · cases pt <;> first | (exact nomatch (show false = true from h)) | skip
theorem isTy_or (b : NB.B) : isTy b = true ∨ isTy b = false := by cases b <;> simp [isTy]
theorem E_fn {b : NB.B} {es : NB.E} (hl : SL cf ad fd ps n es) : SE cf ad fd ps n (.fn b es) := by
  intro c pe h X g
  cases pe <;> first | (exact nomatch (show false = true from h)) | skip
  rename_i f ps' kws pos
  cases f <;> first | (exact nomatch (show false = true from h)) | skip
  rename_i x px
  rcases ps' with _ | ⟨p, ps'⟩ <;> first | (exact nomatch (show false = true from h)) | skip
  cases kws <;> first | (exact nomatch (show false = true from h)) | skip
  have h : ((x == Str.ofString (pyB b) && glB c.sc x) && ((c.g || !decide (b = .repr)) && (!isStar p && (!(ps'.any isStar) && okL c es (p :: ps'))))) = true := h
  simp only [Bool.and_eq_true, Bool.not_eq_true', beq_iff_eq, Bool.or_eq_true, decide_eq_false_iff_not] at h
  obtain ⟨⟨rfl, g1⟩, h0, h1, h2, h3⟩ := h
  obtain ⟨g1, d1, m1⟩ := gl_of g g1
  have rd : ∀ σ H Q, tE cf (.fn b es) σ H Q → tCB (rFn X.K b) (tLl cf es) σ H Q := fun σ H Q q => by
    obtain ⟨da, db, M, ρ, δ, d, δ', p, en, e, r⟩ := q
    rw [NB.evE] at e
    obtain ⟨⟨x, δ1⟩, e1, e⟩ := bnd e
    obtain ⟨b', e2, e⟩ := bnd e
    cases e
    refine ⟨da, db, M, ρ, δ, x, _, p, en, e1, fun vs H1 k1 q1 a1 => ?_⟩
    refine read_fn b e2 (p.next k1 q1) a1 (r.on k1 q1 fun z => ?_)
    cases b <;> first | rfl | (exact nomatch (show false = true from z))
  rcases isTy_or b with t | t
  · exact PEimp (pe_callTy (cr_ty b t) g1 (g.fa.st.bl b) (boot_ty b t) (hl c _ h3 X g) m1 d1 (star_plain h1) (stars_plain h2)) rd
  · exact PEimp (pe_callB (cr_fn g.calm g.room.units b (fun e => g.gu (h0.resolve_right fun z => z e)) t) g1 (g.fa.st.bl b) (boot_fn b t) (hl c _ h3 X g) m1 d1 (star_plain h1) (stars_plain h2)) rd
theorem E_call {f : NB.F} {es : NB.E} (hl : SL cf ad fd ps n es) : SE cf ad fd ps n (.call f es) := by
  intro c pe h X g
  cases pe <;> first | (exact nomatch (show false = true from h)) | skip
  rename_i fe ps' kws pos
  cases fe <;> first | (exact nomatch (show false = true from h)) | skip
  rename_i x px
  rcases ps' with _ | ⟨p, ps'⟩ <;> first | (exact nomatch (show false = true from h)) | skip
  cases kws <;> first | (exact nomatch (show false = true from h)) | skip
  have h : ((x == pyS f && glB c.sc x) && (!isStar p && (!(ps'.any isStar) && okL c es (p :: ps')))) = true := h
  simp only [Bool.and_eq_true, Bool.not_eq_true', beq_iff_eq] at h
  obtain ⟨⟨rfl, g1⟩, h1, h2, h3⟩ := h
  obtain ⟨g1, d1, m1⟩ := gl_of g g1
  refine PEimp (pe_call (E := E0) (g.fa.fn f) g.room g1 (g.fa.st.mgf f) (g.fa.st.kp f) (g.fa.st.bi f) .nil pass0 (hl c _ h3 X g) d1 (star_plain h1) (stars_plain h2)) fun σ H Q q => ?_
  obtain ⟨da, db, M, ρ, δ, d, δ', p, en, e, r⟩ := q
  rw [NB.evE] at e
  obtain ⟨⟨ds, δ1⟩, e1, e⟩ := bnd e
  refine ⟨da, db, M, ρ, δ, ds, _, p, en, e1, fun vs H1 k1 q1 a1 => ?_⟩
  show spF cf f (vs ++ []) H1 Q E0
  rw [List.append_nil]
  exact ⟨by rw [a1.length]; exact g.fa.ln _ _ _ _ e, da, db, M, ds, δ1, d, δ', p.next k1 q1, a1, e, fun v H' k' q' a' => r v H' (k1.trans k') q' a' fun z => nomatch z⟩
theorem E_callk {f : NB.F} {ks : List Nat} {a1 a2 a3 a4 : NB.E} (h1 : SE cf ad fd ps n a1) (h2 : SE cf ad fd ps n a2) (h3 : SE cf ad fd ps n a3) (h4 : SE cf ad fd ps n a4) : SE cf ad fd ps n (.callk f ks (.cons a1 (.cons a2 (.cons a3 (.cons a4 .nil))))) := by
  intro c pe h X g
  cases pe <;> first | (exact nomatch (show false = true from h)) | skip
  rename_i fe ps' kws pos
  cases fe <;> first | (exact nomatch (show false = true from h)) | skip
  rename_i x px
  rcases ps' with _ | ⟨p, ps'⟩ <;> first | (exact nomatch (show false = true from h)) | skip
  rcases kws with _ | ⟨⟨k1, p1, q1⟩, _ | ⟨⟨k2, p2, q2⟩, _ | ⟨⟨k3, p3, q3⟩, _ | ⟨⟨k4, p4, q4⟩, _ | ⟨_, _⟩⟩⟩⟩⟩ <;> first | (exact nomatch (show false = true from h)) | skip
  have h : ((x == pyS f && glB c.sc x) && ((kwN f && (decide (ks = [3, 2, 1, 0]) && decide ([k1, k2, k3, k4] = (((f.names.take f.np).map Str.ofString).reverse).map some))) && (okE c a1 p1 && (okE c a2 p2 && (okE c a3 p3 && okE c a4 p4))))) = true := h
  simp only [Bool.and_eq_true, decide_eq_true_eq, beq_iff_eq] at h
  obtain ⟨⟨rfl, g1⟩, ⟨hk, rfl, hn⟩, o1, o2, o3, o4⟩ := h
  obtain ⟨g1, d1, m1⟩ := gl_of g g1
  generalize hns : ((f.names.take f.np).map Str.ofString).reverse = ns at hn
  rcases ns with _ | ⟨n1, _ | ⟨n2, _ | ⟨n3, _ | ⟨n4, _ | ⟨_, _⟩⟩⟩⟩⟩ <;> simp only [List.map_cons, List.map_nil, List.cons.injEq, reduceCtorEq, and_false, and_true, List.cons_ne_nil, List.nil_eq] at hn
  obtain ⟨rfl, rfl, rfl, rfl⟩ := hn
  have kb := g.fa.st.kb f hk
  rw [hns] at kb
  refine PEimp (pe_callK0 (E := E0) (g.fa.fn f) g.room g1 (g.fa.st.mgf f) (g.fa.st.kp f) kb pass0 (pk_cons (h1 c p1 o1 X g) (pk_cons (h2 c p2 o2 X g) (pk_cons (h3 c p3 o3 X g) (pk_cons (h4 c p4 o4 X g) pk_nil)))) (by with_unfolding_all rfl) (by with_unfolding_all rfl) d1 (by with_unfolding_all rfl)) fun σ H Q q => ?_
  obtain ⟨da, db, M, ρ, δ, d, δ', p, en, e, r⟩ := q
  rw [NB.evE] at e
  obtain ⟨⟨ds, δ1⟩, e1, e⟩ := bnd e
  obtain ⟨ds', e2, e⟩ := bnd e
  rw [NB.evL] at e1
  obtain ⟨⟨x1, y1⟩, u1, e1⟩ := bnd e1
  obtain ⟨⟨xs1, z1⟩, w1, e1⟩ := bnd e1
  cases e1
  rw [NB.evL] at w1
  obtain ⟨⟨x2, y2⟩, u2, w1⟩ := bnd w1
  obtain ⟨⟨xs2, z2⟩, w2, w1⟩ := bnd w1
  cases w1
  rw [NB.evL] at w2
  obtain ⟨⟨x3, y3⟩, u3, w2⟩ := bnd w2
  obtain ⟨⟨xs3, z3⟩, w3, w2⟩ := bnd w2
  cases w2
  rw [NB.evL] at w3
  obtain ⟨⟨x4, y4⟩, u4, w3⟩ := bnd w3
  obtain ⟨⟨xs4, z4⟩, w4, w3⟩ := bnd w3
  cases w3
  rw [NB.evL] at w4
  cases w4
  have e2 : some [x4, x3, x2, x1] = some ds' := e2
  cases e2
  refine ⟨da, db, M, ρ, δ, x1, _, p, en, u1, fun v1 H1 k1 q1 b1 _ => ?_⟩
  have pp1 := p.next k1 q1
  refine ⟨da, db, M, ρ, _, x2, _, pp1, en.keep p k1, u2, fun v2 H2 k2 q2 b2 _ => ?_⟩
  have pp2 := pp1.next k2 q2
  refine ⟨da, db, M, ρ, _, x3, _, pp2, (en.keep p k1).keep pp1 k2, u3, fun v3 H3 k3 q3 b3 _ => ?_⟩
  have pp3 := pp2.next k3 q3
  refine ⟨da, db, M, ρ, _, x4, _, pp3, ((en.keep p k1).keep pp1 k2).keep pp2 k3, u4, fun v4 H4 k4 q4 b4 _ => ?_⟩
  have pp4 := pp3.next k4 q4
  have c1 := ((b1.keep pp1 k2).keep pp2 k3).keep pp3 k4
  have c2 := (b2.keep pp2 k3).keep pp3 k4
  have c3 := b3.keep pp3 k4
  refine ⟨rfl, ?_⟩
  exact ⟨g.fa.ln _ _ _ _ e, da, db, M, [x4, x3, x2, x1], _, d, δ', pp4, Ats.cons b4 (Ats.cons c3 (Ats.cons c2 (Ats.cons c1 Ats.nil))), e, fun v H' k' q' a' => r v H' ((((k1.trans k2).trans k3).trans k4).trans k') q' a' fun z => nomatch z⟩
/-- a value that is a bool, as a test (not an and, or, not, if, comparison) -/
theorem P_def {e : NB.E} (he : SE cf ad fd ps n e) (hd : ∀ c pe, okE c e pe = true → ∀ env w, PySem.isTrue pe env w = (do let v ← w; standAt pe.pos; holding [v] (truthy v))) : SP cf ad fd ps n e := by
  intro c pe h _ X g
  refine PTimp (pt_val (he c pe h X g) (hd c pe h _)) fun σ H Q q => ?_
  obtain ⟨da, db, M, ρ, δ, r0, δ', p, en, e, r⟩ := q
  exact ⟨da, db, M, ρ, δ, _, δ', p, en, e, fun v H' k q' a' _ => ⟨r0, a'.bl, r H' k q'⟩⟩
/-! ### iterators -/
theorem at_items {da db : Addr} {M : Addr → Prop} {H1 : Hp} {xs : List NB.D} {vs : List V} (ra : Ats da M H1 xs vs) {i : Nat} {Hi : Hp} {v : V} {H' : Hp} {M2 : Addr → Prop} {δ2 : NB.Dl} (p2 : Pre da db M2 Hi δ2) (st : Step M H1 M2 Hi) (y : YAt vs i Hi v H') :
    Keep da db Hi H' ∧ DealAt da db H' δ2 ∧ ∃ d, xs[i]? = some d ∧ At da M2 H' d v := by
  obtain ⟨rfl, y⟩ := y
  obtain ⟨d, e1, e2⟩ := ra.get' y
  exact ⟨Keep.refl _ _ _, p2.deal, d, e1, At.step st d v e2⟩
theorem seqk_step {K : PySem.W.Frag} {k : Bool} {M M2 : Addr → Prop} {H1 H2 : Hp} {a : Addr} {vs : List V} (na : ¬ M a) (ha : H1 a = some (if k then .lst vs else .tup vs)) (st : Step M H1 M2 H2) : SqK K k H2 a vs := by
  cases k with
  | true => exact SqL.of (st a _ na ha).2
  | false => exact SqT.of (st a _ na ha).2
theorem I_S {a : NB.E} (ha : SE cf ad fd ps n a) : SI cf ad fd ps n (.itS a) := by
  intro c ptg pe h X g
  refine PIimp (pi_any (ha c pe h X g)) fun σ H R q => ?_
  obtain ⟨da, db, M, ρ, δ, xs, δ', p, en, e, r⟩ := q
  rw [NB.evI] at e
  obtain ⟨⟨x, δ1⟩, e1, e⟩ := bnd e
  obtain ⟨ds, e2, e⟩ := bnd e
  cases e
  refine ⟨da, db, M, ρ, δ, x, _, p, en, e1, fun v H1 k1 q1 a1 _ => ?_⟩
  obtain ⟨k, b, us, rfl, nb, hb, hs, ra⟩ := a1.seq (K := X.K) e2
  refine ⟨k, b, us, rfl, hs, ?_⟩
  refine r _ H1 (fun H => SqK X.K k H b us) (YAt us) k1 q1 (by rw [← ra.length]; exact walkA k) (fun M2 H2 st => seqk_step nb hb st) fun i Hi v H' M2 δ2 _ p2 st y => at_items ra p2 st y
theorem range_len (k : Nat) (i : Int) : ((List.range k).map fun (j : Nat) => NB.D.int (i + (j : Int))).length = k := by simp
theorem range_at {da db : Addr} {M : Addr → Prop} {H1 : Hp} {lo : Int} {k i : Nat} (hi : i < k) {Hi : Hp} {v : V} {H' : Hp} {M2 : Addr → Prop} {δ2 : NB.Dl} (p2 : Pre da db M2 Hi δ2) (y : YFn (fun i => V.int (lo + i)) i Hi v H') :
    Keep da db Hi H' ∧ DealAt da db H' δ2 ∧ ∃ d, ((List.range k).map fun (j : Nat) => NB.D.int (lo + (j : Int)))[i]? = some d ∧ At da M2 H' d v := by
  obtain ⟨rfl, rfl⟩ := y
  refine ⟨Keep.refl _ _ _, p2.deal, .int (lo + i), ?_, at_int _⟩
  rw [List.getElem?_map, List.getElem?_range hi]
  rfl
theorem I_R1 {a : NB.E} (ha : SE cf ad fd ps n a) : SI cf ad fd ps n (.itR1 a) := by
  intro c ptg pe h X g
  cases pe <;> first | (exact nomatch (show false = true from h)) | skip
  rename_i fe es kws pos
  cases fe <;> first | (exact nomatch (show false = true from h)) | skip
  rename_i x px
  rcases es with _ | ⟨p, _ | ⟨_, _⟩⟩ <;> first | (exact nomatch (show false = true from h)) | skip
  cases kws <;> first | (exact nomatch (show false = true from h)) | skip
  have h : ((x == ("range" : Str) && glB c.sc x) && (!isStar p && okE c a p)) = true := h
  simp only [Bool.and_eq_true, Bool.not_eq_true', beq_iff_eq] at h
  obtain ⟨⟨rfl, g1⟩, h1, h2⟩ := h
  obtain ⟨g1, d1, m1⟩ := gl_of g g1
  refine PIimp (pi_range1 g1 g.fa.st.rng (pa_cons (ha c p h2 X g) pa_nil (star_plain h1)) (star_plain h1)) fun σ H R q => ?_
  obtain ⟨da, db, M, ρ, δ, xs, δ', p, en, e, r⟩ := q
  rw [NB.evI] at e
  obtain ⟨⟨x, δ1⟩, e1, e⟩ := bnd e
  obtain ⟨j, e2, e5⟩ := bnd e
  obtain rfl := intOf_eq e2
  split at e5
  · rename_i hj
    cases e5
    refine ⟨da, db, M, ρ, δ, _, _, p, en, e1, fun v H1 k1 q1 a1 _ => ⟨j, by rw [a1.int], hj.1, hj.2, ?_⟩⟩
    exact r _ H1 (fun _ => True) (YFn fun i => .int (0 + i)) k1 q1 (by rw [range_len]; exact walk_range) (fun _ _ _ => trivial) fun i Hi v H' M2 δ2 hi p2 st y => range_at (M := M) (H1 := H1) (by rwa [range_len] at hi) p2 y
  · cases e5
theorem I_R2 {a b : NB.E} (ha : SE cf ad fd ps n a) (hb : SE cf ad fd ps n b) : SI cf ad fd ps n (.itR2 a b) := by
  intro c ptg pe h X g
  cases pe <;> first | (exact nomatch (show false = true from h)) | skip
  rename_i fe es kws pos
  cases fe <;> first | (exact nomatch (show false = true from h)) | skip
  rename_i x px
  rcases es with _ | ⟨p, _ | ⟨q, _ | ⟨_, _⟩⟩⟩ <;> first | (exact nomatch (show false = true from h)) | skip
  cases kws <;> first | (exact nomatch (show false = true from h)) | skip
  have h : ((x == ("range" : Str) && glB c.sc x) && (!isStar p && (!isStar q && (okE c a p && okE c b q)))) = true := h
  simp only [Bool.and_eq_true, Bool.not_eq_true', beq_iff_eq] at h
  obtain ⟨⟨rfl, g1⟩, h1, h2, h3, h4⟩ := h
  obtain ⟨g1, d1, m1⟩ := gl_of g g1
  refine PIimp (pi_range2 g1 g.fa.st.rng (pa_cons (ha c p h3 X g) (pa_cons (hb c q h4 X g) pa_nil (star_plain h2)) (star_plain h1)) ((star_plain h1).trans (by rw [star_plain h2]; rfl)) (star_plain h2)) fun σ H R q => ?_
  obtain ⟨da, db, M, ρ, δ, xs, δ', p, en, e, r⟩ := q
  rw [NB.evI] at e
  obtain ⟨⟨x, δ1⟩, e1, e⟩ := bnd e
  obtain ⟨⟨y, δ2⟩, e2, e⟩ := bnd e
  obtain ⟨i, e3, e⟩ := bnd e
  obtain ⟨j, e4, f⟩ := bnd e
  obtain rfl := intOf_eq e3
  obtain rfl := intOf_eq e4
  split at f
  · rename_i hj
    cases f
    refine two p en e1 e2 fun v w H2 k p2 a1 a2 _ => ⟨i, j, by rw [a1.int, a2.int], hj, ?_⟩
    exact r _ H2 (fun _ => True) (YFn fun k => .int (i + k)) k p2.deal (by rw [range_len]; exact walk_range) (fun _ _ _ => trivial) fun l Hi v H' M2 δ2 hi p2 st y => range_at (M := M) (H1 := H2) (by rwa [range_len] at hi) p2 y
  · cases f
theorem at_pair {da db : Addr} {M2 : Addr → Prop} {Hi H' : Hp} {δ2 : NB.Dl} {d e : NB.D} {x y : V} {T : Addr} (p2 : Pre da db M2 Hi δ2) (hT : Hi T = none) (eH : H' = upd Hi T (.tup [x, y])) (a1 : At da M2 Hi d x) (a2 : At da M2 Hi e y) :
    Keep da db Hi H' ∧ DealAt da db H' δ2 ∧ At da M2 H' (.tup [d, e]) (.ref T) := by
  subst eH
  exact ⟨Keep.new hT, p2.deal.new hT, at_newT p2 hT (Ats.cons a1 (Ats.cons a2 Ats.nil))⟩
theorem enumD_len : ∀ (k : Nat) (xs : List NB.D), (NB.enumD k xs).length = xs.length
  | _, [] => rfl
  | k, x :: xs => by rw [NB.enumD, List.length_cons, List.length_cons, enumD_len]
theorem enumD_at : ∀ (k i : Nat) (xs : List NB.D) (d : NB.D), xs[i]? = some d → (NB.enumD k xs)[i]? = some (.tup [.int ((k + i : Nat) : Int), d])
  | k, _, [], d, h => by simp at h
  | k, 0, x :: xs, d, h => by
    have h : some x = some d := by simpa using h
    cases h
    rw [NB.enumD]
    rfl
  | k, i + 1, x :: xs, d, h => by
    rw [NB.enumD, List.getElem?_cons_succ, enumD_at (k + 1) i xs d (by simpa using h)]
    congr 4
    omega
theorem I_E {a : NB.E} (ha : SE cf ad fd ps n a) : SI cf ad fd ps n (.itE a) := by
  intro c ptg pe h X g
  cases pe <;> first | (exact nomatch (show false = true from h)) | skip
  rename_i fe es kws pos
  cases fe <;> first | (exact nomatch (show false = true from h)) | skip
  rename_i x px
  rcases es with _ | ⟨p, _ | ⟨_, _⟩⟩ <;> first | (exact nomatch (show false = true from h)) | skip
  cases kws <;> first | (exact nomatch (show false = true from h)) | skip
  have h : (isTup ptg && ((x == ("enumerate" : Str) && glB c.sc x) && (!isStar p && okE c a p))) = true := h
  simp only [Bool.and_eq_true, Bool.not_eq_true', beq_iff_eq] at h
  obtain ⟨h0, ⟨rfl, g1⟩, h1, h2⟩ := h
  obtain ⟨g1, d1, m1⟩ := gl_of g g1
  cases ptg <;> first | (exact nomatch (show false = true from h0)) | skip
  refine PIimp (pi_enumA g1 g.fa.st.enu (pa_cons (ha c p h2 X g) pa_nil (star_plain h1)) (star_plain h1)) fun σ H R q => ?_
  obtain ⟨da, db, M, ρ, δ, xs, δ', p, en, e, r⟩ := q
  rw [NB.evI] at e
  obtain ⟨⟨x, δ1⟩, e1, e⟩ := bnd e
  obtain ⟨ds, e2, e⟩ := bnd e
  cases e
  refine ⟨da, db, M, ρ, δ, x, _, p, en, e1, fun v H1 k1 q1 a1 _ => ?_⟩
  obtain ⟨k, b, us, rfl, nb, hb, hs, ra⟩ := a1.seq (K := X.K) e2
  refine ⟨k, b, us, rfl, hs, ?_⟩
  refine r _ H1 (fun H => SqK X.K k H b us) _ k1 q1 (by rw [enumD_len, ← ra.length]; exact walkEnumA k) (fun M2 H2 st => seqk_step nb hb st) fun i Hi v H' M2 δ2 hi p2 st y => ?_
  obtain ⟨T, x, y, rfl, hT, eH, ex, ey⟩ := y
  cases ex
  obtain ⟨d, f1, f2⟩ := ra.get' ey
  obtain ⟨z1, z2, z3⟩ := at_pair p2 hT eH (at_int (i : Int)) (At.step st d y f2)
  exact ⟨z1, z2, _, by rw [enumD_at 0 i ds d f1]; simp, z3⟩
theorem I_Z {a b : NB.E} (ha : SE cf ad fd ps n a) (hb : SE cf ad fd ps n b) : SI cf ad fd ps n (.itZ a b) := by
  intro c ptg pe h X g
  cases pe <;> first | (exact nomatch (show false = true from h)) | skip
  rename_i fe es kws pos
  cases fe <;> first | (exact nomatch (show false = true from h)) | skip
  rename_i x px
  rcases es with _ | ⟨p, _ | ⟨q, _ | ⟨_, _⟩⟩⟩ <;> first | (exact nomatch (show false = true from h)) | skip
  cases kws <;> first | (exact nomatch (show false = true from h)) | skip
  have h : (isTup ptg && ((x == ("zip" : Str) && glB c.sc x) && (!isStar p && (!isStar q && (okE c a p && okE c b q))))) = true := h
  simp only [Bool.and_eq_true, Bool.not_eq_true', beq_iff_eq] at h
  obtain ⟨h0, ⟨rfl, g1⟩, h1, h2, h3, h4⟩ := h
  obtain ⟨g1, d1, m1⟩ := gl_of g g1
  cases ptg <;> first | (exact nomatch (show false = true from h0)) | skip
  refine PIimp (pi_zipAny g1 g.fa.st.zip (pa_cons (ha c p h3 X g) (pa_cons (hb c q h4 X g) pa_nil (star_plain h2)) (star_plain h1)) (star_plain h1) (by rw [star_plain h2]; rfl)) fun σ H R q => ?_
  obtain ⟨da, db, M, ρ, δ, xs, δ', p, en, e, r⟩ := q
  rw [NB.evI] at e
  obtain ⟨⟨x, δ1⟩, e1, e⟩ := bnd e
  obtain ⟨⟨y, δ2⟩, e2, e⟩ := bnd e
  obtain ⟨us, e3, e⟩ := bnd e
  obtain ⟨ws, e4, e⟩ := bnd e
  cases e
  refine two p en e1 e2 fun v w H2 k p2 a1 a2 _ => ?_
  obtain ⟨k1, l1, us1, rfl, n1, hl1, hs1, r1⟩ := a1.seq (K := X.K) e3
  obtain ⟨k2, l2, us2, rfl, n2, hl2, hs2, r2⟩ := a2.seq (K := X.K) e4
  refine ⟨k1, k2, l1, l2, us1, us2, rfl, hs1, hs2, ?_⟩
  refine r _ H2 _ _ k p2.deal (walkZipA (K := X.K) (xs := us1) (ys := us2) k1 k2 (by rw [List.length_zipWith, r1.length, r2.length])) (fun M2 H3 st => ⟨seqk_step n1 hl1 st, seqk_step n2 hl2 st⟩) fun i Hi v H' M2 δ2 hi p2 st y => ?_
  obtain ⟨T, x, y, rfl, hT, eH, ex, ey⟩ := y
  obtain ⟨d1, f1, g1⟩ := r1.get' ex
  obtain ⟨d2, f2, g2⟩ := r2.get' ey
  obtain ⟨z1, z2, z3⟩ := at_pair p2 hT eH (At.step st d1 x g1) (At.step st d2 y g2)
  exact ⟨z1, z2, _, by rw [List.getElem?_zipWith, f1, f2], z3⟩
/-! ### targets -/
def setsV (σ : L2.St) (ps : List (Nat × V)) : L2.St := ps.foldl (fun r p => r.set p.1 (some p.2)) σ
def gsOf : List Nat → TGs
  | [] => gNil
  | i :: is => gCons (gName i) (gsOf is)
def tgR (K : PySem.W.Frag) : NB.Tg → TG
  | .one i => gName i
  | .many is => gTup K is.length (gsOf is)
theorem locB_of {X : Cx} {c : Sc} (g : Gd cf ad fd ps n c X) {i : Nat} {x : Str} (h : locB c i x = true) : X.N[i]? = some x ∧ X.env.scope.names.lookup x = some .local := by
  simp only [locB, Bool.and_eq_true, decide_eq_true_eq] at h
  exact ⟨by rw [g.hN]; exact h.1, by rw [g.hsc]; exact h.2⟩
theorem pgs_of {X : Cx} {q : Nat → Str → Bool} (hN : X.N.Nodup) (hq : ∀ i x, q i x = true → X.N[i]? = some x ∧ Loc X.env.scope x ∧ (X.fn x = true ∨ X.env.scope.names.lookup x = some .local)) : ∀ {is : List Nat} {es : List Expr}, tgNs q is es = true → PGs X es (gsOf is) ∧ (assignEach es X.env).length = is.length ∧ (assignEach es X.env).findIdx? (·.1) = none
  | [], [], _ => ⟨pgs_nil, by with_unfolding_all rfl, by with_unfolding_all rfl⟩
  | [], _ :: _, h => nomatch (show false = true from h)
  | _ :: _, [], h => nomatch (show false = true from h)
  | i :: is, e :: es, h => by
    cases e <;> first | (exact nomatch (show false = true from h)) | skip
    rename_i x px
    have h : (q i x && tgNs q is es) = true := h
    simp only [Bool.and_eq_true] at h
    obtain ⟨h1, h2, h3⟩ := hq i x h.1
    obtain ⟨q1, q2, q3⟩ := pgs_of hN hq h.2
    have e1 : assignEach (.Name x px :: es) X.env = (false, assign (.Name x px) X.env) :: assignEach es X.env := by with_unfolding_all rfl
    refine ⟨pgs_cons (pg_name hN h1 h2 h3) q1 (by rw [e1]; rfl), by rw [e1, List.length_cons, List.length_cons, q2], ?_⟩
    rw [e1, List.findIdx?_cons]
    simp [q3]
theorem pg_tg {X : Cx} {q : Nat → Str → Bool} (hc : X.calm = true) (hN : X.N.Nodup) (hq : ∀ i x, q i x = true → X.N[i]? = some x ∧ Loc X.env.scope x ∧ (X.fn x = true ∨ X.env.scope.names.lookup x = some .local)) {tg : NB.Tg} {pe : Expr} (h : okTg q tg pe = true) : PG X pe (tgR X.K tg) := by
  cases tg with
  | one i =>
    cases pe <;> first | (exact nomatch (show false = true from h)) | skip
    obtain ⟨h1, h2, h3⟩ := hq i _ h
    exact pg_name hN h1 h2 h3
  | many is =>
    cases pe <;> first | (exact nomatch (show false = true from h)) | skip
    rename_i es k pos
    have h : (tgNs q is es && decide is.Nodup) = true := h
    simp only [Bool.and_eq_true] at h
    obtain ⟨q1, q2, q3⟩ := pgs_of hN hq h.1
    exact pg_tup hc q1 q2 q3
theorem loc_q {X : Cx} {c : Sc} (g : Gd cf ad fd ps n c X) : ∀ i x, locB c i x = true → X.N[i]? = some x ∧ Loc X.env.scope x ∧ (X.fn x = true ∨ X.env.scope.names.lookup x = some .local) := fun i x h =>
  let ⟨h1, h2⟩ := locB_of g h
  ⟨h1, .inl h2, .inr h2⟩
theorem gs_read : ∀ {is : List Nat} {xs : List V} {σ : L2.St} {H : Hp} {Q : L2.St → Hp → Prop}, xs.length = is.length → Q (setsV σ (is.zip xs)) H → gsOf is xs σ H Q
  | [], [], σ, H, Q, _, q => ⟨rfl, q⟩
  | [], _ :: _, _, _, _, h, _ => by simp at h
  | _ :: _, [], _, _, _, h, _ => by simp at h
  | i :: is, x :: xs, σ, H, Q, h, q => ⟨x, xs, rfl, gs_read (by simpa using h) q⟩
/-- the pairs that a target takes -/
def tgPs : NB.Tg → NB.D → Option (List (Nat × NB.D))
  | .one i, d => some [(i, d)]
  | .many is, .tup ds => if ds.length = is.length then some (is.zip ds) else none
  | _, _ => none
def setsE (ρ : NB.Env) (ps : List (Nat × NB.D)) : NB.Env := ps.foldl (fun r p => r.set p.1 (some p.2)) ρ
theorem asg_ps {tg : NB.Tg} {ρ ρ' : NB.Env} {d : NB.D} (h : NB.asg tg ρ d = some ρ') : ∃ ps, tgPs tg d = some ps ∧ ρ' = setsE ρ ps := by
  cases tg with
  | one i => cases h; exact ⟨_, rfl, rfl⟩
  | many is =>
    cases d <;> first | (cases h; done) | skip
    rename_i ds
    simp only [NB.asg] at h
    split at h
    · rename_i e
      cases h
      exact ⟨_, by rw [tgPs, if_pos e], rfl⟩
    · cases h
/-- pairs of slots and values that read as pairs of slots and data -/
def AtPs (da : Addr) (M : Addr → Prop) (H : Hp) : List (Nat × NB.D) → List (Nat × V) → Prop
  | [], [] => True
  | p :: ps, q :: qs => p.1 = q.1 ∧ At da M H p.2 q.2 ∧ AtPs da M H ps qs
  | _, _ => False
theorem zip_ps {da : Addr} {M : Addr → Prop} {H : Hp} : ∀ {is : List Nat} {ds : List NB.D} {vs : List V}, Ats da M H ds vs → AtPs da M H (is.zip ds) (is.zip vs)
  | [], ds, vs, _ => by rw [List.zip_nil_left, List.zip_nil_left]; trivial
  | i :: is, [], vs, h => by rw [Ats] at h; rw [h]; trivial
  | i :: is, d :: ds, vs, h => by
    rw [Ats] at h
    obtain ⟨v, r, e, h1, h2⟩ := h
    rw [e]
    exact ⟨rfl, h1, zip_ps h2⟩
theorem tg_read {K : PySem.W.Frag} {da : Addr} {M : Addr → Prop} {H : Hp} {σ : L2.St} {tg : NB.Tg} {d : NB.D} {v : V} {ps : List (Nat × NB.D)} {Q : L2.St → Hp → Prop} (h : tgPs tg d = some ps) (a : At da M H d v)
    (q : ∀ qs, AtPs da M H ps qs → Q (setsV σ qs) H) : tgR K tg v σ H Q := by
  cases tg with
  | one i =>
    cases h
    exact q [(i, v)] ⟨rfl, a, trivial⟩
  | many is =>
    cases d <;> first | (cases h; done) | skip
    rename_i ds
    simp only [tgPs] at h
    split at h
    · rename_i e
      cases h
      obtain ⟨t, vs, rfl, nt, ht, r⟩ := a.tup
      exact ⟨t, vs, rfl, SqT.of ht, by rw [r.length, e], gs_read (by rw [r.length, e]) (q _ (zip_ps r))⟩
    · cases h
theorem EnvAt.sets {da : Addr} {M : Addr → Prop} {H : Hp} : ∀ {ps : List (Nat × NB.D)} {qs : List (Nat × V)} {σ : L2.St} {ρ : NB.Env}, EnvAt da M H σ ρ → AtPs da M H ps qs → EnvAt da M H (setsV σ qs) (setsE ρ ps)
  | [], [], σ, ρ, e, _ => e
  | [], _ :: _, _, _, _, h => h.elim
  | _ :: _, [], _, _, _, h => h.elim
  | (i, d) :: ps, (j, v) :: qs, σ, ρ, e, h => by
    obtain ⟨h1, h2, h3⟩ := h
    have h1 : i = j := h1
    subst h1
    refine EnvAt.sets (σ := σ.set i (some v)) (ρ := ρ.set i (some d)) ⟨by rw [List.length_set, List.length_set]; exact e.len, fun j d' q => ?_⟩ h3
    by_cases hij : i = j
    · subst hij
      have hl : i < ρ.length := by
        have := (List.getElem?_eq_some_iff.mp q).1
        rwa [List.length_set] at this
      rw [List.getElem?_set_self hl] at q
      cases q
      exact ⟨v, List.getElem?_set_self (by rw [← e.len]; exact hl), h2⟩
    · rw [List.getElem?_set_ne hij] at q ⊢
      exact e.at_ j d' q
theorem wipe_get (σ : L2.St) (j : Nat) : ∀ vs : List Nat, (wipe σ vs)[j]? = if j ∈ vs then (if j < σ.length then some none else none) else σ[j]?
  | [] => by simp [wipe]
  | v :: vs => by
    rw [wipe]
    by_cases h : v = j
    · subst h
      rw [if_pos List.mem_cons_self]
      by_cases hl : v < σ.length
      · rw [if_pos hl, List.getElem?_set_self (by rw [wipe_length]; exact hl)]
      · rw [if_neg hl, List.getElem?_eq_none (by rw [List.length_set, wipe_length]; omega)]
    · rw [List.getElem?_set_ne h, wipe_get σ j vs]
      have e : (j ∈ v :: vs) = (j ∈ vs) := by rw [List.mem_cons]; exact propext ⟨fun z => z.resolve_left fun q => h q.symm, .inr⟩
      simp only [e]
theorem wipeE_length (ρ : NB.Env) : ∀ vs : List Nat, (NB.wipeE ρ vs).length = ρ.length
  | [] => rfl
  | v :: vs => by unfold NB.wipeE; rw [List.length_set, wipeE_length ρ vs]
theorem wipeE_get (ρ : NB.Env) (j : Nat) : ∀ vs : List Nat, (NB.wipeE ρ vs)[j]? = if j ∈ vs then (if j < ρ.length then some none else none) else ρ[j]?
  | [] => by simp [NB.wipeE]
  | v :: vs => by
    rw [NB.wipeE]
    by_cases h : v = j
    · subst h
      rw [if_pos List.mem_cons_self]
      by_cases hl : v < ρ.length
      · rw [if_pos hl, List.getElem?_set_self (by rw [wipeE_length]; exact hl)]
      · rw [if_neg hl, List.getElem?_eq_none (by rw [List.length_set, wipeE_length]; omega)]
    · rw [List.getElem?_set_ne h, wipeE_get ρ j vs]
      have e : (j ∈ v :: vs) = (j ∈ vs) := by rw [List.mem_cons]; exact propext ⟨fun z => z.resolve_left fun q => h q.symm, .inr⟩
      simp only [e]
theorem EnvAt.wipe {da : Addr} {M : Addr → Prop} {H : Hp} {σ : L2.St} {ρ : NB.Env} (e : EnvAt da M H σ ρ) (vs : List Nat) : EnvAt da M H (L2.wipe σ vs) (NB.wipeE ρ vs) :=
  ⟨by rw [wipe_length, wipeE_length]; exact e.len, fun j d q => by
    rw [wipeE_get] at q
    rw [wipe_get]
    split at q
    · split at q <;> cases q
    · rename_i h
      rw [if_neg h]
      exact e.at_ j d q⟩
theorem setsV_length (σ : L2.St) : ∀ (qs : List (Nat × V)) , (setsV σ qs).length = σ.length := fun qs => by
  induction qs generalizing σ with
  | nil => rfl
  | cons q qs ih => show (setsV (σ.set q.1 (some q.2)) qs).length = _; rw [ih, List.length_set]
theorem setsV_out {j : Nat} : ∀ {qs : List (Nat × V)} {σ : L2.St}, j ∉ qs.map (·.1) → (setsV σ qs)[j]? = σ[j]? := fun {qs} => by
  induction qs with
  | nil => intro σ _; rfl
  | cons q qs ih =>
    intro σ h
    simp only [List.map_cons, List.mem_cons, not_or] at h
    show (setsV (σ.set q.1 (some q.2)) qs)[j]? = _
    rw [ih h.2, List.getElem?_set_ne (fun e => h.1 e.symm)]
theorem wipe_sets {σ : L2.St} {own : List Nat} {qs : List (Nat × V)} (h : ∀ q ∈ qs, q.1 ∈ own) : wipe (setsV (wipe σ own) qs) own = wipe σ own := by
  apply List.ext_getElem?
  intro j
  rw [wipe_get, wipe_get, setsV_length, wipe_length]
  by_cases hj : j ∈ own
  · rw [if_pos hj, if_pos hj]
  · rw [if_neg hj, if_neg hj, setsV_out, wipe_get, if_neg hj]
    intro m
    obtain ⟨q, hq, e⟩ := List.mem_map.mp m
    exact hj (e ▸ h q hq)
theorem atps_keys {da : Addr} {M : Addr → Prop} {H : Hp} : ∀ {ps : List (Nat × NB.D)} {qs : List (Nat × V)}, AtPs da M H ps qs → qs.map (·.1) = ps.map (·.1)
  | [], [], _ => rfl
  | [], _ :: _, h => h.elim
  | _ :: _, [], h => h.elim
  | p :: ps, q :: qs, h => by rw [List.map_cons, List.map_cons, atps_keys h.2.2, h.1]
theorem tgIn_of {tg : NB.Tg} {own : List Nat} {d : NB.D} {ps : List (Nat × NB.D)} (h : tgIn tg own = true) (e : tgPs tg d = some ps) : ∀ p ∈ ps, p.1 ∈ own := by
  cases tg with
  | one i =>
    cases e
    intro p hp
    rw [List.mem_singleton.mp hp]
    exact of_decide_eq_true h
  | many is =>
    cases d <;> first | (cases e; done) | skip
    simp only [tgPs] at e
    split at e
    · cases e
      intro p hp
      exact of_decide_eq_true (List.all_eq_true.mp h p.1 (List.of_mem_zip (b := p.2) (by simpa using hp)).1)
    · cases e
/-! ### comprehensions -/
theorem upd_step {M : Addr → Prop} {H : Hp} {D : Addr} {o : HO} (m : M D) : Step M H M (upd H D o) := fun a u na e => ⟨na, by rw [upd_ne (fun z : a = D => na (by rw [z]; exact m))]; exact e⟩
theorem DealAt.upd {da db D : Addr} {H : Hp} {o : HO} {δ : NB.Dl} (q : DealAt da db H δ) (h1 : D ≠ da) (h2 : D ≠ db) : DealAt da db (L2.upd H D o) δ :=
  ⟨q.ne, by rw [upd_ne (fun e => h1 e.symm)]; exact q.at_, by rw [upd_ne (fun e => h2 e.symm)]; exact q.cells, q.len, q.z0, q.z1⟩
theorem Pre.upd {da db D : Addr} {M : Addr → Prop} {H : Hp} {o : HO} {δ : NB.Dl} (p : Pre da db M H δ) (h1 : D ≠ da) (h2 : D ≠ db) : Pre da db M (L2.upd H D o) δ :=
  ⟨p.ma, p.mb, fun a m => by
    by_cases h : a = D
    · rw [h, upd_same]; exact fun z => nomatch z
    · rw [upd_ne h]; exact p.mt a m, p.deal.upd h1 h2⟩
theorem keep_upd {da db D : Addr} {H1 H : Hp} {o : HO} (k : Keep da db H1 H) (hD : H1 D = none) : Keep da db H1 (upd H D o) := fun a u n1 n2 e => by
  rw [upd_ne (ne_of_none e hD)]
  exact k a u n1 n2 e
theorem ne_deal {da db D : Addr} {H : Hp} {δ : NB.Dl} (q : DealAt da db H δ) (hD : H D = none) : D ≠ da ∧ D ≠ db :=
  ⟨fun e => (ne_of_none q.at_ hD) e.symm, fun e => (ne_of_none q.cells hD) e.symm⟩
/-- a comprehension's parts -/
structure LcOk (c : Sc) (own : List Nat) (tg : NB.Tg) (it t elt : NB.E) (pel ptg pit : Expr) (ifs : List Expr) (scope : Scope) : Prop where
  h1 : blkC c.N c.sc scope (own.filterMap fun i => (c.N[i]?).map fun x => (x, i)) = true
  h2 : (own.filterMap fun i => (c.N[i]?).map fun x => (x, i)).map (·.2) = own
  h3 : isSet pit = false
  h4 : okTg (locB (c.blk scope)) tg ptg = true
  h5 : tgIn tg own = true
  h6 : okI c ptg it pit = true
  h7 : okT (c.blk scope) t ifs = true
  h8 : okE (c.blk scope) elt pel = true
theorem lc_parts {c : Sc} {own : List Nat} {tg : NB.Tg} {it t elt : NB.E} {pe : Expr} (h : okE c (.lc own tg it t elt) pe = true) : ∃ pel ptg pit ifs scope pos, pe = .ListComp pel [⟨ptg, pit, ifs, 0⟩] scope pos ∧ LcOk c own tg it t elt pel ptg pit ifs scope := by
  cases pe <;> first | (exact nomatch (show false = true from h)) | skip
  rename_i pel gens scope pos
  rcases gens with _ | ⟨⟨ptg, pit, ifs, (_ | asy) | asy⟩, _ | ⟨_, _⟩⟩ <;> first | (exact nomatch (show false = true from h)) | skip
  have h : (blkC c.N c.sc scope (own.filterMap fun i => (c.N[i]?).map fun x => (x, i)) && (decide ((own.filterMap fun i => (c.N[i]?).map fun x => (x, i)).map (·.2) = own) &&
    (!isSet pit && (okTg (locB (c.blk scope)) tg ptg && (tgIn tg own && (okI c ptg it pit && (okT (c.blk scope) t ifs && okE (c.blk scope) elt pel))))))) = true := h
  simp only [Bool.and_eq_true, Bool.not_eq_true', decide_eq_true_eq] at h
  obtain ⟨h1, h2, h3, h4, h5, h6, h7, h8⟩ := h
  exact ⟨pel, ptg, pit, ifs, scope, pos, rfl, h1, h2, h3, h4, h5, h6, h7, h8⟩
theorem lc_set {pit : Expr} (h3 : isSet pit = false) (env : Env) : ∀ x, foldedSetIterable pit env x = pure x := by
  intro x
  cases pit <;> first | rfl | (cases h3)
theorem lc_blk {X : Cx} {c : Sc} (g : Gd cf ad fd ps n c X) {own : List Nat} {tg : NB.Tg} {it t elt : NB.E} {pel ptg pit : Expr} {ifs : List Expr} {scope : Scope} (L : LcOk c own tg it t elt pel ptg pit ifs scope) :
    BlkOk X.N X.env.scope scope (own.filterMap fun i => (c.N[i]?).map fun x => (x, i)) := by
  rw [g.hN, g.hsc]
  exact blkOk_by L.h1
theorem lc_inner {K : PySem.W.Frag} {own : List Nat} {tg : NB.Tg} {t elt : NB.E} (h5 : tgIn tg own = true) {da db : Addr} {M : Addr → Prop} {ρ : NB.Env} {δ1 δ2 : NB.Dl} {xs ds : List NB.D} {σ : L2.St} {H1 : Hp} {J : It} {G : Hp → Prop} {Y : Nat → Hp → V → Hp → Prop} {Q : VK}
    (p1 : Pre da db M H1 δ1) (en : EnvAt da M H1 σ ρ) (hlen : xs.length ≤ 100000) (e2 : NB.compGo (fun r δ => NB.evT cf t r δ) (fun r δ => NB.evE cf elt r δ) tg (NB.wipeE ρ own) xs δ1 = some (ds, δ2)) (wk : Walk J xs.length G Y) (hG : ∀ M2 H2, Step M H1 M2 H2 → G H2)
    (hY : ∀ i Hi v H' M2 δ2, i < xs.length → Pre da db M2 Hi δ2 → Step M H1 M2 Hi → Y i Hi v H' → Keep da db Hi H' ∧ DealAt da db H' δ2 ∧ ∃ d, xs[i]? = some d ∧ At da M2 H' d v)
    (r : ∀ D H', Keep da db H1 H' → DealAt da db H' δ2 → H1 D = none → At da M H' (.lst ds) (.ref D) → Q (.ref D) H') {D : Addr} (hD : H1 D = none) :
    ∃ W : Nat → Nat → Hp → Prop, (∃ m, W 0 m (upd H1 D (.lst []))) ∧ ∀ i m H, W i m H →
      (J.stop i H ∧ Q (.ref D) H) ∨ (J.go i H ∧ ∃ Nx : Hp → Prop, (∀ H', Nx H' → ∃ m', m' < m ∧ W (i + 1) m' H') ∧ ∀ x H', J.yld i H x H' → tgR K tg x (wipe σ own) H' fun σ2 H2 => wipe σ2 own = wipe σ own ∧ tTs cf t σ2 H2 fun b H3 =>
        if b = true then tE cf elt σ2 H3 fun y H4 => ∃ acc, H4 D = some (.lst acc) ∧ acc.length < sizeLine ∧ Nx (upd H4 D (.lst (acc ++ [y]))) else Nx H3) := by
  obtain ⟨nd1, nd2⟩ := ne_deal p1.deal hD
  have q1 := p1.deal
  have en1 := en.wipe own
  refine lc_it wk (fun i H2 => ∃ δi acc as rest, Keep da db H1 H2 ∧ Pre da db (fun a => M a ∨ a = D) H2 δi ∧ Step M H1 (fun a => M a ∨ a = D) H2 ∧ H2 D = some (.lst acc) ∧ Ats da (fun a => M a ∨ a = D) H2 as acc ∧
    NB.compGo (fun r δ => NB.evT cf t r δ) (fun r δ => NB.evE cf elt r δ) tg (NB.wipeE ρ own) (xs.drop i) δi = some (rest, δ2) ∧ as ++ rest = ds ∧ acc.length ≤ i) ?_ ?_ ?_ ?_
  · refine ⟨δ1, [], [], ds, Keep.new hD, ⟨.inl p1.ma, .inl p1.mb, fun a m => ?_, q1.new hD⟩, fun a o na ea => ⟨fun z => z.elim na fun w => ne_of_none ea hD w, by rw [upd_ne (ne_of_none ea hD)]; exact ea⟩, upd_same, Ats.nil, e2, rfl, Nat.le_refl _⟩
    rcases m with m | m
    · by_cases hh : a = D
      · rw [hh, upd_same]; exact fun z => nomatch z
      · rw [upd_ne hh]; exact p1.mt a m
    · rw [m, upd_same]; exact fun z => nomatch z
  · rintro i H2 _ ⟨δi, acc, as, rest, _, _, st, _⟩
    exact hG _ _ st
  · rintro i x Hi H' hi ⟨δi, acc, as, rest, kk, pi, st, hDi, ai, ci, ea, la⟩ y
    obtain ⟨kn, qn, d, ex, ad'⟩ := hY i Hi x H' _ δi hi pi st y
    have hx : xs.drop i = d :: xs.drop (i + 1) := by
      obtain ⟨hl, e⟩ := List.getElem?_eq_some_iff.mp ex
      rw [List.drop_eq_getElem_cons hl, e]
    rw [hx, NB.compGo] at ci
    obtain ⟨ρ1, c1, ci⟩ := bnd ci
    obtain ⟨⟨b, δa⟩, c2, ci⟩ := bnd ci
    obtain ⟨tp, t1, rfl⟩ := asg_ps c1
    have pn := pi.next kn qn
    have stn : Step M H1 (fun a => M a ∨ a = D) H' := st.trans (pi.step kn)
    have hDn : H' D = some (.lst acc) := kn D _ nd1 nd2 hDi
    refine tg_read t1 ad' fun qs aq => ⟨wipe_sets fun q hq => ?_, ?_⟩
    · have m : q.1 ∈ tp.map (·.1) := by rw [← atps_keys aq]; exact List.mem_map_of_mem hq
      obtain ⟨pp, hp, e⟩ := List.mem_map.mp m
      rw [← e]
      exact tgIn_of h5 t1 pp hp
    · have en2 := (en1.step stn).sets aq
      refine ⟨da, db, _, _, δi, b, δa, pn, en2, c2, fun H3 k3 q3 => ?_⟩
      have p3 := pn.next k3 q3
      have st3 := stn.trans (pn.step k3)
      have hD3 : H3 D = some (.lst acc) := k3 D _ nd1 nd2 hDn
      have a3 : Ats da (fun a => M a ∨ a = D) H3 as acc := (ai.keep pi kn).keep pn k3
      cases b with
      | false => exact ⟨δa, acc, as, rest, (kk.trans kn).trans k3, p3, st3, hD3, a3, ci, ea, by omega⟩
      | true =>
        refine (if_pos rfl).mpr ?_
        obtain ⟨⟨d2, δb⟩, c3, ci⟩ := bnd ci
        obtain ⟨⟨ds2, δc⟩, c4, ci⟩ := bnd ci
        cases ci
        refine ⟨da, db, _, _, δa, d2, δb, p3, en2.keep pn k3, c3, fun v H4 k4 q4 a4 _ => ?_⟩
        have p4 := p3.next k4 q4
        have hD4 : H4 D = some (.lst acc) := k4 D _ nd1 nd2 hD3
        refine ⟨acc, hD4, by rw [sizeLine_eq]; omega, ?_⟩
        refine ⟨δb, _, as ++ [d2], ds2, keep_upd (((kk.trans kn).trans k3).trans k4) hD, p4.upd nd1 nd2, (st3.trans (p3.step k4)).trans (upd_step (M := fun a => M a ∨ a = D) (.inr rfl)), upd_same, ?_, c4, by rw [List.append_assoc]; exact ea, by rw [List.length_append, List.length_singleton]; omega⟩
        exact Ats.step (upd_step (M := fun a => M a ∨ a = D) (.inr rfl)) _ _ (Ats.append (a3.keep p3 k4) (Ats.cons a4 Ats.nil))
  · rintro H2 ⟨δi, acc, as, rest, kk, pi, st, hDi, ai, ci, ea, la⟩
    rw [List.drop_length, NB.compGo] at ci
    cases ci
    rw [List.append_nil] at ea
    subst ea
    refine r D _ kk pi.deal hD (at_lst (p1.fresh hD) hDi (Ats.step (fun a o na e => ⟨fun m => na (.inl m), e⟩) _ _ ai))
theorem lc_read {K : PySem.W.Frag} {own : List Nat} {tg : NB.Tg} {it t elt : NB.E} (h5 : tgIn tg own = true) {σ : L2.St} {H : Hp} {Q : VK} (q : tE cf (.lc own tg it t elt) σ H Q) : tLc (tIi cf it) (tgR K tg) (tTs cf t) (tE cf elt) own σ H Q := by
  obtain ⟨da, db, M, ρ, δ, d, δ', p, en, e, r⟩ := q
  rw [NB.evE] at e
  obtain ⟨⟨xs, δ1⟩, e1, e⟩ := bnd e
  dsimp only at e
  split at e
  · rename_i hlen
    obtain ⟨⟨ds, δ2⟩, e2, e⟩ := bnd e
    cases e
    refine ⟨da, db, M, ρ, δ, xs, δ1, p, en, e1, fun J H1 G Y k1 q1 wk hG hY D hD => ?_⟩
    exact lc_inner h5 (p.next k1 q1) (en.keep p k1) hlen e2 wk hG hY (fun D H' kk qq hD a => r _ _ (k1.trans kk) qq a fun _ => ⟨D, rfl, Keep.free q1 k1 hD⟩) hD
  · cases e
theorem E_lc {own : List Nat} {tg : NB.Tg} {it t elt : NB.E} (hi : SI cf ad fd ps n it) (ht : STs cf ad fd ps n t) (he : SE cf ad fd ps n elt) : SE cf ad fd ps n (.lc own tg it t elt) := by
  intro c pe h X g
  obtain ⟨pel, ptg, pit, ifs, scope, pos, rfl, L⟩ := lc_parts h
  refine PEimp (pe_lc (g := tgR X.K tg) g.calm g.nd (hi c ptg pit L.h6 X g) (lc_blk g L) (fun s H C cl fp => pg_tg (X := X.blk s H scope (compEnvC scope cl C X.env) fp) g.calm g.nd (loc_q (g.blk s H scope cl C fp)) L.h4) (fun s H C cl fp => ht _ ifs L.h7 _ (g.blk s H scope cl C fp)) (fun s H C cl fp => he _ pel L.h8 _ (g.blk s H scope cl C fp)) (lc_set L.h3 _)) fun σ H Q q => ?_
  rw [L.h2]
  exact lc_read L.h5 q
/-! ### all -/
variable (cf ad fd ps n) in
def SW (e : NB.E) : Prop := ∀ c pe, okE c e pe = true → tst e = true → (∃ op es pos, pe = .BoolOp op es pos) → ∀ X, Gd cf ad fd ps n c X → PW X pe (tTt cf e)
variable (cf ad fd ps n) in
def KSub : NB.E → Prop
  | .cons a r => SE cf ad fd ps n a ∧ KSub r
  | _ => True
variable (cf ad fd ps n) in
structure All (e : NB.E) : Prop where
  E : SE cf ad fd ps n e
  P : SP cf ad fd ps n e
  W : SW cf ad fd ps n e
  T : STs cf ad fd ps n e
  O : SO cf ad fd ps n e
  L : SL cf ad fd ps n e
  I : SI cf ad fd ps n e
  K : KSub cf ad fd ps n e
theorem noT {e : NB.E} (h : ∀ c l, okT c e l = false) : STs cf ad fd ps n e := fun c l z => by rw [h] at z; cases z
theorem noO {e : NB.E} (h : ∀ c l, okO c e l = false) : SO cf ad fd ps n e := fun c l z => by rw [h] at z; cases z
theorem noL {e : NB.E} (h : ∀ c l, okL c e l = false) : SL cf ad fd ps n e := fun c l z => by rw [h] at z; cases z
theorem noI {e : NB.E} (h : ∀ c t l, okI c t e l = false) : SI cf ad fd ps n e := fun c t l z => by rw [h] at z; cases z
theorem noE {e : NB.E} (h : ∀ c l, okE c e l = false) : SE cf ad fd ps n e ∧ SP cf ad fd ps n e ∧ SW cf ad fd ps n e := ⟨fun c l z => (by rw [h] at z; cases z), fun c l z => (by rw [h] at z; cases z), fun c l z => (by rw [h] at z; cases z)⟩
/-- an expression that is no and, or: no BoolOp -/
theorem noW {e : NB.E} (h : ∀ c op es pos, okE c e (.BoolOp op es pos) = false) : SW cf ad fd ps n e := fun c l z _ ⟨op, es, pos, e⟩ => by rw [e, h] at z; cases z
theorem all_E {e : NB.E} (hE : SE cf ad fd ps n e) (hP : SP cf ad fd ps n e) (hW : SW cf ad fd ps n e) (h1 : ∀ c l, okT c e l = false) (h2 : ∀ c l, okO c e l = false) (h3 : ∀ c l, okL c e l = false) (h4 : ∀ c t l, okI c t e l = false) (hk : KSub cf ad fd ps n e := by trivial) : All cf ad fd ps n e :=
  ⟨hE, hP, hW, noT h1, noO h2, noL h3, noI h4, hk⟩
theorem all_D {e : NB.E} (hE : SE cf ad fd ps n e) (hP : ∀ c pe, okE c e pe = true → ∀ env w, PySem.isTrue pe env w = (do let v ← w; standAt pe.pos; holding [v] (truthy v))) (hW : ∀ c op es pos, okE c e (.BoolOp op es pos) = false)
    (h1 : ∀ c l, okT c e l = false) (h2 : ∀ c l, okO c e l = false) (h3 : ∀ c l, okL c e l = false) (h4 : ∀ c t l, okI c t e l = false) (hk : KSub cf ad fd ps n e := by trivial) : All cf ad fd ps n e :=
  all_E hE (P_def hE hP) (noW hW) h1 h2 h3 h4 hk
theorem k4_of {c : Sc} {f : NB.F} {ks : List Nat} {es : NB.E} {pe : Expr} (z : okE c (.callk f ks es) pe = true) : (∃ a1 a2 a3 a4, es = .cons a1 (.cons a2 (.cons a3 (.cons a4 .nil)))) ∧ ∃ g as kws pos, pe = .Call g as kws pos := by
  generalize he : NB.E.callk f ks es = e at z
  unfold okE at z
  split at z <;> first | (cases he; done) | (cases z; done) | skip
  cases he
  exact ⟨⟨_, _, _, _, rfl⟩, _, _, _, _, rfl⟩
theorem sound_all : ∀ e : NB.E, All cf ad fd ps n e := by
  intro e
  induction e with
  | var i => exact all_D (E_var i) (fun c pe h => by cases pe <;> first | (exact nomatch (show false = true from h)) | (intro _ _; with_unfolding_all rfl)) (fun _ _ _ _ => rfl) (fun _ _ => rfl) (fun _ _ => rfl) (fun _ _ => rfl) (fun _ _ _ => rfl)
  | glob s v => exact all_D (E_glob s v) (fun c pe h => by cases pe <;> first | (exact nomatch (show false = true from h)) | (intro _ _; with_unfolding_all rfl)) (fun _ _ _ _ => rfl) (fun _ _ => rfl) (fun _ _ => rfl) (fun _ _ => rfl) (fun _ _ _ => rfl)
  | int i => exact all_D (E_int i) (fun c pe h => by cases pe <;> first | (exact nomatch (show false = true from h)) | (intro _ _; with_unfolding_all rfl)) (fun _ _ _ _ => rfl) (fun _ _ => rfl) (fun _ _ => rfl) (fun _ _ => rfl) (fun _ _ _ => rfl)
  | neg i => exact all_D (E_neg i) (fun c pe h => by cases pe <;> first | (exact nomatch (show false = true from h)) | (rename_i op _ _; cases op <;> first | (exact nomatch (show false = true from h)) | (intro _ _; with_unfolding_all rfl))) (fun _ _ _ _ => rfl) (fun _ _ => rfl) (fun _ _ => rfl) (fun _ _ => rfl) (fun _ _ _ => rfl)
  | str i => exact all_D (E_str i) (fun c pe h => by cases pe <;> first | (exact nomatch (show false = true from h)) | (intro _ _; with_unfolding_all rfl)) (fun _ _ _ _ => rfl) (fun _ _ => rfl) (fun _ _ => rfl) (fun _ _ => rfl) (fun _ _ _ => rfl)
  | bl i => exact all_D (E_bl i) (fun c pe h => by cases pe <;> first | (exact nomatch (show false = true from h)) | (intro _ _; with_unfolding_all rfl)) (fun _ _ _ _ => rfl) (fun _ _ => rfl) (fun _ _ => rfl) (fun _ _ => rfl) (fun _ _ _ => rfl)
  | non => exact all_D E_non (fun c pe h => by cases pe <;> first | (exact nomatch (show false = true from h)) | (intro _ _; with_unfolding_all rfl)) (fun _ _ _ _ => rfl) (fun _ _ => rfl) (fun _ _ => rfl) (fun _ _ => rfl) (fun _ _ _ => rfl)
  | tup es h => exact all_D (E_tup h.L) (fun c pe h => by cases pe <;> first | (exact nomatch (show false = true from h)) | (intro _ _; with_unfolding_all rfl)) (fun _ _ _ _ => rfl) (fun _ _ => rfl) (fun _ _ => rfl) (fun _ _ => rfl) (fun _ _ _ => rfl)
  | lst es h => exact all_D (E_lst h.L) (fun c pe h => by cases pe <;> first | (exact nomatch (show false = true from h)) | (intro _ _; with_unfolding_all rfl)) (fun _ _ _ _ => rfl) (fun _ _ => rfl) (fun _ _ => rfl) (fun _ _ => rfl) (fun _ _ _ => rfl)
  | bin o a b ha hb => exact all_E (E_bin ha.E hb.E) (P_bin ha.E hb.E) (noW fun _ _ _ _ => rfl) (fun _ _ => rfl) (fun _ _ => rfl) (fun _ _ => rfl) (fun _ _ _ => rfl)
  | chain a b d ha hb hd => exact all_E (E_chain ha.E hb.E hd.E) (P_chain ha.E hb.E hd.E) (noW fun _ _ _ _ => rfl) (fun _ _ => rfl) (fun _ _ => rfl) (fun _ _ => rfl) (fun _ _ _ => rfl)
  | and a b ha hb =>
    have w := P_and ha.P fun c pe h1 h2 ⟨es, pos, e⟩ => hb.W c pe h1 h2 ⟨_, es, pos, e⟩
    exact all_E (E_and ha.E hb.E) (fun c pe h1 h2 X g => (w c pe h1 h2 X g).pt) (fun c pe h1 h2 _ => w c pe h1 h2) (fun _ _ => rfl) (fun _ _ => rfl) (fun _ _ => rfl) (fun _ _ _ => rfl)
  | or a b ha hb =>
    have w := P_or ha.P fun c pe h1 h2 ⟨es, pos, e⟩ => hb.W c pe h1 h2 ⟨_, es, pos, e⟩
    exact all_E (E_or ha.E hb.E) (fun c pe h1 h2 X g => (w c pe h1 h2 X g).pt) (fun c pe h1 h2 _ => w c pe h1 h2) (fun _ _ => rfl) (fun _ _ => rfl) (fun _ _ => rfl) (fun _ _ _ => rfl)
  | one a ha =>
    have w := P_one ha.P
    exact ⟨E_one ha.E, fun c pe h1 h2 X g => (w c pe h1 h2 X g).pt, fun c pe h1 h2 _ => w c pe h1 h2, T_of ha.P, O_of ha.E, noL fun _ _ => rfl, noI fun _ _ _ => rfl, trivial⟩
  | not a ha => exact all_E (E_not ha.E) (P_not ha.P) (noW fun _ _ _ _ => rfl) (fun _ _ => rfl) (fun _ _ => rfl) (fun _ _ => rfl) (fun _ _ _ => rfl)
  | ite t a b ht ha hb => exact all_E (E_ite ht.P ha.E hb.E) (fun c pe _ h2 => nomatch (show false = true from h2)) (noW fun _ _ _ _ => rfl) (fun _ _ => rfl) (fun _ _ => rfl) (fun _ _ => rfl) (fun _ _ _ => rfl)
  | ix a b ha hb => exact all_D (E_ix ha.E hb.E) (fun c pe h => by cases pe <;> first | (exact nomatch (show false = true from h)) | (intro _ _; with_unfolding_all rfl)) (fun _ _ _ _ => rfl) (fun _ _ => rfl) (fun _ _ => rfl) (fun _ _ => rfl) (fun _ _ _ => rfl)
  | sl a lo hi ha hlo hhi => exact all_D (E_sl ha.E hlo.O hhi.O) (fun c pe h => by cases pe <;> first | (exact nomatch (show false = true from h)) | (intro _ _; with_unfolding_all rfl)) (fun _ _ _ _ => rfl) (fun _ _ => rfl) (fun _ _ => rfl) (fun _ _ => rfl) (fun _ _ _ => rfl)
  | isi a T ha => exact all_D (E_isi ha.E) (fun c pe h => by cases pe <;> first | (exact nomatch (show false = true from h)) | (intro _ _; with_unfolding_all rfl)) (fun _ _ _ _ => rfl) (fun _ _ => rfl) (fun _ _ => rfl) (fun _ _ => rfl) (fun _ _ _ => rfl)
  | fn b es h => exact all_D (E_fn h.L) (fun c pe h => by cases pe <;> first | (exact nomatch (show false = true from h)) | (intro _ _; with_unfolding_all rfl)) (fun _ _ _ _ => rfl) (fun _ _ => rfl) (fun _ _ => rfl) (fun _ _ => rfl) (fun _ _ _ => rfl)
  | call f es h => exact all_D (E_call h.L) (fun c pe h => by cases pe <;> first | (exact nomatch (show false = true from h)) | (intro _ _; with_unfolding_all rfl)) (fun _ _ _ _ => rfl) (fun _ _ => rfl) (fun _ _ => rfl) (fun _ _ => rfl) (fun _ _ _ => rfl)
  | callk f ks es h =>
    have hE : SE cf ad fd ps n (.callk f ks es) := fun c pe z => by
      obtain ⟨a1, a2, a3, a4, e⟩ := (k4_of z).1
      subst e
      have hk := h.K
      exact E_callk hk.1 hk.2.1 hk.2.2.1 hk.2.2.2.1 c pe z
    exact all_D hE (fun c pe h => by obtain ⟨g, as, kws, pos, e⟩ := (k4_of h).2; subst e; intro _ _; with_unfolding_all rfl) (fun c op es' pos => by
      cases q : okE c (.callk f ks es) (.BoolOp op es' pos) with
      | false => rfl
      | true => obtain ⟨g, as, kws, pos, e⟩ := (k4_of q).2; cases e) (fun _ _ => rfl) (fun _ _ => rfl) (fun _ _ => rfl) (fun _ _ _ => rfl)
  | lc own tg it t elt hi ht he => exact all_D (E_lc hi.I ht.T he.E) (fun c pe h => by cases pe <;> first | (exact nomatch (show false = true from h)) | (intro _ _; with_unfolding_all rfl)) (fun _ _ _ _ => rfl) (fun _ _ => rfl) (fun _ _ => rfl) (fun _ _ => rfl) (fun _ _ _ => rfl)
  | itS a ha => exact ⟨(noE fun _ _ => rfl).1, (noE fun _ _ => rfl).2.1, (noE fun _ _ => rfl).2.2, noT fun _ _ => rfl, noO fun _ _ => rfl, noL fun _ _ => rfl, I_S ha.E, trivial⟩
  | itR1 a ha => exact ⟨(noE fun _ _ => rfl).1, (noE fun _ _ => rfl).2.1, (noE fun _ _ => rfl).2.2, noT fun _ _ => rfl, noO fun _ _ => rfl, noL fun _ _ => rfl, I_R1 ha.E, trivial⟩
  | itR2 a b ha hb => exact ⟨(noE fun _ _ => rfl).1, (noE fun _ _ => rfl).2.1, (noE fun _ _ => rfl).2.2, noT fun _ _ => rfl, noO fun _ _ => rfl, noL fun _ _ => rfl, I_R2 ha.E hb.E, trivial⟩
  | itZ a b ha hb => exact ⟨(noE fun _ _ => rfl).1, (noE fun _ _ => rfl).2.1, (noE fun _ _ => rfl).2.2, noT fun _ _ => rfl, noO fun _ _ => rfl, noL fun _ _ => rfl, I_Z ha.E hb.E, trivial⟩
  | itE a ha => exact ⟨(noE fun _ _ => rfl).1, (noE fun _ _ => rfl).2.1, (noE fun _ _ => rfl).2.2, noT fun _ _ => rfl, noO fun _ _ => rfl, noL fun _ _ => rfl, I_E ha.E, trivial⟩
  | nil => exact ⟨(noE fun _ _ => rfl).1, (noE fun _ _ => rfl).2.1, (noE fun _ _ => rfl).2.2, noT fun _ _ => rfl, noO fun _ _ => rfl, L_nil, noI fun _ _ _ => rfl, trivial⟩
  | cons a r ha hr => exact ⟨(noE fun _ _ => rfl).1, (noE fun _ _ => rfl).2.1, (noE fun _ _ => rfl).2.2, noT fun _ _ => rfl, noO fun _ _ => rfl, L_cons ha.E hr.L, noI fun _ _ _ => rfl, ha.E, hr.K⟩
  | star a r ha hr => exact ⟨(noE fun _ _ => rfl).1, (noE fun _ _ => rfl).2.1, (noE fun _ _ => rfl).2.2, noT fun _ _ => rfl, noO fun _ _ => rfl, L_star ha.E hr.L, noI fun _ _ _ => rfl, trivial⟩
  | nop => exact ⟨(noE fun _ _ => rfl).1, (noE fun _ _ => rfl).2.1, (noE fun _ _ => rfl).2.2, T_no, O_no, noL fun _ _ => rfl, noI fun _ _ _ => rfl, trivial⟩
end
end NS

set_option Elab.async false
set_option linter.all false
set_option maxRecDepth 100000
set_option maxHeartbeats 1000000
/-! The soundness of the evaluator, statements. -/
namespace NS
open PySem PySem.Spec PyProof.Rows L2 NR

theorem PSimp {X : Cx} {e : Stmt} {t u : TS} (h : PS X e t) (k : ∀ D σ H, u D σ H → t D σ H) : PS X e u := ⟨fun pins s σ H D I q => h.run pins s σ H D I (k D σ H q)⟩
theorem PSsimp {X : Cx} {e : List Stmt} {t u : TS} (h : PSs X e t) (k : ∀ D σ H, u D σ H → t D σ H) : PSs X e u := ⟨fun pins s σ H D I q => h.run pins s σ H D I (k D σ H q)⟩
/-- a list that the def is making lies there -/
def Own (σ : L2.St) (ρ : List NB.Sl) (a : Addr) : Prop := ∃ (i : Nat) (ds : List NB.D), ρ[i]? = some (.ow ds) ∧ σ[i]? = some (some (.ref a))
def MM (Mb : Addr → Prop) (σ : L2.St) (ρ : List NB.Sl) (a : Addr) : Prop := Mb a ∨ Own σ ρ a
def SlotAt (da : Addr) (M : Addr → Prop) (H : Hp) : NB.Sl → V → Prop
  | .no, _ => True
  | .va d, v => At da M H d v
  | .ow ds, v => ∃ a vs, v = .ref a ∧ H a = some (.lst vs) ∧ Ats da M H ds vs
structure StInv (da db : Addr) (Mb : Addr → Prop) (H0 : Hp) (σ : L2.St) (H : Hp) (ρ : List NB.Sl) (δ : NB.Dl) : Prop where
  len : ρ.length = σ.length
  deal : DealAt da db H δ
  ma : Mb da
  mb : Mb db
  mt : ∀ a, Mb a → H a ≠ none
  kp : Keep da db H0 H
  nw : ∀ a, Own σ ρ a → H0 a = none ∧ ¬ Mb a
  inj : ∀ (i j : Nat) ds es a, ρ[i]? = some (.ow ds) → ρ[j]? = some (.ow es) → σ[i]? = some (some (.ref a)) → σ[j]? = some (some (.ref a)) → i = j
  sl : ∀ (i : Nat) s, ρ[i]? = some s → s ≠ .no → ∃ v, σ[i]? = some (some v) ∧ SlotAt da (MM Mb σ ρ) H s v
section
variable {da db : Addr} {Mb : Addr → Prop} {H0 H H' : Hp} {σ : L2.St} {ρ : List NB.Sl} {δ δ' : NB.Dl}
theorem StInv.own (S : StInv da db Mb H0 σ H ρ δ) {a : Addr} (o : Own σ ρ a) : ∃ vs, H a = some (.lst vs) := by
  obtain ⟨i, ds, e1, e2⟩ := o
  obtain ⟨v, f1, a', vs, f2, f3, f4⟩ := S.sl i _ e1 (fun z => nomatch z)
  rw [e2] at f1
  cases f1
  cases f2
  exact ⟨vs, f3⟩
/-- the own lists are hidden -/
theorem StInv.hid (S : StInv da db Mb H0 σ H ρ δ) : Pre da db (MM Mb σ ρ) H δ ∧ EnvAt da (MM Mb σ ρ) H σ (NB.view false ρ) := by
  refine ⟨⟨.inl S.ma, .inl S.mb, fun a m => ?_, S.deal⟩, ⟨by rw [NB.view, List.length_map]; exact S.len, fun i d e => ?_⟩⟩
  · rcases m with m | m
    · exact S.mt a m
    · obtain ⟨vs, e⟩ := S.own m
      rw [e]
      exact fun z => nomatch z
  · rw [NB.view, List.getElem?_map] at e
    cases q : ρ[i]? with
    | none => rw [q] at e; cases e
    | some s =>
      rw [q] at e
      cases s with
      | no => cases e
      | ow ds => cases e
      | va d' =>
        cases e
        exact S.sl i _ q (fun z => nomatch z)
/-- the own lists are read -/
theorem StInv.ful (S : StInv da db Mb H0 σ H ρ δ) : Pre da db Mb H δ ∧ EnvAt da Mb H σ (NB.view true ρ) := by
  have st : Step (MM Mb σ ρ) H Mb H := fun a o n e => ⟨fun m => n (.inl m), e⟩
  refine ⟨⟨S.ma, S.mb, S.mt, S.deal⟩, ⟨by rw [NB.view, List.length_map]; exact S.len, fun i d e => ?_⟩⟩
  rw [NB.view, List.getElem?_map] at e
  cases q : ρ[i]? with
  | none => rw [q] at e; cases e
  | some s =>
    rw [q] at e
    cases s with
    | no => cases e
    | ow ds =>
      cases e
      obtain ⟨v, f1, a', vs, f2, f3, f4⟩ := S.sl i _ q (fun z => nomatch z)
      refine ⟨v, f1, ?_⟩
      subst f2
      exact at_lst (S.nw a' ⟨i, ds, q, f1⟩).2 f3 (Ats.step st _ _ f4)
    | va d' =>
      cases e
      obtain ⟨v, f1, f2⟩ := S.sl i _ q (fun z => nomatch z)
      exact ⟨v, f1, At.step st _ _ f2⟩
theorem SlotAt.step {M M' : Addr → Prop} (st : Step M H M' H') {s : NB.Sl} {v : V} (h : SlotAt da M H s v) (ho : ∀ a, v = .ref a → (∃ ds, s = .ow ds) → ∀ o, H a = some o → H' a = some o) : SlotAt da M' H' s v := by
  cases s with
  | no => trivial
  | va d => exact At.step st _ _ h
  | ow ds =>
    obtain ⟨a, vs, e1, e2, e3⟩ := h
    exact ⟨a, vs, e1, ho a e1 ⟨ds, rfl⟩ _ e2, Ats.step st _ _ e3⟩
theorem StInv.keep (S : StInv da db Mb H0 σ H ρ δ) (k : Keep da db H H') (q : DealAt da db H' δ') : StInv da db Mb H0 σ H' ρ δ' := by
  have st := S.hid.1.step k
  refine ⟨S.len, q, S.ma, S.mb, fun a m => ?_, S.kp.trans k, S.nw, S.inj, fun i s e n => ?_⟩
  · exact (S.ful.1.next k q).mt a m
  · obtain ⟨v, e1, e2⟩ := S.sl i s e n
    refine ⟨v, e1, e2.step st fun a ea eo o ho => ?_⟩
    obtain ⟨ds, rfl⟩ := eo
    subst ea
    have nn := (S.nw a ⟨i, ds, e, e1⟩).2
    exact k a o (fun z => nn (z ▸ S.ma)) (fun z => nn (z ▸ S.mb)) ho
theorem StInv.stp (S : StInv da db Mb H0 σ H ρ δ) (k : Keep da db H H') : Step (MM Mb σ ρ) H (MM Mb σ ρ) H' := S.hid.1.step k
mutual
theorem At.flat {M M' : Addr → Prop} (h : ∀ a vs, ¬ M a → H a = some (.tup vs) → ¬ M' a) : ∀ (d : NB.D) (v : V), NB.flat d = true → At da M H d v → At da M' H d v
  | .int _, _, _, e => by rw [At] at *; exact e
  | .str _, _, _, e => by rw [At] at *; exact e
  | .bl _, _, _, e => by rw [At] at *; exact e
  | .non, _, _, e => by rw [At] at *; exact e
  | .rep _, _, _, e => by rw [At] at *; exact e
  | .deal, _, f, _ => by simp [NB.flat] at f
  | .lst _, _, f, _ => by simp [NB.flat] at f
  | .tup ds, v, f, e => by
    obtain ⟨a, vs, e1, n, e2, r⟩ := e.tup
    rw [e1]
    exact at_tup (h a vs n e2) e2 (Ats.flat h ds vs (by simpa [NB.flat] using f) r)
theorem Ats.flat {M M' : Addr → Prop} (h : ∀ a vs, ¬ M a → H a = some (.tup vs) → ¬ M' a) : ∀ (ds : List NB.D) (vs : List V), NB.flats ds = true → Ats da M H ds vs → Ats da M' H ds vs
  | [], _, _, e => by rw [Ats] at *; exact e
  | d :: ds, vs, f, e => by
    rw [Ats] at e
    obtain ⟨v, r, e1, h1, h2⟩ := e
    simp only [NB.flats, Bool.and_eq_true] at f
    rw [e1]
    exact Ats.cons (At.flat h d v f.1 h1) (Ats.flat h ds r f.2 h2)
end
variable {cf : NB.CF}
/-- marks and more -/
def Plus (M P : Addr → Prop) (a : Addr) : Prop := M a ∨ P a
/-- one expression of a statement, as its mode says, once lists at P were made -/
theorem tM_read {Hc : Hp} {δc : NB.Dl} {P : Addr → Prop} (S : StInv da db Mb H0 σ H ρ δ) (kc : Keep da db H Hc) (qc : DealAt da db Hc δc) (hP : ∀ a, P a → H a = none ∧ ∃ vs, Hc a = some (.lst vs)) {e : NB.E} {m : NB.Md} {s : NB.Sl} (h : NB.evM cf e m ρ δc = some (s, δ')) {Q : VK}
    (q : ∀ v H', Keep da db Hc H' → DealAt da db H' δ' → SlotAt da (Plus (MM Mb σ ρ) P) H' s v → (∀ ds, s = .ow ds → NB.flats ds = true ∧ ∃ p, v = .ref p ∧ Hc p = none) → s ≠ .no → Q v H') : tE cf e σ Hc Q := by
  unfold NB.evM at h
  obtain ⟨⟨d, δ1⟩, e1, h⟩ := bnd h
  dsimp only at h
  have S1 := S.keep kc qc
  have go : ∀ M ρ', Pre da db M Hc δc → EnvAt da M Hc σ ρ' → NB.evE cf e ρ' δc = some (d, δ1) → (∀ H' d v, Keep da db Hc H' → DealAt da db H' δ' → At da M H' d v → (m.full = false ∨ NB.flat d = true) → At da (Plus (MM Mb σ ρ) P) H' d v) →
      (∀ H' d v, Keep da db Hc H' → DealAt da db H' δ' → Ats da M H' d v → NB.flats d = true → Ats da (Plus (MM Mb σ ρ) P) H' d v) → tE cf e σ Hc Q := by
    intro M ρ' p en ev hA hB
    refine ⟨da, db, M, ρ', δc, d, δ1, p, en, ev, fun v H' k' q' a' f' => ?_⟩
    split at h
    · split at h
      · rename_i ds
        split at h
        · rename_i hf
          simp only [Bool.and_eq_true] at hf
          cases h
          obtain ⟨a, vs, rfl, na, ha, r⟩ := a'.lst
          obtain ⟨p0, ep, hp⟩ := f' hf.1
          refine q _ H' k' q' ⟨a, vs, rfl, ha, hB _ _ _ k' q' r hf.2⟩ (fun ds' e => ?_) (fun z => nomatch z)
          cases e
          exact ⟨hf.2, p0, ep, hp⟩
        · cases h
      · cases h
    · split at h
      · rename_i hf
        cases h
        refine q _ H' k' q' (hA _ _ _ k' q' a' ?_) (fun ds e => nomatch e) (fun z => nomatch z)
        simp only [Bool.or_eq_true, Bool.not_eq_true'] at hf
        exact hf
      · cases h
  have nP : ∀ a, P a → a ≠ da ∧ a ≠ db := fun a m =>
    ⟨fun z => (by have q := (hP a m).1; rw [z, S.deal.at_] at q; cases q), fun z => (by have q := (hP a m).1; rw [z, S.deal.cells] at q; cases q)⟩
  have fl : ∀ H', Keep da db Hc H' → DealAt da db H' δ' → ∀ a vs, ¬ Plus Mb P a → H' a = some (.tup vs) → ¬ Plus (MM Mb σ ρ) P a := fun H' k' q' a vs n e m => by
    rcases m with (m | m) | m
    · exact n (.inl m)
    · obtain ⟨us, e'⟩ := (S1.keep k' q').own m
      rw [e] at e'
      cases e'
    · exact n (.inr m)
  cases hm : m.full with
  | false =>
    rw [hm] at e1
    obtain ⟨p, en⟩ := S.hid
    have st : Step (MM Mb σ ρ) H (Plus (MM Mb σ ρ) P) Hc := fun a o n e => ⟨fun m => m.elim n fun m => (by rw [(hP a m).1] at e; cases e), (S.stp kc a o n e).2⟩
    have p1 := S1.hid.1
    refine go _ _ ⟨.inl p1.ma, .inl p1.mb, fun a m => ?_, qc⟩ (en.step st) e1 (fun _ _ _ _ _ a _ => a) (fun _ _ _ _ _ a _ => a)
    rcases m with m | m
    · exact p1.mt a m
    · obtain ⟨vs, e⟩ := (hP a m).2
      rw [e]
      exact fun z => nomatch z
  | true =>
    rw [hm] at e1
    obtain ⟨p, en⟩ := S.ful
    have st : Step Mb H (Plus Mb P) Hc := fun a o n e => ⟨fun m => m.elim n fun m => (by rw [(hP a m).1] at e; cases e), (p.step kc a o n e).2⟩
    have p1 := S1.ful.1
    refine go _ _ ⟨.inl p1.ma, .inl p1.mb, fun a m => ?_, qc⟩ (en.step st) e1 (fun H' d v k' q' a f => ?_) (fun H' d v k' q' a f => Ats.flat (fl H' k' q') d v f a)
    · rcases m with m | m
      · exact p1.mt a m
      · obtain ⟨vs, e⟩ := (hP a m).2
        rw [e]
        exact fun z => nomatch z
    · rcases f with f | f
      · rw [hm] at f; cases f
      · exact At.flat (fl H' k' q') d v f a
/-- a full expression: only a reading -/
theorem tF_read (S : StInv da db Mb H0 σ H ρ δ) {e : NB.E} {d : NB.D} (h : NB.evE cf e (NB.view true ρ) δ = some (d, δ')) {Q : VK}
    (q : ∀ v H', Keep da db H H' → DealAt da db H' δ' → At da Mb H' d v → Q v H') : tE cf e σ H Q :=
  ⟨da, db, Mb, _, δ, d, δ', S.ful.1, S.ful.2, h, fun v H' k' q' a' _ => q v H' k' q' a'⟩
theorem tT_read (S : StInv da db Mb H0 σ H ρ δ) {e : NB.E} {b : Bool} (h : NB.evE cf e (NB.view true ρ) δ = some (.bl b, δ')) {Q : Bool → Hp → Prop}
    (q : ∀ H', Keep da db H H' → DealAt da db H' δ' → Q b H') : tTt cf e σ H Q :=
  ⟨da, db, Mb, _, δ, b, δ', S.ful.1, S.ful.2, h, q⟩
abbrev Tr := Nat × NB.Sl × V
def setT (σ : L2.St) (ts : List Tr) : L2.St := ts.foldl (fun r t => r.set t.1 (some t.2.2)) σ
def setR (ρ : List NB.Sl) (ts : List Tr) : List NB.Sl := ts.foldl (fun r t => r.set t.1 t.2.1) ρ
theorem setT_length : ∀ (ts : List Tr) (σ : L2.St), (setT σ ts).length = σ.length
  | [], _ => rfl
  | t :: ts, σ => by show (setT (σ.set t.1 (some t.2.2)) ts).length = _; rw [setT_length ts, List.length_set]
theorem setR_length : ∀ (ts : List Tr) (σ : List NB.Sl), (setR σ ts).length = σ.length
  | [], _ => rfl
  | t :: ts, σ => by show (setR (σ.set t.1 t.2.1) ts).length = _; rw [setR_length ts, List.length_set]
theorem setR_get {i : Nat} {s : NB.Sl} : ∀ (ts : List Tr) (σ : L2.St) (ρ : List NB.Sl), ρ.length = σ.length → (setR ρ ts)[i]? = some s → (ρ[i]? = some s ∧ (setT σ ts)[i]? = σ[i]?) ∨ ∃ v, (i, s, v) ∈ ts ∧ (setT σ ts)[i]? = some (some v)
  | [], σ, ρ, _, e => .inl ⟨e, rfl⟩
  | t :: ts, σ, ρ, l, e => by
    rcases setR_get ts (σ.set t.1 (some t.2.2)) (ρ.set t.1 t.2.1) (by rw [List.length_set, List.length_set]; exact l) e with ⟨h1, h2⟩ | ⟨v, h1, h2⟩
    · by_cases hi : t.1 = i
      · have hl := (List.getElem?_eq_some_iff.mp h1).1
        rw [List.length_set] at hl
        rw [hi, List.getElem?_set_self hl] at h1
        have h1 := Option.some.inj h1
        refine .inr ⟨t.2.2, ?_, ?_⟩
        · rw [← h1, ← hi]; exact List.mem_cons_self
        · show (setT (σ.set t.1 (some t.2.2)) ts)[i]? = _
          rw [h2, hi, List.getElem?_set_self (by rw [← l]; exact hl)]
      · rw [List.getElem?_set_ne hi] at h1
        refine .inl ⟨h1, ?_⟩
        show (setT (σ.set t.1 (some t.2.2)) ts)[i]? = _
        rw [h2, List.getElem?_set_ne hi]
    · exact .inr ⟨v, List.mem_cons_of_mem _ h1, h2⟩
/-- the own lists among new values -/
def POw (ts : List Tr) (a : Addr) : Prop := ∃ i ds, (i, NB.Sl.ow ds, V.ref a) ∈ ts
/-- new values for slots, got on the way from H to H' -/
structure Good (da : Addr) (M : Addr → Prop) (H H' : Hp) (ts : List Tr) : Prop where
  at_ : ∀ t ∈ ts, SlotAt da (Plus M (POw ts)) H' t.2.1 t.2.2
  fr : ∀ t ∈ ts, ∀ ds, t.2.1 = .ow ds → ∃ p, t.2.2 = .ref p ∧ H p = none
  ds : ∀ t ∈ ts, ∀ u ∈ ts, t.1 ≠ u.1 → ∀ ds es, t.2.1 = .ow ds → u.2.1 = .ow es → t.2.2 ≠ u.2.2
theorem Good.nil {M : Addr → Prop} : Good da M H H' [] := ⟨fun _ h => (nomatch h), fun _ h => (nomatch h), fun _ h => (nomatch h)⟩
theorem Good.own {M : Addr → Prop} {ts : List Tr} (G : Good da M H H' ts) {a : Addr} (m : POw ts a) : H a = none ∧ ∃ vs, H' a = some (.lst vs) := by
  obtain ⟨i, ds, m⟩ := m
  obtain ⟨p, e1, e2⟩ := G.fr _ m ds rfl
  obtain ⟨a2, vs, f1, f2, _⟩ := G.at_ _ m
  cases e1
  cases f1
  exact ⟨e2, vs, f2⟩
theorem Good.snoc {M : Addr → Prop} {ts : List Tr} {Hc : Hp} {δ δ' : NB.Dl} (G : Good da M H Hc ts) (ma : M da) (mb : M db) (dl : DealAt da db H δ) (kc : Keep da db H Hc) (qc : DealAt da db Hc δ') (k : Keep da db Hc H') {i : Nat} {s : NB.Sl} {v : V} (a : SlotAt da (Plus M (POw ts)) H' s v)
    (f : ∀ ds, s = .ow ds → NB.flats ds = true ∧ ∃ p, v = .ref p ∧ Hc p = none) : Good da M H H' (ts ++ [(i, s, v)]) := by
  have pn : ∀ x, POw (ts ++ [(i, s, v)]) x → POw ts x ∨ ((∃ ds, s = .ow ds) ∧ v = .ref x ∧ Hc x = none) := fun x ⟨j, ds, m⟩ => by
    rcases List.mem_append.mp m with m | m
    · exact .inl ⟨j, ds, m⟩
    · cases List.mem_singleton.mp m
      obtain ⟨_, p, e, hp⟩ := f ds rfl
      cases e
      exact .inr ⟨⟨ds, rfl⟩, rfl, hp⟩
  have st : Step (Plus M (POw ts)) Hc (Plus M (POw (ts ++ [(i, s, v)]))) H' := fun x o n e => by
    refine ⟨fun m => ?_, k x o (fun z => n (.inl (z ▸ ma))) (fun z => n (.inl (z ▸ mb))) e⟩
    rcases m with m | m
    · exact n (.inl m)
    · rcases pn x m with m | ⟨_, _, m⟩
      · exact n (.inr m)
      · rw [e] at m; cases m
  refine ⟨fun t ht => ?_, fun t ht ds e => ?_, fun t ht u hu ne ds es e1 e2 z => ?_⟩
  · rcases List.mem_append.mp ht with ht | ht
    · refine (G.at_ t ht).step st fun x ex eo o ho => ?_
      obtain ⟨ds, eo⟩ := eo
      obtain ⟨p, e1, e2⟩ := G.fr t ht ds eo
      rw [ex] at e1
      cases e1
      exact k x o (fun z => by rw [z, dl.at_] at e2; cases e2) (fun z => by rw [z, dl.cells] at e2; cases e2) ho
    · cases List.mem_singleton.mp ht
      cases s with
      | no => trivial
      | va d =>
        refine At.step (H := H') (M := Plus M (POw ts)) (fun x o n e => ⟨fun m => ?_, e⟩) _ _ a
        rcases m with m | m
        · exact n (.inl m)
        · rcases pn x m with m | ⟨⟨_, m⟩, _⟩
          · exact n (.inr m)
          · cases m
      | ow ds =>
        obtain ⟨p, vs, e1, e2, e3⟩ := a
        refine ⟨p, vs, e1, e2, Ats.flat (fun x us n e m => ?_) _ _ (f ds rfl).1 e3⟩
        rcases m with m | m
        · exact n (.inl m)
        · rcases pn x m with m | ⟨_, m, _⟩
          · exact n (.inr m)
          · rw [e1] at m
            cases m
            rw [e2] at e
            cases e
  · rcases List.mem_append.mp ht with ht | ht
    · exact G.fr t ht ds e
    · cases List.mem_singleton.mp ht
      obtain ⟨_, p, e1, e2⟩ := f ds e
      exact ⟨p, e1, Keep.free qc kc e2⟩
  · rcases List.mem_append.mp ht with ht | ht
    · rcases List.mem_append.mp hu with hu | hu
      · exact G.ds t ht u hu ne ds es e1 e2 z
      · cases List.mem_singleton.mp hu
        obtain ⟨_, p, f1, f2⟩ := f es e2
        obtain ⟨j, t1, t2⟩ := t
        simp only at e1 z
        rw [f1] at z
        subst e1 z
        obtain ⟨_, vs, e⟩ := G.own ⟨j, ds, ht⟩
        rw [f2] at e
        cases e
    · cases List.mem_singleton.mp ht
      rcases List.mem_append.mp hu with hu | hu
      · obtain ⟨_, p, f1, f2⟩ := f ds e1
        obtain ⟨j, t1, t2⟩ := u
        simp only at e2 z
        rw [f1] at z
        subst e2 z
        obtain ⟨_, vs, e⟩ := G.own ⟨j, es, hu⟩
        rw [f2] at e
        cases e
      · cases List.mem_singleton.mp hu
        exact ne rfl
/-- slots are set -/
theorem StInv.sets (S : StInv da db Mb H0 σ H ρ δ) (k : Keep da db H H') (q : DealAt da db H' δ') {ts : List Tr} (G : Good da (MM Mb σ ρ) H H' ts) :
    StInv da db Mb H0 (setT σ ts) H' (setR ρ ts) δ' ∧ Step (MM Mb σ ρ) H (MM Mb (setT σ ts) (setR ρ ts)) H' := by
  have S' := S.keep k q
  have get := fun {i s} (e : (setR ρ ts)[i]? = some s) => setR_get ts σ ρ S.len e
  have ownOf : ∀ a, Own (setT σ ts) (setR ρ ts) a → Own σ ρ a ∨ POw ts a := fun a ⟨i, ds, e1, e2⟩ => by
    rcases get e1 with ⟨h1, h2⟩ | ⟨v, h1, h2⟩
    · rw [h2] at e2
      exact .inl ⟨i, ds, h1, e2⟩
    · rw [h2] at e2
      cases e2
      exact .inr ⟨i, ds, h1⟩
  have freshN : ∀ a, POw ts a → H a = none := fun a m => (G.own m).1
  have st : Step (MM Mb σ ρ) H (MM Mb (setT σ ts) (setR ρ ts)) H' := fun a o n e => by
    refine ⟨fun m => ?_, (S.stp k a o n e).2⟩
    rcases m with m | m
    · exact n (.inl m)
    · rcases ownOf a m with m | m
      · exact n (.inr m)
      · rw [freshN a m] at e; cases e
  have sub : ∀ a, MM Mb (setT σ ts) (setR ρ ts) a → Plus (MM Mb σ ρ) (POw ts) a := fun a m => by
    rcases m with m | m
    · exact .inl (.inl m)
    · rcases ownOf a m with m | m
      · exact .inl (.inr m)
      · exact .inr m
  refine ⟨⟨by rw [setT_length, setR_length]; exact S.len, q, S.ma, S.mb, S'.mt, S'.kp, fun a o => ?_, fun i j ds es a e1 e2 e3 e4 => ?_, fun i s' e n => ?_⟩, st⟩
  · rcases ownOf a o with m | m
    · exact S.nw a m
    · have hn := freshN a m
      refine ⟨?_, fun m => S.mt a m hn⟩
      cases e : H0 a with
      | none => rfl
      | some o =>
        have nda : a ≠ da := fun z => by rw [z, S.deal.at_] at hn; cases hn
        have ndb : a ≠ db := fun z => by rw [z, S.deal.cells] at hn; cases hn
        rw [S.kp a o nda ndb e] at hn
        cases hn
  · rcases get e1 with ⟨h1, h2⟩ | ⟨v, h1, h2⟩
    · rw [h2] at e3
      rcases get e2 with ⟨h3, h4⟩ | ⟨w, h3, h4⟩
      · rw [h4] at e4
        exact S.inj i j ds es a h1 h3 e3 e4
      · rw [h4] at e4
        cases e4
        obtain ⟨us, e5⟩ := S.own ⟨i, ds, h1, e3⟩
        rw [freshN a ⟨_, _, h3⟩] at e5
        cases e5
    · rw [h2] at e3
      have e3 := Option.some.inj (Option.some.inj e3)
      subst e3
      rcases get e2 with ⟨h3, h4⟩ | ⟨w, h3, h4⟩
      · rw [h4] at e4
        obtain ⟨us, e5⟩ := S.own ⟨j, es, h3, e4⟩
        rw [freshN a ⟨_, _, h1⟩] at e5
        cases e5
      · rw [h4] at e4
        have e4 := Option.some.inj (Option.some.inj e4)
        subst e4
        by_cases hij : i = j
        · exact hij
        · exact absurd rfl (G.ds (i, .ow ds, .ref a) h1 (j, .ow es, .ref a) h3 hij ds es rfl rfl)
  · rcases get e with ⟨h1, h2⟩ | ⟨v, h1, h2⟩
    · obtain ⟨u, e1, e2⟩ := S.sl i s' h1 n
      refine ⟨u, by rw [h2]; exact e1, e2.step st fun a ea eo o ho => ?_⟩
      obtain ⟨ds, rfl⟩ := eo
      subst ea
      have nn := (S.nw a ⟨i, ds, h1, e1⟩).2
      exact k a o (fun z => nn (z ▸ S.ma)) (fun z => nn (z ▸ S.mb)) ho
    · exact ⟨v, h2, (G.at_ _ h1).step (fun a o n e => ⟨fun m => n (sub a m), e⟩) fun _ _ _ _ e => e⟩
end
/-! ### the readings of statements -/
section
variable (cf : NB.CF)
def After (D : Ends) (da db : Addr) (Mb : Addr → Prop) (H0 : Hp) (σ : L2.St) (H : Hp) (ρ : List NB.Sl) (f : NB.Fl) (δ' : NB.Dl) : Prop :=
  match f with
  | .nx ρ' => ∀ σ' H', StInv da db Mb H0 σ' H' ρ' δ' → Step (MM Mb σ ρ) H (MM Mb σ' ρ') H' → D.nx σ' H'
  | .rt d => ∀ v H', Keep da db H0 H' → DealAt da db H' δ' → At da Mb H' d v → D.rt v H'
def tS (st : NB.S) : TS := fun D σ H => ∃ da db Mb H0 ρ δ f δ', StInv da db Mb H0 σ H ρ δ ∧ NB.exec cf st ρ δ = some (f, δ') ∧ After D da db Mb H0 σ H ρ f δ'
end
section
variable (cf : NB.CF) (ad : NB.F → Addr) (fd : NB.F → FuncData) (ps : NB.F → List Str) (n : Nat)
structure GdF (c : Sc) (X : Cx) : Prop where
  g : Gd cf ad fd ps n c X
  fnc : ∀ x, X.env.scope.names.lookup x = some .cell → X.fn x = true
  kd : X.env.scope.kind = .function
  xe : X.xe = fun _ _ => False
def SS (st : NB.S) : Prop := ∀ c s, okS c st s = true → ∀ X, GdF cf ad fd ps n c X → PS X s (tS cf st)
def SB (st : NB.S) : Prop := ∀ c ss, okB c st ss = true → ∀ X, GdF cf ad fd ps n c X → PSs X ss (tS cf st)
end
section
variable {cf : NB.CF} {ad : NB.F → Addr} {fd : NB.F → FuncData} {ps : NB.F → List Str} {n : Nat}
theorem GdF.own {c : Sc} {X : Cx} (g : GdF cf ad fd ps n c X) : PassesOwn (model X.prog X.w) X.A X.env X.xe := by
  rw [g.xe]
  exact PassesOwn.never
theorem locF_q {c : Sc} {X : Cx} (g : GdF cf ad fd ps n c X) : ∀ i x, locF c i x = true → X.N[i]? = some x ∧ Loc X.env.scope x ∧ (X.fn x = true ∨ X.env.scope.names.lookup x = some .local) := fun i x h => by
  simp only [locF, Bool.and_eq_true, Bool.or_eq_true, decide_eq_true_eq] at h
  refine ⟨by rw [g.g.hN]; exact h.1, ?_, ?_⟩
  · rw [g.g.hsc]; exact h.2
  · rcases h.2 with e | e
    · exact .inr (by rw [g.g.hsc]; exact e)
    · exact .inl (g.fnc x (by rw [g.g.hsc]; exact e))
theorem S_never : SS cf ad fd ps n .never := by
  intro c s h X g
  refine PSimp ps_never fun D σ H q => ?_
  obtain ⟨da, db, Mb, H0, ρ, δ, f, δ', S, e, k⟩ := q
  cases e
theorem B_skip : SB cf ad fd ps n .skip := by
  intro c s h X g
  cases s <;> first | (exact nomatch (show false = true from h)) | skip
  refine PSsimp pss_nil fun D σ H q => ?_
  obtain ⟨da, db, Mb, H0, ρ, δ, f, δ', S, e, k⟩ := q
  rw [NB.exec] at e
  cases e
  exact k σ H S (Step.refl _ _)
theorem B_seq {a b : NB.S} (ha : SS cf ad fd ps n a) (hb : SB cf ad fd ps n b) : SB cf ad fd ps n (.seq a b) := by
  intro c s h X g
  cases s <;> first | (exact nomatch (show false = true from h)) | skip
  rename_i st sts
  have h : (okS c a st && okB c b sts) = true := h
  simp only [Bool.and_eq_true] at h
  refine PSsimp (pss_cons (ha c st h.1 X g) (hb c sts h.2 X g)) fun D σ H q => ?_
  obtain ⟨da, db, Mb, H0, ρ, δ, f, δ', S, e, k⟩ := q
  rw [NB.exec] at e
  obtain ⟨⟨f1, δ1⟩, e1, e⟩ := bnd e
  refine ⟨da, db, Mb, H0, ρ, δ, f1, δ1, S, e1, ?_⟩
  cases f1 with
  | nx ρ1 =>
    intro σ1 H1 S1 st1
    refine ⟨da, db, Mb, H0, ρ1, δ1, f, δ', S1, e, ?_⟩
    cases f with
    | nx ρ2 => exact fun σ2 H2 S2 st2 => k σ2 H2 S2 (st1.trans st2)
    | rt d => exact k
  | rt d => cases e; exact k
theorem B_frz {x : Nat} {b : NB.S} (hb : SB cf ad fd ps n b) : SB cf ad fd ps n (.frz x b) := by
  intro c s h X g
  refine PSsimp (hb c s h X g) fun D σ H q => ?_
  obtain ⟨da, db, Mb, H0, ρ, δ, f, δ', S, e, k⟩ := q
  rw [NB.exec] at e
  split at e
  · rename_i ds ex
    have hl : x < ρ.length := (List.getElem?_eq_some_iff.mp ex).1
    obtain ⟨v, g1, a, vs, g2, g3, g4⟩ := S.sl x _ ex (fun z => nomatch z)
    subst g2
    have sub : ∀ y, Own σ (ρ.set x (.va (.lst ds))) y → Own σ ρ y ∧ y ≠ a := fun y ⟨i, es, e1, e2⟩ => by
      by_cases hi : i = x
      · rw [hi, List.getElem?_set_self hl] at e1; cases e1
      · rw [List.getElem?_set_ne (fun z => hi z.symm)] at e1
        refine ⟨⟨i, es, e1, e2⟩, fun z => hi ?_⟩
        subst z
        exact S.inj i x es ds y e1 ex e2 g1
    have st : Step (MM Mb σ ρ) H (MM Mb σ (ρ.set x (.va (.lst ds)))) H := fun y o n e => ⟨fun m => n (m.elim .inl fun m => .inr (sub y m).1), e⟩
    have na : ¬ MM Mb σ (ρ.set x (.va (.lst ds))) a := fun m => m.elim (S.nw a ⟨x, ds, ex, g1⟩).2 fun m => (sub a m).2 rfl
    have S1 : StInv da db Mb H0 σ H (ρ.set x (.va (.lst ds))) δ := by
      refine ⟨by rw [List.length_set]; exact S.len, S.deal, S.ma, S.mb, S.mt, S.kp, fun y o => S.nw y (sub y o).1, fun i j d1 d2 y e1 e2 e3 e4 => ?_, fun i s' e1 n => ?_⟩
      · have p1 : ρ[i]? = some (.ow d1) := by
          by_cases hi : i = x
          · rw [hi, List.getElem?_set_self hl] at e1; cases e1
          · rwa [List.getElem?_set_ne (fun z => hi z.symm)] at e1
        have p2 : ρ[j]? = some (.ow d2) := by
          by_cases hi : j = x
          · rw [hi, List.getElem?_set_self hl] at e2; cases e2
          · rwa [List.getElem?_set_ne (fun z => hi z.symm)] at e2
        exact S.inj i j d1 d2 y p1 p2 e3 e4
      · by_cases hi : i = x
        · rw [hi, List.getElem?_set_self hl] at e1
          cases e1
          exact ⟨_, by rw [hi]; exact g1, at_lst na g3 (Ats.step st _ _ g4)⟩
        · rw [List.getElem?_set_ne (fun z => hi z.symm)] at e1
          obtain ⟨w, w1, w2⟩ := S.sl i s' e1 n
          exact ⟨w, w1, w2.step st fun _ _ _ _ e => e⟩
    refine ⟨da, db, Mb, H0, _, δ, f, δ', S1, e, ?_⟩
    cases f with
    | nx ρ2 => exact fun σ2 H2 S2 st2 => k σ2 H2 S2 (st.trans st2)
    | rt d => exact k
  · cases e
theorem S_ret {e : NB.E} : SS cf ad fd ps n (.ret e) := by
  intro c s h X g
  cases s <;> first | (exact nomatch (show false = true from h)) | skip
  rename_i p pos
  cases p <;> first | (exact nomatch (show false = true from h)) | skip
  rename_i p
  refine PSimp (ps_ret ((sound_all e).E c p h X g.g)) fun D σ H q => ?_
  obtain ⟨da, db, Mb, H0, ρ, δ, f, δ', S, e, k⟩ := q
  rw [NB.exec] at e
  obtain ⟨⟨d, δ1⟩, e1, e⟩ := bnd e
  cases e
  exact tF_read S e1 fun v H' k' q' a' => k v H' (S.kp.trans k') q' a'
theorem noswp {p : Expr} (h : isComp p = false) (t : Option Expr) (l : Nat) (env : Env) : swapsWith p t l env = pure false := by
  cases p <;> first | (cases h; done) | rfl
theorem S_drop {e : NB.E} : SS cf ad fd ps n (.drop e) := by
  intro c s h X g
  cases s <;> first | (exact nomatch (show false = true from h)) | skip
  rename_i p pos
  have h : (!isComp p && okE c e p) = true := h
  simp only [Bool.and_eq_true, Bool.not_eq_true'] at h
  refine PSimp (ps_expr ((sound_all e).E c p h.2 X g.g) (noswp h.1 _ _ _)) fun D σ H q => ?_
  obtain ⟨da, db, Mb, H0, ρ, δ, f, δ', S, e, k⟩ := q
  rw [NB.exec] at e
  obtain ⟨⟨d, δ1⟩, e1, e⟩ := bnd e
  cases e
  exact tF_read S e1 fun v H' k' q' a' => k σ H' (S.keep k' q') (S.stp k')
theorem noP : ∀ a, (fun _ : Addr => False) a → (none : Option HO) = none ∧ ∃ vs : List V, (none : Option HO) = some (.lst vs) := fun _ h => h.elim
theorem plus_no {da : Addr} {M : Addr → Prop} {H : Hp} {s : NB.Sl} {v : V} (a : SlotAt da (Plus M (fun _ => False)) H s v) : SlotAt da M H s v :=
  a.step (fun x o n e => ⟨fun m => n (.inl m), e⟩) fun _ _ _ _ e => e
theorem pow_nil : POw ([] : List Tr) = fun _ => False := by
  funext a
  exact propext ⟨fun ⟨_, _, m⟩ => (nomatch m), False.elim⟩
/-- an expression, one slot -/
theorem t1_read {da db : Addr} {Mb : Addr → Prop} {H0 H : Hp} {σ : L2.St} {ρ : List NB.Sl} {δ δ' : NB.Dl} (S : StInv da db Mb H0 σ H ρ δ) {e : NB.E} {m : NB.Md} {s : NB.Sl} (h : NB.evM cf e m ρ δ = some (s, δ')) {Q : VK}
    (q : ∀ v H', Keep da db H H' → DealAt da db H' δ' → SlotAt da (MM Mb σ ρ) H' s v → (∀ i, Good da (MM Mb σ ρ) H H' [(i, s, v)]) → s ≠ .no → Q v H') : tE cf e σ H Q := by
  refine tM_read (P := POw []) S (Keep.refl _ _ _) S.deal (fun a m => (by obtain ⟨_, _, m⟩ := m; exact nomatch m)) h fun v H' k' q' a' f' n' => q v H' k' q' ?_ (fun i => ?_) n'
  · rw [pow_nil] at a'
    exact plus_no a'
  · exact Good.nil.snoc (ts := []) (.inl S.ma) (.inl S.mb) S.deal (Keep.refl _ _ _) S.deal k' a' f'
theorem S_set {x : Nat} {e : NB.E} {m : NB.Md} : SS cf ad fd ps n (.set x e m) := by
  intro c s h X g
  cases s <;> first | (exact nomatch (show false = true from h)) | skip
  rename_i ts p pos
  rcases ts with _ | ⟨t, _ | ⟨_, _⟩⟩ <;> first | (exact nomatch (show false = true from h)) | skip
  · cases t <;> first | (exact nomatch (show false = true from h)) | skip
    rename_i y py
    have h : (locF c x y && (okE c e p && (!isComp p || swpB c y py p))) = true := h
    simp only [Bool.and_eq_true, Bool.not_eq_true', Bool.or_eq_true] at h
    obtain ⟨h1, h2, h3⟩ := h
    obtain ⟨l1, l2, l3⟩ := locF_q g x y h1
    have rd : ∀ D σ H, tS cf (.set x e m) D σ H → tE cf e σ H (fun v H' => gName x v σ H' D.nx) := fun D σ H q => by
      obtain ⟨da, db, Mb, H0, ρ, δ, f, δ', S, e, k⟩ := q
      rw [NB.exec] at e
      obtain ⟨⟨d, δ1⟩, e1, e⟩ := bnd e
      cases e
      refine t1_read S e1 fun v H' k' q' a' G n' => ?_
      obtain ⟨S1, st1⟩ := S.sets k' q' (G x)
      exact k _ H' S1 st1
    have h3 : isComp p = false ∨ swpB c y py p = true := by
      rcases h3 with h | h
      · exact .inl (by simpa using h)
      · exact .inr h
    rcases h3 with h3 | h3
    · exact PSimp (ps_set g.g.nd l1 l2 ((sound_all e).E c p h2 X g.g) (noswp h3 _ _ _) l3) fun D σ H q => rd D σ H q
    · cases p <;> first | (exact nomatch (show false = true from h3)) | skip
      rename_i pel gens scope ppos hx
      have h3 : (decide (c.sc.names.lookup y = some .local) && ((py.line == ppos.line) && !(scope.names.any fun (n, k) => n == y && (k == .local || k == .cell)))) = true := h3
      simp only [Bool.and_eq_true, decide_eq_true_eq, Bool.not_eq_true'] at h3
      obtain ⟨n1, n2, n3⟩ := h3
      have n1 : X.env.scope.names.lookup y = some .local := by rw [g.g.hsc]; exact n1
      cases e <;> first | (exact nomatch (show false = true from h2)) | (exact absurd (k4_of h2).2 (by rintro ⟨_, _, _, _, z⟩; cases z)) | skip
      rename_i own tg it t elt
      obtain ⟨pel', ptg, pit, ifs, scope', pos', ep, L⟩ := lc_parts h2
      cases ep
      have q1 := sound_all (cf := cf) (ad := ad) (fd := fd) (ps := ps) (n := n) it
      refine PSimp (ps_setLc (g := tgR X.K tg) g.g.calm g.g.nd l1 n1 (sw_true g.kd n1 n2 n3) (q1.I c ptg pit L.h6 X g.g) (lc_blk g.g L)
        (fun s H C cl fp => pg_tg (X := X.blk s H _ (compEnvC _ cl C X.env) fp) g.g.calm g.g.nd (loc_q (g.g.blk s H _ cl C fp)) L.h4) (fun s H C cl fp => (sound_all t).T _ ifs L.h7 _ (g.g.blk s H _ cl C fp)) (fun s H C cl fp => (sound_all elt).E _ pel L.h8 _ (g.g.blk s H _ cl C fp)) (lc_set L.h3 _)) fun D σ H q => ?_
      show tLc _ _ _ _ _ σ H _
      rw [L.h2]
      exact lc_read L.h5 (rd D σ H q)
  · cases t <;> exact nomatch (show false = true from h)
/-! ### rows of targets -/
theorem any_star {f : Expr → Bool} (hf : ∀ e, f e = isStar e) : ∀ {vs : List Expr}, vs.any isStar = false → vs.any f = false
  | [], _ => rfl
  | v :: vs, h => by
    simp only [List.any_cons, Bool.or_eq_false_iff] at h ⊢
    exact ⟨by rw [hf]; exact h.1, any_star hf h.2⟩
theorem sw2 {x y : Str} {px py p p2 : Pos} {k k2 : Nat} {a b : Expr} {env : Env} (hk : env.scope.kind = .function) (hx : env.scope.names.lookup x = some .local) (hy : env.scope.names.lookup y = some .local) (hl : (py.line == px.line) = true) (hxy : (x == y) = false)
    (hs : [a, b].any isStar = false) (h1 : [a, b].all (foldedForSure 8) = false) (h2 : [a, b].all (constantsAlone 8) = false) : swappedStores [.Tuple [.Name x px, .Name y py] k p] (.Tuple [a, b] k2 p2) env = pure (some [x, y]) := by
  have hb : env.blockKind = .function := by unfold Env.blockKind; rw [hk]; rfl
  have kx : env.kindOf x = some .local := hx
  have ky : env.kindOf y = some .local := hy
  have ed : [x, y].eraseDups = [x, y] := by
    have : (y == x) = false := by rw [Bool.eq_false_iff] at hxy ⊢; intro z; rw [beq_iff_eq] at z; exact hxy (by rw [z]; exact beq_self_eq_true x)
    simp [List.eraseDups_cons, this]
  unfold swappedStores
  dsimp only
  rw [any_star (fun e => by cases e <;> rfl) hs, h1, h2]
  simp only [List.length_cons, List.length_nil, hb, List.filterMap_cons, List.filterMap_nil, kx, ky, Expr.pos, List.head?_cons, Option.map_some, Option.getD_some, hl, beq_self_eq_true, Bool.and_self, if_true, Bool.true_and, bne_self_eq_false, ed]
  rfl
theorem sw4 {x y z w : Str} {px py pz pw p p2 : Pos} {k k2 : Nat} {vs : List Expr} {env : Env} : swappedStores [.Tuple [.Name x px, .Name y py, .Name z pz, .Name w pw] k p] (.Tuple vs k2 p2) env = pure none := by
  unfold swappedStores
  simp
theorem swn2 {x y : Str} {px py p p2 : Pos} {k k2 : Nat} {vs : List Expr} {env : Env} (h : ¬ env.scope.names.lookup x = some .local ∨ ¬ env.scope.names.lookup y = some .local) : swappedStores [.Tuple [.Name x px, .Name y py] k p] (.Tuple vs k2 p2) env = pure none := by
  have hh : (env.kindOf x == some .local) = false ∨ (env.kindOf y == some .local) = false := h.imp (fun q => by simpa [Env.kindOf] using q) fun q => by simpa [Env.kindOf] using q
  unfold swappedStores
  dsimp only
  split
  · rfl
  · split
    · rfl
    · split
      · rfl
      · rename_i hn
        exfalso
        apply hn
        rcases hh with h | h
        · cases q : (env.kindOf y == some NameKind.local && py.line == px.line) <;> simp only [List.filterMap_cons, List.filterMap_nil, Expr.pos, List.head?_cons, Option.map_some, Option.getD_some, h, q, Bool.false_and, Bool.false_eq_true, if_false, if_true] <;> rfl
        · cases q : (env.kindOf x == some NameKind.local && px.line == px.line) <;> simp only [List.filterMap_cons, List.filterMap_nil, Expr.pos, List.head?_cons, Option.map_some, Option.getD_some, h, q, Bool.false_and, Bool.false_eq_true, if_false, if_true] <;> rfl
theorem swn3 {x y z : Str} {px py pz p p2 : Pos} {k k2 : Nat} {vs : List Expr} {env : Env} (h : (¬ env.scope.names.lookup x = some .local ∨ ¬ env.scope.names.lookup y = some .local) ∨ ¬ env.scope.names.lookup z = some .local) : swappedStores [.Tuple [.Name x px, .Name y py, .Name z pz] k p] (.Tuple vs k2 p2) env = pure none := by
  have hh : ((env.kindOf x == some .local) = false ∨ (env.kindOf y == some .local) = false) ∨ (env.kindOf z == some .local) = false := h.imp (fun q => q.imp (fun q => by simpa [Env.kindOf] using q) fun q => by simpa [Env.kindOf] using q) fun q => by simpa [Env.kindOf] using q
  unfold swappedStores
  dsimp only
  split
  · rfl
  · split
    · rfl
    · split
      · rfl
      · rename_i hn
        exfalso
        apply hn
        cases q1 : (env.kindOf x == some NameKind.local && px.line == px.line) <;> cases q2 : (env.kindOf y == some NameKind.local && py.line == px.line) <;> cases q3 : (env.kindOf z == some NameKind.local && pz.line == px.line) <;>
          simp only [List.filterMap_cons, List.filterMap_nil, Expr.pos, List.head?_cons, Option.map_some, Option.getD_some, q1, q2, q3, Bool.false_eq_true, if_false, if_true] <;> first | rfl | skip
        simp only [Bool.and_eq_true] at q1 q2 q3
        rcases hh with (h | h) | h
        · rw [h] at q1; exact absurd q1.1 (by decide)
        · rw [h] at q2; exact absurd q2.1 (by decide)
        · rw [h] at q3; exact absurd q3.1 (by decide)

variable (cf) in
def paT : List (Nat × NB.E × NB.Md) → TA
  | [] => tNil
  | p :: r => tCons (tE cf p.2.1) (paT r)
theorem pa_par {c : Sc} {X : Cx} (g : Gd cf ad fd ps n c X) : ∀ {l : List (Nat × NB.E × NB.Md)} {vs : List Expr}, parEs c l vs = true → PA X vs (paT cf l) ∧ vs.any isStar = false ∧ vs.length = l.length
  | [], [], _ => ⟨pa_nil, rfl, rfl⟩
  | [], _ :: _, h => nomatch (show false = true from h)
  | _ :: _, [], h => nomatch (show false = true from h)
  | (i, e, m) :: l, p :: vs, h => by
    have h : (!isStar p && (okE c e p && parEs c l vs)) = true := h
    simp only [Bool.and_eq_true, Bool.not_eq_true'] at h
    obtain ⟨q1, q2, q3⟩ := pa_par g h.2.2
    exact ⟨pa_cons ((sound_all e).E c p h.2.1 X g) q1 (star_plain h.1), by rw [List.any_cons, h.1, q2]; rfl, by rw [List.length_cons, List.length_cons, q3]⟩
def zipT : List (Nat × NB.Sl) → List V → List Tr
  | p :: ss, v :: vs => (p.1, p.2, v) :: zipT ss vs
  | _, _ => []
theorem setR_zip : ∀ {ss : List (Nat × NB.Sl)} {vs : List V} {ρ : List NB.Sl}, vs.length = ss.length → setR ρ (zipT ss vs) = NB.setAll ρ ss
  | [], _, _, _ => by cases ‹List V› <;> rfl
  | _ :: _, [], _, h => by simp at h
  | p :: ss, v :: vs, ρ, h => setR_zip (ss := ss) (vs := vs) (ρ := ρ.set p.1 p.2) (by simpa using h)
theorem setT_zip : ∀ {ss : List (Nat × NB.Sl)} {vs : List V} {σ : L2.St}, vs.length = ss.length → setT σ (zipT ss vs) = setsV σ ((ss.map (·.1)).zip vs)
  | [], _, _, _ => by cases ‹List V› <;> rfl
  | _ :: _, [], _, h => by simp at h
  | p :: ss, v :: vs, σ, h => setT_zip (ss := ss) (vs := vs) (σ := σ.set p.1 (some v)) (by simpa using h)
theorem evPar_keys : ∀ {l : List (Nat × NB.E × NB.Md)} {ρ : List NB.Sl} {δ δ' : NB.Dl} {ss : List (Nat × NB.Sl)}, NB.evPar cf ρ l δ = some (ss, δ') → ss.map (·.1) = l.map (·.1)
  | [], _, _, _, _, h => by cases h; rfl
  | (x, e, m) :: r, ρ, δ, δ', ss, h => by
    rw [NB.evPar] at h
    obtain ⟨⟨s, δ1⟩, e1, h⟩ := bnd h
    obtain ⟨⟨ss1, δ2⟩, e2, h⟩ := bnd h
    cases h
    rw [List.map_cons, List.map_cons, evPar_keys e2]
theorem par_read {da db : Addr} {Mb : Addr → Prop} {H0 H : Hp} {σ : L2.St} {ρ : List NB.Sl} {δ δ' : NB.Dl} (S : StInv da db Mb H0 σ H ρ δ) : ∀ {l : List (Nat × NB.E × NB.Md)} {ts : List Tr} {Hc : Hp} {δc : NB.Dl} {ss : List (Nat × NB.Sl)} {Q : List V → Hp → Prop},
    Keep da db H Hc → DealAt da db Hc δc → Good da (MM Mb σ ρ) H Hc ts → NB.evPar cf ρ l δc = some (ss, δ') → (∀ vs H', Keep da db H H' → DealAt da db H' δ' → vs.length = ss.length → Good da (MM Mb σ ρ) H H' (ts ++ zipT ss vs) → Q vs H') → paT cf l σ Hc Q
  | [], ts, Hc, δc, ss, Q, k, q, G, h, hq => by
    cases h
    exact hq [] Hc k q rfl (by rw [show zipT [] [] = [] from rfl, List.append_nil]; exact G)
  | (x, e, m) :: r, ts, Hc, δc, ss, Q, k, q, G, h, hq => by
    rw [NB.evPar] at h
    obtain ⟨⟨s, δ1⟩, e1, h⟩ := bnd h
    obtain ⟨⟨ss1, δ2⟩, e2, h⟩ := bnd h
    cases h
    refine tM_read S k q (fun a m => G.own m) e1 fun v H' k' q' a' f' n' => ?_
    refine par_read S (k.trans k') q' (G.snoc (i := x) (.inl S.ma) (.inl S.mb) S.deal k q k' a' f') e2 fun vs H'' k2 q2 l2 G2 => ?_
    exact hq (v :: vs) H'' k2 q2 (by rw [List.length_cons, List.length_cons, l2]) (by rw [List.append_assoc] at G2; exact G2)
theorem Good.keep {da db : Addr} {M : Addr → Prop} {H Hc H' : Hp} {δ : NB.Dl} {ts : List Tr} (G : Good da M H Hc ts) (ma : M da) (mb : M db) (dl : DealAt da db H δ) (k : Keep da db Hc H') : Good da M H H' ts := by
  have st : Step (Plus M (POw ts)) Hc (Plus M (POw ts)) H' := fun x o n e => ⟨n, k x o (fun z => n (.inl (z ▸ ma))) (fun z => n (.inl (z ▸ mb))) e⟩
  refine ⟨fun t ht => (G.at_ t ht).step st fun x ex eo o ho => ?_, G.fr, G.ds⟩
  obtain ⟨ds, eo⟩ := eo
  obtain ⟨p, e1, e2⟩ := G.fr t ht ds eo
  rw [ex] at e1
  cases e1
  exact k x o (fun z => by rw [z, dl.at_] at e2; cases e2) (fun z => by rw [z, dl.cells] at e2; cases e2) ho
theorem tup_assign {ts : List Expr} {k : Nat} {p : Pos} (env : Env) : (assignEach [.Tuple ts k p] env).map (·.2) = [assign (.Tuple ts k p) env] := by with_unfolding_all rfl
theorem tgNs_len {q : Nat → Str → Bool} : ∀ {is : List Nat} {es : List Expr}, tgNs q is es = true → es.length = is.length
  | [], [], _ => rfl
  | [], _ :: _, h => nomatch (show false = true from h)
  | _ :: _, [], h => nomatch (show false = true from h)
  | i :: is, e :: es, h => by
    cases e <;> first | (exact nomatch (show false = true from h)) | skip
    rename_i x px
    have h : (q i x && tgNs q is es) = true := h
    simp only [Bool.and_eq_true] at h
    rw [List.length_cons, List.length_cons, tgNs_len h.2]
theorem parNo_len {c : Sc} {ts : List Expr} (h : parNo c ts = true) : ts.length ≤ 4 := by
  unfold parNo at h
  split at h <;> first | (simp only [List.length_cons, List.length_nil]; omega) | cases h
theorem S_par {l : List (Nat × NB.E × NB.Md)} : SS cf ad fd ps n (.par l) := by
  intro c s h X g
  cases s <;> first | (exact nomatch (show false = true from h)) | skip
  rename_i tts p pos
  rcases tts with _ | ⟨t, _ | ⟨_, _⟩⟩ <;> first | (exact nomatch (show false = true from h)) | skip
  · cases t <;> first | (exact nomatch (show false = true from h)) | skip
    rename_i ts k1 p1
    cases p <;> first | (exact nomatch (show false = true from h)) | skip
    rename_i vs k2 p2
    have h : (tgNs (locF c) (l.map (·.1)) ts && (decide (l.map (·.1)).Nodup && (parEs c l vs && (parNo c ts || (parSw c ts && (!(vs.all (foldedForSure 8)) && !(vs.all (constantsAlone 8)))))))) = true := h
    simp only [Bool.and_eq_true, Bool.or_eq_true, Bool.not_eq_true', decide_eq_true_eq] at h
    obtain ⟨h1, h2, h3, h4⟩ := h
    obtain ⟨pa, hst, hlen⟩ := pa_par g.g h3
    obtain ⟨pgs, gl, gst⟩ := pgs_of g.g.nd (locF_q g) h1
    rcases h4 with h4 | ⟨h4, h5, h6⟩
    · have hw : swappedStores [.Tuple ts k1 p1] (.Tuple vs k2 p2) X.env = pure none := by
        unfold parNo at h4
        split at h4
        · simp only [Bool.or_eq_true, Bool.not_eq_true', decide_eq_false_iff_not] at h4
          rw [← g.g.hsc] at h4
          exact swn2 h4
        · simp only [Bool.or_eq_true, Bool.not_eq_true', decide_eq_false_iff_not] at h4
          rw [← g.g.hsc] at h4
          exact swn3 h4
        · exact sw4
        · cases h4
      refine PSimp (ps_asg (pe_tup pa) (pg_tup g.g.calm pgs gl gst) (by rfl) hw (tup_assign _)) fun D σ H q => ?_
      obtain ⟨da, db, Mb, H0, ρ, δ, f, δ', S, e, k⟩ := q
      rw [NB.exec] at e
      obtain ⟨⟨ss, δ1⟩, e1, e⟩ := bnd e
      cases e
      have ek := evPar_keys e1
      refine par_read S (Keep.refl _ _ _) S.deal Good.nil e1 fun xs H' k' q' lx G => ?_
      have lx2 : xs.length = (l.map (·.1)).length := by rw [lx, ← ek, List.length_map]
      rw [List.nil_append] at G
      refine ⟨?_, fun a ha => ?_⟩
      · rw [lx2]
        have e := tgNs_len h1
        have e4 := parNo_len h4
        rw [List.length_map] at e
        rw [List.length_map]
        exact sl_le (by omega)
      · have G2 := G.keep (.inl S.ma) (.inl S.mb) S.deal (Keep.new ha (da := da) (db := db) (o := .tup xs))
        obtain ⟨S1, st1⟩ := S.sets (k'.trans (Keep.new ha)) (q'.new ha) G2
        refine ⟨a, xs, rfl, SqT.of upd_same, lx2, gs_read lx2 ?_⟩
        rw [setR_zip lx] at S1 st1
        rw [setT_zip lx, ek] at S1 st1
        exact k _ _ S1 st1
    · unfold parSw at h4
      split at h4
      · rename_i x px y py
        simp only [Bool.and_eq_true, Bool.not_eq_true', decide_eq_true_eq] at h4
        rw [← g.g.hsc] at h4
        rcases l with _ | ⟨⟨i, ea, ma⟩, _ | ⟨⟨j, eb, mb⟩, _ | ⟨_, _⟩⟩⟩ <;> first | (simp [tgNs] at h1; done) | skip
        have h1 : (locF c i x && (locF c j y && true)) = true := h1
        simp only [Bool.and_eq_true, and_true] at h1
        obtain ⟨l1, _, _⟩ := locF_q g i x h1.1
        obtain ⟨l2, _, _⟩ := locF_q g j y h1.2
        rcases vs with _ | ⟨a, _ | ⟨b, _ | ⟨_, _⟩⟩⟩ <;> first | (simp at hlen; done) | skip
        have hij : i ≠ j := by
          intro z
          subst z
          simp at h2
        refine PSimp (ps_par g.g.calm g.g.nd l1 l2 hij h4.1 h4.2.1 pa (sw2 g.kd h4.1 h4.2.1 h4.2.2.1 h4.2.2.2 hst h5 h6) (by rfl)) fun D σ H q => ?_
        obtain ⟨da, db, Mb, H0, ρ, δ, f, δ', S, e, k⟩ := q
        rw [NB.exec] at e
        obtain ⟨⟨ss, δ1⟩, e1, e⟩ := bnd e
        cases e
        have ek := evPar_keys e1
        refine par_read S (Keep.refl _ _ _) S.deal Good.nil e1 fun xs H' k' q' lx G => ?_
        rw [List.nil_append] at G
        obtain ⟨S1, st1⟩ := S.sets k' q' G
        rw [setR_zip lx] at S1 st1
        rw [setT_zip lx, ek] at S1 st1
        have lx2 : xs.length = 2 := by rw [lx, ← List.length_map (f := (·.1)) (as := ss), ek]; rfl
        rcases xs with _ | ⟨v, _ | ⟨w, _ | ⟨_, _⟩⟩⟩ <;> simp at lx2
        exact ⟨v, w, rfl, k _ _ S1 st1⟩
      · cases h4
  · cases t <;> exact nomatch (show false = true from h)
/-- new values that are no own lists -/
theorem good_va {da db : Addr} {M : Addr → Prop} {H H' : Hp} {ts : List Tr} (h : ∀ t ∈ ts, ∃ d, t.2.1 = .va d ∧ At da M H' d t.2.2) : Good da M H H' ts := by
  have no : ∀ a, ¬ POw ts a := fun a ⟨i, ds, m⟩ => by
    obtain ⟨d, e, _⟩ := h _ m
    cases e
  refine ⟨fun t ht => ?_, fun t ht ds e => ?_, fun t ht u hu n ds es e _ => ?_⟩
  · obtain ⟨d, e, a⟩ := h t ht
    rw [e]
    exact At.step (H := H') (M := M) (fun a o n e => ⟨fun m => m.elim n (no a), e⟩) _ _ a
  · obtain ⟨d, e', _⟩ := h t ht
    rw [e'] at e
    cases e
  · obtain ⟨d, e', _⟩ := h t ht
    rw [e'] at e
    cases e
theorem zip_va {da : Addr} {M : Addr → Prop} {H' : Hp} : ∀ {is : List Nat} {ds : List NB.D} {vs : List V}, Ats da M H' ds vs → ∀ t ∈ zipT (is.zip (ds.map .va)) vs, ∃ d, t.2.1 = .va d ∧ At da M H' d t.2.2
  | [], ds, vs, _, t, ht => by rw [List.zip_nil_left] at ht; cases vs <;> cases ht
  | i :: is, [], vs, _, t, ht => by cases vs <;> cases ht
  | i :: is, d :: ds, vs, h, t, ht => by
    rw [Ats] at h
    obtain ⟨v, r, e, h1, h2⟩ := h
    subst e
    rcases List.mem_cons.mp (show t ∈ (i, .va d, v) :: zipT (is.zip (ds.map .va)) r from ht) with e | m
    · subst e
      exact ⟨d, rfl, h1⟩
    · exact zip_va h2 t m
/-- a target takes a datum -/
theorem tgS_read {K : PySem.W.Frag} {da db : Addr} {Mb : Addr → Prop} {H0 H H' : Hp} {σ : L2.St} {ρ ρ' : List NB.Sl} {δ δ' : NB.Dl} (S : StInv da db Mb H0 σ H ρ δ) (k : Keep da db H H') (q : DealAt da db H' δ') {tg : NB.Tg} {d : NB.D} {v : V} (h : NB.asgS tg ρ d = some ρ') (a : At da (MM Mb σ ρ) H' d v)
    {Q : L2.St → Hp → Prop} (hq : ∀ σ', StInv da db Mb H0 σ' H' ρ' δ' → Step (MM Mb σ ρ) H (MM Mb σ' ρ') H' → Q σ' H') : tgR K tg v σ H' Q := by
  cases tg with
  | one i =>
    cases h
    obtain ⟨S1, st⟩ := S.sets (ts := [(i, .va d, v)]) k q (good_va (db := db) fun t ht => (by cases List.mem_singleton.mp ht; exact ⟨d, rfl, a⟩))
    exact hq _ S1 st
  | many is =>
    cases d <;> first | (cases h; done) | skip
    rename_i ds
    simp only [NB.asgS] at h
    split at h
    · rename_i e
      cases h
      obtain ⟨t, vs, rfl, nt, ht, r⟩ := a.tup
      obtain ⟨S1, st⟩ := S.sets (ts := zipT (is.zip (ds.map .va)) vs) k q (good_va (db := db) (zip_va r))
      have lz : vs.length = (is.zip (ds.map NB.Sl.va)).length := by rw [List.length_zip, List.length_map, r.length]; omega
      rw [setR_zip lz] at S1 st
      rw [setT_zip lz] at S1 st
      have em : (is.zip (ds.map NB.Sl.va)).map (·.1) = is := by rw [List.map_fst_zip]; rw [List.length_map]; omega
      rw [em] at S1 st
      exact ⟨t, vs, rfl, SqT.of ht, by rw [r.length, e], gs_read (by rw [r.length, e]) (hq _ S1 st)⟩
    · cases h
theorem swp_tup (p : Expr) (ts : List Expr) (k : Nat) (q : Pos) (l : Nat) (env : Env) : swapsWithSole [.Tuple ts k q] p l env = pure false := by cases p <;> rfl
theorem swp_sub (p a b : Expr) (q : Pos) (l : Nat) (env : Env) : swapsWithSole [.Subscript a b q] p l env = pure false := by cases p <;> rfl
theorem S_unp {xs : List Nat} {e : NB.E} {m : NB.Md} : SS cf ad fd ps n (.unp xs e m) := by
  intro c s h X g
  cases s <;> first | (exact nomatch (show false = true from h)) | skip
  rename_i tts p pos
  rcases tts with _ | ⟨t, _ | ⟨_, _⟩⟩ <;> first | (exact nomatch (show false = true from h)) | skip
  · cases t <;> first | (exact nomatch (show false = true from h)) | skip
    rename_i ts k1 p1
    have h : (tgNs (locF c) xs ts && (decide xs.Nodup && (!isTupE p && okE c e p))) = true := h
    simp only [Bool.and_eq_true, Bool.not_eq_true', decide_eq_true_eq] at h
    obtain ⟨h1, h2, h3, h4⟩ := h
    have hw : swappedStores [.Tuple ts k1 p1] p X.env = pure none := by
      cases p <;> first | rfl | (cases h3)
    have pg : PG X (.Tuple ts k1 p1) (tgR X.K (.many xs)) := by
      obtain ⟨pgs, gl, gst⟩ := pgs_of g.g.nd (locF_q g) h1
      exact pg_tup g.g.calm pgs gl gst
    refine PSimp (ps_asg ((sound_all e).E c p h4 X g.g) pg (swp_tup _ _ _ _ _ _) hw (tup_assign _)) fun D σ H q => ?_
    obtain ⟨da, db, Mb, H0, ρ, δ, f, δ', S, e, k⟩ := q
    rw [NB.exec] at e
    obtain ⟨⟨s, δ1⟩, e1, e⟩ := bnd e
    dsimp only at e
    split at e
    · rename_i ds
      split at e
      · rename_i hl
        cases e
        refine t1_read S e1 fun v H' k' q' a' _ _ => ?_
        exact tgS_read S k' q' (ρ' := NB.setAll ρ (xs.zip (ds.map .va))) (by rw [NB.asgS, if_pos hl]) a' fun σ' S1 st1 => k σ' H' S1 st1
      · cases e
    · cases e
  · cases t <;> exact nomatch (show false = true from h)
/-- an own list is changed -/
theorem StInv.upd {da db : Addr} {Mb : Addr → Prop} {H0 H : Hp} {σ : L2.St} {ρ : List NB.Sl} {δ : NB.Dl} (S : StInv da db Mb H0 σ H ρ δ) {x : Nat} {ds ds' : List NB.D} {a : Addr} {vs' : List V} (ex : ρ[x]? = some (.ow ds)) (ev : σ[x]? = some (some (.ref a))) (r : Ats da (MM Mb σ ρ) H ds' vs') :
    StInv da db Mb H0 σ (L2.upd H a (.lst vs')) (ρ.set x (.ow ds')) δ ∧ Step (MM Mb σ ρ) H (MM Mb σ (ρ.set x (.ow ds'))) (L2.upd H a (.lst vs')) := by
  have hl : x < ρ.length := (List.getElem?_eq_some_iff.mp ex).1
  have oa : Own σ ρ a := ⟨x, ds, ex, ev⟩
  obtain ⟨n0, nb⟩ := S.nw a oa
  have nda : a ≠ da := fun z => nb (z ▸ S.ma)
  have ndb : a ≠ db := fun z => nb (z ▸ S.mb)
  have get : ∀ i s, (ρ.set x (.ow ds'))[i]? = some s → (i = x ∧ s = .ow ds') ∨ (i ≠ x ∧ ρ[i]? = some s) := fun i s e => by
    by_cases hi : i = x
    · rw [hi, List.getElem?_set_self hl] at e; cases e; exact .inl ⟨hi, rfl⟩
    · rw [List.getElem?_set_ne (fun z => hi z.symm)] at e; exact .inr ⟨hi, e⟩
  have eo : ∀ y, Own σ (ρ.set x (.ow ds')) y ↔ Own σ ρ y := fun y => by
    constructor
    · rintro ⟨i, es, e1, e2⟩
      rcases get i _ e1 with ⟨rfl, _⟩ | ⟨_, e1⟩
      · exact ⟨i, ds, ex, e2⟩
      · exact ⟨i, es, e1, e2⟩
    · rintro ⟨i, es, e1, e2⟩
      by_cases hi : i = x
      · subst hi; exact ⟨i, ds', List.getElem?_set_self hl, e2⟩
      · exact ⟨i, es, by rw [List.getElem?_set_ne (fun z => hi z.symm)]; exact e1, e2⟩
  have st : Step (MM Mb σ ρ) H (MM Mb σ (ρ.set x (.ow ds'))) (L2.upd H a (.lst vs')) := fun y o n e =>
    ⟨fun m => n (m.elim .inl fun m => .inr ((eo y).mp m)), by rw [upd_ne (fun z : y = a => n (by rw [z]; exact .inr oa))]; exact e⟩
  refine ⟨⟨by rw [List.length_set]; exact S.len, S.deal.upd nda ndb, S.ma, S.mb, fun y m => ?_, keep_upd S.kp n0, fun y o => S.nw y ((eo y).mp o), fun i j d1 d2 y e1 e2 e3 e4 => ?_, fun i s e n => ?_⟩, st⟩
  · rw [upd_ne (fun z : y = a => nb (z ▸ m))]
    exact S.mt y m
  · obtain ⟨d3, p1⟩ : ∃ d3, ρ[i]? = some (.ow d3) := by
      rcases get i _ e1 with ⟨rfl, _⟩ | ⟨_, e1⟩
      · exact ⟨ds, ex⟩
      · exact ⟨d1, e1⟩
    obtain ⟨d4, p2⟩ : ∃ d4, ρ[j]? = some (.ow d4) := by
      rcases get j _ e2 with ⟨rfl, _⟩ | ⟨_, e2⟩
      · exact ⟨ds, ex⟩
      · exact ⟨d2, e2⟩
    exact S.inj i j d3 d4 y p1 p2 e3 e4
  · rcases get i s e with ⟨rfl, rfl⟩ | ⟨hi, e⟩
    · exact ⟨_, ev, a, vs', rfl, upd_same, Ats.step st _ _ r⟩
    · obtain ⟨w, w1, w2⟩ := S.sl i s e n
      refine ⟨w, w1, w2.step st fun y ey eo' o ho => ?_⟩
      obtain ⟨es, rfl⟩ := eo'
      subst ey
      rw [upd_ne (fun z : y = a => hi (S.inj i x es ds y e ex w1 (by rw [z]; exact ev)))]
      exact ho
theorem own_at {da db : Addr} {Mb : Addr → Prop} {H0 H : Hp} {σ : L2.St} {ρ : List NB.Sl} {δ : NB.Dl} (S : StInv da db Mb H0 σ H ρ δ) {x : Nat} {ds : List NB.D} (ex : ρ[x]? = some (.ow ds)) : ∃ a vs, σ[x]? = some (some (.ref a)) ∧ H a = some (.lst vs) ∧ Ats da (MM Mb σ ρ) H ds vs ∧ a ≠ da ∧ a ≠ db := by
  obtain ⟨v, g1, a, vs, g2, g3, g4⟩ := S.sl x _ ex (fun z => nomatch z)
  subst g2
  have nb := (S.nw a ⟨x, ds, ex, g1⟩).2
  exact ⟨a, vs, g1, g3, g4, fun z => nb (z ▸ S.ma), fun z => nb (z ▸ S.mb)⟩
theorem pe_of_var {c : Sc} {X : Cx} (g : Gd cf ad fd ps n c X) {x : Nat} {y : Str} {py : Pos} (h : varB c x y = true) : PE X (.Name y py) (tVar x) := by
  simp only [varB, Bool.and_eq_true, decide_eq_true_eq, Bool.not_eq_true'] at h
  exact pe_var (i := x) (by rw [g.hN]; exact h.1) (by rw [g.hsc]; exact vis_of h.2.1) h.2.2.1 h.2.2.2
theorem S_sto {x : Nat} {i e : NB.E} {m : NB.Md} : SS cf ad fd ps n (.sto x i e m) := by
  intro c s h X g
  cases s <;> first | (exact nomatch (show false = true from h)) | skip
  rename_i tts p pos
  rcases tts with _ | ⟨t, _ | ⟨_, _⟩⟩ <;> first | (exact nomatch (show false = true from h)) | skip
  · cases t <;> first | (exact nomatch (show false = true from h)) | skip
    rename_i o pi ppos
    cases o <;> first | (exact nomatch (show false = true from h)) | skip
    rename_i y py
    have h : (varB c x y && (!isSlice pi && (okE c i pi && okE c e p))) = true := h
    simp only [Bool.and_eq_true, Bool.not_eq_true'] at h
    obtain ⟨h1, h2, h3, h5⟩ := h
    refine PSimp (ps_asg ((sound_all e).E c p h5 X g.g) (pg_sub (pe_of_var g.g h1) ((sound_all i).E c pi h3 X g.g) set_list (fun v => by cases pi <;> first | rfl | (cases h2))) (swp_sub _ _ _ _ _ _) (by cases p <;> rfl) (by with_unfolding_all rfl)) fun D σ H q => ?_
    obtain ⟨da, db, Mb, H0, ρ, δ, f, δ', S, e, k⟩ := q
    rw [NB.exec] at e
    obtain ⟨⟨s, δ1⟩, e1, ea⟩ := bnd e
    obtain ⟨⟨kd, δ2⟩, e2, eb⟩ := bnd ea
    obtain ⟨kk, e3, e5⟩ := bnd eb
    clear eb ea e
    obtain rfl := intOf_eq e3
    try dsimp only at e5
    split at e5
    · rename_i ds' ds ex
      split at e5
      · rename_i hk
        cases e5
        refine t1_read S e1 fun v H' k' q' a' _ _ => ?_
        have S1 := S.keep k' q'
        obtain ⟨a, vs, g1, g3, g4, na, nb⟩ := own_at S1 ex
        refine ⟨.ref a, g1, tF_read S1 e2 fun w H2 k2 q2 a2 => ?_⟩
        have S2 := S1.keep k2 q2
        obtain rfl := a2.int
        have g3' := k2 a _ na nb g3
        have g4' := Ats.keep S1.hid.1 k2 g4
        have av := At.keep S1.hid.1 k2 a'
        refine ⟨a, vs, kk, kk.toNat, rfl, rfl, g3', ?_, ?_⟩
        · unfold ixN
          rw [if_pos hk.1, g4.length, if_pos (by omega)]
        · obtain ⟨S3, st3⟩ := S2.upd ex g1 (Ats.set kk.toNat g4' av)
          exact k _ _ S3 ((S.stp k').trans ((S1.stp k2).trans st3))
      · cases e5
    · cases e5
  · cases t <;> first | (exact nomatch (show false = true from h)) | skip
    rename_i o pi ppos
    cases o <;> exact nomatch (show false = true from h)
theorem S_app {x : Nat} {e : NB.E} {m : NB.Md} : SS cf ad fd ps n (.app x e m) := by
  intro c s h X g
  cases s <;> first | (exact nomatch (show false = true from h)) | skip
  rename_i p pos
  cases p <;> first | (exact nomatch (show false = true from h)) | skip
  rename_i fe es kws cpos
  cases fe <;> first | (exact nomatch (show false = true from h)) | skip
  rename_i o at' apos
  cases o <;> first | (exact nomatch (show false = true from h)) | skip
  rename_i y py
  rcases es with _ | ⟨p, _ | ⟨_, _⟩⟩ <;> first | (exact nomatch (show false = true from h)) | skip
  cases kws <;> first | (exact nomatch (show false = true from h)) | skip
  have h : (varB c x y && ((at' == ("append" : Str) && (apos.endLine == cpos.line)) && (!isStar p && okE c e p))) = true := h
  simp only [Bool.and_eq_true, Bool.not_eq_true', beq_iff_eq (a := at')] at h
  obtain ⟨h1, ⟨rfl, h2⟩, h3, h4⟩ := h
  refine PSimp (ps_expr (pe_bm PySem.F.plainAttrs_list PySem.F.slot_list_append PySem.F.type_list_append mt_append (pe_of_var g.g h1) (pa_cons ((sound_all e).E c p h4 X g.g) pa_nil (star_plain h3)) (by rfl) (by rw [star_plain h3]; rfl) h2 (star_plain h3) (by rfl)) (by rfl)) fun D σ H q => ?_
  obtain ⟨da, db, Mb, H0, ρ, δ, f, δ', S, e, k⟩ := q
  rw [NB.exec] at e
  obtain ⟨⟨s, δ1⟩, e1, e⟩ := bnd e
  dsimp only at e
  split at e
  · rename_i d ds ex
    split at e
    · rename_i hk
      cases e
      obtain ⟨a, vs, g1, g3, g4, na, nb⟩ := own_at S ex
      refine ⟨.ref a, g1, .inl ⟨rfl, vs, SqL.of g3⟩, t1_read S e1 fun v H' k' q' a' _ _ => ?_⟩
      have S1 := S.keep k' q'
      obtain ⟨S3, st3⟩ := S1.upd ex g1 (Ats.append (Ats.keep S.hid.1 k' g4) (Ats.cons a' Ats.nil))
      exact ⟨a, vs, v, rfl, rfl, k' a _ na nb g3, by rw [g4.length]; exact sl_lt hk, k _ _ S3 ((S.stp k').trans st3)⟩
    · cases e
  · cases e
theorem S_ext {x : Nat} {e : NB.E} {m : NB.Md} : SS cf ad fd ps n (.ext x e m) := by
  intro c s h X g
  cases s <;> first | (exact nomatch (show false = true from h)) | skip
  rename_i p pos
  cases p <;> first | (exact nomatch (show false = true from h)) | skip
  rename_i fe es kws cpos
  cases fe <;> first | (exact nomatch (show false = true from h)) | skip
  rename_i o at' apos
  cases o <;> first | (exact nomatch (show false = true from h)) | skip
  rename_i y py
  rcases es with _ | ⟨p, _ | ⟨_, _⟩⟩ <;> first | (exact nomatch (show false = true from h)) | skip
  cases kws <;> first | (exact nomatch (show false = true from h)) | skip
  have h : (varB c x y && ((at' == ("extend" : Str) && (apos.endLine == cpos.line)) && (!isStar p && okE c e p))) = true := h
  simp only [Bool.and_eq_true, Bool.not_eq_true', beq_iff_eq (a := at')] at h
  obtain ⟨h1, ⟨rfl, h2⟩, h3, h4⟩ := h
  refine PSimp (ps_expr (pe_bm PySem.F.plainAttrs_list PySem.F.slot_list_extend PySem.F.type_list_extend mt_extA (pe_of_var g.g h1) (pa_cons ((sound_all e).E c p h4 X g.g) pa_nil (star_plain h3)) (by rfl) (by rw [star_plain h3]; rfl) h2 (star_plain h3) (by rfl)) (by rfl)) fun D σ H q => ?_
  obtain ⟨da, db, Mb, H0, ρ, δ, f, δ', S, e, k⟩ := q
  rw [NB.exec] at e
  obtain ⟨⟨s, δ1⟩, e1, e⟩ := bnd e
  dsimp only at e
  split at e
  · rename_i d ds ex
    split at e
    · rename_i xs ed
      split at e
      · rename_i hk
        cases e
        obtain ⟨a, vs, g1, g3, g4, na, nb⟩ := own_at S ex
        refine ⟨.ref a, g1, .inl ⟨rfl, vs, SqL.of g3⟩, t1_read S e1 fun v H' k' q' a' _ _ => ?_⟩
        have S1 := S.keep k' q'
        obtain ⟨kk, b, us, rfl, nb2, hb, _, r⟩ := At.seq (K := X.K) a' ed
        obtain ⟨S3, st3⟩ := S1.upd ex g1 (Ats.append (Ats.keep S.hid.1 k' g4) r)
        have hz : vs.length + us.length ≤ sizeLine := by rw [g4.length, r.length]; exact sl_le hk
        cases kk with
        | true => exact .inl ⟨a, b, vs, us, rfl, rfl, k' a _ na nb g3, hb, hz, k _ _ S3 ((S.stp k').trans st3)⟩
        | false => exact .inr ⟨a, b, vs, us, rfl, rfl, k' a _ na nb g3, hb, hz, k _ _ S3 ((S.stp k').trans st3)⟩
      · cases e
    · cases e
  · cases e
theorem S_ife {t : NB.E} {a b : NB.S} (ha : SB cf ad fd ps n a) (hb : SB cf ad fd ps n b) : SS cf ad fd ps n (.ife t a b) := by
  intro c s h X g
  cases s <;> first | (exact nomatch (show false = true from h)) | skip
  rename_i pt pa pb pos
  have h : ((tst t && okE c t pt) && (okB c a pa && okB c b pb)) = true := h
  simp only [Bool.and_eq_true] at h
  refine PSimp (ps_if ((sound_all t).P c pt h.1.2 h.1.1 X g.g) (ha c pa h.2.1 X g) (hb c pb h.2.2 X g)) fun D σ H q => ?_
  obtain ⟨da, db, Mb, H0, ρ, δ, f, δ', S, e, k⟩ := q
  rw [NB.exec] at e
  obtain ⟨⟨x, δ1⟩, e1, e⟩ := bnd e
  obtain ⟨u, e2, e5⟩ := bnd e
  obtain rfl := blOf_eq e2
  refine tT_read S e1 fun H' k' q' => ?_
  have S1 := S.keep k' q'
  have k2 : After D da db Mb H0 σ H' ρ f δ' := by
    cases f with
    | nx ρ2 => exact fun σ2 H2 S2 st2 => k σ2 H2 S2 ((S.stp k').trans st2)
    | rt d => exact k
  cases u with
  | true => exact ⟨da, db, Mb, H0, ρ, δ1, f, δ', S1, e5, k2⟩
  | false => exact ⟨da, db, Mb, H0, ρ, δ1, f, δ', S1, e5, k2⟩
theorem forGo_nil {body : List NB.Sl → NB.Dl → Option (NB.Fl × NB.Dl)} {tg : NB.Tg} {ρ : List NB.Sl} {δ : NB.Dl} : NB.forGo body tg [] ρ δ = some (.nx ρ, δ) := rfl
theorem S_for {tg : NB.Tg} {it : NB.E} {body : NB.S} (hb : SB cf ad fd ps n body) : SS cf ad fd ps n (.for tg it body) := by
  intro c s h X g
  cases s <;> first | (exact nomatch (show false = true from h)) | skip
  rename_i ptg pit pb oe pos
  cases oe <;> first | (exact nomatch (show false = true from h)) | skip
  have h : (okTg (locF c) tg ptg && (!isSet pit && (okI c ptg it pit && okB c body pb))) = true := h
  simp only [Bool.and_eq_true, Bool.not_eq_true'] at h
  obtain ⟨h1, h2, h3, h4⟩ := h
  refine PSimp (ps_for g.own g.g.calm ((sound_all it).I c ptg pit h3 X g.g) (pg_tg g.g.calm g.g.nd (locF_q g) h1) (hb c pb h4 X g) (lc_set h2 _)) fun D σ H q => ?_
  obtain ⟨da, db, Mb, H0, ρ, δ, f, δ', S, e, k⟩ := q
  rw [NB.exec] at e
  obtain ⟨⟨xs, δ1⟩, e1, e⟩ := bnd e
  refine ⟨da, db, _, _, δ, xs, δ1, S.hid.1, S.hid.2, e1, fun J H1 G Y k1 q1 wk hG hY => ?_⟩
  have S1 := S.keep k1 q1
  have st1 := S.stp k1
  refine for_it wk (fun i σi Hi => ∃ ρi δi, StInv da db Mb H0 σi Hi ρi δi ∧ Step (MM Mb σ ρ) H1 (MM Mb σi ρi) Hi ∧ NB.forGo (fun r d => NB.exec cf body r d) tg (xs.drop i) ρi δi = some (f, δ')) ⟨ρ, δ1, S1, Step.refl _ _, e⟩ (fun i σi Hi _ ⟨ρi, δi, _, st, _⟩ => hG _ _ st) ?_ ?_
  · rintro i x σi Hi H' hi ⟨ρi, δi, Si, sti, ci⟩ y
    obtain ⟨kn, qn, d, ex, ad'⟩ := hY i Hi x H' _ δi hi Si.hid.1 sti y
    have hx : xs.drop i = d :: xs.drop (i + 1) := by
      obtain ⟨hl, e⟩ := List.getElem?_eq_some_iff.mp ex
      rw [List.drop_eq_getElem_cons hl, e]
    rw [hx, NB.forGo] at ci
    obtain ⟨ρ1, c1, ci⟩ := bnd ci
    obtain ⟨⟨f1, δa⟩, c2, ci⟩ := bnd ci
    refine tgS_read Si kn qn c1 ad' fun σ2 S2 st2 => ?_
    refine ⟨da, db, Mb, H0, ρ1, δi, f1, δa, S2, c2, ?_⟩
    cases f1 with
    | nx ρ2 => exact fun σ3 H3 S3 st3 => ⟨ρ2, δa, S3, (sti.trans st2).trans st3, ci⟩
    | rt d =>
      cases ci
      exact k
  · rintro σi Hi ⟨ρi, δi, Si, sti, ci⟩
    rw [List.drop_length, forGo_nil] at ci
    cases ci
    exact k σi Hi Si (st1.trans sti)
theorem S_whl {t : NB.E} {body : NB.S} (hb : SB cf ad fd ps n body) : SS cf ad fd ps n (.whl t body) := by
  intro c s h X g
  cases s <;> first | (exact nomatch (show false = true from h)) | skip
  rename_i pt pb oe pos
  cases oe <;> first | (exact nomatch (show false = true from h)) | skip
  have h : ((tst t && okE c t pt) && okB c body pb) = true := h
  simp only [Bool.and_eq_true] at h
  refine PSimp (ps_while g.own ((sound_all t).P c pt h.1.2 h.1.1 X g.g) (hb c pb h.2 X g)) fun D σ H q => ?_
  obtain ⟨da, db, Mb, H0, ρ, δ, f, δ', S, e, k⟩ := q
  rw [NB.exec] at e
  refine ⟨fun m σi Hi => ∃ ρi δi, StInv da db Mb H0 σi Hi ρi δi ∧ Step (MM Mb σ ρ) H (MM Mb σi ρi) Hi ∧ NB.whGo (fun r d => do let (x, d) ← NB.evE cf t (NB.view true r) d; let t ← NB.blOf x; some (t, d)) (fun r d => NB.exec cf body r d) m ρi δi = some (f, δ'), ⟨100, ρ, δ, S, Step.refl _ _, e⟩, ?_⟩
  rintro m σi Hi ⟨ρi, δi, Si, sti, ci⟩
  cases m with
  | zero => cases ci
  | succ m =>
    rw [NB.whGo] at ci
    obtain ⟨⟨b, δa⟩, c1, ci⟩ := bnd ci
    obtain ⟨⟨x, δb⟩, c2, c1⟩ := bnd c1
    obtain ⟨u, c3, c4⟩ := bnd c1
    obtain rfl := blOf_eq c3
    cases c4
    refine tT_read Si c2 fun H' k' q' => ?_
    have S1 := Si.keep k' q'
    cases b with
    | true =>
      refine (if_pos rfl).mpr ?_
      obtain ⟨⟨f1, δc⟩, c5, ci⟩ := bnd ci
      refine ⟨fun σ' H' => ∃ ρi δi, StInv da db Mb H0 σ' H' ρi δi ∧ Step (MM Mb σ ρ) H (MM Mb σ' ρi) H' ∧ NB.whGo (fun r d => do let (x, d) ← NB.evE cf t (NB.view true r) d; let t ← NB.blOf x; some (t, d)) (fun r d => NB.exec cf body r d) m ρi δi = some (f, δ'), fun σ' H' p => ⟨m, Nat.lt_succ_self m, p⟩, ?_⟩
      refine ⟨da, db, Mb, H0, ρi, _, f1, δc, S1, c5, ?_⟩
      cases f1 with
      | nx ρ2 => exact fun σ3 H3 S3 st3 => ⟨ρ2, δc, S3, (sti.trans (Si.stp k')).trans st3, ci⟩
      | rt d =>
        cases ci
        exact k
    | false =>
      refine (if_neg (by decide)).mpr ?_
      cases ci
      exact k σi H' S1 (sti.trans (Si.stp k'))
/-! ### all -/
theorem noS {s : NB.S} (h : ∀ c l, okS c s l = false) : SS cf ad fd ps n s := fun c l z => by rw [h] at z; cases z
theorem noB {s : NB.S} (h : ∀ c l, okB c s l = false) : SB cf ad fd ps n s := fun c l z => by rw [h] at z; cases z
theorem sound_stm : ∀ s : NB.S, SS cf ad fd ps n s ∧ SB cf ad fd ps n s := by
  intro s
  induction s with
  | ret e => exact ⟨S_ret, noB fun _ _ => rfl⟩
  | set x e m => exact ⟨S_set, noB fun _ _ => rfl⟩
  | par l => exact ⟨S_par, noB fun _ _ => rfl⟩
  | unp xs e m => exact ⟨S_unp, noB fun _ _ => rfl⟩
  | sto x i e m => exact ⟨S_sto, noB fun _ _ => rfl⟩
  | app x e m => exact ⟨S_app, noB fun _ _ => rfl⟩
  | ext x e m => exact ⟨S_ext, noB fun _ _ => rfl⟩
  | drop e => exact ⟨S_drop, noB fun _ _ => rfl⟩
  | ife c a b ha hb => exact ⟨S_ife ha.2 hb.2, noB fun _ _ => rfl⟩
  | «for» tg it b hb => exact ⟨S_for hb.2, noB fun _ _ => rfl⟩
  | whl c b hb => exact ⟨S_whl hb.2, noB fun _ _ => rfl⟩
  | never => exact ⟨S_never, noB fun _ _ => rfl⟩
  | skip => exact ⟨noS fun _ _ => rfl, B_skip⟩
  | seq a b ha hb => exact ⟨noS fun _ _ => rfl, B_seq ha.1 hb.2⟩
  | frz x b hb => exact ⟨noS fun _ _ => rfl, B_frz hb.2⟩
end
end NS

set_option Elab.async false
set_option linter.all false
set_option maxRecDepth 100000
set_option maxHeartbeats 1000000
/-! A def keeps its promise. -/
namespace NS
open PySem PySem.Spec PyProof.Rows L2 NR

def nmF (f : NB.F) : List Str := f.names.map Str.ofString
def psF (f : NB.F) : List Str := (nmF f).take f.np
def row (f : NB.F) (ds : List NB.D) : List NB.Sl := ds.map .va ++ List.replicate (f.ns - f.np) .no
theorem start_inv {da db : Addr} {M : Addr → Prop} {H : Hp} {δ : NB.Dl} {ds : List NB.D} {vs : List V} {N : List Str} {k : Nat} (p : Pre da db M H δ) (r : Ats da M H ds vs) (hN : N.length = vs.length + k) : StInv da db M H (start N vs) H (ds.map .va ++ List.replicate k .no) δ := by
  have no : ∀ i d, (ds.map NB.Sl.va ++ List.replicate k NB.Sl.no)[i]? ≠ some (NB.Sl.ow d) := fun i d e => by
    rw [List.getElem?_append] at e
    split at e
    · rw [List.getElem?_map] at e
      cases q : ds[i]? with
      | none => rw [q] at e; cases e
      | some x => rw [q] at e; cases e
    · rw [List.getElem?_replicate] at e
      split at e <;> cases e
  have nOwn : ∀ a, ¬ Own (start N vs) (ds.map NB.Sl.va ++ List.replicate k NB.Sl.no) a := fun a ⟨i, d, e, _⟩ => no i d e
  refine ⟨by unfold L2.start; rw [List.length_append, List.length_append, List.length_map, List.length_map, List.length_replicate, List.length_replicate, r.length]; have := r.length; omega, p.deal, p.ma, p.mb, p.mt, Keep.refl _ _ _, fun a o => absurd o (nOwn a), fun i j d1 d2 a e => absurd e (no i d1), fun i s e n => ?_⟩
  rw [List.getElem?_append] at e
  split at e
  · rename_i hi
    rw [List.length_map] at hi
    rw [List.getElem?_map, List.getElem?_eq_getElem hi] at e
    cases e
    obtain ⟨v, e1, e2⟩ := r.get (List.getElem?_eq_getElem hi)
    refine ⟨v, ?_, At.step (H := H) (fun a o n e => ⟨fun m => n (m.elim id fun m => absurd m (nOwn a)), e⟩) _ _ e2⟩
    unfold L2.start
    have hv : i < vs.length := (List.getElem?_eq_some_iff.mp e1).1
    rw [List.getElem?_append_left (by rw [List.length_map]; exact hv), List.getElem?_map, e1]
    rfl
  · rw [List.getElem?_replicate] at e
    split at e <;> cases e
    exact absurd rfl n
section
variable {ad : NB.F → Addr} {fd : NB.F → FuncData} {n : Nat} {P : Program} {w : World} {K : PySem.W.Frag} {mg : Str → Option Value} {base : Heap}
theorem gd_of {cf : NB.CF} (fa : Fa cf ad fd psF n P w K mg base) {N ps : List Str} {sc : Scope} (S : FnScope N ps sc) {qual : Str} {f : Addr} {cdv : Value} {A : Around} {outer : List Env} {s : Shared} {H : Hp} {E : XK} (hr : Room n (A.deeper (envOfC qual sc s.heap.objs.size f cdv))) :
    GdF cf ad fd psF n ⟨N, sc, false⟩ (cxOf CX0 P w K mg base N qual sc f cdv A outer s H E).nox where
  g := { fa := fa, hN := rfl, nd := S.nd, hsc := rfl, calm := rfl, room := hr, gu := fun z => nomatch z }
  fnc := fun _ _ => rfl
  kd := S.kind
  xe := rfl
/-- what callF says of a def that is walked -/
theorem callF_eq {f : NB.F} (hf : f ≠ .l_any) {ds : List NB.D} {δ δ' : NB.Dl} {d : NB.D} (h : NB.callF (n + 1) f ds δ = some (d, δ')) : ds.length = f.np ∧ ((NB.exec (NB.callF n) f.body (row f ds) δ = some (.rt d, δ')) ∨ ∃ ρ, NB.exec (NB.callF n) f.body (row f ds) δ = some (.nx ρ, δ') ∧ d = .non) := by
  have h2 : (if ds.length = f.np then
        match NB.exec (NB.callF n) f.body (row f ds) δ with
        | some (.rt d, δ) => some (d, δ)
        | some (.nx _, δ) => some (.non, δ)
        | none => none
      else none) = some (d, δ') := by
    cases f <;> first | exact h | exact absurd rfl hf
  split at h2
  · rename_i hl
    refine ⟨hl, ?_⟩
    split at h2
    · rename_i e
      cases h2
      exact .inl e
    · rename_i e
      cases h2
      exact .inr ⟨_, e, rfl⟩
    · cases h2
  · cases h2
theorem callF_len : ∀ (n : Nat) (f : NB.F) (ds : List NB.D) (δ : NB.Dl) r, NB.callF n f ds δ = some r → ds.length = f.np
  | 0, f, ds, δ, r, h => by cases h
  | n + 1, f, ds, δ, (d, δ'), h => by
    by_cases hf : f = .l_any
    · subst hf
      have h : NB.anyP ds δ = some (d, δ') := h
      unfold NB.anyP at h
      split at h
      · rfl
      · cases h
    · exact (callF_eq hf h).1
theorem fn_ok {f : NB.F} (hf : f ≠ .l_any) {st : Stmt} (F : Fun K (pyS f) (pyS f) st (ad f) (fd f)) (S : FnScope (nmF f) (psF f) (defScope st)) (hl : (nmF f).length = f.ns ∧ f.np ≤ f.ns) (ok : okB ⟨nmF f, defScope st, false⟩ f.body (defBody st) = true)
    (fa : Fa (NB.callF n) ad fd psF n P w K mg base) : FnOk P w K mg base CX0 (n + 1) (ad f) (fd f) (psF f) (spF (NB.callF (n + 1)) f) := by
  refine F.ok S (fun vs H Q E h => ?_) (fun cdv A outer s H vs Q E hr h => ?_)
  · rw [h.1]
    unfold psF
    rw [List.length_take, hl.1]
    omega
  · obtain ⟨hv, da, db, M, ds, δ, d, δ', p, r, e, q⟩ := h
    refine ⟨_, (sound_stm f.body).2 _ _ ok _ (gd_of fa S hr), ?_⟩
    obtain ⟨e1, e2⟩ := callF_eq hf e
    have I := start_inv (N := nmF f) (k := f.ns - f.np) p r (by rw [hl.1, hv]; omega)
    rcases e2 with e2 | ⟨ρ, e2, rfl⟩
    · exact ⟨da, db, M, H, _, δ, _, δ', I, e2, fun v H' k' q' a' => q v H' k' q' a'⟩
    · exact ⟨da, db, M, H, _, δ, _, δ', I, e2, fun σ' H' S' _ => q .non H' S'.kp S'.deal at_non⟩
end
end NS

set_option Elab.async false
set_option linter.all false
set_option maxRecDepth 100000
set_option maxHeartbeats 4000000
/-! The law's draw, by hand. -/
namespace NS
open PySem PySem.Spec PyProof.Rows L2 NR
def top (i : Nat) : Stmt := PySem.Challenge.pw_newsbehind_k53_whole_stops_are_late_news.main.body.getD i (.Pass ⟨0, 0, 0, 0⟩)
abbrev sAny : Stmt := top 61
theorem scAny : FnScope ["_law_deal", "_law_bound", "_law_rest"] ["_law_deal", "_law_bound"] (defScope sAny) := ⟨rfl, rfl, rfl, by decide +kernel, rfl, by decide +kernel, by decide +kernel⟩
section
variable {P : Program} {w : World} {K : PySem.W.Frag} {mg : Str → Option Value} {base : Heap} {f : Addr} {fd : FuncData} {n : Nat}
/-- the list of cells is not empty, as the text asks it -/
theorem ne_read {K : PySem.W.Frag} {H : Hp} {db p : Addr} {xs : List Int} {Q : VK} (h1 : H db = some (.lst (xs.map V.int))) (h2 : H p = some (.lst [])) (q : Q (.bl (!decide (xs = []))) H) : rNeA K (.ref db) (.ref p) H Q := by
  have a1 : At db (fun _ => False) H (.lst (xs.map NB.D.int)) (.ref db) := at_lst id h1 (ats_ints xs)
  have a2 : At db (fun _ => False) H (.lst []) (.ref p) := at_lst id h2 Ats.nil
  have f1 : NB.fitN 6 (.lst (xs.map NB.D.int)) = true := by
    rw [NB.fitN, List.all_eq_true]
    intro d hd
    obtain ⟨i, _, rfl⟩ := List.mem_map.mp hd
    rfl
  have f2 : NB.fitN 6 (.lst []) = true := rfl
  have e : NB.eqD (.lst (xs.map NB.D.int)) (.lst []) = some (decide (xs = [])) := by
    cases xs with
    | nil => simp [NB.eqD, NB.eqDs]
    | cons x xs => simp [NB.eqD, NB.eqDs]
  exact .inr ⟨_, _, At.dp 6 _ _ f1 a1, At.dp 6 _ _ f2 a2, fit_shaped f1, fit_shaped f2, by rw [eqv_of _ _ _ e]; exact q⟩
theorem last_at {xs : List Int} {c : Int} {r : List Int} (e : xs = r ++ [c]) : atI (xs.map V.int) (-1) = some (.int c) := by
  subst e
  unfold atI ixN
  rw [if_neg (by decide), if_pos (by rw [List.length_map, List.length_append, List.length_singleton]; omega), List.length_map, List.length_append, List.length_singleton]
  have : ((-1 : Int) + ((r.length + 1 : Nat) : Int)).toNat = r.length := by omega
  simp only [Option.bind_some]
  rw [this, List.map_append, List.getElem?_append_right (by rw [List.length_map]; exact Nat.le_refl _)]
  simp
structure AnyS (da db : Addr) (H0 H : Hp) (cs : List Int) (z : Int) : Prop where
  ne : da ≠ db
  hda : H da = some (.lst [.ref db, .int z])
  hdb : H db = some (.lst (cs.reverse.map V.int))
  kp : Keep da db H0 H
theorem AnyS.new {da db p : Addr} {H0 H : Hp} {cs : List Int} {z : Int} {o : HO} (s : AnyS da db H0 H cs z) (hp : H p = none) : AnyS da db H0 (upd H p o) cs z :=
  ⟨s.ne, by rw [upd_ne (ne_of_none s.hda hp)]; exact s.hda, by rw [upd_ne (ne_of_none s.hdb hp)]; exact s.hdb, s.kp.trans (Keep.new hp)⟩
theorem AnyS.cells {da db : Addr} {H0 H : Hp} {cs cs' : List Int} {z : Int} {vs : List V} (s : AnyS da db H0 H cs z) (e : vs = cs'.reverse.map V.int) : AnyS da db H0 (upd H db (.lst vs)) cs' z :=
  ⟨s.ne, by rw [upd_ne s.ne]; exact s.hda, by rw [upd_same, e], fun a o n1 n2 q => by rw [upd_ne n2]; exact s.kp a o n1 n2 q⟩
theorem AnyS.blend {da db : Addr} {H0 H : Hp} {cs : List Int} {z z' : Int} (s : AnyS da db H0 H cs z) : AnyS da db H0 (upd H da (.lst [.ref db, .int z'])) cs z' :=
  ⟨s.ne, upd_same, by rw [upd_ne (fun e => s.ne e.symm)]; exact s.hdb, fun a o n1 n2 q => by rw [upd_ne n1]; exact s.kp a o n1 n2 q⟩
theorem at0 {x y : V} : atI [x, y] 0 = some x := rfl
theorem at1 {x y : V} : atI [x, y] 1 = some y := rfl
theorem rd0 {K : PySem.W.Frag} {da db : Addr} {H0 H : Hp} {cs : List Int} {z : Int} {Q : VK} (s : AnyS da db H0 H cs z) (q : Q (.ref db) H) : rIx K (.ref da) (.int 0) H Q := .inl ⟨da, _, 0, _, rfl, rfl, SqL.of s.hda, at0, q⟩
theorem rd1 {K : PySem.W.Frag} {da db : Addr} {H0 H : Hp} {cs : List Int} {z : Int} {Q : VK} (s : AnyS da db H0 H cs z) (q : Q (.int z) H) : rIx K (.ref da) (.int 1) H Q := .inl ⟨da, _, 1, _, rfl, rfl, SqL.of s.hda, at1, q⟩
theorem rdl {K : PySem.W.Frag} {da db : Addr} {H0 H : Hp} {c : Int} {cs : List Int} {z : Int} {Q : VK} (s : AnyS da db H0 H (c :: cs) z) (q : Q (.int c) H) : rIx K (.ref db) (.int (-1)) H Q :=
  .inl ⟨db, _, -1, _, rfl, rfl, SqL.of s.hdb, last_at (by rw [List.reverse_cons]), q⟩
theorem rdne {K : PySem.W.Frag} {da db p : Addr} {H0 H : Hp} {cs : List Int} {z : Int} {Q : VK} (s : AnyS da db H0 H cs z) (hp : H p = none) (q : Q (.bl (!decide (cs = []))) (upd H p (.lst []))) : rNeA K (.ref db) (.ref p) (upd H p (.lst [])) Q := by
  refine ne_read (xs := cs.reverse) (s.new hp).hdb upd_same ?_
  rw [show decide (cs.reverse = []) = decide (cs = []) from by rw [decide_eq_decide]; exact List.reverse_eq_nil_iff]
  exact q
theorem rdpop {da db : Addr} {H0 H : Hp} {c : Int} {cs : List Int} {z : Int} {Q : VK} (s : AnyS da db H0 H (c :: cs) z) (q : ∀ H', AnyS da db H0 H' cs z → Q (.int c) H') : rPop (.ref db) [] H Q := by
  refine ⟨db, _, .int c, rfl, rfl, s.hdb, ?_, q _ (s.cells ?_)⟩
  · rw [List.reverse_cons, List.map_append, List.length_append, List.map_cons, List.map_nil, List.length_singleton, Nat.add_sub_cancel, List.getElem?_append_right (Nat.le_refl _)]
    simp
  · rw [List.reverse_cons, List.map_append, List.map_cons, List.map_nil, List.dropLast_concat]
theorem tyl {K : PySem.W.Frag} {da db : Addr} {H0 H : Hp} {cs : List Int} {z : Int} (s : AnyS da db H0 H cs z) : tyV K "list" (.ref db) H := .inl ⟨rfl, _, SqL.of s.hdb⟩
theorem zne {c : Int} {cs : List Int} : (!decide (c :: cs = [])) = true := by simp
theorem ok_any (F : Fun K "_law_any" "_law_any" sAny f fd) (ml : mg "int" = none) : FnOk P w K mg base CX0 (n + 1) f fd ["_law_deal", "_law_bound"] (spF (NB.callF (n + 1)) .l_any) := by
  refine F.ok scAny (fun vs H Q E h => ?_) (fun cdv A outer s H vs Q E hr h => ?_)
  · rw [h.1]; rfl
  refine ⟨_, pss_cons (ps_while PassesOwn.never (pw_and (pt_cmpR (op_neA hr.units) (pe_ix ix_seq (pv 0) pe_int (fun _ _ => rfl)) (pe_lst pa_nil) (nomark _)) (pw_and1 (pt_cmpR op_eq (pe_ix ix_seq (pe_ix ix_seq (pv 0) pe_int (fun _ _ => rfl)) (pe_un un_neg pe_int) (fun _ _ => rfl)) pe_int (nomark _)))).pt
      (pss_one (ps_expr (pe_bm0 PySem.F.plainAttrs_list PySem.F.slot_list_pop PySem.F.type_list_pop mt_pop (pe_ix ix_seq (pv 0) pe_int (fun _ _ => rfl))))))
    (pss_cons (ps_if (pt_cmpR (op_neA hr.units) (pe_ix ix_seq (pv 0) pe_int (fun _ _ => rfl)) (pe_lst pa_nil) (nomark _))
        (pss_cons (ps_set (i := 2) scAny.nd rfl (Or.inl rfl) (pe_callTy call_int1 rfl ml PyProof.Rows.boot_int (pa_cons (pe_bm0 PySem.F.plainAttrs_list PySem.F.slot_list_pop PySem.F.type_list_pop mt_pop (pe_ix ix_seq (pv 0) pe_int (fun _ _ => rfl))) pa_nil)))
        (pss_cons (ps_expr (pe_bm PySem.F.plainAttrs_list PySem.F.slot_list_append PySem.F.type_list_append mt_append (pe_ix ix_seq (pv 0) pe_int (fun _ _ => rfl)) (pa_cons (pe_op op_fdivN (pv 2) (pv 1)) pa_nil)))
        (pss_one (ps_ret (pe_op op_mod (pv 2) (pv 1)))))) pss_nil)
    (pss_cons (ps_asg (pe_op op_mod (pe_callTy call_int1 rfl ml PyProof.Rows.boot_int (pa_cons (pe_op op_add (pe_op op_mul (pe_ix ix_seq (pv 0) pe_int (fun _ _ => rfl)) pe_int) pe_int) pa_nil)) pe_int) (pg_sub (pv 0) pe_int set_list))
    (pss_one (ps_ret (pe_op op_mod (pe_callTy call_int1 rfl ml PyProof.Rows.boot_int (pa_cons (pe_op op_fdivN (pe_ix ix_seq (pv 0) pe_int (fun _ _ => rfl)) pe_int) pa_nil)) (pv 1)))))), ?_⟩
  obtain ⟨hv, da, db, M, ds, δ, d, δ', p, r, e, q⟩ := h
  have e : NB.anyP ds δ = some (d, δ') := e
  unfold NB.anyP at e
  split at e
  · rename_i b _
    obtain ⟨v, w', rfl, h1, h2⟩ := r.two
    have h1 := h1.deal
    have h2 := h2.int
    subst h1 h2
    have S0 : AnyS da db H H δ.cs δ.z := ⟨p.deal.ne, p.deal.at_, p.deal.cells, Keep.refl _ _ _⟩
    have z0 := p.deal.z0
    have z1 := p.deal.z1
    have l48 := p.deal.len
    split at e
    · rename_i hb
      refine ⟨fun m σ H' => σ = L2.start ["_law_deal", "_law_bound", "_law_rest"] [.ref da, .int b] ∧ ∃ cs, m = cs.length ∧ AnyS da db H H' cs δ.z ∧ NB.dropZ cs = NB.dropZ δ.cs ∧ cs.length ≤ δ.cs.length, ⟨_, rfl, δ.cs, rfl, S0, rfl, Nat.le_refl _⟩, ?_⟩
      rintro m σ H1 ⟨rfl, cs, rfl, S1, hz, hlen⟩
      refine ⟨_, rfl, rd0 S1 ⟨(by show 0 ≤ sizeLine; decide), fun x hx => rdne S1 hx ⟨_, rfl, ?_⟩⟩⟩
      have S2 := S1.new (o := .lst []) hx
      cases cs with
      | cons c cs =>
        refine (if_pos zne).mpr ?_
        refine ⟨_, rfl, rd0 S2 ⟨1, rfl, rdl S2 ⟨rfl, _, rfl, ?_⟩⟩⟩
        by_cases hc : c = 0
        · subst hc
          refine (if_pos (by decide)).mpr ?_
          refine ⟨fun σ' H' => σ' = L2.start ["_law_deal", "_law_bound", "_law_rest"] [.ref da, .int b] ∧ ∃ cs', cs.length = cs'.length ∧ AnyS da db H H' cs' δ.z ∧ NB.dropZ cs' = NB.dropZ δ.cs ∧ cs'.length ≤ δ.cs.length, fun σ' H' z => ⟨cs.length, Nat.lt_succ_self _, z⟩, ?_⟩
          refine ⟨_, rfl, rd0 S2 ⟨tyl S2, rdpop S2 fun H' S3 => ⟨rfl, cs, rfl, S3, ?_, ?_⟩⟩⟩
          · rw [← hz, NB.dropZ, if_pos rfl]
          · rw [List.length_cons] at hlen; omega
        · have hc' : decide (V.int c = V.int 0) = false := decide_eq_false fun z => hc (by injection z)
          rw [hc']
          refine (if_neg (by decide)).mpr ?_
          refine ⟨_, rfl, rd0 S2 ⟨(by show 0 ≤ sizeLine; decide), fun y hy => rdne S2 hy ⟨_, rfl, ?_⟩⟩⟩
          have S3 := S2.new (o := .lst []) hy
          refine (if_pos zne).mpr ?_
          rw [NB.dropZ, if_neg hc] at hz
          rw [← hz] at e
          cases e
          refine ⟨_, rfl, rd0 S3 ⟨tyl S3, rdpop S3 fun H4 S4 => .inl ⟨_, rfl, ?_⟩⟩⟩
          refine ⟨_, rfl, rd0 S4 ⟨tyl S4, _, rfl, _, rfl, _, _, rfl, rfl, ⟨by omega, by omega⟩, ?_⟩⟩
          refine ⟨db, _, _, rfl, rfl, S4.hdb, ?_, ?_⟩
          · rw [List.length_cons] at hlen
            rw [List.length_map, List.length_reverse, sizeLine_eq]
            omega
          · have S5 : AnyS da db H (upd H4 db (.lst (cs.reverse.map V.int ++ [.int (c.fdiv b)]))) (c.fdiv b :: cs) δ.z := S4.cells (by rw [List.reverse_cons, List.map_append]; rfl)
            refine ⟨_, rfl, _, rfl, _, _, rfl, rfl, hb.1, ?_⟩
            refine q _ _ S5.kp ⟨S5.ne, S5.hda, ?_, ?_, z0, z1⟩ (at_int _)
            · rw [S5.hdb, Int.fdiv_eq_ediv_of_nonneg _ (by omega)]
            · rw [List.length_cons] at hlen ⊢; omega
      | nil =>
        refine (if_neg (by decide)).mpr ?_
        refine (if_neg (by decide)).mpr ?_
        refine ⟨_, rfl, rd0 S2 ⟨(by show 0 ≤ sizeLine; decide), fun y hy => rdne S2 hy ⟨_, rfl, ?_⟩⟩⟩
        have S3 := S2.new (o := .lst []) hy
        refine (if_neg (by decide)).mpr ?_
        rw [NB.dropZ] at hz
        rw [← hz] at e
        cases e
        refine ⟨_, rfl, rd1 S3 ⟨_, _, rfl, rfl, .inl ⟨by omega, by omega⟩, ?_⟩⟩
        refine ⟨_, _, rfl, rfl, .inl ⟨_, rfl, _, _, rfl, rfl, (by show (0 : Int) < 2147483647; decide), ?_⟩⟩
        refine ⟨_, rfl, da, _, 1, 1, rfl, rfl, S3.hda, rfl, ?_⟩
        have S4 : AnyS da db H (upd _ da (.lst [.ref db, .int ((δ.z * 40693 + 71) % 2147483647)])) [] ((δ.z * 40693 + 71) % 2147483647) := S3.blend
        refine ⟨_, rfl, rd1 S4 ⟨_, _, rfl, rfl, ⟨by decide, by decide⟩, .inl ⟨_, rfl, _, rfl, _, _, rfl, rfl, hb.1, ?_⟩⟩⟩
        refine q _ _ S4.kp ⟨S4.ne, S4.hda, S4.hdb, by simp, Int.emod_nonneg _ (by decide), Int.emod_lt_of_pos _ (by decide)⟩ ?_
        rw [Int.fdiv_eq_ediv_of_nonneg _ (by decide)]
        exact at_int _
    · cases e
  · cases e
end
end NS

set_option Elab.async false
set_option linter.all false
set_option maxRecDepth 100000
set_option maxHeartbeats 4000000
/-! heard_ends: a zip object that is held by a name, then walked. -/
namespace NS
open PySem PySem.Spec PyProof.Rows L2 NR
section
variable {X : Cx} {pins : List (Addr × Obj)} {σ : L2.St} {H HZ : Hp} {s : Shared}
/-- things tracked by a fact of their own are tracked -/
theorem inv_track {h' : Heap} {t' : Nat} (I : Inv X pins σ H s) (k : ∀ b u, s.heap.get? b = some u → h'.get? b = some u)
    (h : ∀ b, HZ b = H b ∨ (s.heap.objs.size ≤ b ∧ ∃ o, h'.get? b = some o ∧ HZ b = some (.ext fun g => g.get? b = some o))) : Inv X pins σ HZ { s with heap := h', toks := t' } := by
  have old : ∀ b, b < s.heap.objs.size → HZ b = H b := fun b hb => (h b).elim id fun z => absurd z.1 (Nat.not_le_of_lt hb)
  have same : ∀ b u, H b = some u → HZ b = some u := fun b u e => by rw [old b (I.hok.lt e)]; exact e
  refine I.un ⟨fun b u q _ _ _ => k b u q, fun b u q _ _ _ => ⟨u.slots, k b u q⟩, fun b u q n _ => by rw [old b (Heap.lt_size q)]; exact n, fun b u q _ => ⟨u, k b u q⟩, fun b xs q => same b _ q, fun b u xs q => same b _ q, fun b ps q => ⟨#[], by rw [same b _ q]; simp⟩⟩ fun b u e => ?_
  rcases h b with z | ⟨_, o, ho, z⟩
  · rw [z] at e
    exact (I.hok b u e).stay (fun c v _ q => k c v q) (fun c q => same c _ q) fun c xs q => same c _ q
  · rw [z] at e
    cases e
    exact ⟨ho, ⟨o, ho⟩, fun h1 h2 f g => g o f⟩
/-- .. and forgotten -/
theorem inv_forget (I : Inv X pins σ HZ s) (h : ∀ b, HZ b = H b ∨ (H b = none ∧ ∃ φ, HZ b = some (.ext φ))) : Inv X pins σ H s := by
  have other : ∀ b u, HZ b = some u → (∀ ψ, u ≠ .ext ψ) → H b = some u := fun b u e n => by
    rcases h b with z | ⟨_, φ, z⟩
    · rw [← z]; exact e
    · rw [z] at e; exact absurd (Option.some.inj e).symm (n φ)
  have non : ∀ b, HZ b = none → H b = none := fun b e => by
    rcases h b with z | ⟨z, _⟩
    · rw [← z]; exact e
    · exact z
  have hok : HOk X.prog X.w H s.heap := fun b u e => by
    have e2 : HZ b = some u := by
      rcases h b with z | ⟨z, _⟩
      · rw [z]; exact e
      · rw [z] at e; cases e
    exact (I.hok b u e2).stay (fun _ _ _ z => z) (fun c z => other c _ z fun _ w => (nomatch w)) fun c xs z => other c _ z fun _ w => (nomatch w)
  exact I.un (t' := s.toks) ⟨fun _ _ e _ _ _ => e, fun _ o e _ _ _ => ⟨o.slots, e⟩, fun b _ _ z _ => non b z, fun _ o e _ => ⟨o, e⟩, fun b xs z => other b _ z fun _ w => (nomatch w), fun b o x z => other b _ z fun _ w => (nomatch w), fun b ps z => ⟨#[], by rw [other b _ z fun _ w => (nomatch w)]; simp⟩⟩ hok
end
theorem nat5 (N : Nat) : N + 1 ≠ N ∧ N + 2 ≠ N ∧ N + 2 ≠ N + 1 ∧ N + 3 ≠ N ∧ N + 3 ≠ N + 1 ∧ N + 3 ≠ N + 2 ∧ N + 4 ≠ N ∧ N + 4 ≠ N + 1 ∧ N + 4 ≠ N + 2 ∧ N + 4 ≠ N + 3 := by omega
theorem natlt (c N : Nat) (h : c < N) : c ≠ N ∧ c ≠ N + 1 ∧ c ≠ N + 2 ∧ c ≠ N + 3 ∧ c ≠ N + 4 := by omega
theorem natle (N : Nat) : N ≤ N + 4 ∧ N ≤ N + 2 ∧ N ≤ N + 3 ∧ N ≤ N ∧ N ≤ N + 1 := by omega
/-- five objects of a zip that stands at the start -/
def zobj (k j : Bool) (a b N : Addr) (c : Addr) : Option Obj :=
  if c = N then some (iterObj k a) else if c = N + 1 then some (iterObj j b) else if c = N + 2 then some { cls := .type "tuple", data := .seq #[.ref N, .ref (N + 1)] }
  else if c = N + 3 then some { cls := .type "tuple", data := .seq #[.none, .none] } else if c = N + 4 then some { cls := .type "zip", dict := none, data := .fields #[.none, .bool false, .bool false, .ref (N + 2), .ref (N + 3)], slots := #[] } else none
def zH (H : Hp) (k j : Bool) (a b N : Addr) : Hp := fun c => match zobj k j a b N c with
  | some o => some (.ext fun g => g.get? c = some o)
  | none => H c
theorem zobj_out {k j : Bool} {a b N c : Addr} (h : c < N) : zobj k j a b N c = none := by
  unfold zobj
  obtain ⟨h1, h2, h3, h4, h5⟩ := natlt c N h
  rw [if_neg h1, if_neg h2, if_neg h3, if_neg h4, if_neg h5]
theorem zobj_le {k j : Bool} {a b N c : Addr} {o : Obj} (h : zobj k j a b N c = some o) : N ≤ c := by
  refine Nat.le_of_not_lt fun z => ?_
  rw [zobj_out z] at h
  cases h
/-- the heap with the zip's five objects -/
structure ZipH (n0 : Nat) (k j : Bool) (a b N : Addr) (H : Hp) : Prop where
  n0 : n0 ≤ N
  la : a < N
  lb : b < N
  free : ∀ c, N ≤ c → H c = none
section
variable {X : Cx}
def tZipV (K : PySem.W.Frag) (n0 : Nat) (ta : TA) : TE := fun σ H Q => ta σ H fun vs H1 => ∃ (k j : Bool) (a b : Addr) (xs ys : List V), vs = [.ref a, .ref b] ∧ SqK K k H1 a xs ∧ SqK K j H1 b ys ∧ ∀ N, ZipH n0 k j a b N H1 → Q (.ref (N + 4)) (zH H1 k j a b N)
theorem pe_zipV {e e2 : Expr} {ta : TA} {p pos : Pos} (hg : Gl X "zip") (hm : X.mg "zip" = none) (ha : PA X [e, e2] ta)
    (hs : starEach [e, e2] X.env = (false, eval e X.env) :: starEach [e2] X.env := by rfl) (hpl : (backTo pos (starEach [e2] X.env)).any (·.1) = false := by rfl) :
    PE X (.Call (.Name "zip" p) [e, e2] [] pos) (tZipV X.K X.s_0.heap.objs.size ta) := by
  refine ⟨fun pins s σ H Q I h => ?_⟩
  refine Call_ (ld_blt I hg hm PyProof.Rows.boot_zip (PyProof.Rows.callWith_type1 (thn (ha.run pos pins s σ H _ I h) fun us s1 ⟨vs, H1, I1, r1, q1⟩ => ?_) hs hpl))
  obtain ⟨k, j, a, b, xs, ys, ex, hqx, hqy, q⟩ := q1
  subst ex
  obtain ⟨u, v, rfl, r, r'⟩ := r1.two
  cases r
  cases r'
  obtain ⟨its, rv, p1, _⟩ := Inv.seqK I1 hqx
  obtain ⟨its2, rv2, p2, _⟩ := Inv.seqK I1 hqy
  refine zip_begins2 (beginsK k a its.toArray) (beginsK j b its2.toArray) p1 p2 fun h' hz hTI hTO h1 h2 hsz hk => ?_
  refine ⟨.ref (s1.heap.objs.size + 4), zH H1 k j a b s1.heap.objs.size, inv_track (t' := s1.toks) I1 hk fun c => ?_, rfl, q _ ⟨I1.sz, p1.lt, p2.lt, fun c hc => I1.hok.fresh hc⟩⟩
  cases e : zobj k j a b s1.heap.objs.size c with
  | none => exact .inl (by unfold zH; rw [e])
  | some o =>
    refine .inr ⟨zobj_le e, o, ?_, by unfold zH; rw [e]⟩
    unfold zobj at e
    split at e
    · rename_i z; cases e; rw [z]; exact h1
    · split at e
      · rename_i z; cases e; rw [z]; exact h2
      · split at e
        · rename_i z; cases e; rw [z]; exact hTI
        · split at e
          · rename_i z; cases e; rw [z]; exact hTO
          · split at e
            · rename_i z; cases e; rw [z]; exact hz
            · cases e
def iZipV (K : PySem.W.Frag) (n0 : Nat) (i : Nat) : TI := fun σ HZ R => ∃ (k j : Bool) (a b N : Addr) (H : Hp), σ[i]? = some (some (.ref (N + 4))) ∧ HZ = zH H k j a b N ∧ ZipH n0 k j a b N H ∧ R (ItzA K k j a b) H
theorem pi_zipV {i : Nat} {x : Str} {p tpos : Pos} {elts : List Expr} {kk : Nat} (hN : X.N[i]? = some x) (hv : Vis X.env.scope x) (hd : (x == ("__debug__" : Str)) = false := by decide) (hcd : (x == ("__classdict__" : Str)) = false := by decide) : PI X (.Tuple elts kk tpos) (.Name x p) (iZipV X.K X.s_0.heap.objs.size i) := by
  refine ⟨fun pins s σ H R I h => ?_⟩
  obtain ⟨k, j, a, b, N, H1, hs, rfl, zh, q⟩ := h
  refine thn ((pe_var (pos := p) (i := i) hN hv hd hcd).run pins s σ _ (fun v H2 => v = .ref (N + 4) ∧ H2 = zH H1 k j a b N) I ⟨_, hs, rfl, rfl⟩) fun u s1 ⟨v, H2, I1, r1, ev, eH⟩ => ?_
  subst ev eH
  cases r1
  have zat : ∀ c o, zobj k j a b N c = some o → zH H1 k j a b N c = some (.ext fun g => g.get? c = some o) := fun c o e => by unfold zH; rw [e]
  have at_ : ∀ c o, zobj k j a b N c = some o → s1.heap.get? c = some o := fun c o e => (I1.hok c _ (zat c o e)).1
  obtain ⟨m1, m2, m3, m4, m5, m6, m7, m8, m9, m10⟩ := nat5 N
  obtain ⟨l1, l2, l3, l4, l5⟩ := natle N
  have z0 : zobj k j a b N N = some (iterObj k a) := by unfold zobj; rw [if_pos rfl]
  have z1 : zobj k j a b N (N + 1) = some (iterObj j b) := by unfold zobj; rw [if_neg m1, if_pos rfl]
  have z2 : zobj k j a b N (N + 2) = some { cls := .type "tuple", data := .seq #[.ref N, .ref (N + 1)] } := by unfold zobj; rw [if_neg m2, if_neg m3, if_pos rfl]
  have z3 : zobj k j a b N (N + 3) = some { cls := .type "tuple", data := .seq #[.none, .none] } := by unfold zobj; rw [if_neg m4, if_neg m5, if_neg m6, if_pos rfl]
  have z4 : zobj k j a b N (N + 4) = some { cls := .type "zip", dict := none, data := .fields #[.none, .bool false, .bool false, .ref (N + 2), .ref (N + 3)], slots := #[] } := by unfold zobj; rw [if_neg m7, if_neg m8, if_neg m9, if_neg m10, if_pos rfl]
  have I2 : Inv X pins σ H1 s1 := inv_forget I1 fun c => by
    cases e : zobj k j a b N c with
    | none => exact .inl (by unfold zH; rw [e])
    | some o => exact .inr ⟨zh.free c (zobj_le e), _, zat c o e⟩
  refine wpAny_pyIter_zip (at_ _ _ z4) ?_
  refine ⟨N + 4, [N + 4, N + 2, N + 3, N, N + 1], _, _, H1, rfl, I2,
    turn_zipA k j (zip_sep2 (fun c hc => by rw [List.mem_singleton.mp hc]; exact zh.la) (fun c hc => by rw [List.mem_singleton.mp hc]; exact zh.lb)) (Nat.ne_of_lt zh.la) (Nat.ne_of_lt (Nat.lt_succ_of_lt zh.lb)),
    ⟨at_ _ _ z4, at_ _ _ z2, ⟨_, _, at_ _ _ z3⟩, IterK.new k (at_ _ _ z0), IterK.new j (at_ _ _ z1)⟩, fun c hcm => ?_, q⟩
  have mem : ∃ o, zobj k j a b N c = some o ∧ N ≤ c := by
    have e' : c = N + 4 ∨ c = N + 2 ∨ c = N + 3 ∨ c = N ∨ c = N + 1 := by simpa using hcm
    rcases e' with z | z | z | z | z <;> rw [z]
    · exact ⟨_, z4, l1⟩
    · exact ⟨_, z2, l2⟩
    · exact ⟨_, z3, l3⟩
    · exact ⟨_, z0, l4⟩
    · exact ⟨_, z1, l5⟩
  obtain ⟨o, eo, hle⟩ := mem
  exact ⟨zh.free c hle, (ItX.inv_fp I1 (zat c o eo) (Nat.le_trans zh.n0 hle)).2⟩
end
/-! ### heard_ends -/
abbrev sHe : Stmt := top 46
theorem scHe : FnScope (nmF .heard_ends) (psF .heard_ends) (defScope sHe) := ⟨rfl, rfl, rfl, by decide +kernel, by decide +kernel, by decide +kernel, by decide +kernel⟩
def cHe : Sc := ⟨nmF .heard_ends, defScope sHe, false⟩
def he1 : NB.E := .call .branches (.cons (.ix (.ix (.var 0) (.int 1)) (.var 1)) .nil)
def he2 : NB.E := .var 2
def heElt : NB.E := .ite (.bin .eq (.var 7) (.str .w_falls)) (.ix (.var 4) (.var 6)) (.ix (.var 3) (.var 6))
/-- the shape of the def's body -/
def heOk (c : Sc) : List Stmt → Bool
  | [.Assign [.Name y py] (.Call (.Name z zp) [p1, p2] [] cpos) pos, .Return (some (.Call (.Name t tp) [.ListComp pel [⟨.Tuple tes tk tpos, .Name y2 yp, ifs, 0⟩] scope lpos] [] rpos)) pos2] =>
    (locF c 5 y && ((z == ("zip" : Str) && glB c.sc z) && (!isStar p1 && (!isStar p2 && (okE c he1 p1 && okE c he2 p2))))) && ((t == ("tuple" : Str) && glB c.sc t) && (varB c 5 y2 &&
      (blkC c.N c.sc scope (([6, 7] : List Nat).filterMap fun i => (c.N[i]?).map fun x => (x, i)) && (decide ((([6, 7] : List Nat).filterMap fun i => (c.N[i]?).map fun x => (x, i)).map (·.2) = [6, 7]) &&
        (okTg (locB (c.blk scope)) (.many [6, 7]) (.Tuple tes tk tpos) && (okT (c.blk scope) .nop ifs && okE (c.blk scope) heElt pel))))))
  | _ => false
theorem heOk_parts {c : Sc} {ss : List Stmt} (h : heOk c ss = true) : ∃ y py z zp p1 p2 cpos pos t tp pel tes tk tpos y2 yp ifs scope lpos rpos pos2,
    ss = [.Assign [.Name y py] (.Call (.Name z zp) [p1, p2] [] cpos) pos, .Return (some (.Call (.Name t tp) [.ListComp pel [⟨.Tuple tes tk tpos, .Name y2 yp, ifs, 0⟩] scope lpos] [] rpos)) pos2] ∧
    ((locF c 5 y && ((z == ("zip" : Str) && glB c.sc z) && (!isStar p1 && (!isStar p2 && (okE c he1 p1 && okE c he2 p2))))) && ((t == ("tuple" : Str) && glB c.sc t) && (varB c 5 y2 &&
      (blkC c.N c.sc scope (([6, 7] : List Nat).filterMap fun i => (c.N[i]?).map fun x => (x, i)) && (decide ((([6, 7] : List Nat).filterMap fun i => (c.N[i]?).map fun x => (x, i)).map (·.2) = [6, 7]) &&
        (okTg (locB (c.blk scope)) (.many [6, 7]) (.Tuple tes tk tpos) && (okT (c.blk scope) .nop ifs && okE (c.blk scope) heElt pel))))))) = true := by
  unfold heOk at h
  split at h
  · exact ⟨_, _, _, _, _, _, _, _, _, _, _, _, _, _, _, _, _, _, _, _, _, rfl, h⟩
  · cases h
theorem heOk_yes : heOk cHe (defBody sHe) = true := by decide +kernel
theorem keep_set {da : Addr} {M : Addr → Prop} {H : Hp} {σ : L2.St} {ρ : NB.Env} (e : EnvAt da M H σ ρ) (i : Nat) (v : V) (h : ρ[i]? = some none) : EnvAt da M H (σ.set i (some v)) ρ :=
  ⟨by rw [List.length_set]; exact e.len, fun j d q => by
    have hij : i ≠ j := fun z => by rw [← z, h] at q; cases q
    rw [List.getElem?_set_ne hij]
    exact e.at_ j d q⟩
section
variable {ad : NB.F → Addr} {fd : NB.F → FuncData} {n : Nat} {P : Program} {w : World} {K : PySem.W.Frag} {mg : Str → Option Value} {base : Heap}
theorem fn_he (F : Fun K (pyS .heard_ends) (pyS .heard_ends) sHe (ad .heard_ends) (fd .heard_ends)) (fa : Fa (NB.callF n) ad fd psF n P w K mg base) :
    FnOk P w K mg base CX0 (n + 1) (ad .heard_ends) (fd .heard_ends) (psF .heard_ends) (spF (NB.callF (n + 1)) .heard_ends) := by
  refine F.ok scHe (fun vs H Q E h => ?_) (fun cdv A outer s H vs Q E hr h => ?_)
  · rw [h.1]; rfl
  · obtain ⟨hv, da, db, M, ds, δ, d, δ', p, r, e, q⟩ := h
    have g := gd_of (A := A) (outer := outer) (s := s) (H := H) (E := E) fa scHe hr
    generalize (cxOf CX0 P w K mg base (nmF .heard_ends) (pyS .heard_ends) (defScope sHe) (ad .heard_ends) cdv A outer s H E).nox = X at g ⊢
    obtain ⟨y, py, z, zp, p1, p2, cpos, pos, t, tp, pel, tes, tk, tpos, y2, yp, ifs, scope, lpos, rpos, pos2, hss, ok⟩ := heOk_parts heOk_yes
    rw [hss]
    simp only [Bool.and_eq_true, Bool.not_eq_true', beq_iff_eq (a := z), beq_iff_eq (a := t), decide_eq_true_eq] at ok
    obtain ⟨⟨o1, ⟨rfl, o2⟩, o3, o4, o5, o6⟩, ⟨rfl, o7⟩, o8, o9, o10, o11, o12, o13⟩ := ok
    have g0 : GdF (NB.callF n) ad fd psF n cHe X := g
    obtain ⟨l1, l2, l3⟩ := locF_q g0 5 y o1
    obtain ⟨gz, dz, nz⟩ := gl_of g0.g o2
    obtain ⟨gt, dt, nt⟩ := gl_of g0.g o7
    have hblk : BlkOk X.N X.env.scope scope (([6, 7] : List Nat).filterMap fun i => (cHe.N[i]?).map fun x => (x, i)) := by
      rw [g0.g.hN, g0.g.hsc]
      exact blkOk_by o9
    have o8' := o8
    simp only [varB, Bool.and_eq_true, decide_eq_true_eq, Bool.not_eq_true'] at o8'
    refine ⟨_, pss_cons (ps_set g0.g.nd l1 l2 (pe_zipV gz g0.g.fa.st.zip (pa_cons ((sound_all he1).E cHe p1 o5 X g0.g) (pa_cons ((sound_all he2).E cHe p2 o6 X g0.g) pa_nil (star_plain o4)) (star_plain o3)) (star_plain o3) (by rw [star_plain o4]; rfl)) (by rfl) l3)
      (pss_one (ps_ret (pe_callTy (cr_ty .tuple rfl) gt (g0.g.fa.st.bl .tuple) (boot_ty .tuple rfl) (pa_cons (pe_lc (g := tgR X.K (.many [6, 7])) g0.g.calm g0.g.nd
        (pi_zipV (i := 5) (by rw [g0.g.hN]; exact o8'.1) (by rw [g0.g.hsc]; exact vis_of o8'.2.1) o8'.2.2.1 o8'.2.2.2) hblk
        (fun s H C cl fp => pg_tg (X := X.blk s H _ (compEnvC _ cl C X.env) fp) g0.g.calm g0.g.nd (loc_q (g0.g.blk s H _ cl C fp)) o11) (fun s H C cl fp => (sound_all .nop).T _ ifs o12 _ (g0.g.blk s H _ cl C fp)) (fun s H C cl fp => (sound_all heElt).E _ pel o13 _ (g0.g.blk s H _ cl C fp))
        (fun _ => rfl)) pa_nil (by rfl)) nt dt (by rfl) (by rfl)))), ?_⟩
    obtain ⟨e1, e2⟩ := callF_eq (f := .heard_ends) (by decide) e
    have S := start_inv (N := nmF .heard_ends) (k := 3) p r (by rw [hv]; rfl)
    have hlen5 : ds.length = 5 := e1
    have e3 : NB.evE (NB.callF n) (.fn .tuple (.cons (.lc [6, 7] (.many [6, 7]) (.itZ he1 he2) .nop heElt) .nil)) (NB.view true (row .heard_ends ds)) δ = some (d, δ') := by
      have ex : NB.exec (NB.callF n) (NB.F.body .heard_ends) (row .heard_ends ds) δ = (do
        let (f, δ) ← (do let (d, δ) ← NB.evE (NB.callF n) (.fn .tuple (.cons (.lc [6, 7] (.many [6, 7]) (.itZ he1 he2) .nop heElt) .nil)) (NB.view true (row .heard_ends ds)) δ; some (NB.Fl.rt d, δ))
        match f with
        | .nx ρ1 => NB.exec (NB.callF n) .skip ρ1 δ
        | .rt d => some (.rt d, δ)) := rfl
      rw [ex] at e2
      cases q : NB.evE (NB.callF n) (.fn .tuple (.cons (.lc [6, 7] (.many [6, 7]) (.itZ he1 he2) .nop heElt) .nil)) (NB.view true (row .heard_ends ds)) δ with
      | none => rw [q] at e2; rcases e2 with z | ⟨_, z, _⟩ <;> cases z
      | some r => rw [q] at e2; rcases e2 with z | ⟨_, z, _⟩ <;> cases z; rfl
    rw [NB.evE] at e3
    obtain ⟨⟨xs0, δa⟩, f1, e3⟩ := bnd e3
    obtain ⟨d0, f2, e3⟩ := bnd e3
    cases e3
    rw [NB.evL] at f1
    obtain ⟨⟨x, δb⟩, f3, f1⟩ := bnd f1
    obtain ⟨⟨xs1, δc⟩, f4, f1⟩ := bnd f1
    cases f1
    rw [NB.evL] at f4
    cases f4
    rw [NB.evE] at f3
    obtain ⟨⟨xs, δ1⟩, f5, f3⟩ := bnd f3
    dsimp only at f3
    split at f3
    · rename_i hl
      obtain ⟨⟨es, δ2⟩, f6, f3⟩ := bnd f3
      cases f3
      rw [NB.evI] at f5
      obtain ⟨⟨x1, δ3⟩, g1, f5⟩ := bnd f5
      obtain ⟨⟨x2, δ4⟩, g2, f5⟩ := bnd f5
      obtain ⟨us, g3, f5⟩ := bnd f5
      obtain ⟨ws, g4, f5⟩ := bnd f5
      cases f5
      have en := S.ful.2
      refine two S.ful.1 en g1 g2 fun v w' H2 k p2 a1 a2 _ => ?_
      obtain ⟨k1, l1', us1, rfl, n1, hl1, hs1, r1⟩ := a1.seq (K := X.K) g3
      obtain ⟨k2, l2', us2, rfl, n2, hl2, hs2, r2⟩ := a2.seq (K := X.K) g4
      refine ⟨k1, k2, l1', l2', us1, us2, rfl, hs1, hs2, fun N zh => ?_⟩
      have sl : (L2.start (nmF .heard_ends) vs).length = 8 := by
        rw [← S.len, List.length_append, List.length_map, List.length_replicate, hlen5]
      rw [o10]
      refine ⟨k1, k2, l1', l2', N, H2, List.getElem?_set_self (by rw [sl]; decide), rfl, zh, fun D hD => ?_⟩
      have en2 := keep_set (en.keep S.ful.1 k) 5 (.ref (N + 4)) (by
        rw [NB.view, List.getElem?_map, List.getElem?_append_right (by rw [List.length_map, hlen5]; exact Nat.le_refl _), List.length_map, hlen5]
        rfl)
      refine lc_inner (K := X.K) (Q := fun x H1 => rFn X.K .tuple [x] H1 Q) (M := M) (by decide) p2 en2 hl f6 (walkZipA (K := X.K) (xs := us1) (ys := us2) k1 k2 (by rw [List.length_zipWith, r1.length, r2.length])) (fun M2 H3 st => ⟨seqk_step n1 hl1 st, seqk_step n2 hl2 st⟩) (fun i Hi v H' M2 δ2 hi p2 st y => ?_) (fun D' H' kk qq hD a => ?_) hD
      · obtain ⟨T, x, y, rfl, hT, eH, ex, ey⟩ := y
        obtain ⟨d1, f1, g1⟩ := r1.get' ex
        obtain ⟨d2, f2, g2⟩ := r2.get' ey
        obtain ⟨z1, z2, z3⟩ := at_pair p2 hT eH (At.step st d1 x g1) (At.step st d2 y g2)
        exact ⟨z1, z2, _, by rw [List.getElem?_zipWith, f1, f2], z3⟩
      · exact read_fn .tuple f2 (p2.next kk qq) (Ats.cons a Ats.nil) (fun v H'' k'' q'' a'' _ => q v H'' ((k.trans kk).trans k'') q'' a'')
    · cases f3
end
end NS

set_option Elab.async false
set_option linter.all false
set_option maxRecDepth 100000
set_option maxHeartbeats 4000000
/-! The law's source of draws, by hand. -/
namespace NS
open PySem PySem.Spec PyProof.Rows L2 NR
abbrev sDraw : Stmt := top 60
abbrev nDraw : List Str := ["_law_script", "_law_salt", "_law_cells", "_law_cell", "_law_blend"]
theorem scDraw : FnScope nDraw ["_law_script", "_law_salt"] (defScope sDraw) := ⟨rfl, rfl, rfl, by decide +kernel, rfl, by decide +kernel, by decide +kernel⟩
/-- what is promised: two new lists -/
def spDraw (K : PySem.W.Frag) : Sp := fun vs H Q _ => ∃ (a : Addr) (ns : List Int), vs = [.ref a, .int 53] ∧ SqL K H a (ns.map V.int) ∧
  ∀ da db H' δ, da ≠ db → H da = none → H db = none → (∀ b o, H b = some o → H' b = some o) → DealAt da db H' δ → Q (.ref da) H'
section
variable {P : Program} {w : World} {K : PySem.W.Frag} {mg : Str → Option Value} {base : Heap} {f : Addr} {fd : FuncData} {n : Nat}
abbrev Sm (H H' : Hp) : Prop := ∀ b o, H b = some o → H' b = some o
theorem Sm.new {H H1 : Hp} {p : Addr} {o : HO} (s : Sm H H1) (h : H1 p = none) : Sm H (upd H1 p o) := fun b u e => by
  rw [upd_ne (ne_of_none (s b u e) h)]
  exact s b u e
theorem Sm.free {H H1 : Hp} {p : Addr} (s : Sm H H1) (h : H1 p = none) : H p = none := by
  cases e : H p with
  | none => rfl
  | some o => rw [s p o e] at h; cases h
theorem Sm.set {H H1 : Hp} {p : Addr} {o : HO} (s : Sm H H1) (h : H p = none) : Sm H (upd H1 p o) := fun b u e => by
  rw [upd_ne (ne_of_none e h)]
  exact s b u e
def absI (i : Int) : Int := if i < 0 then -i else i
theorem cut48 (ns : List Int) : cutV (ns.map V.int) none (some 48) = (ns.take 48).map V.int := by
  unfold cutV
  rw [← cut_eq, ← cut_eq]
  simp only [NB.cutAt, List.length_map, List.drop_zero, Nat.sub_zero]
  rw [if_neg (by decide), ← List.map_take]
  congr 1
  rw [show (48 : Int).toNat = 48 from rfl, Nat.min_comm]
  by_cases h : 48 ≤ ns.length
  · rw [Nat.min_eq_right h]
  · rw [Nat.min_eq_left (by omega), List.take_of_length_le (Nat.le_refl _), List.take_of_length_le (by omega)]
theorem ok_draw (F : Fun K "_law_draw" "_law_draw" sDraw f fd) (mi : mg "int" = none) (ma : mg "abs" = none) : FnOk P w K mg base CX0 (n + 1) f fd ["_law_script", "_law_salt"] (spDraw K) := by
  refine F.ok scDraw (fun vs H Q E h => ?_) (fun cdv A outer s H vs Q E hr h => ?_)
  · obtain ⟨a, ns, rfl, _⟩ := h; rfl
  have b3 : blkC nDraw (defScope sDraw) (match defBody sDraw with | [.Assign _ (.ListComp _ _ scope _) _, _, _, _] => scope | _ => ⟨.module, [], false, false, []⟩) [("_law_cell", 3)] = true := by decide +kernel
  have b4 : blkC nDraw (defScope sDraw) (match defBody sDraw with | [_, _, _, .Return (some (.List [.Subscript (.ListComp _ _ scope _) _ _, _] _)) _] => scope | _ => ⟨.module, [], false, false, []⟩) [("_law_cell", 3)] = true := by decide +kernel
  refine ⟨_, pss_cons (ps_setLc (own := [("_law_cell", 3)]) (g := gName 3) rfl scDraw.nd (i := 2) rfl rfl (sw_true rfl rfl rfl (by decide +kernel)) (pi_list (pe_slice sl_list (pv 0) po_none (po_some pe_int))) (blkOk_by b3)
        (fun s H C cl fp => pg_name scDraw.nd rfl (Or.inl rfl) (Or.inr rfl)) (fun s H C cl fp => pts_nil)
        (fun s H C cl fp => pe_callB call_abs rfl ma PyProof.Rows.boot_abs (pa_cons (pe_callTy call_int1 rfl mi PyProof.Rows.boot_int (pa_cons (pv 3) pa_nil)) pa_nil)))
    (pss_cons (ps_set (i := 4) scDraw.nd rfl (Or.inl rfl) (pe_op op_add pe_int (pe_op op_mul pe_int (pv 1))))
    (pss_cons (ps_for PassesOwn.never rfl (pi_list (pv 2)) (pg_name (i := 3) scDraw.nd rfl (Or.inl rfl)) (pss_one (ps_set (i := 4) scDraw.nd rfl (Or.inl rfl)
        (pe_op op_mod (pe_callTy call_int1 rfl mi PyProof.Rows.boot_int (pa_cons (pe_op op_add (pe_op op_add (pe_op op_mul (pv 4) pe_int) (pe_op op_mod (pv 3) pe_int)) pe_int) pa_nil)) pe_int))))
    (pss_one (ps_ret (pe_lst (pa_cons (pe_revL (pe_lc (own := [("_law_cell", 3)]) (g := gName 3) rfl scDraw.nd (pi_list (pv 2)) (blkOk_by b4)
        (fun s H C cl fp => pg_name scDraw.nd rfl (Or.inl rfl) (Or.inr rfl)) (fun s H C cl fp => pts_one (pt_cmpR op_ge (pv 3) (pe_op op_pow pe_int pe_int) (nomark _))) (fun s H C cl fp => pv 3))) (pa_cons (pv 4) pa_nil))))))), ?_⟩
  obtain ⟨a, ns, rfl, hS, q⟩ := h
  refine ⟨.ref a, rfl, 48, rfl, a, _, rfl, hS, fun p hp => ⟨p, rfl, ⟨_, SqL.of upd_same⟩, fun D hD => ?_⟩⟩
  have sm0 : Sm H (upd H p (.lst (cutV (ns.map V.int) none (some 48)))) := Sm.new (fun _ _ e => e) hp
  have hDp : D ≠ p := fun z => by rw [z, upd_same] at hD; cases hD
  rw [cut48] at *
  have hDH : H D = none := sm0.free hD
  refine lc_it (walk_list (xs := (ns.take 48).map V.int)) (fun i H' => Sm H H' ∧ H' p = some (.lst ((ns.take 48).map V.int)) ∧ H' D = some (.lst (((ns.take 48).take i).map fun c => V.int (absI c)))) ?_ ?_ ?_ ?_
  · exact ⟨sm0.new hD, by rw [upd_ne (fun e => hDp e.symm)]; exact upd_same, upd_same⟩
  · rintro i H' _ ⟨_, h, _⟩
    exact SqL.of h
  · rintro i x H1 H' hi ⟨s1, s2, s3⟩ ⟨rfl, ex⟩
    rw [List.getElem?_map] at ex
    cases ec : (ns.take 48)[i]? with
    | none => rw [ec] at ex; cases ex
    | some c =>
      rw [ec] at ex
      cases ex
      refine ⟨rfl, ?_⟩
      unfold tYes
      refine ite2 (fun _ => ?_) fun z => absurd rfl z
      refine ⟨_, rfl, .inl ⟨c, rfl, c, rfl, _, s3, ?_, ?_⟩⟩
      · rw [List.length_map, List.length_take, List.length_take, sizeLine_eq]; omega
      · refine ⟨s1.set hDH, by rw [upd_ne (fun e => hDp e.symm)]; exact s2, ?_⟩
        rw [upd_same]
        have e : (ns.take 48).take (i + 1) = (ns.take 48).take i ++ [c] := by
          rw [List.take_succ, ec]
          rfl
        rw [e, List.map_append]
        rfl
  · rintro H1 ⟨s1, s2, s3⟩
    generalize hcs : (((ns.take 48).take ((ns.take 48).map V.int).length).map fun c => V.int (absI c)) = ys at s3
    have hlen : ys.length ≤ 48 := by rw [← hcs, List.length_map, List.length_take, List.length_take]; omega
    have hint : ∀ y ∈ ys, ∃ c : Int, y = .int c := fun y hy => by
      rw [← hcs] at hy
      obtain ⟨c, _, e⟩ := List.mem_map.mp hy
      exact ⟨_, e.symm⟩
    clear hcs
    refine ⟨.int 53, rfl, 104729, 53, rfl, rfl, .inl ⟨by decide, by decide⟩, 7919, _, rfl, rfl, ?_⟩
    refine ⟨.ref D, rfl, D, rfl, ⟨ys, SqL.of s3⟩, ?_⟩
    refine for_it (walk_list (xs := ys)) (fun i σ H' => ∃ (z : Int) (x3 : Option V), σ = [some (.ref a), some (.int 53), some (.ref D), x3, some (.int z)] ∧ 0 ≤ z ∧ z < 2147483647 ∧ Sm H H' ∧ H' D = some (.lst ys)) ⟨5558556, none, rfl, by decide, by decide, s1, s3⟩ (fun i σ H' _ ⟨_, _, _, _, _, _, h⟩ => SqL.of h) ?_ ?_
    · rintro i x σ H2 H3 hi ⟨z, x3, rfl, z0, z1, t1, t2⟩ ⟨rfl, ex⟩
      obtain ⟨c, rfl⟩ := hint x (List.mem_of_getElem? ex)
      refine ⟨_, rfl, z, 48271, rfl, rfl, .inl ⟨by omega, by omega⟩, _, rfl, c, 2147483549, rfl, rfl, (by show (0 : Int) < 2147483549; decide), _, _, rfl, rfl, _, 11, rfl, rfl, .inl ⟨_, rfl, _, 2147483647, rfl, rfl, (by show (0 : Int) < 2147483647; decide), ?_⟩⟩
      exact ⟨_, some (.int c), rfl, Int.emod_nonneg _ (by decide), Int.emod_lt_of_pos _ (by decide), t1, t2⟩
    · rintro σ H2 ⟨z, x3, rfl, z0, z1, t1, t2⟩
      refine ⟨.ref D, rfl, D, rfl, ⟨ys, SqL.of t2⟩, fun D2 hD2 => ?_⟩
      have hDD : D2 ≠ D := fun z => by rw [z, t2] at hD2; cases hD2
      have h2H : H D2 = none := t1.free hD2
      refine lc_it (walk_list (xs := ys)) (fun i H' => ∃ gs : List Int, Sm H H' ∧ H' D = some (.lst ys) ∧ H' D2 = some (.lst (gs.map V.int)) ∧ gs.length ≤ i) ?_ ?_ ?_ ?_
      · exact ⟨[], t1.new hD2, by rw [upd_ne (fun e => hDD e.symm)]; exact t2, upd_same, Nat.le_refl _⟩
      · rintro i H' _ ⟨_, _, h, _⟩
        exact SqL.of h
      · rintro i x H3 H4 hi ⟨gs, u1, u2, u3, u4⟩ ⟨rfl, ex⟩
        obtain ⟨c, rfl⟩ := hint x (List.mem_of_getElem? ex)
        refine ⟨rfl, ?_⟩
        refine ⟨.int c, rfl, 10, 18, rfl, rfl, ⟨by decide, by decide, by decide⟩, c, _, rfl, rfl, _, rfl, ?_⟩
        refine ite2 (fun _ => ?_) fun _ => ?_
        · refine ⟨.int c, rfl, _, u3, by rw [List.length_map, sizeLine_eq]; omega, gs ++ [c], u1.set h2H, by rw [upd_ne (fun e => hDD e.symm)]; exact u2, by rw [upd_same, List.map_append]; rfl, by rw [List.length_append, List.length_singleton]; omega⟩
        · exact ⟨gs, u1, u2, u3, by omega⟩
      · rintro H3 ⟨gs, u1, u2, u3, u4⟩
        refine ⟨D2, _, rfl, SqL.of u3, fun r hr => ?_⟩
        refine ⟨.int z, rfl, (by show 2 ≤ sizeLine; decide), fun t ht => ?_⟩
        have ntr : t ≠ r := fun e => by rw [e, upd_same] at ht; cases ht
        have v1 : Sm H (upd H3 r (.lst (gs.map V.int).reverse)) := u1.new hr
        refine q t r _ ⟨gs, z⟩ ntr (v1.free ht) (u1.free hr) (v1.new ht) ⟨ntr, upd_same, ?_, (by show gs.length ≤ 48; omega), z0, z1⟩
        rw [upd_ne (fun e => ntr e.symm), upd_same, List.map_reverse]
end
end NS

set_option Elab.async false
set_option linter.all false
set_option maxRecDepth 100000
set_option maxHeartbeats 4000000
/-! All defs keep their promises; the law's own body. -/
namespace NS
open PySem PySem.Spec PyProof.Rows L2 NR
def allF : List NB.F := [.is_integer, .is_number, .is_index, .is_worth, .is_head, .parts_of, .branches, .made, .told_by, .told, .is_state, .wanted, .is_past, .is_house_lateness, .is_lateness, .can_follow, .fault_of, .is_run, .shows_next, .moves_of, .stopped_shown, .aged, .plain_run, .entries_for, .range_of, .house_range, .is_rising_row, .turn_of, .words_within, .ways, .one_way, .heard_ends, .stepped, .first_ends, .rows_of_ends, .last_ends, .rounds_needed, .rests_always, .the_rest, .settled_from, .settled_with,
  .l_any, .l_of, .l_rule, .l_net, .l_parts, .l_branches, .l_made, .l_told, .l_wants, .l_past, .l_hears, .l_stopped]
theorem mem_all (f : NB.F) : f ∈ allF := by cases f <;> decide
def scB (N P : List Str) (sc : Scope) : Bool :=
  (match sc.kind with | .function => true | _ => false) && (!sc.isCoroutine && (!sc.isGenerator && (decide N.Nodup && (decide (N.take P.length = P) && ((P.all fun x => decide (sc.names.lookup x = some .local) || decide (sc.names.lookup x = some .cell)) && (sc.names.all fun y => decide (y.2 ≠ .free)))))))
theorem scB_of {N P : List Str} {sc : Scope} (h : scB N P sc = true) : FnScope N P sc := by
  simp only [scB, Bool.and_eq_true, Bool.not_eq_true', decide_eq_true_eq, List.all_eq_true, Bool.or_eq_true] at h
  obtain ⟨h1, h2, h3, h4, h5, h6, h7⟩ := h
  refine ⟨?_, h2, h3, h4, h5, h6, h7⟩
  split at h1
  · assumption
  · cases h1
def chkF (f : NB.F) : Bool := (decide (f = .l_any) || (decide (f = .heard_ends) || okB ⟨nmF f, defScope (top f.at), false⟩ f.body (defBody (top f.at)))) && (scB (nmF f) (psF f) (defScope (top f.at)) && (decide ((nmF f).length = f.ns) && decide (f.np ≤ f.ns)))
theorem chk_all (f : NB.F) : chkF f = true := List.all_eq_true.mp (show allF.all chkF = true by decide +kernel) f (mem_all f)
section
variable {ad : NB.F → Addr} {fd : NB.F → FuncData} {P : Program} {w : World} {K : PySem.W.Frag} {mg : Str → Option Value} {base : Heap}
theorem ps_len (f : NB.F) : (psF f).length = f.np := by
  have h := chk_all f
  simp only [chkF, Bool.and_eq_true, decide_eq_true_eq] at h
  unfold psF
  rw [List.length_take, h.2.2.1]
  exact Nat.min_eq_left h.2.2.2
theorem all_ok (S : Fs ad fd psF K mg) (FF : ∀ f, Fun K (pyS f) (pyS f) (top f.at) (ad f) (fd f)) (mi : mg "int" = none) : ∀ n, Fa (NB.callF n) ad fd psF n P w K mg base
  | 0 => ⟨S, fun f => ⟨fun vs H Q E h => by rw [h.1, ps_len], fun A outer s H args us vs Q E _ _ _ _ h => by
      obtain ⟨_, _, _, _, _, _, _, _, _, _, e, _⟩ := h
      cases e⟩, callF_len 0⟩
  | n + 1 => by
    have ih := all_ok S FF mi n
    refine ⟨S, fun f => ?_, callF_len (n + 1)⟩
    have h := chk_all f
    simp only [chkF, Bool.and_eq_true, Bool.or_eq_true, decide_eq_true_eq] at h
    obtain ⟨h1, h2, h3, h4⟩ := h
    by_cases ha : f = .l_any
    · subst ha
      exact ok_any (FF .l_any) mi
    · by_cases hh : f = .heard_ends
      · subst hh
        exact fn_he (FF .heard_ends) ih
      · exact fn_ok ha (FF f) (scB_of h2) ⟨h3, h4⟩ ((h1.resolve_left ha).resolve_left hh) ih
/-! ### the law -/
abbrev sLaw : Stmt := top 74
def nLaw : List Str := NB.n_law.map Str.ofString
def cLaw : Sc := ⟨nLaw, defScope sLaw, true⟩
theorem scLaw : FnScope nLaw ["_law_script"] (defScope sLaw) := scB_of (by decide +kernel)
theorem law_rest : okB cLaw NB.b_law ((defBody sLaw).drop 1) = true := by decide +kernel
def lawRow : List NB.Sl := .no :: .va .deal :: List.replicate (NB.n_law.length - 2) .no
theorem defBody_law : ∃ st, defBody sLaw = st :: (defBody sLaw).drop 1 ∧ (match st with | .Assign [.Name y _] (.Call (.Name x _) [.Name z _, .Constant (.int 53) _ _] [] _) _ => locF cLaw 1 y && ((x == ("_law_draw" : Str) && glB cLaw.sc x) && varB cLaw 0 z) | _ => false) = true := ⟨_, rfl, by decide +kernel⟩
theorem law_read {fl fdr : Addr} {fdd : FuncData} {n : Nat} {cdv : Value} {A : Around} {outer : List Env} {s : Shared} {H : Hp} {E : XK} {a : Addr} {ns : List Int} (fa : Fa (NB.callF n) ad fd psF n P w K mg base)
    (D : FnOk P w K mg base CX0 n fdr fdd ["_law_script", "_law_salt"] (spDraw K)) (bD : Binds K fdd ["_law_script", "_law_salt"] []) (kD : PySem.W.keepIn K (.ref fdr) = true) (mD : mg "_law_draw" = some (.ref fdr))
    (hr : Room n (A.deeper (envOfC "law" (defScope sLaw) s.heap.objs.size fl cdv))) (hg : A.guards = some []) (hS : SqL K H a (ns.map V.int)) (pure : ∀ δ, ∃ δ', NB.exec (NB.callF n) NB.b_law lawRow δ = some (.rt (.bl true), δ')) :
    ∃ t, PSs (cxOf CX0 P w K mg base nLaw "law" (defScope sLaw) fl cdv A outer s H E).nox (defBody sLaw) t ∧ t { nx := fun _ H' => False, rt := fun v _ => v = .bl true } (L2.start nLaw [.ref a]) H := by
  have g : GdF (NB.callF n) ad fd psF n cLaw (cxOf CX0 P w K mg base nLaw "law" (defScope sLaw) fl cdv A outer s H E).nox :=
    { g := { fa := fa, hN := rfl, nd := scLaw.nd, hsc := rfl, calm := rfl, room := hr, gu := fun _ => hg }, fnc := fun _ _ => rfl, kd := scLaw.kind, xe := rfl }
  obtain ⟨st, e, ok⟩ := defBody_law
  rw [e]
  split at ok
  · rename_i y py x px z pz k53 p53 pc ps'
    simp only [Bool.and_eq_true, beq_iff_eq (a := x)] at ok
    obtain ⟨o1, ⟨rfl, o2⟩, o3⟩ := ok
    obtain ⟨l1, l2, l3⟩ := locF_q g 1 y o1
    obtain ⟨g1, d1, m1⟩ := gl_of g.g o2
    refine ⟨_, pss_cons (ps_set g.g.nd l1 l2 (pe_call (E := E0) D hr g1 mD kD bD .nil pass0 (pa_cons (pe_of_var g.g o3) (pa_cons pe_int pa_nil (by with_unfolding_all rfl)) (by with_unfolding_all rfl)) d1 (by with_unfolding_all rfl) (by with_unfolding_all rfl)) (by rfl) l3) ((sound_stm NB.b_law).2 cLaw _ law_rest _ g), ?_⟩
    refine ⟨.ref a, rfl, a, ns, rfl, hS, fun da db H' δ ne h1 h2 sm dl => ?_⟩
    obtain ⟨δ', ep⟩ := pure δ
    refine ⟨da, db, fun c => c = da ∨ c = db, H', lawRow, δ, _, δ', ?_, ep, fun v H'' _ _ a' => a'.bl⟩
    have no : ∀ (i : Nat) ds, lawRow[i]? ≠ some (NB.Sl.ow ds) := fun i ds e => by
      rcases i with _ | _ | i
      · cases e
      · cases e
      · have e : (List.replicate (NB.n_law.length - 2) NB.Sl.no)[i]? = some (NB.Sl.ow ds) := e
        rw [List.getElem?_replicate] at e
        split at e <;> cases e
    refine ⟨by rw [List.length_set]; rfl, dl, .inl rfl, .inr rfl, fun c m => ?_, Keep.refl _ _ _, fun c ⟨i, ds, e, _⟩ => absurd e (no i ds), fun i j d1 d2 c e => absurd e (no i d1), fun i s e n => ?_⟩
    · rcases m with m | m
      · rw [m, dl.at_]; exact fun z => nomatch z
      · rw [m, dl.cells]; exact fun z => nomatch z
    · rcases i with _ | _ | i
      · cases e; exact absurd rfl n
      · cases e; exact ⟨.ref da, rfl, at_deal (M := fun _ => False) (H := H')⟩
      · have e : (List.replicate (NB.n_law.length - 2) NB.Sl.no)[i]? = some s := e
        rw [List.getElem?_replicate] at e
        split at e <;> cases e
        exact absurd rfl n
  · cases ok
/-- the law's def called as the row calls it: what its body answers is the call's answer -/
theorem law_at {f : Addr} {g : FuncData} {k : Nat} {A : Around} {outer : List Env} {s : Shared} {H : Hp} {a : Addr} {Q : VK} (F : Fun K "law" "law" sLaw f g) (hr : Room (k + 1) A) (e0 : Env0 P w K mg base A outer s H)
    (body : ∀ (cdv : Value), Room k (A.deeper (envOfC "law" (defScope sLaw) s.heap.objs.size f cdv)) →
      ∃ t, PSs (cxOf CX0 P w K mg base nLaw "law" (defScope sLaw) f cdv A outer s H E0).nox (defBody sLaw) t ∧ t { nx := fun _ _ => False, rt := Q } (L2.start nLaw [.ref a]) H) :
    codeAny (model P w) A (.call (.ref f) ⟨[.ref a], []⟩) (CR CX0 outer P w H s Q E0) s := by
  obtain ⟨oc, od, kV, doc, pm, an, cdv, ct, osl, rfl, lk, hcd⟩ := F.ex
  have inK : K.In s.heap := e0.mod.kin.keeps fun b o z => (e0.bs b o z).1
  have one : ([Value.ref a]).length = (["_law_script"] : List Str).length := rfl
  refine codeAny_call_function hr.depth (inK _ _ lk) rfl scLaw.co scLaw.gen rfl (PySem.W.codeRec_of inK hcd) (BindsTo.of_eq (binds := (["_law_script"] : List Str).zip [Value.ref a]) rfl _ _ _ _ ?_)
  refine wpAny_newFunctionEnv_cells scLaw.kind (fun y hy => ?_) fun env he s1 x => ?_
  · rcases scLaw.par y.1 (List.of_mem_zip (b := y.2) hy).1 with z | z
    · exact .inl z
    · exact .inr ⟨z, PySem.W.cellsFrom_some _ _ _ (.inl z)⟩
  · subst he
    have lim : s.heap.NoLimit := e0.mod.nolimit.keeps fun b o z => (e0.bs b o z).1
    refine ⟨lim.keeps x.toInCall.keep, codeAny_func ?_⟩
    obtain ⟨t, ht, hq⟩ := body cdv (hr.deeper _)
    have I := inv_start (CX := CX0) (E := E0) scLaw hr.hd e0 one (Paired.cons (show RelV (.ref a) (Value.ref a) from rfl) .nil) x
    refine wpAny_mono (ht.nox.run [] s1 _ H _ I hq) (fun fl s' hs => ?_) fun e s' hs => hs
    cases fl with
    | ret u =>
      obtain ⟨v, σ', H', J, rv, q⟩ := hs
      exact ⟨v, H', J.os, J.bare, J.base, J.hok, rv, q⟩
    | next => obtain ⟨_, _, _, q⟩ := hs; exact q.elim
    | brk => obtain ⟨_, _, _, q⟩ := hs; exact q.elim
    | cont => obtain ⟨_, _, _, q⟩ := hs; exact q.elim
/-- nothing is tracked at the start but the script, and that only as it stands -/
structure Begin (K : PySem.W.Frag) (a : Addr) (ob : Obj) (vs : List V) (H : Hp) : Prop where
  only : ∀ b u, H b = some u → b = a ∧ u = .frz ob (.lst vs) ∧ K.lookup a = none
  seq : SqL K H a vs
theorem begin_of {a : Addr} {us : List Value} {ns : List Int} {h : Heap} (KX : K.In h) (ha : h.get? a = some { cls := .type "list", data := .seq us.toArray }) (hi : IntsAre us ns) (hl : ns.length ≤ sizeLine) : ∃ H, Begin K a { cls := .type "list", data := .seq us.toArray } (ns.map V.int) H ∧ HOk P w H h := by
  have rv := vals_ints hi
  cases q : K.lookup a with
  | some o =>
    have eo := KX a o q
    rw [ha] at eo
    obtain rfl := Option.some.inj eo
    exact ⟨fun _ => none, ⟨fun b u z => (nomatch (show (none : Option HO) = some u from z)), .inr ⟨_, us.toArray, _, q, rfl, rfl, rfl, by rw [List.size_toArray, hi.length]; exact hl, by simpa using rv⟩⟩, fun b u z => (nomatch (show (none : Option HO) = some u from z))⟩
  | none =>
    refine ⟨upd (fun _ => none) a (.frz { cls := .type "list", data := .seq us.toArray } (.lst (ns.map V.int))), ⟨fun b u z => ?_, .inl (.inr ⟨_, upd_same⟩)⟩, fun b u z => ?_⟩
    · by_cases e : b = a
      · subst e; rw [upd_same] at z; cases z; exact ⟨rfl, rfl, q⟩
      · rw [upd_ne e] at z; cases z
    · by_cases e : b = a
      · subst e
        rw [upd_same] at z
        cases z
        exact ⟨ha, by rw [List.length_map]; exact hl, us, _, rv, ha⟩
      · rw [upd_ne e] at z; cases z
theorem law_head {mb : Str → Option Value} {fa a : Addr} {s₁ : Shared} {us : List Value} {ns : List Int} (KX : K.In s₁.heap) (hns : s₁.heap.Ns mainGlobals mg) (hb : s₁.heap.Ns builtinsNs mb) (hbb : ∀ x : Str, x ≠ "__name__" → mb x = bootBuiltins x) (hlim : s₁.heap.NoLimit) (hg : s₁.gens = #[])
    (ha : s₁.heap.get? a = some { cls := .type "list", data := .seq us.toArray }) (hi : IntsAre us ns) (hl : ns.length ≤ sizeLine)
    (F : ∀ bs : Heap, K.In bs → bs.Ns mainGlobals mg → ∀ H, Env0 P w K mg bs callerA [] s₁ H → SqL K H a (ns.map V.int) → codeAny (model P w) callerA (.call (.ref fa) ⟨[.ref a], []⟩) (CR CX0 [] P w H s₁ (fun v _ => v = .bl true) E0) s₁) :
    codeAny (model P w) callerA (.call (.ref fa) ⟨[.ref a], []⟩) (fun r s' => r = .ok (.ret (.bool true)) ∧ OldK s₁.heap s'.heap ∧ s'.os = s₁.os ∧ AllBare s'.gens) s₁ := by
  obtain ⟨H, B, hok⟩ := begin_of (P := P) (w := w) KX ha hi hl
  have vis : ∀ {b : Addr} {o : Obj}, s₁.heap.get? b = some o → (b = a → K.lookup a ≠ none) → (hidT s₁.heap H).get? b = some o := fun {b o} e n => hidT_get e (by
    cases q : H b with
    | none => rfl
    | some u =>
      obtain ⟨e1, _, e2⟩ := B.only b u q
      exact absurd e2 (n e1))
  have dict : ∀ {b : Addr} {o : Obj} {es : Array DictEntry} {ep : Nat}, s₁.heap.get? b = some o → o.data = .dict es ep → (hidT s₁.heap H).get? b = some o := fun {b o es ep} e d => hidT_get e (by
    cases q : H b with
    | none => rfl
    | some u =>
      obtain ⟨e1, _, _⟩ := B.only b u q
      rw [e1, ha] at e
      obtain rfl := Option.some.inj e
      exact nomatch (show Data.seq us.toArray _ = Data.dict es ep from d))
  have names : ∀ {b : Addr} {m : Str → Option Value}, s₁.heap.Ns b m → (hidT s₁.heap H).Ns b m := fun {b m} ⟨o, es, ep, e, d, z⟩ => ⟨o, es, ep, dict e d, d, z⟩
  have inB : K.In (hidT s₁.heap H) := fun b o e => vis (KX b o e) fun z => by rw [← z, e]; exact fun w => nomatch w
  have md : Mod K mg (hidT s₁.heap H) := ⟨inB, names hns, ⟨mb, names hb, hbb⟩, let ⟨mc, z1, z2⟩ := hlim; ⟨mc, names z1, z2⟩⟩
  have e0 : Env0 P w K mg (hidT s₁.heap H) callerA [] s₁ H := ⟨rfl, md, fun b o e => of_hidT e, Nat.le_of_eq (hidT_size _ _), trivial, fun b hb => absurd (show b ∈ ([] : List Addr) from hb) (by simp), hok, .of_eq hg⟩
  refine codeAny_mono (F _ inB (names hns) H e0 B.seq) fun r s' h => ?_
  cases r with
  | error e => exact False.elim h
  | ok fl =>
    cases fl with
    | next => exact False.elim h
    | brk => exact False.elim h
    | cont => exact False.elim h
    | ret u =>
      obtain ⟨v, H', os, bare, un, hok', rel, q⟩ := h
      obtain rfl : v = .bl true := q
      obtain rfl : u = Value.bool true := rel
      refine ⟨rfl, OldK.of_keep fun b o e => ?_, os, bare⟩
      cases q : H b with
      | none => exact un.keep b o e q (by intro z; exact absurd (show b ∈ ([] : List Addr) from z) (by simp)) (by simp)
      | some u =>
        obtain ⟨_, rfl, _⟩ := B.only b u q
        have e1 := (hok b _ q).1
        have e2 := (hok' b _ (un.frzs b _ _ q)).1
        rw [e] at e1
        rw [e2, ← e1]
/-- everything that the law's call needs, from the facts of the text -/
theorem law_true_call {fl fdr a : Addr} {g fdd : FuncData} {mb : Str → Option Value} {s₁ : Shared} {us : List Value} {ns : List Int} (S : Fs ad fd psF K mg) (FF : ∀ f, Fun K (pyS f) (pyS f) (top f.at) (ad f) (fd f)) (FL : Fun K "law" "law" sLaw fl g) (FD : Fun K "_law_draw" "_law_draw" sDraw fdr fdd)
    (bD : Binds K fdd ["_law_script", "_law_salt"] []) (mD : mg "_law_draw" = some (.ref fdr)) (mi : mg "int" = none) (ma : mg "abs" = none) (hr : Room 41 callerA)
    (KX : K.In s₁.heap) (hns : s₁.heap.Ns mainGlobals mg) (hb : s₁.heap.Ns builtinsNs mb) (hbb : ∀ x : Str, x ≠ "__name__" → mb x = bootBuiltins x) (hlim : s₁.heap.NoLimit) (hg : s₁.gens = #[])
    (ha : s₁.heap.get? a = some { cls := .type "list", data := .seq us.toArray }) (hi : IntsAre us ns) (hl : ns.length ≤ sizeLine) (pure : ∀ δ, ∃ δ', NB.exec (NB.callF 40) NB.b_law lawRow δ = some (.rt (.bl true), δ')) :
    codeAny (model P w) callerA (.call (.ref fl) ⟨[.ref a], []⟩) (fun r s' => r = .ok (.ret (.bool true)) ∧ OldK s₁.heap s'.heap ∧ s'.os = s₁.os ∧ AllBare s'.gens) s₁ :=
  law_head KX hns hb hbb hlim hg ha hi hl fun bs inB nsB H e0 hS => law_at FL hr e0 fun cdv hr' =>
    law_read (all_ok S FF mi 40) (ok_draw FD mi ma) bD FD.kp mD hr' rfl hS pure
end
end NS

set_option Elab.async false
set_option linter.all false
set_option maxRecDepth 100000
set_option maxHeartbeats 4000000
/-! The row's head: what the facts of the text must be. -/
namespace NS
open PySem PySem.Spec PyProof.Rows L2 NR
def DefAt (K : PySem.W.Frag) (x : Str) (st : Stmt) : Prop := ∃ (f : Addr) (od an : Option Addr) (sl : Array (Option Value)) (oc kV dc pm cd ct : Value),
  PySem.W.nsIn K mainGlobals x = some (some (.ref f)) ∧ K.lookup f = some ⟨oc, od, .func (PySem.W.fnOf x x (defArgs st) (defBody st) (defScope st) .none kV dc pm an cd ct), sl⟩ ∧ PySem.W.codeIn K cd x = true ∧ PySem.W.keepIn K (.ref f) = true
theorem defAt_mk {K : PySem.W.Frag} {x : Str} {st : Stmt} {f : Addr} {od an : Option Addr} {sl : Array (Option Value)} {oc kV dc pm cd ct : Value}
  (a : PySem.W.nsIn K mainGlobals x = some (some (.ref f))) (l : K.lookup f = some ⟨oc, od, .func (PySem.W.fnOf x x (defArgs st) (defBody st) (defScope st) .none kV dc pm an cd ct), sl⟩) (c : PySem.W.codeIn K cd x = true) (k : PySem.W.keepIn K (.ref f) = true) : DefAt K x st :=
  ⟨f, od, an, sl, oc, kV, dc, pm, cd, ct, a, l, c, k⟩
structure Txt (K : PySem.W.Frag) : Prop where
  fs : ∀ f : NB.F, DefAt K (pyS f) (top f.at)
  law : DefAt K "law" sLaw
  draw : DefAt K "_law_draw" sDraw
  bl : ∀ b : NB.B, PySem.W.nsIn K mainGlobals (Str.ofString (pyB b)) = some none
  ty : ∀ T : NB.Ty, PySem.W.nsIn K mainGlobals (Str.ofString (pyT T)) = some none
  isi : PySem.W.nsIn K mainGlobals "isinstance" = some none
  rng : PySem.W.nsIn K mainGlobals "range" = some none
  zip : PySem.W.nsIn K mainGlobals "zip" = some none
  enu : PySem.W.nsIn K mainGlobals "enumerate" = some none
  int : PySem.W.nsIn K mainGlobals "int" = some none
  abs : PySem.W.nsIn K mainGlobals "abs" = some none
  most : ∃ u, PySem.W.nsIn K mainGlobals "MOST" = some (some u) ∧ RelV (.int 1001) u
  mrow : ∃ u, PySem.W.nsIn K mainGlobals "MOST_ROW" = some (some u) ∧ RelV (.int 64) u
  noh : ∃ u, PySem.W.nsIn K mainGlobals "NO_HOUSE" = some (some u) ∧ RelV (.int 20) u
theorem glob_mk {K : PySem.W.Frag} {x : Str} {c : Int} {v : Value} (h : PySem.W.nsIn K mainGlobals x = some (some v)) (r : RelV (.int c) v) : ∃ u, PySem.W.nsIn K mainGlobals x = some (some u) ∧ RelV (.int c) u := ⟨v, h, r⟩
theorem room41 : Room 41 callerA := ⟨rfl, by decide, by decide⟩
section
variable {K : PySem.W.Frag}
theorem binds_all (f : NB.F) {a : Addr} {fd : FuncData} (F : Fun K (pyS f) (pyS f) (top f.at) a fd) : L2.Binds K fd (psF f) [] := by
  cases f <;> exact F.binds fun _ _ _ _ _ _ us hl => by
    rw [ps_len] at hl
    rcases us with _ | ⟨a, _ | ⟨b, _ | ⟨c, _ | ⟨d, _ | ⟨e, _ | ⟨_, _⟩⟩⟩⟩⟩⟩ <;> first | (exfalso; simp only [List.length_cons, List.length_nil, NB.F.np] at hl; omega) | rfl
theorem vals_rev : ∀ {xs : List V} {us : List Value}, Vals xs us → Vals xs.reverse us.reverse
  | _, _, .nil => .nil
  | _, _, .cons r t => by
    rw [List.reverse_cons, List.reverse_cons]
    exact (vals_rev t).append (.cons r .nil)
theorem kbn_all (f : NB.F) (hk : kwN f = true) {a : Addr} {fd : FuncData} (F : Fun K (pyS f) (pyS f) (top f.at) a fd) : KBn K fd (psF f) 0 (((f.names.take f.np).map Str.ofString).reverse) (fun _ ws => ws.reverse) (fun _ zs => zs.reverse) := by
  obtain ⟨oc, od, kV, doc, pm, an, cdv, ct, osl, rfl, lk, hcd⟩ := F.ex
  refine ⟨fun s us ws _ h1 h2 => .of_eq ?_, fun _ r => vals_rev r⟩
  obtain rfl := List.length_eq_zero_iff.mp h1
  cases f <;> first | (exact nomatch (show false = true from hk)) | skip
  · rcases ws with _ | ⟨a, _ | ⟨b, _ | ⟨c, _ | ⟨d, _ | ⟨_, _⟩⟩⟩⟩⟩ <;> first | rfl | exact absurd h2 (by simp [NB.F.names, NB.F.np, NB.n_plain_run])
  · rcases ws with _ | ⟨a, _ | ⟨b, _ | ⟨c, _ | ⟨d, _ | ⟨_, _⟩⟩⟩⟩⟩ <;> first | rfl | exact absurd h2 (by simp [NB.F.names, NB.F.np, NB.n_settled_with])
end
/-- the row, once the text's facts stand -/
theorem row_walk {l : PySem.W.OpenLaw} {q : Program} {loose : List Str} {XP : (Str → Option Value) → Heap → Prop} {YP : World → Heap → Prop} {d : DefRec} {K : Params → PySem.W.Frag} {m : Nat} (hn : l.most = some m) (hm : m ≤ sizeLine) (hdf : d.params.defaults = []) (hdn : d.name = "law")
    (hY : ∀ (w : World) (h : Heap), YP w h → (K w.params).In h) (T : ∀ w : World, Txt (K w.params)) (pure : ∀ δ, ∃ δ', NB.exec (NB.callF 40) NB.b_law lawRow δ = some (.rt (.bl true), δ')) :
    PySem.W.WalkO q loose XP YP l.row.toRowW d [] (fun f vs => PySem.call f vs) := by
  refine Att.attach_call hn hdf fun w s₀ s₁ mg mb fa o pm cd doc a vs ns G Y ho hd hcd hmg hobj hints hlen hg => ?_
  have KX := hY w _ Y
  have T := T w
  rw [hdn] at hmg
  have D : ∀ {x : Str} {st : Stmt}, DefAt (K w.params) x st → ∃ p : Addr × FuncData, mg x = some (.ref p.1) ∧ Fun (K w.params) x x st p.1 p.2 := fun {x st} ⟨f, od, an, sl, oc, kV, dc, pm, cd, ct, a, l, c, k⟩ => ⟨(f, _), PySem.W.mg_of KX G.T.g a, fun_mk (st := st) l c k⟩
  obtain ⟨⟨fl, g⟩, ml, FL⟩ := D T.law
  obtain ⟨⟨fdr, fdd⟩, md, FD⟩ := D T.draw
  rw [hmg] at ml
  obtain rfl : fa = fl := by injection ml with z; injection z
  have no : ∀ {x : Str}, PySem.W.nsIn (K w.params) mainGlobals x = some none → mg x = none := fun z => PySem.W.mg_none_of KX G.T.g z
  have S : Fs (fun f => (D (T.fs f)).choose.1) (fun f => (D (T.fs f)).choose.2) psF (K w.params) mg := {
    mgf := fun f => (D (T.fs f)).choose_spec.1
    kp := fun f => (D (T.fs f)).choose_spec.2.kp
    bi := fun f => binds_all f (D (T.fs f)).choose_spec.2
    kb := fun f hk => kbn_all f hk (D (T.fs f)).choose_spec.2
    bl := fun b => no (T.bl b)
    ty := fun b => no (T.ty b)
    isi := no T.isi
    rng := no T.rng
    zip := no T.zip
    enu := no T.enu
    gl := fun x c h => by
      simp only [globC, Bool.or_eq_true, Bool.and_eq_true, beq_iff_eq, decide_eq_true_eq] at h
      rcases h with ⟨rfl, rfl⟩ | ⟨rfl, rfl⟩ | ⟨rfl, rfl⟩
      · obtain ⟨u, e, r⟩ := T.most; exact ⟨_, PySem.W.mg_of KX G.T.g e, r⟩
      · obtain ⟨u, e, r⟩ := T.mrow; exact ⟨_, PySem.W.mg_of KX G.T.g e, r⟩
      · obtain ⟨u, e, r⟩ := T.noh; exact ⟨_, PySem.W.mg_of KX G.T.g e, r⟩ }
  exact law_true_call S (fun f => (D (T.fs f)).choose_spec.2) FL FD (FD.binds fun _ _ _ _ _ _ us hl => match us, hl with | [_, _], _ => rfl) md (no T.int) (no T.abs) room41 KX G.T.g G.T.b G.T.builtins G.T.nolimit hg hobj hints (Nat.le_trans hlen hm) pure
end NS

set_option Elab.async false
set_option linter.all false
set_option maxRecDepth 100000
set_option maxHeartbeats 2000000
/-! The evaluator at the program's defs. -/
namespace NB
theorem call_rt {n : Nat} {f : F} (hf : f ≠ .l_any) {args : List D} {δ δ' : Dl} {d : D} (hl : args.length = f.np) (h : exec (callF n) f.body (args.map .va ++ List.replicate (f.ns - f.np) .no) δ = some (.rt d, δ')) : callF (n + 1) f args δ = some (d, δ') := by
  have e : callF (n + 1) f args δ = (if args.length = f.np then
        match exec (callF n) f.body (args.map .va ++ List.replicate (f.ns - f.np) .no) δ with
        | some (.rt d, δ) => some (d, δ)
        | some (.nx _, δ) => some (.non, δ)
        | none => none
      else none) := by
    cases f <;> first | rfl | exact absurd rfl hf
  rw [e, if_pos hl, h]
@[simp] theorem bd {α β : Type} (a : α) (f : α → Option β) : (some a >>= f) = f a := rfl
@[simp] theorem bdn {α β : Type} (f : α → Option β) : ((none : Option α) >>= f) = none := rfl
theorem is_integer_int (n : Nat) (i : Int) (δ : Dl) : callF (n + 1) .is_integer [.int i] δ = some (.bl true, δ) := by
  apply call_rt (by decide) rfl
  simp [F.body, b_is_integer, exec, evE, evL, evO, evT, evI, evM, evPar, view, Sl.full, Sl.hide, evIsi, blOf, intOf, wdOf, seqOf, intsOf, blsOf, wdsOf, evBin, ii, evEq, evAdd, evMul, evFdiv, evIs, evIn, evIx, evSl, evB, seq1, lst1, int2, evMM, evSort, fitN, eqD, eqDs, isFresh, flat, flats, setAll, asgS, asg, F.ns, F.np, List.replicate_succ, List.replicate_zero, List.map_cons, List.map_nil]
theorem is_number_int (n : Nat) (i : Int) (δ : Dl) : callF (n + 2) .is_number [.int i] δ = some (.bl (decide (0 ≤ i)), δ) := by
  apply call_rt (by decide) rfl
  simp [F.body, b_is_number, is_integer_int, exec, evE, evL, evO, evT, evI, evM, evPar, view, Sl.full, Sl.hide, evIsi, blOf, intOf, wdOf, seqOf, intsOf, blsOf, wdsOf, evBin, ii, evEq, evAdd, evMul, evFdiv, evIs, evIn, evIx, evSl, evB, seq1, lst1, int2, evMM, evSort, fitN, eqD, eqDs, isFresh, flat, flats, setAll, asgS, asg, F.ns, F.np, List.replicate_succ, List.replicate_zero, List.map_cons, List.map_nil]
theorem is_index_int (n : Nat) (i m : Int) (δ : Dl) : callF (n + 3) .is_index [.int i, .int m] δ = some (.bl (decide (0 ≤ i) && decide (i < m)), δ) := by
  apply call_rt (by decide) rfl
  by_cases h : 0 ≤ i <;> simp [F.body, b_is_index, is_number_int, h, exec, evE, evL, evO, evT, evI, evM, evPar, view, Sl.full, Sl.hide, evIsi, blOf, intOf, wdOf, seqOf, intsOf, blsOf, wdsOf, evBin, ii, evEq, evAdd, evMul, evFdiv, evIs, evIn, evIx, evSl, evB, seq1, lst1, int2, evMM, evSort, fitN, eqD, eqDs, isFresh, flat, flats, setAll, asgS, asg, F.ns, F.np, List.replicate_succ, List.replicate_zero, List.map_cons, List.map_nil]
theorem is_worth_int (n : Nat) (i : Int) (δ : Dl) : callF (n + 4) .is_worth [.int i] δ = some (.bl (decide (0 ≤ i) && decide (i < 1001)), δ) := by
  apply call_rt (by decide) rfl
  simp [F.body, b_is_worth, is_index_int, exec, evE, evL, evO, evT, evI, evM, evPar, view, Sl.full, Sl.hide, evIsi, blOf, intOf, wdOf, seqOf, intsOf, blsOf, wdsOf, evBin, ii, evEq, evAdd, evMul, evFdiv, evIs, evIn, evIx, evSl, evB, seq1, lst1, int2, evMM, evSort, fitN, eqD, eqDs, isFresh, flat, flats, setAll, asgS, asg, F.ns, F.np, List.replicate_succ, List.replicate_zero, List.map_cons, List.map_nil]
/-! ### rules -/
inductive G | least | most | add
  deriving DecidableEq
def G.w : G → Wd
  | .least => .w_least | .most => .w_most | .add => .w_add
inductive R
  | is (c : Int) | hear (h : Nat)
  | agg1 (g : G) (r : R) | agg2 (g : G) (r s : R) | mid (r s t : R)
  | times (k : Int) (r : R) | part (k : Int) (r : R) | clip (lo hi : Int) (r : R) | frm (c : Int) (r : R) | bar (t lo hi : Int) (r : R) | row (ws : List Int) (r : R)
def toD : R → D
  | .is c => .tup [.str .w_is, .int c]
  | .hear h => .tup [.str .w_hear, .int h]
  | .agg1 g r => .tup [.str g.w, .tup [toD r]]
  | .agg2 g r s => .tup [.str g.w, .tup [toD r, toD s]]
  | .mid r s t => .tup [.str .w_middle, toD r, toD s, toD t]
  | .times k r => .tup [.str .w_times, .int k, toD r]
  | .part k r => .tup [.str .w_part, .int k, toD r]
  | .clip lo hi r => .tup [.str .w_clip, .int lo, .int hi, toD r]
  | .frm c r => .tup [.str .w_from, .int c, toD r]
  | .bar t lo hi r => .tup [.str .w_bar, .int t, .int lo, .int hi, toD r]
  | .row ws r => .tup [.str .w_row, .tup (ws.map .int), toD r]
def ht : R → Nat
  | .is _ => 0 | .hear _ => 0
  | .agg1 _ r => ht r + 1 | .agg2 _ r s => max (ht r) (ht s) + 1 | .mid r s t => max (ht r) (max (ht s) (ht t)) + 1
  | .times _ r => ht r + 1 | .part _ r => ht r + 1 | .clip _ _ r => ht r + 1 | .frm _ r => ht r + 1 | .bar _ _ _ r => ht r + 1 | .row _ r => ht r + 1
/-- the numbers of a rule are small -/
def sm (i : Int) : Prop := 0 ≤ i ∧ i < 1001
/-- a rule as the law draws them, over n houses -/
def ok (n : Nat) : R → Prop
  | .is c => sm c
  | .hear h => h < n ∧ h < 1001
  | .agg1 _ r => ok n r | .agg2 _ r s => ok n r ∧ ok n s | .mid r s t => ok n r ∧ ok n s ∧ ok n t
  | .times k r => sm k ∧ ok n r | .part k r => sm k ∧ 0 < k ∧ ok n r | .clip lo hi r => sm lo ∧ sm hi ∧ lo ≤ hi ∧ ok n r | .frm c r => sm c ∧ ok n r
  | .bar t lo hi r => sm t ∧ sm lo ∧ sm hi ∧ ok n r
  | .row ws r => (∀ w ∈ ws, sm w) ∧ ws.Pairwise (· ≤ ·) ∧ 0 < ws.length ∧ ws.length ≤ 64 ∧ ok n r
def kids : R → List R
  | .is _ => [] | .hear _ => []
  | .agg1 _ r => [r] | .agg2 _ r s => [r, s] | .mid r s t => [r, s, t]
  | .times _ r => [r] | .part _ r => [r] | .clip _ _ r => [r] | .frm _ r => [r] | .bar _ _ _ r => [r] | .row _ r => [r]
theorem compGo_map {tst : Env → Dl → Option (Bool × Dl)} {elt : Env → Dl → Option (D × Dl)} {tg : Tg} {ρ : Env} {g : D → D} : ∀ {xs : List D} {δ : Dl}, (∀ x ∈ xs, ∃ ρ1, asg tg ρ x = some ρ1 ∧ tst ρ1 δ = some (true, δ) ∧ elt ρ1 δ = some (g x, δ)) → compGo tst elt tg ρ xs δ = some (xs.map g, δ)
  | [], δ, _ => rfl
  | x :: xs, δ, h => by
    obtain ⟨ρ1, h1, h2, h3⟩ := h x List.mem_cons_self
    rw [compGo, h1]
    simp only [bd, h2, h3, compGo_map (xs := xs) (fun y hy => h y (List.mem_cons_of_mem _ hy)), List.map_cons, if_true]
theorem blsOf_map {α : Type} (f : α → Bool) : ∀ l : List α, blsOf (l.map fun x => .bl (f x)) = some (l.map f)
  | [] => rfl
  | x :: l => by simp [blsOf, blOf, blsOf_map f l]
theorem intsOf_map : ∀ l : List Int, intsOf (l.map .int) = some l
  | [] => rfl
  | x :: l => by simp [intsOf, intOf, intsOf_map l]
theorem is_head_ok (n : Nat) (δ : Dl) {N : Nat} {r : R} (h : ok N r) (hr : (match r with | .is _ => false | .hear _ => false | .agg1 .. => false | .agg2 .. => false | .mid .. => false | _ => true) = true) : callF (n + 5) .is_head [toD r] δ = some (.bl true, δ) := by
  apply call_rt (by decide) rfl
  cases r <;> first | (cases hr; done) | skip
  case times k r => simp [F.body, b_is_head, toD, is_worth_int, atD, h.1.1, h.1.2, exec, evE, evL, evO, evT, evI, evM, evPar, view, Sl.full, Sl.hide, evIsi, blOf, intOf, wdOf, seqOf, intsOf, blsOf, wdsOf, evBin, ii, evEq, evAdd, evMul, evFdiv, evIs, evIn, evIx, evSl, evB, seq1, lst1, int2, evMM, evSort, fitN, eqD, eqDs, isFresh, flat, flats, setAll, asgS, asg, F.ns, F.np, List.replicate_succ, List.replicate_zero, List.map_cons, List.map_nil]
  case part k r => simp [F.body, b_is_head, toD, is_worth_int, atD, h.1.1, h.1.2, h.2.1, exec, evE, evL, evO, evT, evI, evM, evPar, view, Sl.full, Sl.hide, evIsi, blOf, intOf, wdOf, seqOf, intsOf, blsOf, wdsOf, evBin, ii, evEq, evAdd, evMul, evFdiv, evIs, evIn, evIx, evSl, evB, seq1, lst1, int2, evMM, evSort, fitN, eqD, eqDs, isFresh, flat, flats, setAll, asgS, asg, F.ns, F.np, List.replicate_succ, List.replicate_zero, List.map_cons, List.map_nil]
  case clip lo hi r => simp [F.body, b_is_head, toD, is_worth_int, atD, h.1.1, h.1.2, h.2.1.1, h.2.1.2, h.2.2.1, exec, evE, evL, evO, evT, evI, evM, evPar, view, Sl.full, Sl.hide, evIsi, blOf, intOf, wdOf, seqOf, intsOf, blsOf, wdsOf, evBin, ii, evEq, evAdd, evMul, evFdiv, evIs, evIn, evIx, evSl, evB, seq1, lst1, int2, evMM, evSort, fitN, eqD, eqDs, isFresh, flat, flats, setAll, asgS, asg, F.ns, F.np, List.replicate_succ, List.replicate_zero, List.map_cons, List.map_nil]
  case frm c r => simp [F.body, b_is_head, toD, is_worth_int, atD, h.1.1, h.1.2, exec, evE, evL, evO, evT, evI, evM, evPar, view, Sl.full, Sl.hide, evIsi, blOf, intOf, wdOf, seqOf, intsOf, blsOf, wdsOf, evBin, ii, evEq, evAdd, evMul, evFdiv, evIs, evIn, evIx, evSl, evB, seq1, lst1, int2, evMM, evSort, fitN, eqD, eqDs, isFresh, flat, flats, setAll, asgS, asg, F.ns, F.np, List.replicate_succ, List.replicate_zero, List.map_cons, List.map_nil]
  case bar t lo hi r => simp [F.body, b_is_head, toD, is_worth_int, atD, h.1.1, h.1.2, h.2.1.1, h.2.1.2, h.2.2.1.1, h.2.2.1.2, exec, evE, evL, evO, evT, evI, evM, evPar, view, Sl.full, Sl.hide, evIsi, blOf, intOf, wdOf, seqOf, intsOf, blsOf, wdsOf, evBin, ii, evEq, evAdd, evMul, evFdiv, evIs, evIn, evIx, evSl, evB, seq1, lst1, int2, evMM, evSort, fitN, eqD, eqDs, isFresh, flat, flats, setAll, asgS, asg, F.ns, F.np, List.replicate_succ, List.replicate_zero, List.map_cons, List.map_nil]
  case row ws r =>
    have hl1 : (1 : Int) ≤ (ws.length : Int) := by have := h.2.2.1; omega
    have hl2 : (ws.length : Int) ≤ 64 := by have := h.2.2.2.1; omega
    have hl3 : ws.length ≤ 100000 := by have := h.2.2.2.1; omega
    have hc : compGo (fun r δ => evT (callF (n + 4)) .nop r δ) (fun r δ => evE (callF (n + 4)) (.call .is_worth (.cons (.var 1) .nil)) r δ) (.one 1) (wipeE [some (toD (.row ws r)), none] [1]) (ws.map .int) δ = some ((ws.map D.int).map fun _ => .bl true, δ) := by
      refine compGo_map fun x hx => ?_
      obtain ⟨w, hw, rfl⟩ := List.mem_map.mp hx
      have hs := h.1 w hw
      refine ⟨_, rfl, rfl, ?_⟩
      simp [wipeE, evE, evL, is_worth_int, hs.1, hs.2]
    have hb := blsOf_map (fun _ => true) (ws.map D.int)
    simp [F.body, b_is_head, toD, atD, hl1, hl2, hl3, wipeE, exec, evE, evL, evO, evT, evI, evM, evPar, view, Sl.full, Sl.hide, evIsi, blOf, intOf, wdOf, seqOf, intsOf, blsOf, wdsOf, evBin, ii, evEq, evAdd, evMul, evFdiv, evIs, evIn, evIx, evSl, evB, seq1, lst1, int2, evMM, evSort, fitN, eqD, eqDs, isFresh, flat, flats, setAll, asgS, asg, F.ns, F.np, List.replicate_succ, List.replicate_zero, List.map_cons, List.map_nil] at hc hb ⊢
    simp [hc, hb, hl3]
end NB

set_option Elab.async false
set_option linter.all false
set_option maxRecDepth 100000
set_option maxHeartbeats 2000000
/-! Rules: parts, branches, what they say. -/
namespace NB
theorem parts_of_ok (n : Nat) (δ : Dl) {N : Nat} {r : R} (h : ok N r) : callF (n + 6) .parts_of [toD r] δ = some (.tup ((kids r).map toD), δ) := by
  apply call_rt (by decide) rfl
  cases r
  case is c => simp [F.body, b_parts_of, toD, kids, is_worth_int, atD, h.1, h.2, exec, evE, evL, evO, evT, evI, evM, evPar, view, Sl.full, Sl.hide, evIsi, blOf, intOf, wdOf, seqOf, intsOf, blsOf, wdsOf, evBin, ii, evEq, evAdd, evMul, evFdiv, evIs, evIn, evIx, evSl, evB, seq1, lst1, int2, evMM, evSort, fitN, eqD, eqDs, isFresh, flat, flats, setAll, asgS, asg, F.ns, F.np, List.replicate_succ, List.replicate_zero, List.map_cons, List.map_nil]
  case hear c =>
    have h1 : ((c : Nat) : Int) < 1001 := by have := h.2; omega
    simp [F.body, b_parts_of, toD, kids, is_worth_int, atD, h1, exec, evE, evL, evO, evT, evI, evM, evPar, view, Sl.full, Sl.hide, evIsi, blOf, intOf, wdOf, seqOf, intsOf, blsOf, wdsOf, evBin, ii, evEq, evAdd, evMul, evFdiv, evIs, evIn, evIx, evSl, evB, seq1, lst1, int2, evMM, evSort, fitN, eqD, eqDs, isFresh, flat, flats, setAll, asgS, asg, F.ns, F.np, List.replicate_succ, List.replicate_zero, List.map_cons, List.map_nil]
  case agg1 g r => cases g <;> simp [F.body, b_parts_of, toD, kids, atD, G.w, exec, evE, evL, evO, evT, evI, evM, evPar, view, Sl.full, Sl.hide, evIsi, blOf, intOf, wdOf, seqOf, intsOf, blsOf, wdsOf, evBin, ii, evEq, evAdd, evMul, evFdiv, evIs, evIn, evIx, evSl, evB, seq1, lst1, int2, evMM, evSort, fitN, eqD, eqDs, isFresh, flat, flats, setAll, asgS, asg, F.ns, F.np, List.replicate_succ, List.replicate_zero, List.map_cons, List.map_nil]
  case agg2 g r s => cases g <;> simp [F.body, b_parts_of, toD, kids, atD, G.w, exec, evE, evL, evO, evT, evI, evM, evPar, view, Sl.full, Sl.hide, evIsi, blOf, intOf, wdOf, seqOf, intsOf, blsOf, wdsOf, evBin, ii, evEq, evAdd, evMul, evFdiv, evIs, evIn, evIx, evSl, evB, seq1, lst1, int2, evMM, evSort, fitN, eqD, eqDs, isFresh, flat, flats, setAll, asgS, asg, F.ns, F.np, List.replicate_succ, List.replicate_zero, List.map_cons, List.map_nil]
  case mid r s t => simp [F.body, b_parts_of, toD, kids, atD, cutD, cutAt, exec, evE, evL, evO, evT, evI, evM, evPar, view, Sl.full, Sl.hide, evIsi, blOf, intOf, wdOf, seqOf, intsOf, blsOf, wdsOf, evBin, ii, evEq, evAdd, evMul, evFdiv, evIs, evIn, evIx, evSl, evB, seq1, lst1, int2, evMM, evSort, fitN, eqD, eqDs, isFresh, flat, flats, setAll, asgS, asg, F.ns, F.np, List.replicate_succ, List.replicate_zero, List.map_cons, List.map_nil]
  case times k r =>
    have q := is_head_ok n δ h rfl
    simp only [toD] at q
    simp [F.body, b_parts_of, toD, kids, atD, cutD, cutAt, q, exec, evE, evL, evO, evT, evI, evM, evPar, view, Sl.full, Sl.hide, evIsi, blOf, intOf, wdOf, seqOf, intsOf, blsOf, wdsOf, evBin, ii, evEq, evAdd, evMul, evFdiv, evIs, evIn, evIx, evSl, evB, seq1, lst1, int2, evMM, evSort, fitN, eqD, eqDs, isFresh, flat, flats, setAll, asgS, asg, F.ns, F.np, List.replicate_succ, List.replicate_zero, List.map_cons, List.map_nil]
  case part k r =>
    have q := is_head_ok n δ h rfl
    simp only [toD] at q
    simp [F.body, b_parts_of, toD, kids, atD, cutD, cutAt, q, exec, evE, evL, evO, evT, evI, evM, evPar, view, Sl.full, Sl.hide, evIsi, blOf, intOf, wdOf, seqOf, intsOf, blsOf, wdsOf, evBin, ii, evEq, evAdd, evMul, evFdiv, evIs, evIn, evIx, evSl, evB, seq1, lst1, int2, evMM, evSort, fitN, eqD, eqDs, isFresh, flat, flats, setAll, asgS, asg, F.ns, F.np, List.replicate_succ, List.replicate_zero, List.map_cons, List.map_nil]
  case clip lo hi r =>
    have q := is_head_ok n δ h rfl
    simp only [toD] at q
    simp [F.body, b_parts_of, toD, kids, atD, cutD, cutAt, q, exec, evE, evL, evO, evT, evI, evM, evPar, view, Sl.full, Sl.hide, evIsi, blOf, intOf, wdOf, seqOf, intsOf, blsOf, wdsOf, evBin, ii, evEq, evAdd, evMul, evFdiv, evIs, evIn, evIx, evSl, evB, seq1, lst1, int2, evMM, evSort, fitN, eqD, eqDs, isFresh, flat, flats, setAll, asgS, asg, F.ns, F.np, List.replicate_succ, List.replicate_zero, List.map_cons, List.map_nil]
  case frm c r =>
    have q := is_head_ok n δ h rfl
    simp only [toD] at q
    simp [F.body, b_parts_of, toD, kids, atD, cutD, cutAt, q, exec, evE, evL, evO, evT, evI, evM, evPar, view, Sl.full, Sl.hide, evIsi, blOf, intOf, wdOf, seqOf, intsOf, blsOf, wdsOf, evBin, ii, evEq, evAdd, evMul, evFdiv, evIs, evIn, evIx, evSl, evB, seq1, lst1, int2, evMM, evSort, fitN, eqD, eqDs, isFresh, flat, flats, setAll, asgS, asg, F.ns, F.np, List.replicate_succ, List.replicate_zero, List.map_cons, List.map_nil]
  case bar t lo hi r =>
    have q := is_head_ok n δ h rfl
    simp only [toD] at q
    simp [F.body, b_parts_of, toD, kids, atD, cutD, cutAt, q, exec, evE, evL, evO, evT, evI, evM, evPar, view, Sl.full, Sl.hide, evIsi, blOf, intOf, wdOf, seqOf, intsOf, blsOf, wdsOf, evBin, ii, evEq, evAdd, evMul, evFdiv, evIs, evIn, evIx, evSl, evB, seq1, lst1, int2, evMM, evSort, fitN, eqD, eqDs, isFresh, flat, flats, setAll, asgS, asg, F.ns, F.np, List.replicate_succ, List.replicate_zero, List.map_cons, List.map_nil]
  case row ws r =>
    have q := is_head_ok n δ h rfl
    simp only [toD] at q
    simp [F.body, b_parts_of, toD, kids, atD, cutD, cutAt, q, exec, evE, evL, evO, evT, evI, evM, evPar, view, Sl.full, Sl.hide, evIsi, blOf, intOf, wdOf, seqOf, intsOf, blsOf, wdsOf, evBin, ii, evEq, evAdd, evMul, evFdiv, evIs, evIn, evIx, evSl, evB, seq1, lst1, int2, evMM, evSort, fitN, eqD, eqDs, isFresh, flat, flats, setAll, asgS, asg, F.ns, F.np, List.replicate_succ, List.replicate_zero, List.map_cons, List.map_nil]
def br : R → List Nat
  | .is _ => [] | .hear h => [h]
  | .agg1 _ r => br r | .agg2 _ r s => br r ++ br s | .mid r s t => br r ++ (br s ++ br t)
  | .times _ r => br r | .part _ r => br r | .clip _ _ r => br r | .frm _ r => br r | .bar _ _ _ r => br r | .row _ r => br r
def brD (r : R) : List D := (br r).map fun h => .int (h : Nat)
theorem brD_len (r : R) : (brD r).length = (br r).length := by simp [brD]
/-- one turn of a rule's own loop over its parts -/
theorem branches_step {n : Nat} {δ : Dl} {r : R} (hh : (match r with | .hear _ => false | _ => true) = true) (hp : callF n .parts_of [toD r] δ = some (.tup ((kids r).map toD), δ)) (hk : ∀ k ∈ kids r, callF n .branches [toD k] δ = some (.tup (brD k), δ)) (hl : (br r).length ≤ 100000) :
    callF (n + 1) .branches [toD r] δ = some (.tup (brD r), δ) := by
  apply call_rt (by decide) rfl
  cases r <;> first | (cases hh; done) | skip
  case is c =>
    simp only [toD, kids, List.map_nil] at hp
    simp [F.body, b_branches, toD, atD, hp, forGo, brD, br, exec, evE, evL, evO, evT, evI, evM, evPar, view, Sl.full, Sl.hide, evIsi, blOf, intOf, wdOf, seqOf, intsOf, blsOf, wdsOf, evBin, ii, evEq, evAdd, evMul, evFdiv, evIs, evIn, evIx, evSl, evB, seq1, lst1, int2, evMM, evSort, fitN, eqD, eqDs, isFresh, flat, flats, setAll, asgS, asg, F.ns, F.np, List.replicate_succ, List.replicate_zero, List.map_cons, List.map_nil]
  case agg1 g r =>
    simp only [toD, kids, List.map_cons, List.map_nil] at hp
    have h1 := hk r (by simp [kids])
    have l1 := hl
    simp only [br] at l1
    rw [← brD_len] at l1
    have e : brD (.agg1 g r) = brD r := rfl
    cases g <;> simp [F.body, b_branches, toD, atD, hp, h1, forGo, e, l1, G.w, exec, evE, evL, evO, evT, evI, evM, evPar, view, Sl.full, Sl.hide, evIsi, blOf, intOf, wdOf, seqOf, intsOf, blsOf, wdsOf, evBin, ii, evEq, evAdd, evMul, evFdiv, evIs, evIn, evIx, evSl, evB, seq1, lst1, int2, evMM, evSort, fitN, eqD, eqDs, isFresh, flat, flats, setAll, asgS, asg, F.ns, F.np, List.replicate_succ, List.replicate_zero, List.map_cons, List.map_nil] <;> simp [G.w] at hp <;> simp [hp, h1, forGo, l1, exec, evE, evL, evO, evT, evI, evM, evPar, view, Sl.full, Sl.hide, evIsi, blOf, intOf, wdOf, seqOf, intsOf, blsOf, wdsOf, evBin, ii, evEq, evAdd, evMul, evFdiv, evIs, evIn, evIx, evSl, evB, seq1, lst1, int2, evMM, evSort, fitN, eqD, eqDs, isFresh, flat, flats, setAll, asgS, asg, F.ns, F.np, List.replicate_succ, List.replicate_zero, List.map_cons, List.map_nil]
  case agg2 g r s =>
    simp only [toD, kids, List.map_cons, List.map_nil] at hp
    have h1 := hk r (by simp [kids])
    have h2 := hk s (by simp [kids])
    have l1 := hl
    simp only [br, List.length_append] at l1
    rw [← brD_len, ← brD_len] at l1
    have l2 : (brD r).length ≤ 100000 := by omega
    have e : brD (.agg2 g r s) = brD r ++ brD s := by simp [brD, br]
    cases g <;> simp [G.w] at hp <;> simp [F.body, b_branches, toD, atD, hp, h1, h2, forGo, e, l1, l2, G.w, exec, evE, evL, evO, evT, evI, evM, evPar, view, Sl.full, Sl.hide, evIsi, blOf, intOf, wdOf, seqOf, intsOf, blsOf, wdsOf, evBin, ii, evEq, evAdd, evMul, evFdiv, evIs, evIn, evIx, evSl, evB, seq1, lst1, int2, evMM, evSort, fitN, eqD, eqDs, isFresh, flat, flats, setAll, asgS, asg, F.ns, F.np, List.replicate_succ, List.replicate_zero, List.map_cons, List.map_nil]
  case mid r s t =>
    simp only [toD, kids, List.map_cons, List.map_nil] at hp
    have h1 := hk r (by simp [kids])
    have h2 := hk s (by simp [kids])
    have h3 := hk t (by simp [kids])
    have l1 := hl
    simp only [br, List.length_append] at l1
    rw [← brD_len, ← brD_len, ← brD_len] at l1
    have l2 : (brD r).length ≤ 100000 := by omega
    have l3 : (brD r).length + (brD s).length ≤ 100000 := by omega
    have l4 : (brD r).length + (brD s).length + (brD t).length ≤ 100000 := by omega
    have e : brD (.mid r s t) = brD r ++ (brD s ++ brD t) := by simp [brD, br]
    simp [F.body, b_branches, toD, atD, hp, h1, h2, h3, forGo, e, l2, l3, l4, exec, evE, evL, evO, evT, evI, evM, evPar, view, Sl.full, Sl.hide, evIsi, blOf, intOf, wdOf, seqOf, intsOf, blsOf, wdsOf, evBin, ii, evEq, evAdd, evMul, evFdiv, evIs, evIn, evIx, evSl, evB, seq1, lst1, int2, evMM, evSort, fitN, eqD, eqDs, isFresh, flat, flats, setAll, asgS, asg, F.ns, F.np, List.replicate_succ, List.replicate_zero, List.map_cons, List.map_nil]
  all_goals (
    rename_i r
    simp only [toD, kids, List.map_cons, List.map_nil] at hp
    have h1 := hk r (by simp [kids])
    have l1 := hl
    simp only [br] at l1
    rw [← brD_len] at l1
    simp [F.body, b_branches, toD, atD, hp, h1, forGo, l1, exec, evE, evL, evO, evT, evI, evM, evPar, view, Sl.full, Sl.hide, evIsi, blOf, intOf, wdOf, seqOf, intsOf, blsOf, wdsOf, evBin, ii, evEq, evAdd, evMul, evFdiv, evIs, evIn, evIx, evSl, evB, seq1, lst1, int2, evMM, evSort, fitN, eqD, eqDs, isFresh, flat, flats, setAll, asgS, asg, F.ns, F.np, List.replicate_succ, List.replicate_zero, List.map_cons, List.map_nil]
    rfl)
theorem kids_ok {N : Nat} : ∀ {r : R}, ok N r → ∀ k ∈ kids r, ok N k ∧ ht k < ht r ∧ (br k).length ≤ (br r).length := by
  intro r h k hk
  cases r <;> simp only [kids, List.mem_cons, List.mem_nil_iff, or_false, List.not_mem_nil] at hk
  case agg1 g r => subst hk; exact ⟨h, by simp [ht], Nat.le_refl _⟩
  case agg2 g r s => rcases hk with rfl | rfl <;> simp only [ok] at h <;> refine ⟨by first | exact h.1 | exact h.2, by simp only [ht]; omega, by simp only [br, List.length_append]; omega⟩
  case mid r s t => rcases hk with rfl | rfl | rfl <;> simp only [ok] at h <;> refine ⟨by first | exact h.1 | exact h.2.1 | exact h.2.2, by simp only [ht]; omega, by simp only [br, List.length_append]; omega⟩
  case times k r => subst hk; exact ⟨h.2, by simp [ht], Nat.le_refl _⟩
  case part k r => subst hk; exact ⟨h.2.2, by simp [ht], Nat.le_refl _⟩
  case clip lo hi r => subst hk; exact ⟨h.2.2.2, by simp [ht], Nat.le_refl _⟩
  case frm c r => subst hk; exact ⟨h.2, by simp [ht], Nat.le_refl _⟩
  case bar t lo hi r => subst hk; exact ⟨h.2.2.2, by simp [ht], Nat.le_refl _⟩
  case row ws r => subst hk; exact ⟨h.2.2.2.2, by simp [ht], Nat.le_refl _⟩
theorem branches_ok {N : Nat} (δ : Dl) : ∀ (m : Nat) (r : R), ok N r → (br r).length ≤ 100000 → ht r + 8 ≤ m → callF m .branches [toD r] δ = some (.tup (brD r), δ) := by
  intro m
  induction m with
  | zero => intro r _ _ h; omega
  | succ n ih =>
    intro r h hl hm
    obtain ⟨j, rfl⟩ : ∃ j, n = j + 6 := ⟨n - 6, by omega⟩
    cases r
    case hear c =>
      apply call_rt (by decide) rfl
      simp [F.body, b_branches, toD, atD, brD, br, exec, evE, evL, evO, evT, evI, evM, evPar, view, Sl.full, Sl.hide, evIsi, blOf, intOf, wdOf, seqOf, intsOf, blsOf, wdsOf, evBin, ii, evEq, evAdd, evMul, evFdiv, evIs, evIn, evIx, evSl, evB, seq1, lst1, int2, evMM, evSort, fitN, eqD, eqDs, isFresh, flat, flats, setAll, asgS, asg, F.ns, F.np, List.replicate_succ, List.replicate_zero, List.map_cons, List.map_nil]
    all_goals exact branches_step rfl (parts_of_ok j δ h) (fun k hk => ih k (kids_ok h k hk).1 (by have := (kids_ok h k hk).2.2; omega) (by have := (kids_ok h k hk).2.1; omega)) hl
end NB

set_option Elab.async false
set_option linter.all false
set_option maxRecDepth 100000
set_option maxHeartbeats 2000000
/-! What a rule says. -/
namespace NB
def mn2 (a b : Int) : Int := if b < a then b else a
def mx2 (a b : Int) : Int := if b > a then b else a
def g2 : G → Int → Int → Int
  | .least, a, b => mn2 a b
  | .most, a, b => mx2 a b
  | .add, a, b => a + b
def med (a b c : Int) : Int := (sortI [a, b, c]).getD 1 0
/-- the row's item at v, the last one beyond -/
def rowAt (ws : List Int) (v : Int) : Int := ws.getD (mn2 v ((ws.length : Int) - 1)).toNat 0
/-- a rule's own step: what it makes of its parts' numbers -/
def mk : R → List Int → Int
  | .agg1 _ _, [a] => a
  | .agg2 g _ _, [a, b] => g2 g a b
  | .mid _ _ _, [a, b, c] => med a b c
  | .times k _, [a] => k * a
  | .part k _, [a] => a.fdiv k
  | .clip lo hi _, [a] => mn2 (mx2 a lo) hi
  | .frm c _, [a] => mx2 0 (c - a)
  | .bar t lo hi _, [a] => if t ≤ a then hi else lo
  | .row ws _, [a] => rowAt ws a
  | _, _ => 0
theorem atD_row {ws : List Int} {v : Int} (h0 : 0 ≤ v) (h1 : 0 < ws.length) : atD (ws.map .int) (mn2 v ((ws.length : Int) - 1)) = some (.int (rowAt ws v)) := by
  have hb : 0 ≤ mn2 v ((ws.length : Int) - 1) ∧ mn2 v ((ws.length : Int) - 1) < ws.length := by unfold mn2; split <;> omega
  have hi : (mn2 v ((ws.length : Int) - 1)).toNat < ws.length := by omega
  unfold atD
  rw [if_pos hb.1, List.getElem?_map, List.getElem?_eq_getElem hi]
  unfold rowAt
  rw [List.getD_eq_getElem?_getD, List.getElem?_eq_getElem hi]
  rfl
theorem sortI3_len (a b c : Int) : (sortI [a, b, c]).length = 3 := by
  simp only [sortI, insI]
  split <;> simp only [insI] <;> split <;> (try split) <;> rfl
theorem med_at (a b c : Int) : atD ((sortI [a, b, c]).map .int) 1 = some (.int (med a b c)) := by
  have h := sortI3_len a b c
  unfold atD med
  rw [if_pos (by decide), List.getElem?_map, List.getD_eq_getElem?_getD]
  rw [show (1 : Int).toNat = 1 from rfl, List.getElem?_eq_getElem (by omega)]
  rfl
theorem len2 {as : List Int} (h : as.length = 2) : ∃ a b, as = [a, b] := by
  rcases as with _ | ⟨a, _ | ⟨b, _ | ⟨_, _⟩⟩⟩ <;> simp at h
  exact ⟨a, b, rfl⟩
theorem len3 {as : List Int} (h : as.length = 3) : ∃ a b c, as = [a, b, c] := by
  rcases as with _ | ⟨a, _ | ⟨b, _ | ⟨c, _ | ⟨_, _⟩⟩⟩⟩ <;> simp at h
  exact ⟨a, b, c, rfl⟩
theorem atD0 (a : D) (l : List D) : atD (a :: l) 0 = some a := rfl
theorem atD1 (a b : D) (l : List D) : atD (a :: b :: l) 1 = some b := rfl
theorem made_ok (n : Nat) (δ : Dl) {N : Nat} {r : R} (h : ok N r) {as : List Int} (hl : as.length = (kids r).length) (hk : as ≠ []) (h0 : ∀ a ∈ as, 0 ≤ a) : callF (n + 1) .made [toD r, .lst (as.map .int)] δ = some (.int (mk r as), δ) := by
  apply call_rt (by decide) rfl
  cases r
  case is c => simp only [kids, List.length_nil] at hl; exact absurd (List.length_eq_zero_iff.mp hl) hk
  case hear c => simp only [kids, List.length_nil] at hl; exact absurd (List.length_eq_zero_iff.mp hl) hk
  case agg1 g r =>
    obtain ⟨a, rfl⟩ := List.length_eq_one_iff.mp (show as.length = 1 from hl)
    cases g <;> simp [F.body, b_made, toD, atD, mk, minL, maxL, G.w, exec, evE, evL, evO, evT, evI, evM, evPar, view, Sl.full, Sl.hide, evIsi, blOf, intOf, wdOf, seqOf, intsOf, blsOf, wdsOf, evBin, ii, evEq, evAdd, evMul, evFdiv, evIs, evIn, evIx, evSl, evB, seq1, lst1, int2, evMM, evSort, fitN, eqD, eqDs, isFresh, flat, flats, setAll, asgS, asg, F.ns, F.np, List.replicate_succ, List.replicate_zero, List.map_cons, List.map_nil]
  case agg2 g r s =>
    obtain ⟨a, b, rfl⟩ := len2 (show as.length = 2 from hl)
    cases g <;> simp [F.body, b_made, toD, atD, mk, g2, mn2, mx2, minL, maxL, G.w, exec, evE, evL, evO, evT, evI, evM, evPar, view, Sl.full, Sl.hide, evIsi, blOf, intOf, wdOf, seqOf, intsOf, blsOf, wdsOf, evBin, ii, evEq, evAdd, evMul, evFdiv, evIs, evIn, evIx, evSl, evB, seq1, lst1, int2, evMM, evSort, fitN, eqD, eqDs, isFresh, flat, flats, setAll, asgS, asg, F.ns, F.np, List.replicate_succ, List.replicate_zero, List.map_cons, List.map_nil]
  case mid r s t =>
    obtain ⟨a, b, c, rfl⟩ := len3 (show as.length = 3 from hl)
    have q := med_at a b c
    simp [F.body, b_made, toD, mk, atD0, atD1, sortI3_len, intsOf_map, exec, evE, evL, evO, evT, evI, evM, evPar, view, Sl.full, Sl.hide, evIsi, blOf, intOf, wdOf, seqOf, intsOf, blsOf, wdsOf, evBin, ii, evEq, evAdd, evMul, evFdiv, evIs, evIn, evIx, evSl, evB, seq1, lst1, int2, evMM, evSort, fitN, eqD, eqDs, isFresh, flat, flats, setAll, asgS, asg, F.ns, F.np, List.replicate_succ, List.replicate_zero, List.map_cons, List.map_nil]
    simp [atD0, atD1, q]
  case times k r =>
    obtain ⟨a, rfl⟩ := List.length_eq_one_iff.mp (show as.length = 1 from hl)
    have k0 := h.1.1
    have k1 := h.1.2
    have hk : -18446744073709551616 < k ∧ k < 18446744073709551616 := ⟨by omega, by omega⟩
    simp [F.body, b_made, toD, atD, mk, hk, exec, evE, evL, evO, evT, evI, evM, evPar, view, Sl.full, Sl.hide, evIsi, blOf, intOf, wdOf, seqOf, intsOf, blsOf, wdsOf, evBin, ii, evEq, evAdd, evMul, evFdiv, evIs, evIn, evIx, evSl, evB, seq1, lst1, int2, evMM, evSort, fitN, eqD, eqDs, isFresh, flat, flats, setAll, asgS, asg, F.ns, F.np, List.replicate_succ, List.replicate_zero, List.map_cons, List.map_nil]
  case part k r =>
    obtain ⟨a, rfl⟩ := List.length_eq_one_iff.mp (show as.length = 1 from hl)
    have k0 := h.1.1
    have k1 := h.1.2
    have k2 := h.2.1
    have hk : ¬ k = 0 ∧ k.natAbs < 1073741824 := ⟨by omega, by omega⟩
    simp [F.body, b_made, toD, atD, mk, hk, exec, evE, evL, evO, evT, evI, evM, evPar, view, Sl.full, Sl.hide, evIsi, blOf, intOf, wdOf, seqOf, intsOf, blsOf, wdsOf, evBin, ii, evEq, evAdd, evMul, evFdiv, evIs, evIn, evIx, evSl, evB, seq1, lst1, int2, evMM, evSort, fitN, eqD, eqDs, isFresh, flat, flats, setAll, asgS, asg, F.ns, F.np, List.replicate_succ, List.replicate_zero, List.map_cons, List.map_nil]
  case clip lo hi r =>
    obtain ⟨a, rfl⟩ := List.length_eq_one_iff.mp (show as.length = 1 from hl)
    simp [F.body, b_made, toD, atD, mk, mn2, mx2, exec, evE, evL, evO, evT, evI, evM, evPar, view, Sl.full, Sl.hide, evIsi, blOf, intOf, wdOf, seqOf, intsOf, blsOf, wdsOf, evBin, ii, evEq, evAdd, evMul, evFdiv, evIs, evIn, evIx, evSl, evB, seq1, lst1, int2, evMM, evSort, fitN, eqD, eqDs, isFresh, flat, flats, setAll, asgS, asg, F.ns, F.np, List.replicate_succ, List.replicate_zero, List.map_cons, List.map_nil]
  case frm c r =>
    obtain ⟨a, rfl⟩ := List.length_eq_one_iff.mp (show as.length = 1 from hl)
    simp [F.body, b_made, toD, atD, mk, mn2, mx2, exec, evE, evL, evO, evT, evI, evM, evPar, view, Sl.full, Sl.hide, evIsi, blOf, intOf, wdOf, seqOf, intsOf, blsOf, wdsOf, evBin, ii, evEq, evAdd, evMul, evFdiv, evIs, evIn, evIx, evSl, evB, seq1, lst1, int2, evMM, evSort, fitN, eqD, eqDs, isFresh, flat, flats, setAll, asgS, asg, F.ns, F.np, List.replicate_succ, List.replicate_zero, List.map_cons, List.map_nil]
  case bar t lo hi r =>
    obtain ⟨a, rfl⟩ := List.length_eq_one_iff.mp (show as.length = 1 from hl)
    by_cases q : t ≤ a <;> simp [F.body, b_made, toD, atD, mk, q, exec, evE, evL, evO, evT, evI, evM, evPar, view, Sl.full, Sl.hide, evIsi, blOf, intOf, wdOf, seqOf, intsOf, blsOf, wdsOf, evBin, ii, evEq, evAdd, evMul, evFdiv, evIs, evIn, evIx, evSl, evB, seq1, lst1, int2, evMM, evSort, fitN, eqD, eqDs, isFresh, flat, flats, setAll, asgS, asg, F.ns, F.np, List.replicate_succ, List.replicate_zero, List.map_cons, List.map_nil]
  case row ws r =>
    obtain ⟨a, rfl⟩ := List.length_eq_one_iff.mp (show as.length = 1 from hl)
    have q := atD_row (ws := ws) (h0 a (by simp)) h.2.2.1
    simp only [mn2] at q
    simp [F.body, b_made, toD, mk, atD0, atD1, exec, evE, evL, evO, evT, evI, evM, evPar, view, Sl.full, Sl.hide, evIsi, blOf, intOf, wdOf, seqOf, intsOf, blsOf, wdsOf, evBin, ii, evEq, evAdd, evMul, evFdiv, evIs, evIn, evIx, evSl, evB, seq1, lst1, int2, evMM, evSort, fitN, eqD, eqDs, isFresh, flat, flats, setAll, asgS, asg, F.ns, F.np, List.replicate_succ, List.replicate_zero, List.map_cons, List.map_nil]
    simp [q]
end NB

set_option Elab.async false
set_option linter.all false
set_option maxRecDepth 100000
set_option maxHeartbeats 2000000
/-! What a rule tells; what a house wants. -/
namespace NB
/-- what a rule says of what its branches hear: h i is the i-th branch's number -/
def val : R → (Nat → Int) → Int
  | .is c, _ => c
  | .hear _, h => h 0
  | .agg1 _ r, h => val r h
  | .agg2 g r s, h => g2 g (val r h) (val s fun i => h (i + (br r).length))
  | .mid r s t, h => med (val r h) (val s fun i => h (i + (br r).length)) (val t fun i => h (i + ((br r).length + (br s).length)))
  | .times k r, h => k * val r h
  | .part k r, h => (val r h).fdiv k
  | .clip lo hi r, h => mn2 (mx2 (val r h) lo) hi
  | .frm c r, h => mx2 0 (c - val r h)
  | .bar t lo hi r, h => if t ≤ val r h then hi else lo
  | .row ws r, h => rowAt ws (val r h)
theorem rowAt_mem {ws : List Int} {v : Int} (h0 : 0 ≤ v) (h1 : 0 < ws.length) : rowAt ws v ∈ ws := by
  have hb : 0 ≤ mn2 v ((ws.length : Int) - 1) ∧ mn2 v ((ws.length : Int) - 1) < ws.length := by unfold mn2; split <;> omega
  have hi : (mn2 v ((ws.length : Int) - 1)).toNat < ws.length := by omega
  unfold rowAt
  rw [List.getD_eq_getElem?_getD, List.getElem?_eq_getElem hi]
  exact List.getElem_mem hi
theorem med_cases (a b c : Int) : med a b c = a ∨ med a b c = b ∨ med a b c = c := by
  have h := med_at a b c
  unfold med
  simp only [sortI, insI]
  split <;> simp only [insI] <;> split <;> (try split) <;> simp
theorem val_nn {N : Nat} : ∀ (r : R) (h : Nat → Int), ok N r → (∀ i, 0 ≤ h i) → 0 ≤ val r h
  | .is c, h, o, _ => o.1
  | .hear c, h, _, p => p 0
  | .agg1 g r, h, o, p => val_nn r h o p
  | .agg2 g r s, h, o, p => by
    have h1 := val_nn r h o.1 p
    have h2 := val_nn s (fun i => h (i + (br r).length)) o.2 fun i => p _
    cases g <;> simp only [val, g2, mn2, mx2] <;> (try split) <;> omega
  | .mid r s t, h, o, p => by
    have h1 := val_nn r h o.1 p
    have h2 := val_nn s (fun i => h (i + (br r).length)) o.2.1 fun i => p _
    have h3 := val_nn t (fun i => h (i + ((br r).length + (br s).length))) o.2.2 fun i => p _
    simp only [val]
    rcases med_cases (val r h) (val s fun i => h (i + (br r).length)) (val t fun i => h (i + ((br r).length + (br s).length))) with e | e | e <;> rw [e] <;> assumption
  | .times k r, h, o, p => Int.mul_nonneg o.1.1 (val_nn r h o.2 p)
  | .part k r, h, o, p => by
    simp only [val]
    rw [Int.fdiv_eq_ediv_of_nonneg _ o.1.1]
    exact Int.ediv_nonneg (val_nn r h o.2.2 p) o.1.1
  | .clip lo hi r, h, o, p => by
    have h1 := val_nn r h o.2.2.2 p
    have h2 := o.1.1
    have h3 := o.2.1.1
    simp only [val, mn2, mx2]
    split <;> (try split) <;> omega
  | .frm c r, h, o, p => by simp only [val, mx2]; split <;> omega
  | .bar t lo hi r, h, o, p => by
    have h2 := o.2.1.1
    have h3 := o.2.2.1.1
    simp only [val]
    split <;> omega
  | .row ws r, h, o, p => (o.1 _ (rowAt_mem (val_nn r h o.2.2.2.2 p) o.2.2.1)).1
theorem told1 {n : Nat} {δ : Dl} {d p hd : D} {w : Wd} {rest : List D} {a a' v x : Int} (e : d = .tup (.str w :: rest)) (w1 : w ≠ .w_is) (w2 : w ≠ .w_hear) (hp : callF n .parts_of [d] δ = some (.tup [p], δ)) (h1 : callF n .told_by [p, hd, .int a] δ = some (.tup [.int v, .int a'], δ))
    (hm : callF n .made [d, .lst [.int v]] δ = some (.int x, δ)) : callF (n + 1) .told_by [d, hd, .int a] δ = some (.tup [.int x, .int a'], δ) := by
  apply call_rt (by decide) rfl
  subst e
  simp [F.body, b_told_by, atD0, w1, w2, hp, h1, hm, forGo, exec, evE, evL, evO, evT, evI, evM, evPar, view, Sl.full, Sl.hide, evIsi, blOf, intOf, wdOf, seqOf, intsOf, blsOf, wdsOf, evBin, ii, evEq, evAdd, evMul, evFdiv, evIs, evIn, evIx, evSl, evB, seq1, lst1, int2, evMM, evSort, fitN, eqD, eqDs, isFresh, flat, flats, setAll, asgS, asg, F.ns, F.np, List.replicate_succ, List.replicate_zero, List.map_cons, List.map_nil]
theorem told2 {n : Nat} {δ : Dl} {d p q hd : D} {w : Wd} {rest : List D} {a a' a2 v v2 x : Int} (e : d = .tup (.str w :: rest)) (w1 : w ≠ .w_is) (w2 : w ≠ .w_hear) (hp : callF n .parts_of [d] δ = some (.tup [p, q], δ)) (h1 : callF n .told_by [p, hd, .int a] δ = some (.tup [.int v, .int a'], δ))
    (h2 : callF n .told_by [q, hd, .int a'] δ = some (.tup [.int v2, .int a2], δ)) (hm : callF n .made [d, .lst [.int v, .int v2]] δ = some (.int x, δ)) : callF (n + 1) .told_by [d, hd, .int a] δ = some (.tup [.int x, .int a2], δ) := by
  apply call_rt (by decide) rfl
  subst e
  simp [F.body, b_told_by, atD0, w1, w2, hp, h1, h2, hm, forGo, exec, evE, evL, evO, evT, evI, evM, evPar, view, Sl.full, Sl.hide, evIsi, blOf, intOf, wdOf, seqOf, intsOf, blsOf, wdsOf, evBin, ii, evEq, evAdd, evMul, evFdiv, evIs, evIn, evIx, evSl, evB, seq1, lst1, int2, evMM, evSort, fitN, eqD, eqDs, isFresh, flat, flats, setAll, asgS, asg, F.ns, F.np, List.replicate_succ, List.replicate_zero, List.map_cons, List.map_nil]
theorem told3 {n : Nat} {δ : Dl} {d p q r hd : D} {w : Wd} {rest : List D} {a a' a2 a3 v v2 v3 x : Int} (e : d = .tup (.str w :: rest)) (w1 : w ≠ .w_is) (w2 : w ≠ .w_hear) (hp : callF n .parts_of [d] δ = some (.tup [p, q, r], δ)) (h1 : callF n .told_by [p, hd, .int a] δ = some (.tup [.int v, .int a'], δ))
    (h2 : callF n .told_by [q, hd, .int a'] δ = some (.tup [.int v2, .int a2], δ)) (h3 : callF n .told_by [r, hd, .int a2] δ = some (.tup [.int v3, .int a3], δ)) (hm : callF n .made [d, .lst [.int v, .int v2, .int v3]] δ = some (.int x, δ)) : callF (n + 1) .told_by [d, hd, .int a] δ = some (.tup [.int x, .int a3], δ) := by
  apply call_rt (by decide) rfl
  subst e
  simp [F.body, b_told_by, atD0, w1, w2, hp, h1, h2, h3, hm, forGo, exec, evE, evL, evO, evT, evI, evM, evPar, view, Sl.full, Sl.hide, evIsi, blOf, intOf, wdOf, seqOf, intsOf, blsOf, wdsOf, evBin, ii, evEq, evAdd, evMul, evFdiv, evIs, evIn, evIx, evSl, evB, seq1, lst1, int2, evMM, evSort, fitN, eqD, eqDs, isFresh, flat, flats, setAll, asgS, asg, F.ns, F.np, List.replicate_succ, List.replicate_zero, List.map_cons, List.map_nil]
theorem gw_ne (g : G) : g.w ≠ .w_is ∧ g.w ≠ .w_hear := by cases g <;> decide
theorem atD_get {hs : List Int} {a : Nat} (h : a < hs.length) : atD (hs.map .int) (a : Int) = some (.int (hs.getD a 0)) := by
  unfold atD
  rw [if_pos (by omega), List.getElem?_map, show ((a : Nat) : Int).toNat = a by omega, List.getElem?_eq_getElem h, List.getD_eq_getElem?_getD, List.getElem?_eq_getElem h]
  rfl
theorem told_by_ok {N : Nat} (δ : Dl) {hs : List Int} (hp : ∀ x ∈ hs, 0 ≤ x) : ∀ (m : Nat) (r : R) (a : Nat), ok N r → a + (br r).length ≤ hs.length → ht r + 8 ≤ m →
    callF m .told_by [toD r, .tup (hs.map .int), .int a] δ = some (.tup [.int (val r fun i => hs.getD (a + i) 0), .int ((a + (br r).length : Nat) : Int)], δ) := by
  have nn : ∀ a i, 0 ≤ hs.getD (a + i) 0 := fun a i => by
    rw [List.getD_eq_getElem?_getD]
    cases e : hs[a + i]? with
    | none => exact Int.le_refl 0
    | some x => exact hp x (List.mem_of_getElem? e)
  intro m
  induction m with
  | zero => intro r a _ _ h; omega
  | succ n ih =>
    intro r a o hl hm
    obtain ⟨j, rfl⟩ : ∃ j, n = j + 6 := ⟨n - 6, by omega⟩
    have par := parts_of_ok j δ o
    have mad := fun as h1 h2 h3 => made_ok (j + 5) δ (N := N) (r := r) o (as := as) h1 h2 h3
    have one : ∀ k, kids r = [k] → (br r).length = (br k).length → (∀ h, val r h = mk r [val k h]) → (∃ w rest, toD r = .tup (.str w :: rest) ∧ w ≠ .w_is ∧ w ≠ .w_hear) →
        callF (j + 6 + 1) .told_by [toD r, .tup (hs.map .int), .int a] δ = some (.tup [.int (val r fun i => hs.getD (a + i) 0), .int ((a + (br r).length : Nat) : Int)], δ) := fun k ek eb ev ⟨w, rest, e1, e2, e3⟩ => by
      have ko := kids_ok o k (by rw [ek]; simp)
      have par' : callF (j + 6) .parts_of [toD r] δ = some (.tup [toD k], δ) := by rw [par, ek]; rfl
      have mad' : callF (j + 6) .made [toD r, .lst [.int (val k fun i => hs.getD (a + i) 0)]] δ = some (.int (mk r [val k fun i => hs.getD (a + i) 0]), δ) := mad [val k fun i => hs.getD (a + i) 0] (by rw [ek]; rfl) (by simp) (by simp; exact val_nn _ _ ko.1 (nn a))
      have q := ih k a ko.1 (by omega) (by have := ko.2.1; omega)
      rw [eb, ev]
      exact told1 (n := j + 6) e1 e2 e3 par' q mad'
    cases r
    case is c =>
      apply call_rt (by decide) rfl
      simp [F.body, b_told_by, toD, atD, val, br, exec, evE, evL, evO, evT, evI, evM, evPar, view, Sl.full, Sl.hide, evIsi, blOf, intOf, wdOf, seqOf, intsOf, blsOf, wdsOf, evBin, ii, evEq, evAdd, evMul, evFdiv, evIs, evIn, evIx, evSl, evB, seq1, lst1, int2, evMM, evSort, fitN, eqD, eqDs, isFresh, flat, flats, setAll, asgS, asg, F.ns, F.np, List.replicate_succ, List.replicate_zero, List.map_cons, List.map_nil]
    case hear c =>
      have q := atD_get (hs := hs) (a := a) (by simp only [br, List.length_singleton] at hl; omega)
      apply call_rt (by decide) rfl
      simp [F.body, b_told_by, toD, atD0, atD1, val, br, q, exec, evE, evL, evO, evT, evI, evM, evPar, view, Sl.full, Sl.hide, evIsi, blOf, intOf, wdOf, seqOf, intsOf, blsOf, wdsOf, evBin, ii, evEq, evAdd, evMul, evFdiv, evIs, evIn, evIx, evSl, evB, seq1, lst1, int2, evMM, evSort, fitN, eqD, eqDs, isFresh, flat, flats, setAll, asgS, asg, F.ns, F.np, List.replicate_succ, List.replicate_zero, List.map_cons, List.map_nil]
    case agg1 g r => exact one r rfl rfl (fun _ => rfl) ⟨_, _, rfl, (gw_ne g).1, (gw_ne g).2⟩
    case agg2 g r s =>
      have k1 := kids_ok o r (by simp [kids])
      have k2 := kids_ok o s (by simp [kids])
      simp only [br, List.length_append] at hl
      have q1 := ih r a k1.1 (by omega) (by have := k1.2.1; omega)
      have q2 := ih s (a + (br r).length) k2.1 (by omega) (by have := k2.2.1; omega)
      have mad' : callF (j + 6) .made [toD (.agg2 g r s), .lst [.int (val r fun i => hs.getD (a + i) 0), .int (val s fun i => hs.getD (a + (br r).length + i) 0)]] δ = some (.int (mk (.agg2 g r s) [val r fun i => hs.getD (a + i) 0, val s fun i => hs.getD (a + (br r).length + i) 0]), δ) :=
        mad [val r fun i => hs.getD (a + i) 0, val s fun i => hs.getD (a + (br r).length + i) 0] rfl (by simp) (by simp; exact ⟨val_nn _ _ k1.1 (nn a), val_nn _ _ k2.1 (nn _)⟩)
      have z := told2 (n := j + 6) (hd := .tup (hs.map .int)) (d := toD (.agg2 g r s)) rfl (gw_ne g).1 (gw_ne g).2 par q1 q2 mad'
      rw [z]
      simp only [mk, val, br, List.length_append, Nat.add_assoc, Nat.add_comm, Nat.add_left_comm]
    case mid r s t =>
      have k1 := kids_ok o r (by simp [kids])
      have k2 := kids_ok o s (by simp [kids])
      have k3 := kids_ok o t (by simp [kids])
      simp only [br, List.length_append] at hl
      have q1 := ih r a k1.1 (by omega) (by have := k1.2.1; omega)
      have q2 := ih s (a + (br r).length) k2.1 (by omega) (by have := k2.2.1; omega)
      have q3 := ih t (a + (br r).length + (br s).length) k3.1 (by omega) (by have := k3.2.1; omega)
      have mad' : callF (j + 6) .made [toD (.mid r s t), .lst [.int (val r fun i => hs.getD (a + i) 0), .int (val s fun i => hs.getD (a + (br r).length + i) 0), .int (val t fun i => hs.getD (a + (br r).length + (br s).length + i) 0)]] δ = some (.int (mk (.mid r s t) [val r fun i => hs.getD (a + i) 0, val s fun i => hs.getD (a + (br r).length + i) 0, val t fun i => hs.getD (a + (br r).length + (br s).length + i) 0]), δ) :=
        mad [val r fun i => hs.getD (a + i) 0, val s fun i => hs.getD (a + (br r).length + i) 0, val t fun i => hs.getD (a + (br r).length + (br s).length + i) 0] rfl (by simp) (by simp; exact ⟨val_nn _ _ k1.1 (nn a), val_nn _ _ k2.1 (nn _), val_nn _ _ k3.1 (nn _)⟩)
      have z := told3 (n := j + 6) (hd := .tup (hs.map .int)) (d := toD (.mid r s t)) rfl (by decide) (by decide) par q1 q2 q3 mad'
      rw [z]
      simp only [mk, val, br, List.length_append, Nat.add_assoc, Nat.add_comm, Nat.add_left_comm]
    case times k r => exact one r rfl rfl (fun _ => rfl) ⟨_, _, rfl, by decide, by decide⟩
    case part k r => exact one r rfl rfl (fun _ => rfl) ⟨_, _, rfl, by decide, by decide⟩
    case clip lo hi r => exact one r rfl rfl (fun _ => rfl) ⟨_, _, rfl, by decide, by decide⟩
    case frm c r => exact one r rfl rfl (fun _ => rfl) ⟨_, _, rfl, by decide, by decide⟩
    case bar t lo hi r => exact one r rfl rfl (fun _ => rfl) ⟨_, _, rfl, by decide, by decide⟩
    case row ws r => exact one r rfl rfl (fun _ => rfl) ⟨_, _, rfl, by decide, by decide⟩
theorem told_ok {N : Nat} (δ : Dl) {hs : List Int} (hp : ∀ x ∈ hs, 0 ≤ x) {m : Nat} {r : R} (o : ok N r) (hl : (br r).length ≤ hs.length) (hm : ht r + 9 ≤ m) : callF m .told [toD r, .tup (hs.map .int)] δ = some (.int (val r fun i => hs.getD i 0), δ) := by
  obtain ⟨n, rfl⟩ : ∃ n, m = n + 1 := ⟨m - 1, by omega⟩
  have q := told_by_ok (N := N) δ hp n r 0 o (by omega) (by omega)
  apply call_rt (by decide) rfl
  simp only [Nat.zero_add] at q
  have q : callF n .told_by [toD r, .tup (hs.map .int), .int 0] δ = _ := q
  simp [F.body, b_told, atD0, q, exec, evE, evL, evO, evT, evI, evM, evPar, view, Sl.full, Sl.hide, evIsi, blOf, intOf, wdOf, seqOf, intsOf, blsOf, wdsOf, evBin, ii, evEq, evAdd, evMul, evFdiv, evIs, evIn, evIx, evSl, evB, seq1, lst1, int2, evMM, evSort, fitN, eqD, eqDs, isFresh, flat, flats, setAll, asgS, asg, F.ns, F.np, List.replicate_succ, List.replicate_zero, List.map_cons, List.map_nil]
end NB

set_option Elab.async false
set_option linter.all false
set_option maxRecDepth 100000
set_option maxHeartbeats 2000000
/-! Ranges and ways, in plain Lean. -/
namespace NB
theorem mn2_i (a b : Int) : mn2 a b ≤ a ∧ mn2 a b ≤ b ∧ (mn2 a b = a ∨ mn2 a b = b) := by unfold mn2; split <;> omega
theorem mx2_i (a b : Int) : a ≤ mx2 a b ∧ b ≤ mx2 a b ∧ (mx2 a b = a ∨ mx2 a b = b) := by unfold mx2; split <;> omega
def isB : Int → Int → Bool := fun a b => decide (a = b)
/-- entries for a range of indices -/
def ent (ws : List Int) (lo hi : Int) : List Int := (ws.drop (mn2 lo ((ws.length : Int) - 1)).toNat).take (min (hi + 1).toNat ws.length - (mn2 lo ((ws.length : Int) - 1)).toNat)
def ends2 : List Int → Int × Int
  | [] => (0, 0)
  | a :: r => (minL a r, maxL a r)
def turn : R → Bool
  | .frm _ _ => true
  | .bar _ lo hi _ => decide (hi < lo)
  | _ => false
section
variable (tops : List Int)
def rng : R → Int × Int
  | .is c => (c, c)
  | .hear h => (0, tops.getD h 0)
  | .agg1 g r => (mn2 (rng r).1 (rng r).2, mx2 (rng r).1 (rng r).2)
  | .agg2 g r s => (mn2 (g2 g (rng r).1 (rng s).1) (g2 g (rng r).2 (rng s).2), mx2 (g2 g (rng r).1 (rng s).1) (g2 g (rng r).2 (rng s).2))
  | .mid r s t => (mn2 (med (rng r).1 (rng s).1 (rng t).1) (med (rng r).2 (rng s).2 (rng t).2), mx2 (med (rng r).1 (rng s).1 (rng t).1) (med (rng r).2 (rng s).2 (rng t).2))
  | .times k r => (mn2 (mk (.times k r) [(rng r).1]) (mk (.times k r) [(rng r).2]), mx2 (mk (.times k r) [(rng r).1]) (mk (.times k r) [(rng r).2]))
  | .part k r => (mn2 (mk (.part k r) [(rng r).1]) (mk (.part k r) [(rng r).2]), mx2 (mk (.part k r) [(rng r).1]) (mk (.part k r) [(rng r).2]))
  | .clip lo hi r => (mn2 (mk (.clip lo hi r) [(rng r).1]) (mk (.clip lo hi r) [(rng r).2]), mx2 (mk (.clip lo hi r) [(rng r).1]) (mk (.clip lo hi r) [(rng r).2]))
  | .frm c r => (mn2 (mk (.frm c r) [(rng r).1]) (mk (.frm c r) [(rng r).2]), mx2 (mk (.frm c r) [(rng r).1]) (mk (.frm c r) [(rng r).2]))
  | .bar t lo hi r => (mn2 (mk (.bar t lo hi r) [(rng r).1]) (mk (.bar t lo hi r) [(rng r).2]), mx2 (mk (.bar t lo hi r) [(rng r).1]) (mk (.bar t lo hi r) [(rng r).2]))
  | .row ws r => ends2 (ent ws (rng r).1 (rng r).2)
def words : R → Bool → Bool → List Wd
  | .is _, _, _ => []
  | .hear h, st, f => [if st || isB 0 (tops.getD h 0) then .w_none else if f then .w_falls else .w_rises]
  | .agg1 g r, st, f => words r (st || isB (rng tops (.agg1 g r)).1 (rng tops (.agg1 g r)).2) (f != false)
  | .agg2 g r s, st, f => words r (st || isB (rng tops (.agg2 g r s)).1 (rng tops (.agg2 g r s)).2) (f != false) ++ words s (st || isB (rng tops (.agg2 g r s)).1 (rng tops (.agg2 g r s)).2) (f != false)
  | .mid r s t, st, f => words r (st || isB (rng tops (.mid r s t)).1 (rng tops (.mid r s t)).2) (f != false) ++ (words s (st || isB (rng tops (.mid r s t)).1 (rng tops (.mid r s t)).2) (f != false) ++ words t (st || isB (rng tops (.mid r s t)).1 (rng tops (.mid r s t)).2) (f != false))
  | .times k r, st, f => words r (st || isB (rng tops (.times k r)).1 (rng tops (.times k r)).2) (f != false)
  | .part k r, st, f => words r (st || isB (rng tops (.part k r)).1 (rng tops (.part k r)).2) (f != false)
  | .clip lo hi r, st, f => words r (st || isB (rng tops (.clip lo hi r)).1 (rng tops (.clip lo hi r)).2) (f != false)
  | .frm c r, st, f => words r (st || isB (rng tops (.frm c r)).1 (rng tops (.frm c r)).2) (f != true)
  | .bar t lo hi r, st, f => words r (st || isB (rng tops (.bar t lo hi r)).1 (rng tops (.bar t lo hi r)).2) (f != decide (hi < lo))
  | .row ws r, st, f => words r (st || isB (rng tops (.row ws r)).1 (rng tops (.row ws r)).2) (f != false)
theorem words_len : ∀ (r : R) (st f : Bool), (words tops r st f).length = (br r).length
  | .is c, _, _ => rfl
  | .hear h, _, _ => rfl
  | .agg1 g r, _, _ => words_len r _ _
  | .agg2 g r s, _, _ => by simp only [words, br, List.length_append, words_len r, words_len s]
  | .mid r s t, _, _ => by simp only [words, br, List.length_append, words_len r, words_len s, words_len t]
  | .times k r, _, _ => words_len r _ _
  | .part k r, _, _ => words_len r _ _
  | .clip lo hi r, _, _ => words_len r _ _
  | .frm c r, _, _ => words_len r _ _
  | .bar t lo hi r, _, _ => words_len r _ _
  | .row ws r, _, _ => words_len r _ _
end
theorem g2_mono (g : G) {a b c d : Int} (h1 : a ≤ c) (h2 : b ≤ d) : g2 g a b ≤ g2 g c d := by
  have m1 := mn2_i a b
  have m2 := mn2_i c d
  have m3 := mx2_i a b
  have m4 := mx2_i c d
  cases g <;> simp only [g2] <;> omega
theorem med_le (a b c : Int) : ∀ x, (a ≤ x ∧ b ≤ x) ∨ (a ≤ x ∧ c ≤ x) ∨ (b ≤ x ∧ c ≤ x) → med a b c ≤ x := by
  intro x h
  unfold med
  simp only [sortI, insI]
  split <;> simp only [insI] <;> split <;> (try split) <;> simp <;> omega
theorem med_two (a b c : Int) : (a ≤ med a b c ∧ b ≤ med a b c) ∨ (a ≤ med a b c ∧ c ≤ med a b c) ∨ (b ≤ med a b c ∧ c ≤ med a b c) := by
  unfold med
  simp only [sortI, insI]
  split <;> simp only [insI] <;> split <;> (try split) <;> simp <;> omega
theorem med_mono {a b c a' b' c' : Int} (h1 : a ≤ a') (h2 : b ≤ b') (h3 : c ≤ c') : med a b c ≤ med a' b' c' := by
  apply med_le
  have h := med_two a' b' c'
  omega
theorem rowAt_mono {ws : List Int} (hs : ws.Pairwise (· ≤ ·)) (hl : 0 < ws.length) {v v' : Int} (h0 : 0 ≤ v) (h : v ≤ v') : rowAt ws v ≤ rowAt ws v' := by
  have m1 := mn2_i v ((ws.length : Int) - 1)
  have m2 := mn2_i v' ((ws.length : Int) - 1)
  have i1 : (mn2 v ((ws.length : Int) - 1)).toNat < ws.length := by omega
  have i2 : (mn2 v' ((ws.length : Int) - 1)).toNat < ws.length := by omega
  have i3 : (mn2 v ((ws.length : Int) - 1)).toNat ≤ (mn2 v' ((ws.length : Int) - 1)).toNat := by omega
  unfold rowAt
  rw [List.getD_eq_getElem?_getD, List.getD_eq_getElem?_getD, List.getElem?_eq_getElem i1, List.getElem?_eq_getElem i2]
  show ws[(mn2 v ((ws.length : Int) - 1)).toNat] ≤ ws[(mn2 v' ((ws.length : Int) - 1)).toNat]
  rcases Nat.lt_or_ge (mn2 v ((ws.length : Int) - 1)).toNat (mn2 v' ((ws.length : Int) - 1)).toNat with z | z
  · exact List.pairwise_iff_getElem.mp hs _ _ i1 i2 z
  · have e : (mn2 v ((ws.length : Int) - 1)).toNat = (mn2 v' ((ws.length : Int) - 1)).toNat := by omega
    simp only [e]
    exact Int.le_refl _
/-- a rule with one part: its own step rises, or turns -/
theorem mk_mono {N : Nat} {r k : R} (o : ok N r) (ek : kids r = [k]) (ht' : turn r = false) {a b : Int} (h0 : 0 ≤ a) (h : a ≤ b) : mk r [a] ≤ mk r [b] := by
  cases r <;> simp only [kids, List.cons.injEq, reduceCtorEq, and_false, List.nil_eq, List.cons_ne_nil] at ek
  case agg1 g r => exact h
  case times k r => exact Int.mul_le_mul_of_nonneg_left h o.1.1
  case part k r =>
    simp only [mk]
    rw [Int.fdiv_eq_ediv_of_nonneg _ o.1.1, Int.fdiv_eq_ediv_of_nonneg _ o.1.1]
    exact Int.ediv_le_ediv o.2.1 h
  case clip lo hi r =>
    simp only [mk]
    have m1 := mx2_i a lo
    have m2 := mx2_i b lo
    have m3 := mn2_i (mx2 a lo) hi
    have m4 := mn2_i (mx2 b lo) hi
    omega
  case frm c r => cases ht'
  case bar t lo hi r =>
    simp only [turn, decide_eq_false_iff_not] at ht'
    simp only [mk]
    split <;> split <;> omega
  case row ws r => exact rowAt_mono o.2.1 o.2.2.1 h0 h
theorem mk_anti {N : Nat} {r k : R} (o : ok N r) (ek : kids r = [k]) (ht' : turn r = true) {a b : Int} (h : a ≤ b) : mk r [b] ≤ mk r [a] := by
  cases r <;> simp only [turn, reduceCtorEq, Bool.false_eq_true] at ht'
  case frm c r =>
    simp only [mk]
    have m1 := mx2_i 0 (c - a)
    have m2 := mx2_i 0 (c - b)
    omega
  case bar t lo hi r =>
    simp only [decide_eq_true_eq] at ht'
    simp only [mk]
    split <;> split <;> omega
theorem minL_le : ∀ (l : List Int) (a : Int), minL a l ≤ a ∧ ∀ x ∈ l, minL a l ≤ x
  | [], a => ⟨Int.le_refl _, fun _ h => nomatch h⟩
  | b :: l, a => by
    rw [minL]
    have h := minL_le l (if b < a then b else a)
    have q : (if b < a then b else a) ≤ a ∧ (if b < a then b else a) ≤ b := by split <;> omega
    have h1 := h.1
    constructor
    · omega
    · intro x hx
      rcases List.mem_cons.mp hx with rfl | hx
      · omega
      · exact h.2 x hx
theorem le_maxL : ∀ (l : List Int) (a : Int), a ≤ maxL a l ∧ ∀ x ∈ l, x ≤ maxL a l
  | [], a => ⟨Int.le_refl _, fun _ h => nomatch h⟩
  | b :: l, a => by
    rw [maxL]
    have h := le_maxL l (if b > a then b else a)
    have q : a ≤ (if b > a then b else a) ∧ b ≤ (if b > a then b else a) := by split <;> omega
    have h1 := h.1
    constructor
    · omega
    · intro x hx
      rcases List.mem_cons.mp hx with rfl | hx
      · omega
      · exact h.2 x hx
theorem minL_mem : ∀ (l : List Int) (a : Int), minL a l = a ∨ minL a l ∈ l
  | [], a => .inl rfl
  | b :: l, a => by
    rw [minL]
    rcases minL_mem l (if b < a then b else a) with h | h
    · rw [h]; split
      · exact .inr List.mem_cons_self
      · exact .inl rfl
    · exact .inr (List.mem_cons_of_mem _ h)
theorem ends2_mem {l : List Int} {x : Int} (h : x ∈ l) : (ends2 l).1 ≤ x ∧ x ≤ (ends2 l).2 := by
  cases l with
  | nil => cases h
  | cons a r =>
    rcases List.mem_cons.mp h with rfl | h
    · exact ⟨(minL_le r x).1, (le_maxL r x).1⟩
    · exact ⟨(minL_le r a).2 x h, (le_maxL r a).2 x h⟩
theorem rowAt_ent {ws : List Int} (hl : 0 < ws.length) {lo hi v : Int} (h0 : 0 ≤ lo) (h1 : lo ≤ v) (h2 : v ≤ hi) : rowAt ws v ∈ ent ws lo hi := by
  have m1 := mn2_i v ((ws.length : Int) - 1)
  have m2 := mn2_i lo ((ws.length : Int) - 1)
  have i1 : (mn2 v ((ws.length : Int) - 1)).toNat < ws.length := by omega
  have e : (ent ws lo hi)[(mn2 v ((ws.length : Int) - 1)).toNat - (mn2 lo ((ws.length : Int) - 1)).toNat]? = some (rowAt ws v) := by
    unfold ent rowAt
    rw [List.getElem?_take_of_lt (by omega), List.getElem?_drop, List.getD_eq_getElem?_getD]
    rw [show (mn2 lo ((ws.length : Int) - 1)).toNat + ((mn2 v ((ws.length : Int) - 1)).toNat - (mn2 lo ((ws.length : Int) - 1)).toNat) = (mn2 v ((ws.length : Int) - 1)).toNat by omega, List.getElem?_eq_getElem i1]
    rfl
  exact List.mem_of_getElem? e
def InB (tops : List Int) (bs : List Nat) (h : Nat → Int) : Prop := ∀ i (c : Nat), bs[i]? = some c → 0 ≤ h i ∧ h i ≤ tops.getD c 0
theorem InB.left {tops : List Int} {a b : List Nat} {h : Nat → Int} (x : InB tops (a ++ b) h) : InB tops a h := fun i c e => x i c (by
  rw [List.getElem?_append_left (List.getElem?_eq_some_iff.mp e).1]; exact e)
theorem InB.right {tops : List Int} {a b : List Nat} {h : Nat → Int} (x : InB tops (a ++ b) h) : InB tops b fun i => h (i + a.length) := fun i c e => x _ c (by
  rw [List.getElem?_append_right (by omega), Nat.add_sub_cancel]; exact e)
end NB

set_option Elab.async false
set_option linter.all false
set_option maxRecDepth 100000
set_option maxHeartbeats 2000000
/-! Ranges hold what a rule says; ways say how it moves. -/
namespace NB
theorem two_le {a b x : Int} (h1 : a ≤ x) (h2 : x ≤ b) : mn2 a b ≤ x ∧ x ≤ mx2 a b := by
  have m1 := mn2_i a b
  have m2 := mx2_i a b
  omega
theorem two_le' {a b x : Int} (h1 : b ≤ x) (h2 : x ≤ a) : mn2 a b ≤ x ∧ x ≤ mx2 a b := by
  have m1 := mn2_i a b
  have m2 := mx2_i a b
  omega
theorem ent_sub {ws : List Int} {lo hi : Int} {x : Int} (h : x ∈ ent ws lo hi) : x ∈ ws := List.mem_of_mem_drop (List.mem_of_mem_take h)
theorem two_nn {a b : Int} (h1 : 0 ≤ a) (h2 : 0 ≤ b) : 0 ≤ mn2 a b := by
  have m1 := mn2_i a b
  omega
theorem g2_nn (g : G) {a b : Int} (h1 : 0 ≤ a) (h2 : 0 ≤ b) : 0 ≤ g2 g a b := by
  have m1 := mn2_i a b
  have m2 := mx2_i a b
  cases g <;> simp only [g2] <;> omega
theorem med_nn {a b c : Int} (h1 : 0 ≤ a) (h2 : 0 ≤ b) (h3 : 0 ≤ c) : 0 ≤ med a b c := by
  have h := med_two a b c
  omega
/-- one part: the step keeps what is not below 0 so -/
theorem mk_nn {N : Nat} {r k : R} (o : ok N r) (ek : kids r = [k]) {a : Int} (h : 0 ≤ a) : 0 ≤ mk r [a] := by
  cases r <;> simp only [kids, List.cons.injEq, reduceCtorEq, and_false, List.nil_eq, List.cons_ne_nil] at ek
  case agg1 g r => exact h
  case times k r => exact Int.mul_nonneg o.1.1 h
  case part k r =>
    simp only [mk]
    rw [Int.fdiv_eq_ediv_of_nonneg _ o.1.1]
    exact Int.ediv_nonneg h o.1.1
  case clip lo hi r =>
    have h2 := o.1.1
    have h3 := o.2.1.1
    have m1 := mx2_i a lo
    have m2 := mn2_i (mx2 a lo) hi
    simp only [mk]
    omega
  case frm c r =>
    have m1 := mx2_i 0 (c - a)
    simp only [mk]
    omega
  case bar t lo hi r =>
    have h2 := o.2.1.1
    have h3 := o.2.2.1.1
    simp only [mk]
    split <;> omega
  case row ws r => exact (o.1 _ (rowAt_mem h o.2.2.1)).1
theorem mk_in {N : Nat} {r k : R} (o : ok N r) (ek : kids r = [k]) {lo hi a : Int} (h0 : 0 ≤ lo) (h1 : lo ≤ a) (h2 : a ≤ hi) : mn2 (mk r [lo]) (mk r [hi]) ≤ mk r [a] ∧ mk r [a] ≤ mx2 (mk r [lo]) (mk r [hi]) := by
  cases e : turn r with
  | false => exact two_le (mk_mono o ek e h0 h1) (mk_mono o ek e (by omega) h2)
  | true => exact two_le' (mk_anti o ek e h2) (mk_anti o ek e h1)
section
variable {tops : List Int}
/-- the range of a rule -/
def RngOk (tops : List Int) (r : R) : Prop := 0 ≤ (rng tops r).1 ∧ 0 ≤ (rng tops r).2 ∧ ∀ h, InB tops (br r) h → (rng tops r).1 ≤ val r h ∧ val r h ≤ (rng tops r).2
theorem rng_one {N : Nat} {r k : R} (o : ok N r) (ek : kids r = [k]) (eb : br r = br k) (ev : ∀ h, val r h = mk r [val k h]) (er : rng tops r = (mn2 (mk r [(rng tops k).1]) (mk r [(rng tops k).2]), mx2 (mk r [(rng tops k).1]) (mk r [(rng tops k).2]))) (h : RngOk tops k) : RngOk tops r := by
  obtain ⟨h1, h2, h3⟩ := h
  unfold RngOk
  rw [er, eb]
  have q1 := mk_nn o ek h1
  have q2 := mk_nn o ek h2
  have m1 := mx2_i (mk r [(rng tops k).1]) (mk r [(rng tops k).2])
  refine ⟨two_nn q1 q2, by show 0 ≤ mx2 _ _; omega, fun h hb => ?_⟩
  rw [ev]
  obtain ⟨z1, z2⟩ := h3 h hb
  exact mk_in o ek h1 z1 z2
theorem rng_ok {N : Nat} (ht' : ∀ t ∈ tops, 0 ≤ t) : ∀ (r : R), ok N r → RngOk tops r
  | .is c, o => ⟨o.1, o.1, fun h _ => ⟨Int.le_refl _, Int.le_refl _⟩⟩
  | .hear c, o => by
    refine ⟨Int.le_refl _, ?_, fun h hb => hb 0 c rfl⟩
    show 0 ≤ tops.getD c 0
    rw [List.getD_eq_getElem?_getD]
    cases e : tops[c]? with
    | none => exact Int.le_refl _
    | some t => exact ht' t (List.mem_of_getElem? e)
  | .agg1 g r, o => rng_one (r := .agg1 g r) o rfl rfl (fun _ => rfl) rfl (rng_ok ht' r o)
  | .agg2 g r s, o => by
    obtain ⟨a1, a2, a3⟩ := rng_ok ht' r o.1
    obtain ⟨b1, b2, b3⟩ := rng_ok ht' s o.2
    have q1 := g2_nn g a1 b1
    have q2 := g2_nn g a2 b2
    refine ⟨two_nn q1 q2, ?_, fun h hb => ?_⟩
    · have m1 := mx2_i (g2 g (rng tops r).1 (rng tops s).1) (g2 g (rng tops r).2 (rng tops s).2)
      show 0 ≤ mx2 _ _
      omega
    · obtain ⟨x1, x2⟩ := a3 h hb.left
      obtain ⟨y1, y2⟩ := b3 _ hb.right
      exact two_le (g2_mono g x1 y1) (g2_mono g x2 y2)
  | .mid r s t, o => by
    obtain ⟨a1, a2, a3⟩ := rng_ok ht' r o.1
    obtain ⟨b1, b2, b3⟩ := rng_ok ht' s o.2.1
    obtain ⟨c1, c2, c3⟩ := rng_ok ht' t o.2.2
    have q1 := med_nn a1 b1 c1
    have q2 := med_nn a2 b2 c2
    refine ⟨two_nn q1 q2, ?_, fun h hb => ?_⟩
    · have m1 := mx2_i (med (rng tops r).1 (rng tops s).1 (rng tops t).1) (med (rng tops r).2 (rng tops s).2 (rng tops t).2)
      show 0 ≤ mx2 _ _
      omega
    · have hb : InB tops (br r ++ (br s ++ br t)) h := hb
      obtain ⟨x1, x2⟩ := a3 h hb.left
      obtain ⟨y1, y2⟩ := b3 _ hb.right.left
      obtain ⟨z1, z2⟩ := c3 _ hb.right.right
      simp only [val]
      have e : (fun i => h (i + (br s).length + (br r).length)) = fun i => h (i + ((br r).length + (br s).length)) := by funext i; congr 1; omega
      rw [e] at z1 z2
      exact two_le (med_mono x1 y1 z1) (med_mono x2 y2 z2)
  | .times k r, o => rng_one (r := .times k r) o rfl rfl (fun _ => rfl) rfl (rng_ok ht' r o.2)
  | .part k r, o => rng_one (r := .part k r) o rfl rfl (fun _ => rfl) rfl (rng_ok ht' r o.2.2)
  | .clip lo hi r, o => rng_one (r := .clip lo hi r) o rfl rfl (fun _ => rfl) rfl (rng_ok ht' r o.2.2.2)
  | .frm c r, o => rng_one (r := .frm c r) o rfl rfl (fun _ => rfl) rfl (rng_ok ht' r o.2)
  | .bar t lo hi r, o => rng_one (r := .bar t lo hi r) o rfl rfl (fun _ => rfl) rfl (rng_ok ht' r o.2.2.2)
  | .row ws r, o => by
    obtain ⟨a1, a2, a3⟩ := rng_ok ht' r o.2.2.2.2
    have nn : 0 ≤ (ends2 (ent ws (rng tops r).1 (rng tops r).2)).1 ∧ 0 ≤ (ends2 (ent ws (rng tops r).1 (rng tops r).2)).2 := by
      cases e : ent ws (rng tops r).1 (rng tops r).2 with
      | nil => exact ⟨Int.le_refl _, Int.le_refl _⟩
      | cons x l =>
        have hm : ∀ y ∈ x :: l, 0 ≤ y := fun y hy => (o.1 y (ent_sub (by rw [e]; exact hy))).1
        have q1 : minL x l ∈ x :: l := (minL_mem l x).elim (fun z => by rw [z]; exact List.mem_cons_self) fun z => List.mem_cons_of_mem _ z
        have q2 := (le_maxL l x).1
        exact ⟨hm _ q1, Int.le_trans (hm x List.mem_cons_self) q2⟩
    refine ⟨nn.1, nn.2, fun h hb => ?_⟩
    obtain ⟨z1, z2⟩ := a3 h hb
    exact ends2_mem (rowAt_ent o.2.2.1 a1 z1 z2)
/-- h to h' as the words allow it -/
def Mv (ws : List Wd) (h h' : Nat → Int) : Prop := ∀ i, (ws[i]? = some .w_rises → h i ≤ h' i) ∧ (ws[i]? = some .w_falls → h' i ≤ h i)
theorem Mv.left {a b : List Wd} {h h' : Nat → Int} (m : Mv (a ++ b) h h') : Mv a h h' := fun i =>
  ⟨fun e => (m i).1 (by rw [List.getElem?_append_left (List.getElem?_eq_some_iff.mp e).1]; exact e), fun e => (m i).2 (by rw [List.getElem?_append_left (List.getElem?_eq_some_iff.mp e).1]; exact e)⟩
theorem Mv.right {a b : List Wd} {h h' : Nat → Int} {k : Nat} (m : Mv (a ++ b) h h') (hk : a.length = k) : Mv b (fun i => h (i + k)) fun i => h' (i + k) := fun i => by
  subst hk
  exact ⟨fun e => (m _).1 (by rw [List.getElem?_append_right (by omega), Nat.add_sub_cancel]; exact e), fun e => (m _).2 (by rw [List.getElem?_append_right (by omega), Nat.add_sub_cancel]; exact e)⟩
/-- a rule moves as its ways say: f, whether it falls -/
def MoveOk (tops : List Int) (r : R) : Prop := ∀ f h h', InB tops (br r) h → InB tops (br r) h' → Mv (words tops r false f) h h' → (f = false → val r h ≤ val r h') ∧ (f = true → val r h' ≤ val r h)
theorem move_one {N : Nat} (ht' : ∀ t ∈ tops, 0 ≤ t) {r k : R} (o : ok N r) (ok' : ok N k) (ek : kids r = [k]) (eb : br r = br k) (ev : ∀ h, val r h = mk r [val k h]) (ew : ∀ st f, words tops r st f = words tops k (st || isB (rng tops r).1 (rng tops r).2) (f != turn r)) (hk : MoveOk tops k) : MoveOk tops r := by
  intro f h h' b b' m
  obtain ⟨_, _, r3⟩ := rng_ok ht' r o
  obtain ⟨k1, _, k3⟩ := rng_ok ht' k ok'
  have x1 := r3 h b
  have x2 := r3 h' b'
  by_cases e : (rng tops r).1 = (rng tops r).2
  · exact ⟨fun _ => by omega, fun _ => by omega⟩
  · rw [ew] at m
    have e' : isB (rng tops r).1 (rng tops r).2 = false := decide_eq_false e
    rw [e', Bool.or_false] at m
    rw [eb] at b b'
    obtain ⟨m1, m2⟩ := hk (f != turn r) h h' b b' m
    have y1 := k3 h b
    have y2 := k3 h' b'
    rw [ev, ev]
    cases t : turn r with
    | false =>
      rw [t] at m1 m2
      refine ⟨fun hf => mk_mono o ek t (by omega) (m1 (by rw [hf]; rfl)), fun hf => mk_mono o ek t (by omega) (m2 (by rw [hf]; rfl))⟩
    | true =>
      rw [t] at m1 m2
      refine ⟨fun hf => mk_anti o ek t (m2 (by rw [hf]; rfl)), fun hf => mk_anti o ek t (m1 (by rw [hf]; rfl))⟩
theorem move_ok {N : Nat} (ht' : ∀ t ∈ tops, 0 ≤ t) : ∀ (r : R), ok N r → MoveOk tops r
  | .is c, o => fun f h h' _ _ _ => ⟨fun _ => Int.le_refl _, fun _ => Int.le_refl _⟩
  | .hear c, o => fun f h h' b b' m => by
    have x1 := b 0 c rfl
    have x2 := b' 0 c rfl
    simp only [words, Bool.false_or] at m
    have m0 := m 0
    simp only [List.getElem?_cons_zero, Option.some.injEq] at m0
    simp only [val]
    by_cases e : (0 : Int) = tops.getD c 0
    · exact ⟨fun _ => by omega, fun _ => by omega⟩
    · have e' : isB 0 (tops.getD c 0) = false := decide_eq_false e
      rw [e'] at m0
      cases f with
      | false => exact ⟨fun _ => m0.1 rfl, fun z => nomatch z⟩
      | true => exact ⟨fun z => (nomatch z), fun _ => m0.2 rfl⟩
  | .agg1 g r, o => move_one (r := .agg1 g r) (k := r) ht' o o rfl rfl (fun _ => rfl) (fun _ _ => rfl) (move_ok ht' r o)
  | .agg2 g r s, o => fun f h h' b b' m => by
    obtain ⟨_, _, r3⟩ := rng_ok ht' (.agg2 g r s) o
    have x1 := r3 h b
    have x2 := r3 h' b'
    by_cases e : (rng tops (.agg2 g r s)).1 = (rng tops (.agg2 g r s)).2
    · exact ⟨fun _ => by omega, fun _ => by omega⟩
    · have e' : isB (rng tops (.agg2 g r s)).1 (rng tops (.agg2 g r s)).2 = false := decide_eq_false e
      simp only [words, e', Bool.or_false, Bool.bne_false] at m
      obtain ⟨p1, p2⟩ := move_ok ht' r o.1 f h h' b.left b'.left m.left
      obtain ⟨q1, q2⟩ := move_ok ht' s o.2 f _ _ b.right b'.right (m.right (words_len tops r _ _))
      exact ⟨fun hf => g2_mono g (p1 hf) (q1 hf), fun hf => g2_mono g (p2 hf) (q2 hf)⟩
  | .mid r s t, o => fun f h h' b b' m => by
    obtain ⟨_, _, r3⟩ := rng_ok ht' (.mid r s t) o
    have x1 := r3 h b
    have x2 := r3 h' b'
    by_cases e : (rng tops (.mid r s t)).1 = (rng tops (.mid r s t)).2
    · exact ⟨fun _ => by omega, fun _ => by omega⟩
    · have e' : isB (rng tops (.mid r s t)).1 (rng tops (.mid r s t)).2 = false := decide_eq_false e
      simp only [words, e', Bool.or_false, Bool.bne_false] at m
      have b : InB tops (br r ++ (br s ++ br t)) h := b
      have b' : InB tops (br r ++ (br s ++ br t)) h' := b'
      obtain ⟨p1, p2⟩ := move_ok ht' r o.1 f h h' b.left b'.left m.left
      have mr := m.right (words_len tops r _ _)
      obtain ⟨q1, q2⟩ := move_ok ht' s o.2.1 f _ _ b.right.left b'.right.left mr.left
      obtain ⟨u1, u2⟩ := move_ok ht' t o.2.2 f _ _ b.right.right b'.right.right (mr.right (words_len tops s _ _))
      have ee : ∀ h : Nat → Int, (fun i => h (i + (br s).length + (br r).length)) = fun i => h (i + ((br r).length + (br s).length)) := fun h => by funext i; congr 1; omega
      rw [ee h, ee h'] at u1 u2
      exact ⟨fun hf => med_mono (p1 hf) (q1 hf) (u1 hf), fun hf => med_mono (p2 hf) (q2 hf) (u2 hf)⟩
  | .times k r, o => move_one (r := .times k r) ht' o o.2 rfl rfl (fun _ => rfl) (fun _ _ => rfl) (move_ok ht' r o.2)
  | .part k r, o => move_one (r := .part k r) ht' o o.2.2 rfl rfl (fun _ => rfl) (fun _ _ => rfl) (move_ok ht' r o.2.2)
  | .clip lo hi r, o => move_one (r := .clip lo hi r) ht' o o.2.2.2 rfl rfl (fun _ => rfl) (fun _ _ => rfl) (move_ok ht' r o.2.2.2)
  | .frm c r, o => move_one (r := .frm c r) ht' o o.2 rfl rfl (fun _ => rfl) (fun _ _ => rfl) (move_ok ht' r o.2)
  | .bar t lo hi r, o => move_one (r := .bar t lo hi r) ht' o o.2.2.2 rfl rfl (fun _ => rfl) (fun _ _ => rfl) (move_ok ht' r o.2.2.2)
  | .row ws r, o => move_one (r := .row ws r) ht' o o.2.2.2.2 rfl rfl (fun _ => rfl) (fun _ _ => rfl) (move_ok ht' r o.2.2.2.2)
end
end NB

set_option Elab.async false
set_option linter.all false
set_option maxRecDepth 100000
set_option maxHeartbeats 2000000
/-! A net's houses, its ends. -/
namespace NB
/-- a net as the law draws it -/
structure Net where
  tops : List Int
  rules : List R
structure Net.Ok (w : Net) : Prop where
  len : w.rules.length = w.tops.length
  pos : 0 < w.tops.length
  small : w.tops.length ≤ 5
  tp : ∀ t ∈ w.tops, 0 < t ∧ t ≤ 5
  rl : ∀ r ∈ w.rules, ok w.tops.length r ∧ ht r ≤ 4 ∧ (br r).length ≤ 1000
def Net.n (w : Net) : Nat := w.tops.length
def Net.top (w : Net) (j : Nat) : Int := w.tops.getD j 0
def Net.rule (w : Net) (j : Nat) : R := w.rules.getD j (.is 0)
def Net.want (w : Net) (j : Nat) (h : Nat → Int) : Int := mn2 (w.top j) (val (w.rule j) h)
def Net.hr (w : Net) (j : Nat) : Int × Int := (mn2 (rng w.tops (w.rule j)).1 (w.top j), mn2 (rng w.tops (w.rule j)).2 (w.top j))
def Net.hw (w : Net) (j : Nat) : List Wd := words w.tops (w.rule j) (isB (w.hr j).1 (w.hr j).2) false
section
variable {w : Net}
theorem Net.Ok.rk (o : w.Ok) {j : Nat} (hj : j < w.n) : ok w.n (w.rule j) ∧ ht (w.rule j) ≤ 4 ∧ (br (w.rule j)).length ≤ 1000 := by
  have hl : j < w.rules.length := by rw [o.len]; exact hj
  have e : w.rule j = w.rules[j] := by unfold Net.rule; rw [List.getD_eq_getElem?_getD, List.getElem?_eq_getElem hl]; rfl
  rw [e]
  exact o.rl _ (List.getElem_mem hl)
theorem Net.Ok.tpos (o : w.Ok) {j : Nat} (hj : j < w.n) : 0 < w.top j ∧ w.top j ≤ 5 := by
  have hl : j < w.tops.length := hj
  have e : w.top j = w.tops[j] := by unfold Net.top; rw [List.getD_eq_getElem?_getD, List.getElem?_eq_getElem hl]; rfl
  rw [e]
  exact o.tp _ (List.getElem_mem hl)
theorem Net.Ok.tnn (o : w.Ok) : ∀ t ∈ w.tops, 0 ≤ t := fun t h => by have := o.tp t h; omega
theorem br_lt {N : Nat} : ∀ (r : R), ok N r → ∀ c ∈ br r, c < N
  | .is c, o, x, hx => by simp [br] at hx
  | .hear c, o, x, hx => by simp only [br, List.mem_singleton] at hx; rw [hx]; exact o.1
  | .agg1 g r, o, x, hx => br_lt r o x hx
  | .agg2 g r s, o, x, hx => by
    rcases List.mem_append.mp hx with h | h
    · exact br_lt r o.1 x h
    · exact br_lt s o.2 x h
  | .mid r s t, o, x, hx => by
    rcases List.mem_append.mp hx with h | h
    · exact br_lt r o.1 x h
    · rcases List.mem_append.mp h with h | h
      · exact br_lt s o.2.1 x h
      · exact br_lt t o.2.2 x h
  | .times k r, o, x, hx => br_lt r o.2 x hx
  | .part k r, o, x, hx => br_lt r o.2.2 x hx
  | .clip lo hi r, o, x, hx => br_lt r o.2.2.2 x hx
  | .frm c r, o, x, hx => br_lt r o.2 x hx
  | .bar t lo hi r, o, x, hx => br_lt r o.2.2.2 x hx
  | .row ws r, o, x, hx => br_lt r o.2.2.2.2 x hx
theorem mn2_mono {a b c : Int} (h : b ≤ c) : mn2 a b ≤ mn2 a c := by
  have m1 := mn2_i a b
  have m2 := mn2_i a c
  omega
/-- a house moves as its ways say -/
theorem want_move (o : w.Ok) {j : Nat} (hj : j < w.n) {h h' : Nat → Int} (b : InB w.tops (br (w.rule j)) h) (b' : InB w.tops (br (w.rule j)) h') (m : Mv (w.hw j) h h') : w.want j h ≤ w.want j h' := by
  obtain ⟨ok', _⟩ := o.rk hj
  obtain ⟨r1, r2, r3⟩ := rng_ok o.tnn _ ok'
  have x1 := r3 h b
  have x2 := r3 h' b'
  unfold Net.want
  by_cases e : (w.hr j).1 = (w.hr j).2
  · have e : mn2 (rng w.tops (w.rule j)).1 (w.top j) = mn2 (rng w.tops (w.rule j)).2 (w.top j) := e
    have m1 := mn2_i (rng w.tops (w.rule j)).1 (w.top j)
    have m2 := mn2_i (rng w.tops (w.rule j)).2 (w.top j)
    have m3 := mn2_i (w.top j) (val (w.rule j) h)
    have m4 := mn2_i (w.top j) (val (w.rule j) h')
    omega
  · have e' : isB (w.hr j).1 (w.hr j).2 = false := decide_eq_false e
    unfold Net.hw at m
    rw [e'] at m
    exact mn2_mono ((move_ok o.tnn _ ok' false h h' b b' m).1 rfl)
/-- the heard numbers of an end: near, far -/
def hear2 (w : Net) (j : Nat) (near far : List Int) : Nat → Int := fun i => if (w.hw j)[i]? = some .w_falls then far.getD ((br (w.rule j)).getD i 0) 0 else near.getD ((br (w.rule j)).getD i 0) 0
def stepE (w : Net) (e : List Int × List Int) : List Int × List Int :=
  ((List.range w.n).map fun j => w.want j (hear2 w j e.1 e.2), (List.range w.n).map fun j => w.want j (hear2 w j e.2 e.1))
/-- a state within ends -/
def In (w : Net) (e : List Int × List Int) (s : Nat → Int) : Prop := ∀ j, j < w.n → e.1.getD j 0 ≤ s j ∧ s j ≤ e.2.getD j 0
structure EOk (w : Net) (e : List Int × List Int) : Prop where
  l1 : e.1.length = w.n
  l2 : e.2.length = w.n
  nn : ∀ j, j < w.n → 0 ≤ e.1.getD j 0 ∧ e.1.getD j 0 ≤ e.2.getD j 0 ∧ e.2.getD j 0 ≤ w.top j
theorem getD_map {f : Nat → Int} {n j : Nat} (h : j < n) : ((List.range n).map f).getD j 0 = f j := by
  rw [List.getD_eq_getElem?_getD, List.getElem?_map, List.getElem?_range h]
  rfl
theorem heard_in (o : w.Ok) {e : List Int × List Int} (E : EOk w e) {j : Nat} (hj : j < w.n) {s : Nat → Nat → Int} (hs : ∀ i, In w e (s i)) : InB w.tops (br (w.rule j)) (fun i => s i ((br (w.rule j)).getD i 0)) := by
  intro i c hc
  have lt := br_lt _ (o.rk hj).1 c (List.mem_of_getElem? hc)
  have e1 : (br (w.rule j)).getD i 0 = c := by rw [List.getD_eq_getElem?_getD, hc]; rfl
  show 0 ≤ s i ((br (w.rule j)).getD i 0) ∧ s i ((br (w.rule j)).getD i 0) ≤ w.tops.getD c 0
  rw [e1]
  have h1 := hs i c lt
  have h2 := E.nn c lt
  have h3 : w.top c = w.tops.getD c 0 := rfl
  omega
theorem hear2_in (o : w.Ok) {e : List Int × List Int} (E : EOk w e) {j : Nat} (hj : j < w.n) : InB w.tops (br (w.rule j)) (hear2 w j e.1 e.2) ∧ InB w.tops (br (w.rule j)) (hear2 w j e.2 e.1) := by
  constructor
  all_goals
    intro i c hc
    have lt := br_lt _ (o.rk hj).1 c (List.mem_of_getElem? hc)
    have e1 : (br (w.rule j)).getD i 0 = c := by rw [List.getD_eq_getElem?_getD, hc]; rfl
    have h2 := E.nn c lt
    have h3 : w.top c = w.tops.getD c 0 := rfl
    unfold hear2
    rw [e1]
    split <;> omega
/-- what is heard within the ends is wanted within the next ends -/
theorem step_in (o : w.Ok) {e : List Int × List Int} (E : EOk w e) {j : Nat} (hj : j < w.n) {s : Nat → Nat → Int} (hs : ∀ i, In w e (s i)) :
    (stepE w e).1.getD j 0 ≤ w.want j (fun i => s i ((br (w.rule j)).getD i 0)) ∧ w.want j (fun i => s i ((br (w.rule j)).getD i 0)) ≤ (stepE w e).2.getD j 0 := by
  have b := heard_in o E hj hs
  obtain ⟨b1, b2⟩ := hear2_in o E hj
  unfold stepE
  rw [getD_map hj, getD_map hj]
  have wl : (w.hw j).length = (br (w.rule j)).length := words_len _ _ _ _
  have lt : ∀ i w', (w.hw j)[i]? = some w' → (br (w.rule j)).getD i 0 < w.n := fun i w' q => by
    have hi := (List.getElem?_eq_some_iff.mp q).1
    rw [wl] at hi
    rw [List.getD_eq_getElem?_getD, List.getElem?_eq_getElem hi]
    exact br_lt _ (o.rk hj).1 _ (List.getElem_mem hi)
  constructor
  · refine want_move o hj b1 b fun i => ⟨fun q => ?_, fun q => ?_⟩
    · have h1 := hs i _ (lt i _ q)
      unfold hear2
      rw [q, if_neg (by decide)]
      exact h1.1
    · have h1 := hs i _ (lt i _ q)
      unfold hear2
      rw [q, if_pos rfl]
      exact h1.2
  · refine want_move o hj b b2 fun i => ⟨fun q => ?_, fun q => ?_⟩
    · have h1 := hs i _ (lt i _ q)
      unfold hear2
      rw [q, if_neg (by decide)]
      exact h1.2
    · have h1 := hs i _ (lt i _ q)
      unfold hear2
      rw [q, if_pos rfl]
      exact h1.1
theorem want_top (o : w.Ok) {j : Nat} (hj : j < w.n) {h : Nat → Int} (hp : ∀ i, 0 ≤ h i) : 0 ≤ w.want j h ∧ w.want j h ≤ w.top j := by
  have h1 := val_nn _ h (o.rk hj).1 hp
  have h2 := o.tpos hj
  have m := mn2_i (w.top j) (val (w.rule j) h)
  unfold Net.want
  omega
/-- the ends within ends -/
def Sub (w : Net) (e f : List Int × List Int) : Prop := ∀ j, j < w.n → f.1.getD j 0 ≤ e.1.getD j 0 ∧ e.2.getD j 0 ≤ f.2.getD j 0
theorem Sub.inn {e f : List Int × List Int} (h : Sub w e f) {s : Nat → Int} (i : In w e s) : In w f s := fun j hj => by
  have h1 := h j hj
  have h2 := i j hj
  omega
theorem step_ok (o : w.Ok) {e : List Int × List Int} (E : EOk w e) (sub : Sub w (stepE w e) e) : EOk w (stepE w e) ∧ Sub w (stepE w (stepE w e)) (stepE w e) := by
  have E1 : EOk w (stepE w e) := by
    refine ⟨by unfold stepE; simp, by unfold stepE; simp, fun j hj => ?_⟩
    have h1 := sub j hj
    have h2 := E.nn j hj
    have hl : In w e fun c => e.1.getD c 0 := fun c hc => ⟨Int.le_refl _, (E.nn c hc).2.1⟩
    have h3 := step_in o E hj (s := fun _ c => e.1.getD c 0) fun _ => hl
    omega
  refine ⟨E1, fun j hj => ?_⟩
  -- the ends' own hearing lies within them
  have hear_sub : ∀ (near far : List Int), (∀ c, c < w.n → (stepE w e).1.getD c 0 ≤ near.getD c 0 ∧ near.getD c 0 ≤ (stepE w e).2.getD c 0) → (∀ c, c < w.n → (stepE w e).1.getD c 0 ≤ far.getD c 0 ∧ far.getD c 0 ≤ (stepE w e).2.getD c 0) →
      (stepE w e).1.getD j 0 ≤ w.want j (hear2 w j near far) ∧ w.want j (hear2 w j near far) ≤ (stepE w e).2.getD j 0 := fun near far hn hf => by
    have q := step_in o E hj (s := fun i c => if (w.hw j)[i]? = some .w_falls then far.getD c 0 else near.getD c 0) fun i c hc => by
      have s1 := sub c hc
      have n1 := hn c hc
      have f1 := hf c hc
      dsimp only
      split <;> omega
    exact q
  have nn := E1.nn
  have lo : ∀ c, c < w.n → (stepE w e).1.getD c 0 ≤ (stepE w e).1.getD c 0 ∧ (stepE w e).1.getD c 0 ≤ (stepE w e).2.getD c 0 := fun c hc => ⟨Int.le_refl _, (nn c hc).2.1⟩
  have hi : ∀ c, c < w.n → (stepE w e).1.getD c 0 ≤ (stepE w e).2.getD c 0 ∧ (stepE w e).2.getD c 0 ≤ (stepE w e).2.getD c 0 := fun c hc => ⟨(nn c hc).2.1, Int.le_refl _⟩
  have q1 := hear_sub _ _ lo hi
  have q2 := hear_sub _ _ hi lo
  have e1 : (stepE w (stepE w e)).1.getD j 0 = w.want j (hear2 w j (stepE w e).1 (stepE w e).2) := getD_map hj
  have e2 : (stepE w (stepE w e)).2.getD j 0 = w.want j (hear2 w j (stepE w e).2 (stepE w e).1) := getD_map hj
  rw [e1, e2]
  exact ⟨q1.1, q2.2⟩
def firstE (w : Net) : List Int × List Int := (List.replicate w.n 0, w.tops)
theorem first_ok (o : w.Ok) : EOk w (firstE w) ∧ Sub w (stepE w (firstE w)) (firstE w) := by
  have z : ∀ j, (List.replicate w.n (0 : Int)).getD j 0 = 0 := fun j => by
    rw [List.getD_eq_getElem?_getD, List.getElem?_replicate]
    split <;> rfl
  have E : EOk w (firstE w) := ⟨by unfold firstE; simp, rfl, fun j hj => by
    have h := o.tpos hj
    have e : (firstE w).2.getD j 0 = w.top j := rfl
    have e2 : (firstE w).1.getD j 0 = 0 := z j
    rw [e, e2]
    omega⟩
  refine ⟨E, fun j hj => ?_⟩
  have hh : ∀ near far : List Int, (∀ c, 0 ≤ near.getD c 0) → (∀ c, 0 ≤ far.getD c 0) → ∀ i, 0 ≤ hear2 w j near far i := fun near far h1 h2 i => by
    unfold hear2
    split
    · exact h2 _
    · exact h1 _
  have n1 : ∀ c, 0 ≤ (firstE w).1.getD c 0 := fun c => by
    show 0 ≤ (List.replicate w.n (0 : Int)).getD c 0
    rw [z]
    exact Int.le_refl _
  have n2 : ∀ c, 0 ≤ (firstE w).2.getD c 0 := fun c => by
    show 0 ≤ w.tops.getD c 0
    rw [List.getD_eq_getElem?_getD]
    cases e : w.tops[c]? with
    | none => exact Int.le_refl _
    | some t => exact o.tnn t (List.mem_of_getElem? e)
  have q1 := want_top o hj (hh _ _ n1 n2)
  have q2 := want_top o hj (hh _ _ n2 n1)
  have e1 : (stepE w (firstE w)).1.getD j 0 = w.want j (hear2 w j (firstE w).1 (firstE w).2) := getD_map hj
  have e2 : (stepE w (firstE w)).2.getD j 0 = w.want j (hear2 w j (firstE w).2 (firstE w).1) := getD_map hj
  have e3 : (firstE w).1.getD j 0 = 0 := z j
  have e4 : (firstE w).2.getD j 0 = w.top j := rfl
  rw [e1, e2, e3, e4]
  exact ⟨q1.1, q2.2⟩
end
end NB

set_option Elab.async false
set_option linter.all false
set_option maxRecDepth 100000
set_option maxHeartbeats 2000000
/-! The law's own reading of rules. -/
namespace NB
theorem val_congr : ∀ (r : R) (h h' : Nat → Int), (∀ i, i < (br r).length → h i = h' i) → val r h = val r h'
  | .is c, _, _, _ => rfl
  | .hear c, h, h', e => e 0 (by simp [br])
  | .agg1 g r, h, h', e => val_congr r h h' e
  | .agg2 g r s, h, h', e => by
    simp only [br, List.length_append] at e
    simp only [val]
    rw [val_congr r h h' fun i hi => e i (by omega), val_congr s _ (fun i => h' (i + (br r).length)) fun i hi => e _ (by omega)]
  | .mid r s t, h, h', e => by
    simp only [br, List.length_append] at e
    simp only [val]
    rw [val_congr r h h' fun i hi => e i (by omega), val_congr s _ (fun i => h' (i + (br r).length)) fun i hi => e _ (by omega), val_congr t _ (fun i => h' (i + ((br r).length + (br s).length))) fun i hi => e _ (by omega)]
  | .times k r, h, h', e => by simp only [val]; rw [val_congr r h h' e]
  | .part k r, h, h', e => by simp only [val]; rw [val_congr r h h' e]
  | .clip lo hi r, h, h', e => by simp only [val]; rw [val_congr r h h' e]
  | .frm c r, h, h', e => by simp only [val]; rw [val_congr r h h' e]
  | .bar t lo hi r, h, h', e => by simp only [val]; rw [val_congr r h h' e]
  | .row ws r, h, h', e => by simp only [val]; rw [val_congr r h h' e]
theorem l_parts_ok (n : Nat) (δ : Dl) (r : R) : callF (n + 1) .l_parts [toD r] δ = some (.lst ((kids r).map toD), δ) := by
  apply call_rt (by decide) rfl
  cases r
  case agg1 g r => cases g <;> simp [F.body, b_l_parts, toD, kids, atD, cutD, cutAt, G.w, exec, evE, evL, evO, evT, evI, evM, evPar, view, Sl.full, Sl.hide, evIsi, blOf, intOf, wdOf, seqOf, intsOf, blsOf, wdsOf, evBin, ii, evEq, evAdd, evMul, evFdiv, evIs, evIn, evIx, evSl, evB, seq1, lst1, int2, evMM, evSort, fitN, eqD, eqDs, isFresh, flat, flats, setAll, asgS, asg, F.ns, F.np, List.replicate_succ, List.replicate_zero, List.map_cons, List.map_nil]
  case agg2 g r s => cases g <;> simp [F.body, b_l_parts, toD, kids, atD, cutD, cutAt, G.w, exec, evE, evL, evO, evT, evI, evM, evPar, view, Sl.full, Sl.hide, evIsi, blOf, intOf, wdOf, seqOf, intsOf, blsOf, wdsOf, evBin, ii, evEq, evAdd, evMul, evFdiv, evIs, evIn, evIx, evSl, evB, seq1, lst1, int2, evMM, evSort, fitN, eqD, eqDs, isFresh, flat, flats, setAll, asgS, asg, F.ns, F.np, List.replicate_succ, List.replicate_zero, List.map_cons, List.map_nil]
  all_goals simp [F.body, b_l_parts, toD, kids, atD, cutD, cutAt, exec, evE, evL, evO, evT, evI, evM, evPar, view, Sl.full, Sl.hide, evIsi, blOf, intOf, wdOf, seqOf, intsOf, blsOf, wdsOf, evBin, ii, evEq, evAdd, evMul, evFdiv, evIs, evIn, evIx, evSl, evB, seq1, lst1, int2, evMM, evSort, fitN, eqD, eqDs, isFresh, flat, flats, setAll, asgS, asg, F.ns, F.np, List.replicate_succ, List.replicate_zero, List.map_cons, List.map_nil]
def brL (r : R) : D := .lst (brD r)
theorem l_br0 {n : Nat} {δ : Dl} {d : D} {w : Wd} {rest : List D} (e : d = .tup (.str w :: rest)) (w2 : w ≠ .w_hear) (hp : callF n .l_parts [d] δ = some (.lst [], δ)) : callF (n + 1) .l_branches [d] δ = some (.lst [], δ) := by
  apply call_rt (by decide) rfl
  subst e
  simp [F.body, b_l_branches, atD0, w2, hp, forGo, exec, evE, evL, evO, evT, evI, evM, evPar, view, Sl.full, Sl.hide, evIsi, blOf, intOf, wdOf, seqOf, intsOf, blsOf, wdsOf, evBin, ii, evEq, evAdd, evMul, evFdiv, evIs, evIn, evIx, evSl, evB, seq1, lst1, int2, evMM, evSort, fitN, eqD, eqDs, isFresh, flat, flats, setAll, asgS, asg, F.ns, F.np, List.replicate_succ, List.replicate_zero, List.map_cons, List.map_nil]
theorem l_br1 {n : Nat} {δ : Dl} {d p : D} {w : Wd} {rest l1 : List D} (e : d = .tup (.str w :: rest)) (w2 : w ≠ .w_hear) (hp : callF n .l_parts [d] δ = some (.lst [p], δ)) (h1 : callF n .l_branches [p] δ = some (.lst l1, δ)) (z : l1.length ≤ 100000) : callF (n + 1) .l_branches [d] δ = some (.lst l1, δ) := by
  apply call_rt (by decide) rfl
  subst e
  simp [F.body, b_l_branches, atD0, w2, hp, h1, z, forGo, exec, evE, evL, evO, evT, evI, evM, evPar, view, Sl.full, Sl.hide, evIsi, blOf, intOf, wdOf, seqOf, intsOf, blsOf, wdsOf, evBin, ii, evEq, evAdd, evMul, evFdiv, evIs, evIn, evIx, evSl, evB, seq1, lst1, int2, evMM, evSort, fitN, eqD, eqDs, isFresh, flat, flats, setAll, asgS, asg, F.ns, F.np, List.replicate_succ, List.replicate_zero, List.map_cons, List.map_nil]
theorem l_br2 {n : Nat} {δ : Dl} {d p q : D} {w : Wd} {rest l1 l2 : List D} (e : d = .tup (.str w :: rest)) (w2 : w ≠ .w_hear) (hp : callF n .l_parts [d] δ = some (.lst [p, q], δ)) (h1 : callF n .l_branches [p] δ = some (.lst l1, δ)) (h2 : callF n .l_branches [q] δ = some (.lst l2, δ))
    (z : l1.length + l2.length ≤ 100000) : callF (n + 1) .l_branches [d] δ = some (.lst (l1 ++ l2), δ) := by
  have z1 : l1.length ≤ 100000 := by omega
  apply call_rt (by decide) rfl
  subst e
  simp [F.body, b_l_branches, atD0, w2, hp, h1, h2, z, z1, forGo, exec, evE, evL, evO, evT, evI, evM, evPar, view, Sl.full, Sl.hide, evIsi, blOf, intOf, wdOf, seqOf, intsOf, blsOf, wdsOf, evBin, ii, evEq, evAdd, evMul, evFdiv, evIs, evIn, evIx, evSl, evB, seq1, lst1, int2, evMM, evSort, fitN, eqD, eqDs, isFresh, flat, flats, setAll, asgS, asg, F.ns, F.np, List.replicate_succ, List.replicate_zero, List.map_cons, List.map_nil]
theorem l_br3 {n : Nat} {δ : Dl} {d p q r : D} {w : Wd} {rest l1 l2 l3 : List D} (e : d = .tup (.str w :: rest)) (w2 : w ≠ .w_hear) (hp : callF n .l_parts [d] δ = some (.lst [p, q, r], δ)) (h1 : callF n .l_branches [p] δ = some (.lst l1, δ)) (h2 : callF n .l_branches [q] δ = some (.lst l2, δ)) (h3 : callF n .l_branches [r] δ = some (.lst l3, δ))
    (z : l1.length + (l2.length + l3.length) ≤ 100000) : callF (n + 1) .l_branches [d] δ = some (.lst (l1 ++ (l2 ++ l3)), δ) := by
  have z1 : l1.length ≤ 100000 := by omega
  have z2 : l1.length + l2.length ≤ 100000 := by omega
  have z3 : l1.length + l2.length + l3.length ≤ 100000 := by omega
  apply call_rt (by decide) rfl
  subst e
  simp [F.body, b_l_branches, atD0, w2, hp, h1, h2, h3, z1, z2, z3, forGo, exec, evE, evL, evO, evT, evI, evM, evPar, view, Sl.full, Sl.hide, evIsi, blOf, intOf, wdOf, seqOf, intsOf, blsOf, wdsOf, evBin, ii, evEq, evAdd, evMul, evFdiv, evIs, evIn, evIx, evSl, evB, seq1, lst1, int2, evMM, evSort, fitN, eqD, eqDs, isFresh, flat, flats, setAll, asgS, asg, F.ns, F.np, List.replicate_succ, List.replicate_zero, List.map_cons, List.map_nil]
theorem l_branches_ok {N : Nat} (δ : Dl) : ∀ (m : Nat) (r : R), ok N r → (br r).length ≤ 100000 → ht r + 2 ≤ m → callF m .l_branches [toD r] δ = some (.lst (brD r), δ) := by
  intro m
  induction m with
  | zero => intro r _ _ h; omega
  | succ n ih =>
    intro r o hl hm
    obtain ⟨j, rfl⟩ : ∃ j, n = j + 1 := ⟨n - 1, by omega⟩
    have par := l_parts_ok j δ r
    have one : ∀ k, kids r = [k] → br r = br k → (∃ w rest, toD r = .tup (.str w :: rest) ∧ w ≠ .w_hear) → callF (j + 1 + 1) .l_branches [toD r] δ = some (.lst (brD r), δ) := fun k ek eb ⟨w, rest, e1, e2⟩ => by
      have ko := kids_ok o k (by rw [ek]; simp)
      have par' : callF (j + 1) .l_parts [toD r] δ = some (.lst [toD k], δ) := by rw [par, ek]; rfl
      have q := ih k ko.1 (by omega) (by have := ko.2.1; omega)
      have eb' : brD r = brD k := by unfold brD; rw [eb]
      rw [eb']
      exact l_br1 (n := j + 1) e1 e2 par' q (by rw [brD_len]; omega)
    cases r
    case is c => exact l_br0 (n := j + 1) (d := toD (.is c)) rfl (by decide) par
    case hear c =>
      apply call_rt (by decide) rfl
      simp only [toD, kids, List.map_nil] at par
      simp [F.body, b_l_branches, toD, atD0, atD1, brD, br, par, forGo, exec, evE, evL, evO, evT, evI, evM, evPar, view, Sl.full, Sl.hide, evIsi, blOf, intOf, wdOf, seqOf, intsOf, blsOf, wdsOf, evBin, ii, evEq, evAdd, evMul, evFdiv, evIs, evIn, evIx, evSl, evB, seq1, lst1, int2, evMM, evSort, fitN, eqD, eqDs, isFresh, flat, flats, setAll, asgS, asg, F.ns, F.np, List.replicate_succ, List.replicate_zero, List.map_cons, List.map_nil]
    case agg1 g r => exact one r rfl rfl ⟨_, _, rfl, (gw_ne g).2⟩
    case agg2 g r s =>
      have k1 := kids_ok o r (by simp [kids])
      have k2 := kids_ok o s (by simp [kids])
      simp only [br, List.length_append] at hl
      have z := l_br2 (n := j + 1) (d := toD (.agg2 g r s)) rfl (gw_ne g).2 par (ih r k1.1 (by omega) (by have := k1.2.1; omega)) (ih s k2.1 (by omega) (by have := k2.2.1; omega)) (by rw [brD_len, brD_len]; exact hl)
      rw [z]
      simp [brD, br]
    case mid r s t =>
      have k1 := kids_ok o r (by simp [kids])
      have k2 := kids_ok o s (by simp [kids])
      have k3 := kids_ok o t (by simp [kids])
      simp only [br, List.length_append] at hl
      have z := l_br3 (n := j + 1) (d := toD (.mid r s t)) rfl (by decide) par (ih r k1.1 (by omega) (by have := k1.2.1; omega)) (ih s k2.1 (by omega) (by have := k2.2.1; omega)) (ih t k3.1 (by omega) (by have := k3.2.1; omega)) (by rw [brD_len, brD_len, brD_len]; exact hl)
      rw [z]
      simp [brD, br]
    case times k r => exact one r rfl rfl ⟨_, _, rfl, by decide⟩
    case part k r => exact one r rfl rfl ⟨_, _, rfl, by decide⟩
    case clip lo hi r => exact one r rfl rfl ⟨_, _, rfl, by decide⟩
    case frm c r => exact one r rfl rfl ⟨_, _, rfl, by decide⟩
    case bar t lo hi r => exact one r rfl rfl ⟨_, _, rfl, by decide⟩
    case row ws r => exact one r rfl rfl ⟨_, _, rfl, by decide⟩
theorem l_row {ws : List Int} {v : Int} (h0 : 0 ≤ v) (h1 : 0 < ws.length) : (if v < ws.length then atD (ws.map .int) v else atD (ws.map .int) (-1)) = some (.int (rowAt ws v)) := by
  rw [← atD_row h0 h1]
  by_cases h : v < ws.length
  · rw [if_pos h]
    congr 1
    unfold mn2
    split <;> omega
  · rw [if_neg h]
    have e : mn2 v ((ws.length : Int) - 1) = (ws.length : Int) - 1 := by unfold mn2; split <;> omega
    rw [e]
    unfold atD
    rw [if_neg (by decide), if_pos (by rw [List.length_map]; omega), if_pos (by omega), List.length_map]
    congr 1
    try omega
theorem mn2_is (a b : Int) : mn2 a b ≤ a ∧ mn2 a b ≤ b ∧ (mn2 a b = a ∨ mn2 a b = b) := by unfold mn2; split <;> omega
theorem mx2_is (a b : Int) : a ≤ mx2 a b ∧ b ≤ mx2 a b ∧ (mx2 a b = a ∨ mx2 a b = b) := by unfold mx2; split <;> omega
theorem clip_a {lo hi a : Int} {r : R} (k : lo ≤ hi) (q : a < lo) : mk (.clip lo hi r) [a] = lo := by
  have h1 := mn2_is (mx2 a lo) hi
  have h2 := mx2_is a lo
  simp only [mk]
  omega
theorem clip_b {lo hi a : Int} {r : R} (k : lo ≤ hi) (q : ¬ a < lo) (p : hi < a) : mk (.clip lo hi r) [a] = hi := by
  have h1 := mn2_is (mx2 a lo) hi
  have h2 := mx2_is a lo
  simp only [mk]
  omega
theorem clip_c {lo hi a : Int} {r : R} (k : lo ≤ hi) (q : ¬ a < lo) (p : ¬ hi < a) : mk (.clip lo hi r) [a] = a := by
  have h1 := mn2_is (mx2 a lo) hi
  have h2 := mx2_is a lo
  simp only [mk]
  omega
theorem l_made_ok (n : Nat) (δ : Dl) {N : Nat} {r : R} (h : ok N r) {as : List Int} (hl : as.length = (kids r).length) (hk : as ≠ []) (h0 : ∀ a ∈ as, 0 ≤ a) : callF (n + 1) .l_made [toD r, .lst (as.map .int)] δ = some (.int (mk r as), δ) := by
  apply call_rt (by decide) rfl
  cases r
  case is c => simp only [kids, List.length_nil] at hl; exact absurd (List.length_eq_zero_iff.mp hl) hk
  case hear c => simp only [kids, List.length_nil] at hl; exact absurd (List.length_eq_zero_iff.mp hl) hk
  case agg1 g r =>
    obtain ⟨a, rfl⟩ := List.length_eq_one_iff.mp (show as.length = 1 from hl)
    cases g <;> simp [F.body, b_l_made, toD, atD0, atD1, mk, minL, maxL, G.w, exec, evE, evL, evO, evT, evI, evM, evPar, view, Sl.full, Sl.hide, evIsi, blOf, intOf, wdOf, seqOf, intsOf, blsOf, wdsOf, evBin, ii, evEq, evAdd, evMul, evFdiv, evIs, evIn, evIx, evSl, evB, seq1, lst1, int2, evMM, evSort, fitN, eqD, eqDs, isFresh, flat, flats, setAll, asgS, asg, F.ns, F.np, List.replicate_succ, List.replicate_zero, List.map_cons, List.map_nil]
  case agg2 g r s =>
    obtain ⟨a, b, rfl⟩ := len2 (show as.length = 2 from hl)
    cases g <;> simp [F.body, b_l_made, toD, atD0, atD1, mk, g2, mn2, mx2, minL, maxL, G.w, exec, evE, evL, evO, evT, evI, evM, evPar, view, Sl.full, Sl.hide, evIsi, blOf, intOf, wdOf, seqOf, intsOf, blsOf, wdsOf, evBin, ii, evEq, evAdd, evMul, evFdiv, evIs, evIn, evIx, evSl, evB, seq1, lst1, int2, evMM, evSort, fitN, eqD, eqDs, isFresh, flat, flats, setAll, asgS, asg, F.ns, F.np, List.replicate_succ, List.replicate_zero, List.map_cons, List.map_nil]
  case mid r s t =>
    obtain ⟨a, b, c, rfl⟩ := len3 (show as.length = 3 from hl)
    have q := med_at a b c
    simp [F.body, b_l_made, toD, mk, atD0, atD1, exec, evE, evL, evO, evT, evI, evM, evPar, view, Sl.full, Sl.hide, evIsi, blOf, intOf, wdOf, seqOf, intsOf, blsOf, wdsOf, evBin, ii, evEq, evAdd, evMul, evFdiv, evIs, evIn, evIx, evSl, evB, seq1, lst1, int2, evMM, evSort, fitN, eqD, eqDs, isFresh, flat, flats, setAll, asgS, asg, F.ns, F.np, List.replicate_succ, List.replicate_zero, List.map_cons, List.map_nil]
    simp [atD0, atD1, q]
  case times k r =>
    obtain ⟨a, rfl⟩ := List.length_eq_one_iff.mp (show as.length = 1 from hl)
    have k0 := h.1.1
    have k1 := h.1.2
    have hk : -18446744073709551616 < k ∧ k < 18446744073709551616 := ⟨by omega, by omega⟩
    simp [F.body, b_l_made, toD, atD0, atD1, mk, hk, exec, evE, evL, evO, evT, evI, evM, evPar, view, Sl.full, Sl.hide, evIsi, blOf, intOf, wdOf, seqOf, intsOf, blsOf, wdsOf, evBin, ii, evEq, evAdd, evMul, evFdiv, evIs, evIn, evIx, evSl, evB, seq1, lst1, int2, evMM, evSort, fitN, eqD, eqDs, isFresh, flat, flats, setAll, asgS, asg, F.ns, F.np, List.replicate_succ, List.replicate_zero, List.map_cons, List.map_nil]
  case part k r =>
    obtain ⟨a, rfl⟩ := List.length_eq_one_iff.mp (show as.length = 1 from hl)
    have k0 := h.1.1
    have k1 := h.1.2
    have k2 := h.2.1
    have hk : ¬ k = 0 ∧ k.natAbs < 1073741824 := ⟨by omega, by omega⟩
    simp [F.body, b_l_made, toD, atD0, atD1, mk, hk, exec, evE, evL, evO, evT, evI, evM, evPar, view, Sl.full, Sl.hide, evIsi, blOf, intOf, wdOf, seqOf, intsOf, blsOf, wdsOf, evBin, ii, evEq, evAdd, evMul, evFdiv, evIs, evIn, evIx, evSl, evB, seq1, lst1, int2, evMM, evSort, fitN, eqD, eqDs, isFresh, flat, flats, setAll, asgS, asg, F.ns, F.np, List.replicate_succ, List.replicate_zero, List.map_cons, List.map_nil]
  case clip lo hi r =>
    obtain ⟨a, rfl⟩ := List.length_eq_one_iff.mp (show as.length = 1 from hl)
    have k2 := h.2.2.1
    by_cases q1 : a < lo
    · have e : mk (.clip lo hi r) [a] = lo := clip_a k2 q1
      rw [e]
      simp [F.body, b_l_made, toD, atD, q1, exec, evE, evL, evO, evT, evI, evM, evPar, view, Sl.full, Sl.hide, evIsi, blOf, intOf, wdOf, seqOf, intsOf, blsOf, wdsOf, evBin, ii, evEq, evAdd, evMul, evFdiv, evIs, evIn, evIx, evSl, evB, seq1, lst1, int2, evMM, evSort, fitN, eqD, eqDs, isFresh, flat, flats, setAll, asgS, asg, F.ns, F.np, List.replicate_succ, List.replicate_zero, List.map_cons, List.map_nil]
    · by_cases q2 : hi < a
      · have e : mk (.clip lo hi r) [a] = hi := clip_b k2 q1 q2
        rw [e]
        simp [F.body, b_l_made, toD, atD, q1, q2, exec, evE, evL, evO, evT, evI, evM, evPar, view, Sl.full, Sl.hide, evIsi, blOf, intOf, wdOf, seqOf, intsOf, blsOf, wdsOf, evBin, ii, evEq, evAdd, evMul, evFdiv, evIs, evIn, evIx, evSl, evB, seq1, lst1, int2, evMM, evSort, fitN, eqD, eqDs, isFresh, flat, flats, setAll, asgS, asg, F.ns, F.np, List.replicate_succ, List.replicate_zero, List.map_cons, List.map_nil]
      · have e : mk (.clip lo hi r) [a] = a := clip_c k2 q1 q2
        rw [e]
        simp [F.body, b_l_made, toD, atD, q1, q2, exec, evE, evL, evO, evT, evI, evM, evPar, view, Sl.full, Sl.hide, evIsi, blOf, intOf, wdOf, seqOf, intsOf, blsOf, wdsOf, evBin, ii, evEq, evAdd, evMul, evFdiv, evIs, evIn, evIx, evSl, evB, seq1, lst1, int2, evMM, evSort, fitN, eqD, eqDs, isFresh, flat, flats, setAll, asgS, asg, F.ns, F.np, List.replicate_succ, List.replicate_zero, List.map_cons, List.map_nil]
  case frm c r =>
    obtain ⟨a, rfl⟩ := List.length_eq_one_iff.mp (show as.length = 1 from hl)
    by_cases q1 : a < c
    · have e : mk (.frm c r) [a] = c - a := by simp only [mk, mx2]; rw [if_pos (by omega)]
      rw [e]
      simp [F.body, b_l_made, toD, atD0, atD1, q1, exec, evE, evL, evO, evT, evI, evM, evPar, view, Sl.full, Sl.hide, evIsi, blOf, intOf, wdOf, seqOf, intsOf, blsOf, wdsOf, evBin, ii, evEq, evAdd, evMul, evFdiv, evIs, evIn, evIx, evSl, evB, seq1, lst1, int2, evMM, evSort, fitN, eqD, eqDs, isFresh, flat, flats, setAll, asgS, asg, F.ns, F.np, List.replicate_succ, List.replicate_zero, List.map_cons, List.map_nil]
    · have e : mk (.frm c r) [a] = 0 := by simp only [mk, mx2]; split <;> omega
      rw [e]
      simp [F.body, b_l_made, toD, atD0, atD1, q1, exec, evE, evL, evO, evT, evI, evM, evPar, view, Sl.full, Sl.hide, evIsi, blOf, intOf, wdOf, seqOf, intsOf, blsOf, wdsOf, evBin, ii, evEq, evAdd, evMul, evFdiv, evIs, evIn, evIx, evSl, evB, seq1, lst1, int2, evMM, evSort, fitN, eqD, eqDs, isFresh, flat, flats, setAll, asgS, asg, F.ns, F.np, List.replicate_succ, List.replicate_zero, List.map_cons, List.map_nil]
  case bar t lo hi r =>
    obtain ⟨a, rfl⟩ := List.length_eq_one_iff.mp (show as.length = 1 from hl)
    by_cases q : t ≤ a <;> simp [F.body, b_l_made, toD, atD, mk, q, exec, evE, evL, evO, evT, evI, evM, evPar, view, Sl.full, Sl.hide, evIsi, blOf, intOf, wdOf, seqOf, intsOf, blsOf, wdsOf, evBin, ii, evEq, evAdd, evMul, evFdiv, evIs, evIn, evIx, evSl, evB, seq1, lst1, int2, evMM, evSort, fitN, eqD, eqDs, isFresh, flat, flats, setAll, asgS, asg, F.ns, F.np, List.replicate_succ, List.replicate_zero, List.map_cons, List.map_nil]
  case row ws r =>
    obtain ⟨a, rfl⟩ := List.length_eq_one_iff.mp (show as.length = 1 from hl)
    have q := l_row (ws := ws) (h0 a (by simp)) h.2.2.1
    by_cases q1 : a < ws.length
    · rw [if_pos q1] at q
      simp [F.body, b_l_made, toD, mk, atD0, atD1, q1, exec, evE, evL, evO, evT, evI, evM, evPar, view, Sl.full, Sl.hide, evIsi, blOf, intOf, wdOf, seqOf, intsOf, blsOf, wdsOf, evBin, ii, evEq, evAdd, evMul, evFdiv, evIs, evIn, evIx, evSl, evB, seq1, lst1, int2, evMM, evSort, fitN, eqD, eqDs, isFresh, flat, flats, setAll, asgS, asg, F.ns, F.np, List.replicate_succ, List.replicate_zero, List.map_cons, List.map_nil]
      simp [q]
    · rw [if_neg q1] at q
      simp [F.body, b_l_made, toD, mk, atD0, atD1, q1, exec, evE, evL, evO, evT, evI, evM, evPar, view, Sl.full, Sl.hide, evIsi, blOf, intOf, wdOf, seqOf, intsOf, blsOf, wdsOf, evBin, ii, evEq, evAdd, evMul, evFdiv, evIs, evIn, evIx, evSl, evB, seq1, lst1, int2, evMM, evSort, fitN, eqD, eqDs, isFresh, flat, flats, setAll, asgS, asg, F.ns, F.np, List.replicate_succ, List.replicate_zero, List.map_cons, List.map_nil]
      simp [q]
end NB

set_option Elab.async false
set_option linter.all false
set_option maxRecDepth 100000
set_option maxHeartbeats 2000000
/-! The rounds of the ends. -/
namespace NB
section
variable {w : Net}
def gapS (w : Net) (e : List Int × List Int) : Nat := ((List.range w.n).map fun j => (e.2.getD j 0 - e.1.getD j 0).toNat).sum
theorem sum_le : ∀ (l : List Nat) (f g : Nat → Nat), (∀ x ∈ l, f x ≤ g x) → (l.map f).sum ≤ (l.map g).sum
  | [], _, _, _ => Nat.le_refl _
  | a :: l, f, g, h => by
    have h1 := h a List.mem_cons_self
    have h2 := sum_le l f g fun x hx => h x (List.mem_cons_of_mem _ hx)
    simp only [List.map_cons, List.sum_cons]
    omega
theorem sum_lt : ∀ (l : List Nat) (f g : Nat → Nat), (∀ x ∈ l, f x ≤ g x) → (∃ x ∈ l, f x < g x) → (l.map f).sum < (l.map g).sum
  | [], _, _, _, ⟨_, h, _⟩ => nomatch h
  | a :: l, f, g, h, ⟨x, hx, hl⟩ => by
    have h1 := h a List.mem_cons_self
    have h2 := sum_le l f g fun x hx => h x (List.mem_cons_of_mem _ hx)
    simp only [List.map_cons, List.sum_cons]
    rcases List.mem_cons.mp hx with rfl | hx
    · omega
    · have h3 := sum_lt l f g (fun x hx => h x (List.mem_cons_of_mem _ hx)) ⟨x, hx, hl⟩
      omega
theorem ext_getD {a b : List Int} (hl : a.length = b.length) (h : ∀ j, j < a.length → a.getD j 0 = b.getD j 0) : a = b := by
  apply List.ext_getElem hl
  intro i h1 h2
  have q := h i h1
  rw [List.getD_eq_getElem?_getD, List.getD_eq_getElem?_getD, List.getElem?_eq_getElem h1, List.getElem?_eq_getElem h2] at q
  exact q
theorem gap_lt (o : w.Ok) {e : List Int × List Int} (E : EOk w e) (s : Sub w (stepE w e) e) (ne : stepE w e ≠ e) : gapS w (stepE w e) < gapS w e := by
  have E1 := (step_ok o E s).1
  apply sum_lt
  · intro j hj
    have hj := List.mem_range.mp hj
    have h1 := s j hj
    have h2 := E.nn j hj
    have h3 := E1.nn j hj
    omega
  · apply Classical.byContradiction
    intro no
    apply ne
    have all : ∀ j, j < w.n → (stepE w e).1.getD j 0 = e.1.getD j 0 ∧ (stepE w e).2.getD j 0 = e.2.getD j 0 := fun j hj => by
      have h1 := s j hj
      have h2 := E.nn j hj
      have h3 := E1.nn j hj
      have h4 : ¬ ((stepE w e).2.getD j 0 - (stepE w e).1.getD j 0).toNat < (e.2.getD j 0 - e.1.getD j 0).toNat := fun z => no ⟨j, List.mem_range.mpr hj, z⟩
      omega
    have e1 : (stepE w e).1 = e.1 := ext_getD (by rw [E1.l1, E.l1]) fun j hj => (all j (by rw [E1.l1] at hj; exact hj)).1
    have e2 : (stepE w e).2 = e.2 := ext_getD (by rw [E1.l2, E.l2]) fun j hj => (all j (by rw [E1.l2] at hj; exact hj)).2
    exact Prod.ext e1 e2
def itE (w : Net) : Nat → List Int × List Int
  | 0 => firstE w
  | k + 1 => stepE w (itE w k)
theorem itE_ok (o : w.Ok) : ∀ k, EOk w (itE w k) ∧ Sub w (stepE w (itE w k)) (itE w k)
  | 0 => first_ok o
  | k + 1 => step_ok o (itE_ok o k).1 (itE_ok o k).2
theorem gap_first (o : w.Ok) : gapS w (firstE w) ≤ 25 := by
  have h : gapS w (firstE w) ≤ ((List.range w.n).map fun _ => 5).sum := by
    apply sum_le
    intro j hj
    have hj := List.mem_range.mp hj
    have h1 := (first_ok o).1.nn j hj
    have h2 := o.tpos hj
    omega
  have e : ∀ l : List Nat, (l.map fun _ => 5).sum = 5 * l.length := fun l => by
    induction l with
    | nil => rfl
    | cons a l ih => simp only [List.map_cons, List.sum_cons, List.length_cons, ih]; omega
  rw [e, List.length_range] at h
  have := o.small
  have hn : w.n = w.tops.length := rfl
  omega
/-- the number of rounds -/
theorem rounds (o : w.Ok) : ∃ R, R ≤ 25 ∧ stepE w (itE w R) = itE w R ∧ ∀ t, t < R → stepE w (itE w t) ≠ itE w t := by
  have go : ∀ g k, gapS w (itE w k) ≤ g → (∀ t, t < k → stepE w (itE w t) ≠ itE w t) → ∃ R, R ≤ k + g ∧ stepE w (itE w R) = itE w R ∧ ∀ t, t < R → stepE w (itE w t) ≠ itE w t := by
    intro g
    induction g with
    | zero =>
      intro k hg h
      by_cases e : stepE w (itE w k) = itE w k
      · exact ⟨k, by omega, e, h⟩
      · have := gap_lt o (itE_ok o k).1 (itE_ok o k).2 e
        omega
    | succ g ih =>
      intro k hg h
      by_cases e : stepE w (itE w k) = itE w k
      · exact ⟨k, by omega, e, h⟩
      · have h1 := gap_lt o (itE_ok o k).1 (itE_ok o k).2 e
        obtain ⟨R, r1, r2, r3⟩ := ih (k + 1) (by show gapS w (stepE w (itE w k)) ≤ g; omega) fun t ht => by
          rcases Nat.lt_succ_iff_lt_or_eq.mp ht with z | z
          · exact h t z
          · rw [z]; exact e
        exact ⟨R, by omega, r2, r3⟩
  obtain ⟨R, h1, h2, h3⟩ := go 25 0 (gap_first o) fun t ht => absurd ht (Nat.not_lt_zero _)
  exact ⟨R, by omega, h2, h3⟩
/-- a plain run: D states, then each house at each beat by what it hears of the last D -/
theorem plain_in (o : w.Ok) {D : Nat} (hD : 0 < D) {s : Nat → Nat → Int} {m : Nat} (num : Nat → Nat → Nat → Nat) (h0 : ∀ p, p < D → In w (firstE w) (s p))
    (hs : ∀ p, D ≤ p → p < m → ∀ j, j < w.n → s p j = w.want j (fun i => s (p - num p j i) ((br (w.rule j)).getD i 0)) ∧ ∀ i, i < (br (w.rule j)).length → 1 ≤ num p j i ∧ num p j i ≤ D) :
    ∀ k p, p < m → D * k ≤ p → In w (itE w k) (s p) := by
  have all0 : ∀ p, p < m → In w (firstE w) (s p) := by
    intro p
    induction p using Nat.strongRecOn with
    | ind p ih =>
      intro hp j hj
      by_cases hd : p < D
      · exact h0 p hd j hj
      · obtain ⟨e, hn⟩ := hs p (by omega) hp j hj
        have E := (first_ok o).1
        let s' : Nat → Nat → Int := fun i c => if i < (br (w.rule j)).length then s (p - num p j i) c else (firstE w).1.getD c 0
        have hin : ∀ i, In w (firstE w) (s' i) := fun i c hc => by
          show _ ≤ s' i c ∧ s' i c ≤ _
          by_cases hi : i < (br (w.rule j)).length
          · have e : s' i c = s (p - num p j i) c := if_pos hi
            rw [e]
            have := hn i hi
            exact ih _ (by omega) (by omega) c hc
          · have e : s' i c = (firstE w).1.getD c 0 := if_neg hi
            rw [e]
            exact ⟨Int.le_refl _, (E.nn c hc).2.1⟩
        have q := step_in o E hj (s := s') hin
        have ev : w.want j (fun i => s' i ((br (w.rule j)).getD i 0)) = s p j := by
          rw [e]
          unfold Net.want
          congr 1
          apply val_congr
          intro i hi
          exact if_pos hi
        rw [ev] at q
        have sb := (first_ok o).2 j hj
        omega
  intro k
  induction k with
  | zero => exact fun p hp _ => all0 p hp
  | succ k ih =>
    intro p hp hk j hj
    have hDk : D * (k + 1) = D * k + D := Nat.mul_succ D k
    obtain ⟨e, hn⟩ := hs p (by omega) hp j hj
    have E := (itE_ok o k).1
    let s' : Nat → Nat → Int := fun i c => if i < (br (w.rule j)).length then s (p - num p j i) c else (itE w k).1.getD c 0
    have hin : ∀ i, In w (itE w k) (s' i) := fun i c hc => by
      show _ ≤ s' i c ∧ s' i c ≤ _
      by_cases hi : i < (br (w.rule j)).length
      · have e : s' i c = s (p - num p j i) c := if_pos hi
        rw [e]
        have := hn i hi
        exact ih _ (by omega) (by omega) c hc
      · have e : s' i c = (itE w k).1.getD c 0 := if_neg hi
        rw [e]
        exact ⟨Int.le_refl _, (E.nn c hc).2.1⟩
    have q := step_in o E hj (s := s') hin
    have ev : w.want j (fun i => s' i ((br (w.rule j)).getD i 0)) = s p j := by
      rw [e]
      unfold Net.want
      congr 1
      apply val_congr
      intro i hi
      exact if_pos hi
    rw [ev] at q
    exact q
end
end NB

set_option Elab.async false
set_option linter.all false
set_option maxRecDepth 100000
set_option maxHeartbeats 2000000
/-! What the law's own house wants. -/
namespace NB
/-- a row's piece -/
def piece (hs : List Int) (a b : Nat) : List Int := (hs.drop a).take b
theorem cutAt_nat (n d a : Nat) : cutAt n d (some (a : Int)) = min a n := by
  show (if ((a : Nat) : Int) < 0 then (((a : Nat) : Int) + n).toNat else min ((a : Nat) : Int).toNat n) = min a n
  rw [if_neg (by omega)]
  congr 1
theorem cut_piece (hs : List Int) (a b : Nat) (h : a + b ≤ hs.length) : cutD (hs.map .int) (some (a : Int)) (some ((a : Int) + (b : Int))) = (piece hs a b).map .int := by
  unfold cutD piece
  rw [List.length_map, show ((a : Int) + (b : Int)) = ((a + b : Nat) : Int) by omega, cutAt_nat, cutAt_nat, ← List.map_drop, ← List.map_take]
  rw [show min a hs.length = a by omega, show min (a + b) hs.length - a = b by omega]
theorem piece_at {hs : List Int} {a b i : Nat} (h : i < b) : (piece hs a b).getD i 0 = hs.getD (a + i) 0 := by
  unfold piece
  rw [List.getD_eq_getElem?_getD, List.getD_eq_getElem?_getD, List.getElem?_take_of_lt h, List.getElem?_drop]
theorem piece_mem {hs : List Int} {a b : Nat} {x : Int} (h : x ∈ piece hs a b) : x ∈ hs := List.mem_of_mem_drop (List.mem_of_mem_take h)
theorem piece_len {hs : List Int} {a b : Nat} (h : a + b ≤ hs.length) : (piece hs a b).length = b := by
  unfold piece
  rw [List.length_take, List.length_drop]
  omega
theorem l_told1 {n : Nat} {δ : Dl} {d p : D} {w : Wd} {rest bs : List D} {hs : List Int} {b : Nat} {v x : Int} (e : d = .tup (.str w :: rest)) (w1 : w ≠ .w_is) (w2 : w ≠ .w_hear) (hp : callF n .l_parts [d] δ = some (.lst [p], δ)) (hb : callF n .l_branches [p] δ = some (.lst bs, δ)) (lb : bs.length = b) (z : b ≤ hs.length)
    (h1 : callF n .l_told [p, .lst ((piece hs 0 b).map .int)] δ = some (.int v, δ)) (hm : callF n .l_made [d, .lst [.int v]] δ = some (.int x, δ)) : callF (n + 1) .l_told [d, .lst (hs.map .int)] δ = some (.int x, δ) := by
  have c1 := cut_piece hs 0 b (by omega)
  simp only [Int.natCast_zero] at c1
  apply call_rt (by decide) rfl
  subst e
  subst lb
  simp [F.body, b_l_told, atD0, w1, w2, hp, hb, forGo, exec, evE, evL, evO, evT, evI, evM, evPar, view, Sl.full, Sl.hide, evIsi, blOf, intOf, wdOf, seqOf, intsOf, blsOf, wdsOf, evBin, ii, evEq, evAdd, evMul, evFdiv, evIs, evIn, evIx, evSl, evB, seq1, lst1, int2, evMM, evSort, fitN, eqD, eqDs, isFresh, flat, flats, setAll, asgS, asg, F.ns, F.np, List.replicate_succ, List.replicate_zero, List.map_cons, List.map_nil] at c1 ⊢
  simp [c1, h1, hm, forGo, exec, evE, evL, evO, evT, evI, evM, evPar, view, Sl.full, Sl.hide, evIsi, blOf, intOf, wdOf, seqOf, intsOf, blsOf, wdsOf, evBin, ii, evEq, evAdd, evMul, evFdiv, evIs, evIn, evIx, evSl, evB, seq1, lst1, int2, evMM, evSort, fitN, eqD, eqDs, isFresh, flat, flats, setAll, asgS, asg, F.ns, F.np, List.replicate_succ, List.replicate_zero, List.map_cons, List.map_nil]
theorem l_told2 {n : Nat} {δ : Dl} {d p q : D} {w : Wd} {rest bs bs2 : List D} {hs : List Int} {b b2 : Nat} {v v2 x : Int} (e : d = .tup (.str w :: rest)) (w1 : w ≠ .w_is) (w2 : w ≠ .w_hear) (hp : callF n .l_parts [d] δ = some (.lst [p, q], δ)) (hb : callF n .l_branches [p] δ = some (.lst bs, δ)) (lb : bs.length = b)
    (hb2 : callF n .l_branches [q] δ = some (.lst bs2, δ)) (lb2 : bs2.length = b2) (z : b + b2 ≤ hs.length)
    (h1 : callF n .l_told [p, .lst ((piece hs 0 b).map .int)] δ = some (.int v, δ)) (h2 : callF n .l_told [q, .lst ((piece hs b b2).map .int)] δ = some (.int v2, δ)) (hm : callF n .l_made [d, .lst [.int v, .int v2]] δ = some (.int x, δ)) : callF (n + 1) .l_told [d, .lst (hs.map .int)] δ = some (.int x, δ) := by
  have c1 := cut_piece hs 0 b (by omega)
  have c2 := cut_piece hs b b2 (by omega)
  simp only [Int.natCast_zero] at c1
  apply call_rt (by decide) rfl
  subst e
  subst lb
  subst lb2
  simp [F.body, b_l_told, atD0, w1, w2, hp, hb, hb2, forGo, exec, evE, evL, evO, evT, evI, evM, evPar, view, Sl.full, Sl.hide, evIsi, blOf, intOf, wdOf, seqOf, intsOf, blsOf, wdsOf, evBin, ii, evEq, evAdd, evMul, evFdiv, evIs, evIn, evIx, evSl, evB, seq1, lst1, int2, evMM, evSort, fitN, eqD, eqDs, isFresh, flat, flats, setAll, asgS, asg, F.ns, F.np, List.replicate_succ, List.replicate_zero, List.map_cons, List.map_nil] at c1 c2 ⊢
  simp [c1, c2, h1, h2, hb2, hm, forGo, exec, evE, evL, evO, evT, evI, evM, evPar, view, Sl.full, Sl.hide, evIsi, blOf, intOf, wdOf, seqOf, intsOf, blsOf, wdsOf, evBin, ii, evEq, evAdd, evMul, evFdiv, evIs, evIn, evIx, evSl, evB, seq1, lst1, int2, evMM, evSort, fitN, eqD, eqDs, isFresh, flat, flats, setAll, asgS, asg, F.ns, F.np, List.replicate_succ, List.replicate_zero, List.map_cons, List.map_nil]
theorem l_told3 {n : Nat} {δ : Dl} {d p q r : D} {w : Wd} {rest bs bs2 bs3 : List D} {hs : List Int} {b b2 b3 : Nat} {v v2 v3 x : Int} (e : d = .tup (.str w :: rest)) (w1 : w ≠ .w_is) (w2 : w ≠ .w_hear) (hp : callF n .l_parts [d] δ = some (.lst [p, q, r], δ)) (hb : callF n .l_branches [p] δ = some (.lst bs, δ)) (lb : bs.length = b)
    (hb2 : callF n .l_branches [q] δ = some (.lst bs2, δ)) (lb2 : bs2.length = b2) (hb3 : callF n .l_branches [r] δ = some (.lst bs3, δ)) (lb3 : bs3.length = b3) (z : b + b2 + b3 ≤ hs.length)
    (h1 : callF n .l_told [p, .lst ((piece hs 0 b).map .int)] δ = some (.int v, δ)) (h2 : callF n .l_told [q, .lst ((piece hs b b2).map .int)] δ = some (.int v2, δ)) (h3 : callF n .l_told [r, .lst ((piece hs (b + b2) b3).map .int)] δ = some (.int v3, δ))
    (hm : callF n .l_made [d, .lst [.int v, .int v2, .int v3]] δ = some (.int x, δ)) : callF (n + 1) .l_told [d, .lst (hs.map .int)] δ = some (.int x, δ) := by
  have c1 := cut_piece hs 0 b (by omega)
  have c2 := cut_piece hs b b2 (by omega)
  have c3 := cut_piece hs (b + b2) b3 (by omega)
  simp only [Int.natCast_zero, Int.natCast_add] at c1 c3
  apply call_rt (by decide) rfl
  subst e
  subst lb
  subst lb2
  subst lb3
  simp [F.body, b_l_told, atD0, w1, w2, hp, hb, hb2, hb3, forGo, exec, evE, evL, evO, evT, evI, evM, evPar, view, Sl.full, Sl.hide, evIsi, blOf, intOf, wdOf, seqOf, intsOf, blsOf, wdsOf, evBin, ii, evEq, evAdd, evMul, evFdiv, evIs, evIn, evIx, evSl, evB, seq1, lst1, int2, evMM, evSort, fitN, eqD, eqDs, isFresh, flat, flats, setAll, asgS, asg, F.ns, F.np, List.replicate_succ, List.replicate_zero, List.map_cons, List.map_nil] at c1 c2 c3 ⊢
  simp [c1, c2, c3, h1, h2, h3, hb2, hb3, hm, forGo, exec, evE, evL, evO, evT, evI, evM, evPar, view, Sl.full, Sl.hide, evIsi, blOf, intOf, wdOf, seqOf, intsOf, blsOf, wdsOf, evBin, ii, evEq, evAdd, evMul, evFdiv, evIs, evIn, evIx, evSl, evB, seq1, lst1, int2, evMM, evSort, fitN, eqD, eqDs, isFresh, flat, flats, setAll, asgS, asg, F.ns, F.np, List.replicate_succ, List.replicate_zero, List.map_cons, List.map_nil]
theorem l_told_ok {N : Nat} (δ : Dl) : ∀ (m : Nat) (r : R) (hs : List Int), ok N r → (∀ x ∈ hs, 0 ≤ x) → (br r).length ≤ hs.length → (br r).length ≤ 100000 → ht r + 4 ≤ m → callF m .l_told [toD r, .lst (hs.map .int)] δ = some (.int (val r fun i => hs.getD i 0), δ) := by
  intro m
  induction m with
  | zero => intro r hs _ _ _ _ h; omega
  | succ n ih =>
    intro r hs o hp hl hl2 hm
    obtain ⟨j, rfl⟩ : ∃ j, n = j + 1 := ⟨n - 1, by omega⟩
    have par := l_parts_ok j δ r
    have nn : ∀ a i, 0 ≤ hs.getD (a + i) 0 := fun a i => by
      rw [List.getD_eq_getElem?_getD]
      cases e : hs[a + i]? with
      | none => exact Int.le_refl 0
      | some x => exact hp x (List.mem_of_getElem? e)
    have brs : ∀ k ∈ kids r, callF (j + 1) .l_branches [toD k] δ = some (.lst (brD k), δ) := fun k hk => by
      have ko := kids_ok o k hk
      exact l_branches_ok δ (j + 1) k ko.1 (by omega) (by have := ko.2.1; omega)
    have sub : ∀ k ∈ kids r, ∀ a, a + (br k).length ≤ hs.length → callF (j + 1) .l_told [toD k, .lst ((piece hs a (br k).length).map .int)] δ = some (.int (val k fun i => hs.getD (a + i) 0), δ) := fun k hk a ha => by
      have ko := kids_ok o k hk
      rw [ih k (piece hs a (br k).length) ko.1 (fun x hx => hp x (piece_mem hx)) (by rw [piece_len ha]; exact Nat.le_refl _) (by omega) (by have := ko.2.1; omega)]
      congr 3
      exact val_congr k _ _ fun i hi => piece_at hi
    have one : ∀ k, kids r = [k] → (br r).length = (br k).length → (∀ h, val r h = mk r [val k h]) → (∃ w rest, toD r = .tup (.str w :: rest) ∧ w ≠ .w_is ∧ w ≠ .w_hear) →
        callF (j + 1 + 1) .l_told [toD r, .lst (hs.map .int)] δ = some (.int (val r fun i => hs.getD i 0), δ) := fun k ek eb ev ⟨w, rest, e1, e2, e3⟩ => by
      have ko := kids_ok o k (by rw [ek]; simp)
      have par' : callF (j + 1) .l_parts [toD r] δ = some (.lst [toD k], δ) := by rw [par, ek]; rfl
      have q := sub k (by rw [ek]; simp) 0 (by omega)
      simp only [Nat.zero_add] at q
      have mad' : callF (j + 1) .l_made [toD r, .lst [.int (val k fun i => hs.getD i 0)]] δ = some (.int (mk r [val k fun i => hs.getD i 0]), δ) := l_made_ok j δ o (as := [val k fun i => hs.getD i 0]) (by rw [ek]; rfl) (by simp) (by simp; exact val_nn _ _ ko.1 (fun i => by have := nn 0 i; rwa [Nat.zero_add] at this))
      rw [ev]
      exact l_told1 (n := j + 1) e1 e2 e3 par' (brs k (by rw [ek]; simp)) (brD_len k) (by omega) q mad'
    cases r
    case is c =>
      apply call_rt (by decide) rfl
      simp [F.body, b_l_told, toD, atD0, atD1, val, exec, evE, evL, evO, evT, evI, evM, evPar, view, Sl.full, Sl.hide, evIsi, blOf, intOf, wdOf, seqOf, intsOf, blsOf, wdsOf, evBin, ii, evEq, evAdd, evMul, evFdiv, evIs, evIn, evIx, evSl, evB, seq1, lst1, int2, evMM, evSort, fitN, eqD, eqDs, isFresh, flat, flats, setAll, asgS, asg, F.ns, F.np, List.replicate_succ, List.replicate_zero, List.map_cons, List.map_nil]
    case hear c =>
      have q := atD_get (hs := hs) (a := 0) (by simp only [br, List.length_singleton] at hl; omega)
      simp only [Int.natCast_zero] at q
      apply call_rt (by decide) rfl
      simp [F.body, b_l_told, toD, atD0, atD1, val, q, exec, evE, evL, evO, evT, evI, evM, evPar, view, Sl.full, Sl.hide, evIsi, blOf, intOf, wdOf, seqOf, intsOf, blsOf, wdsOf, evBin, ii, evEq, evAdd, evMul, evFdiv, evIs, evIn, evIx, evSl, evB, seq1, lst1, int2, evMM, evSort, fitN, eqD, eqDs, isFresh, flat, flats, setAll, asgS, asg, F.ns, F.np, List.replicate_succ, List.replicate_zero, List.map_cons, List.map_nil]
    case agg1 g r => exact one r rfl rfl (fun _ => rfl) ⟨_, _, rfl, (gw_ne g).1, (gw_ne g).2⟩
    case agg2 g r s =>
      have k1 := kids_ok o r (by simp [kids])
      have k2 := kids_ok o s (by simp [kids])
      simp only [br, List.length_append] at hl
      have q1 := sub r (by simp [kids]) 0 (by omega)
      have q2 := sub s (by simp [kids]) (br r).length (by omega)
      simp only [Nat.zero_add] at q1
      have mad' : callF (j + 1) .l_made [toD (.agg2 g r s), .lst [.int (val r fun i => hs.getD i 0), .int (val s fun i => hs.getD ((br r).length + i) 0)]] δ = some (.int (mk (.agg2 g r s) [val r fun i => hs.getD i 0, val s fun i => hs.getD ((br r).length + i) 0]), δ) :=
        l_made_ok j δ o (as := [val r fun i => hs.getD i 0, val s fun i => hs.getD ((br r).length + i) 0]) rfl (by simp) (by simp; exact ⟨val_nn _ _ k1.1 (fun i => by have := nn 0 i; rwa [Nat.zero_add] at this), val_nn _ _ k2.1 (nn _)⟩)
      have z := l_told2 (n := j + 1) (d := toD (.agg2 g r s)) rfl (gw_ne g).1 (gw_ne g).2 par (brs r (by simp [kids])) (brD_len r) (brs s (by simp [kids])) (brD_len s) hl q1 q2 mad'
      rw [z]
      simp only [mk, val, Nat.add_comm]
    case mid r s t =>
      have k1 := kids_ok o r (by simp [kids])
      have k2 := kids_ok o s (by simp [kids])
      have k3 := kids_ok o t (by simp [kids])
      simp only [br, List.length_append] at hl
      have q1 := sub r (by simp [kids]) 0 (by omega)
      have q2 := sub s (by simp [kids]) (br r).length (by omega)
      have q3 := sub t (by simp [kids]) ((br r).length + (br s).length) (by omega)
      simp only [Nat.zero_add] at q1
      have mad' : callF (j + 1) .l_made [toD (.mid r s t), .lst [.int (val r fun i => hs.getD i 0), .int (val s fun i => hs.getD ((br r).length + i) 0), .int (val t fun i => hs.getD ((br r).length + (br s).length + i) 0)]] δ = some (.int (mk (.mid r s t) [val r fun i => hs.getD i 0, val s fun i => hs.getD ((br r).length + i) 0, val t fun i => hs.getD ((br r).length + (br s).length + i) 0]), δ) :=
        l_made_ok j δ o (as := [val r fun i => hs.getD i 0, val s fun i => hs.getD ((br r).length + i) 0, val t fun i => hs.getD ((br r).length + (br s).length + i) 0]) rfl (by simp) (by simp; exact ⟨val_nn _ _ k1.1 (fun i => by have := nn 0 i; rwa [Nat.zero_add] at this), val_nn _ _ k2.1 (nn _), val_nn _ _ k3.1 (nn _)⟩)
      have z := l_told3 (n := j + 1) (d := toD (.mid r s t)) rfl (by decide) (by decide) par (brs r (by simp [kids])) (brD_len r) (brs s (by simp [kids])) (brD_len s) (brs t (by simp [kids])) (brD_len t) (by omega) q1 q2 q3 mad'
      rw [z]
      simp only [mk, val, Nat.add_comm, Nat.add_left_comm, Nat.add_assoc]
    case times k r => exact one r rfl rfl (fun _ => rfl) ⟨_, _, rfl, by decide, by decide⟩
    case part k r => exact one r rfl rfl (fun _ => rfl) ⟨_, _, rfl, by decide, by decide⟩
    case clip lo hi r => exact one r rfl rfl (fun _ => rfl) ⟨_, _, rfl, by decide, by decide⟩
    case frm c r => exact one r rfl rfl (fun _ => rfl) ⟨_, _, rfl, by decide, by decide⟩
    case bar t lo hi r => exact one r rfl rfl (fun _ => rfl) ⟨_, _, rfl, by decide, by decide⟩
    case row ws r => exact one r rfl rfl (fun _ => rfl) ⟨_, _, rfl, by decide, by decide⟩
end NB

set_option Elab.async false
set_option linter.all false
set_option maxRecDepth 100000
set_option maxHeartbeats 2000000
/-! The program's ranges and ways. -/
namespace NB
def netD (w : Net) : D := .tup [.tup (w.tops.map .int), .tup (w.rules.map toD)]
theorem cutAt_int (n d : Nat) {v : Int} (h : 0 ≤ v) : cutAt n d (some v) = min v.toNat n := by
  show (if v < 0 then (v + n).toNat else min v.toNat n) = _
  rw [if_neg (by omega)]
theorem entries_ok (n : Nat) (δ : Dl) {ws : List Int} {lo hi : Int} (h0 : 0 ≤ lo) (h1 : 0 ≤ hi) (hl : 0 < ws.length) : callF (n + 1) .entries_for [.tup (ws.map .int), .int lo, .int hi] δ = some (.tup ((ent ws lo hi).map .int), δ) := by
  have m := mn2_i lo ((ws.length : Int) - 1)
  have c : cutD (ws.map D.int) (some (mn2 lo ((ws.length : Int) - 1))) (some (hi + 1)) = (ent ws lo hi).map .int := by
    unfold cutD ent
    rw [List.length_map, cutAt_int _ _ (by omega), cutAt_int _ _ (by omega), ← List.map_drop, ← List.map_take]
    rw [show min (mn2 lo ((ws.length : Int) - 1)).toNat ws.length = (mn2 lo ((ws.length : Int) - 1)).toNat by omega]
  unfold mn2 at c
  apply call_rt (by decide) rfl
  simp [F.body, b_entries_for, exec, evE, evL, evO, evT, evI, evM, evPar, view, Sl.full, Sl.hide, evIsi, blOf, intOf, wdOf, seqOf, intsOf, blsOf, wdsOf, evBin, ii, evEq, evAdd, evMul, evFdiv, evIs, evIn, evIx, evSl, evB, seq1, lst1, int2, evMM, evSort, fitN, eqD, eqDs, isFresh, flat, flats, setAll, asgS, asg, F.ns, F.np, List.replicate_succ, List.replicate_zero, List.map_cons, List.map_nil]
  simp [c]
theorem rg1 {n : Nat} {δ : Dl} {net d p : D} {w : Wd} {rest : List D} {lo hi x y : Int} (e : d = .tup (.str w :: rest)) (w1 : w ≠ .w_is) (w2 : w ≠ .w_hear) (w3 : w ≠ .w_row) (hp : callF n .parts_of [d] δ = some (.tup [p], δ)) (h1 : callF n .range_of [net, p] δ = some (.tup [.int lo, .int hi], δ))
    (hm : callF n .made [d, .lst [.int lo]] δ = some (.int x, δ)) (hm2 : callF n .made [d, .lst [.int hi]] δ = some (.int y, δ)) : callF (n + 1) .range_of [net, d] δ = some (.tup [.int (mn2 x y), .int (mx2 x y)], δ) := by
  apply call_rt (by decide) rfl
  subst e
  simp [F.body, b_range_of, atD0, w1, w2, w3, hp, h1, hm, hm2, compGo, wipeE, minL, maxL, mn2, mx2, exec, evE, evL, evO, evT, evI, evM, evPar, view, Sl.full, Sl.hide, evIsi, blOf, intOf, wdOf, seqOf, intsOf, blsOf, wdsOf, evBin, ii, evEq, evAdd, evMul, evFdiv, evIs, evIn, evIx, evSl, evB, seq1, lst1, int2, evMM, evSort, fitN, eqD, eqDs, isFresh, flat, flats, setAll, asgS, asg, F.ns, F.np, List.replicate_succ, List.replicate_zero, List.map_cons, List.map_nil]
theorem rg2 {n : Nat} {δ : Dl} {net d p q : D} {w : Wd} {rest : List D} {lo hi lo2 hi2 x y : Int} (e : d = .tup (.str w :: rest)) (w1 : w ≠ .w_is) (w2 : w ≠ .w_hear) (w3 : w ≠ .w_row) (hp : callF n .parts_of [d] δ = some (.tup [p, q], δ)) (h1 : callF n .range_of [net, p] δ = some (.tup [.int lo, .int hi], δ)) (h2 : callF n .range_of [net, q] δ = some (.tup [.int lo2, .int hi2], δ))
    (hm : callF n .made [d, .lst [.int lo, .int lo2]] δ = some (.int x, δ)) (hm2 : callF n .made [d, .lst [.int hi, .int hi2]] δ = some (.int y, δ)) : callF (n + 1) .range_of [net, d] δ = some (.tup [.int (mn2 x y), .int (mx2 x y)], δ) := by
  apply call_rt (by decide) rfl
  subst e
  simp [F.body, b_range_of, atD0, w1, w2, w3, hp, h1, h2, hm, hm2, compGo, wipeE, minL, maxL, mn2, mx2, exec, evE, evL, evO, evT, evI, evM, evPar, view, Sl.full, Sl.hide, evIsi, blOf, intOf, wdOf, seqOf, intsOf, blsOf, wdsOf, evBin, ii, evEq, evAdd, evMul, evFdiv, evIs, evIn, evIx, evSl, evB, seq1, lst1, int2, evMM, evSort, fitN, eqD, eqDs, isFresh, flat, flats, setAll, asgS, asg, F.ns, F.np, List.replicate_succ, List.replicate_zero, List.map_cons, List.map_nil]
theorem rg3 {n : Nat} {δ : Dl} {net d p q r : D} {w : Wd} {rest : List D} {lo hi lo2 hi2 lo3 hi3 x y : Int} (e : d = .tup (.str w :: rest)) (w1 : w ≠ .w_is) (w2 : w ≠ .w_hear) (w3 : w ≠ .w_row) (hp : callF n .parts_of [d] δ = some (.tup [p, q, r], δ)) (h1 : callF n .range_of [net, p] δ = some (.tup [.int lo, .int hi], δ)) (h2 : callF n .range_of [net, q] δ = some (.tup [.int lo2, .int hi2], δ)) (h3 : callF n .range_of [net, r] δ = some (.tup [.int lo3, .int hi3], δ))
    (hm : callF n .made [d, .lst [.int lo, .int lo2, .int lo3]] δ = some (.int x, δ)) (hm2 : callF n .made [d, .lst [.int hi, .int hi2, .int hi3]] δ = some (.int y, δ)) : callF (n + 1) .range_of [net, d] δ = some (.tup [.int (mn2 x y), .int (mx2 x y)], δ) := by
  apply call_rt (by decide) rfl
  subst e
  simp [F.body, b_range_of, atD0, w1, w2, w3, hp, h1, h2, h3, hm, hm2, compGo, wipeE, minL, maxL, mn2, mx2, exec, evE, evL, evO, evT, evI, evM, evPar, view, Sl.full, Sl.hide, evIsi, blOf, intOf, wdOf, seqOf, intsOf, blsOf, wdsOf, evBin, ii, evEq, evAdd, evMul, evFdiv, evIs, evIn, evIx, evSl, evB, seq1, lst1, int2, evMM, evSort, fitN, eqD, eqDs, isFresh, flat, flats, setAll, asgS, asg, F.ns, F.np, List.replicate_succ, List.replicate_zero, List.map_cons, List.map_nil]
theorem rgR {n : Nat} {δ : Dl} {net p : D} {ws es : List Int} {lo hi e0 : Int} (hp : callF n .parts_of [.tup [.str .w_row, .tup (ws.map .int), p]] δ = some (.tup [p], δ)) (h1 : callF n .range_of [net, p] δ = some (.tup [.int lo, .int hi], δ))
    (he : callF n .entries_for [.tup (ws.map .int), .int lo, .int hi] δ = some (.tup ((e0 :: es).map .int), δ)) : callF (n + 1) .range_of [net, .tup [.str .w_row, .tup (ws.map .int), p]] δ = some (.tup [.int (minL e0 es), .int (maxL e0 es)], δ) := by
  simp only [List.map_cons] at he
  apply call_rt (by decide) rfl
  simp [F.body, b_range_of, atD0, atD1, hp, h1, he, intsOf_map, compGo, wipeE, exec, evE, evL, evO, evT, evI, evM, evPar, view, Sl.full, Sl.hide, evIsi, blOf, intOf, wdOf, seqOf, intsOf, blsOf, wdsOf, evBin, ii, evEq, evAdd, evMul, evFdiv, evIs, evIn, evIx, evSl, evB, seq1, lst1, int2, evMM, evSort, fitN, eqD, eqDs, isFresh, flat, flats, setAll, asgS, asg, F.ns, F.np, List.replicate_succ, List.replicate_zero, List.map_cons, List.map_nil]
theorem range_ok {w : Net} (o : w.Ok) (δ : Dl) : ∀ (m : Nat) (r : R), ok w.n r → ht r + 8 ≤ m → callF m .range_of [netD w, toD r] δ = some (.tup [.int (rng w.tops r).1, .int (rng w.tops r).2], δ) := by
  intro m
  induction m with
  | zero => intro r _ h; omega
  | succ n ih =>
    intro r ok' hm
    obtain ⟨j, rfl⟩ : ∃ j, n = j + 6 := ⟨n - 6, by omega⟩
    have par := parts_of_ok j δ ok'
    have nn := fun k (hk : k ∈ kids r) => rng_ok o.tnn k (kids_ok ok' k hk).1
    have sub := fun k (hk : k ∈ kids r) => ih k (kids_ok ok' k hk).1 (by have := (kids_ok ok' k hk).2.1; omega)
    have one : ∀ k, kids r = [k] → (rng w.tops r = (mn2 (mk r [(rng w.tops k).1]) (mk r [(rng w.tops k).2]), mx2 (mk r [(rng w.tops k).1]) (mk r [(rng w.tops k).2]))) → (∃ w rest, toD r = .tup (.str w :: rest) ∧ w ≠ .w_is ∧ w ≠ .w_hear ∧ w ≠ .w_row) →
        callF (j + 6 + 1) .range_of [netD w, toD r] δ = some (.tup [.int (rng w.tops r).1, .int (rng w.tops r).2], δ) := fun k ek er ⟨w', rest, e1, e2, e3, e4⟩ => by
      have par' : callF (j + 6) .parts_of [toD r] δ = some (.tup [toD k], δ) := by rw [par, ek]; rfl
      have mk1 : 0 ≤ (rng w.tops k).1 ∧ 0 ≤ (rng w.tops k).2 := ⟨(nn k (by rw [ek]; simp)).1, (nn k (by rw [ek]; simp)).2.1⟩
      have mad1 : callF (j + 6) .made [toD r, .lst [.int (rng w.tops k).1]] δ = some (.int (mk r [(rng w.tops k).1]), δ) := made_ok (j + 5) δ ok' (as := [(rng w.tops k).1]) (by rw [ek]; rfl) (by simp) (by simp; exact mk1.1)
      have mad2 : callF (j + 6) .made [toD r, .lst [.int (rng w.tops k).2]] δ = some (.int (mk r [(rng w.tops k).2]), δ) := made_ok (j + 5) δ ok' (as := [(rng w.tops k).2]) (by rw [ek]; rfl) (by simp) (by simp; exact mk1.2)
      rw [er]
      exact rg1 (n := j + 6) e1 e2 e3 e4 par' (sub k (by rw [ek]; simp)) mad1 mad2
    cases r
    case is c =>
      apply call_rt (by decide) rfl
      simp [F.body, b_range_of, toD, atD0, atD1, rng, exec, evE, evL, evO, evT, evI, evM, evPar, view, Sl.full, Sl.hide, evIsi, blOf, intOf, wdOf, seqOf, intsOf, blsOf, wdsOf, evBin, ii, evEq, evAdd, evMul, evFdiv, evIs, evIn, evIx, evSl, evB, seq1, lst1, int2, evMM, evSort, fitN, eqD, eqDs, isFresh, flat, flats, setAll, asgS, asg, F.ns, F.np, List.replicate_succ, List.replicate_zero, List.map_cons, List.map_nil]
    case hear c =>
      have q := atD_get (hs := w.tops) (a := c) ok'.1
      apply call_rt (by decide) rfl
      simp [F.body, b_range_of, toD, netD, atD0, atD1, rng, q, exec, evE, evL, evO, evT, evI, evM, evPar, view, Sl.full, Sl.hide, evIsi, blOf, intOf, wdOf, seqOf, intsOf, blsOf, wdsOf, evBin, ii, evEq, evAdd, evMul, evFdiv, evIs, evIn, evIx, evSl, evB, seq1, lst1, int2, evMM, evSort, fitN, eqD, eqDs, isFresh, flat, flats, setAll, asgS, asg, F.ns, F.np, List.replicate_succ, List.replicate_zero, List.map_cons, List.map_nil]
    case agg1 g r => exact one r rfl rfl ⟨_, _, rfl, (gw_ne g).1, (gw_ne g).2, by cases g <;> decide⟩
    case agg2 g r s =>
      have n1 := nn r (by simp [kids])
      have n2 := nn s (by simp [kids])
      have mad1 : callF (j + 6) .made [toD (.agg2 g r s), .lst [.int (rng w.tops r).1, .int (rng w.tops s).1]] δ = some (.int (mk (.agg2 g r s) [(rng w.tops r).1, (rng w.tops s).1]), δ) := made_ok (j + 5) δ ok' (as := [(rng w.tops r).1, (rng w.tops s).1]) rfl (by simp) (by simp; exact ⟨n1.1, n2.1⟩)
      have mad2 : callF (j + 6) .made [toD (.agg2 g r s), .lst [.int (rng w.tops r).2, .int (rng w.tops s).2]] δ = some (.int (mk (.agg2 g r s) [(rng w.tops r).2, (rng w.tops s).2]), δ) := made_ok (j + 5) δ ok' (as := [(rng w.tops r).2, (rng w.tops s).2]) rfl (by simp) (by simp; exact ⟨n1.2.1, n2.2.1⟩)
      exact rg2 (n := j + 6) (d := toD (.agg2 g r s)) rfl (gw_ne g).1 (gw_ne g).2 (by cases g <;> decide) par (sub r (by simp [kids])) (sub s (by simp [kids])) mad1 mad2
    case mid r s t =>
      have n1 := nn r (by simp [kids])
      have n2 := nn s (by simp [kids])
      have n3 := nn t (by simp [kids])
      have mad1 : callF (j + 6) .made [toD (.mid r s t), .lst [.int (rng w.tops r).1, .int (rng w.tops s).1, .int (rng w.tops t).1]] δ = some (.int (mk (.mid r s t) [(rng w.tops r).1, (rng w.tops s).1, (rng w.tops t).1]), δ) := made_ok (j + 5) δ ok' (as := [(rng w.tops r).1, (rng w.tops s).1, (rng w.tops t).1]) rfl (by simp) (by simp; exact ⟨n1.1, n2.1, n3.1⟩)
      have mad2 : callF (j + 6) .made [toD (.mid r s t), .lst [.int (rng w.tops r).2, .int (rng w.tops s).2, .int (rng w.tops t).2]] δ = some (.int (mk (.mid r s t) [(rng w.tops r).2, (rng w.tops s).2, (rng w.tops t).2]), δ) := made_ok (j + 5) δ ok' (as := [(rng w.tops r).2, (rng w.tops s).2, (rng w.tops t).2]) rfl (by simp) (by simp; exact ⟨n1.2.1, n2.2.1, n3.2.1⟩)
      exact rg3 (n := j + 6) (d := toD (.mid r s t)) rfl (by decide) (by decide) (by decide) par (sub r (by simp [kids])) (sub s (by simp [kids])) (sub t (by simp [kids])) mad1 mad2
    case times k r => exact one r rfl rfl ⟨_, _, rfl, by decide, by decide, by decide⟩
    case part k r => exact one r rfl rfl ⟨_, _, rfl, by decide, by decide, by decide⟩
    case clip lo hi r => exact one r rfl rfl ⟨_, _, rfl, by decide, by decide, by decide⟩
    case frm c r => exact one r rfl rfl ⟨_, _, rfl, by decide, by decide, by decide⟩
    case bar t lo hi r => exact one r rfl rfl ⟨_, _, rfl, by decide, by decide, by decide⟩
    case row ws r =>
      obtain ⟨k1, k2, _⟩ := nn r (by simp [kids])
      have q := entries_ok (j + 5) δ (ws := ws) k1 k2 ok'.2.2.1
      obtain ⟨x, l, e⟩ : ∃ x l, ent ws (rng w.tops r).1 (rng w.tops r).2 = x :: l := by
        obtain ⟨_, _, z⟩ := rng_ok o.tnn r ok'.2.2.2.2
        have zin : InB w.tops (br r) (fun i => 0) := fun i c hc => ⟨Int.le_refl _, by
          rw [List.getD_eq_getElem?_getD]
          cases e : w.tops[c]? with
          | none => exact Int.le_refl _
          | some t => exact o.tnn t (List.mem_of_getElem? e)⟩
        obtain ⟨z1, z2⟩ := z _ zin
        have m := rowAt_ent ok'.2.2.1 k1 z1 z2
        cases e : ent ws (rng w.tops r).1 (rng w.tops r).2 with
        | nil => rw [e] at m; cases m
        | cons x l => exact ⟨x, l, rfl⟩
      rw [e] at q
      have z := rgR (n := j + 6) (net := netD w) (ws := ws) (p := toD r) par (sub r (by simp [kids])) q
      show callF (j + 6 + 1) .range_of [netD w, .tup [.str .w_row, .tup (ws.map .int), toD r]] δ = _
      rw [z]
      simp only [rng, e, ends2]
end NB

set_option Elab.async false
set_option linter.all false
set_option maxRecDepth 100000
set_option maxHeartbeats 2000000
/-! Ways. -/
namespace NB
theorem atD_nat {l : List Int} {i : Nat} (h : i < l.length) : atD (l.map .int) (i : Int) = some (.int (l[i])) := by
  unfold atD
  rw [if_pos (by omega), List.getElem?_map, show ((i : Nat) : Int).toNat = i by omega, List.getElem?_eq_getElem h]
  rfl
theorem rising_ok (n : Nat) (δ : Dl) {l : List Int} (hs : l.Pairwise (· ≤ ·)) (hl : l.length ≤ 1000) : callF (n + 1) .is_rising_row [.tup (l.map .int)] δ = some (.bl true, δ) := by
  apply call_rt (by decide) rfl
  have hc : compGo (fun r δ => evT (callF n) .nop r δ) (fun r δ => evE (callF n) (.bin .le (.ix (.var 0) (.bin .sub (.var 1) (.int 1))) (.ix (.var 0) (.var 1))) r δ) (.one 1) (wipeE [some (.tup (l.map .int)), none] [1]) ((List.range ((l.length : Int) - 1).toNat).map fun (k : Nat) => .int (1 + (k : Int))) δ = some (((List.range ((l.length : Int) - 1).toNat).map fun (k : Nat) => D.int (1 + (k : Int))).map fun _ => .bl true, δ) := by
    refine compGo_map fun x hx => ?_
    obtain ⟨k, hk, rfl⟩ := List.mem_map.mp hx
    have hk := List.mem_range.mp hk
    have i1 : k < l.length := by omega
    have i2 : k + 1 < l.length := by omega
    have a1 := atD_nat i1
    have a2 := atD_nat i2
    have e2 : (1 + (k : Int)) = ((k + 1 : Nat) : Int) := by omega
    have e1 : (1 + (k : Int)) - 1 = ((k : Nat) : Int) := by omega
    have le := List.pairwise_iff_getElem.mp hs k (k + 1) i1 i2 (by omega)
    refine ⟨_, rfl, rfl, ?_⟩
    have a3 : atD (l.map .int) ((k : Int) + 1) = some (.int (l[k + 1])) := by rw [show ((k : Int) + 1) = ((k + 1 : Nat) : Int) by omega]; exact a2
    have e3 : (1 + (k : Int)) = (k : Int) + 1 := by omega
    simp [wipeE, e3, a1, a3, le, exec, evE, evL, evO, evT, evI, evM, evPar, view, Sl.full, Sl.hide, evIsi, blOf, intOf, wdOf, seqOf, intsOf, blsOf, wdsOf, evBin, ii, evEq, evAdd, evMul, evFdiv, evIs, evIn, evIx, evSl, evB, seq1, lst1, int2, evMM, evSort, fitN, eqD, eqDs, isFresh, flat, flats, setAll, asgS, asg, F.ns, F.np, List.replicate_succ, List.replicate_zero, List.map_cons, List.map_nil]
  have hb := blsOf_map (fun _ => true) ((List.range ((l.length : Int) - 1).toNat).map fun (k : Nat) => D.int (1 + (k : Int)))
  have hz : ((l.length : Int) - 1).toNat ≤ 100000 := by omega
  have h62 : (l.length : Int) < 4611686018427387904 := by omega
  have h63 : -4611686018427387904 ≤ (l.length : Int) := by omega
  simp [F.body, b_is_rising_row, wipeE, hz, h62, h63, exec, evE, evL, evO, evT, evI, evM, evPar, view, Sl.full, Sl.hide, evIsi, blOf, intOf, wdOf, seqOf, intsOf, blsOf, wdsOf, evBin, ii, evEq, evAdd, evMul, evFdiv, evIs, evIn, evIx, evSl, evB, seq1, lst1, int2, evMM, evSort, fitN, eqD, eqDs, isFresh, flat, flats, setAll, asgS, asg, F.ns, F.np, List.replicate_succ, List.replicate_zero, List.map_cons, List.map_nil] at hc hb ⊢
  have hz2 : l.length ≤ 100001 := by omega
  simp [hc, hb, hz2]
def turnB (r : R) : Bool := match r with
  | .frm _ _ => true
  | .bar _ lo hi _ => decide (hi < lo)
  | _ => false
theorem turn_eq (r : R) : turnB r = turn r := by cases r <;> rfl
theorem ent_sorted {ws : List Int} (hs : ws.Pairwise (· ≤ ·)) (lo hi : Int) : (ent ws lo hi).Pairwise (· ≤ ·) := (hs.drop).take
theorem ent_len (ws : List Int) (lo hi : Int) : (ent ws lo hi).length ≤ ws.length := by
  unfold ent
  rw [List.length_take, List.length_drop]
  omega
theorem turn_row {n : Nat} {δ : Dl} {net p : D} {ws es : List Int} {lo hi : Int} (q1 : callF n .range_of [net, p] δ = some (.tup [.int lo, .int hi], δ)) (q2 : callF n .entries_for [.tup (ws.map .int), .int lo, .int hi] δ = some (.tup (es.map .int), δ)) (q3 : callF n .is_rising_row [.tup (es.map .int)] δ = some (.bl true, δ)) :
    callF (n + 1) .turn_of [net, .tup [.str .w_row, .tup (ws.map .int), p]] δ = some (.bl false, δ) := by
  have a2 : ∀ (a b c : D), atD [a, b, c] 2 = some c := fun _ _ _ => rfl
  apply call_rt (by decide) rfl
  simp [F.body, b_turn_of, atD0, atD1, a2, q1, q2, q3, exec, evE, evL, evO, evT, evI, evM, evPar, view, Sl.full, Sl.hide, evIsi, blOf, intOf, wdOf, seqOf, intsOf, blsOf, wdsOf, evBin, ii, evEq, evAdd, evMul, evFdiv, evIs, evIn, evIx, evSl, evB, seq1, lst1, int2, evMM, evSort, fitN, eqD, eqDs, isFresh, flat, flats, setAll, asgS, asg, F.ns, F.np, List.replicate_succ, List.replicate_zero, List.map_cons, List.map_nil]
theorem turn_bar {n : Nat} {δ : Dl} {net p : D} {t lo hi : Int} : callF (n + 1) .turn_of [net, .tup [.str .w_bar, .int t, .int lo, .int hi, p]] δ = some (.bl (decide (hi < lo)), δ) := by
  have a2 : ∀ (a b c d e : D), atD [a, b, c, d, e] 2 = some c := fun _ _ _ _ _ => rfl
  have a3 : ∀ (a b c d e : D), atD [a, b, c, d, e] 3 = some d := fun _ _ _ _ _ => rfl
  apply call_rt (by decide) rfl
  simp [F.body, b_turn_of, atD0, a2, a3, exec, evE, evL, evO, evT, evI, evM, evPar, view, Sl.full, Sl.hide, evIsi, blOf, intOf, wdOf, seqOf, intsOf, blsOf, wdsOf, evBin, ii, evEq, evAdd, evMul, evFdiv, evIs, evIn, evIx, evSl, evB, seq1, lst1, int2, evMM, evSort, fitN, eqD, eqDs, isFresh, flat, flats, setAll, asgS, asg, F.ns, F.np, List.replicate_succ, List.replicate_zero, List.map_cons, List.map_nil]
theorem turn_plain {n : Nat} {δ : Dl} {net d : D} {w : Wd} {rest : List D} (e : d = .tup (.str w :: rest)) (w1 : w ≠ .w_row) (w2 : w ≠ .w_bar) : callF (n + 1) .turn_of [net, d] δ = some (.bl (decide (w = .w_from)), δ) := by
  apply call_rt (by decide) rfl
  subst e
  by_cases q : w = .w_from <;> simp [F.body, b_turn_of, atD0, w1, w2, q, exec, evE, evL, evO, evT, evI, evM, evPar, view, Sl.full, Sl.hide, evIsi, blOf, intOf, wdOf, seqOf, intsOf, blsOf, wdsOf, evBin, ii, evEq, evAdd, evMul, evFdiv, evIs, evIn, evIx, evSl, evB, seq1, lst1, int2, evMM, evSort, fitN, eqD, eqDs, isFresh, flat, flats, setAll, asgS, asg, F.ns, F.np, List.replicate_succ, List.replicate_zero, List.map_cons, List.map_nil]
theorem turn_ok {w : Net} (o : w.Ok) (δ : Dl) (m : Nat) (r : R) (ok' : ok w.n r) (hm : ht r + 9 ≤ m) : callF m .turn_of [netD w, toD r] δ = some (.bl (turn r), δ) := by
  obtain ⟨n, rfl⟩ : ∃ n, m = n + 1 := ⟨m - 1, by omega⟩
  cases r
  case row ws k =>
    have ko := kids_ok ok' k (by simp [kids])
    have q1 := range_ok o δ n k ko.1 (by have := ko.2.1; omega)
    obtain ⟨z1, z2, _⟩ := rng_ok o.tnn k ko.1
    obtain ⟨j, rfl⟩ : ∃ j, n = j + 1 := ⟨n - 1, by omega⟩
    have q2 := entries_ok j δ (ws := ws) z1 z2 ok'.2.2.1
    have q3 := rising_ok j δ (ent_sorted ok'.2.1 (rng w.tops k).1 (rng w.tops k).2) (by have h1 := ent_len ws (rng w.tops k).1 (rng w.tops k).2; have h2 := ok'.2.2.2.1; omega)
    exact turn_row q1 q2 q3
  case bar t lo hi r =>
    have z := turn_bar (n := n) (δ := δ) (net := netD w) (p := toD r) (t := t) (lo := lo) (hi := hi)
    show callF (n + 1) .turn_of [netD w, .tup [.str .w_bar, .int t, .int lo, .int hi, toD r]] δ = _
    rw [z]
    rfl
  case agg1 g r => cases g <;> exact turn_plain (w := _) rfl (by decide) (by decide)
  case agg2 g r s => cases g <;> exact turn_plain (w := _) rfl (by decide) (by decide)
  case is c => exact turn_plain (w := .w_is) rfl (by decide) (by decide)
  case hear c => exact turn_plain (w := .w_hear) rfl (by decide) (by decide)
  case mid r s t => exact turn_plain (w := .w_middle) rfl (by decide) (by decide)
  case times k r => exact turn_plain (w := .w_times) rfl (by decide) (by decide)
  case part k r => exact turn_plain (w := .w_part) rfl (by decide) (by decide)
  case clip lo hi r => exact turn_plain (w := .w_clip) rfl (by decide) (by decide)
  case frm c r => exact turn_plain (w := .w_from) rfl (by decide) (by decide)
def wdsD (ws : List Wd) : List D := ws.map .str
theorem ww1 {n : Nat} {δ : Dl} {net d p : D} {w : Wd} {rest ws1 : List D} {lo hi : Int} {st f t : Bool} (e : d = .tup (.str w :: rest)) (w2 : w ≠ .w_hear) (hr : callF n .range_of [net, d] δ = some (.tup [.int lo, .int hi], δ)) (htn : callF n .turn_of [net, d] δ = some (.bl t, δ)) (hp : callF n .parts_of [d] δ = some (.tup [p], δ))
    (h1 : callF n .words_within [net, p, .bl (st || isB lo hi), .bl false, .bl (!decide (f = t))] δ = some (.lst ws1, δ)) (z : ws1.length ≤ 100000) : callF (n + 1) .words_within [net, d, .bl st, .bl false, .bl f] δ = some (.lst ws1, δ) := by
  apply call_rt (by decide) rfl
  subst e
  unfold isB at h1
  have e1 : decide (t = true) = t := by cases t <;> rfl
  cases st <;> simp only [Bool.false_or, Bool.true_or] at h1 <;> simp [F.body, b_words_within, atD0, w2, hr, htn, hp, e1, z, forGo, exec, evE, evL, evO, evT, evI, evM, evPar, view, Sl.full, Sl.hide, evIsi, blOf, intOf, wdOf, seqOf, intsOf, blsOf, wdsOf, evBin, ii, evEq, evAdd, evMul, evFdiv, evIs, evIn, evIx, evSl, evB, seq1, lst1, int2, evMM, evSort, fitN, eqD, eqDs, isFresh, flat, flats, setAll, asgS, asg, F.ns, F.np, List.replicate_succ, List.replicate_zero, List.map_cons, List.map_nil] <;> simp [h1, z, forGo, exec, evE, evL, evO, evT, evI, evM, evPar, view, Sl.full, Sl.hide, evIsi, blOf, intOf, wdOf, seqOf, intsOf, blsOf, wdsOf, evBin, ii, evEq, evAdd, evMul, evFdiv, evIs, evIn, evIx, evSl, evB, seq1, lst1, int2, evMM, evSort, fitN, eqD, eqDs, isFresh, flat, flats, setAll, asgS, asg, F.ns, F.np, List.replicate_succ, List.replicate_zero, List.map_cons, List.map_nil]
theorem ww0 {n : Nat} {δ : Dl} {net d : D} {w : Wd} {rest : List D} {lo hi : Int} {st f t : Bool} (e : d = .tup (.str w :: rest)) (w2 : w ≠ .w_hear) (hr : callF n .range_of [net, d] δ = some (.tup [.int lo, .int hi], δ)) (htn : callF n .turn_of [net, d] δ = some (.bl t, δ)) (hp : callF n .parts_of [d] δ = some (.tup [], δ)) :
    callF (n + 1) .words_within [net, d, .bl st, .bl false, .bl f] δ = some (.lst [], δ) := by
  apply call_rt (by decide) rfl
  subst e
  cases st <;> simp [F.body, b_words_within, atD0, w2, hr, htn, hp, forGo, exec, evE, evL, evO, evT, evI, evM, evPar, view, Sl.full, Sl.hide, evIsi, blOf, intOf, wdOf, seqOf, intsOf, blsOf, wdsOf, evBin, ii, evEq, evAdd, evMul, evFdiv, evIs, evIn, evIx, evSl, evB, seq1, lst1, int2, evMM, evSort, fitN, eqD, eqDs, isFresh, flat, flats, setAll, asgS, asg, F.ns, F.np, List.replicate_succ, List.replicate_zero, List.map_cons, List.map_nil]
end NB

set_option Elab.async false
set_option linter.all false
set_option maxRecDepth 100000
set_option maxHeartbeats 2000000
/-! Ways of rules and of houses. -/
namespace NB
theorem ww2 {n : Nat} {δ : Dl} {net d p p2 : D} {w : Wd} {rest ws1 ws2 : List D} {lo hi : Int} {st f : Bool} (e : d = .tup (.str w :: rest)) (w2 : w ≠ .w_hear) (hr : callF n .range_of [net, d] δ = some (.tup [.int lo, .int hi], δ)) (htn : callF n .turn_of [net, d] δ = some (.bl false, δ)) (hp : callF n .parts_of [d] δ = some (.tup [p, p2], δ))
    (h1 : callF n .words_within [net, p, .bl (st || isB lo hi), .bl false, .bl (!decide (f = false))] δ = some (.lst ws1, δ)) (h2 : callF n .words_within [net, p2, .bl (st || isB lo hi), .bl false, .bl (!decide (f = false))] δ = some (.lst ws2, δ)) (z : ws1.length + ws2.length ≤ 100000) : callF (n + 1) .words_within [net, d, .bl st, .bl false, .bl f] δ = some (.lst (ws1 ++ ws2), δ) := by
  have z1 : ws1.length ≤ 100000 := by omega
  apply call_rt (by decide) rfl
  subst e
  unfold isB at h1 h2
  have e2 : (!decide (f = false)) = f := by cases f <;> rfl
  rw [e2] at h1 h2
  cases st <;> simp only [Bool.false_or, Bool.true_or] at h1 h2 <;> simp [F.body, b_words_within, atD0, w2, hr, htn, hp, z, z1, forGo, exec, evE, evL, evO, evT, evI, evM, evPar, view, Sl.full, Sl.hide, evIsi, blOf, intOf, wdOf, seqOf, intsOf, blsOf, wdsOf, evBin, ii, evEq, evAdd, evMul, evFdiv, evIs, evIn, evIx, evSl, evB, seq1, lst1, int2, evMM, evSort, fitN, eqD, eqDs, isFresh, flat, flats, setAll, asgS, asg, F.ns, F.np, List.replicate_succ, List.replicate_zero, List.map_cons, List.map_nil] <;> simp [h1, h2, z, z1, forGo, exec, evE, evL, evO, evT, evI, evM, evPar, view, Sl.full, Sl.hide, evIsi, blOf, intOf, wdOf, seqOf, intsOf, blsOf, wdsOf, evBin, ii, evEq, evAdd, evMul, evFdiv, evIs, evIn, evIx, evSl, evB, seq1, lst1, int2, evMM, evSort, fitN, eqD, eqDs, isFresh, flat, flats, setAll, asgS, asg, F.ns, F.np, List.replicate_succ, List.replicate_zero, List.map_cons, List.map_nil]
theorem ww3 {n : Nat} {δ : Dl} {net d p p2 p3 : D} {w : Wd} {rest ws1 ws2 ws3 : List D} {lo hi : Int} {st f : Bool} (e : d = .tup (.str w :: rest)) (w2 : w ≠ .w_hear) (hr : callF n .range_of [net, d] δ = some (.tup [.int lo, .int hi], δ)) (htn : callF n .turn_of [net, d] δ = some (.bl false, δ)) (hp : callF n .parts_of [d] δ = some (.tup [p, p2, p3], δ))
    (h1 : callF n .words_within [net, p, .bl (st || isB lo hi), .bl false, .bl (!decide (f = false))] δ = some (.lst ws1, δ)) (h2 : callF n .words_within [net, p2, .bl (st || isB lo hi), .bl false, .bl (!decide (f = false))] δ = some (.lst ws2, δ)) (h3 : callF n .words_within [net, p3, .bl (st || isB lo hi), .bl false, .bl (!decide (f = false))] δ = some (.lst ws3, δ))
    (z : ws1.length + (ws2.length + ws3.length) ≤ 100000) : callF (n + 1) .words_within [net, d, .bl st, .bl false, .bl f] δ = some (.lst (ws1 ++ (ws2 ++ ws3)), δ) := by
  have z1 : ws1.length ≤ 100000 := by omega
  have z2 : ws1.length + ws2.length ≤ 100000 := by omega
  have z3 : ws1.length + ws2.length + ws3.length ≤ 100000 := by omega
  apply call_rt (by decide) rfl
  subst e
  unfold isB at h1 h2 h3
  have e2 : (!decide (f = false)) = f := by cases f <;> rfl
  rw [e2] at h1 h2 h3
  cases st <;> simp only [Bool.false_or, Bool.true_or] at h1 h2 h3 <;> simp [F.body, b_words_within, atD0, w2, hr, htn, hp, z1, z2, z3, forGo, exec, evE, evL, evO, evT, evI, evM, evPar, view, Sl.full, Sl.hide, evIsi, blOf, intOf, wdOf, seqOf, intsOf, blsOf, wdsOf, evBin, ii, evEq, evAdd, evMul, evFdiv, evIs, evIn, evIx, evSl, evB, seq1, lst1, int2, evMM, evSort, fitN, eqD, eqDs, isFresh, flat, flats, setAll, asgS, asg, F.ns, F.np, List.replicate_succ, List.replicate_zero, List.map_cons, List.map_nil] <;> simp [h1, h2, h3, z1, z2, z3, forGo, exec, evE, evL, evO, evT, evI, evM, evPar, view, Sl.full, Sl.hide, evIsi, blOf, intOf, wdOf, seqOf, intsOf, blsOf, wdsOf, evBin, ii, evEq, evAdd, evMul, evFdiv, evIs, evIn, evIx, evSl, evB, seq1, lst1, int2, evMM, evSort, fitN, eqD, eqDs, isFresh, flat, flats, setAll, asgS, asg, F.ns, F.np, List.replicate_succ, List.replicate_zero, List.map_cons, List.map_nil]
theorem ne_eq' (f t : Bool) : (f != t) = !decide (f = t) := by cases f <;> cases t <;> rfl
theorem words_ok {w : Net} (o : w.Ok) (δ : Dl) : ∀ (m : Nat) (r : R) (st f : Bool), ok w.n r → (br r).length ≤ 100000 → ht r + 10 ≤ m → callF m .words_within [netD w, toD r, .bl st, .bl false, .bl f] δ = some (.lst (wdsD (words w.tops r st f)), δ) := by
  intro m
  induction m with
  | zero => intro r _ _ _ _ h; omega
  | succ n ih =>
    intro r st f ok' hl hm
    obtain ⟨j, rfl⟩ : ∃ j, n = j + 6 := ⟨n - 6, by omega⟩
    have par := parts_of_ok j δ ok'
    have hr := range_ok o δ (j + 6) r ok' (by omega)
    have htn := turn_ok o δ (j + 6) r ok' (by omega)
    have sub := fun k (hk : k ∈ kids r) st f => ih k st f (kids_ok ok' k hk).1 (by have := (kids_ok ok' k hk).2.2; omega) (by have := (kids_ok ok' k hk).2.1; omega)
    have wl : ∀ r st f, (wdsD (words w.tops r st f)).length = (br r).length := fun r st f => by unfold wdsD; rw [List.length_map, words_len]
    have one : ∀ k, kids r = [k] → (∀ st f, words w.tops r st f = words w.tops k (st || isB (rng w.tops r).1 (rng w.tops r).2) (f != turn r)) → (∃ w rest, toD r = .tup (.str w :: rest) ∧ w ≠ .w_hear) →
        callF (j + 6 + 1) .words_within [netD w, toD r, .bl st, .bl false, .bl f] δ = some (.lst (wdsD (words w.tops r st f)), δ) := fun k ek ew ⟨w', rest, e1, e2⟩ => by
      have par' : callF (j + 6) .parts_of [toD r] δ = some (.tup [toD k], δ) := by rw [par, ek]; rfl
      have h1 := sub k (by rw [ek]; simp) (st || isB (rng w.tops r).1 (rng w.tops r).2) (f != turn r)
      rw [ew]
      rw [ne_eq'] at h1 ⊢
      exact ww1 (n := j + 6) e1 e2 hr htn par' h1 (by rw [wl]; have := (kids_ok ok' k (by rw [ek]; simp)).2.2; omega)
    cases r
    case is c => exact ww0 (n := j + 6) (d := toD (.is c)) rfl (by decide) hr htn par
    case hear c =>
      simp only [toD, rng] at hr
      simp only [words, isB, wdsD]
      generalize w.tops.getD c 0 = tv at hr ⊢
      apply call_rt (by decide) rfl
      rcases Bool.eq_false_or_eq_true (decide ((0 : Int) = tv)) with q | q <;> cases st <;> cases f <;> simp [F.body, b_words_within, toD, atD0, hr, q, exec, evE, evL, evO, evT, evI, evM, evPar, view, Sl.full, Sl.hide, evIsi, blOf, intOf, wdOf, seqOf, intsOf, blsOf, wdsOf, evBin, ii, evEq, evAdd, evMul, evFdiv, evIs, evIn, evIx, evSl, evB, seq1, lst1, int2, evMM, evSort, fitN, eqD, eqDs, isFresh, flat, flats, setAll, asgS, asg, F.ns, F.np, List.replicate_succ, List.replicate_zero, List.map_cons, List.map_nil]
    case agg1 g r => exact one r rfl (fun _ _ => rfl) ⟨_, _, rfl, (gw_ne g).2⟩
    case agg2 g r s =>
      have h1 := sub r (by simp [kids]) (st || isB (rng w.tops (.agg2 g r s)).1 (rng w.tops (.agg2 g r s)).2) (f != false)
      have h2 := sub s (by simp [kids]) (st || isB (rng w.tops (.agg2 g r s)).1 (rng w.tops (.agg2 g r s)).2) (f != false)
      rw [ne_eq'] at h1 h2
      simp only [br, List.length_append] at hl
      have z := ww2 (n := j + 6) (d := toD (.agg2 g r s)) rfl (gw_ne g).2 hr htn par h1 h2 (by rw [wl, wl]; exact hl)
      rw [z]
      simp [words, wdsD]
    case mid r s t =>
      have h1 := sub r (by simp [kids]) (st || isB (rng w.tops (.mid r s t)).1 (rng w.tops (.mid r s t)).2) (f != false)
      have h2 := sub s (by simp [kids]) (st || isB (rng w.tops (.mid r s t)).1 (rng w.tops (.mid r s t)).2) (f != false)
      have h3 := sub t (by simp [kids]) (st || isB (rng w.tops (.mid r s t)).1 (rng w.tops (.mid r s t)).2) (f != false)
      rw [ne_eq'] at h1 h2 h3
      simp only [br, List.length_append] at hl
      have z := ww3 (n := j + 6) (d := toD (.mid r s t)) rfl (by decide) hr htn par h1 h2 h3 (by rw [wl, wl, wl]; exact hl)
      rw [z]
      simp [words, wdsD]
    case times k r => exact one r rfl (fun _ _ => rfl) ⟨_, _, rfl, by decide⟩
    case part k r => exact one r rfl (fun _ _ => rfl) ⟨_, _, rfl, by decide⟩
    case clip lo hi r => exact one r rfl (fun _ _ => rfl) ⟨_, _, rfl, by decide⟩
    case frm c r => exact one r rfl (fun _ _ => rfl) ⟨_, _, rfl, by decide⟩
    case bar t lo hi r => exact one r rfl (fun _ _ => rfl) ⟨_, _, rfl, by decide⟩
    case row ws r => exact one r rfl (fun _ _ => rfl) ⟨_, _, rfl, by decide⟩
section
variable {w : Net}
theorem atD_rule (o : w.Ok) {j : Nat} (hj : j < w.n) : atD (w.rules.map toD) (j : Int) = some (toD (w.rule j)) := by
  have hl : j < w.rules.length := by rw [o.len]; exact hj
  unfold atD Net.rule
  rw [if_pos (by omega), List.getElem?_map, show ((j : Nat) : Int).toNat = j by omega, List.getElem?_eq_getElem hl, List.getD_eq_getElem?_getD, List.getElem?_eq_getElem hl]
  rfl
theorem atD_top {j : Nat} (hj : j < w.n) : atD (w.tops.map .int) (j : Int) = some (.int (w.top j)) := atD_get hj
theorem house_range_ok (o : w.Ok) (δ : Dl) {m j : Nat} (hj : j < w.n) (hm : 14 ≤ m) : callF m .house_range [netD w, .int j] δ = some (.tup [.int (w.hr j).1, .int (w.hr j).2], δ) := by
  obtain ⟨n, rfl⟩ : ∃ n, m = n + 1 := ⟨m - 1, by omega⟩
  obtain ⟨ok', h4, _⟩ := o.rk hj
  have q := range_ok o δ n (w.rule j) ok' (by omega)
  have a1 := atD_rule o hj
  have a2 := atD_top (w := w) hj
  unfold Net.hr
  apply call_rt (by decide) rfl
  simp only [netD] at q ⊢
  simp [F.body, b_house_range, atD0, atD1, a1, a2, q, mn2, exec, evE, evL, evO, evT, evI, evM, evPar, view, Sl.full, Sl.hide, evIsi, blOf, intOf, wdOf, seqOf, intsOf, blsOf, wdsOf, evBin, ii, evEq, evAdd, evMul, evFdiv, evIs, evIn, evIx, evSl, evB, seq1, lst1, int2, evMM, evSort, fitN, eqD, eqDs, isFresh, flat, flats, setAll, asgS, asg, F.ns, F.np, List.replicate_succ, List.replicate_zero, List.map_cons, List.map_nil]
theorem ways_ok (o : w.Ok) (δ : Dl) {m j : Nat} (hj : j < w.n) (hm : 16 ≤ m) : callF m .ways [netD w, .int j] δ = some (.tup (wdsD (w.hw j)), δ) := by
  obtain ⟨n, rfl⟩ : ∃ n, m = n + 1 := ⟨m - 1, by omega⟩
  obtain ⟨ok', h4, h5⟩ := o.rk hj
  have q1 := house_range_ok o δ (m := n) hj (by omega)
  have q2 := words_ok o δ n (w.rule j) (isB (w.hr j).1 (w.hr j).2) false ok' (by omega) (by omega)
  have a1 := atD_rule o hj
  unfold Net.hw
  unfold isB at q2 ⊢
  apply call_rt (by decide) rfl
  simp only [netD] at q1 q2 ⊢
  simp [F.body, b_ways, atD0, atD1, a1, q1, q2, exec, evE, evL, evO, evT, evI, evM, evPar, view, Sl.full, Sl.hide, evIsi, blOf, intOf, wdOf, seqOf, intsOf, blsOf, wdsOf, evBin, ii, evEq, evAdd, evMul, evFdiv, evIs, evIn, evIx, evSl, evB, seq1, lst1, int2, evMM, evSort, fitN, eqD, eqDs, isFresh, flat, flats, setAll, asgS, asg, F.ns, F.np, List.replicate_succ, List.replicate_zero, List.map_cons, List.map_nil]
theorem wanted_ok (o : w.Ok) (δ : Dl) {m j : Nat} (hj : j < w.n) (hm : 14 ≤ m) {hs : List Int} (hp : ∀ x ∈ hs, 0 ≤ x) (hl : (br (w.rule j)).length ≤ hs.length) : callF m .wanted [netD w, .int j, .tup (hs.map .int)] δ = some (.int (w.want j fun i => hs.getD i 0), δ) := by
  obtain ⟨n, rfl⟩ : ∃ n, m = n + 1 := ⟨m - 1, by omega⟩
  obtain ⟨ok', h4, h5⟩ := o.rk hj
  have q := told_ok (m := n) δ hp ok' hl (by omega)
  have a1 := atD_rule o hj
  have a2 := atD_top (w := w) hj
  unfold Net.want
  apply call_rt (by decide) rfl
  simp only [netD]
  simp [F.body, b_wanted, atD0, atD1, a1, a2, q, mn2, exec, evE, evL, evO, evT, evI, evM, evPar, view, Sl.full, Sl.hide, evIsi, blOf, intOf, wdOf, seqOf, intsOf, blsOf, wdsOf, evBin, ii, evEq, evAdd, evMul, evFdiv, evIs, evIn, evIx, evSl, evB, seq1, lst1, int2, evMM, evSort, fitN, eqD, eqDs, isFresh, flat, flats, setAll, asgS, asg, F.ns, F.np, List.replicate_succ, List.replicate_zero, List.map_cons, List.map_nil]
theorem l_wants_ok (o : w.Ok) (δ : Dl) {m j : Nat} (hj : j < w.n) (hm : 10 ≤ m) {hs : List Int} (hp : ∀ x ∈ hs, 0 ≤ x) (hl : (br (w.rule j)).length ≤ hs.length) : callF m .l_wants [netD w, .int j, .lst (hs.map .int)] δ = some (.int (w.want j fun i => hs.getD i 0), δ) := by
  obtain ⟨n, rfl⟩ : ∃ n, m = n + 1 := ⟨m - 1, by omega⟩
  obtain ⟨ok', h4, h5⟩ := o.rk hj
  have q := l_told_ok δ n (w.rule j) hs ok' hp hl (by omega) (by omega)
  have a1 := atD_rule o hj
  have a2 := atD_top (w := w) hj
  unfold Net.want
  apply call_rt (by decide) rfl
  simp only [netD]
  simp [F.body, b_l_wants, atD0, atD1, a1, a2, q, mn2, exec, evE, evL, evO, evT, evI, evM, evPar, view, Sl.full, Sl.hide, evIsi, blOf, intOf, wdOf, seqOf, intsOf, blsOf, wdsOf, evBin, ii, evEq, evAdd, evMul, evFdiv, evIs, evIn, evIx, evSl, evB, seq1, lst1, int2, evMM, evSort, fitN, eqD, eqDs, isFresh, flat, flats, setAll, asgS, asg, F.ns, F.np, List.replicate_succ, List.replicate_zero, List.map_cons, List.map_nil]
end
end NB

set_option Elab.async false
set_option linter.all false
set_option maxRecDepth 100000
set_option maxHeartbeats 2000000
/-! The program's ends. -/
namespace NB
theorem compGo_to {α : Type} {tst : Env → Dl → Option (Bool × Dl)} {elt : Env → Dl → Option (D × Dl)} {tg : Tg} {ρ : Env} {a b : α → D} : ∀ {l : List α} {δ : Dl}, (∀ x ∈ l, ∃ ρ1, asg tg ρ (a x) = some ρ1 ∧ tst ρ1 δ = some (true, δ) ∧ elt ρ1 δ = some (b x, δ)) → compGo tst elt tg ρ (l.map a) δ = some (l.map b, δ)
  | [], δ, _ => rfl
  | x :: xs, δ, h => by
    obtain ⟨ρ1, h1, h2, h3⟩ := h x List.mem_cons_self
    rw [List.map_cons, compGo, h1]
    simp only [bd, h2, h3, compGo_to (l := xs) (fun y hy => h y (List.mem_cons_of_mem _ hy)), List.map_cons, if_true]
theorem forGo_inv {body : List Sl → Dl → Option (Fl × Dl)} {tg : Tg} (P : List Sl → Prop) : ∀ {xs : List D} {ρ : List Sl} {δ : Dl}, P ρ → (∀ x ∈ xs, ∀ ρ, P ρ → ∃ ρ1 ρ2, asgS tg ρ x = some ρ1 ∧ body ρ1 δ = some (.nx ρ2, δ) ∧ P ρ2) → ∃ ρ', forGo body tg xs ρ δ = some (.nx ρ', δ) ∧ P ρ'
  | [], ρ, δ, p, _ => ⟨ρ, rfl, p⟩
  | x :: xs, ρ, δ, p, h => by
    obtain ⟨ρ1, ρ2, h1, h2, h3⟩ := h x List.mem_cons_self ρ p
    obtain ⟨ρ', h4, h5⟩ := forGo_inv P (xs := xs) h3 fun y hy => h y (List.mem_cons_of_mem _ hy)
    refine ⟨ρ', ?_, h5⟩
    rw [forGo, h1]
    simp only [bd, h2, h4]
theorem no_both (tops : List Int) : ∀ (r : R) (st f : Bool), Wd.w_both ∉ words tops r st f
  | .is c, _, _ => by simp [words]
  | .hear h, st, f => by simp only [words, List.mem_singleton]; split <;> (try split) <;> decide
  | .agg1 g r, _, _ => no_both tops r _ _
  | .agg2 g r s, _, _ => by simp only [words, List.mem_append, not_or]; exact ⟨no_both tops r _ _, no_both tops s _ _⟩
  | .mid r s t, _, _ => by simp only [words, List.mem_append, not_or]; exact ⟨no_both tops r _ _, no_both tops s _ _, no_both tops t _ _⟩
  | .times k r, _, _ => no_both tops r _ _
  | .part k r, _, _ => no_both tops r _ _
  | .clip lo hi r, _, _ => no_both tops r _ _
  | .frm c r, _, _ => no_both tops r _ _
  | .bar t lo hi r, _, _ => no_both tops r _ _
  | .row ws r, _, _ => no_both tops r _ _
theorem wdsOf_map : ∀ l : List Wd, wdsOf (l.map .str) = some l
  | [] => rfl
  | x :: l => by simp [wdsOf, wdOf, wdsOf_map l]
theorem enumD_range (f : Nat → D) : ∀ (n k : Nat), enumD k ((List.range n).map fun i => f (k + i)) = (List.range n).map fun i => .tup [.int ((k + i : Nat) : Int), f (k + i)]
  | 0, k => rfl
  | n + 1, k => by
    rw [List.range_succ_eq_map, List.map_cons, List.map_cons, List.map_map, List.map_map, enumD]
    have e := enumD_range f n (k + 1)
    have e1 : (List.range n).map ((fun i => f (k + i)) ∘ Nat.succ) = (List.range n).map fun i => f (k + 1 + i) := by
      apply List.map_congr_left
      intro i _
      show f (k + (i + 1)) = _
      congr 1
      omega
    rw [e1, e]
    congr 1
    apply List.map_congr_left
    intro i _
    show D.tup [.int ((k + 1 + i : Nat) : Int), f (k + 1 + i)] = D.tup [.int ((k + (i + 1) : Nat) : Int), f (k + (i + 1))]
    rw [show k + 1 + i = k + (i + 1) by omega]
section
variable {w : Net}
def foundL (w : Net) : List D := (List.range w.n).map fun j => .tup (wdsD (w.hw j))
theorem one_way_c (o : w.Ok) (δ : Dl) {n : Nat} (hm : 16 ≤ n) : compGo (fun r δ => evT (callF n) .nop r δ) (fun r δ => evE (callF n) (.call .ways (.cons (.var 0) (.cons (.var 2) .nil))) r δ) (.one 2) (wipeE [some (netD w), none, none, none] [2]) ((List.range w.n).map fun (k : Nat) => .int (0 + (k : Int))) δ = some (foundL w, δ) := by
  refine compGo_to fun j hj => ?_
  have hj := List.mem_range.mp hj
  refine ⟨_, rfl, rfl, ?_⟩
  have q := ways_ok o δ (m := n) hj hm
  simp [wipeE, q, exec, evE, evL, evO, evT, evI, evM, evPar, view, Sl.full, Sl.hide, evIsi, blOf, intOf, wdOf, seqOf, intsOf, blsOf, wdsOf, evBin, ii, evEq, evAdd, evMul, evFdiv, evIs, evIn, evIx, evSl, evB, seq1, lst1, int2, evMM, evSort, fitN, eqD, eqDs, isFresh, flat, flats, setAll, asgS, asg, F.ns, F.np, List.replicate_succ, List.replicate_zero, List.map_cons, List.map_nil]
theorem one_way_t (w : Net) (δ : Dl) (n j : Nat) (a b : Sl) : exec (callF n) (.seq (.ife (.bin .inn (.str .w_both) (.var 3)) (.seq .never .skip) .skip) .skip) [.va (netD w), .va (.lst (foundL w)), .va (.int j), .va (.tup (wdsD (w.hw j)))] δ = some (.nx [.va (netD w), .va (.lst (foundL w)), .va (.int j), .va (.tup (wdsD (w.hw j)))], δ) := by
  have nb2 : Wd.w_both ∉ w.hw j := no_both w.tops (w.rule j) (isB (w.hr j).1 (w.hr j).2) false
  have wo := wdsOf_map (w.hw j)
  generalize w.hw j = ws at nb2 wo
  generalize netD w = nt
  generalize foundL w = fl
  unfold wdsD
  simp [exec, evE, evBin, evIn, seqOf, wdsOf_map, view, Sl.full, blOf, nb2]
theorem one_way_f (w : Net) (δ : Dl) (n : Nat) : ∃ a b, forGo (fun r d => exec (callF n) (.seq (.ife (.bin .inn (.str .w_both) (.var 3)) (.seq .never .skip) .skip) .skip) r d) (.many [2, 3]) (enumD 0 (foundL w)) [.va (netD w), .va (.lst (foundL w)), .no, .no] δ = some (.nx [.va (netD w), .va (.lst (foundL w)), a, b], δ) := by
  obtain ⟨ρ', h1, a, b, e⟩ := forGo_inv (body := fun r d => exec (callF n) (.seq (.ife (.bin .inn (.str .w_both) (.var 3)) (.seq .never .skip) .skip) .skip) r d) (tg := .many [2, 3]) (fun ρ => ∃ a b, ρ = [.va (netD w), .va (.lst (foundL w)), a, b]) (xs := enumD 0 (foundL w)) (ρ := [.va (netD w), .va (.lst (foundL w)), .no, .no]) (δ := δ) ⟨_, _, rfl⟩ (by
    intro x hx ρ ⟨a, b, e⟩
    subst e
    have e := enumD_range (fun j => D.tup (wdsD (w.hw j))) w.n 0
    simp only [Nat.zero_add] at e
    unfold foundL at hx
    rw [e] at hx
    obtain ⟨j, _, rfl⟩ := List.mem_map.mp hx
    exact ⟨_, [.va (netD w), .va (.lst (foundL w)), .va (.int j), .va (.tup (wdsD (w.hw j)))], rfl, one_way_t w δ n j a b, _, _, rfl⟩)
  subst e
  exact ⟨a, b, h1⟩
theorem seqNx {cf : CF} {a b : S} {ρ ρ1 : List Sl} {δ δ1 : Dl} {r : Option (Fl × Dl)} (h : exec cf a ρ δ = some (.nx ρ1, δ1)) (k : exec cf b ρ1 δ1 = r) : exec cf (.seq a b) ρ δ = r := by
  rw [exec, h]
  exact k
theorem seqRt {cf : CF} {a b : S} {ρ : List Sl} {δ δ1 : Dl} {d : D} (h : exec cf a ρ δ = some (.rt d, δ1)) : exec cf (.seq a b) ρ δ = some (.rt d, δ1) := by
  rw [exec, h]
  rfl
theorem itR1E {x : Int} (h62 : x < 4611686018427387904) (h63 : -4611686018427387904 ≤ x) {δ : Dl} {cf : CF} {a : E} {ρ : Env} (e : evE cf a ρ δ = some (.int x, δ)) : evI cf (.itR1 a) ρ δ = some ((List.range x.toNat).map fun (k : Nat) => D.int (0 + (k : Int)), δ) := by
  rw [evI, e]
  simp [intOf, h62, h63]
theorem lcE {cf : CF} {own : List Nat} {tg : Tg} {it c elt : E} {ρ : Env} {xs ds : List D} {δ δ1 δ2 : Dl} (h1 : evI cf it ρ δ = some (xs, δ1)) (h2 : xs.length ≤ 100000) (h3 : compGo (fun r δ => evT cf c r δ) (fun r δ => evE cf elt r δ) tg (wipeE ρ own) xs δ1 = some (ds, δ2)) : evE cf (.lc own tg it c elt) ρ δ = some (.lst ds, δ2) := by
  rw [evE, h1]
  simp only [bd]
  rw [if_pos h2, h3]
  rfl
theorem setE {cf : CF} {x : Nat} {e : E} {ρ : List Sl} {d : D} {δ δ1 : Dl} (h : evE cf e (view false ρ) δ = some (d, δ1)) : exec cf (.set x e ⟨false, false⟩) ρ δ = some (.nx (ρ.set x (.va d)), δ1) := by
  rw [exec, evM, h]
  rfl
theorem one_way_l (o : w.Ok) (δ : Dl) {cf : CF} : evE cf (.fn .len (.cons (.ix (.var 0) (.int 1)) .nil)) [some (netD w), none, none, none] δ = some (.int w.n, δ) := by
  have hn : w.rules.length = w.n := o.len
  unfold netD
  simp [evE, evL, evIx, atD1, evB, seq1, seqOf, hn]
theorem small5 (o : w.Ok) : ((List.range ((w.n : Nat) : Int).toNat).map fun (k : Nat) => D.int (0 + (k : Int))).length ≤ 100000 := by
  have small : w.n ≤ 5 := o.small
  rw [List.length_map, List.length_range]
  omega
theorem small62 (o : w.Ok) : (w.n : Int) < 4611686018427387904 ∧ -4611686018427387904 ≤ (w.n : Int) := by
  have small : w.n ≤ 5 := o.small
  omega
theorem one_way_1 (o : w.Ok) (δ : Dl) {n : Nat} (hm : 16 ≤ n) : exec (callF n) (.set 1 (.lc [2] (.one 2) (.itR1 (.fn .len (.cons (.ix (.var 0) (.int 1)) .nil))) .nop (.call .ways (.cons (.var 0) (.cons (.var 2) .nil)))) ⟨false, false⟩) [.va (netD w), .no, .no, .no] δ = some (.nx [.va (netD w), .va (.lst (foundL w)), .no, .no], δ) :=
  setE (ρ := [.va (netD w), .no, .no, .no]) (lcE (itR1E (small62 o).1 (small62 o).2 (one_way_l o δ)) (small5 o) (by
    have hc := one_way_c o δ hm
    rw [show ((w.n : Nat) : Int).toNat = w.n by omega]
    exact hc))
theorem one_way_ok (o : w.Ok) (δ : Dl) {m : Nat} (hm : 17 ≤ m) : callF m .one_way [netD w] δ = some (.lst (foundL w), δ) := by
  obtain ⟨n, rfl⟩ : ∃ n, m = n + 1 := ⟨m - 1, by omega⟩
  obtain ⟨a, b, h1⟩ := one_way_f w δ n
  apply call_rt (by decide) rfl
  show exec (callF n) b_one_way [.va (netD w), .no, .no, .no] δ = _
  unfold b_one_way
  refine seqNx (one_way_1 o δ (by omega)) (seqNx (ρ1 := [.va (netD w), .va (.lst (foundL w)), a, b]) (δ1 := δ) ?_ (seqRt ?_))
  · rw [exec, evI]
    have e : evE (callF n) (.var 1) (view false [.va (netD w), .va (.lst (foundL w)), .no, .no]) δ = some (.lst (foundL w), δ) := rfl
    rw [e]
    exact h1
  · rfl
end
end NB

set_option Elab.async false
set_option linter.all false
set_option maxRecDepth 100000
set_option maxHeartbeats 2000000
/-! The program's ends: rounds. -/
namespace NB
section
theorem retE {cf : CF} {e : E} {ρ : List Sl} {d : D} {δ δ1 : Dl} (h : evE cf e (view true ρ) δ = some (d, δ1)) : exec cf (.ret e) ρ δ = some (.rt d, δ1) := by
  rw [exec, h]
  rfl
theorem fnTupE {cf : CF} {e : E} {ρ : Env} {ds : List D} {δ δ1 : Dl} (h : evE cf e ρ δ = some (.lst ds, δ1)) : evE cf (.fn .tuple (.cons e .nil)) ρ δ = some (.tup ds, δ1) := by
  simp [evE, evL, h, evB, seq1, seqOf]
theorem itZE {cf : CF} {a b : E} {ρ : Env} {x y : D} {xs ys : List D} {δ δ1 δ2 : Dl} (h1 : evE cf a ρ δ = some (x, δ1)) (h2 : evE cf b ρ δ1 = some (y, δ2)) (h3 : seqOf x = some xs) (h4 : seqOf y = some ys) : evI cf (.itZ a b) ρ δ = some (List.zipWith (fun p q => .tup [p, q]) xs ys, δ2) := by
  simp [evI, h1, h2, h3, h4]
/-- the ends as the program holds them -/
def eD (e : List Int × List Int) : D := .tup [.tup (e.1.map .int), .tup (e.2.map .int)]
variable {w : Net}
theorem zipWith_range {f : D → D → D} : ∀ {n : Nat} {a b : Nat → D}, List.zipWith f ((List.range n).map a) ((List.range n).map b) = (List.range n).map fun i => f (a i) (b i) := by
  intro n a b
  apply List.ext_getElem?
  intro i
  rw [List.getElem?_zipWith, List.getElem?_map, List.getElem?_map, List.getElem?_map]
  cases (List.range n)[i]? <;> rfl
theorem map_range_getD {α β : Type} (f : α → β) (d : α) (l : List α) : l.map f = (List.range l.length).map fun i => f (l.getD i d) := by
  apply List.ext_getElem?
  intro i
  rw [List.getElem?_map, List.getElem?_map]
  by_cases h : i < l.length
  · rw [List.getElem?_range h, List.getElem?_eq_getElem h]
    simp only [Option.map_some, List.getD_eq_getElem?_getD, List.getElem?_eq_getElem h, Option.getD_some]
  · rw [List.getElem?_eq_none (by omega), List.getElem?_eq_none (by rw [List.length_range]; omega)]
    rfl
def hearL (w : Net) (j : Nat) (near far : List Int) : List Int := (List.range (br (w.rule j)).length).map (hear2 w j near far)
theorem heard_ends_ok (o : w.Ok) (δ : Dl) {m j : Nat} (hj : j < w.n) (hm : 14 ≤ m) {near far : List Int} (l1 : near.length = w.n) (l2 : far.length = w.n) :
    callF m .heard_ends [netD w, .int j, .tup (wdsD (w.hw j)), .tup (near.map .int), .tup (far.map .int)] δ = some (.tup ((hearL w j near far).map .int), δ) := by
  obtain ⟨n, rfl⟩ : ∃ n, m = n + 1 := ⟨m - 1, by omega⟩
  obtain ⟨ok', h4, h5⟩ := o.rk hj
  have q := branches_ok δ n (w.rule j) ok' (by omega) (by omega)
  have a1 := atD_rule o hj
  have wl : (w.hw j).length = (br (w.rule j)).length := words_len _ _ _ _
  have eb : brD (w.rule j) = (List.range (br (w.rule j)).length).map fun i => .int (((br (w.rule j)).getD i 0 : Nat) : Int) := map_range_getD _ 0 _
  have ew : wdsD (w.hw j) = (List.range (br (w.rule j)).length).map fun i => .str ((w.hw j).getD i .w_none) := by rw [← wl]; exact map_range_getD _ _ _
  have hc : compGo (fun r δ => evT (callF n) .nop r δ) (fun r δ => evE (callF n) (.ite (.bin .eq (.var 7) (.str .w_falls)) (.ix (.var 4) (.var 6)) (.ix (.var 3) (.var 6))) r δ) (.many [6, 7]) (wipeE [some (netD w), some (.int j), some (.tup (wdsD (w.hw j))), some (.tup (near.map .int)), some (.tup (far.map .int)), none, none, none] [6, 7]) (List.zipWith (fun p q => .tup [p, q]) (brD (w.rule j)) (wdsD (w.hw j))) δ = some ((hearL w j near far).map .int, δ) := by
    rw [eb, ew, zipWith_range]
    unfold hearL
    rw [List.map_map]
    refine compGo_to fun i hi => ?_
    have hi := List.mem_range.mp hi
    have lt : (br (w.rule j)).getD i 0 < w.n := by
      rw [List.getD_eq_getElem?_getD, List.getElem?_eq_getElem hi]
      exact br_lt _ ok' _ (List.getElem_mem hi)
    have x1 := atD_get (hs := near) (a := (br (w.rule j)).getD i 0) (by omega)
    have x2 := atD_get (hs := far) (a := (br (w.rule j)).getD i 0) (by omega)
    have e3 : (w.hw j)[i]? = some ((w.hw j).getD i .w_none) := by
      have hw' : i < (w.hw j).length := by omega
      rw [List.getD_eq_getElem?_getD, List.getElem?_eq_getElem hw']
      rfl
    have h2 : hear2 w j near far i = if (w.hw j).getD i .w_none = .w_falls then far.getD ((br (w.rule j)).getD i 0) 0 else near.getD ((br (w.rule j)).getD i 0) 0 := by
      unfold hear2
      rw [e3]
      simp only [Option.some.injEq]
    refine ⟨_, rfl, rfl, ?_⟩
    show _ = some (D.int (hear2 w j near far i), δ)
    rw [h2]
    generalize (br (w.rule j)).getD i 0 = b at x1 x2 ⊢
    generalize (w.hw j).getD i .w_none = v
    by_cases q : v = .w_falls
    · simp [wipeE, List.zip, List.zipWith, q, x2, exec, evE, evL, evO, evT, evI, evM, evPar, view, Sl.full, Sl.hide, evIsi, blOf, intOf, wdOf, seqOf, intsOf, blsOf, wdsOf, evBin, ii, evEq, evAdd, evMul, evFdiv, evIs, evIn, evIx, evSl, evB, seq1, lst1, int2, evMM, evSort, fitN, eqD, eqDs, isFresh, flat, flats, setAll, asgS, asg, F.ns, F.np, List.replicate_succ, List.replicate_zero, List.map_cons, List.map_nil]
    · simp [wipeE, List.zip, List.zipWith, q, x1, exec, evE, evL, evO, evT, evI, evM, evPar, view, Sl.full, Sl.hide, evIsi, blOf, intOf, wdOf, seqOf, intsOf, blsOf, wdsOf, evBin, ii, evEq, evAdd, evMul, evFdiv, evIs, evIn, evIx, evSl, evB, seq1, lst1, int2, evMM, evSort, fitN, eqD, eqDs, isFresh, flat, flats, setAll, asgS, asg, F.ns, F.np, List.replicate_succ, List.replicate_zero, List.map_cons, List.map_nil]
  have hz : (List.zipWith (fun p q => D.tup [p, q]) (brD (w.rule j)) (wdsD (w.hw j))).length ≤ 100000 := by
    rw [List.length_zipWith, brD_len]
    omega
  apply call_rt (by decide) rfl
  have hv : evE (callF n) (.call .branches (.cons (.ix (.ix (.var 0) (.int 1)) (.var 1)) .nil)) [some (netD w), some (.int j), some (.tup (wdsD (w.hw j))), some (.tup (near.map .int)), some (.tup (far.map .int)), none, none, none] δ = some (.tup (brD (w.rule j)), δ) := by
    unfold netD
    simp [evE, evL, evIx, atD1, a1, q]
  exact seqRt (retE (ρ := [.va (netD w), .va (.int j), .va (.tup (wdsD (w.hw j))), .va (.tup (near.map .int)), .va (.tup (far.map .int)), .no, .no, .no]) (fnTupE (lcE (itZE hv rfl rfl rfl) hz hc)))
theorem stepped_ok (o : w.Ok) (δ : Dl) {m : Nat} (hm : 16 ≤ m) {e : List Int × List Int} (E : EOk w e) : callF m .stepped [netD w, .lst (foundL w), eD e] δ = some (eD (stepE w e), δ) := by
  obtain ⟨n, rfl⟩ : ∃ n, m = n + 1 := ⟨m - 1, by omega⟩
  have en : enumD 0 (foundL w) = (List.range w.n).map fun j => .tup [.int ((j : Nat) : Int), .tup (wdsD (w.hw j))] := by
    have e := enumD_range (fun j => D.tup (wdsD (w.hw j))) w.n 0
    simp only [Nat.zero_add] at e
    exact e
  have nn : ∀ (near far : List Int), (∀ c, c < w.n → 0 ≤ near.getD c 0) → (∀ c, c < w.n → 0 ≤ far.getD c 0) → near.length = w.n → far.length = w.n → ∀ j, j < w.n → (∀ x ∈ hearL w j near far, 0 ≤ x) ∧ w.want j (fun i => (hearL w j near far).getD i 0) = w.want j (hear2 w j near far) := fun near far h1 h2 l1 l2 j hj => by
    constructor
    · intro x hx
      obtain ⟨i, hi, rfl⟩ := List.mem_map.mp hx
      have hi := List.mem_range.mp hi
      have lt : (br (w.rule j)).getD i 0 < w.n := by
        rw [List.getD_eq_getElem?_getD, List.getElem?_eq_getElem hi]
        exact br_lt _ (o.rk hj).1 _ (List.getElem_mem hi)
      unfold hear2
      split
      · exact h2 _ lt
      · exact h1 _ lt
    · unfold Net.want
      congr 1
      apply val_congr
      intro i hi
      exact getD_map hi
  have p1 : ∀ c, c < w.n → 0 ≤ e.1.getD c 0 := fun c hc => (E.nn c hc).1
  have p2 : ∀ c, c < w.n → 0 ≤ e.2.getD c 0 := fun c hc => Int.le_trans (E.nn c hc).1 (E.nn c hc).2.1
  have go : ∀ (near far : List Int) (i1 i2 : Nat) (ρ : Env), (∀ c, c < w.n → 0 ≤ near.getD c 0) → (∀ c, c < w.n → 0 ≤ far.getD c 0) → near.length = w.n → far.length = w.n → ρ.length = 9 → i1 < 6 → i2 < 6 → ρ[0]? = some (some (netD w)) → ρ[1]? = some (some (.lst (foundL w))) → ρ[i1]? = some (some (.tup (near.map .int))) → ρ[i2]? = some (some (.tup (far.map .int))) →
      evE (callF n) (.lc [6, 7] (.many [6, 7]) (.itE (.var 1)) .nop (.call .wanted (.cons (.var 0) (.cons (.var 6) (.cons (.call .heard_ends (.cons (.var 0) (.cons (.var 6) (.cons (.var 7) (.cons (.var i1) (.cons (.var i2) .nil)))))) .nil))))) ρ δ = some (.lst (((List.range w.n).map fun j => w.want j (hear2 w j near far)).map .int), δ) := by
    intro near far i1 i2 ρ h1 h2 l1 l2 hl b1 b2 r0 r1 r2 r3
    refine lcE (xs := enumD 0 (foundL w)) (δ1 := δ) (by simp [evI, evE, r1, seqOf]) (by rw [en, List.length_map, List.length_range]; have := o.small; have : w.n = w.tops.length := rfl; omega) ?_
    rw [en, List.map_map]
    refine compGo_to fun j hj => ?_
    have hj := List.mem_range.mp hj
    obtain ⟨z1, z2⟩ := nn near far h1 h2 l1 l2 j hj
    have q1 := heard_ends_ok o δ (m := n) hj (by omega) l1 l2
    have q2 := wanted_ok o δ (m := n) hj (by omega) z1 (by unfold hearL; rw [List.length_map, List.length_range]; exact Nat.le_refl _)
    rw [z2] at q2
    refine ⟨_, rfl, rfl, ?_⟩
    have w0 : ∀ k, k < 6 → (((wipeE ρ [6, 7]).set 6 (some (.int j))).set 7 (some (.tup (wdsD (w.hw j)))))[k]? = ρ[k]? := fun k hk => by
      simp only [wipeE]
      rw [List.getElem?_set_ne (by omega), List.getElem?_set_ne (by omega), List.getElem?_set_ne (by omega), List.getElem?_set_ne (by omega)]
    have w6 : (((wipeE ρ [6, 7]).set 6 (some (.int j))).set 7 (some (.tup (wdsD (w.hw j)))))[6]? = some (some (.int j)) := by
      rw [List.getElem?_set_ne (by omega), List.getElem?_set_self (by simp [wipeE, hl])]
    have w7 : (((wipeE ρ [6, 7]).set 6 (some (.int j))).set 7 (some (.tup (wdsD (w.hw j)))))[7]? = some (some (.tup (wdsD (w.hw j)))) := List.getElem?_set_self (by simp [wipeE, hl])
    show evE (callF n) _ (((wipeE ρ [6, 7]).set 6 (some (.int j))).set 7 (some (.tup (wdsD (w.hw j))))) δ = _
    generalize (((wipeE ρ [6, 7]).set 6 (some (.int j))).set 7 (some (.tup (wdsD (w.hw j))))) = ρ' at w0 w6 w7 ⊢
    have a0 : ρ'[0]? = some (some (netD w)) := (w0 0 (by omega)).trans r0
    have a1 := (w0 i1 b1).trans r2
    have a2 := (w0 i2 b2).trans r3
    simp [evE, evL, a0, a1, a2, w6, w7, q1, q2]
  apply call_rt (by decide) rfl
  have s1 := go e.1 e.2 3 4 [some (netD w), some (.lst (foundL w)), some (eD e), some (.tup (e.1.map .int)), some (.tup (e.2.map .int)), none, none, none, none] p1 p2 E.l1 E.l2 rfl (by decide) (by decide) rfl rfl rfl rfl
  have s2 := go e.2 e.1 4 3 [some (netD w), some (.lst (foundL w)), some (eD e), some (.tup (e.1.map .int)), some (.tup (e.2.map .int)), some (.lst ((stepE w e).1.map .int)), none, none, none] p2 p1 E.l2 E.l1 rfl (by decide) (by decide) rfl rfl rfl rfl
  exact seqNx (ρ1 := [.va (netD w), .va (.lst (foundL w)), .va (eD e), .va (.tup (e.1.map .int)), .va (.tup (e.2.map .int)), .no, .no, .no, .no]) (δ1 := δ) rfl
    (seqNx (setE (ρ := [.va (netD w), .va (.lst (foundL w)), .va (eD e), .va (.tup (e.1.map .int)), .va (.tup (e.2.map .int)), .no, .no, .no, .no]) s1)
    (seqNx (setE (ρ := [.va (netD w), .va (.lst (foundL w)), .va (eD e), .va (.tup (e.1.map .int)), .va (.tup (e.2.map .int)), .va (.lst ((stepE w e).1.map .int)), .no, .no, .no]) s2) (seqRt rfl)))
end
end NB

set_option Elab.async false
set_option linter.all false
set_option maxRecDepth 100000
set_option maxHeartbeats 2000000
/-! The rows of ends; when a net rests. -/
namespace NB
section
variable {w : Net}
theorem first_ends_ok (o : w.Ok) (δ : Dl) {m : Nat} (hm : 18 ≤ m) : callF m .first_ends [netD w] δ = some (eD (firstE w), δ) := by
  obtain ⟨n, rfl⟩ : ∃ n, m = n + 1 := ⟨m - 1, by omega⟩
  have q := one_way_ok o δ (m := n) (by omega)
  have hn : w.n = w.tops.length := rfl
  have s1 := o.small
  have s2 := o.pos
  apply call_rt (by decide) rfl
  refine seqNx (ρ1 := [.va (netD w)]) (δ1 := δ) ?_ (seqRt (retE ?_))
  · show exec (callF n) (.drop _) [.va (netD w)] δ = _
    rw [exec]
    have e : evE (callF n) (.call .one_way (.cons (.var 0) .nil)) (view true [.va (netD w)]) δ = some (.lst (foundL w), δ) := by
      simp [evE, evL, view, Sl.full, q]
    rw [e]
    rfl
  · have h1 : (1 : Int) ≤ (w.tops.length : Int) := by omega
    have h2 : (w.tops.length : Int) ≤ 1000 := by omega
    unfold netD eD firstE
    simp [evE, evL, view, Sl.full, evIx, atD0, evB, seq1, seqOf, evBin, evMul, h1, h2, hn]
theorem ints_eqD : ∀ a b : List Int, eqDs (a.map .int) (b.map .int) = some (decide (a = b))
  | [], [] => by simp [eqDs]
  | [], _ :: _ => by simp [eqDs]
  | _ :: _, [] => by simp [eqDs]
  | x :: a, y :: b => by
    simp only [List.map_cons, eqDs, eqD]
    by_cases h : x = y
    · rw [decide_eq_true h]
      simp only [ints_eqD a b, List.cons.injEq, h, true_and]
    · rw [decide_eq_false h]
      simp [h]
theorem fit_ints (k : Nat) (a : List Int) : (a.map D.int).all (fitN k) = true := by
  rw [List.all_eq_true]
  intro d hd
  obtain ⟨i, _, rfl⟩ := List.mem_map.mp hd
  cases k <;> rfl
theorem eq_ints (a b : List Int) : evEq (.tup (a.map .int)) (.tup (b.map .int)) = some (decide (a = b)) := by
  have f1 : fitN 6 (.tup (a.map .int)) = true := fit_ints 5 a
  have f2 : fitN 6 (.tup (b.map .int)) = true := fit_ints 5 b
  unfold evEq
  simp only [f1, f2, and_self, if_true, eqD, ints_eqD]
theorem eq_eD (a b : List Int × List Int) : evEq (eD a) (eD b) = some (decide (a = b)) := by
  have f : ∀ a : List Int × List Int, fitN 6 (eD a) = true := fun a => by
    show ([D.tup (a.1.map .int), D.tup (a.2.map .int)]).all (fitN 5) = true
    have f1 : fitN 5 (.tup (a.1.map .int)) = true := fit_ints 4 a.1
    have f2 : fitN 5 (.tup (a.2.map .int)) = true := fit_ints 4 a.2
    simp [f1, f2]
  have g : eqD (eD a) (eD b) = some (decide (a = b)) := by
    simp only [eD, eqD, eqDs, ints_eqD]
    obtain ⟨a1, a2⟩ := a
    obtain ⟨b1, b2⟩ := b
    by_cases h1 : a1 = b1 <;> by_cases h2 : a2 = b2 <;> simp [h1, h2]
  show evEq (.tup _) (.tup _) = _
  unfold evEq
  simp only
  have h : fitN 6 (eD a) = true ∧ fitN 6 (eD b) = true := ⟨f a, f b⟩
  exact (if_pos h).trans g
def rowsL (w : Net) (k : Nat) : List D := (List.range (k + 1)).map fun t => eD (itE w t)
theorem rowsL_last (w : Net) (k : Nat) : atD (rowsL w k) (-1) = some (eD (itE w k)) := by
  unfold atD rowsL
  rw [if_neg (by decide), if_pos (by rw [List.length_map, List.length_range]; omega), List.length_map, List.length_range, List.getElem?_map]
  rw [show ((-1 : Int) + ((k + 1 : Nat) : Int)).toNat = k by omega, List.getElem?_range (by omega)]
  rfl
theorem rowsL_succ (w : Net) (k : Nat) : rowsL w (k + 1) = rowsL w k ++ [eD (itE w (k + 1))] := by
  unfold rowsL
  rw [List.range_succ, List.map_append]
  rfl
theorem rowsL_len (w : Net) (k : Nat) : (rowsL w k).length = k + 1 := by
  unfold rowsL
  rw [List.length_map, List.length_range]
/-- the loop's body: one round -/
def rowsB : S := (.seq (.set 4 (.call .stepped (.cons (.var 0) (.cons (.var 2) (.cons (.ix (.var 3) (.neg 1)) .nil)))) ⟨true, false⟩) (.seq (.ife (.bin .eq (.var 4) (.ix (.var 3) (.neg 1))) (.seq (.ret (.var 3)) .skip) .skip) (.seq (.app 3 (.var 4) ⟨false, false⟩) .skip)))
theorem flat_eD (e : List Int × List Int) : flat (eD e) = true := by
  have h : ∀ l : List Int, flats (l.map .int) = true := fun l => by
    induction l with
    | nil => rfl
    | cons x l ih => simp [flats, flat, ih]
  simp [eD, flat, flats, h]
theorem rows_turn (o : w.Ok) (δ : Dl) {n : Nat} (hn : 16 ≤ n) (k : Nat) (hk : k ≤ 100) (a : Sl) : exec (callF n) rowsB [.va (netD w), .va .non, .va (.lst (foundL w)), .ow (rowsL w k), a] δ =
    if stepE w (itE w k) = itE w k then some (.rt (.lst (rowsL w k)), δ) else some (.nx [.va (netD w), .va .non, .va (.lst (foundL w)), .ow (rowsL w (k + 1)), .va (eD (itE w (k + 1)))], δ) := by
  have q := stepped_ok o δ (m := n) hn (itE_ok o k).1
  have la := rowsL_last w k
  have s1 : exec (callF n) (.set 4 (.call .stepped (.cons (.var 0) (.cons (.var 2) (.cons (.ix (.var 3) (.neg 1)) .nil)))) ⟨true, false⟩) [.va (netD w), .va .non, .va (.lst (foundL w)), .ow (rowsL w k), a] δ = some (.nx [.va (netD w), .va .non, .va (.lst (foundL w)), .ow (rowsL w k), .va (eD (stepE w (itE w k)))], δ) := by
    have f := flat_eD (stepE w (itE w k))
    simp [exec, evM, evE, evL, view, Sl.full, evIx, la, q, f]
  have t1 : evE (callF n) (.bin .eq (.var 4) (.ix (.var 3) (.neg 1))) (view true [.va (netD w), .va .non, .va (.lst (foundL w)), .ow (rowsL w k), .va (eD (stepE w (itE w k)))]) δ = some (.bl (decide (stepE w (itE w k) = itE w k)), δ) := by
    have e := eq_eD (stepE w (itE w k)) (itE w k)
    simp [evE, evL, view, Sl.full, evIx, la, evBin, e]
  unfold rowsB
  refine seqNx s1 ?_
  by_cases h : stepE w (itE w k) = itE w k
  · rw [if_pos h]
    rw [decide_eq_true h] at t1
    refine seqRt ?_
    rw [exec, t1]
    rfl
  · rw [if_neg h]
    rw [decide_eq_false h] at t1
    refine seqNx (ρ1 := [.va (netD w), .va .non, .va (.lst (foundL w)), .ow (rowsL w k), .va (eD (stepE w (itE w k)))]) (δ1 := δ) ?_ ?_
    · rw [exec, t1]
      rfl
    · have hl : (rowsL w k).length < 100000 := by rw [rowsL_len]; omega
      have e : rowsL w k ++ [eD (stepE w (itE w k))] = rowsL w (k + 1) := (rowsL_succ w k).symm
      have f := flat_eD (stepE w (itE w k))
      simp [exec, evM, evE, view, Sl.hide, hl, e]
      rfl
end
end NB

set_option Elab.async false
set_option linter.all false
set_option maxRecDepth 100000
set_option maxHeartbeats 2000000
/-! The rows of ends, when a net rests. -/
namespace NB
section
variable {w : Net}
/-- the last round -/
structure Last (w : Net) (R : Nat) : Prop where
  le : R ≤ 25
  fix : stepE w (itE w R) = itE w R
  no : ∀ t, t < R → stepE w (itE w t) ≠ itE w t
def rowsT : E := .or (.bin .isS (.var 1) .non) (.one (.bin .le (.fn .len (.cons (.var 3) .nil)) (.var 1)))
theorem rows_loop (o : w.Ok) (δ : Dl) {n R : Nat} (hn : 16 ≤ n) (L : Last w R) : ∀ (f k : Nat) (a : Sl), k ≤ R → R - k < f →
    whGo (fun r d => do let (x, d) ← evE (callF n) rowsT (view true r) d; let t ← blOf x; some (t, d)) (fun r d => exec (callF n) rowsB r d) f [.va (netD w), .va .non, .va (.lst (foundL w)), .ow (rowsL w k), a] δ = some (.rt (.lst (rowsL w R)), δ) := by
  intro f
  induction f with
  | zero => intro k a _ h; omega
  | succ f ih =>
    intro k a hk hf
    have t : evE (callF n) rowsT (view true [.va (netD w), .va .non, .va (.lst (foundL w)), .ow (rowsL w k), a]) δ = some (.bl true, δ) := by
      unfold rowsT
      simp [evE, view, Sl.full, evBin, evIs, blOf]
    have b := rows_turn o δ hn k (by have := L.le; omega) a
    rw [whGo, t]
    simp only [bd, blOf, if_true]
    rw [b]
    by_cases e : k = R
    · subst e
      rw [if_pos L.fix]
      rfl
    · rw [if_neg (L.no k (by omega))]
      exact ih (k + 1) _ (by omega) (by omega)
theorem rows_ok (o : w.Ok) (δ : Dl) {m R : Nat} (hm : 20 ≤ m) (L : Last w R) : callF m .rows_of_ends [netD w, .non] δ = some (.lst (rowsL w R), δ) := by
  obtain ⟨n, rfl⟩ : ∃ n, m = n + 1 := ⟨m - 1, by omega⟩
  have q1 := one_way_ok o δ (m := n) (by omega)
  have q2 := first_ends_ok o δ (m := n) (by omega)
  apply call_rt (by decide) rfl
  have s1 : exec (callF n) (.par [(2, (.call .one_way (.cons (.var 0) .nil)), ⟨false, false⟩), (3, (.lst (.cons (.call .first_ends (.cons (.var 0) .nil)) .nil)), ⟨false, true⟩)]) [.va (netD w), .va .non, .no, .no, .no] δ = some (.nx [.va (netD w), .va .non, .va (.lst (foundL w)), .ow (rowsL w 0), .no], δ) := by
    have f := flat_eD (firstE w)
    have e : rowsL w 0 = [eD (firstE w)] := rfl
    simp [exec, evPar, evM, evE, evL, view, Sl.hide, q1, q2, isFresh, flats, f, setAll, e]
  refine seqNx s1 (seqRt ?_)
  show exec (callF n) (.whl rowsT rowsB) _ δ = _
  rw [exec]
  exact rows_loop o δ (by omega) L 100 0 .no (Nat.zero_le _) (by have := L.le; omega)
theorem last_ends_ok (o : w.Ok) (δ : Dl) {m R : Nat} (hm : 21 ≤ m) (L : Last w R) : callF m .last_ends [netD w] δ = some (eD (itE w R), δ) := by
  obtain ⟨n, rfl⟩ : ∃ n, m = n + 1 := ⟨m - 1, by omega⟩
  have q := rows_ok o δ (m := n) (by omega) L
  have la := rowsL_last w R
  apply call_rt (by decide) rfl
  refine seqRt (retE ?_)
  simp [evE, evL, view, Sl.full, q, evIx, la]
theorem rounds_ok (o : w.Ok) (δ : Dl) {m R : Nat} (hm : 21 ≤ m) (L : Last w R) : callF m .rounds_needed [netD w] δ = some (.int R, δ) := by
  obtain ⟨n, rfl⟩ : ∃ n, m = n + 1 := ⟨m - 1, by omega⟩
  have q := rows_ok o δ (m := n) (by omega) L
  have la := rowsL_len w R
  apply call_rt (by decide) rfl
  refine seqRt (retE ?_)
  simp [evE, evL, view, Sl.full, q, evB, seq1, seqOf, evBin, ii, la]
theorem rests_ok (o : w.Ok) (δ : Dl) {m R : Nat} (hm : 22 ≤ m) (L : Last w R) : callF m .rests_always [netD w] δ = some (.bl (decide ((itE w R).1 = (itE w R).2)), δ) := by
  obtain ⟨n, rfl⟩ : ∃ n, m = n + 1 := ⟨m - 1, by omega⟩
  have q := last_ends_ok o δ (m := n) (by omega) L
  have e := eq_ints (itE w R).1 (itE w R).2
  apply call_rt (by decide) rfl
  refine seqNx (ρ1 := [.va (netD w), .va (.tup ((itE w R).1.map .int)), .va (.tup ((itE w R).2.map .int))]) (δ1 := δ) ?_ (seqRt (retE ?_))
  · unfold eD at q
    simp [exec, evM, evE, evL, view, Sl.hide, q, setAll, F.np, F.ns, List.replicate_succ]
  · simp [evE, view, Sl.full, evBin, e]
theorem the_rest_ok (o : w.Ok) (δ : Dl) {m R : Nat} (hm : 22 ≤ m) (L : Last w R) (h : (itE w R).1 = (itE w R).2) : callF m .the_rest [netD w] δ = some (.tup ((itE w R).1.map .int), δ) := by
  obtain ⟨n, rfl⟩ : ∃ n, m = n + 1 := ⟨m - 1, by omega⟩
  have q := last_ends_ok o δ (m := n) (by omega) L
  have e := eq_ints (itE w R).1 (itE w R).2
  rw [decide_eq_true h] at e
  apply call_rt (by decide) rfl
  refine seqNx (ρ1 := [.va (netD w), .va (.tup ((itE w R).1.map .int)), .va (.tup ((itE w R).2.map .int))]) (δ1 := δ) ?_ (seqRt (retE ?_))
  · unfold eD at q
    simp [exec, evM, evE, evL, view, Sl.hide, q, setAll, F.np, F.ns, List.replicate_succ]
  · simp [evE, view, Sl.full, evBin, e, blOf]
theorem settled_from_ok (o : w.Ok) (δ : Dl) {m R : Nat} (hm : 23 ≤ m) (L : Last w R) (h : (itE w R).1 = (itE w R).2) {d : Int} (d0 : 0 ≤ d) (d1 : d ≤ 1000) : callF m .settled_from [netD w, .int d] δ = some (.int (d * mx2 0 ((R : Int) - 1)), δ) := by
  obtain ⟨n, rfl⟩ : ∃ n, m = n + 1 := ⟨m - 1, by omega⟩
  have q := rests_ok o δ (m := n) (by omega) L
  rw [decide_eq_true h] at q
  have q2 := rounds_ok o δ (m := n) (by omega) L
  have hk : -18446744073709551616 < d ∧ d < 18446744073709551616 := ⟨by omega, by omega⟩
  apply call_rt (by decide) rfl
  refine seqNx (ρ1 := [.va (netD w), .va (.int d)]) (δ1 := δ) ?_ (seqRt (retE ?_))
  · simp [exec, evE, evL, view, Sl.full, q, blOf, F.np, F.ns]
  · unfold mx2
    simp [evE, evL, view, Sl.full, q2, evB, evMM, int2, evBin, evMul, ii, hk]
theorem settled_with_ok (o : w.Ok) (δ : Dl) {m R : Nat} (hm : 24 ≤ m) (L : Last w R) (h : (itE w R).1 = (itE w R).2) {d e : Int} (d0 : 1 ≤ d) (d1 : d ≤ 100) (e0 : 1 ≤ e) (e1 : e ≤ 100) : callF m .settled_with [netD w, .int d, .int e, .int 0] δ = some (.int (e - 1 + (d + e + 0 - 1) * mx2 0 ((R : Int) - 1)), δ) := by
  obtain ⟨n, rfl⟩ : ∃ n, m = n + 1 := ⟨m - 1, by omega⟩
  have q := settled_from_ok o δ (m := n) (by omega) L h (d := d + e + 0 - 1) (by omega) (by omega)
  apply call_rt (by decide) rfl
  refine seqRt (retE ?_)
  simp only [Int.add_zero] at q ⊢
  simp [evE, evL, view, Sl.full, evBin, evAdd, ii, q]
end
end NB

set_option Elab.async false
set_option linter.all false
set_option maxRecDepth 100000
set_option maxHeartbeats 2000000
/-! The law's draws. -/
namespace NB
theorem any_ok (n : Nat) (δ : Dl) {b : Int} (h0 : 0 < b) (h1 : b < 1073741824) : ∃ r δ', callF (n + 1) .l_any [.deal, .int b] δ = some (.int r, δ') ∧ 0 ≤ r ∧ r < b := by
  have e : callF (n + 1) .l_any [.deal, .int b] δ = anyP [.deal, .int b] δ := rfl
  rw [e]
  unfold anyP
  simp only
  rw [if_pos ⟨h0, h1⟩]
  cases q : dropZ δ.cs with
  | nil => exact ⟨_, _, rfl, Int.emod_nonneg _ (by omega), Int.emod_lt_of_pos _ h0⟩
  | cons c r => exact ⟨_, _, rfl, Int.emod_nonneg _ (by omega), Int.emod_lt_of_pos _ h0⟩
theorem of_ok (n : Nat) (δ : Dl) {l : List D} (h0 : 0 < l.length) (h1 : l.length < 1000) : ∃ (i : Nat) (hi : i < l.length) (δ' : Dl), callF (n + 2) .l_of [.deal, .lst l] δ = some (l[i], δ') := by
  obtain ⟨r, δ1, e, r0, r1⟩ := any_ok n δ (b := (l.length : Int)) (by omega) (by omega)
  have hi : r.toNat < l.length := by omega
  refine ⟨r.toNat, hi, δ1, ?_⟩
  apply call_rt (by decide) rfl
  have a : atD l r = some l[r.toNat] := by
    unfold atD
    rw [if_pos r0, List.getElem?_eq_getElem hi]
  refine seqRt (retE ?_)
  simp [evE, evL, view, Sl.full, evB, seq1, seqOf, e, evIx, a]
/-- what is drawn: a rule over N houses, of a depth, with numbers up to top -/
def Drawn (N k : Nat) (d : D) : Prop := ∃ r, d = toD r ∧ ok N r ∧ ht r ≤ k ∧ (br r).length ≤ 3 ^ k
/-- a comprehension of draws over a range -/
theorem comp_draw {tst : Env → Dl → Option (Bool × Dl)} {elt : Env → Dl → Option (D × Dl)} {tg : Tg} {ρ : Env} (P : D → Prop) : ∀ {xs : List D} {δ : Dl}, (∀ x ∈ xs, ∀ δ, ∃ ρ1, asg tg ρ x = some ρ1 ∧ tst ρ1 δ = some (true, δ) ∧ ∃ d δ', elt ρ1 δ = some (d, δ') ∧ P d) → ∃ ds δ', compGo tst elt tg ρ xs δ = some (ds, δ') ∧ ds.length = xs.length ∧ ∀ d ∈ ds, P d
  | [], δ, _ => ⟨[], δ, rfl, rfl, fun _ h => nomatch h⟩
  | x :: xs, δ, h => by
    obtain ⟨ρ1, h1, h2, d, δ1, h3, h4⟩ := h x List.mem_cons_self δ
    obtain ⟨ds, δ2, h5, h6, h7⟩ := comp_draw P (xs := xs) (δ := δ1) fun y hy => h y (List.mem_cons_of_mem _ hy)
    refine ⟨d :: ds, δ2, ?_, by rw [List.length_cons, List.length_cons, h6], fun y hy => ?_⟩
    · rw [compGo, h1]
      simp only [bd, h2, h3, h5, if_true]
    · rcases List.mem_cons.mp hy with rfl | hy
      · exact h4
      · exact h7 y hy
end NB

set_option Elab.async false
set_option linter.all false
set_option maxRecDepth 100000
set_option maxHeartbeats 2000000
/-! The law's rules are as drawn. -/
namespace NB
theorem ifF {cf : CF} {c : E} {a : S} {ρ : List Sl} {δ δ1 : Dl} (h : evE cf c (view true ρ) δ = some (.bl false, δ1)) : exec cf (.ife c a .skip) ρ δ = some (.nx ρ, δ1) := by
  rw [exec, h]
  rfl
theorem ifT {cf : CF} {c : E} {a b : S} {ρ : List Sl} {δ δ1 : Dl} {r : Option (Fl × Dl)} (h : evE cf c (view true ρ) δ = some (.bl true, δ1)) (k : exec cf a ρ δ1 = r) : exec cf (.ife c a b) ρ δ = r := by
  rw [exec, h]
  exact k
theorem eqVI {cf : CF} {i : Nat} {k f : Int} {ρ : Env} {δ : Dl} (h : ρ[i]? = some (some (.int f))) : evE cf (.bin .eq (.var i) (.int k)) ρ δ = some (.bl (decide (f = k)), δ) := by
  simp [evE, h, evBin, evEq, fitN, eqD]
theorem ltVI {cf : CF} {i : Nat} {k f : Int} {ρ : Env} {δ : Dl} (h : ρ[i]? = some (some (.int f))) : evE cf (.bin .lt (.var i) (.int k)) ρ δ = some (.bl (decide (f < k)), δ) := by
  simp [evE, h, evBin, ii]
theorem sortI_mem {x : Int} : ∀ {l : List Int}, x ∈ sortI l → x ∈ l := by
  have ins : ∀ (a : Int) (l : List Int), x ∈ insI a l → x = a ∨ x ∈ l := by
    intro a l
    induction l with
    | nil => intro h; rw [insI] at h; exact .inl (List.mem_singleton.mp h)
    | cons b l ih =>
      intro h
      rw [insI] at h
      split at h
      · exact List.mem_cons.mp h
      · rcases List.mem_cons.mp h with e | h
        · exact .inr (by rw [e]; exact List.mem_cons_self)
        · rcases ih h with e | h
          · exact .inl e
          · exact .inr (List.mem_cons_of_mem _ h)
  intro l
  induction l with
  | nil => intro h; exact h
  | cons a l ih =>
    intro h
    rw [sortI] at h
    rcases ins a _ h with e | h
    · rw [e]; exact List.mem_cons_self
    · exact List.mem_cons_of_mem _ (ih h)
theorem insI_len (a : Int) : ∀ l : List Int, (insI a l).length = l.length + 1
  | [] => rfl
  | b :: l => by
    rw [insI]
    split
    · rfl
    · rw [List.length_cons, insI_len a l, List.length_cons]
theorem sortI_len : ∀ l : List Int, (sortI l).length = l.length
  | [] => rfl
  | a :: l => by rw [sortI, insI_len, sortI_len l, List.length_cons]
theorem insI_srt (a : Int) : ∀ l : List Int, l.Pairwise (· ≤ ·) → (insI a l).Pairwise (· ≤ ·)
  | [], _ => by rw [insI]; exact List.pairwise_singleton _ _
  | b :: r, h => by
    rw [insI]
    rw [List.pairwise_cons] at h
    split
    · rename_i hab
      rw [List.pairwise_cons]
      refine ⟨fun x hx => ?_, List.pairwise_cons.mpr h⟩
      rcases List.mem_cons.mp hx with e | hx
      · rw [e]; exact hab
      · exact Int.le_trans hab (h.1 x hx)
    · rename_i hab
      rw [List.pairwise_cons]
      refine ⟨fun x hx => ?_, insI_srt a r h.2⟩
      have : x = a ∨ x ∈ r := by
        have hx' : x ∈ sortI (a :: []) ++ r ∨ True := .inr trivial
        clear hx'
        induction r with
        | nil => rw [insI] at hx; exact .inl (List.mem_singleton.mp hx)
        | cons c r ih =>
          rw [insI] at hx
          split at hx
          · rcases List.mem_cons.mp hx with e | hx
            · exact .inl e
            · exact .inr hx
          · rcases List.mem_cons.mp hx with e | hx
            · exact .inr (by rw [e]; exact List.mem_cons_self)
            · rcases ih ⟨fun y hy => h.1 y (List.mem_cons_of_mem _ hy), (List.pairwise_cons.mp h.2).2⟩ hx with e | e
              · exact .inl e
              · exact .inr (List.mem_cons_of_mem _ e)
      rcases this with e | hx
      · rw [e]; omega
      · exact h.1 x hx
theorem sortI_srt : ∀ l : List Int, (sortI l).Pairwise (· ≤ ·)
  | [] => by rw [sortI]; exact .nil
  | a :: l => by rw [sortI]; exact insI_srt a _ (sortI_srt l)
/-- what a comprehension of ints gives -/
theorem ints_of (P : Int → Prop) : ∀ {ds : List D}, (∀ d ∈ ds, ∃ i, d = .int i ∧ P i) → ∃ is : List Int, ds = is.map .int ∧ ∀ i ∈ is, P i
  | [], _ => ⟨[], rfl, fun _ h => nomatch h⟩
  | d :: ds, h => by
    obtain ⟨i, rfl, hi⟩ := h d List.mem_cons_self
    obtain ⟨is, rfl, his⟩ := ints_of P (ds := ds) fun y hy => h y (List.mem_cons_of_mem _ hy)
    refine ⟨i :: is, rfl, fun y hy => ?_⟩
    rcases List.mem_cons.mp hy with rfl | hy
    · exact hi
    · exact his y hy
end NB

set_option Elab.async false
set_option linter.all false
set_option maxRecDepth 100000
set_option maxHeartbeats 2000000
/-! The law's rules are as drawn. -/
namespace NB
theorem itR1E' {x : Int} (h62 : x < 4611686018427387904) (h63 : -4611686018427387904 ≤ x) {δ δ1 : Dl} {cf : CF} {a : E} {ρ : Env} (e : evE cf a ρ δ = some (.int x, δ1)) : evI cf (.itR1 a) ρ δ = some ((List.range x.toNat).map fun (k : Nat) => D.int (0 + (k : Int)), δ1) := by
  rw [evI, e]
  simp [intOf, h62, h63]
/-- a call of the source with a number that is known -/
theorem anyE {n : Nat} {b r : Int} {δ δ1 : Dl} {e : E} {ρ : Env} (h0 : ρ[0]? = some (some .deal)) (hb : evE (callF n) e ρ δ = some (.int b, δ)) (h : callF n .l_any [.deal, .int b] δ = some (.int r, δ1)) : evE (callF n) (.call .l_any (.cons (.var 0) (.cons e .nil))) ρ δ = some (.int r, δ1) := by
  simp [evE, evL, h0, hb, h]
/-- the slots of l_rule -/
def rr (N top k f : Int) (p t i lo rw : Sl) : List Sl := [.va .deal, .va (.int N), .va (.int top), .va (.int k), .va (.bl false), .va (.int f), p, t, i, lo, rw]
theorem rule_first {n : Nat} {N top k : Int} (δ : Dl) : ∃ f δ', exec (callF (n + 1)) (.set 5 (.ite (.bin .gt (.var 3) (.int 0)) (.call .l_any (.cons (.var 0) (.cons (.int 14) .nil))) (.call .l_any (.cons (.var 0) (.cons (.int 4) .nil)))) ⟨false, false⟩) [.va .deal, .va (.int N), .va (.int top), .va (.int k), .va (.bl false), .no, .no, .no, .no, .no, .no] δ = some (.nx (rr N top k f .no .no .no .no .no), δ') ∧ 0 ≤ f ∧ f < 14 ∧ (k ≤ 0 → f < 4) := by
  by_cases h : 0 < k
  · obtain ⟨r, δ1, e, r0, r1⟩ := any_ok n δ (b := 14) (by decide) (by decide)
    refine ⟨r, δ1, ?_, r0, r1, fun z => by omega⟩
    exact setE (ρ := [.va .deal, .va (.int N), .va (.int top), .va (.int k), .va (.bl false), .no, .no, .no, .no, .no, .no]) (by simp [evE, evL, view, Sl.hide, evBin, ii, blOf, h, e])
  · obtain ⟨r, δ1, e, r0, r1⟩ := any_ok n δ (b := 4) (by decide) (by decide)
    refine ⟨r, δ1, ?_, r0, by omega, fun _ => r1⟩
    exact setE (ρ := [.va .deal, .va (.int N), .va (.int top), .va (.int k), .va (.bl false), .no, .no, .no, .no, .no, .no]) (by simp [evE, evL, view, Sl.hide, evBin, ii, blOf, h, e])
/-- a comprehension of rules -/
theorem rules_lc {n : Nat} {N top k f : Int} {K : Nat} {ke it : E} {x : Int} {δ δ1 : Dl} {sl : List Sl} (hs : sl = rr N top k f .no .no .no .no .no) {kk : Int} (hit : evE (callF n) it (view false sl) δ = some (.int x, δ1)) (x0 : 0 ≤ x) (x1 : x ≤ 100)
    (hk : ∀ t δ, evE (callF n) ke ((view false sl).set 7 t) δ = some (.int kk, δ)) (hr : ∀ δ, ∃ d δ', callF n .l_rule [.deal, .int N, .int top, .int kk, .bl false] δ = some (d, δ') ∧ Drawn N.toNat K d) :
    ∃ ds δ', evE (callF n) (.lc [7] (.one 7) (.itR1 it) .nop (.call .l_rule (.cons (.var 0) (.cons (.var 1) (.cons (.var 2) (.cons ke (.cons (.var 4) .nil))))))) (view false sl) δ = some (.lst ds, δ') ∧ ds.length = x.toNat ∧ ∀ d ∈ ds, Drawn N.toNat K d := by
  obtain ⟨ds, δ2, h1, h2, h3⟩ := comp_draw (tst := fun r δ => evT (callF n) .nop r δ) (elt := fun r δ => evE (callF n) (.call .l_rule (.cons (.var 0) (.cons (.var 1) (.cons (.var 2) (.cons ke (.cons (.var 4) .nil)))))) r δ) (tg := .one 7) (ρ := wipeE (view false sl) [7]) (Drawn N.toNat K) (xs := (List.range x.toNat).map fun (k : Nat) => D.int (0 + (k : Int))) (δ := δ1) (by
    intro y hy δ
    obtain ⟨d, δ', e, hd⟩ := hr δ
    have hk' := hk (some y)
    refine ⟨_, rfl, rfl, d, δ', ?_, hd⟩
    have e2 : (wipeE (view false sl) [7]).set 7 (some y) = (view false sl).set 7 (some y) := by subst hs; rfl
    rw [e2]
    subst hs
    simp only [rr] at hk' ⊢
    simp [evE, evL, view, Sl.hide] at hk' ⊢
    simp [hk', e])
  refine ⟨ds, δ2, lcE (itR1E' (by omega) (by omega) hit) (by rw [List.length_map, List.length_range]; omega) h1, by rw [h2, List.length_map, List.length_range], h3⟩
end NB

set_option Elab.async false
set_option linter.all false
set_option maxRecDepth 100000
set_option maxHeartbeats 2000000
/-! A rule of the law is as drawn. -/
namespace NB
theorem pow3 (k : Nat) : 1 ≤ 3 ^ k := Nat.one_le_pow k 3 (by decide)
theorem drawn_agg {N K : Nat} {ds : List D} (g : G) (h0 : 0 < ds.length) (h1 : ds.length ≤ 2) (h : ∀ d ∈ ds, Drawn N K d) : Drawn N (K + 1) (.tup [.str g.w, .tup ds]) := by
  have p := pow3 K
  rcases ds with _ | ⟨a, _ | ⟨b, _ | ⟨_, _⟩⟩⟩
  · simp at h0
  · obtain ⟨r, rfl, o, t, l⟩ := h a (by simp)
    exact ⟨.agg1 g r, rfl, o, by simp only [ht]; omega, by simp only [br]; rw [Nat.pow_succ]; omega⟩
  · obtain ⟨r, rfl, o, t, l⟩ := h a (by simp)
    obtain ⟨s, rfl, o2, t2, l2⟩ := h b (by simp)
    exact ⟨.agg2 g r s, rfl, ⟨o, o2⟩, by simp only [ht]; omega, by simp only [br, List.length_append]; rw [Nat.pow_succ]; omega⟩
  · simp only [List.length_cons] at h1
    omega
theorem drawn_mid {N : Nat} {ds : List D} (h0 : ds.length = 3) (h : ∀ d ∈ ds, Drawn N 0 d) : Drawn N 1 (.tup (.str .w_middle :: ds)) := by
  rcases ds with _ | ⟨a, _ | ⟨b, _ | ⟨c, _ | ⟨_, _⟩⟩⟩⟩ <;> simp at h0
  obtain ⟨r, rfl, o, t, l⟩ := h a (by simp)
  obtain ⟨s, rfl, o2, t2, l2⟩ := h b (by simp)
  obtain ⟨u, rfl, o3, t3, l3⟩ := h c (by simp)
  exact ⟨.mid r s u, rfl, ⟨o, o2, o3⟩, by simp only [ht]; omega, by simp only [br, List.length_append]; omega⟩
theorem drawn_one {N K : Nat} {d e : D} (h : Drawn N K d) (k : ∀ r, d = toD r → ok N r → ∃ r', e = toD r' ∧ ok N r' ∧ ht r' = ht r + 1 ∧ br r' = br r) : Drawn N (K + 1) e := by
  obtain ⟨r, e1, o, t, l⟩ := h
  obtain ⟨r', e2, o2, t2, l2⟩ := k r e1 o
  refine ⟨r', e2, o2, by omega, ?_⟩
  rw [l2, Nat.pow_succ]
  omega
section
variable {n : Nat} {N top k f : Int} {δ : Dl}
/-- the chain of forms, up to the inner rule -/
theorem no_eq {j : Int} {a : S} {p t i lo rw : Sl} (h : f ≠ j) : exec (callF n) (.ife (.bin .eq (.var 5) (.int j)) a .skip) (rr N top k f p t i lo rw) δ = some (.nx (rr N top k f p t i lo rw), δ) := ifF (by rw [eqVI (f := f) rfl, decide_eq_false h])
theorem yes_eq {a b : S} {p t i lo rw : Sl} {r : Option (Fl × Dl)} (j : Int) (h : f = j) (kk : exec (callF n) a (rr N top k f p t i lo rw) δ = r) : exec (callF n) (.ife (.bin .eq (.var 5) (.int j)) a b) (rr N top k f p t i lo rw) δ = r := ifT (by rw [eqVI (f := f) rfl, decide_eq_true h]) kk
theorem no_lt {j : Int} {a : S} {p t i lo rw : Sl} (h : ¬ f < j) : exec (callF n) (.ife (.bin .lt (.var 5) (.int j)) a .skip) (rr N top k f p t i lo rw) δ = some (.nx (rr N top k f p t i lo rw), δ) := ifF (by rw [ltVI (f := f) rfl, decide_eq_false h])
theorem yes_lt {a b : S} {p t i lo rw : Sl} {r : Option (Fl × Dl)} (j : Int) (h : f < j) (kk : exec (callF n) a (rr N top k f p t i lo rw) δ = r) : exec (callF n) (.ife (.bin .lt (.var 5) (.int j)) a b) (rr N top k f p t i lo rw) δ = r := ifT (by rw [ltVI (f := f) rfl, decide_eq_true h]) kk
theorem no_mid {a : S} {p t i lo rw : Sl} (h : ¬ (f = 8 ∧ k = 1)) : exec (callF n) (.ife (.and (.bin .eq (.var 5) (.int 8)) (.one (.bin .eq (.var 3) (.int 1)))) a .skip) (rr N top k f p t i lo rw) δ = some (.nx (rr N top k f p t i lo rw), δ) := by
  apply ifF
  by_cases h8 : f = 8
  · have h1 : ¬ k = 1 := fun z => h ⟨h8, z⟩
    simp [rr, view, Sl.full, evE, evBin, evEq, fitN, eqD, h8, h1, blOf]
  · simp [rr, view, Sl.full, evE, evBin, evEq, fitN, eqD, h8, blOf]
theorem yes_mid {a b : S} {p t i lo rw : Sl} {r : Option (Fl × Dl)} (h : f = 8) (h1 : k = 1) (kk : exec (callF n) a (rr N top k f p t i lo rw) δ = r) : exec (callF n) (.ife (.and (.bin .eq (.var 5) (.int 8)) (.one (.bin .eq (.var 3) (.int 1)))) a b) (rr N top k f p t i lo rw) δ = r := by
  refine ifT ?_ kk
  simp [rr, view, Sl.full, evE, evBin, evEq, fitN, eqD, h, h1, blOf]
/-- top + j, asked of the source -/
theorem anyTop {n : Nat} {j r : Int} {δ δ1 : Dl} {p t i lo rw : Sl} (b : Bool) (h : callF n .l_any [.deal, .int (top + j)] δ = some (.int r, δ1)) : evE (callF n) (.call .l_any (.cons (.var 0) (.cons (.bin .add (.var 2) (.int j)) .nil))) (view b (rr N top k f p t i lo rw)) δ = some (.int r, δ1) := by
  cases b <;> simp [rr, view, Sl.full, Sl.hide, evE, evL, evBin, evAdd, h]
theorem anyK {n : Nat} {j r : Int} {δ δ1 : Dl} {p t i lo rw : Sl} (b : Bool) (h : callF n .l_any [.deal, .int j] δ = some (.int r, δ1)) : evE (callF n) (.call .l_any (.cons (.var 0) (.cons (.int j) .nil))) (view b (rr N top k f p t i lo rw)) δ = some (.int r, δ1) := by
  cases b <;> simp [rr, view, Sl.full, Sl.hide, evE, evL, h]
end
end NB

set_option Elab.async false
set_option linter.all false
set_option maxRecDepth 100000
set_option maxHeartbeats 2000000
/-! A rule of the law is as drawn: the def. -/
namespace NB
theorem rule_ok {N top : Int} (hN : 0 < N ∧ N ≤ 5) (ht' : 0 < top ∧ top ≤ 5) : ∀ (K m : Nat), K + 5 ≤ m → ∀ δ, ∃ d δ', callF m .l_rule [.deal, .int N, .int top, .int K, .bl false] δ = some (d, δ') ∧ Drawn N.toNat K d := by
  intro K
  induction K with
  | zero =>
    intro m hm δ
    obtain ⟨n, rfl⟩ : ∃ n, m = n + 3 := ⟨m - 3, by omega⟩
    obtain ⟨f, δ1, s1, f0, f1, f2⟩ := rule_first (n := n + 1) (N := N) (top := top) (k := 0) δ
    have f4 := f2 (Int.le_refl _)
    by_cases h0 : f = 0
    · obtain ⟨c, δ2, e, c0, c1⟩ := any_ok (n + 1) δ1 (b := top + 1) (by omega) (by omega)
      refine ⟨.tup [.str .w_is, .int c], δ2, call_rt (by decide) rfl (seqNx s1 (seqRt (yes_eq 0 h0 (seqRt (retE ?_))))), .is c, rfl, ⟨c0, by omega⟩, Nat.le_refl _, Nat.zero_le _⟩
      have q := anyTop (n := n + 2) (N := N) (k := 0) (f := f) (p := .no) (t := .no) (i := .no) (lo := .no) (rw := .no) true e
      simp [evE, evL] at q ⊢
      simp [q]
    · obtain ⟨c, δ2, e, c0, c1⟩ := any_ok (n + 1) δ1 (b := N) (by omega) (by omega)
      refine ⟨.tup [.str .w_hear, .int c], δ2, call_rt (by decide) rfl (seqNx s1 (seqNx (no_eq h0) (seqRt (yes_lt 4 f4 (seqRt (retE ?_)))))), .hear c.toNat, ?_, ⟨by omega, by omega⟩, Nat.le_refl _, by simp [br]⟩
      · simp [rr, view, Sl.full, evE, evL, e]
      · simp only [toD]
        rw [show ((c.toNat : Nat) : Int) = c by omega]
  | succ K ih =>
    intro m hm δ
    obtain ⟨n, rfl⟩ : ∃ n, m = n + 3 := ⟨m - 3, by omega⟩
    obtain ⟨f, δ1, s1, f0, f1, f2⟩ := rule_first (n := n + 1) (N := N) (top := top) (k := ((K + 1 : Nat) : Int)) δ
    have wk : ∀ {d : D}, Drawn N.toNat 0 d → Drawn N.toNat (K + 1) d := fun ⟨r, e, o, t, l⟩ => ⟨r, e, o, by omega, by have := pow3 (K + 1); omega⟩
    by_cases h0 : f = 0
    · obtain ⟨c, δ2, e, c0, c1⟩ := any_ok (n + 1) δ1 (b := top + 1) (by omega) (by omega)
      refine ⟨.tup [.str .w_is, .int c], δ2, call_rt (by decide) rfl (seqNx s1 (seqRt (yes_eq 0 h0 (seqRt (retE ?_))))), wk ⟨.is c, rfl, ⟨c0, by omega⟩, Nat.le_refl _, Nat.zero_le _⟩⟩
      simp [rr, view, Sl.full, evE, evL, evBin, evAdd, e]
    · by_cases h4 : f < 4
      · obtain ⟨c, δ2, e, c0, c1⟩ := any_ok (n + 1) δ1 (b := N) (by omega) (by omega)
        refine ⟨.tup [.str .w_hear, .int c], δ2, call_rt (by decide) rfl (seqNx s1 (seqNx (no_eq h0) (seqRt (yes_lt 4 h4 (seqRt (retE ?_)))))), wk ⟨.hear c.toNat, ?_, ⟨by omega, by omega⟩, Nat.le_refl _, by simp [br]⟩⟩
        · simp [rr, view, Sl.full, evE, evL, e]
        · simp only [toD]
          rw [show ((c.toNat : Nat) : Int) = c by omega]
      · have hsub : (((K + 1 : Nat) : Int)) - 1 = (K : Int) := by omega
        by_cases h8 : f < 8
        · obtain ⟨x, δ2, e, x0, x1⟩ := any_ok (n + 1) δ1 (b := 2) (by decide) (by decide)
          obtain ⟨ds, δ3, e3, l3, d3⟩ := rules_lc (n := n + 2) (N := N) (top := top) (k := ((K + 1 : Nat) : Int)) (f := f) (K := K) (ke := .bin .sub (.var 3) (.int 1)) (it := .bin .add (.int 1) (.call .l_any (.cons (.var 0) (.cons (.int 2) .nil)))) (x := 1 + x) (δ := δ1) (δ1 := δ2) rfl (kk := K)
            (by simp [rr, view, Sl.hide, evE, evL, evBin, evAdd, e]) (by omega) (by omega) (fun t δ => by simp [rr, view, Sl.hide, evE, evBin, ii]) (fun δ => ih (n + 2) (by omega) δ)
          obtain ⟨i, hi, δ4, e4⟩ := of_ok n δ3 (l := [.str .w_least, .str .w_most, .str .w_add]) (by decide) (by decide)
          obtain ⟨g, hg⟩ : ∃ g : G, ([D.str .w_least, .str .w_most, .str .w_add])[i] = .str g.w := by
            rcases i with _ | _ | _ | i
            · exact ⟨.least, rfl⟩
            · exact ⟨.most, rfl⟩
            · exact ⟨.add, rfl⟩
            · simp only [List.length_cons, List.length_nil] at hi; omega
          rw [hg] at e4
          refine ⟨.tup [.str g.w, .tup ds], δ4, call_rt (by decide) rfl (seqNx s1 (seqNx (no_eq h0) (seqNx (no_lt h4) (seqRt (yes_lt 8 h8 (seqNx (setE (fnTupE e3)) (seqRt (retE ?_)))))))), drawn_agg g (by omega) (by omega) d3⟩
          simp [rr, view, Sl.full, evE, evL, e4]
        · by_cases hm8 : f = 8 ∧ ((K + 1 : Nat) : Int) = 1
          · obtain ⟨h8', h1⟩ := hm8
            have K0 : K = 0 := by omega
            subst K0
            obtain ⟨ds, δ3, e3, l3, d3⟩ := rules_lc (n := n + 2) (N := N) (top := top) (k := ((0 + 1 : Nat) : Int)) (f := f) (K := 0) (ke := .int 0) (it := .int 3) (x := 3) (δ := δ1) (δ1 := δ1) rfl (kk := 0) rfl (by omega) (by omega) (fun t δ => rfl) (fun δ => ih (n + 2) (by omega) δ)
            refine ⟨.tup (.str .w_middle :: ds), δ3, call_rt (by decide) rfl (seqNx s1 (seqNx (no_eq h0) (seqNx (no_lt h4) (seqNx (no_lt h8) (seqRt (yes_mid h8' h1 (seqRt (retE ?_)))))))), drawn_mid (by omega) d3⟩
            have l3' : ds.length = 3 := by omega
            have e5 : evE (callF (n + 2)) (.lc [7] (.one 7) (.itR1 (.int 3)) .nop (.call .l_rule (.cons (.var 0) (.cons (.var 1) (.cons (.var 2) (.cons (.int 0) (.cons (.var 4) .nil))))))) (view true (rr N top ((0 + 1 : Nat) : Int) f .no .no .no .no .no)) δ1 = some (.lst ds, δ3) := e3
            have e6 := fnTupE e5
            rw [evE]
            have e7 : evE (callF (n + 2)) (.tup (.cons (.str .w_middle) .nil)) (view true (rr N top ((0 + 1 : Nat) : Int) f .no .no .no .no .no)) δ1 = some (.tup [.str .w_middle], δ1) := by simp [evE, evL]
            rw [e7]
            simp only [bd]
            rw [e6]
            simp [evBin, evAdd, l3']
          · obtain ⟨di, δ2, e2, dd⟩ := ih (n + 2) (by omega) δ1
            have si : exec (callF (n + 2)) (.set 8 (.call .l_rule (.cons (.var 0) (.cons (.var 1) (.cons (.var 2) (.cons (.bin .sub (.var 3) (.int 1)) (.cons (.var 4) .nil)))))) ⟨false, false⟩) (rr N top ((K + 1 : Nat) : Int) f .no .no .no .no .no) δ1 = some (.nx (rr N top ((K + 1 : Nat) : Int) f .no .no (.va di) .no .no), δ2) :=
              setE (ρ := rr N top ((K + 1 : Nat) : Int) f .no .no .no .no .no) (by simp [rr, view, Sl.hide, evE, evL, evBin, ii, e2])
            have pre : ∀ {d : D} {δ' : Dl}, exec (callF (n + 2)) _ (rr N top ((K + 1 : Nat) : Int) f .no .no (.va di) .no .no) δ2 = some (.rt d, δ') → callF (n + 3) .l_rule [.deal, .int N, .int top, .int ((K + 1 : Nat) : Int), .bl false] δ = some (d, δ') := fun {d δ'} h =>
              call_rt (by decide) rfl (seqNx s1 (seqNx (no_eq h0) (seqNx (no_lt h4) (seqNx (no_lt h8) (seqNx (no_mid hm8) (seqNx si h))))))
            by_cases h9 : f = 9
            · obtain ⟨c, δ3, e, c0, c1⟩ := any_ok (n + 1) δ2 (b := 3) (by decide) (by decide)
              refine ⟨.tup [.str .w_times, .int c, di], δ3, pre (seqRt (yes_eq 9 h9 (seqRt (retE ?_)))), drawn_one dd fun r er o => ⟨.times c r, by rw [er]; rfl, ⟨⟨c0, by omega⟩, o⟩, rfl, rfl⟩⟩
              simp [rr, view, Sl.full, evE, evL, e]
            · by_cases h10 : f = 10
              · obtain ⟨c, δ3, e, c0, c1⟩ := any_ok (n + 1) δ2 (b := 3) (by decide) (by decide)
                refine ⟨.tup [.str .w_part, .int (1 + c), di], δ3, pre (seqNx (no_eq h9) (seqRt (yes_eq 10 h10 (seqRt (retE ?_))))), drawn_one dd fun r er o => ⟨.part (1 + c) r, by rw [er]; rfl, ⟨⟨by omega, by omega⟩, by omega, o⟩, rfl, rfl⟩⟩
                simp [rr, view, Sl.full, evE, evL, evBin, evAdd, e]
              · by_cases h11 : f = 11
                · obtain ⟨c, δ3, e, c0, c1⟩ := any_ok (n + 1) δ2 (b := top + 1) (by omega) (by omega)
                  obtain ⟨c', δ4, e', c0', c1'⟩ := any_ok (n + 1) δ3 (b := 3) (by decide) (by decide)
                  have sl : exec (callF (n + 2)) (.set 9 (.call .l_any (.cons (.var 0) (.cons (.bin .add (.var 2) (.int 1)) .nil))) ⟨false, false⟩) (rr N top ((K + 1 : Nat) : Int) f .no .no (.va di) .no .no) δ2 = some (.nx (rr N top ((K + 1 : Nat) : Int) f .no .no (.va di) (.va (.int c)) .no), δ3) :=
                    setE (ρ := rr N top ((K + 1 : Nat) : Int) f .no .no (.va di) .no .no) (anyTop false e)
                  refine ⟨.tup [.str .w_clip, .int c, .int (c + c'), di], δ4, pre (seqNx (no_eq h9) (seqNx (no_eq h10) (seqRt (yes_eq 11 h11 (seqNx sl (seqRt (retE ?_))))))), drawn_one dd fun r er o => ⟨.clip c (c + c') r, by rw [er]; rfl, ⟨⟨c0, by omega⟩, ⟨by omega, by omega⟩, by omega, o⟩, rfl, rfl⟩⟩
                  simp [rr, view, Sl.full, evE, evL, evBin, evAdd, e']
                · by_cases h12 : f = 12
                  · obtain ⟨c, δ3, e, c0, c1⟩ := any_ok (n + 1) δ2 (b := top + 2) (by omega) (by omega)
                    obtain ⟨c', δ4, e', c0', c1'⟩ := any_ok (n + 1) δ3 (b := top + 1) (by omega) (by omega)
                    obtain ⟨c'', δ5, e'', c0'', c1''⟩ := any_ok (n + 1) δ4 (b := top + 1) (by omega) (by omega)
                    refine ⟨.tup [.str .w_bar, .int c, .int c', .int c'', di], δ5, pre (seqNx (no_eq h9) (seqNx (no_eq h10) (seqNx (no_eq h11) (seqRt (yes_eq 12 h12 (seqRt (retE ?_))))))), drawn_one dd fun r er o => ⟨.bar c c' c'' r, by rw [er]; rfl, ⟨⟨c0, by omega⟩, ⟨c0', by omega⟩, ⟨c0'', by omega⟩, o⟩, rfl, rfl⟩⟩
                    simp [rr, view, Sl.full, evE, evL, evBin, evAdd, e, e', e'']
                  · by_cases h13 : f = 13
                    · obtain ⟨x, δ3, e, x0, x1⟩ := any_ok (n + 1) δ2 (b := top + 1) (by omega) (by omega)
                      obtain ⟨ds, δ4, g1, g2, g3⟩ := comp_draw (tst := fun r δ => evT (callF (n + 2)) .nop r δ) (elt := fun r δ => evE (callF (n + 2)) (.call .l_any (.cons (.var 0) (.cons (.bin .add (.var 2) (.int 1)) .nil))) r δ) (tg := .one 7) (ρ := wipeE (view false (rr N top ((K + 1 : Nat) : Int) f .no .no (.va di) .no .no)) [7]) (fun d => ∃ i, d = .int i ∧ sm i) (xs := (List.range (1 + x).toNat).map fun (k : Nat) => D.int (0 + (k : Int))) (δ := δ3) (by
                        intro y hy δ
                        obtain ⟨c, δ', ec, c0, c1⟩ := any_ok (n + 1) δ (b := top + 1) (by omega) (by omega)
                        refine ⟨_, rfl, rfl, .int c, δ', ?_, c, rfl, c0, by omega⟩
                        have ec' : callF (n + 2) .l_any [.deal, .int (top + 1)] δ = some (.int c, δ') := ec
                        simp [rr, view, Sl.hide, wipeE, evE, evL, evBin, evAdd, ec'])
                      obtain ⟨is, rfl, his⟩ := ints_of sm g3
                      have hli : is.length = (1 + x).toNat := by rw [List.length_map, List.length_map, List.length_range] at g2; exact g2
                      have sl : exec (callF (n + 2)) (.set 10 (.lc [7] (.one 7) (.itR1 (.bin .add (.int 1) (.call .l_any (.cons (.var 0) (.cons (.bin .add (.var 2) (.int 1)) .nil))))) .nop (.call .l_any (.cons (.var 0) (.cons (.bin .add (.var 2) (.int 1)) .nil)))) ⟨false, false⟩) (rr N top ((K + 1 : Nat) : Int) f .no .no (.va di) .no .no) δ2 = some (.nx (rr N top ((K + 1 : Nat) : Int) f .no .no (.va di) .no (.va (.lst (is.map .int)))), δ4) :=
                        setE (ρ := rr N top ((K + 1 : Nat) : Int) f .no .no (.va di) .no .no) (lcE (itR1E' (x := 1 + x) (δ1 := δ3) (by omega) (by omega) (by
                          have e' : callF (n + 2) .l_any [.deal, .int (top + 1)] δ2 = some (.int x, δ3) := e
                          simp [rr, view, Sl.hide, evE, evL, evBin, evAdd, e'])) (by rw [List.length_map, List.length_range]; omega) g1)
                      have hl64 : is.length < 64 := by omega
                      have io := intsOf_map is
                      refine ⟨.tup [.str .w_row, .tup ((sortI is).map .int), di], δ4, pre (seqNx (no_eq h9) (seqNx (no_eq h10) (seqNx (no_eq h11) (seqNx (no_eq h12) (seqRt (yes_eq 13 h13 (seqNx sl (seqRt (retE ?_))))))))), drawn_one dd fun r er o => ⟨.row (sortI is) r, by rw [er]; rfl, ⟨fun y hy => his y (sortI_mem hy), sortI_srt is, by rw [sortI_len]; omega, by rw [sortI_len]; omega, o⟩, rfl, rfl⟩⟩
                      simp [rr, view, Sl.full, evE, evL, blOf, evB, evSort, lst1, io, hl64, seq1, seqOf]
                    · obtain ⟨c, δ3, e, c0, c1⟩ := any_ok (n + 1) δ2 (b := top + 2) (by omega) (by omega)
                      refine ⟨.tup [.str .w_from, .int c, di], δ3, pre (seqNx (no_eq h9) (seqNx (no_eq h10) (seqNx (no_eq h11) (seqNx (no_eq h12) (seqNx (no_eq h13) (seqRt (retE ?_))))))), drawn_one dd fun r er o => ⟨.frm c r, by rw [er]; rfl, ⟨⟨c0, by omega⟩, o⟩, rfl, rfl⟩⟩
                      simp [rr, view, Sl.full, evE, evL, evBin, evAdd, e]
end NB

set_option Elab.async false
set_option linter.all false
set_option maxRecDepth 100000
set_option maxHeartbeats 2000000
/-! A net, a past as drawn. -/
namespace NB
theorem rules_of {N K : Nat} : ∀ {ds : List D}, (∀ d ∈ ds, ∃ k, k ≤ 3 ∧ Drawn N k d) → ∃ rs : List R, ds = rs.map toD ∧ ∀ r ∈ rs, ok N r ∧ ht r ≤ 4 ∧ (br r).length ≤ 1000
  | [], _ => ⟨[], rfl, fun _ h => nomatch h⟩
  | d :: ds, h => by
    obtain ⟨k, hk, r, rfl, o, t, l⟩ := h d List.mem_cons_self
    obtain ⟨rs, rfl, hrs⟩ := rules_of (K := K) (ds := ds) fun y hy => h y (List.mem_cons_of_mem _ hy)
    refine ⟨r :: rs, rfl, fun y hy => ?_⟩
    rcases List.mem_cons.mp hy with rfl | hy
    · have p : 3 ^ k ≤ 3 ^ 3 := Nat.pow_le_pow_right (by decide) hk
      exact ⟨o, by omega, by have : (3 : Nat) ^ 3 = 27 := rfl; omega⟩
    · exact hrs y hy
theorem net_ok {top : Int} (ht' : 0 < top ∧ top ≤ 5) (m : Nat) (hm : 12 ≤ m) (δ : Dl) : ∃ (w : Net) (δ' : Dl), callF m .l_net [.deal, .int 5, .int top, .bl false] δ = some (netD w, δ') ∧ w.Ok := by
  obtain ⟨n, rfl⟩ : ∃ n, m = n + 3 := ⟨m - 3, by omega⟩
  obtain ⟨x, δ1, e, x0, x1⟩ := any_ok (n + 1) δ (b := 5) (by decide) (by decide)
  let r0 : List Sl := [.va .deal, .va (.int 5), .va (.int top), .va (.bl false), .no, .no, .no]
  let r1 : List Sl := [.va .deal, .va (.int 5), .va (.int top), .va (.bl false), .va (.int (1 + x)), .no, .no]
  have s1 : exec (callF (n + 2)) (.set 4 (.bin .add (.int 1) (.call .l_any (.cons (.var 0) (.cons (.var 1) .nil)))) ⟨false, false⟩) r0 δ = some (.nx r1, δ1) := by
    have e' : callF (n + 2) .l_any [.deal, .int 5] δ = some (.int x, δ1) := e
    exact setE (ρ := r0) (by simp [r0, view, Sl.hide, evE, evL, evBin, evAdd, e'])
  obtain ⟨ts, δ2, g1, g2, g3⟩ := comp_draw (tst := fun r δ => evT (callF (n + 2)) .nop r δ) (elt := fun r δ => evE (callF (n + 2)) (.bin .add (.int 1) (.call .l_any (.cons (.var 0) (.cons (.var 2) .nil)))) r δ) (tg := .one 6) (ρ := wipeE (view false r1) [6]) (fun d => ∃ i : Int, d = .int i ∧ (0 < i ∧ i ≤ 5)) (xs := (List.range (1 + x).toNat).map fun (k : Nat) => D.int (0 + (k : Int))) (δ := δ1) (by
    intro y hy δ
    obtain ⟨c, δ', ec, c0, c1⟩ := any_ok (n + 1) δ (b := top) ht'.1 (by omega)
    refine ⟨_, rfl, rfl, .int (1 + c), δ', ?_, 1 + c, rfl, by omega, by omega⟩
    have ec' : callF (n + 2) .l_any [.deal, .int top] δ = some (.int c, δ') := ec
    simp [r1, view, Sl.hide, wipeE, evE, evL, evBin, evAdd, ec'])
  obtain ⟨is, rfl, his⟩ := ints_of (fun i => 0 < i ∧ i ≤ 5) g3
  rw [List.length_map, List.length_map, List.length_range] at g2
  let r2 : List Sl := [.va .deal, .va (.int 5), .va (.int top), .va (.bl false), .va (.int (1 + x)), .va (.tup (is.map .int)), .no]
  have s2 : exec (callF (n + 2)) (.set 5 (.fn .tuple (.cons (.lc [6] (.one 6) (.itR1 (.var 4)) .nop (.bin .add (.int 1) (.call .l_any (.cons (.var 0) (.cons (.var 2) .nil))))) .nil)) ⟨false, false⟩) r1 δ1 = some (.nx r2, δ2) :=
    setE (ρ := r1) (fnTupE (lcE (itR1E' (x := 1 + x) (δ1 := δ1) (by omega) (by omega) (by simp [r1, view, Sl.hide, evE])) (by rw [List.length_map, List.length_range]; omega) g1))
  obtain ⟨rs, δ3, k1, k2, k3⟩ := comp_draw (tst := fun r δ => evT (callF (n + 2)) .nop r δ) (elt := fun r δ => evE (callF (n + 2)) (.call .l_rule (.cons (.var 0) (.cons (.var 4) (.cons (.var 2) (.cons (.call .l_any (.cons (.var 0) (.cons (.int 4) .nil))) (.cons (.var 3) .nil)))))) r δ) (tg := .one 6) (ρ := wipeE (view true r2) [6]) (fun d => ∃ k, k ≤ 3 ∧ Drawn (1 + x).toNat k d) (xs := (List.range (1 + x).toNat).map fun (k : Nat) => D.int (0 + (k : Int))) (δ := δ2) (by
    intro y hy δ
    obtain ⟨c, δ', ec, c0, c1⟩ := any_ok (n + 1) δ (b := 4) (by decide) (by decide)
    obtain ⟨d, δ'', ed, dd⟩ := rule_ok (N := 1 + x) (top := top) (by omega) ht' c.toNat (n + 2) (by omega) δ'
    refine ⟨_, rfl, rfl, d, δ'', ?_, c.toNat, by omega, dd⟩
    have ec' : callF (n + 2) .l_any [.deal, .int 4] δ = some (.int c, δ') := ec
    rw [show ((c.toNat : Nat) : Int) = c by omega] at ed
    simp [r2, view, Sl.full, wipeE, evE, evL, ec', ed])
  obtain ⟨rules, rfl, hr⟩ := rules_of (K := 0) k3
  rw [List.length_map, List.length_map, List.length_range] at k2
  refine ⟨⟨is, rules⟩, δ3, call_rt (by decide) rfl (seqNx (show exec (callF (n + 2)) _ r0 δ = _ from s1) (seqNx s2 (seqRt (retE ?_)))), ⟨by show rules.length = is.length; omega, by show 0 < is.length; omega, by show is.length ≤ 5; omega, his, fun r hr' => ?_⟩⟩
  · have e5 := fnTupE (lcE (own := [6]) (itR1E' (x := 1 + x) (δ1 := δ2) (cf := callF (n + 2)) (a := .var 4) (ρ := view true r2) (δ := δ2) (by omega) (by omega) (by simp [r2, view, Sl.full, evE])) (by rw [List.length_map, List.length_range]; omega) k1)
    have e6 : evE (callF (n + 2)) (.var 5) (view true r2) δ2 = some (.tup (is.map .int), δ2) := rfl
    rw [evE, evL, e6]
    simp only [bd]
    rw [evL, e5]
    simp only [bd]
    rw [evL]
    simp [netD]
  · have z := hr r hr'
    have en : (⟨is, rules⟩ : Net).tops.length = (1 + x).toNat := g2
    rw [en]
    exact z
end NB

set_option Elab.async false
set_option linter.all false
set_option maxRecDepth 100000
set_option maxHeartbeats 2000000
/-! Loops by place; a past; what a house hears, by the law. -/
namespace NB
/-- a loop by place; the source of draws may change -/
theorem forGo_ix {body : List Sl → Dl → Option (Fl × Dl)} {tg : Tg} (P : Nat → List Sl → Dl → Prop) : ∀ {xs : List D} {k : Nat} {ρ : List Sl} {δ : Dl}, P k ρ δ → (∀ i x ρ δ, xs[i]? = some x → P (k + i) ρ δ → ∃ ρ1 ρ2 δ2, asgS tg ρ x = some ρ1 ∧ body ρ1 δ = some (.nx ρ2, δ2) ∧ P (k + i + 1) ρ2 δ2) →
    ∃ ρ' δ', forGo body tg xs ρ δ = some (.nx ρ', δ') ∧ P (k + xs.length) ρ' δ'
  | [], k, ρ, δ, p, _ => ⟨ρ, δ, rfl, p⟩
  | x :: xs, k, ρ, δ, p, h => by
    obtain ⟨ρ1, ρ2, δ2, h1, h2, h3⟩ := h 0 x ρ δ rfl p
    obtain ⟨ρ', δ', h4, h5⟩ := forGo_ix P (xs := xs) (k := k + 1) h3 fun i y ρ δ hy hp => by
      have e : k + 1 + i = k + (i + 1) := by omega
      rw [e] at hp ⊢
      exact h (i + 1) y ρ δ (by simpa using hy) hp
    refine ⟨ρ', δ', ?_, ?_⟩
    · rw [forGo, h1]
      simp only [bd, h2, h4]
    · rw [List.length_cons, show k + (xs.length + 1) = k + 1 + xs.length by omega]
      exact h5
theorem comp_draw2 {tst : Env → Dl → Option (Bool × Dl)} {elt : Env → Dl → Option (D × Dl)} {tg : Tg} {ρ : Env} (P : D → D → Prop) : ∀ {xs : List D} {δ : Dl}, (∀ x ∈ xs, ∀ δ, ∃ ρ1, asg tg ρ x = some ρ1 ∧ tst ρ1 δ = some (true, δ) ∧ ∃ d δ', elt ρ1 δ = some (d, δ') ∧ P x d) → ∃ ds δ', compGo tst elt tg ρ xs δ = some (ds, δ') ∧ ds.length = xs.length ∧ ∀ (i : Nat) x d, xs[i]? = some x → ds[i]? = some d → P x d
  | [], δ, _ => ⟨[], δ, rfl, rfl, fun _ _ _ h => by simp at h⟩
  | x :: xs, δ, h => by
    obtain ⟨ρ1, h1, h2, d, δ1, h3, h4⟩ := h x List.mem_cons_self δ
    obtain ⟨ds, δ2, h5, h6, h7⟩ := comp_draw2 P (xs := xs) (δ := δ1) fun y hy => h y (List.mem_cons_of_mem _ hy)
    refine ⟨d :: ds, δ2, ?_, by rw [List.length_cons, List.length_cons, h6], fun i y z hy hz => ?_⟩
    · rw [compGo, h1]
      simp only [bd, h2, h3, h5, if_true]
    · cases i with
      | zero => simp at hy hz; subst hy hz; exact h4
      | succ i => exact h7 i y z (by simpa using hy) (by simpa using hz)
def stD (s : List Int) : D := .tup (s.map .int)
/-- a state of the net -/
def StOk (w : Net) (s : List Int) : Prop := s.length = w.n ∧ ∀ j, j < w.n → 0 ≤ s.getD j 0 ∧ s.getD j 0 ≤ w.top j
theorem state_draw {w : Net} (o : w.Ok) {n : Nat} (δ : Dl) {ρ : Env} {e : E} (he : ∀ t δ, asg (.one 4) (wipeE ρ [4]) t = some ((wipeE ρ [4]).set 4 (some t)) ∧ (∀ i : Int, t = .int i → evE (callF (n + 1)) e ((wipeE ρ [4]).set 4 (some t)) δ = evE (callF (n + 1)) (.call .l_any (.cons (.var 0) (.cons (.int (i + 1)) .nil))) [some .deal] δ)) :
    ∃ s δ', compGo (fun r δ => evT (callF (n + 1)) .nop r δ) (fun r δ => evE (callF (n + 1)) e r δ) (.one 4) (wipeE ρ [4]) (w.tops.map .int) δ = some (s.map .int, δ') ∧ StOk w s := by
  obtain ⟨ds, δ', h1, h2, h3⟩ := comp_draw2 (tst := fun r δ => evT (callF (n + 1)) .nop r δ) (elt := fun r δ => evE (callF (n + 1)) e r δ) (tg := .one 4) (ρ := wipeE ρ [4]) (fun x d => ∃ t i : Int, x = .int t ∧ d = .int i ∧ 0 ≤ i ∧ i ≤ t) (xs := w.tops.map .int) (δ := δ) (by
    intro x hx δ
    obtain ⟨t, ht, rfl⟩ := List.mem_map.mp hx
    have tp := o.tp t ht
    obtain ⟨a1, a2⟩ := he (.int t) δ
    obtain ⟨c, δ', ec, c0, c1⟩ := any_ok n δ (b := t + 1) (by omega) (by omega)
    refine ⟨_, a1, rfl, .int c, δ', ?_, t, c, rfl, rfl, c0, by omega⟩
    rw [a2 t rfl]
    simp [evE, evL, ec])
  have hint : ∀ d ∈ ds, ∃ i : Int, d = .int i ∧ True := fun d hd => by
    obtain ⟨i, hi, e⟩ := List.getElem_of_mem hd
    have hx : i < (w.tops.map D.int).length := by omega
    obtain ⟨t, j, _, e2, _⟩ := h3 i _ d (List.getElem?_eq_getElem hx) (by rw [List.getElem?_eq_getElem hi, e])
    exact ⟨j, e2, trivial⟩
  obtain ⟨is, rfl, _⟩ := ints_of (fun _ => True) hint
  rw [List.length_map, List.length_map] at h2
  refine ⟨is, δ', h1, h2, fun j hj => ?_⟩
  have hj1 : j < w.tops.length := hj
  have hj2 : j < is.length := by omega
  obtain ⟨t, i, e1, e2, i0, i1⟩ := h3 j (.int w.tops[j]) (.int is[j]) (by rw [List.getElem?_map, List.getElem?_eq_getElem hj1]; rfl) (by rw [List.getElem?_map, List.getElem?_eq_getElem hj2]; rfl)
  have e1' : w.tops[j] = t := by injection e1
  have e2' : is[j] = i := by injection e2
  unfold Net.top
  rw [List.getD_eq_getElem?_getD, List.getD_eq_getElem?_getD, List.getElem?_eq_getElem hj1, List.getElem?_eq_getElem hj2]
  show 0 ≤ is[j] ∧ is[j] ≤ w.tops[j]
  omega
end NB

set_option Elab.async false
set_option linter.all false
set_option maxRecDepth 100000
set_option maxHeartbeats 2000000
/-! A past; what a house hears, by the law. -/
namespace NB
section
variable {w : Net}
theorem states_of {P : List Int → Prop} : ∀ {ds : List D}, (∀ d ∈ ds, ∃ s, d = stD s ∧ P s) → ∃ ss : List (List Int), ds = ss.map stD ∧ ∀ s ∈ ss, P s
  | [], _ => ⟨[], rfl, fun _ h => nomatch h⟩
  | d :: ds, h => by
    obtain ⟨s, rfl, hs⟩ := h d List.mem_cons_self
    obtain ⟨ss, rfl, hss⟩ := states_of (ds := ds) fun y hy => h y (List.mem_cons_of_mem _ hy)
    refine ⟨s :: ss, rfl, fun y hy => ?_⟩
    rcases List.mem_cons.mp hy with rfl | hy
    · exact hs
    · exact hss y hy
theorem past_ok (o : w.Ok) (m : Nat) (hm : 4 ≤ m) {d : Int} (d0 : 0 ≤ d) (d1 : d ≤ 1000) (δ : Dl) : ∃ (past : List (List Int)) (δ' : Dl), callF m .l_past [.deal, netD w, .int d] δ = some (.tup (past.map stD), δ') ∧ past.length = d.toNat ∧ ∀ s ∈ past, StOk w s := by
  obtain ⟨n, rfl⟩ : ∃ n, m = n + 3 := ⟨m - 3, by omega⟩
  let r0 : List Sl := [.va .deal, .va (netD w), .va (.int d), .no, .no]
  have small : w.tops.length ≤ 5 := o.small
  obtain ⟨ds, δ', h1, h2, h3⟩ := comp_draw (tst := fun r δ => evT (callF (n + 2)) .nop r δ) (elt := fun r δ => evE (callF (n + 2)) (.fn .tuple (.cons (.lc [4] (.one 4) (.itS (.ix (.var 1) (.int 0))) .nop (.call .l_any (.cons (.var 0) (.cons (.bin .add (.var 4) (.int 1)) .nil)))) .nil)) r δ) (tg := .one 3) (ρ := wipeE (view true r0) [3]) (fun d => ∃ s, d = stD s ∧ StOk w s) (xs := (List.range d.toNat).map fun (k : Nat) => D.int (0 + (k : Int))) (δ := δ) (by
    intro y hy δ
    obtain ⟨s, δ', e, hs⟩ := state_draw o (n := n + 1) δ (ρ := [some .deal, some (netD w), some (.int d), some y, none]) (e := .call .l_any (.cons (.var 0) (.cons (.bin .add (.var 4) (.int 1)) .nil))) (fun t δ => ⟨rfl, fun i ei => by subst ei; simp [wipeE, evE, evL, evBin, evAdd]⟩)
    refine ⟨_, rfl, rfl, stD s, δ', ?_, s, rfl, hs⟩
    refine fnTupE (lcE (xs := w.tops.map .int) (δ1 := δ) ?_ (by rw [List.length_map]; omega) e)
    simp [r0, netD, view, Sl.full, wipeE, evI, evE, evIx, atD0, seqOf])
  obtain ⟨ss, rfl, hss⟩ := states_of h3
  rw [List.length_map, List.length_map, List.length_range] at h2
  refine ⟨ss, δ', call_rt (by decide) rfl (seqRt (retE (ρ := r0) (fnTupE (lcE (itR1E' (x := d) (δ1 := δ) (by omega) (by omega) (by simp [r0, view, Sl.full, evE])) (by rw [List.length_map, List.length_range]; omega) h1)))), h2, hss⟩
/-- what is heard: the states, the numbers -/
def heardOf (w : Net) (j : Nat) (sts : List (List Int)) (num : List Int) : Nat → Int := fun i => (sts.getD (sts.length - (num.getD i 0).toNat) []).getD ((br (w.rule j)).getD i 0) 0
theorem atD_st {sts : List (List Int)} {i : Nat} (h : i < sts.length) : atD (sts.map stD) (i : Int) = some (stD (sts.getD i [])) := by
  unfold atD
  rw [if_pos (by omega), List.getElem?_map, show ((i : Nat) : Int).toNat = i by omega, List.getElem?_eq_getElem h, List.getD_eq_getElem?_getD, List.getElem?_eq_getElem h]
  rfl
theorem hears_ok (o : w.Ok) (δ : Dl) {m j : Nat} (hj : j < w.n) (hm : 12 ≤ m) {sts : List (List Int)} (hst : ∀ s ∈ sts, StOk w s) {num : List Int} (hl : num.length = (br (w.rule j)).length) (hn : ∀ x ∈ num, 1 ≤ x ∧ x ≤ sts.length) {row : D} (hr : seqOf row = some (num.map .int)) :
    callF m .l_hears [netD w, .lst (sts.map stD), .int j, row] δ = some (.int (w.want j (heardOf w j sts num)), δ) := by
  obtain ⟨n, rfl⟩ : ∃ n, m = n + 1 := ⟨m - 1, by omega⟩
  obtain ⟨ok', h4, h5⟩ := o.rk hj
  have qb := l_branches_ok δ n (w.rule j) ok' (by omega) (by omega)
  have a1 := atD_rule o hj
  let K := (br (w.rule j)).length
  have eb : brD (w.rule j) = (List.range K).map fun i => .int (((br (w.rule j)).getD i 0 : Nat) : Int) := map_range_getD _ 0 _
  have en : num.map D.int = (List.range K).map fun i => .int (num.getD i 0) := by rw [show K = num.length from hl.symm]; exact map_range_getD _ 0 _
  have xs : List.zipWith (fun p q => D.tup [p, q]) (brD (w.rule j)) (num.map .int) = (List.range K).map fun i => .tup [.int (((br (w.rule j)).getD i 0 : Nat) : Int), .int (num.getD i 0)] := by rw [eb, en, zipWith_range]
  let st := fun (acc : List D) (a b : Sl) => [Sl.va (netD w), .va (.lst (sts.map stD)), .va (.int j), .va row, .ow acc, a, b]
  obtain ⟨ρ', δ', h1, a, b, h2, hd⟩ := forGo_ix (body := fun r d => exec (callF n) (.seq (.app 4 (.ix (.ix (.var 1) (.bin .sub (.fn .len (.cons (.var 1) .nil)) (.var 6))) (.var 5)) ⟨false, false⟩) .skip) r d) (tg := .many [5, 6]) (fun k ρ δ2 => ∃ a b, ρ = st ((List.range k).map fun i => .int (heardOf w j sts num i)) a b ∧ δ2 = δ) (xs := List.zipWith (fun p q => D.tup [p, q]) (brD (w.rule j)) (num.map .int)) (k := 0) (ρ := st [] .no .no) (δ := δ) ⟨_, _, rfl, rfl⟩ (by
    rintro i x ρ δ2 hx ⟨a, b, rfl, rfl⟩
    rw [Nat.zero_add]
    rw [xs, List.getElem?_map] at hx
    have hi : i < K := by
      by_cases h : i < K
      · exact h
      · rw [List.getElem?_eq_none (by rw [List.length_range]; omega)] at hx; cases hx
    rw [List.getElem?_range hi] at hx
    cases hx
    have hb : (br (w.rule j)).getD i 0 < w.n := by
      rw [List.getD_eq_getElem?_getD, List.getElem?_eq_getElem hi]
      exact br_lt _ ok' _ (List.getElem_mem hi)
    have hnum : 1 ≤ num.getD i 0 ∧ num.getD i 0 ≤ sts.length := by
      have hi' : i < num.length := by omega
      rw [List.getD_eq_getElem?_getD, List.getElem?_eq_getElem hi']
      exact hn _ (List.getElem_mem hi')
    have lt : sts.length - (num.getD i 0).toNat < sts.length := by omega
    have e1 : ((sts.length : Int) - num.getD i 0) = ((sts.length - (num.getD i 0).toNat : Nat) : Int) := by omega
    have z1 := atD_st (sts := sts) lt
    have sok : StOk w (sts.getD (sts.length - (num.getD i 0).toNat) []) := by
      rw [List.getD_eq_getElem?_getD, List.getElem?_eq_getElem lt]
      exact hst _ (List.getElem_mem lt)
    have z2 := atD_get (hs := sts.getD (sts.length - (num.getD i 0).toNat) []) (a := (br (w.rule j)).getD i 0) (by rw [sok.1]; exact hb)
    refine ⟨_, st ((List.range (i + 1)).map fun i => .int (heardOf w j sts num i)) (.va (.int (((br (w.rule j)).getD i 0 : Nat) : Int))) (.va (.int (num.getD i 0))), δ2, rfl, ?_, _, _, rfl, rfl⟩
    have hlen : ((List.range i).map fun i => D.int (heardOf w j sts num i)).length < 100000 := by rw [List.length_map, List.length_range]; omega
    rw [List.length_map, List.length_range] at hlen
    have es : (List.range (i + 1)).map (fun i => D.int (heardOf w j sts num i)) = (List.range i).map (fun i => D.int (heardOf w j sts num i)) ++ [.int (heardOf w j sts num i)] := by rw [List.range_succ, List.map_append]; rfl
    rw [es]
    have eh : heardOf w j sts num i = (sts.getD (sts.length - (num.getD i 0).toNat) []).getD ((br (w.rule j)).getD i 0) 0 := rfl
    rw [eh]
    generalize (br (w.rule j)).getD i 0 = bi at z2 ⊢
    generalize num.getD i 0 = nu at e1 z1 z2 ⊢
    generalize sts.getD (sts.length - nu.toNat) [] = s' at z1 z2 ⊢
    have z1 : atD (sts.map stD) ((sts.length - nu.toNat : Nat) : Int) = some (.tup (s'.map .int)) := z1
    simp [st, setAll, List.zip, List.zipWith, exec, evM, evE, evL, view, Sl.hide, evB, seq1, seqOf, evBin, ii, e1, evIx, z1, z2, hlen])
  have hK : 0 + (List.zipWith (fun p q => D.tup [p, q]) (brD (w.rule j)) (num.map .int)).length = K := by rw [Nat.zero_add, xs, List.length_map, List.length_range]
  rw [hK] at h2
  subst h2 hd
  have q := l_wants_ok o δ' (m := n) hj (by omega) (hs := (List.range K).map fun i => heardOf w j sts num i) (by
    intro x hx
    obtain ⟨i, hi, rfl⟩ := List.mem_map.mp hx
    have hi := List.mem_range.mp hi
    have hb : (br (w.rule j)).getD i 0 < w.n := by
      rw [List.getD_eq_getElem?_getD, List.getElem?_eq_getElem hi]
      exact br_lt _ ok' _ (List.getElem_mem hi)
    have hnum : 1 ≤ num.getD i 0 ∧ num.getD i 0 ≤ sts.length := by
      have hi' : i < num.length := by omega
      rw [List.getD_eq_getElem?_getD, List.getElem?_eq_getElem hi']
      exact hn _ (List.getElem_mem hi')
    have lt : sts.length - (num.getD i 0).toNat < sts.length := by omega
    unfold heardOf
    rw [List.getD_eq_getElem?_getD (l := sts), List.getElem?_eq_getElem lt]
    exact ((hst _ (List.getElem_mem lt)).2 _ hb).1) (by rw [List.length_map, List.length_range]; exact Nat.le_refl _)
  rw [List.map_map] at q
  have ew : w.want j (fun i => ((List.range K).map fun i => heardOf w j sts num i).getD i 0) = w.want j (heardOf w j sts num) := by
    unfold Net.want
    congr 1
    apply val_congr
    intro i hi
    exact getD_map hi
  rw [ew] at q
  apply call_rt (by decide) rfl
  refine seqNx (ρ1 := st [] .no .no) (δ1 := δ') rfl (seqNx (ρ1 := st ((List.range K).map fun i => .int (heardOf w j sts num i)) a b) (δ1 := δ') ?_ (seqRt (retE ?_)))
  · rw [exec]
    have ei : evI (callF n) (.itZ (.call .l_branches (.cons (.ix (.ix (.var 0) (.int 1)) (.var 2)) .nil)) (.var 3)) (view false (st [] .no .no)) δ' = some (List.zipWith (fun p q => D.tup [p, q]) (brD (w.rule j)) (num.map .int), δ') := by
      refine itZE (x := .lst (brD (w.rule j))) (y := row) (δ1 := δ') ?_ rfl rfl hr
      simp [st, netD, view, Sl.hide, evE, evL, evIx, atD1, a1, qb]
    rw [ei]
    exact h1
  · have q' : callF n .l_wants [netD w, .int j, .lst ((List.range K).map fun i => .int (heardOf w j sts num i))] δ' = some (.int (w.want j (heardOf w j sts num)), δ') := q
    simp [st, view, Sl.full, evE, evL, q']
end
end NB

set_option Elab.async false
set_option linter.all false
set_option maxRecDepth 100000
set_option maxHeartbeats 2000000
/-! The law's stopped run: one row of numbers. -/
namespace NB
def lastD : Option (Nat × List Int) → D
  | none => .non
  | some (b, r) => .tup [.int (b : Nat), .lst (r.map .int)]
/-- the slots of l_stopped -/
structure LS where
  w : Net
  d : Int
  e : Int
  B : Int
  past : D
  since : List Int
  last : List (Option (Nat × List Int))
  rows : List D
  sts : List (List Int)
  beat : Nat
  mv : List Nat
def LS.sl (s : LS) (house lat now row place most : Sl) : List Sl :=
  [.va .deal, .va (netD s.w), .va (.int s.d), .va (.int s.e), .va (.int s.B), .va (.int s.w.n), .va s.past, .ow (s.since.map .int), .ow (s.last.map lastD), .ow s.rows, .ow (s.sts.map stD), .va (.int s.beat), .va (.tup (s.mv.map fun j => .int (j : Nat))), house, lat, now, row, place, most]
/-- the greatest number at a place -/
def LS.lim (s : LS) (j i : Nat) : Int := if j ∈ s.mv then (match s.last.getD j none with
  | none => s.d
  | some (b, r) => mn2 s.d (r.getD i 0 + s.beat - b)) else s.d
def placeB : S := (.seq (.set 18 (.ite (.bin .isS (.ix (.var 8) (.var 13)) .non) (.var 2) (.fn .mn (.cons (.var 2) (.cons (.bin .sub (.bin .add (.ix (.ix (.ix (.var 8) (.var 13)) (.int 1)) (.var 17)) (.var 11)) (.ix (.ix (.var 8) (.var 13)) (.int 0))) .nil)))) ⟨true, false⟩) (.seq (.app 16 (.bin .add (.int 1) (.call .l_any (.cons (.var 0) (.cons (.ite (.bin .inn (.var 13) (.var 12)) (.var 18) (.var 2)) .nil)))) ⟨false, false⟩) .skip))
theorem atD_last {l : List (Option (Nat × List Int))} {j : Nat} (h : j < l.length) : atD (l.map lastD) (j : Int) = some (lastD (l.getD j none)) := by
  unfold atD
  rw [if_pos (by omega), List.getElem?_map, show ((j : Nat) : Int).toNat = j by omega, List.getElem?_eq_getElem h, List.getD_eq_getElem?_getD, List.getElem?_eq_getElem h]
  rfl
theorem in_mv {cf : CF} {ρ : Env} {δ : Dl} {j : Nat} {mv : List Nat} (h1 : ρ[13]? = some (some (.int (j : Nat)))) (h2 : ρ[12]? = some (some (.tup (mv.map fun j => .int (j : Nat))))) : evE cf (.bin .inn (.var 13) (.var 12)) ρ δ = some (.bl (decide (j ∈ mv)), δ) := by
  have e : intsOf (mv.map fun j => D.int (j : Nat)) = some (mv.map fun j => ((j : Nat) : Int)) := by
    have := intsOf_map (mv.map fun j => ((j : Nat) : Int))
    rwa [List.map_map] at this
  have m : (((j : Nat) : Int) ∈ mv.map fun j => ((j : Nat) : Int)) ↔ j ∈ mv := by
    constructor
    · intro h
      obtain ⟨k, hk, ek⟩ := List.mem_map.mp h
      have : k = j := by omega
      exact this ▸ hk
    · intro h
      exact List.mem_map.mpr ⟨j, h, rfl⟩
  simp [evE, h1, h2, evBin, evIn, seqOf, e]
  exact ⟨fun ⟨a, ha, ea⟩ => by
    have : a = j := by omega
    exact this ▸ ha, fun h => ⟨j, h, rfl⟩⟩
theorem place_set (s : LS) {n j i : Nat} {δ : Dl} {lat now : Sl} {nums : List Int} {most : Sl} (hj : j < s.last.length) (hr : ∀ b r, s.last.getD j none = some (b, r) → i < r.length) :
    ∃ x, exec (callF n) (.set 18 (.ite (.bin .isS (.ix (.var 8) (.var 13)) .non) (.var 2) (.fn .mn (.cons (.var 2) (.cons (.bin .sub (.bin .add (.ix (.ix (.ix (.var 8) (.var 13)) (.int 1)) (.var 17)) (.var 11)) (.ix (.ix (.var 8) (.var 13)) (.int 0))) .nil)))) ⟨true, false⟩) (s.sl (.va (.int j)) lat now (.ow (nums.map .int)) (.va (.int i)) most) δ = some (.nx (s.sl (.va (.int j)) lat now (.ow (nums.map .int)) (.va (.int i)) (.va (.int x))), δ) ∧ (j ∈ s.mv → x = s.lim j i) := by
  have a := atD_last hj
  cases q : s.last.getD j none with
  | none =>
    rw [q] at a
    refine ⟨s.d, ?_, fun h => by unfold LS.lim; rw [if_pos h, q]⟩
    simp only [lastD] at a
    simp [LS.sl, exec, evM, evE, view, Sl.full, evIx, a, evBin, evIs, blOf, flat]
  | some p =>
    obtain ⟨b, r⟩ := p
    rw [q] at a
    have hi := hr b r q
    have ar := atD_get hi
    refine ⟨mn2 s.d (r.getD i 0 + s.beat - b), ?_, fun h => by unfold LS.lim; rw [if_pos h, q]⟩
    simp only [lastD] at a
    unfold mn2
    simp [LS.sl, exec, evM, evE, evL, view, Sl.full, evIx, a, atD0, atD1, ar, evBin, evIs, blOf, flat, ii, evAdd, evB, evMM, int2]
theorem appE {cf : CF} {x : Nat} {e : E} {ρ : List Sl} {d : D} {ds : List D} {δ δ1 : Dl} (h : evE cf e (view false ρ) δ = some (d, δ1)) (hx : ρ[x]? = some (.ow ds)) (hl : ds.length < 100000) : exec cf (.app x e ⟨false, false⟩) ρ δ = some (.nx (ρ.set x (.ow (ds ++ [d]))), δ1) := by
  rw [exec, evM, h]
  simp [hx, hl]
theorem place_turn (s : LS) {n j i : Nat} {δ : Dl} {lat now : Sl} {nums : List Int} {most : Sl} (hj : j < s.last.length) (hr : ∀ b r, s.last.getD j none = some (b, r) → i < r.length) (hd : 0 < s.d ∧ s.d ≤ 1000) (hl : 0 < s.lim j i ∧ s.lim j i ≤ 1000) (hz : nums.length < 1000) :
    ∃ (v : Int) (m' : Sl) (δ' : Dl), exec (callF (n + 1)) placeB (s.sl (.va (.int j)) lat now (.ow (nums.map .int)) (.va (.int i)) most) δ = some (.nx (s.sl (.va (.int j)) lat now (.ow ((nums ++ [v]).map .int)) (.va (.int i)) m'), δ') ∧ 1 ≤ v ∧ v ≤ s.lim j i := by
  obtain ⟨x, h1, h2⟩ := place_set s (n := n + 1) (δ := δ) (lat := lat) (now := now) (nums := nums) (most := most) hj hr
  let c : Int := if j ∈ s.mv then x else s.d
  have hc : c = s.lim j i := by
    show (if j ∈ s.mv then x else s.d) = s.lim j i
    by_cases q : j ∈ s.mv
    · rw [if_pos q]; exact h2 q
    · rw [if_neg q]; unfold LS.lim; rw [if_neg q]
  obtain ⟨r, δ', e, r0, r1⟩ := any_ok n δ (b := c) (by omega) (by omega)
  refine ⟨1 + r, .va (.int x), δ', seqNx h1 ?_, by omega, by omega⟩
  have t : evE (callF (n + 1)) (.ite (.bin .inn (.var 13) (.var 12)) (.var 18) (.var 2)) (view false (s.sl (.va (.int j)) lat now (.ow (nums.map .int)) (.va (.int i)) (.va (.int x)))) δ = some (.int c, δ) := by
    rw [evE, in_mv (j := j) (mv := s.mv) rfl rfl]
    show (do let c ← blOf (D.bl (decide (j ∈ s.mv))); if c then _ else _) = _
    simp only [blOf, bd]
    by_cases q : j ∈ s.mv
    · rw [if_pos (decide_eq_true q)]
      show some (D.int x, δ) = some (D.int (if j ∈ s.mv then x else s.d), δ)
      rw [if_pos q]
    · rw [if_neg (by rw [decide_eq_false q]; decide)]
      show some (D.int s.d, δ) = some (D.int (if j ∈ s.mv then x else s.d), δ)
      rw [if_neg q]
  have t2 : evE (callF (n + 1)) (.bin .add (.int 1) (.call .l_any (.cons (.var 0) (.cons (.ite (.bin .inn (.var 13) (.var 12)) (.var 18) (.var 2)) .nil)))) (view false (s.sl (.va (.int j)) lat now (.ow (nums.map .int)) (.va (.int i)) (.va (.int x)))) δ = some (.int (1 + r), δ') := by
    rw [evE]
    have one : evE (callF (n + 1)) (.int 1) (view false (s.sl (.va (.int j)) lat now (.ow (nums.map .int)) (.va (.int i)) (.va (.int x)))) δ = some (.int 1, δ) := rfl
    rw [one]
    simp only [bd]
    rw [anyE (r := r) (δ1 := δ') rfl t e]
    rfl
  have hz' : (nums.map D.int).length < 100000 := by rw [List.length_map]; omega
  have t3 : exec (callF (n + 1)) (.app 16 (.bin .add (.int 1) (.call .l_any (.cons (.var 0) (.cons (.ite (.bin .inn (.var 13) (.var 12)) (.var 18) (.var 2)) .nil)))) ⟨false, false⟩) (s.sl (.va (.int j)) lat now (.ow (nums.map .int)) (.va (.int i)) (.va (.int x))) δ = some (.nx (s.sl (.va (.int j)) lat now (.ow ((nums ++ [1 + r]).map .int)) (.va (.int i)) (.va (.int x))), δ') := by
    have z := appE (x := 16) (ds := nums.map .int) t2 rfl hz'
    rw [z, List.map_append]
    rfl
  exact seqNx t3 rfl
end NB

set_option Elab.async false
set_option linter.all false
set_option maxRecDepth 100000
set_option maxHeartbeats 2000000
/-! The law's stopped run: a house's row, its turn. -/
namespace NB
theorem place_loop (s : LS) {n j K : Nat} {δ : Dl} {lat now : Sl} {most pl : Sl} (hj : j < s.last.length) (hr : ∀ b r, s.last.getD j none = some (b, r) → K ≤ r.length) (hd : 0 < s.d ∧ s.d ≤ 1000) (hl : ∀ i, i < K → 0 < s.lim j i ∧ s.lim j i ≤ 1000) (hK : K ≤ 1000) :
    ∃ (nums : List Int) (pl' m' : Sl) (δ' : Dl), forGo (fun r d => exec (callF (n + 1)) placeB r d) (.one 17) ((List.range K).map fun (i : Nat) => D.int (0 + (i : Int))) (s.sl (.va (.int j)) lat now (.ow []) pl most) δ = some (.nx (s.sl (.va (.int j)) lat now (.ow (nums.map .int)) pl' m'), δ') ∧ nums.length = K ∧ ∀ i, i < K → 1 ≤ nums.getD i 0 ∧ nums.getD i 0 ≤ s.lim j i := by
  obtain ⟨ρ', δ', h1, nums, a, b, e, hn, hv⟩ := forGo_ix (body := fun r d => exec (callF (n + 1)) placeB r d) (tg := .one 17) (fun k ρ _ => ∃ (nums : List Int) (a b : Sl), ρ = s.sl (.va (.int j)) lat now (.ow (nums.map .int)) a b ∧ nums.length = k ∧ ∀ i, i < k → 1 ≤ nums.getD i 0 ∧ nums.getD i 0 ≤ s.lim j i) (xs := (List.range K).map fun (i : Nat) => D.int (0 + (i : Int))) (k := 0) (ρ := s.sl (.va (.int j)) lat now (.ow []) pl most) (δ := δ) ⟨[], _, _, rfl, rfl, fun i h => absurd h (Nat.not_lt_zero i)⟩ (by
    rintro i x ρ δ hx ⟨nums, a, b, rfl, hn, hv⟩
    rw [Nat.zero_add] at hn hv ⊢
    rw [List.getElem?_map] at hx
    have hi : i < K := by
      by_cases h : i < K
      · exact h
      · rw [List.getElem?_eq_none (by rw [List.length_range]; omega)] at hx; cases hx
    rw [List.getElem?_range hi] at hx
    cases hx
    obtain ⟨v, m', δ2, g1, g2, g3⟩ := place_turn s (n := n) (δ := δ) (lat := lat) (now := now) (nums := nums) (most := b) (i := i) hj (fun b r q => by have := hr b r q; omega) hd (hl i hi) (by omega)
    refine ⟨_, s.sl (.va (.int j)) lat now (.ow ((nums ++ [v]).map .int)) (.va (.int i)) m', δ2, rfl, ?_, nums ++ [v], .va (.int i), m', rfl, by rw [List.length_append, hn]; rfl, fun k hk => ?_⟩
    · show exec (callF (n + 1)) placeB ((s.sl (.va (.int j)) lat now (.ow (nums.map .int)) a b).set 17 (.va (.int (0 + (i : Int))))) δ = _
      rw [show (0 + (i : Int)) = (i : Int) by omega]
      exact g1
    · rw [List.getD_eq_getElem?_getD]
      by_cases e : k = i
      · subst e
        rw [List.getElem?_append_right (by omega), hn, Nat.sub_self]
        exact ⟨g2, g3⟩
      · have hk' : k < nums.length := by omega
        rw [List.getElem?_append_left hk', ← List.getD_eq_getElem?_getD]
        exact hv k (by omega))
  subst e
  rw [Nat.zero_add, List.length_map, List.length_range] at hn hv
  exact ⟨nums, a, b, δ', h1, hn, hv⟩
end NB

set_option Elab.async false
set_option linter.all false
set_option maxRecDepth 100000
set_option maxHeartbeats 2000000
/-! The law's stopped run: a house's turn. -/
namespace NB
theorem appF {cf : CF} {x : Nat} {e : E} {ρ : List Sl} {d : D} {ds : List D} {δ δ1 : Dl} (h : evE cf e (view true ρ) δ = some (d, δ1)) (hf : flat d = true) (hx : ρ[x]? = some (.ow ds)) (hl : ds.length < 100000) : exec cf (.app x e ⟨true, false⟩) ρ δ = some (.nx (ρ.set x (.ow (ds ++ [d]))), δ1) := by
  rw [exec, evM, h]
  simp [hx, hl, hf]
theorem stoF {cf : CF} {x : Nat} {i e : E} {ρ : List Sl} {d : D} {k : Nat} {ds : List D} {δ δ1 δ2 : Dl} (h : evE cf e (view true ρ) δ = some (d, δ1)) (hf : flat d = true) (hi : evE cf i (view true ρ) δ1 = some (.int (k : Nat), δ2)) (hx : ρ[x]? = some (.ow ds)) (hl : k < ds.length) : exec cf (.sto x i e ⟨true, false⟩) ρ δ = some (.nx (ρ.set x (.ow (ds.set k d))), δ2) := by
  have c : (0 : Int) ≤ (k : Int) ∧ (k : Int) < ds.length := by omega
  rw [exec, evM, h]
  simp [hx, hf, hi, intOf, hl]
theorem stoH {cf : CF} {x : Nat} {i e : E} {ρ : List Sl} {d : D} {k : Nat} {ds : List D} {δ δ1 δ2 : Dl} (h : evE cf e (view false ρ) δ = some (d, δ1)) (hi : evE cf i (view true ρ) δ1 = some (.int (k : Nat), δ2)) (hx : ρ[x]? = some (.ow ds)) (hl : k < ds.length) : exec cf (.sto x i e ⟨false, false⟩) ρ δ = some (.nx (ρ.set x (.ow (ds.set k d))), δ2) := by
  rw [exec, evM, h]
  simp [hx, hi, intOf, hl]
theorem flat_st (l : List Int) : flat (stD l) = true := by
  have h : flats (l.map .int) = true := by
    induction l with
    | nil => rfl
    | cons x l ih => simp [flats, flat, ih]
  simp [stD, flat, h]
def houseB : S := (.seq (.set 16 (.lst .nil) ⟨false, true⟩) (.seq (.for (.one 17) (.itR1 (.fn .len (.cons (.call .l_branches (.cons (.ix (.ix (.var 1) (.int 1)) (.var 13)) .nil)) .nil))) placeB) (.seq (.app 14 (.fn .tuple (.cons (.var 16) .nil)) ⟨true, false⟩) (.seq (.ife (.bin .inn (.var 13) (.var 12)) (.seq (.sto 15 (.var 13) (.call .l_hears (.cons (.var 1) (.cons (.var 10) (.cons (.var 13) (.cons (.var 16) .nil))))) ⟨true, false⟩) (.frz 16 (.seq (.sto 8 (.var 13) (.tup (.cons (.var 11) (.cons (.var 16) .nil))) ⟨false, false⟩) .skip))) .skip) (.seq (.sto 7 (.var 13) (.ite (.bin .inn (.var 13) (.var 12)) (.int 0) (.bin .add (.ix (.var 7) (.var 13)) (.int 1))) ⟨true, false⟩) .skip)))))
/-- what a house's turn leaves -/
def LS.turn (s : LS) (j : Nat) (nums : List Int) : LS := if j ∈ s.mv then { s with since := s.since.set j 0, last := s.last.set j (some (s.beat, nums)) } else { s with since := s.since.set j (s.since.getD j 0 + 1) }
def LS.now (s : LS) (j : Nat) (nums now : List Int) : List Int := if j ∈ s.mv then now.set j (s.w.want j (heardOf s.w j s.sts nums)) else now
end NB

set_option Elab.async false
set_option linter.all false
set_option maxRecDepth 100000
set_option maxHeartbeats 2000000
/-! The law's stopped run: a house's turn. -/
namespace NB
theorem flat_int (i : Int) : flat (.int i) = true := rfl
theorem house_turn (s : LS) (o : s.w.Ok) {n j : Nat} {δ : Dl} {lats : List (List Int)} {now : List Int} {row pl most : Sl} (hn : 14 ≤ n) (hj : j < s.w.n) (l1 : s.since.length = s.w.n) (l2 : s.last.length = s.w.n) (l3 : now.length = s.w.n) (l4 : lats.length < 1000)
    (hr : ∀ b r, s.last.getD j none = some (b, r) → (br (s.w.rule j)).length ≤ r.length) (hd : 0 < s.d ∧ s.d ≤ 1000) (hl : ∀ i, i < (br (s.w.rule j)).length → 0 < s.lim j i ∧ s.lim j i ≤ s.d) (hb : (br (s.w.rule j)).length ≤ 1000)
    (hst : ∀ x ∈ s.sts, StOk s.w x) (hds : s.d ≤ s.sts.length) :
    ∃ (nums : List Int) (row' pl' m' : Sl) (δ' : Dl), exec (callF (n + 1)) houseB (s.sl (.va (.int j)) (.ow (lats.map stD)) (.ow (now.map .int)) row pl most) δ = some (.nx ((s.turn j nums).sl (.va (.int j)) (.ow ((lats ++ [nums]).map stD)) (.ow ((s.now j nums now).map .int)) row' pl' m'), δ') ∧ nums.length = (br (s.w.rule j)).length ∧ ∀ i, i < (br (s.w.rule j)).length → 1 ≤ nums.getD i 0 ∧ nums.getD i 0 ≤ s.lim j i := by
  obtain ⟨nums, pl', m', δ', g1, g2, g3⟩ := place_loop s (n := n) (j := j) (K := (br (s.w.rule j)).length) (δ := δ) (lat := .ow (lats.map stD)) (now := .ow (now.map .int)) (most := most) (pl := pl) (by omega) hr hd (fun i hi => by have := hl i hi; omega) hb
  have a1 := atD_rule o hj
  have qb := l_branches_ok δ (n + 1) (s.w.rule j) (o.rk hj).1 (by omega) (by have := (o.rk hj).2.1; omega)
  have hnum : ∀ x ∈ nums, 1 ≤ x ∧ x ≤ s.sts.length := fun x hx => by
    obtain ⟨i, hi, rfl⟩ := List.getElem_of_mem hx
    have h1 := g3 i (by omega)
    have h2 := hl i (by omega)
    rw [List.getD_eq_getElem?_getD, List.getElem?_eq_getElem hi] at h1
    have h1 : 1 ≤ nums[i] ∧ nums[i] ≤ s.lim j i := h1
    omega
  -- the row
  have s1 : exec (callF (n + 1)) (.set 16 (.lst .nil) ⟨false, true⟩) (s.sl (.va (.int j)) (.ow (lats.map stD)) (.ow (now.map .int)) row pl most) δ = some (.nx (s.sl (.va (.int j)) (.ow (lats.map stD)) (.ow (now.map .int)) (.ow []) pl most), δ) := by
    simp [exec, evM, evE, evL, isFresh, flats, LS.sl]
  have s2 : exec (callF (n + 1)) (.for (.one 17) (.itR1 (.fn .len (.cons (.call .l_branches (.cons (.ix (.ix (.var 1) (.int 1)) (.var 13)) .nil)) .nil))) placeB) (s.sl (.va (.int j)) (.ow (lats.map stD)) (.ow (now.map .int)) (.ow []) pl most) δ = some (.nx (s.sl (.va (.int j)) (.ow (lats.map stD)) (.ow (now.map .int)) (.ow (nums.map .int)) pl' m'), δ') := by
    have e : evE (callF (n + 1)) (.fn .len (.cons (.call .l_branches (.cons (.ix (.ix (.var 1) (.int 1)) (.var 13)) .nil)) .nil)) (view false (s.sl (.va (.int j)) (.ow (lats.map stD)) (.ow (now.map .int)) (.ow []) pl most)) δ = some (.int (br (s.w.rule j)).length, δ) := by
      simp [LS.sl, netD, view, Sl.hide, evE, evL, evIx, atD1, a1, qb, evB, seq1, seqOf, brD_len]
    rw [exec, itR1E (x := ((br (s.w.rule j)).length : Int)) (by omega) (by omega) e]
    simp only [bd]
    rw [show (((br (s.w.rule j)).length : Nat) : Int).toNat = (br (s.w.rule j)).length by omega]
    exact g1
  have s3 : exec (callF (n + 1)) (.app 14 (.fn .tuple (.cons (.var 16) .nil)) ⟨true, false⟩) (s.sl (.va (.int j)) (.ow (lats.map stD)) (.ow (now.map .int)) (.ow (nums.map .int)) pl' m') δ' = some (.nx (s.sl (.va (.int j)) (.ow ((lats ++ [nums]).map stD)) (.ow (now.map .int)) (.ow (nums.map .int)) pl' m'), δ') := by
    have z := appF (cf := callF (n + 1)) (x := 14) (e := .fn .tuple (.cons (.var 16) .nil)) (ρ := s.sl (.va (.int j)) (.ow (lats.map stD)) (.ow (now.map .int)) (.ow (nums.map .int)) pl' m') (d := stD nums) (ds := lats.map stD) (δ := δ') (δ1 := δ') (fnTupE rfl) (flat_st nums) rfl (by rw [List.length_map]; omega)
    rw [z, List.map_append]
    rfl
  have im : ∀ (b : Bool) (s : LS) (lat now row pl m : Sl) δ, evE (callF (n + 1)) (.bin .inn (.var 13) (.var 12)) (view b (s.sl (.va (.int j)) lat now row pl m)) δ = some (.bl (decide (j ∈ s.mv)), δ) := fun b s lat now row pl m δ => by
    cases b
    · exact in_mv rfl rfl
    · exact in_mv rfl rfl
  have v13 : ∀ (s : LS) (lat now row pl m : Sl) δ, evE (callF (n + 1)) (.var 13) (view true (s.sl (.va (.int j)) lat now row pl m)) δ = some (.int (j : Nat), δ) := fun _ _ _ _ _ _ _ => rfl
  by_cases q : j ∈ s.mv
  · have e1 : s.turn j nums = { s with since := s.since.set j 0, last := s.last.set j (some (s.beat, nums)) } := by unfold LS.turn; rw [if_pos q]
    have e2 : s.now j nums now = now.set j (s.w.want j (heardOf s.w j s.sts nums)) := by unfold LS.now; rw [if_pos q]
    refine ⟨nums, .va (.lst (nums.map .int)), pl', m', δ', ?_, g2, g3⟩
    rw [e1, e2]
    have hh := hears_ok o δ' (m := n + 1) hj (by omega) hst g2 hnum (row := .lst (nums.map .int)) rfl
    have s4 : exec (callF (n + 1)) (.sto 15 (.var 13) (.call .l_hears (.cons (.var 1) (.cons (.var 10) (.cons (.var 13) (.cons (.var 16) .nil))))) ⟨true, false⟩) (s.sl (.va (.int j)) (.ow ((lats ++ [nums]).map stD)) (.ow (now.map .int)) (.ow (nums.map .int)) pl' m') δ' = some (.nx (s.sl (.va (.int j)) (.ow ((lats ++ [nums]).map stD)) (.ow ((now.set j (s.w.want j (heardOf s.w j s.sts nums))).map .int)) (.ow (nums.map .int)) pl' m'), δ') := by
      have z := stoF (cf := callF (n + 1)) (x := 15) (i := .var 13) (e := .call .l_hears (.cons (.var 1) (.cons (.var 10) (.cons (.var 13) (.cons (.var 16) .nil))))) (ρ := s.sl (.va (.int j)) (.ow ((lats ++ [nums]).map stD)) (.ow (now.map .int)) (.ow (nums.map .int)) pl' m') (d := .int (s.w.want j (heardOf s.w j s.sts nums))) (k := j) (ds := now.map .int) (δ := δ') (δ1 := δ') (δ2 := δ') (by simp [LS.sl, view, Sl.full, evE, evL, hh]) rfl (v13 _ _ _ _ _ _ _) rfl (by rw [List.length_map]; omega)
      rw [z, ← List.map_set]
      rfl
    have s5 : exec (callF (n + 1)) (.sto 8 (.var 13) (.tup (.cons (.var 11) (.cons (.var 16) .nil))) ⟨false, false⟩) (s.sl (.va (.int j)) (.ow ((lats ++ [nums]).map stD)) (.ow ((now.set j (s.w.want j (heardOf s.w j s.sts nums))).map .int)) (.va (.lst (nums.map .int))) pl' m') δ' = some (.nx (({ s with last := s.last.set j (some (s.beat, nums)) } : LS).sl (.va (.int j)) (.ow ((lats ++ [nums]).map stD)) (.ow ((now.set j (s.w.want j (heardOf s.w j s.sts nums))).map .int)) (.va (.lst (nums.map .int))) pl' m'), δ') := by
      have z := stoH (cf := callF (n + 1)) (x := 8) (i := .var 13) (e := .tup (.cons (.var 11) (.cons (.var 16) .nil))) (ρ := s.sl (.va (.int j)) (.ow ((lats ++ [nums]).map stD)) (.ow ((now.set j (s.w.want j (heardOf s.w j s.sts nums))).map .int)) (.va (.lst (nums.map .int))) pl' m') (d := lastD (some (s.beat, nums))) (k := j) (ds := s.last.map lastD) (δ := δ') (δ1 := δ') (δ2 := δ') (by simp [LS.sl, view, Sl.hide, evE, evL, lastD]) (v13 _ _ _ _ _ _ _) rfl (by rw [List.length_map]; omega)
      rw [z, ← List.map_set]
      rfl
    have s6 : exec (callF (n + 1)) (.sto 7 (.var 13) (.ite (.bin .inn (.var 13) (.var 12)) (.int 0) (.bin .add (.ix (.var 7) (.var 13)) (.int 1))) ⟨true, false⟩) (({ s with last := s.last.set j (some (s.beat, nums)) } : LS).sl (.va (.int j)) (.ow ((lats ++ [nums]).map stD)) (.ow ((now.set j (s.w.want j (heardOf s.w j s.sts nums))).map .int)) (.va (.lst (nums.map .int))) pl' m') δ' = some (.nx (({ s with since := s.since.set j 0, last := s.last.set j (some (s.beat, nums)) } : LS).sl (.va (.int j)) (.ow ((lats ++ [nums]).map stD)) (.ow ((now.set j (s.w.want j (heardOf s.w j s.sts nums))).map .int)) (.va (.lst (nums.map .int))) pl' m'), δ') := by
      have z := stoF (cf := callF (n + 1)) (x := 7) (i := .var 13) (e := .ite (.bin .inn (.var 13) (.var 12)) (.int 0) (.bin .add (.ix (.var 7) (.var 13)) (.int 1))) (ρ := ({ s with last := s.last.set j (some (s.beat, nums)) } : LS).sl (.va (.int j)) (.ow ((lats ++ [nums]).map stD)) (.ow ((now.set j (s.w.want j (heardOf s.w j s.sts nums))).map .int)) (.va (.lst (nums.map .int))) pl' m') (d := .int 0) (k := j) (ds := s.since.map .int) (δ := δ') (δ1 := δ') (δ2 := δ') (by
        rw [evE, im]
        simp [blOf, q, evE]) rfl (v13 _ _ _ _ _ _ _) rfl (by rw [List.length_map]; omega)
      rw [z, ← List.map_set]
      rfl
    have s45 : exec (callF (n + 1)) (.ife (.bin .inn (.var 13) (.var 12)) (.seq (.sto 15 (.var 13) (.call .l_hears (.cons (.var 1) (.cons (.var 10) (.cons (.var 13) (.cons (.var 16) .nil))))) ⟨true, false⟩) (.frz 16 (.seq (.sto 8 (.var 13) (.tup (.cons (.var 11) (.cons (.var 16) .nil))) ⟨false, false⟩) .skip))) .skip) (s.sl (.va (.int j)) (.ow ((lats ++ [nums]).map stD)) (.ow (now.map .int)) (.ow (nums.map .int)) pl' m') δ' = some (.nx (({ s with last := s.last.set j (some (s.beat, nums)) } : LS).sl (.va (.int j)) (.ow ((lats ++ [nums]).map stD)) (.ow ((now.set j (s.w.want j (heardOf s.w j s.sts nums))).map .int)) (.va (.lst (nums.map .int))) pl' m'), δ') := by
      refine ifT (by rw [im, decide_eq_true q]) (seqNx s4 ?_)
      rw [exec]
      exact seqNx s5 rfl
    exact seqNx s1 (seqNx s2 (seqNx s3 (seqNx s45 (seqNx s6 rfl))))
  · have e1 : s.turn j nums = { s with since := s.since.set j (s.since.getD j 0 + 1) } := by unfold LS.turn; rw [if_neg q]
    have e2 : s.now j nums now = now := by unfold LS.now; rw [if_neg q]
    refine ⟨nums, .ow (nums.map .int), pl', m', δ', ?_, g2, g3⟩
    rw [e1, e2]
    have as' := atD_get (hs := s.since) (a := j) (by omega)
    have s6 : exec (callF (n + 1)) (.sto 7 (.var 13) (.ite (.bin .inn (.var 13) (.var 12)) (.int 0) (.bin .add (.ix (.var 7) (.var 13)) (.int 1))) ⟨true, false⟩) (s.sl (.va (.int j)) (.ow ((lats ++ [nums]).map stD)) (.ow (now.map .int)) (.ow (nums.map .int)) pl' m') δ' = some (.nx (({ s with since := s.since.set j (s.since.getD j 0 + 1) } : LS).sl (.va (.int j)) (.ow ((lats ++ [nums]).map stD)) (.ow (now.map .int)) (.ow (nums.map .int)) pl' m'), δ') := by
      have z := stoF (cf := callF (n + 1)) (x := 7) (i := .var 13) (e := .ite (.bin .inn (.var 13) (.var 12)) (.int 0) (.bin .add (.ix (.var 7) (.var 13)) (.int 1))) (ρ := s.sl (.va (.int j)) (.ow ((lats ++ [nums]).map stD)) (.ow (now.map .int)) (.ow (nums.map .int)) pl' m') (d := .int (s.since.getD j 0 + 1)) (k := j) (ds := s.since.map .int) (δ := δ') (δ1 := δ') (δ2 := δ') (by
        rw [evE, im]
        simp only [bd, blOf, decide_eq_false q]
        simp [LS.sl, view, Sl.full, evE, evIx, as', evBin, evAdd]) rfl (v13 _ _ _ _ _ _ _) rfl (by rw [List.length_map]; omega)
      rw [z, ← List.map_set]
      rfl
    exact seqNx s1 (seqNx s2 (seqNx s3 (seqNx (ifF (by rw [im, decide_eq_false q])) (seqNx s6 rfl))))
end NB

set_option Elab.async false
set_option linter.all false
set_option maxRecDepth 100000
set_option maxHeartbeats 2000000
/-! The law's stopped run: the houses of a beat. -/
namespace NB
theorem getD_set {α : Type} {l : List α} {i j : Nat} {a d : α} (h : i < l.length) : (l.set i a).getD j d = if j = i then a else l.getD j d := by
  rw [List.getD_eq_getElem?_getD, List.getD_eq_getElem?_getD, List.getElem?_set]
  by_cases e : i = j
  · subst e
    rw [if_pos rfl, if_pos h, if_pos rfl]
    rfl
  · rw [if_neg e, if_neg fun q => e q.symm]
theorem getD_snoc {α : Type} {l : List α} {j : Nat} {a d : α} : (l ++ [a]).getD j d = if j = l.length then a else l.getD j d := by
  rw [List.getD_eq_getElem?_getD, List.getD_eq_getElem?_getD]
  by_cases e : j = l.length
  · rw [if_pos e, e, List.getElem?_append_right (Nat.le_refl _), Nat.sub_self]
    rfl
  · rw [if_neg e]
    by_cases h : j < l.length
    · rw [List.getElem?_append_left h]
    · rw [List.getElem?_append_right (by omega), List.getElem?_eq_none (by rw [List.length_singleton]; omega), List.getElem?_eq_none (by omega)]
def LS.upd (s : LS) (a : List Int) (b : List (Option (Nat × List Int))) : LS := { s with since := a, last := b }
theorem lim_upd {s : LS} {a : List Int} {b : List (Option (Nat × List Int))} {j : Nat} (h : b.getD j none = s.last.getD j none) (i : Nat) : (s.upd a b).lim j i = s.lim j i := by
  unfold LS.lim
  simp only [LS.upd, h]
/-- what the houses below k of a beat leave -/
structure Houses (s : LS) (now0 : List Int) (k : Nat) (since : List Int) (last : List (Option (Nat × List Int))) (L : List (List Int)) (now : List Int) : Prop where
  nL : L.length = k
  n1 : since.length = s.w.n
  n2 : last.length = s.w.n
  n3 : now.length = s.w.n
  si : ∀ j, j < s.w.n → since.getD j 0 = if j < k then (if j ∈ s.mv then 0 else s.since.getD j 0 + 1) else s.since.getD j 0
  la : ∀ j, j < s.w.n → last.getD j none = if j < k ∧ j ∈ s.mv then some (s.beat, L.getD j []) else s.last.getD j none
  no : ∀ j, j < s.w.n → now.getD j 0 = if j < k ∧ j ∈ s.mv then s.w.want j (heardOf s.w j s.sts (L.getD j [])) else now0.getD j 0
  ro : ∀ j, j < k → (L.getD j []).length = (br (s.w.rule j)).length ∧ ∀ i, i < (br (s.w.rule j)).length → 1 ≤ (L.getD j []).getD i 0 ∧ (L.getD j []).getD i 0 ≤ s.lim j i
theorem Houses.step {s : LS} {now0 : List Int} {k : Nat} {since : List Int} {last : List (Option (Nat × List Int))} {L : List (List Int)} {now : List Int} (H : Houses s now0 k since last L now) (hk : k < s.w.n) {nums : List Int} (hn : nums.length = (br (s.w.rule k)).length) (hl : ∀ i, i < (br (s.w.rule k)).length → 1 ≤ nums.getD i 0 ∧ nums.getD i 0 ≤ s.lim k i) :
    ∃ since' last', (s.upd since last).turn k nums = s.upd since' last' ∧ Houses s now0 (k + 1) since' last' (L ++ [nums]) ((s.upd since last).now k nums now) := by
  have aux : ∀ j, (L ++ [nums]).getD j [] = if j = k then nums else L.getD j [] := fun j => by rw [getD_snoc, H.nL]
  have sk := H.si k hk
  rw [if_neg (Nat.lt_irrefl k)] at sk
  have ro : ∀ j, j < k + 1 → ((L ++ [nums]).getD j []).length = (br (s.w.rule j)).length ∧ ∀ i, i < (br (s.w.rule j)).length → 1 ≤ ((L ++ [nums]).getD j []).getD i 0 ∧ ((L ++ [nums]).getD j []).getD i 0 ≤ s.lim j i := fun j hj => by
    rw [aux]
    by_cases e : j = k
    · subst e; rw [if_pos rfl]; exact ⟨hn, hl⟩
    · rw [if_neg e]; exact H.ro j (by omega)
  by_cases q : k ∈ s.mv
  · have e1 : (s.upd since last).turn k nums = s.upd (since.set k 0) (last.set k (some (s.beat, nums))) := by
      unfold LS.turn
      rw [if_pos (show k ∈ (s.upd since last).mv from q)]
      rfl
    have e2 : (s.upd since last).now k nums now = now.set k (s.w.want k (heardOf s.w k s.sts nums)) := by
      unfold LS.now
      rw [if_pos (show k ∈ (s.upd since last).mv from q)]
      rfl
    refine ⟨_, _, e1, ?_⟩
    rw [e2]
    refine ⟨by rw [List.length_append, H.nL]; rfl, by rw [List.length_set, H.n1], by rw [List.length_set, H.n2], by rw [List.length_set, H.n3], fun j hj => ?_, fun j hj => ?_, fun j hj => ?_, ro⟩
    · rw [getD_set (by rw [H.n1]; exact hk)]
      by_cases e : j = k
      · subst e; rw [if_pos rfl, if_pos (Nat.lt_succ_self j), if_pos q]
      · rw [if_neg e, H.si j hj]
        by_cases c : j < k
        · rw [if_pos c, if_pos (show j < k + 1 by omega)]
        · rw [if_neg c, if_neg (show ¬ j < k + 1 by omega)]
    · rw [getD_set (by rw [H.n2]; exact hk), aux]
      by_cases e : j = k
      · subst e; rw [if_pos rfl, if_pos ⟨Nat.lt_succ_self j, q⟩, if_pos rfl]
      · rw [if_neg e, if_neg e, H.la j hj]
        by_cases c : j < k ∧ j ∈ s.mv
        · rw [if_pos c, if_pos ⟨by omega, c.2⟩]
        · rw [if_neg c, if_neg fun z => c ⟨by omega, z.2⟩]
    · rw [getD_set (by rw [H.n3]; exact hk), aux]
      by_cases e : j = k
      · subst e; rw [if_pos rfl, if_pos ⟨Nat.lt_succ_self j, q⟩, if_pos rfl]
      · rw [if_neg e, if_neg e, H.no j hj]
        by_cases c : j < k ∧ j ∈ s.mv
        · rw [if_pos c, if_pos ⟨by omega, c.2⟩]
        · rw [if_neg c, if_neg fun z => c ⟨by omega, z.2⟩]
  · have e1 : (s.upd since last).turn k nums = s.upd (since.set k (since.getD k 0 + 1)) last := by
      unfold LS.turn
      rw [if_neg (show ¬ k ∈ (s.upd since last).mv from q)]
      rfl
    have e2 : (s.upd since last).now k nums now = now := by
      unfold LS.now
      rw [if_neg (show ¬ k ∈ (s.upd since last).mv from q)]
    refine ⟨_, _, e1, ?_⟩
    rw [e2]
    refine ⟨by rw [List.length_append, H.nL]; rfl, by rw [List.length_set, H.n1], H.n2, H.n3, fun j hj => ?_, fun j hj => ?_, fun j hj => ?_, ro⟩
    · rw [getD_set (by rw [H.n1]; exact hk)]
      by_cases e : j = k
      · subst e; rw [if_pos rfl, if_pos (Nat.lt_succ_self j), if_neg q, sk]
      · rw [if_neg e, H.si j hj]
        by_cases c : j < k
        · rw [if_pos c, if_pos (show j < k + 1 by omega)]
        · rw [if_neg c, if_neg (show ¬ j < k + 1 by omega)]
    · rw [H.la j hj, aux]
      by_cases c : j < k ∧ j ∈ s.mv
      · rw [if_pos c, if_pos ⟨by omega, c.2⟩, if_neg (show ¬ j = k by omega)]
      · rw [if_neg c, if_neg fun z => c ⟨by have : j ≠ k := fun e => q (e ▸ z.2); omega, z.2⟩]
    · rw [H.no j hj, aux]
      by_cases c : j < k ∧ j ∈ s.mv
      · rw [if_pos c, if_pos ⟨by omega, c.2⟩, if_neg (show ¬ j = k by omega)]
      · rw [if_neg c, if_neg fun z => c ⟨by have : j ≠ k := fun e => q (e ▸ z.2); omega, z.2⟩]
/-- a beat's houses can go -/
structure LS.Go (s : LS) : Prop where
  l1 : s.since.length = s.w.n
  l2 : s.last.length = s.w.n
  hr : ∀ j b r, j < s.w.n → s.last.getD j none = some (b, r) → (br (s.w.rule j)).length ≤ r.length
  hd : 0 < s.d ∧ s.d ≤ 1000
  hl : ∀ j i, j < s.w.n → i < (br (s.w.rule j)).length → 0 < s.lim j i ∧ s.lim j i ≤ s.d
  hst : ∀ x ∈ s.sts, StOk s.w x
  hds : s.d ≤ s.sts.length
theorem house_loop (s : LS) (o : s.w.Ok) (g : s.Go) {n : Nat} (hn : 14 ≤ n) {now0 : List Int} (h0 : now0.length = s.w.n) (δ : Dl) (a b c m : Sl) :
    ∃ since last L now h' a' b' c' δ', forGo (fun r d => exec (callF (n + 1)) houseB r d) (.one 13) ((List.range s.w.n).map fun (i : Nat) => D.int (0 + (i : Int))) (s.sl a (.ow []) (.ow (now0.map .int)) b c m) δ = some (.nx ((s.upd since last).sl h' (.ow (L.map stD)) (.ow (now.map .int)) a' b' c'), δ') ∧ Houses s now0 s.w.n since last L now := by
  have small : s.w.n ≤ 5 := o.small
  obtain ⟨ρ', δ', h1, since, last, L, now, h', a', b', c', e, H⟩ := forGo_ix (body := fun r d => exec (callF (n + 1)) houseB r d) (tg := .one 13) (fun k ρ _ => ∃ since last L now h' a' b' c', ρ = (s.upd since last).sl h' (.ow (L.map stD)) (.ow (now.map .int)) a' b' c' ∧ Houses s now0 k since last L now) (xs := (List.range s.w.n).map fun (i : Nat) => D.int (0 + (i : Int))) (k := 0) (ρ := s.sl a (.ow []) (.ow (now0.map .int)) b c m) (δ := δ) ⟨s.since, s.last, [], now0, a, b, c, m, rfl, rfl, g.l1, g.l2, h0, fun j _ => by rw [if_neg (Nat.not_lt_zero j)], fun j _ => by rw [if_neg fun z => Nat.not_lt_zero j z.1], fun j _ => by rw [if_neg fun z => Nat.not_lt_zero j z.1], fun j h => absurd h (Nat.not_lt_zero j)⟩ (by
    rintro i x ρ δ hx ⟨since, last, L, now, h', a', b', c', rfl, H⟩
    rw [Nat.zero_add] at H ⊢
    rw [List.getElem?_map] at hx
    have hi : i < s.w.n := by
      by_cases h : i < s.w.n
      · exact h
      · rw [List.getElem?_eq_none (by rw [List.length_range]; omega)] at hx; cases hx
    rw [List.getElem?_range hi] at hx
    cases hx
    have eL : last.getD i none = s.last.getD i none := by rw [H.la i hi, if_neg fun z => Nat.lt_irrefl i z.1]
    have ok' := o.rk hi
    obtain ⟨nums, r', p', m', δ2, f1, f2, f3⟩ := house_turn (s.upd since last) o (n := n) (j := i) (δ := δ) (lats := L) (now := now) (row := a') (pl := b') (most := c') hn hi H.n1 H.n2 H.n3 (by rw [H.nL]; omega) (fun b r q => g.hr i b r hi (by rw [← eL]; exact q)) g.hd (fun k hk => by rw [lim_upd eL]; exact g.hl i k hi hk) ok'.2.2 g.hst g.hds
    obtain ⟨since', last', e1, H'⟩ := H.step hi f2 (fun k hk => by have := f3 k hk; rw [lim_upd eL] at this; exact this)
    rw [e1] at f1
    refine ⟨_, _, δ2, rfl, ?_, since', last', L ++ [nums], _, .va (.int i), r', p', m', rfl, H'⟩
    show exec (callF (n + 1)) houseB ((s.upd since last).sl (.va (.int (0 + (i : Int)))) (.ow (L.map stD)) (.ow (now.map .int)) a' b' c') δ = _
    rw [show (0 + (i : Int)) = (i : Int) by omega]
    exact f1)
  subst e
  rw [Nat.zero_add, List.length_map, List.length_range] at H
  exact ⟨since, last, L, now, h', a', b', c', δ', h1, H⟩
end NB

set_option Elab.async false
set_option linter.all false
set_option maxRecDepth 100000
set_option maxHeartbeats 2000000
/-! The law's stopped run: a beat. -/
namespace NB
theorem comp_pick {tst : Env → Dl → Option (Bool × Dl)} {elt : Env → Dl → Option (D × Dl)} {tg : Tg} {ρ : Env} (a : Nat → D) (P : Nat → Prop) : ∀ {xs : List Nat} {δ : Dl}, (∀ j ∈ xs, ∀ δ, ∃ ρ1, asg tg ρ (a j) = some ρ1 ∧ (∃ b δ', tst ρ1 δ = some (b, δ') ∧ (P j → b = true)) ∧ ∀ δ, elt ρ1 δ = some (.int (j : Nat), δ)) →
    ∃ (mv : List Nat) (δ' : Dl), compGo tst elt tg ρ (xs.map a) δ = some (mv.map fun (j : Nat) => D.int (j : Nat), δ') ∧ (∀ j ∈ mv, j ∈ xs) ∧ ∀ j ∈ xs, P j → j ∈ mv
  | [], δ, _ => ⟨[], δ, rfl, (fun _ h => nomatch h), (fun _ h => nomatch h)⟩
  | x :: xs, δ, h => by
    obtain ⟨ρ1, h1, ⟨b, δ1, h2, h3⟩, h4⟩ := h x List.mem_cons_self δ
    obtain ⟨mv, δ2, h5, h6, h7⟩ := comp_pick a P (xs := xs) (δ := δ1) fun y hy => h y (List.mem_cons_of_mem _ hy)
    cases b with
    | true =>
      refine ⟨x :: mv, δ2, ?_, fun y hy => ?_, fun y hy p => ?_⟩
      · rw [List.map_cons, compGo, h1]
        simp only [bd, h2, h4, h5, if_true, List.map_cons]
      · rcases List.mem_cons.mp hy with rfl | hy
        · exact List.mem_cons_self
        · exact List.mem_cons_of_mem _ (h6 y hy)
      · rcases List.mem_cons.mp hy with rfl | hy
        · exact List.mem_cons_self
        · exact List.mem_cons_of_mem _ (h7 y hy p)
    | false =>
      refine ⟨mv, δ2, ?_, fun y hy => List.mem_cons_of_mem _ (h6 y hy), fun y hy p => ?_⟩
      · rw [List.map_cons, compGo, h1]
        simp only [bd, h2, h5]
        rw [if_neg (by decide)]
      · rcases List.mem_cons.mp hy with rfl | hy
        · exact absurd (h3 p) (by decide)
        · exact h7 y hy p
theorem flats_nat (l : List Nat) : flats (l.map fun (j : Nat) => D.int (j : Nat)) = true := by
  induction l with
  | nil => rfl
  | cons x l ih => simp [flats, flat, ih]
theorem flats_st (l : List (List Int)) : flats (l.map stD) = true := by
  induction l with
  | nil => rfl
  | cons x l ih => simp [flats, flat_st x, ih]
theorem flats_int (l : List Int) : flats (l.map .int) = true := by
  induction l with
  | nil => rfl
  | cons x l ih => simp [flats, flat, ih]
def mvD (mv : List Nat) : D := .tup (mv.map fun (j : Nat) => D.int (j : Nat))
def rowD (mv : List Nat) (L : List (List Int)) : D := .tup [mvD mv, .tup (L.map stD)]
theorem setF {cf : CF} {x : Nat} {e : E} {ρ : List Sl} {d : D} {δ δ1 : Dl} (h : evE cf e (view true ρ) δ = some (d, δ1)) (hf : flat d = true) : exec cf (.set x e ⟨true, false⟩) ρ δ = some (.nx (ρ.set x (.va d)), δ1) := by
  rw [exec, evM, h]
  simp [hf]
theorem atD_end {sts : List (List Int)} (h : 0 < sts.length) : atD (sts.map stD) (-1) = some (stD (sts.getD (sts.length - 1) [])) := by
  unfold atD
  have h1 : sts.length - 1 < sts.length := by omega
  rw [if_neg (by omega), if_pos (by rw [List.length_map]; omega), List.length_map, show (-1 + (sts.length : Int)).toNat = sts.length - 1 by omega, List.getElem?_map, List.getElem?_eq_getElem h1, List.getD_eq_getElem?_getD, List.getElem?_eq_getElem h1]
  rfl
def LS.s0 (s : LS) (beat mv house lat now row place most : Sl) : List Sl :=
  [.va .deal, .va (netD s.w), .va (.int s.d), .va (.int s.e), .va (.int s.B), .va (.int s.w.n), .va s.past, .ow (s.since.map .int), .ow (s.last.map lastD), .ow s.rows, .ow (s.sts.map stD), beat, mv, house, lat, now, row, place, most]
def moversE : E := .fn .tuple (.cons (.lc [13] (.one 13) (.itR1 (.var 5)) (.one (.or (.bin .ge (.ix (.var 7) (.var 13)) (.bin .sub (.var 3) (.int 1))) (.one (.bin .eq (.call .l_any (.cons (.var 0) (.cons (.int 2) .nil))) (.int 0))))) (.var 13)) .nil)
theorem movers_ok (s : LS) (o : s.w.Ok) (l1 : s.since.length = s.w.n) (n : Nat) (δ : Dl) (a m h l nw r p q : Sl) : ∃ mv δ', exec (callF (n + 1)) (.set 12 moversE ⟨true, false⟩) (s.s0 a m h l nw r p q) δ = some (.nx (s.s0 a (.va (mvD mv)) h l nw r p q), δ') ∧ (∀ j ∈ mv, j < s.w.n) ∧ ∀ j, j < s.w.n → s.e - 1 ≤ s.since.getD j 0 → j ∈ mv := by
  have small : s.w.n ≤ 5 := o.small
  obtain ⟨mv, δ', h1, h2, h3⟩ := comp_pick (tst := fun r δ => evT (callF (n + 1)) (.one (.or (.bin .ge (.ix (.var 7) (.var 13)) (.bin .sub (.var 3) (.int 1))) (.one (.bin .eq (.call .l_any (.cons (.var 0) (.cons (.int 2) .nil))) (.int 0))))) r δ) (elt := fun r δ => evE (callF (n + 1)) (.var 13) r δ) (tg := .one 13) (ρ := wipeE (view true (s.s0 a m h l nw r p q)) [13]) (fun i => D.int (0 + (i : Int))) (fun j => s.e - 1 ≤ s.since.getD j 0) (xs := List.range s.w.n) (δ := δ) (by
    intro j hj δ
    have hj := List.mem_range.mp hj
    obtain ⟨c, δ', ec, c0, c1⟩ := any_ok n δ (b := 2) (by omega) (by omega)
    have as' := atD_get (hs := s.since) (a := j) (by omega)
    rw [show (0 + (j : Int)) = (j : Int) by omega]
    refine ⟨_, rfl, ?_, fun δ => rfl⟩
    generalize s.since.getD j 0 = v at as' ⊢
    by_cases k : s.e - 1 ≤ v
    · refine ⟨true, δ, ?_, fun _ => rfl⟩
      simp [LS.s0, view, Sl.full, wipeE, evT, evE, evIx, as', evBin, ii, blOf, k]
    · refine ⟨decide (c = 0), δ', ?_, fun z => absurd z k⟩
      simp [LS.s0, view, Sl.full, wipeE, evT, evE, evL, evIx, as', evBin, ii, blOf, k, ec, evEq, fitN, eqD])
  refine ⟨mv, δ', ?_, fun j hj => List.mem_range.mp (h2 j hj), fun j hj => h3 j (List.mem_range.mpr hj)⟩
  have z := setF (cf := callF (n + 1)) (x := 12) (e := moversE) (ρ := s.s0 a m h l nw r p q) (d := mvD mv) (δ := δ) (δ1 := δ') (fnTupE (lcE (itR1E' (x := s.w.n) (δ1 := δ) (by omega) (by omega) rfl) (by rw [List.length_map, List.length_range]; omega) h1)) (flats_nat mv)
  exact z
def beatB : S := (.seq (.set 12 moversE ⟨true, false⟩) (.seq (.par [(14, (.lst .nil), ⟨false, true⟩), (15, (.fn .list (.cons (.ix (.var 10) (.neg 1)) .nil)), ⟨true, true⟩)]) (.seq (.for (.one 13) (.itR1 (.var 5)) houseB) (.seq (.app 10 (.fn .tuple (.cons (.var 15) .nil)) ⟨true, false⟩) (.seq (.app 9 (.tup (.cons (.var 12) (.cons (.fn .tuple (.cons (.var 14) .nil)) .nil))) ⟨true, false⟩) .skip)))))
theorem beat_ok (s : LS) (o : s.w.Ok) {n : Nat} (hn : 14 ≤ n) (l1 : s.since.length = s.w.n) (l2 : s.last.length = s.w.n) (hd : 0 < s.d ∧ s.d ≤ 1000) (hst : ∀ x ∈ s.sts, StOk s.w x) (hds : s.d ≤ s.sts.length) (hsl : s.sts.length < 10000) (hrl : s.rows.length < 10000)
    (hr : ∀ j b r, j < s.w.n → s.last.getD j none = some (b, r) → (br (s.w.rule j)).length ≤ r.length ∧ ∀ i, i < (br (s.w.rule j)).length → 0 < r.getD i 0 + s.beat - b) (δ : Dl) (m h l nw r p q : Sl) :
    ∃ mv since last L now m' h' l' nw' r' p' q' δ', exec (callF (n + 1)) beatB (s.s0 (.va (.int s.beat)) m h l nw r p q) δ = some (.nx (({ s with since := since, last := last, rows := s.rows ++ [rowD mv L], sts := s.sts ++ [now] } : LS).s0 (.va (.int s.beat)) m' h' l' nw' r' p' q'), δ') ∧ (∀ j ∈ mv, j < s.w.n) ∧ (∀ j, j < s.w.n → s.e - 1 ≤ s.since.getD j 0 → j ∈ mv) ∧ Houses { s with mv := mv } (s.sts.getD (s.sts.length - 1) []) s.w.n since last L now := by
  have small : s.w.n ≤ 5 := o.small
  obtain ⟨mv, δ1, e1, m1, m2⟩ := movers_ok s o l1 n δ (.va (.int s.beat)) m h l nw r p q
  have hs0 : 0 < s.sts.length := by omega
  have ae := atD_end hs0
  have so : StOk s.w (s.sts.getD (s.sts.length - 1) []) := by
    have h1 : s.sts.length - 1 < s.sts.length := by omega
    rw [List.getD_eq_getElem?_getD, List.getElem?_eq_getElem h1]
    exact hst _ (List.getElem_mem h1)
  generalize s.sts.getD (s.sts.length - 1) [] = now0 at ae so ⊢
  have s2 : exec (callF (n + 1)) (.par [(14, (.lst .nil), ⟨false, true⟩), (15, (.fn .list (.cons (.ix (.var 10) (.neg 1)) .nil)), ⟨true, true⟩)]) (s.s0 (.va (.int s.beat)) (.va (mvD mv)) h l nw r p q) δ1 = some (.nx (({ s with mv := mv } : LS).sl h (.ow []) (.ow (now0.map .int)) r p q), δ1) := by
    have f := flats_int now0
    have ae : atD (s.sts.map stD) (-1) = some (.tup (now0.map .int)) := ae
    simp [LS.s0, LS.sl, exec, evPar, evM, evE, evL, view, Sl.full, Sl.hide, evIx, ae, evB, seq1, seqOf, isFresh, f, flats, setAll, mvD]
  have g : LS.Go { s with mv := mv } := ⟨l1, l2, fun j b r hj e => (hr j b r hj e).1, hd, fun j i hj hi => by
    unfold LS.lim
    show 0 < (if j ∈ mv then (match s.last.getD j none with | none => s.d | some (b, r) => mn2 s.d (r.getD i 0 + s.beat - b)) else s.d) ∧ (if j ∈ mv then (match s.last.getD j none with | none => s.d | some (b, r) => mn2 s.d (r.getD i 0 + s.beat - b)) else s.d) ≤ s.d
    by_cases q : j ∈ mv
    · rw [if_pos q]
      cases e : s.last.getD j none with
      | none => exact ⟨hd.1, Int.le_refl _⟩
      | some x =>
        obtain ⟨b, r⟩ := x
        have := (hr j b r hj e).2 i hi
        show 0 < mn2 s.d (r.getD i 0 + s.beat - b) ∧ mn2 s.d (r.getD i 0 + s.beat - b) ≤ s.d
        unfold mn2
        split <;> omega
    · rw [if_neg q]
      exact ⟨hd.1, Int.le_refl _⟩, hst, hds⟩
  obtain ⟨since, last, L, now, h', a', b', c', δ2, f1, H⟩ := house_loop { s with mv := mv } o g hn so.1 δ1 h r p q
  have s3 : exec (callF (n + 1)) (.for (.one 13) (.itR1 (.var 5)) houseB) (({ s with mv := mv } : LS).sl h (.ow []) (.ow (now0.map .int)) r p q) δ1 = some (.nx (((({ s with mv := mv } : LS)).upd since last).sl h' (.ow (L.map stD)) (.ow (now.map .int)) a' b' c'), δ2) := by
    rw [exec, itR1E (x := (s.w.n : Int)) (by omega) (by omega) rfl]
    simp only [bd]
    rw [show ((s.w.n : Nat) : Int).toNat = s.w.n by omega]
    exact f1
  have s4 := appF (cf := callF (n + 1)) (x := 10) (e := .fn .tuple (.cons (.var 15) .nil)) (ρ := ((({ s with mv := mv } : LS)).upd since last).sl h' (.ow (L.map stD)) (.ow (now.map .int)) a' b' c') (d := stD now) (ds := s.sts.map stD) (δ := δ2) (δ1 := δ2) (fnTupE rfl) (flat_st now) rfl (by rw [List.length_map]; omega)
  have es : s.sts.map stD ++ [stD now] = (s.sts ++ [now]).map stD := by rw [List.map_append]; rfl
  rw [es] at s4
  have s5 := appF (cf := callF (n + 1)) (x := 9) (e := .tup (.cons (.var 12) (.cons (.fn .tuple (.cons (.var 14) .nil)) .nil))) (ρ := ({ s with since := since, last := last, sts := s.sts ++ [now] } : LS).s0 (.va (.int s.beat)) (.va (mvD mv)) h' (.ow (L.map stD)) (.ow (now.map .int)) a' b' c') (d := rowD mv L) (ds := s.rows) (δ := δ2) (δ1 := δ2) (by
    simp [LS.s0, view, Sl.full, evE, evL, evB, seq1, seqOf, rowD]) (by
    have f1 := flats_nat mv
    have f2 := flats_st L
    simp [rowD, mvD, flat, flats, f1, f2]) rfl (by omega)
  refine ⟨mv, since, last, L, now, .va (mvD mv), h', .ow (L.map stD), .ow (now.map .int), a', b', c', δ2, ?_, m1, m2, H⟩
  exact seqNx e1 (seqNx s2 (seqNx s3 (seqNx s4 (seqNx s5 rfl))))
end NB

set_option Elab.async false
set_option linter.all false
set_option maxRecDepth 100000
set_option maxHeartbeats 2000000
/-! A stopped run as plain data; what a beat adds to it. -/
namespace NB
/-- a beat: its movers, its lateness -/
abbrev Bt := List Nat × List (List Int)
def mvA (h : List Bt) (u : Nat) : List Nat := (h.getD u ([], [])).1
def laA (h : List Bt) (u j : Nat) : List Int := (h.getD u ([], [])).2.getD j []
theorem getD_old {α : Type} {l : List α} {x d : α} {u : Nat} (hu : u < l.length) : (l ++ [x]).getD u d = l.getD u d := by
  rw [getD_snoc, if_neg (by omega)]
theorem getD_new {α : Type} {l : List α} {x d : α} : (l ++ [x]).getD l.length d = x := by
  rw [getD_snoc, if_pos rfl]
section
variable {h : List Bt} {x : Bt} {u j t b c : Nat}
theorem mvA_old (hu : u < h.length) : mvA (h ++ [x]) u = mvA h u := by unfold mvA; rw [getD_old hu]
theorem mvA_new : mvA (h ++ [x]) h.length = x.1 := by unfold mvA; rw [getD_new]
theorem laA_old (hu : u < h.length) : laA (h ++ [x]) u j = laA h u j := by unfold laA; rw [getD_old hu]
theorem laA_new : laA (h ++ [x]) h.length j = x.2.getD j [] := by unfold laA; rw [getD_new]
/-- b is the last move at t or before -/
structure Lst (h : List Bt) (j t b : Nat) : Prop where
  le : b ≤ t
  mv : j ∈ mvA h b
  no : ∀ u, b < u → u ≤ t → j ∉ mvA h u
theorem Lst.old (ht : t < h.length) : Lst (h ++ [x]) j t b ↔ Lst h j t b := by
  constructor
  · rintro ⟨h1, h2, h3⟩
    exact ⟨h1, by rwa [mvA_old (by omega)] at h2, fun u q1 q2 => by have := h3 u q1 q2; rwa [mvA_old (by omega)] at this⟩
  · rintro ⟨h1, h2, h3⟩
    exact ⟨h1, by rwa [mvA_old (by omega)], fun u q1 q2 => by rw [mvA_old (by omega)]; exact h3 u q1 q2⟩
theorem Lst.uniq (p : Lst h j t b) (q : Lst h j t c) : b = c := by
  apply Classical.byContradiction
  intro ne
  by_cases l : b < c
  · exact p.no c l q.le q.mv
  · exact q.no b (by omega) p.le p.mv
end
/-- a stopped run, the states that stand and that it shows -/
structure Stp (w : Net) (d e : Nat) (h : List Bt) (sts : List (List Int)) : Prop where
  len : sts.length = d + h.length
  sok : ∀ x ∈ sts, StOk w x
  mvn : ∀ u, u < h.length → ∀ j ∈ mvA h u, j < w.n
  lan : ∀ u, u < h.length → (h.getD u ([], [])).2.length = w.n
  nums : ∀ u j, u < h.length → j < w.n → (laA h u j).length = (br (w.rule j)).length ∧ ∀ i, i < (br (w.rule j)).length → 1 ≤ (laA h u j).getD i 0 ∧ (laA h u j).getD i 0 ≤ (d : Int)
  ex : ∀ u j, u < h.length → j < w.n → e ≤ u + 1 → ∃ b, Lst h j u b ∧ u + 1 ≤ b + e
  nw : ∀ u j, u + 1 < h.length → j < w.n → j ∈ mvA h (u + 1) → ∀ b, Lst h j u b → ∀ i, i < (br (w.rule j)).length → (laA h (u + 1) j).getD i 0 ≤ (laA h b j).getD i 0 + (u : Int) + 1 - b
  st : ∀ u j, u < h.length → j < w.n → (sts.getD (d + u) []).getD j 0 = if j ∈ mvA h u then w.want j (heardOf w j (sts.take (d + u)) (laA h u j)) else (sts.getD (d + u - 1) []).getD j 0
/-- what stands ahead of a beat -/
structure Inv (s : LS) (d e : Nat) (h : List Bt) : Prop where
  stp : Stp s.w d e h s.sts
  n1 : s.since.length = s.w.n
  n2 : s.last.length = s.w.n
  rows : s.rows = h.map fun p => rowD p.1 p.2
  nol : ∀ j, j < s.w.n → s.last.getD j none = none → (∀ u, u < h.length → j ∉ mvA h u) ∧ s.since.getD j 0 = h.length
  hal : ∀ j b r, j < s.w.n → s.last.getD j none = some (b, r) → b < h.length ∧ j ∈ mvA h b ∧ (∀ u, b < u → u < h.length → j ∉ mvA h u) ∧ r = laA h b j ∧ s.since.getD j 0 = (h.length : Int) - 1 - b
theorem st_nn {w : Net} {sts : List (List Int)} (hs : ∀ x ∈ sts, StOk w x) (k c : Nat) : 0 ≤ (sts.getD k []).getD c 0 := by
  by_cases hk : k < sts.length
  · rw [List.getD_eq_getElem?_getD (l := sts), List.getElem?_eq_getElem hk]
    have := hs _ (List.getElem_mem hk)
    by_cases hc : c < w.n
    · exact (this.2 c hc).1
    · show 0 ≤ (sts[k]).getD c 0
      rw [List.getD_eq_getElem?_getD, List.getElem?_eq_none (by rw [this.1]; omega)]
      exact Int.le_refl _
  · rw [List.getD_eq_getElem?_getD (l := sts), List.getElem?_eq_none (by omega)]
    exact Int.le_refl _
theorem st_get {w : Net} {sts : List (List Int)} (hs : ∀ x ∈ sts, StOk w x) {k : Nat} (hk : k < sts.length) : StOk w (sts.getD k []) := by
  rw [List.getD_eq_getElem?_getD, List.getElem?_eq_getElem hk]
  exact hs _ (List.getElem_mem hk)
theorem Inv.step {s : LS} {d e : Nat} {h : List Bt} (o : s.w.Ok) (I : Inv s d e h) (hb : s.beat = h.length) (hd : s.d = d) (he : s.e = e) (d0 : 0 < d) (e0 : 0 < e) {mv : List Nat} {since : List Int} {last : List (Option (Nat × List Int))} {L : List (List Int)} {now : List Int}
    (m1 : ∀ j ∈ mv, j < s.w.n) (m2 : ∀ j, j < s.w.n → s.e - 1 ≤ s.since.getD j 0 → j ∈ mv) (H : Houses { s with mv := mv } (s.sts.getD (s.sts.length - 1) []) s.w.n since last L now) (bt : Nat) :
    Inv { s with since := since, last := last, rows := s.rows ++ [rowD mv L], sts := s.sts ++ [now], beat := bt } d e (h ++ [(mv, L)]) := by
  have S := I.stp
  have sl := S.len
  have hl : (h ++ [(mv, L)]).length = h.length + 1 := by rw [List.length_append]; rfl
  -- the new state
  have nw : ∀ j, j < s.w.n → now.getD j 0 = if j ∈ mv then s.w.want j (heardOf s.w j s.sts (L.getD j [])) else (s.sts.getD (s.sts.length - 1) []).getD j 0 := fun j hj => by
    rw [H.no j hj]
    by_cases q : j ∈ mv
    · rw [if_pos ⟨hj, q⟩, if_pos q]
    · rw [if_neg fun z => q z.2, if_neg q]
  have sinew : ∀ j, j < s.w.n → since.getD j 0 = if j ∈ mv then 0 else s.since.getD j 0 + 1 := fun j hj => by
    rw [H.si j hj, if_pos hj]
  have lanew : ∀ j, j < s.w.n → last.getD j none = if j ∈ mv then some (h.length, L.getD j []) else s.last.getD j none := fun j hj => by
    rw [H.la j hj]
    by_cases q : j ∈ mv
    · rw [if_pos ⟨hj, q⟩, if_pos q, ← hb]
    · rw [if_neg fun z => q z.2, if_neg q]
  have lim : ∀ j i, j < s.w.n → i < (br (s.w.rule j)).length → (L.getD j []).getD i 0 ≤ (d : Int) ∧ (j ∈ mv → ∀ b r, s.last.getD j none = some (b, r) → (L.getD j []).getD i 0 ≤ r.getD i 0 + h.length - b) := fun j i hj hi => by
    have q := ((H.ro j hj).2 i hi).2
    unfold LS.lim at q
    by_cases m : j ∈ mv
    · have m' : j ∈ ({ s with mv := mv } : LS).mv := m
      rw [if_pos m'] at q
      cases e' : s.last.getD j none with
      | none =>
        have e'' : ({ s with mv := mv } : LS).last.getD j none = none := e'
        rw [e''] at q
        have q : (L.getD j []).getD i 0 ≤ s.d := q
        exact ⟨by omega, fun _ b r z => nomatch z⟩
      | some p =>
        obtain ⟨b, r⟩ := p
        have e'' : ({ s with mv := mv } : LS).last.getD j none = some (b, r) := e'
        rw [e''] at q
        have q : (L.getD j []).getD i 0 ≤ mn2 s.d (r.getD i 0 + s.beat - b) := q
        have := mn2_is s.d (r.getD i 0 + s.beat - b)
        refine ⟨by omega, fun _ b' r' z => ?_⟩
        injection z with z
        injection z with z1 z2
        subst z1 z2
        omega
    · have m' : j ∉ ({ s with mv := mv } : LS).mv := m
      rw [if_neg m'] at q
      have q : (L.getD j []).getD i 0 ≤ s.d := q
      exact ⟨by omega, fun z => absurd z m⟩
  have nowok : StOk s.w now := ⟨H.n3, fun j hj => by
    rw [nw j hj]
    by_cases q : j ∈ mv
    · rw [if_pos q]
      exact want_top o hj fun i => st_nn S.sok _ _
    · rw [if_neg q]
      exact (st_get S.sok (k := s.sts.length - 1) (by omega)).2 j hj⟩
  refine ⟨⟨?_, ?_, ?_, ?_, ?_, ?_, ?_, ?_⟩, H.n1, H.n2, ?_, ?_, ?_⟩
  · show (s.sts ++ [now]).length = _
    rw [List.length_append, hl, S.len]
    rfl
  · intro x hx
    rcases List.mem_append.mp hx with hx | hx
    · exact S.sok x hx
    · rw [List.mem_singleton.mp hx]; exact nowok
  · intro u hu j hj
    rw [hl] at hu
    by_cases e : u = h.length
    · subst e; rw [mvA_new] at hj; exact m1 j hj
    · rw [mvA_old (by omega)] at hj; exact S.mvn u (by omega) j hj
  · intro u hu
    rw [hl] at hu
    by_cases e : u = h.length
    · subst e; rw [getD_new]; exact H.nL
    · rw [getD_old (by omega)]; exact S.lan u (by omega)
  · intro u j hu hj
    rw [hl] at hu
    by_cases e : u = h.length
    · subst e
      rw [laA_new]
      exact ⟨(H.ro j hj).1, fun i hi => ⟨((H.ro j hj).2 i hi).1, (lim j i hj hi).1⟩⟩
    · rw [laA_old (by omega)]; exact S.nums u j (by omega) hj
  · intro u j hu hj hu2
    rw [hl] at hu
    by_cases e' : u = h.length
    · subst e'
      by_cases q : j ∈ mv
      · exact ⟨h.length, ⟨Nat.le_refl _, by rw [mvA_new]; exact q, fun u q1 q2 => by omega⟩, by omega⟩
      · have lt : s.since.getD j 0 < s.e - 1 := by
          apply Classical.byContradiction
          intro z
          exact q (m2 j hj (by omega))
        cases el : s.last.getD j none with
        | none =>
          have := (I.nol j hj el).2
          omega
        | some p =>
          obtain ⟨b, r⟩ := p
          obtain ⟨b1, b2, b3, b4, b5⟩ := I.hal j b r hj el
          refine ⟨b, ⟨by omega, by rw [mvA_old b1]; exact b2, fun u q1 q2 => ?_⟩, by omega⟩
          by_cases e2 : u = h.length
          · subst e2; rw [mvA_new]; exact q
          · rw [mvA_old (by omega)]; exact b3 u q1 (by omega)
    · obtain ⟨b, h1, h2⟩ := S.ex u j (by omega) hj hu2
      exact ⟨b, (Lst.old (by omega)).mpr h1, h2⟩
  · intro u j hu hj hm b hL i hi
    rw [hl] at hu
    have hL := (Lst.old (by omega)).mp hL
    have bl := hL.le
    by_cases e' : u + 1 = h.length
    · rw [e', mvA_new] at hm
      rw [e', laA_new, laA_old (by omega)]
      cases el : s.last.getD j none with
      | none => exact absurd hL.mv ((I.nol j hj el).1 b (by omega))
      | some p =>
        obtain ⟨b', r⟩ := p
        obtain ⟨b1, b2, b3, b4, b5⟩ := I.hal j b' r hj el
        have ub : b' = b := Lst.uniq (h := h) (j := j) (t := u) ⟨by omega, b2, fun v q1 q2 => b3 v q1 (by omega)⟩ hL
        subst ub
        have := (lim j i hj hi).2 hm b' r el
        rw [b4] at this
        show (L.getD j []).getD i 0 ≤ _
        omega
    · rw [mvA_old (by omega)] at hm
      rw [laA_old (by omega), laA_old (by omega)]
      exact S.nw u j (by omega) hj hm b hL i hi
  · intro u j hu hj
    rw [hl] at hu
    show ((s.sts ++ [now]).getD (d + u) []).getD j 0 = if j ∈ mvA (h ++ [(mv, L)]) u then s.w.want j (heardOf s.w j ((s.sts ++ [now]).take (d + u)) (laA (h ++ [(mv, L)]) u j)) else ((s.sts ++ [now]).getD (d + u - 1) []).getD j 0
    rw [List.take_append_of_le_length (by omega), getD_old (u := d + u - 1) (by omega)]
    by_cases e' : u = h.length
    · subst e'
      rw [← sl, getD_new, mvA_new, laA_new, List.take_length]
      exact nw j hj
    · rw [getD_old (by omega), mvA_old (by omega), laA_old (by omega)]
      exact S.st u j (by omega) hj
  · show s.rows ++ [rowD mv L] = _
    rw [I.rows, List.map_append]
    rfl
  · intro j hj el
    have el : last.getD j none = none := el
    rw [lanew j hj] at el
    by_cases q : j ∈ mv
    · rw [if_pos q] at el; cases el
    · rw [if_neg q] at el
      obtain ⟨h1, h2⟩ := I.nol j hj el
      refine ⟨fun u hu => ?_, ?_⟩
      · rw [hl] at hu
        by_cases e' : u = h.length
        · subst e'; rw [mvA_new]; exact q
        · rw [mvA_old (by omega)]; exact h1 u (by omega)
      · show since.getD j 0 = _
        rw [sinew j hj, if_neg q, h2, hl]
        omega
  · intro j b r hj el
    have el : last.getD j none = some (b, r) := el
    rw [lanew j hj] at el
    have sn := sinew j hj
    show b < _ ∧ _ ∧ _ ∧ _ ∧ since.getD j 0 = _
    by_cases q : j ∈ mv
    · rw [if_pos q] at el sn
      injection el with el
      injection el with e1 e2
      subst e1 e2
      refine ⟨by omega, by rw [mvA_new]; exact q, fun u q1 q2 => by omega, by rw [laA_new], ?_⟩
      rw [sn, hl]
      omega
    · rw [if_neg q] at el sn
      obtain ⟨b1, b2, b3, b4, b5⟩ := I.hal j b r hj el
      refine ⟨by omega, by rw [mvA_old b1]; exact b2, fun u q1 q2 => ?_, by rw [laA_old b1]; exact b4, ?_⟩
      · by_cases e' : u = h.length
        · subst e'; rw [mvA_new]; exact q
        · rw [mvA_old (by omega)]; exact b3 u q1 (by omega)
      · rw [sn, b5, hl]
        omega
end NB

set_option Elab.async false
set_option linter.all false
set_option maxRecDepth 100000
set_option maxHeartbeats 2000000
/-! The law's stopped run. -/
namespace NB
theorem cutD_from {ds : List D} {d : Nat} (h : d ≤ ds.length) : cutD ds (some (d : Int)) none = ds.drop d := by
  unfold cutD
  rw [cutAt_nat, Nat.min_eq_left h]
  show (ds.drop d).take (ds.length - d) = _
  rw [← List.length_drop, List.take_length]
def rowsD (h : List Bt) : List D := h.map fun p => rowD p.1 p.2
def stpB : S := .for (.one 11) (.itR1 (.var 4)) beatB
theorem getD_repl {α : Type} {n j : Nat} {x d : α} (h : j < n) : (List.replicate n x).getD j d = x := by
  rw [List.getD_eq_getElem?_getD, List.getElem?_replicate, if_pos h]
  rfl
theorem beats_loop {w : Net} (o : w.Ok) {n d e B : Nat} (hn : 14 ≤ n) (d0 : 0 < d) (d1 : d ≤ 100) (e0 : 0 < e) (b1 : B ≤ 1000) (past : List (List Int)) (hp : past.length = d) (hs : ∀ x ∈ past, StOk w x) (δ : Dl) (a m h l nw r p q : Sl) :
    ∃ (s : LS) (hi : List Bt) (a' m' h' l' nw' r' p' q' : Sl) (δ' : Dl), forGo (fun r d => exec (callF (n + 1)) beatB r d) (.one 11) ((List.range B).map fun (i : Nat) => D.int (0 + (i : Int))) (({ w := w, d := d, e := e, B := B, past := .tup (past.map stD), since := List.replicate w.n 0, last := List.replicate w.n none, rows := [], sts := past, beat := 0, mv := [] } : LS).s0 a m h l nw r p q) δ = some (.nx (s.s0 a' m' h' l' nw' r' p' q'), δ') ∧ (s.w = w ∧ s.d = d ∧ s.past = .tup (past.map stD)) ∧ Stp w d e hi s.sts ∧ hi.length = B ∧ s.rows = rowsD hi ∧ s.sts.take d = past := by
  obtain ⟨ρ', δ', h1, s, hi, a, m, h, l, nw, r, p, q, e1, ⟨i1, i2, i3, i4⟩, I, hl, hb, ht⟩ := forGo_ix (body := fun r d => exec (callF (n + 1)) beatB r d) (tg := .one 11) (fun k ρ _ => ∃ (s : LS) (hi : List Bt) (a m h l nw r p q : Sl), ρ = s.s0 a m h l nw r p q ∧ (s.w = w ∧ s.d = d ∧ s.e = e ∧ s.past = .tup (past.map stD)) ∧ Inv s d e hi ∧ hi.length = k ∧ s.beat = k ∧ s.sts.take d = past) (xs := (List.range B).map fun (i : Nat) => D.int (0 + (i : Int))) (k := 0) (ρ := ({ w := w, d := d, e := e, B := B, past := .tup (past.map stD), since := List.replicate w.n 0, last := List.replicate w.n none, rows := [], sts := past, beat := 0, mv := [] } : LS).s0 a m h l nw r p q) (δ := δ) ⟨_, [], a, m, h, l, nw, r, p, q, rfl, ⟨rfl, rfl, rfl, rfl⟩, ⟨⟨hp, hs, fun u hu => absurd hu (Nat.not_lt_zero u), fun u hu => absurd hu (Nat.not_lt_zero u), fun u j hu => absurd hu (Nat.not_lt_zero u), fun u j hu => absurd hu (Nat.not_lt_zero u), fun u j hu => absurd hu (Nat.not_lt_zero _), fun u j hu => absurd hu (Nat.not_lt_zero u)⟩, List.length_replicate, List.length_replicate, rfl, fun j hj _ => ⟨fun u hu => absurd hu (Nat.not_lt_zero u), getD_repl hj⟩, fun j b r hj z => by
      have z : (List.replicate w.n (none : Option (Nat × List Int))).getD j none = some (b, r) := z
      rw [getD_repl hj] at z
      cases z⟩, rfl, rfl, by show past.take d = past; rw [← hp, List.take_length]⟩ (by
    rintro i x ρ δ hx ⟨s, hi, a, m, h, l, nw, r, p, q, rfl, ⟨rfl, i2, i3, i4⟩, I, hl, hb, ht⟩
    rw [Nat.zero_add] at hl hb ⊢
    rw [List.getElem?_map] at hx
    have hib : i < B := by
      by_cases h : i < B
      · exact h
      · rw [List.getElem?_eq_none (by rw [List.length_range]; omega)] at hx; cases hx
    rw [List.getElem?_range hib] at hx
    cases hx
    have sl := I.stp.len
    have rl : s.rows.length = hi.length := by rw [I.rows, List.length_map]
    obtain ⟨mv, since, last, L, now, m', h', l', nw', r', p', q', δ2, f1, f2, f3, f4⟩ := beat_ok s o hn I.n1 I.n2 (by omega) I.stp.sok (by omega) (by omega) (by omega) (fun j b r hj el => by
      obtain ⟨b1, b2, b3, b4, b5⟩ := I.hal j b r hj el
      obtain ⟨n1, n2⟩ := I.stp.nums b j b1 hj
      rw [b4]
      exact ⟨by omega, fun i hi => by have := (n2 i hi).1; omega⟩) δ m h l nw r p q
    have I' := I.step o (by omega) i2 i3 d0 e0 f2 f3 f4 (i + 1)
    refine ⟨_, _, δ2, rfl, ?_, ({ s with since := since, last := last, rows := s.rows ++ [rowD mv L], sts := s.sts ++ [now], beat := i + 1 } : LS), hi ++ [(mv, L)], .va (.int s.beat), m', h', l', nw', r', p', q', rfl, ⟨rfl, i2, i3, i4⟩, I', by rw [List.length_append, hl]; rfl, rfl, ?_⟩
    · show exec (callF (n + 1)) beatB (s.s0 (.va (.int (0 + (i : Int)))) m h l nw r p q) δ = _
      rw [show (0 + (i : Int)) = ((s.beat : Nat) : Int) by omega]
      exact f1
    · show (s.sts ++ [now]).take d = past
      rw [List.take_append_of_le_length (by omega)]
      exact ht)
  subst e1
  rw [Nat.zero_add, List.length_map, List.length_range] at hl
  refine ⟨s, hi, a, m, h, l, nw, r, p, q, δ', h1, ⟨i1, i2, i4⟩, ?_, hl, I.rows, ht⟩
  have S := I.stp
  rw [i1] at S
  exact S
def runD (past : List (List Int)) (h : List Bt) : D := .tup [.tup (past.map stD), .tup (rowsD h)]
theorem mulL {x : D} {n : Nat} (h : n ≤ 1000) : evBin .mul (.lst [x]) (.int (n : Int)) = some (.lst (List.replicate n x)) := by
  have c : (0 : Int) ≤ (n : Int) ∧ (n : Int) ≤ 1000 := by omega
  show (if (0 : Int) ≤ (n : Int) ∧ (n : Int) ≤ 1000 then some (D.lst (List.replicate ((n : Int)).toNat x)) else none) = _
  rw [if_pos c]
  rfl
theorem parC {cf : CF} {ρ : List Sl} {x : Nat} {e : E} {m : Md} {r : List (Nat × E × Md)} {s : Sl} {ss : List (Nat × Sl)} {δ δ1 δ2 : Dl} (h1 : evM cf e m ρ δ = some (s, δ1)) (h2 : evPar cf ρ r δ1 = some (ss, δ2)) : evPar cf ρ ((x, e, m) :: r) δ = some ((x, s) :: ss, δ2) := by
  rw [evPar, h1]
  simp only [bd, h2]
theorem parN {cf : CF} {ρ : List Sl} {δ : Dl} : evPar cf ρ [] δ = some ([], δ) := by rw [evPar]
theorem parE {cf : CF} {ρ : List Sl} {ps : List (Nat × E × Md)} {ss : List (Nat × Sl)} {δ δ1 : Dl} (h : evPar cf ρ ps δ = some (ss, δ1)) : exec cf (.par ps) ρ δ = some (.nx (setAll ρ ss), δ1) := by
  rw [exec, h]
  rfl
theorem evMv {cf : CF} {e : E} {ρ : List Sl} {d : D} {δ δ1 : Dl} (h : evE cf e (view false ρ) δ = some (d, δ1)) : evM cf e ⟨false, false⟩ ρ δ = some (.va d, δ1) := by
  rw [evM, h]
  rfl
theorem evMo {cf : CF} {e : E} {b : Bool} {ρ : List Sl} {ds : List D} {δ δ1 : Dl} (h : evE cf e (view b ρ) δ = some (.lst ds, δ1)) (hf : isFresh e = true) (hs : flats ds = true) : evM cf e ⟨b, true⟩ ρ δ = some (.ow ds, δ1) := by
  rw [evM]
  show (evE cf e (view b ρ) δ >>= _) = _
  rw [h]
  simp [hf, hs]
theorem evBinE {cf : CF} {o : Bin} {a b : E} {ρ : Env} {x y r : D} {δ δ1 δ2 : Dl} (h1 : evE cf a ρ δ = some (x, δ1)) (h2 : evE cf b ρ δ1 = some (y, δ2)) (h3 : evBin o x y = some r) : evE cf (.bin o a b) ρ δ = some (r, δ2) := by
  rw [evE, h1]
  simp only [bd, h2, h3]
theorem flats_repl {x : D} (h : flat x = true) : ∀ k, flats (List.replicate k x) = true
  | 0 => rfl
  | k + 1 => by simp [List.replicate_succ, flats, h, flats_repl h k]
theorem callE {cf : CF} {f : F} {es : E} {ρ : Env} {ds : List D} {r : Option (D × Dl)} {δ δ1 : Dl} (h1 : evL cf es ρ δ = some (ds, δ1)) (h2 : cf f ds δ1 = r) : evE cf (.call f es) ρ δ = r := by
  rw [evE, h1]
  exact h2
theorem evLn {cf : CF} {ρ : Env} {δ : Dl} : evL cf .nil ρ δ = some ([], δ) := by rw [evL]
theorem evLc {cf : CF} {a r : E} {ρ : Env} {x : D} {xs : List D} {δ δ1 δ2 : Dl} (h1 : evE cf a ρ δ = some (x, δ1)) (h2 : evL cf r ρ δ1 = some (xs, δ2)) : evL cf (.cons a r) ρ δ = some (x :: xs, δ2) := by
  rw [evL, h1]
  simp only [bd, h2]
theorem varE {cf : CF} {i : Nat} {ρ : Env} {d : D} {δ : Dl} (h : ρ[i]? = some (some d)) : evE cf (.var i) ρ δ = some (d, δ) := by
  rw [evE, h]
theorem stopped_ok {w : Net} (o : w.Ok) {m d e B : Nat} (hm : 18 ≤ m) (d0 : 0 < d) (d1 : d ≤ 100) (e0 : 0 < e) (b1 : B ≤ 1000) (δ : Dl) :
    ∃ (h : List Bt) (sts : List (List Int)) (δ' : Dl), callF m .l_stopped [.deal, netD w, .int d, .int e, .int B] δ = some (.tup [runD (sts.take d) h, .lst ((sts.drop d).map stD)], δ') ∧ h.length = B ∧ Stp w d e h sts := by
  obtain ⟨n, rfl⟩ : ∃ n, m = n + 2 := ⟨m - 2, by omega⟩
  obtain ⟨past, δ1, p1, p2, p3⟩ := past_ok o (n + 1) (by omega) (d := d) (by omega) (by omega) δ
  have small : w.tops.length ≤ 5 := o.small
  have wn : w.n = w.tops.length := rfl
  have p2 : past.length = d := by omega
  obtain ⟨s, hi, a, m, h, l, nw, r, p, q, δ2, f1, ⟨i1, i2, i4⟩, S, hl, hr, ht⟩ := beats_loop o (n := n) (by omega) d0 d1 e0 b1 past p2 p3 δ1 .no .no .no .no .no .no .no .no
  have r1 : List.replicate w.n (D.int 0) = (List.replicate w.n (0 : Int)).map .int := by rw [List.map_replicate]
  have r2 : List.replicate w.n D.non = (List.replicate w.n (none : Option (Nat × List Int))).map lastD := by rw [List.map_replicate]; rfl
  have s1 : exec (callF (n + 1)) (.set 5 (.fn .len (.cons (.ix (.var 1) (.int 0)) .nil)) ⟨false, false⟩) ([.va .deal, .va (netD w), .va (.int d), .va (.int e), .va (.int B)] ++ List.replicate 14 .no) δ = some (.nx ([.va .deal, .va (netD w), .va (.int d), .va (.int e), .va (.int B), .va (.int w.n)] ++ List.replicate 13 .no), δ) := by
    simp [exec, evM, evE, evL, view, Sl.hide, netD, evIx, atD0, evB, seq1, seqOf, List.replicate_succ, wn]
  have s2 : exec (callF (n + 1)) (.par [(6, (.call .l_past (.cons (.var 0) (.cons (.var 1) (.cons (.var 2) .nil)))), ⟨false, false⟩), (7, (.bin .mul (.lst (.cons (.int 0) .nil)) (.var 5)), ⟨false, true⟩), (8, (.bin .mul (.lst (.cons .non .nil)) (.var 5)), ⟨false, true⟩), (9, (.lst .nil), ⟨false, true⟩)]) ([.va .deal, .va (netD w), .va (.int d), .va (.int e), .va (.int B), .va (.int w.n)] ++ List.replicate 13 .no) δ = some (.nx ([.va .deal, .va (netD w), .va (.int d), .va (.int e), .va (.int B), .va (.int w.n), .va (.tup (past.map stD)), .ow ((List.replicate w.n (0 : Int)).map .int), .ow ((List.replicate w.n (none : Option (Nat × List Int))).map lastD), .ow []] ++ List.replicate 9 .no), δ1) := by
    rw [← r1, ← r2]
    exact parE (parC (evMv (d := .tup (past.map stD)) (δ1 := δ1) (callE (evLc (varE rfl) (evLc (varE rfl) (evLc (varE rfl) evLn))) p1)) (parC (evMo (evBinE (y := .int (w.n : Int)) (δ1 := δ1) (δ2 := δ1) rfl rfl (mulL (by omega))) rfl (flats_repl rfl _)) (parC (evMo (evBinE (y := .int (w.n : Int)) (δ1 := δ1) (δ2 := δ1) rfl rfl (mulL (by omega))) rfl (flats_repl rfl _)) (parC (evMo (ds := []) (δ1 := δ1) rfl rfl rfl) parN))))
  have s3 : exec (callF (n + 1)) (.set 10 (.fn .list (.cons (.var 6) .nil)) ⟨false, true⟩) ([.va .deal, .va (netD w), .va (.int d), .va (.int e), .va (.int B), .va (.int w.n), .va (.tup (past.map stD)), .ow ((List.replicate w.n (0 : Int)).map .int), .ow ((List.replicate w.n (none : Option (Nat × List Int))).map lastD), .ow []] ++ List.replicate 9 .no) δ1 = some (.nx (({ w := w, d := d, e := e, B := B, past := .tup (past.map stD), since := List.replicate w.n 0, last := List.replicate w.n none, rows := [], sts := past, beat := 0, mv := [] } : LS).s0 .no .no .no .no .no .no .no .no), δ1) := by
    have k := flats_st past
    simp [exec, evM, evE, evL, view, Sl.hide, evB, seq1, seqOf, isFresh, k, LS.s0, List.replicate_succ]
  have s4 : exec (callF (n + 1)) (.for (.one 11) (.itR1 (.var 4)) beatB) (({ w := w, d := d, e := e, B := B, past := .tup (past.map stD), since := List.replicate w.n 0, last := List.replicate w.n none, rows := [], sts := past, beat := 0, mv := [] } : LS).s0 .no .no .no .no .no .no .no .no) δ1 = some (.nx (s.s0 a m h l nw r p q), δ2) := by
    rw [exec, itR1E (x := (B : Int)) (by omega) (by omega) rfl]
    simp only [bd]
    rw [show ((B : Nat) : Int).toNat = B by omega]
    exact f1
  have lt : d ≤ (s.sts.map stD).length := by rw [List.length_map, S.len]; omega
  have s5 : exec (callF (n + 1)) (.ret (.tup (.cons (.tup (.cons (.var 6) (.cons (.fn .tuple (.cons (.var 9) .nil)) .nil))) (.cons (.sl (.var 10) (.one (.var 2)) .nop) .nil)))) (s.s0 a m h l nw r p q) δ2 = some (.rt (.tup [runD (s.sts.take d) hi, .lst ((s.sts.drop d).map stD)]), δ2) := by
    have c := cutD_from lt
    rw [← List.map_drop] at c
    simp [exec, LS.s0, view, Sl.full, evE, evL, evO, intOf, evB, seq1, seqOf, evSl, i2, i4, hr, ht, runD, c]
  exact ⟨hi, s.sts, δ2, call_rt (by decide) rfl (seqNx s1 (seqNx s2 (seqNx s3 (seqNx s4 (seqRt s5))))), hl, S⟩
end NB

set_option Elab.async false
set_option linter.all false
set_option maxRecDepth 100000
set_option maxHeartbeats 2000000
/-! What a lateness shows next. -/
namespace NB
section
variable {w : Net}
theorem mr_get {α : Type} {n i : Nat} {f : Nat → α} {x : α} (h : ((List.range n).map f)[i]? = some x) : i < n ∧ x = f i := by
  rw [List.getElem?_map] at h
  by_cases hi : i < n
  · rw [List.getElem?_range hi] at h
    cases h
    exact ⟨hi, rfl⟩
  · rw [List.getElem?_eq_none (by rw [List.length_range]; omega)] at h
    cases h
theorem enum_is {α : Type} (f : α → D) (d : α) (l : List α) : enumD 0 (l.map f) = (List.range l.length).map fun i => .tup [.int ((i : Nat) : Int), f (l.getD i d)] := by
  have e := enumD_range (fun i => f (l.getD i d)) l.length 0
  simp only [Nat.zero_add] at e
  rw [map_range_getD f d l]
  exact e
theorem forE {cf : CF} {tg : Tg} {it : E} {body : S} {ρ : List Sl} {xs : List D} {δ δ1 : Dl} {r : Option (Fl × Dl)} (h1 : evI cf it (view false ρ) δ = some (xs, δ1)) (h2 : forGo (fun r d => exec cf body r d) tg xs ρ δ1 = r) : exec cf (.for tg it body) ρ δ = r := by
  rw [exec, h1]
  exact h2
theorem itEE {cf : CF} {a : E} {ρ : Env} {x : D} {xs : List D} {δ δ1 : Dl} (h1 : evE cf a ρ δ = some (x, δ1)) (h2 : seqOf x = some xs) : evI cf (.itE a) ρ δ = some (enumD 0 xs, δ1) := by
  rw [evI, h1]
  simp only [bd, h2]
theorem ixE {cf : CF} {a i : E} {ρ : Env} {x y r : D} {δ δ1 δ2 : Dl} (h1 : evE cf a ρ δ = some (x, δ1)) (h2 : evE cf i ρ δ1 = some (y, δ2)) (h3 : evIx x y = some r) : evE cf (.ix a i) ρ δ = some (r, δ2) := by
  rw [evE, h1]
  simp only [bd, h2, h3]
theorem ix1 {ds : List D} {k : Nat} {x : D} (h : atD ds (k : Int) = some x) : evIx (.tup ds) (.int (k : Int)) = some x := h
theorem intE {cf : CF} {i : Int} {ρ : Env} {δ : Dl} : evE cf (.int i) ρ δ = some (.int i, δ) := by rw [evE]
theorem netR (o : w.Ok) : evIx (netD w) (.int 1) = some (.tup (w.rules.map toD)) := rfl
/-- the rule of a house, asked of the net in slot a, the house in slot b -/
theorem ruleE (o : w.Ok) {cf : CF} {a b j : Nat} {ρ : Env} {δ : Dl} (hj : j < w.n) (h1 : ρ[a]? = some (some (netD w))) (h2 : ρ[b]? = some (some (.int (j : Nat)))) : evE cf (.ix (.ix (.var a) (.int 1)) (.var b)) ρ δ = some (toD (w.rule j), δ) :=
  ixE (ixE (varE h1) intE (netR o)) (varE h2) (atD_rule o hj)
def heardL (w : Net) (j : Nat) (sts : List (List Int)) (num : List Int) : List Int := (List.range (br (w.rule j)).length).map (heardOf w j sts num)
theorem want_heardL {j : Nat} {sts : List (List Int)} {num : List Int} : (w.want j fun i => (heardL w j sts num).getD i 0) = w.want j (heardOf w j sts num) := by
  unfold Net.want
  congr 1
  apply val_congr
  intro i hi
  exact getD_map hi
def showB : S := (.seq (.set 6 (.lc [7, 8] (.many [7, 8]) (.itZ (.call .branches (.cons (.ix (.ix (.var 0) (.int 1)) (.var 4)) .nil)) (.var 5)) .nop (.ix (.ix (.var 1) (.bin .sub (.fn .len (.cons (.var 1) .nil)) (.var 8))) (.var 7))) ⟨false, false⟩) (.seq (.app 3 (.call .wanted (.cons (.var 0) (.cons (.var 4) (.cons (.fn .tuple (.cons (.var 6) .nil)) .nil)))) ⟨false, false⟩) .skip))
theorem heard_comp (o : w.Ok) (δ : Dl) {cf : CF} {j : Nat} (hj : j < w.n) {past : List (List Int)} {num : List Int} {a b c d e f : Option D} (hs : ∀ x ∈ past, StOk w x) (hl : num.length = (br (w.rule j)).length) (hn : ∀ i, i < (br (w.rule j)).length → 1 ≤ num.getD i 0 ∧ num.getD i 0 ≤ past.length) :
    compGo (fun r δ => evT cf .nop r δ) (fun r δ => evE cf (.ix (.ix (.var 1) (.bin .sub (.fn .len (.cons (.var 1) .nil)) (.var 8))) (.var 7)) r δ) (.many [7, 8]) [a, some (.tup (past.map stD)), b, c, d, e, f, none, none] (List.zipWith (fun p q => D.tup [p, q]) (brD (w.rule j)) (num.map .int)) δ = some ((heardL w j past num).map .int, δ) := by
  obtain ⟨ok', h4, h5⟩ := o.rk hj
  have eb : brD (w.rule j) = (List.range (br (w.rule j)).length).map fun i => .int (((br (w.rule j)).getD i 0 : Nat) : Int) := map_range_getD _ 0 _
  have en : num.map D.int = (List.range (br (w.rule j)).length).map fun i => .int (num.getD i 0) := by rw [← hl]; exact map_range_getD _ 0 _
  rw [eb, en, zipWith_range, heardL, List.map_map]
  refine compGo_to fun i hi => ?_
  have hi := List.mem_range.mp hi
  have hb : (br (w.rule j)).getD i 0 < w.n := by
    rw [List.getD_eq_getElem?_getD, List.getElem?_eq_getElem hi]
    exact br_lt _ ok' _ (List.getElem_mem hi)
  have hnum := hn i hi
  have lt : past.length - (num.getD i 0).toNat < past.length := by omega
  have e1 : ((past.length : Int) - num.getD i 0) = ((past.length - (num.getD i 0).toNat : Nat) : Int) := by omega
  have z1 := atD_st (sts := past) lt
  have z2 := atD_get (hs := past.getD (past.length - (num.getD i 0).toNat) []) (a := (br (w.rule j)).getD i 0) (by rw [(st_get hs lt).1]; exact hb)
  refine ⟨_, rfl, rfl, ?_⟩
  show _ = some (D.int (heardOf w j past num i), δ)
  have eh : heardOf w j past num i = (past.getD (past.length - (num.getD i 0).toNat) []).getD ((br (w.rule j)).getD i 0) 0 := rfl
  rw [eh]
  generalize (br (w.rule j)).getD i 0 = bi at z2 ⊢
  generalize num.getD i 0 = nu at e1 z1 z2 ⊢
  generalize past.getD (past.length - nu.toNat) [] = s' at z1 z2 ⊢
  refine ixE (x := stD s') (y := .int (bi : Nat)) (δ1 := δ) (ixE (x := .tup (past.map stD)) (y := .int ((past.length - nu.toNat : Nat) : Int)) (δ1 := δ) (varE rfl) ?_ z1) (varE rfl) z2
  rw [← e1]
  refine evBinE (x := .int past.length) (y := .int nu) (δ1 := δ) ?_ (varE rfl) rfl
  simp [evE, evL, evB, seq1, seqOf]
theorem heardL_nn {j : Nat} {past : List (List Int)} {num : List Int} (hs : ∀ x ∈ past, StOk w x) : ∀ x ∈ heardL w j past num, 0 ≤ x := fun x hx => by
  obtain ⟨i, hi, rfl⟩ := List.mem_map.mp hx
  exact st_nn hs _ _
def nextS (w : Net) (past L : List (List Int)) : List Int := (List.range w.n).map fun j => w.want j (heardOf w j past (L.getD j []))
theorem shows_ok (o : w.Ok) (δ : Dl) {m : Nat} (hm : 16 ≤ m) {past L : List (List Int)} (hs : ∀ x ∈ past, StOk w x) (hL : L.length = w.n) (hn : ∀ j, j < w.n → (L.getD j []).length = (br (w.rule j)).length ∧ ∀ i, i < (br (w.rule j)).length → 1 ≤ (L.getD j []).getD i 0 ∧ (L.getD j []).getD i 0 ≤ past.length) :
    callF m .shows_next [netD w, .tup (past.map stD), .tup (L.map stD)] δ = some (stD (nextS w past L), δ) := by
  obtain ⟨n, rfl⟩ : ∃ n, m = n + 1 := ⟨m - 1, by omega⟩
  have small : w.n ≤ 5 := o.small
  let st := fun (acc : List D) (a b c : Sl) => [Sl.va (netD w), .va (.tup (past.map stD)), .va (.tup (L.map stD)), .ow acc, a, b, c, .no, .no]
  obtain ⟨ρ', δ', h1, a, b, c, h2, hd⟩ := forGo_ix (body := fun r d => exec (callF n) showB r d) (tg := .many [4, 5]) (fun k ρ δ2 => ∃ a b c, ρ = st ((List.range k).map fun j => .int (w.want j (heardOf w j past (L.getD j [])))) a b c ∧ δ2 = δ) (xs := enumD 0 (L.map stD)) (k := 0) (ρ := st [] .no .no .no) (δ := δ) ⟨_, _, _, rfl, rfl⟩ (by
    rintro i x ρ δ2 hx ⟨a, b, c, rfl, rfl⟩
    rw [Nat.zero_add]
    rw [enum_is stD [] L] at hx
    obtain ⟨hi, rfl⟩ := mr_get hx
    have hi : i < w.n := by omega
    obtain ⟨n1, n2⟩ := hn i hi
    obtain ⟨ok', h4, h5⟩ := o.rk hi
    have qb := branches_ok δ2 n (w.rule i) ok' (by omega) (by omega)
    have hc := heard_comp o δ2 (cf := callF n) hi (past := past) (num := L.getD i []) (a := some (netD w)) (b := some (.tup (L.map stD))) (c := none) (d := some (.int (i : Nat))) (e := some (stD (L.getD i []))) (f := c.hide) hs n1 n2
    have s1 : exec (callF n) (.set 6 (.lc [7, 8] (.many [7, 8]) (.itZ (.call .branches (.cons (.ix (.ix (.var 0) (.int 1)) (.var 4)) .nil)) (.var 5)) .nop (.ix (.ix (.var 1) (.bin .sub (.fn .len (.cons (.var 1) .nil)) (.var 8))) (.var 7))) ⟨false, false⟩) (st ((List.range i).map fun j => .int (w.want j (heardOf w j past (L.getD j [])))) (.va (.int (i : Nat))) (.va (stD (L.getD i []))) c) δ2 = some (.nx (st ((List.range i).map fun j => .int (w.want j (heardOf w j past (L.getD j [])))) (.va (.int (i : Nat))) (.va (stD (L.getD i []))) (.va (.lst ((heardL w i past (L.getD i [])).map .int)))), δ2) := by
      refine setE (lcE (xs := List.zipWith (fun p q => D.tup [p, q]) (brD (w.rule i)) ((L.getD i []).map .int)) (δ1 := δ2) (itZE (x := .tup (brD (w.rule i))) (y := stD (L.getD i [])) (δ1 := δ2) (callE (evLc (ruleE o hi rfl rfl) evLn) qb) (varE rfl) rfl rfl) ?_ hc)
      rw [List.length_zipWith, brD_len]
      omega
    have q := wanted_ok o δ2 (m := n) hi (by omega) (hs := heardL w i past (L.getD i [])) (heardL_nn hs) (by unfold heardL; rw [List.length_map, List.length_range]; exact Nat.le_refl _)
    rw [want_heardL] at q
    have s2 := appE (cf := callF n) (x := 3) (e := .call .wanted (.cons (.var 0) (.cons (.var 4) (.cons (.fn .tuple (.cons (.var 6) .nil)) .nil)))) (ρ := st ((List.range i).map fun j => .int (w.want j (heardOf w j past (L.getD j [])))) (.va (.int (i : Nat))) (.va (stD (L.getD i []))) (.va (.lst ((heardL w i past (L.getD i [])).map .int)))) (ds := (List.range i).map fun j => .int (w.want j (heardOf w j past (L.getD j [])))) (callE (evLc (varE rfl) (evLc (varE rfl) (evLc (fnTupE (varE rfl)) evLn))) q) rfl (by rw [List.length_map, List.length_range]; omega)
    refine ⟨_, st ((List.range (i + 1)).map fun j => .int (w.want j (heardOf w j past (L.getD j [])))) (.va (.int (i : Nat))) (.va (stD (L.getD i []))) (.va (.lst ((heardL w i past (L.getD i [])).map .int))), δ2, rfl, seqNx s1 (seqNx s2 ?_), _, _, _, rfl, rfl⟩
    have es : (List.range (i + 1)).map (fun j => D.int (w.want j (heardOf w j past (L.getD j [])))) = (List.range i).map (fun j => D.int (w.want j (heardOf w j past (L.getD j [])))) ++ [.int (w.want i (heardOf w i past (L.getD i [])))] := by rw [List.range_succ, List.map_append]; rfl
    rw [es]
    rfl)
  have hK : 0 + (enumD 0 (L.map stD)).length = w.n := by rw [enum_is stD [] L, Nat.zero_add, List.length_map, List.length_range, hL]
  rw [hK] at h2
  subst h2 hd
  refine call_rt (by decide) rfl (seqNx (ρ1 := st [] .no .no .no) (δ1 := δ') rfl (seqNx (forE (itEE (x := .tup (L.map stD)) (δ1 := δ') (varE rfl) rfl) h1) (seqRt (retE (fnTupE ?_)))))
  refine (varE (d := .lst ((nextS w past L).map .int)) ?_)
  unfold nextS
  rw [List.map_map]
  rfl
end
end NB

set_option Elab.async false
set_option linter.all false
set_option maxRecDepth 100000
set_option maxHeartbeats 2000000
/-! What a stopped run shows, by the program. -/
namespace NB
section
variable {w : Net}
theorem in_nat (j : Nat) (mv : List Nat) : evBin .inn (.int (j : Nat)) (mvD mv) = some (.bl (decide (j ∈ mv))) := by
  have e : intsOf (mv.map fun j => D.int (j : Nat)) = some (mv.map fun j => ((j : Nat) : Int)) := by
    have := intsOf_map (mv.map fun j => ((j : Nat) : Int))
    rwa [List.map_map] at this
  simp [evBin, evIn, seqOf, mvD, e]
  exact ⟨fun ⟨a, ha, ea⟩ => by
    have : a = j := by omega
    exact this ▸ ha, fun h => ⟨j, h, rfl⟩⟩
theorem iteE {cf : CF} {c a b : E} {ρ : Env} {t : Bool} {δ δ1 : Dl} {r : Option (D × Dl)} (h : evE cf c ρ δ = some (.bl t, δ1)) (h1 : t = true → evE cf a ρ δ1 = r) (h2 : t = false → evE cf b ρ δ1 = r) : evE cf (.ite c a b) ρ δ = r := by
  rw [evE, h]
  cases t with
  | true => exact h1 rfl
  | false => exact h2 rfl
theorem rows_get {h : List Bt} {i : Nat} {x : D} (e : (rowsD h)[i]? = some x) : i < h.length ∧ x = .tup [mvD (mvA h i), .tup (((h.getD i ([], [])).2).map stD)] := by
  unfold rowsD at e
  rw [List.getElem?_map] at e
  by_cases hi : i < h.length
  · rw [List.getElem?_eq_getElem hi] at e
    cases e
    refine ⟨hi, ?_⟩
    unfold mvA
    rw [List.getD_eq_getElem?_getD, List.getElem?_eq_getElem hi]
    rfl
  · rw [List.getElem?_eq_none (by omega)] at e
    cases e
theorem getD_win {α : Type} {l : List α} {k d i : Nat} {x : α} (h : i < d) : ((l.drop k).take d).getD i x = l.getD (k + i) x := by
  rw [List.getD_eq_getElem?_getD, List.getElem?_take, if_pos h, List.getElem?_drop, ← List.getD_eq_getElem?_getD]
theorem getD_take {α : Type} {l : List α} {d i : Nat} {x : α} (h : i < d) : (l.take d).getD i x = l.getD i x := by
  rw [List.getD_eq_getElem?_getD, List.getElem?_take, if_pos h, ← List.getD_eq_getElem?_getD]
theorem getD_drop {α : Type} {l : List α} {k i : Nat} {x : α} : (l.drop k).getD i x = l.getD (k + i) x := by
  rw [List.getD_eq_getElem?_getD, List.getElem?_drop, ← List.getD_eq_getElem?_getD]
theorem take_get {α : Type} {l : List α} {i : Nat} {x d : α} (h : i < l.length) (e : l.getD i d = x) : l.take (i + 1) = l.take i ++ [x] := by
  rw [List.take_succ, List.getElem?_eq_getElem h]
  rw [List.getD_eq_getElem?_getD, List.getElem?_eq_getElem h, Option.getD_some] at e
  rw [e]
  rfl
theorem evOi {cf : CF} {e : E} {ρ : Env} {i : Int} {δ δ1 : Dl} (h : evE cf e ρ δ = some (.int i, δ1)) : evO cf (.one e) ρ δ = some (some i, δ1) := by
  rw [evO, h]
  rfl
theorem evOn {cf : CF} {ρ : Env} {δ : Dl} : evO cf .nop ρ δ = some (none, δ) := by rw [evO]
theorem slE {cf : CF} {a lo hi : E} {ρ : Env} {x r : D} {l h : Option Int} {δ δ1 δ2 δ3 : Dl} (h1 : evE cf a ρ δ = some (x, δ1)) (h2 : evO cf lo ρ δ1 = some (l, δ2)) (h3 : evO cf hi ρ δ2 = some (h, δ3)) (h4 : evSl x l h = some r) : evE cf (.sl a lo hi) ρ δ = some (r, δ3) := by
  rw [evE, h1]
  simp only [bd, h2, h3, h4]
theorem tupE {cf : CF} {es : E} {ρ : Env} {ds : List D} {δ δ1 : Dl} (h1 : evL cf es ρ δ = some (ds, δ1)) (h2 : ds.length ≤ 100000) : evE cf (.tup es) ρ δ = some (.tup ds, δ1) := by
  rw [evE, h1]
  simp only [bd, if_pos h2]
theorem evLs {cf : CF} {a r : E} {ρ : Env} {x : D} {xs ys : List D} {δ δ1 δ2 : Dl} (h1 : evE cf a ρ δ = some (x, δ1)) (h2 : seqOf x = some ys) (h3 : evL cf r ρ δ1 = some (xs, δ2)) : evL cf (.star a r) ρ δ = some (ys ++ xs, δ2) := by
  rw [evL, h1]
  simp only [bd, h2, h3]
theorem itSE {cf : CF} {a : E} {ρ : Env} {x : D} {xs : List D} {δ δ1 : Dl} (h1 : evE cf a ρ δ = some (x, δ1)) (h2 : seqOf x = some xs) : evI cf (.itS a) ρ δ = some (xs, δ1) := by
  rw [evI, h1]
  simp only [bd, h2]
theorem st_ext {a b : List Int} (ha : a.length = w.n) (hb : b.length = w.n) (h : ∀ j, j < w.n → a.getD j 0 = b.getD j 0) : a = b := ext_getD (by omega) fun j hj => h j (by omega)
theorem want_same {j : Nat} {h h' : Nat → Int} (e : ∀ i, i < (br (w.rule j)).length → h i = h' i) : w.want j h = w.want j h' := by
  unfold Net.want
  congr 1
  exact val_congr _ _ _ e
/-- the state after a beat -/
theorem next_state {d e : Nat} {h : List Bt} {sts : List (List Int)} (S : Stp w d e h sts) (d0 : 0 < d) {k : Nat} (hk : k < h.length) :
    ((List.range w.n).map fun j => if j ∈ mvA h k then (nextS w ((sts.drop k).take d) (h.getD k ([], [])).2).getD j 0 else (((sts.drop k).take d).getD (d - 1) []).getD j 0) = sts.getD (d + k) [] := by
  have sl := S.len
  refine st_ext (w := w) (by simp) (st_get S.sok (by omega)).1 fun j hj => ?_
  rw [getD_map hj, S.st k j hk hj, getD_win (by omega), show k + (d - 1) = d + k - 1 by omega]
  by_cases q : j ∈ mvA h k
  · rw [if_pos q, if_pos q]
    unfold nextS
    rw [getD_map hj]
    refine want_same fun i hi => ?_
    have n1 := (S.nums k j hk hj).2 i hi
    have wl : ((sts.drop k).take d).length = d := by rw [List.length_take, List.length_drop]; omega
    have tl : (sts.take (d + k)).length = d + k := by rw [List.length_take]; omega
    have n1 : 1 ≤ ((h.getD k ([], [])).2.getD j []).getD i 0 ∧ ((h.getD k ([], [])).2.getD j []).getD i 0 ≤ (d : Int) := n1
    unfold heardOf
    rw [wl, tl]
    unfold laA
    rw [getD_win (by omega), getD_take (by omega)]
    congr 2
    omega
  · rw [if_neg q, if_neg q]
def shownB : S := (.seq (.set 7 (.call .shows_next (.cons (.var 0) (.cons (.var 3) (.cons (.var 6) .nil)))) ⟨false, false⟩) (.seq (.set 8 (.fn .tuple (.cons (.lc [9] (.one 9) (.itR1 (.fn .len (.cons (.ix (.var 0) (.int 0)) .nil))) .nop (.ite (.bin .inn (.var 9) (.var 5)) (.ix (.var 7) (.var 9)) (.ix (.ix (.var 3) (.neg 1)) (.var 9)))) .nil)) ⟨false, false⟩) (.seq (.app 4 (.var 8) ⟨false, false⟩) (.seq (.set 3 (.tup (.star (.sl (.var 3) (.one (.int 1)) .nop) (.cons (.var 8) .nil))) ⟨false, false⟩) .skip))))
theorem negE {cf : CF} {i : Int} {ρ : Env} {δ : Dl} : evE cf (.neg i) ρ δ = some (.int (-i), δ) := by rw [evE]
theorem lenE {cf : CF} {e : E} {ρ : Env} {x : D} {xs : List D} {δ δ1 : Dl} (h1 : evE cf e ρ δ = some (x, δ1)) (h2 : seqOf x = some xs) : evE cf (.fn .len (.cons e .nil)) ρ δ = some (.int xs.length, δ1) := by
  rw [evE, evLc h1 evLn]
  simp [evB, seq1, h2]
theorem atD_getS {hs : List Int} {a : Nat} (h : a < hs.length) : evIx (stD hs) (.int (a : Int)) = some (.int (hs.getD a 0)) := atD_get h
/-- len(net[0]), the net in slot a -/
theorem housesE {cf : CF} {a : Nat} {ρ : Env} {δ : Dl} (h : ρ[a]? = some (some (netD w))) : evE cf (.fn .len (.cons (.ix (.var a) (.int 0)) .nil)) ρ δ = some (.int w.n, δ) := by
  have := lenE (cf := cf) (e := .ix (.var a) (.int 0)) (ρ := ρ) (x := .tup (w.tops.map .int)) (xs := w.tops.map .int) (δ := δ) (δ1 := δ) (ixE (varE h) intE rfl) rfl
  rw [List.length_map] at this
  exact this
theorem rangeN (o : w.Ok) {cf : CF} {a : Nat} {ρ : Env} {δ : Dl} (h : ρ[a]? = some (some (netD w))) : evI cf (.itR1 (.fn .len (.cons (.ix (.var a) (.int 0)) .nil))) ρ δ = some ((List.range w.n).map fun (k : Nat) => D.int (0 + (k : Int)), δ) := by
  have small : w.n ≤ 5 := o.small
  have := itR1E (x := (w.n : Int)) (by omega) (by omega) (housesE (cf := cf) (δ := δ) h)
  rwa [show ((w.n : Nat) : Int).toNat = w.n by omega] at this
theorem lenN (o : w.Ok) : ((List.range w.n).map fun (k : Nat) => D.int (0 + (k : Int))).length ≤ 100000 := by
  have small : w.n ≤ 5 := o.small
  rw [List.length_map, List.length_range]
  omega
theorem shown_state (o : w.Ok) {cf : CF} {δ : Dl} {mv : List Nat} {win : List (List Int)} {wants : List Int} {a b c x y z : Option D} (hwin : 0 < win.length) (hs : ∀ x ∈ win, StOk w x) (hw : wants.length = w.n) :
    evE cf (.fn .tuple (.cons (.lc [9] (.one 9) (.itR1 (.fn .len (.cons (.ix (.var 0) (.int 0)) .nil))) .nop (.ite (.bin .inn (.var 9) (.var 5)) (.ix (.var 7) (.var 9)) (.ix (.ix (.var 3) (.neg 1)) (.var 9)))) .nil)) [some (netD w), a, b, some (.tup (win.map stD)), c, some (mvD mv), x, some (stD wants), y, z] δ = some (stD ((List.range w.n).map fun j => if j ∈ mv then wants.getD j 0 else (win.getD (win.length - 1) []).getD j 0), δ) := by
  unfold stD
  rw [List.map_map]
  refine fnTupE (lcE (rangeN o rfl) (lenN o) (compGo_to fun j hj => ?_))
  have hj := List.mem_range.mp hj
  have e0 : (0 : Int) + (j : Int) = (j : Int) := by omega
  refine ⟨_, rfl, rfl, ?_⟩
  rw [e0]
  show _ = some (D.int (if j ∈ mv then wants.getD j 0 else (win.getD (win.length - 1) []).getD j 0), δ)
  refine iteE (t := decide (j ∈ mv)) (δ1 := δ) (evBinE (varE rfl) (varE rfl) (in_nat j mv)) (fun t => ?_) fun t => ?_
  · rw [if_pos (of_decide_eq_true t)]
    exact ixE (varE rfl) (varE rfl) (atD_getS (by omega))
  · rw [if_neg (of_decide_eq_false t)]
    exact ixE (ixE (varE rfl) negE (atD_end hwin)) (varE rfl) (atD_getS (by rw [(st_get hs (by omega)).1]; exact hj))
theorem shown_ok (o : w.Ok) (δ : Dl) {m : Nat} (hm : 17 ≤ m) {d e : Nat} (d0 : 0 < d) {h : List Bt} {sts : List (List Int)} (S : Stp w d e h sts) (hl : h.length ≤ 1000) (hd : d ≤ 1000) : callF m .stopped_shown [netD w, .int d, runD (sts.take d) h] δ = some (.tup ((sts.drop d).map stD), δ) := by
  obtain ⟨n, rfl⟩ : ∃ n, m = n + 1 := ⟨m - 1, by omega⟩
  have sl := S.len
  let st := fun (win found : List (List Int)) (a b c x : Sl) => [Sl.va (netD w), .va (.int d), .va (runD (sts.take d) h), .va (.tup (win.map stD)), .ow (found.map stD), a, b, c, x, .no]
  obtain ⟨ρ', δ', h1, a, b, c, x, h2, hd'⟩ := forGo_ix (body := fun r d => exec (callF n) shownB r d) (tg := .many [5, 6]) (fun k ρ δ2 => ∃ a b c x, ρ = st ((sts.drop k).take d) ((sts.drop d).take k) a b c x ∧ δ2 = δ) (xs := rowsD h) (k := 0) (ρ := st (sts.take d) [] .no .no .no .no) (δ := δ) ⟨_, _, _, _, rfl, rfl⟩ (by
    rintro k x ρ δ2 hx ⟨a, b, c, y, rfl, rfl⟩
    rw [Nat.zero_add]
    obtain ⟨hk, rfl⟩ := rows_get hx
    have wl : ((sts.drop k).take d).length = d := by rw [List.length_take, List.length_drop]; omega
    have ws : ∀ x ∈ (sts.drop k).take d, StOk w x := fun x hx => S.sok x (List.mem_of_mem_drop (List.mem_of_mem_take hx))
    have q1 := shows_ok o δ2 (m := n) (by omega) (past := (sts.drop k).take d) (L := (h.getD k ([], [])).2) ws (S.lan k hk) (fun j hj => by
      have := S.nums k j hk hj
      rw [wl]
      exact this)
    have s1 : exec (callF n) (.set 7 (.call .shows_next (.cons (.var 0) (.cons (.var 3) (.cons (.var 6) .nil)))) ⟨false, false⟩) (st ((sts.drop k).take d) ((sts.drop d).take k) (.va (mvD (mvA h k))) (.va (.tup (((h.getD k ([], [])).2).map stD))) c y) δ2 = some (.nx (st ((sts.drop k).take d) ((sts.drop d).take k) (.va (mvD (mvA h k))) (.va (.tup (((h.getD k ([], [])).2).map stD))) (.va (stD (nextS w ((sts.drop k).take d) (h.getD k ([], [])).2))) y), δ2) :=
      setE (callE (evLc (varE rfl) (evLc (varE rfl) (evLc (varE rfl) evLn))) q1)
    have q2 := next_state S d0 hk
    have q3 := shown_state o (cf := callF n) (δ := δ2) (mv := mvA h k) (win := (sts.drop k).take d) (wants := nextS w ((sts.drop k).take d) (h.getD k ([], [])).2) (a := some (.int d)) (b := some (runD (sts.take d) h)) (c := none) (x := some (.tup (((h.getD k ([], [])).2).map stD))) (y := y.hide) (z := none) (by omega) ws (by unfold nextS; simp)
    rw [wl, q2] at q3
    have s2 : exec (callF n) (.set 8 (.fn .tuple (.cons (.lc [9] (.one 9) (.itR1 (.fn .len (.cons (.ix (.var 0) (.int 0)) .nil))) .nop (.ite (.bin .inn (.var 9) (.var 5)) (.ix (.var 7) (.var 9)) (.ix (.ix (.var 3) (.neg 1)) (.var 9)))) .nil)) ⟨false, false⟩) (st ((sts.drop k).take d) ((sts.drop d).take k) (.va (mvD (mvA h k))) (.va (.tup (((h.getD k ([], [])).2).map stD))) (.va (stD (nextS w ((sts.drop k).take d) (h.getD k ([], [])).2))) y) δ2 = some (.nx (st ((sts.drop k).take d) ((sts.drop d).take k) (.va (mvD (mvA h k))) (.va (.tup (((h.getD k ([], [])).2).map stD))) (.va (stD (nextS w ((sts.drop k).take d) (h.getD k ([], [])).2))) (.va (stD (sts.getD (d + k) [])))), δ2) := setE q3
    have e1 : ((sts.drop d).take k).map stD ++ [stD (sts.getD (d + k) [])] = ((sts.drop d).take (k + 1)).map stD := by
      rw [take_get (x := sts.getD (d + k) []) (by rw [List.length_drop]; omega) (by rw [getD_drop]), List.map_append, List.map_singleton]
    have s3 : exec (callF n) (.app 4 (.var 8) ⟨false, false⟩) (st ((sts.drop k).take d) ((sts.drop d).take k) (.va (mvD (mvA h k))) (.va (.tup (((h.getD k ([], [])).2).map stD))) (.va (stD (nextS w ((sts.drop k).take d) (h.getD k ([], [])).2))) (.va (stD (sts.getD (d + k) [])))) δ2 = some (.nx (st ((sts.drop k).take d) ((sts.drop d).take (k + 1)) (.va (mvD (mvA h k))) (.va (.tup (((h.getD k ([], [])).2).map stD))) (.va (stD (nextS w ((sts.drop k).take d) (h.getD k ([], [])).2))) (.va (stD (sts.getD (d + k) [])))), δ2) := by
      have z := appE (cf := callF n) (x := 4) (e := .var 8) (ρ := st ((sts.drop k).take d) ((sts.drop d).take k) (.va (mvD (mvA h k))) (.va (.tup (((h.getD k ([], [])).2).map stD))) (.va (stD (nextS w ((sts.drop k).take d) (h.getD k ([], [])).2))) (.va (stD (sts.getD (d + k) [])))) (ds := ((sts.drop d).take k).map stD) (δ := δ2) (δ1 := δ2) (varE rfl) rfl (by rw [List.length_map, List.length_take, List.length_drop]; omega)
      rw [z, e1]
      rfl
    have e2 : ((sts.drop k).take d).map stD = stD (sts.getD k []) :: ((sts.drop (k + 1)).take (d - 1)).map stD := by
      obtain ⟨f, rfl⟩ : ∃ f, d = f + 1 := ⟨d - 1, by omega⟩
      have hlt : k < sts.length := by omega
      have hg : sts[k] = sts.getD k [] := by rw [List.getD_eq_getElem?_getD, List.getElem?_eq_getElem hlt, Option.getD_some]
      rw [List.drop_eq_getElem_cons hlt, List.take_succ_cons, List.map_cons, hg, Nat.add_sub_cancel]
    have e3 : ((sts.drop (k + 1)).take (d - 1)).map stD ++ [stD (sts.getD (d + k) [])] = ((sts.drop (k + 1)).take d).map stD := by
      have := take_get (l := sts.drop (k + 1)) (i := d - 1) (x := sts.getD (d + k) []) (d := []) (by rw [List.length_drop]; omega) (by rw [getD_drop, show k + 1 + (d - 1) = d + k by omega])
      rw [show d - 1 + 1 = d by omega] at this
      rw [this, List.map_append, List.map_singleton]
    have wl2 : ((sts.drop (k + 1)).take (d - 1)).length ≤ 1000 := by rw [List.length_take]; omega
    have s4 : exec (callF n) (.set 3 (.tup (.star (.sl (.var 3) (.one (.int 1)) .nop) (.cons (.var 8) .nil))) ⟨false, false⟩) (st ((sts.drop k).take d) ((sts.drop d).take (k + 1)) (.va (mvD (mvA h k))) (.va (.tup (((h.getD k ([], [])).2).map stD))) (.va (stD (nextS w ((sts.drop k).take d) (h.getD k ([], [])).2))) (.va (stD (sts.getD (d + k) [])))) δ2 = some (.nx (st ((sts.drop (k + 1)).take d) ((sts.drop d).take (k + 1)) (.va (mvD (mvA h k))) (.va (.tup (((h.getD k ([], [])).2).map stD))) (.va (stD (nextS w ((sts.drop k).take d) (h.getD k ([], [])).2))) (.va (stD (sts.getD (d + k) [])))), δ2) := by
      refine setE (d := .tup (((sts.drop (k + 1)).take d).map stD)) ?_
      rw [← e3]
      refine tupE (evLs (x := .tup (((sts.drop (k + 1)).take (d - 1)).map stD)) (slE (x := .tup (((sts.drop k).take d).map stD)) (l := some 1) (h := none) (varE rfl) (evOi intE) evOn ?_) rfl (evLc (varE rfl) evLn)) (by rw [List.length_append, List.length_map]; simp only [List.length_singleton]; omega)
      show some (D.tup (cutD (((sts.drop k).take d).map stD) (some ((1 : Nat) : Int)) none)) = _
      rw [cutD_from (d := 1) (by rw [List.length_map, wl]; omega), e2, List.drop_one, List.tail_cons]
    exact ⟨_, _, δ2, rfl, seqNx s1 (seqNx s2 (seqNx s3 (seqNx s4 rfl))), _, _, _, _, rfl, rfl⟩)
  have hK : 0 + (rowsD h).length = h.length := by rw [Nat.zero_add]; exact List.length_map _
  rw [hK] at h2
  subst h2 hd'
  have e4 : (sts.drop d).take h.length = sts.drop d := List.take_of_length_le (by rw [List.length_drop]; omega)
  rw [e4] at h1
  refine call_rt (by decide) rfl (seqNx (ρ1 := st (sts.take d) [] .no .no .no .no) (δ1 := δ') rfl (seqNx (forE (itSE (x := .tup (rowsD h)) (δ1 := δ') (ixE (varE rfl) intE rfl) rfl) h1) (seqRt (retE (fnTupE (varE rfl))))))
end
end NB

set_option Elab.async false
set_option linter.all false
set_option maxRecDepth 100000
set_option maxHeartbeats 2000000
/-! A house's moves, its numbers at its last move; the plain run. -/
namespace NB
section
variable {w : Net}
theorem compGo_fil {α : Type} {tst : Env → Dl → Option (Bool × Dl)} {elt : Env → Dl → Option (D × Dl)} {tg : Tg} {ρ : Env} {a b : α → D} {p : α → Bool} : ∀ {l : List α} {δ : Dl}, (∀ x ∈ l, ∃ ρ1, asg tg ρ (a x) = some ρ1 ∧ tst ρ1 δ = some (p x, δ) ∧ elt ρ1 δ = some (b x, δ)) → compGo tst elt tg ρ (l.map a) δ = some ((l.filter p).map b, δ)
  | [], δ, _ => rfl
  | x :: l, δ, h => by
    obtain ⟨ρ1, h1, h2, h3⟩ := h x List.mem_cons_self
    have ih := compGo_fil (l := l) (δ := δ) fun y hy => h y (List.mem_cons_of_mem _ hy)
    rw [List.map_cons, compGo, h1]
    simp only [bd, h2, h3, ih, List.filter_cons]
    cases p x <;> simp
def moves (h : List Bt) (j : Nat) : List Nat := (List.range h.length).filter fun u => decide (j ∈ mvA h u)
def natsD (l : List Nat) : List D := l.map fun (u : Nat) => D.int (u : Nat)
theorem tstE {cf : CF} {a : E} {ρ : Env} {b : Bool} {δ δ1 : Dl} (h : evE cf a ρ δ = some (.bl b, δ1)) : evT cf (.one a) ρ δ = some (b, δ1) := by
  rw [evT, h]
  rfl
theorem rows_is (h : List Bt) : rowsD h = (List.range h.length).map fun u => rowD (mvA h u) (h.getD u ([], [])).2 := map_range_getD (fun p : Bt => rowD p.1 p.2) ([], []) h
theorem rows_at {h : List Bt} {u : Nat} (hu : u < h.length) : atD (rowsD h) (u : Int) = some (rowD (mvA h u) (h.getD u ([], [])).2) := by
  unfold atD
  rw [if_pos (by omega), rows_is, List.getElem?_map, show ((u : Nat) : Int).toNat = u by omega, List.getElem?_range hu]
  rfl
theorem moves_ok (δ : Dl) {m : Nat} (hm : 1 ≤ m) {h : List Bt} (hl : h.length ≤ 1000) (j : Nat) : callF m .moves_of [.tup (rowsD h), .int (j : Nat)] δ = some (.lst (natsD (moves h j)), δ) := by
  obtain ⟨n, rfl⟩ : ∃ n, m = n + 1 := ⟨m - 1, by omega⟩
  refine call_rt (by decide) rfl (seqRt (retE (lcE (xs := enumD 0 (rowsD h)) (δ1 := δ) (itEE (x := .tup (rowsD h)) (varE rfl) rfl) ?_ ?_)))
  · unfold rowsD
    rw [enum_is (fun p : Bt => rowD p.1 p.2) ([], []) h, List.length_map, List.length_range]
    omega
  · unfold rowsD
    rw [enum_is (fun p : Bt => rowD p.1 p.2) ([], []) h]
    refine compGo_fil fun u hu => ⟨_, rfl, ?_, ?_⟩
    · exact tstE (evBinE (x := .int (j : Nat)) (y := mvD (mvA h u)) (δ1 := δ) (varE rfl) (ixE (x := rowD (mvA h u) (h.getD u ([], [])).2) (varE rfl) intE rfl) (in_nat j _))
    · exact varE rfl
theorem fil_last (p : Nat → Bool) {b : Nat} (hb : p b = true) : ∀ {n : Nat}, b < n → (∀ u, b < u → u < n → p u = false) → ∃ pre, (List.range n).filter p = pre ++ [b]
  | 0, h, _ => absurd h (Nat.not_lt_zero b)
  | n + 1, h, no => by
    rw [List.range_succ, List.filter_append]
    by_cases e : b = n
    · subst e
      exact ⟨_, by rw [List.filter_cons, if_pos hb]; rfl⟩
    · obtain ⟨pre, ih⟩ := fil_last p hb (n := n) (by omega) fun u h1 h2 => no u h1 (by omega)
      refine ⟨pre, ?_⟩
      rw [ih, List.filter_cons, no n (by omega) (by omega)]
      simp
theorem atD_lastE {l : List D} {x : D} : atD (l ++ [x]) (-1) = some x := by
  unfold atD
  rw [if_neg (by omega), if_pos (by rw [List.length_append, List.length_singleton]; omega), List.length_append, List.length_singleton, show (-1 + ((l.length + 1 : Nat) : Int)).toNat = l.length by omega, List.getElem?_append_right (Nat.le_refl _), Nat.sub_self]
  rfl
def agedL (h : List Bt) (j t b : Nat) : List Int := (laA h b j).map fun x => x + t - b
theorem aged_ok (δ : Dl) {m : Nat} (hm : 2 ≤ m) {h : List Bt} (hl : h.length ≤ 1000) {j t b : Nat} (ht : t < h.length) (L : Lst h j t b) (hj : j < (h.getD b ([], [])).2.length) (hz : (laA h b j).length ≤ 1000) : callF m .aged [.tup (rowsD h), .int (j : Nat), .int (t : Nat)] δ = some (stD (agedL h j t b), δ) := by
  obtain ⟨n, rfl⟩ : ∃ n, m = n + 1 := ⟨m - 1, by omega⟩
  have q1 := moves_ok δ (m := n) (by omega) hl j
  have bt := L.le
  obtain ⟨pre, e1⟩ := fil_last (fun u => decide (u ≤ t) && decide (j ∈ mvA h u)) (b := b) (by simp [L.le, L.mv]) (n := h.length) (by omega) fun u h1 h2 => by
    by_cases c : u ≤ t
    · simp [L.no u h1 c]
    · simp [c]
  have e2 : (moves h j).filter (fun u => decide (u ≤ t)) = pre ++ [b] := by
    unfold moves
    rw [List.filter_filter]
    exact e1
  have ml : (natsD (moves h j)).length ≤ 100000 := by
    unfold natsD moves
    rw [List.length_map]
    have := List.length_filter_le (fun u => decide (j ∈ mvA h u)) (List.range h.length)
    rw [List.length_range] at this
    omega
  let st := fun (a : Sl) => [Sl.va (.tup (rowsD h)), .va (.int (j : Nat)), .va (.int (t : Nat)), a, .no, .no]
  have s1 : exec (callF n) (.set 3 (.ix (.lc [4] (.one 4) (.itS (.call .moves_of (.cons (.var 0) (.cons (.var 1) .nil)))) (.one (.bin .le (.var 4) (.var 2))) (.var 4)) (.neg 1)) ⟨false, false⟩) (st .no) δ = some (.nx (st (.va (.int (b : Nat)))), δ) := by
    refine setE (ixE (x := .lst (natsD ((moves h j).filter fun u => decide (u ≤ t)))) (y := .int (-1)) (δ1 := δ) (lcE (xs := natsD (moves h j)) (δ1 := δ) (itSE (x := .lst (natsD (moves h j))) (callE (evLc (varE rfl) (evLc (varE rfl) evLn)) q1) rfl) ml ?_) negE ?_)
    · refine compGo_fil fun u hu => ⟨_, rfl, tstE (evBinE (x := .int (u : Nat)) (y := .int (t : Nat)) (δ1 := δ) (varE rfl) (varE rfl) ?_), varE rfl⟩
      show some (D.bl (decide ((u : Int) ≤ (t : Int)))) = some (.bl (decide (u ≤ t)))
      congr 2
      exact decide_eq_decide.mpr (by omega)
    · rw [e2]
      show atD (natsD (pre ++ [b])) (-1) = _
      unfold natsD
      rw [List.map_append]
      exact atD_lastE
  refine call_rt (by decide) rfl (seqNx s1 (seqRt (retE (fnTupE (lcE (xs := (laA h b j).map .int) (δ1 := δ) (itSE (x := stD (laA h b j)) (ixE (ixE (ixE (varE rfl) (varE rfl) (rows_at (by omega))) intE rfl) (varE rfl) (atD_st hj)) rfl) ?_ ?_)))))
  · rw [List.length_map]; omega
  · unfold agedL
    rw [List.map_map]
    refine compGo_to fun x hx => ⟨_, rfl, rfl, ?_⟩
    exact evBinE (evBinE (varE rfl) (varE rfl) rfl) (varE rfl) rfl
/-- the last move -/
def lmv (h : List Bt) (j : Nat) : Nat → Nat
  | 0 => 0
  | t + 1 => if j ∈ mvA h (t + 1) then t + 1 else lmv h j t
theorem lmv_of {h : List Bt} {j b : Nat} : ∀ {t : Nat}, Lst h j t b → lmv h j t = b
  | 0, L => by have := L.le; show 0 = b; omega
  | t + 1, L => by
    have := L.le
    unfold lmv
    by_cases q : j ∈ mvA h (t + 1)
    · rw [if_pos q]
      apply Classical.byContradiction
      intro ne
      exact L.no (t + 1) (by omega) (Nat.le_refl _) q
    · rw [if_neg q]
      have ne : b ≠ t + 1 := fun e => q (e ▸ L.mv)
      exact lmv_of ⟨by omega, L.mv, fun u h1 h2 => L.no u h1 (by omega)⟩
def prow (w : Net) (h : List Bt) (t : Nat) : List (List Int) := (List.range w.n).map fun j => agedL h j t (lmv h j t)
def plainD (w : Net) (d f : Nat) (h : List Bt) (sts : List (List Int)) : D := .tup [.tup ((sts.take (d + f)).map stD), .tup ((List.range (h.length - f)).map fun k => .tup ((prow w h (f + k)).map stD))]
theorem Stp.lm {d f : Nat} {h : List Bt} {sts : List (List Int)} (S : Stp w d (f + 1) h sts) {t j : Nat} (ht : t < h.length) (hj : j < w.n) (hf : f ≤ t) : Lst h j t (lmv h j t) ∧ t ≤ lmv h j t + f := by
  obtain ⟨b, L, hb⟩ := S.ex t j ht hj (by omega)
  rw [lmv_of L]
  exact ⟨L, by omega⟩
theorem cutD_to {ds : List D} {d : Nat} : cutD ds none (some (d : Int)) = ds.take d := by
  unfold cutD
  rw [cutAt_nat]
  show (ds.drop 0).take (min d ds.length - 0) = _
  rw [List.drop_zero, Nat.sub_zero]
  by_cases h : d ≤ ds.length
  · rw [Nat.min_eq_left h]
  · rw [Nat.min_eq_right (by omega), List.take_length, List.take_of_length_le (by omega)]
theorem itR2E {cf : CF} {a b : E} {ρ : Env} {i j : Int} {δ δ1 δ2 : Dl} (h1 : evE cf a ρ δ = some (.int i, δ1)) (h2 : evE cf b ρ δ1 = some (.int j, δ2)) (hi : 0 ≤ i ∧ i < 1000000) (hj : 0 ≤ j ∧ j < 1000000) : evI cf (.itR2 a b) ρ δ = some ((List.range (j - i).toNat).map fun (k : Nat) => D.int (i + (k : Int)), δ2) := by
  rw [evI, h1]
  simp only [bd, h2, intOf]
  rw [if_pos (by omega)]
theorem plain_ok (o : w.Ok) (δ : Dl) {m : Nat} (hm : 18 ≤ m) {d f : Nat} (d0 : 0 < d) (d1 : d ≤ 1000) (f1 : f ≤ 1000) {h : List Bt} {sts : List (List Int)} (S : Stp w d (f + 1) h sts) (hl : h.length ≤ 1000) (hf : f ≤ h.length) :
    callF m .plain_run [netD w, .int d, .int (f + 1 : Nat), runD (sts.take d) h] δ = some (plainD w d f h sts, δ) := by
  obtain ⟨n, rfl⟩ : ∃ n, m = n + 1 := ⟨m - 1, by omega⟩
  have q1 := shown_ok o δ (m := n) (by omega) d0 S hl d1
  have small : w.n ≤ 5 := o.small
  let G := fun k => D.tup ((prow w h (f + k)).map stD)
  let st := fun (states : Sl) (rows a : Sl) => [Sl.va (netD w), .va (.int d), .va (.int (f + 1 : Nat)), .va (runD (sts.take d) h), .va (.tup ((sts.take d).map stD)), .va (.tup (rowsD h)), states, rows, a, .no]
  have S1 : Sl := .va (.tup ((sts.drop d).map stD))
  obtain ⟨ρ', δ', h1, a, h2, hd'⟩ := forGo_ix (body := fun r d => exec (callF n) (.seq (.app 7 (.fn .tuple (.cons (.lc [9] (.one 9) (.itR1 (.fn .len (.cons (.ix (.var 0) (.int 0)) .nil))) .nop (.call .aged (.cons (.var 5) (.cons (.var 9) (.cons (.var 8) .nil))))) .nil)) ⟨false, false⟩) .skip) r d) (tg := .one 8) (fun k ρ δ2 => ∃ a, ρ = st (.va (.tup ((sts.drop d).map stD))) (.ow ((List.range k).map G)) a ∧ δ2 = δ) (xs := (List.range (h.length - f)).map fun (k : Nat) => D.int ((f : Int) + (k : Int))) (k := 0) (ρ := st (.va (.tup ((sts.drop d).map stD))) (.ow []) .no) (δ := δ) ⟨_, rfl, rfl⟩ (by
    rintro k x ρ δ2 hx ⟨a, rfl, rfl⟩
    rw [Nat.zero_add]
    obtain ⟨hk, rfl⟩ := mr_get hx
    have ef : (f : Int) + (k : Int) = ((f + k : Nat) : Int) := by omega
    rw [ef]
    have q : evE (callF n) (.fn .tuple (.cons (.lc [9] (.one 9) (.itR1 (.fn .len (.cons (.ix (.var 0) (.int 0)) .nil))) .nop (.call .aged (.cons (.var 5) (.cons (.var 9) (.cons (.var 8) .nil))))) .nil)) (view false (st (.va (.tup ((sts.drop d).map stD))) (.ow ((List.range k).map G)) (.va (.int ((f + k : Nat) : Int))))) δ2 = some (G k, δ2) := by
      show _ = some (D.tup ((prow w h (f + k)).map stD), δ2)
      unfold prow
      rw [List.map_map]
      refine fnTupE (lcE (rangeN o rfl) (lenN o) (compGo_to fun j hj => ?_))
      have hj := List.mem_range.mp hj
      obtain ⟨L, lb⟩ := S.lm (t := f + k) (by omega) hj (by omega)
      have hb : lmv h j (f + k) < h.length := by have := L.le; omega
      have nm := S.nums _ j hb hj
      have e0 : (0 : Int) + (j : Int) = (j : Int) := by omega
      refine ⟨_, rfl, rfl, ?_⟩
      rw [e0]
      exact callE (evLc (varE rfl) (evLc (varE rfl) (evLc (varE rfl) evLn))) (aged_ok δ2 (by omega) hl (by omega) L (by rw [S.lan _ hb]; exact hj) (by rw [nm.1]; exact (o.rk hj).2.2))
    refine ⟨_, st (.va (.tup ((sts.drop d).map stD))) (.ow ((List.range (k + 1)).map G)) (.va (.int ((f + k : Nat) : Int))), δ2, rfl, ?_, _, rfl, rfl⟩
    have es : (List.range (k + 1)).map G = (List.range k).map G ++ [G k] := by rw [List.range_succ, List.map_append, List.map_singleton]
    rw [es]
    exact seqNx (appE q rfl (by rw [List.length_map, List.length_range]; omega)) rfl)
  rw [Nat.zero_add, List.length_map, List.length_range] at h2
  subst h2 hd'
  have e1 : ((f + 1 : Nat) : Int) - 1 = (f : Int) := by omega
  have e1' : evBin .sub (.int ((f + 1 : Nat) : Int)) (.int 1) = some (.int (f : Int)) := by
    rw [← e1]
    rfl
  have hx : evI (callF n) (.itR2 (.bin .sub (.var 2) (.int 1)) (.fn .len (.cons (.var 5) .nil))) (view false (st (.va (.tup ((sts.drop d).map stD))) (.ow []) .no)) δ' = some ((List.range (h.length - f)).map fun (k : Nat) => D.int ((f : Int) + (k : Int)), δ') := by
    have z := itR2E (cf := callF n) (a := .bin .sub (.var 2) (.int 1)) (b := .fn .len (.cons (.var 5) .nil)) (ρ := view false (st (.va (.tup ((sts.drop d).map stD))) (.ow []) .no)) (i := (f : Int)) (j := h.length) (δ := δ') (δ1 := δ') (δ2 := δ') (evBinE (x := .int ((f + 1 : Nat) : Int)) (y := .int 1) (varE rfl) intE e1') (by
      have := lenE (cf := callF n) (e := .var 5) (ρ := view false (st (.va (.tup ((sts.drop d).map stD))) (.ow []) .no)) (x := .tup (rowsD h)) (δ := δ') (δ1 := δ') (varE rfl) rfl
      rw [this]
      unfold rowsD
      rw [List.length_map]) (by omega) (by omega)
    rw [z, show ((h.length : Int) - (f : Int)).toNat = h.length - f by omega]
  have e2 : (sts.take d).map stD ++ ((sts.drop d).map stD).take f = (sts.take (d + f)).map stD := by
    rw [List.take_add, List.map_append, ← List.map_take]
  refine call_rt (by decide) rfl (seqNx (ρ1 := st .no .no .no) (δ1 := δ') ?_ (seqNx (ρ1 := st (.va (.tup ((sts.drop d).map stD))) .no .no) (δ1 := δ') ?_ (seqNx (ρ1 := st (.va (.tup ((sts.drop d).map stD))) (.ow []) .no) (δ1 := δ') rfl (seqNx (forE hx h1) (seqRt (retE ?_))))))
  · rfl
  · exact setE (callE (evLc (varE rfl) (evLc (varE rfl) (evLc (varE rfl) evLn))) q1)
  · refine tupE (ds := [.tup ((sts.take (d + f)).map stD), .tup ((List.range (h.length - f)).map fun k => .tup ((prow w h (f + k)).map stD))]) (evLc ?_ (evLc (fnTupE (varE rfl)) evLn)) (by simp)
    rw [← e2]
    have sl := S.len
    have e3 : (((sts.drop d).map stD).take f).length ≤ 1000 := by rw [List.length_take]; omega
    have e4 : (sts.take d).map stD ++ ((sts.drop d).map stD).take f = (sts.take d).map stD ++ (((sts.drop d).map stD).take f ++ []) := by rw [List.append_nil]
    rw [e4]
    refine tupE (evLs (x := .tup ((sts.take d).map stD)) (varE rfl) rfl (evLs (x := .tup (((sts.drop d).map stD).take f)) (slE (x := .tup ((sts.drop d).map stD)) (l := none) (h := some (f : Int)) (varE rfl) evOn (evOi (evBinE (x := .int ((f + 1 : Nat) : Int)) (y := .int 1) (varE rfl) intE e1')) ?_) rfl evLn)) ?_
    · show some (D.tup (cutD ((sts.drop d).map stD) none (some (f : Int)))) = _
      rw [cutD_to]
    · rw [List.append_nil, e2, List.length_map, List.length_take]
      omega
end
end NB

set_option Elab.async false
set_option linter.all false
set_option maxRecDepth 100000
set_option maxHeartbeats 2000000
/-! The plain run, as plain data. -/
namespace NB
section
variable {w : Net}
theorem agedL_at {h : List Bt} {j t b i : Nat} (hi : i < (laA h b j).length) : (agedL h j t b).getD i 0 = (laA h b j).getD i 0 + t - b := by
  unfold agedL
  rw [List.getD_eq_getElem?_getD, List.getD_eq_getElem?_getD, List.getElem?_map, List.getElem?_eq_getElem hi]
  rfl
theorem agedL_len {h : List Bt} {j t b : Nat} : (agedL h j t b).length = (laA h b j).length := List.length_map _
theorem prow_at {h : List Bt} {t j : Nat} (hj : j < w.n) : (prow w h t).getD j [] = agedL h j t (lmv h j t) := by
  unfold prow
  rw [List.getD_eq_getElem?_getD, List.getElem?_map, List.getElem?_range hj]
  rfl
theorem prow_len {h : List Bt} {t : Nat} : (prow w h t).length = w.n := by unfold prow; simp
variable {d f : Nat} {h : List Bt} {sts : List (List Int)}
/-- a plain row's numbers -/
theorem prow_num (S : Stp w d (f + 1) h sts) {t j : Nat} (ht : t < h.length) (hf : f ≤ t) (hj : j < w.n) : ((prow w h t).getD j []).length = (br (w.rule j)).length ∧ ∀ i, i < (br (w.rule j)).length → 1 ≤ ((prow w h t).getD j []).getD i 0 ∧ ((prow w h t).getD j []).getD i 0 ≤ ((d + f : Nat) : Int) := by
  obtain ⟨L, lb⟩ := S.lm ht hj hf
  have le := L.le
  obtain ⟨n1, n2⟩ := S.nums (lmv h j t) j (by omega) hj
  rw [prow_at hj]
  refine ⟨by rw [agedL_len, n1], fun i hi => ?_⟩
  rw [agedL_at (by rw [n1]; exact hi)]
  have := n2 i hi
  omega
theorem prow_follow (S : Stp w d (f + 1) h sts) {t j i : Nat} (ht : t + 1 < h.length) (hf : f ≤ t) (hj : j < w.n) (hi : i < (br (w.rule j)).length) : ((prow w h (t + 1)).getD j []).getD i 0 ≤ ((prow w h t).getD j []).getD i 0 + 1 := by
  obtain ⟨L, lb⟩ := S.lm (t := t) (by omega) hj hf
  have le := L.le
  obtain ⟨n1, n2⟩ := S.nums (lmv h j t) j (by omega) hj
  rw [prow_at hj, prow_at hj, agedL_at (t := t) (by rw [n1]; exact hi)]
  by_cases q : j ∈ mvA h (t + 1)
  · have e : lmv h j (t + 1) = t + 1 := by
      show (if j ∈ mvA h (t + 1) then t + 1 else lmv h j t) = t + 1
      rw [if_pos q]
    obtain ⟨n3, n4⟩ := S.nums (t + 1) j ht hj
    rw [e, agedL_at (by rw [n3]; exact hi)]
    have := S.nw t j ht hj q _ L i hi
    omega
  · have e : lmv h j (t + 1) = lmv h j t := by
      show (if j ∈ mvA h (t + 1) then t + 1 else lmv h j t) = lmv h j t
      rw [if_neg q]
    rw [e, agedL_at (by rw [n1]; exact hi)]
    omega
theorem st_stay {e : Nat} (S : Stp w d e h sts) {j b : Nat} (hj : j < w.n) (hb : b < h.length) : ∀ k, b + k < h.length → (∀ u, b < u → u ≤ b + k → j ∉ mvA h u) → (sts.getD (d + (b + k)) []).getD j 0 = (sts.getD (d + b) []).getD j 0
  | 0, _, _ => rfl
  | k + 1, hk, no => by
    rw [S.st (b + (k + 1)) j hk hj, if_neg (no _ (by omega) (Nat.le_refl _)), show d + (b + (k + 1)) - 1 = d + (b + k) by omega]
    exact st_stay S hj hb k (by omega) fun u h1 h2 => no u h1 (by omega)
/-- what the plain run shows -/
theorem prow_shows (S : Stp w d (f + 1) h sts) (d0 : 0 < d) {t j : Nat} (ht : t < h.length) (hf : f ≤ t) (hj : j < w.n) : (sts.getD (d + t) []).getD j 0 = w.want j (heardOf w j (sts.take (d + t)) ((prow w h t).getD j [])) := by
  obtain ⟨L, lb⟩ := S.lm ht hj hf
  have le := L.le
  have sl := S.len
  obtain ⟨n1, n2⟩ := S.nums (lmv h j t) j (by omega) hj
  have e1 := st_stay S hj (b := lmv h j t) (by omega) (t - lmv h j t) (by omega) fun u h1 h2 => L.no u h1 (by omega)
  rw [show lmv h j t + (t - lmv h j t) = t by omega] at e1
  rw [e1, S.st _ j (by omega) hj, if_pos L.mv, prow_at hj]
  refine want_same fun i hi => ?_
  have nm := n2 i hi
  unfold heardOf
  rw [agedL_at (by rw [n1]; exact hi)]
  have l1 : (sts.take (d + lmv h j t)).length = d + lmv h j t := by rw [List.length_take]; omega
  have l2 : (sts.take (d + t)).length = d + t := by rw [List.length_take]; omega
  rw [l1, l2, getD_take (by omega), getD_take (by omega)]
  congr 2
  omega
end
end NB

set_option Elab.async false
set_option linter.all false
set_option maxRecDepth 100000
set_option maxHeartbeats 2000000
/-! The program's look at a run. -/
namespace NB
section
variable {w : Net}
theorem allT {α : Type} {cf : CF} {e : E} {ρ : Env} {l : List α} {δ δ1 : Dl} (h : evE cf e ρ δ = some (.lst (l.map fun _ => .bl true), δ1)) : evE cf (.fn .all (.cons e .nil)) ρ δ = some (.bl true, δ1) := by
  have b := blsOf_map (fun _ : α => true) l
  have c : (l.map fun _ => true).all id = true := by rw [List.all_map]; simp
  rw [evE, evLc h evLn]
  simp only [bd, evB, lst1, Option.bind_some, b, Option.map_some, c]
theorem andT {cf : CF} {a b : E} {ρ : Env} {δ δ1 : Dl} {r : Option (D × Dl)} (h1 : evE cf a ρ δ = some (.bl true, δ1)) (h2 : evE cf b ρ δ1 = r) : evE cf (.and a b) ρ δ = r := by
  rw [evE, h1]
  exact h2
theorem andF {cf : CF} {a b : E} {ρ : Env} {δ δ1 : Dl} (h1 : evE cf a ρ δ = some (.bl false, δ1)) : evE cf (.and a b) ρ δ = some (.bl false, δ1) := by
  rw [evE, h1]
  rfl
theorem orF {cf : CF} {a b : E} {ρ : Env} {δ δ1 : Dl} {r : Option (D × Dl)} (h1 : evE cf a ρ δ = some (.bl false, δ1)) (h2 : evE cf b ρ δ1 = r) : evE cf (.or a b) ρ δ = r := by
  rw [evE, h1]
  exact h2
theorem oneE {cf : CF} {a : E} {ρ : Env} {δ : Dl} {r : Option (D × Dl)} (h : evE cf a ρ δ = r) : evE cf (.one a) ρ δ = r := by rw [evE]; exact h
theorem notE {cf : CF} {a : E} {b : Bool} {ρ : Env} {δ δ1 : Dl} (h : evE cf a ρ δ = some (.bl b, δ1)) : evE cf (.not a) ρ δ = some (.bl (!b), δ1) := by
  rw [evE, h]
  rfl
theorem isiTup {cf : CF} {a : E} {ds : List D} {ρ : Env} {δ δ1 : Dl} (h : evE cf a ρ δ = some (.tup ds, δ1)) : evE cf (.isi a .tuple) ρ δ = some (.bl true, δ1) := by
  rw [evE, h]
  rfl
theorem eqI (a b : Int) : evBin .eq (.int a) (.int b) = some (.bl (decide (a = b))) := by simp [evBin, evEq, fitN, eqD]
theorem neI (a b : Int) : evBin .ne (.int a) (.int b) = some (.bl (!decide (a = b))) := by simp [evBin, evEq, fitN, eqD]
theorem zipR {α β : Type} {g : D → D → D} {a : α → D} {b : β → D} (da : α) (db : β) {la : List α} {lb : List β} (e : la.length = lb.length) : List.zipWith g (la.map a) (lb.map b) = (List.range la.length).map fun i => g (a (la.getD i da)) (b (lb.getD i db)) := by
  rw [map_range_getD a da la, map_range_getD b db lb, ← e, zipWith_range]
theorem indexE (n : Nat) {a b : E} {i m : Int} {ρ : Env} {δ : Dl} (h1 : evE (callF (n + 3)) a ρ δ = some (.int i, δ)) (h2 : evE (callF (n + 3)) b ρ δ = some (.int m, δ)) (hi : 0 ≤ i ∧ i < m) : evE (callF (n + 3)) (.call .is_index (.cons a (.cons b .nil))) ρ δ = some (.bl true, δ) := by
  have q := is_index_int n i m δ
  rw [decide_eq_true hi.1, decide_eq_true hi.2] at q
  exact callE (evLc h1 (evLc h2 evLn)) q
theorem is_state_ok (o : w.Ok) (δ : Dl) {m : Nat} (hm : 5 ≤ m) {s : List Int} (hs : StOk w s) : callF m .is_state [netD w, stD s] δ = some (.bl true, δ) := by
  obtain ⟨n, rfl⟩ : ∃ n, m = n + 3 + 1 := ⟨m - 4, by omega⟩
  have small : w.n ≤ 5 := o.small
  have l1 : s.length = w.n := hs.1
  have e1 : s.length = w.tops.length := hs.1
  have z : List.zipWith (fun p q => D.tup [p, q]) (s.map D.int) (w.tops.map D.int) = (List.range w.n).map fun i => .tup [.int (s.getD i 0), .int (w.top i)] := by
    have := zipR (g := fun p q => D.tup [p, q]) (a := D.int) (b := D.int) 0 0 e1
    rw [l1] at this
    exact this
  refine call_rt (by decide) rfl (seqNx (ifF (orF (δ1 := δ) (notE (b := true) (isiTup (ds := s.map .int) (varE rfl))) (oneE ?_))) (seqRt (retE (allT (l := List.range w.n) (δ1 := δ) (lcE (xs := List.zipWith (fun p q => D.tup [p, q]) (s.map D.int) (w.tops.map D.int)) (δ1 := δ) (itZE (x := stD s) (y := .tup (w.tops.map .int)) (δ1 := δ) (varE rfl) (ixE (varE rfl) intE rfl) rfl rfl) ?_ ?_)))))
  · have q := evBinE (cf := callF (n + 3)) (o := .ne) (ρ := view true ([.va (netD w), .va (stD s), .no, .no] : List Sl)) (δ := δ) (lenE (e := .var 1) (x := stD s) (xs := s.map .int) (δ1 := δ) (varE rfl) rfl) (housesE (w := w) (a := 0) rfl) (neI _ _)
    rw [List.length_map, l1, decide_eq_true rfl] at q
    exact q
  · rw [z, List.length_map, List.length_range]; omega
  · rw [z]
    refine compGo_to fun i hi => ⟨_, rfl, rfl, ?_⟩
    have hi := List.mem_range.mp hi
    have b := hs.2 i hi
    exact indexE n (varE rfl) (evBinE (varE rfl) intE rfl) (by omega)
theorem is_past_ok (o : w.Ok) (δ : Dl) {m : Nat} (hm : 6 ≤ m) {ss : List (List Int)} (hs : ∀ s ∈ ss, StOk w s) (hl : ss.length ≤ 10000) : callF m .is_past [netD w, .int ss.length, .tup (ss.map stD)] δ = some (.bl true, δ) := by
  obtain ⟨n, rfl⟩ : ∃ n, m = n + 1 := ⟨m - 1, by omega⟩
  refine call_rt (by decide) rfl (seqRt (retE (andT (δ1 := δ) (isiTup (ds := ss.map stD) (varE rfl)) (andT (δ1 := δ) ?_ (oneE (allT (l := ss) (δ1 := δ) (lcE (xs := ss.map stD) (δ1 := δ) (itSE (x := .tup (ss.map stD)) (varE rfl) rfl) ?_ ?_)))))))
  · have q := evBinE (cf := callF n) (o := .eq) (ρ := view true ([.va (netD w), .va (.int ss.length), .va (.tup (ss.map stD)), .no] : List Sl)) (δ := δ) (lenE (e := .var 2) (x := .tup (ss.map stD)) (xs := ss.map stD) (δ1 := δ) (varE rfl) rfl) (varE (i := 1) rfl) (eqI _ _)
    rw [List.length_map, decide_eq_true rfl] at q
    exact q
  · rw [List.length_map]; omega
  · exact compGo_to fun s hx => ⟨_, rfl, rfl, callE (evLc (varE rfl) (evLc (varE rfl) evLn)) (is_state_ok o δ (by omega) (hs s hx))⟩
theorem house_late_ok {N : Nat} (δ : Dl) {m : Nat} {r : R} (o : ok N r) (hh : ht r ≤ 4) (hb : (br r).length ≤ 1000) (hm : 14 ≤ m) {num : List Int} {D' : Int} (hl : num.length = (br r).length) (hn : ∀ i, i < (br r).length → 1 ≤ num.getD i 0 ∧ num.getD i 0 ≤ D') : callF m .is_house_lateness [toD r, .int D', stD num] δ = some (.bl true, δ) := by
  obtain ⟨n, rfl⟩ : ∃ n, m = n + 3 + 1 := ⟨m - 4, by omega⟩
  have qb := branches_ok δ (n + 3) r o (by omega) (by omega)
  refine call_rt (by decide) rfl (seqNx (ifF (orF (δ1 := δ) (notE (b := true) (isiTup (ds := num.map .int) (varE rfl))) (oneE ?_))) (seqRt (retE (allT (l := num) (δ1 := δ) (lcE (xs := num.map .int) (δ1 := δ) (itSE (x := stD num) (varE rfl) rfl) ?_ ?_)))))
  · have q := evBinE (cf := callF (n + 3)) (o := .ne) (ρ := view true ([.va (toD r), .va (.int D'), .va (stD num), .no] : List Sl)) (δ := δ) (lenE (e := .var 2) (x := stD num) (xs := num.map .int) (δ1 := δ) (varE rfl) rfl) (lenE (x := .tup (brD r)) (xs := brD r) (callE (evLc (varE (i := 0) rfl) evLn) qb) rfl) (neI _ _)
    rw [List.length_map, brD_len, hl, decide_eq_true rfl] at q
    exact q
  · rw [List.length_map]; omega
  · refine compGo_to fun x hx => ⟨_, rfl, rfl, ?_⟩
    obtain ⟨i, hi, rfl⟩ := List.getElem_of_mem hx
    have b := hn i (by omega)
    rw [List.getD_eq_getElem?_getD, List.getElem?_eq_getElem hi, Option.getD_some] at b
    refine andT (δ1 := δ) (indexE n (i := num[i]) (m := D' + 1) (varE rfl) (evBinE (varE rfl) intE rfl) (by omega)) (oneE ?_)
    refine evBinE (x := .int num[i]) (y := .int 0) (δ1 := δ) (varE rfl) intE ?_
    show some (D.bl (decide (0 < num[i]))) = _
    rw [decide_eq_true (by omega)]
/-- a lateness of numbers from 1 to D -/
def LatOk (w : Net) (D' : Int) (L : List (List Int)) : Prop := L.length = w.n ∧ ∀ j, j < w.n → (L.getD j []).length = (br (w.rule j)).length ∧ ∀ i, i < (br (w.rule j)).length → 1 ≤ (L.getD j []).getD i 0 ∧ (L.getD j []).getD i 0 ≤ D'
theorem is_late_ok (o : w.Ok) (δ : Dl) {m : Nat} (hm : 15 ≤ m) {D' : Int} {L : List (List Int)} (hL : LatOk w D' L) : callF m .is_lateness [netD w, .int D', .tup (L.map stD)] δ = some (.bl true, δ) := by
  obtain ⟨n, rfl⟩ : ∃ n, m = n + 1 := ⟨m - 1, by omega⟩
  have small : w.n ≤ 5 := o.small
  have rl : w.rules.length = w.n := o.len
  obtain ⟨l1, l2⟩ := hL
  have z : List.zipWith (fun p q => D.tup [p, q]) (w.rules.map toD) (L.map stD) = (List.range w.n).map fun i => .tup [toD (w.rule i), stD (L.getD i [])] := by
    have := zipR (g := fun p q => D.tup [p, q]) (a := toD) (b := stD) (.is 0) [] (la := w.rules) (lb := L) (by omega)
    rw [rl] at this
    exact this
  refine call_rt (by decide) rfl (seqNx (ifF (orF (δ1 := δ) (notE (b := true) (isiTup (ds := L.map stD) (varE rfl))) (oneE ?_))) (seqRt (retE (allT (l := List.range w.n) (δ1 := δ) (lcE (xs := List.zipWith (fun p q => D.tup [p, q]) (w.rules.map toD) (L.map stD)) (δ1 := δ) (itZE (x := .tup (w.rules.map toD)) (y := .tup (L.map stD)) (δ1 := δ) (ixE (varE rfl) intE rfl) (varE rfl) rfl rfl) ?_ ?_)))))
  · have q := evBinE (cf := callF n) (o := .ne) (ρ := view true ([.va (netD w), .va (.int D'), .va (.tup (L.map stD)), .no, .no] : List Sl)) (δ := δ) (lenE (e := .var 2) (x := .tup (L.map stD)) (xs := L.map stD) (δ1 := δ) (varE rfl) rfl) (lenE (e := .ix (.var 0) (.int 1)) (x := .tup (w.rules.map toD)) (xs := w.rules.map toD) (ixE (varE rfl) intE rfl) rfl) (neI _ _)
    rw [List.length_map, List.length_map, l1, rl, decide_eq_true rfl] at q
    exact q
  · rw [z, List.length_map, List.length_range]; omega
  · rw [z]
    refine compGo_to fun i hi => ⟨_, rfl, rfl, ?_⟩
    have hi := List.mem_range.mp hi
    obtain ⟨n1, n2⟩ := l2 i hi
    obtain ⟨r1, r2, r3⟩ := o.rk hi
    exact callE (evLc (varE rfl) (evLc (varE rfl) (evLc (varE rfl) evLn))) (house_late_ok δ r1 r2 r3 (by omega) n1 n2)
end
end NB

set_option Elab.async false
set_option linter.all false
set_option maxRecDepth 100000
set_option maxHeartbeats 2000000
/-! The program's look at a run: the rows. -/
namespace NB
section
variable {w : Net}
theorem follow_ok (δ : Dl) {m : Nat} (hm : 1 ≤ m) {L M : List (List Int)} (hl : L.length = M.length) (hj : ∀ j, j < L.length → (L.getD j []).length = (M.getD j []).length ∧ (L.getD j []).length ≤ 1000 ∧ ∀ i, i < (L.getD j []).length → (M.getD j []).getD i 0 ≤ (L.getD j []).getD i 0 + 1) :
    callF m .can_follow [.tup (L.map stD), .tup (M.map stD)] δ = some (.bl true, δ) := by
  obtain ⟨n, rfl⟩ : ∃ n, m = n + 1 := ⟨m - 1, by omega⟩
  have z := zipR (g := fun p q => D.tup [p, q]) (a := stD) (b := stD) [] [] hl
  let st := fun (a b : Sl) => [Sl.va (.tup (L.map stD)), .va (.tup (M.map stD)), a, b, .no, .no]
  obtain ⟨ρ', h1, a, b, h2⟩ := forGo_inv (body := fun r d => exec (callF n) (.seq (.ife (.not (.fn .all (.cons (.lc [4, 5] (.many [4, 5]) (.itZ (.var 2) (.var 3)) .nop (.bin .le (.var 5) (.bin .add (.var 4) (.int 1)))) .nil))) (.seq (.ret (.bl false)) .skip) .skip) .skip) r d) (tg := .many [2, 3]) (δ := δ) (fun ρ => ∃ a b, ρ = st a b) (xs := List.zipWith (fun p q => D.tup [p, q]) (L.map stD) (M.map stD)) (ρ := st .no .no) ⟨_, _, rfl⟩ (by
    rintro x hx ρ ⟨a, b, rfl⟩
    rw [z] at hx
    obtain ⟨j, hj', rfl⟩ := List.mem_map.mp hx
    have hj' := List.mem_range.mp hj'
    obtain ⟨n1, n2, n3⟩ := hj j hj'
    have z2 := zipR (g := fun p q => D.tup [p, q]) (a := D.int) (b := D.int) 0 0 n1
    refine ⟨_, st (.va (stD (L.getD j []))) (.va (stD (M.getD j []))), rfl, seqNx (ifF (notE (b := true) (allT (l := List.range (L.getD j []).length) (lcE (xs := List.zipWith (fun p q => D.tup [p, q]) ((L.getD j []).map D.int) ((M.getD j []).map D.int)) (δ1 := δ) (itZE (x := stD (L.getD j [])) (y := stD (M.getD j [])) (δ1 := δ) (varE rfl) (varE rfl) rfl rfl) ?_ ?_)))) rfl, _, _, rfl⟩
    · rw [z2, List.length_map, List.length_range]; omega
    · rw [z2]
      refine compGo_to fun i hi => ⟨_, rfl, rfl, ?_⟩
      have hi := List.mem_range.mp hi
      refine evBinE (x := .int ((M.getD j []).getD i 0)) (y := .int ((L.getD j []).getD i 0 + 1)) (δ1 := δ) (varE rfl) (evBinE (varE rfl) intE rfl) ?_
      show some (D.bl (decide ((M.getD j []).getD i 0 ≤ (L.getD j []).getD i 0 + 1))) = _
      rw [decide_eq_true (n3 i hi)])
  subst h2
  refine call_rt (by decide) rfl (seqNx (forE (itZE (x := .tup (L.map stD)) (y := .tup (M.map stD)) (δ1 := δ) (varE rfl) (varE rfl) rfl rfl) h1) (seqRt (retE ?_)))
  rw [evE]
def runP (past : List (List Int)) (K : Nat) (R : Nat → List (List Int)) : D := .tup [.tup (past.map stD), .tup ((List.range K).map fun k => .tup ((R k).map stD))]
def faultB : S := (.seq (.ife (.or (.not (.call .is_lateness (.cons (.var 0) (.cons (.var 1) (.cons (.var 4) .nil))))) (.one (.and (.bin .gt (.var 3) (.int 0)) (.one (.not (.call .can_follow (.cons (.ix (.ix (.var 2) (.int 1)) (.bin .sub (.var 3) (.int 1))) (.cons (.var 4) .nil)))))))) (.seq (.ret (.bin .add (.var 3) (.int 2))) .skip) .skip) .skip)
theorem atD_rng {K k : Nat} {g : Nat → D} (hk : k < K) : atD ((List.range K).map g) (k : Int) = some (g k) := by
  unfold atD
  rw [if_pos (by omega), List.getElem?_map, show ((k : Nat) : Int).toNat = k by omega, List.getElem?_range hk]
  rfl
theorem fault_ok (o : w.Ok) (δ : Dl) {m : Nat} (hm : 17 ≤ m) {past : List (List Int)} (hs : ∀ s ∈ past, StOk w s) (hl : past.length ≤ 10000) {K : Nat} {R : Nat → List (List Int)} (h1 : ∀ k, k < K → LatOk w past.length (R k)) (h2 : ∀ k, k + 1 < K → ∀ j, j < w.n → ∀ i, i < (br (w.rule j)).length → ((R (k + 1)).getD j []).getD i 0 ≤ ((R k).getD j []).getD i 0 + 1) :
    callF m .fault_of [netD w, .int past.length, runP past K R] δ = some (.non, δ) := by
  obtain ⟨n, rfl⟩ : ∃ n, m = n + 1 := ⟨m - 1, by omega⟩
  let st := fun (a b : Sl) => [Sl.va (netD w), .va (.int past.length), .va (runP past K R), a, b]
  have en : enumD 0 ((List.range K).map fun k => D.tup ((R k).map stD)) = (List.range K).map fun k => .tup [.int (k : Nat), .tup ((R k).map stD)] := by
    have := enum_is (fun k : Nat => D.tup ((R k).map stD)) 0 (List.range K)
    rw [this, List.length_range]
    refine List.map_congr_left fun k hk => ?_
    have hk := List.mem_range.mp hk
    rw [List.getD_eq_getElem?_getD, List.getElem?_range hk]
    rfl
  obtain ⟨ρ', δ', g1, a, b, g2, g3⟩ := forGo_ix (body := fun r d => exec (callF n) faultB r d) (tg := .many [3, 4]) (fun k ρ δ2 => ∃ a b, ρ = st a b ∧ δ2 = δ) (xs := enumD 0 ((List.range K).map fun k => D.tup ((R k).map stD))) (k := 0) (ρ := st .no .no) (δ := δ) ⟨_, _, rfl, rfl⟩ (by
    rintro k x ρ δ2 hx ⟨a, b, rfl, rfl⟩
    rw [en] at hx
    obtain ⟨hk, rfl⟩ := mr_get hx
    have q1 := is_late_ok o δ2 (m := n) (by omega) (h1 k hk)
    refine ⟨_, st (.va (.int (k : Nat))) (.va (.tup ((R k).map stD))), δ2, rfl, seqNx (ifF (orF (δ1 := δ2) (notE (b := true) (callE (evLc (varE rfl) (evLc (varE rfl) (evLc (varE rfl) evLn))) q1)) (oneE ?_))) rfl, _, _, rfl, rfl⟩
    have c : evE (callF n) (.bin .gt (.var 3) (.int 0)) (view true (st (.va (.int (k : Nat))) (.va (.tup ((R k).map stD))))) δ2 = some (.bl (decide ((0 : Int) < (k : Int))), δ2) := evBinE (varE rfl) intE rfl
    by_cases k0 : k = 0
    · rw [decide_eq_false (by omega)] at c
      exact andF c
    · rw [decide_eq_true (by omega)] at c
      obtain ⟨p, rfl⟩ : ∃ p, k = p + 1 := ⟨k - 1, by omega⟩
      obtain ⟨a1, a2⟩ := h1 p (by omega)
      obtain ⟨b1, b2⟩ := h1 (p + 1) hk
      have q2 := follow_ok δ2 (m := n) (by omega) (L := R p) (M := R (p + 1)) (by omega) fun j hj => by
        obtain ⟨u1, u2⟩ := a2 j (by omega)
        obtain ⟨v1, v2⟩ := b2 j (by omega)
        exact ⟨by omega, by rw [u1]; exact (o.rk (by omega)).2.2, fun i hi => h2 p hk j (by omega) i (by omega)⟩
      refine andT c (oneE (notE (b := true) (callE (evLc (ixE (x := .tup ((List.range K).map fun k => .tup ((R k).map stD))) (y := .int (p : Nat)) (δ1 := δ2) (δ2 := δ2) (ixE (varE rfl) intE rfl) ?_ (atD_rng (by omega))) (evLc (varE rfl) evLn)) q2)))
      refine evBinE (x := .int ((p + 1 : Nat) : Int)) (y := .int 1) (δ1 := δ2) (varE rfl) intE ?_
      show some (D.int (((p + 1 : Nat) : Int) - 1)) = some (.int (p : Int))
      rw [show ((p + 1 : Nat) : Int) - 1 = (p : Int) by omega])
  subst g2 g3
  have qp := is_past_ok o δ' (m := n) (by omega) hs hl
  refine call_rt (by decide) rfl (seqNx (ρ1 := st .no .no) (δ1 := δ') (ifF (orF (δ1 := δ') (notE (b := true) (isiTup (varE rfl))) (orF (δ1 := δ') ?_ (oneE (notE (b := true) (callE (evLc (varE rfl) (evLc (varE rfl) (evLc (ixE (varE rfl) intE rfl) evLn))) qp)))))) (seqNx (ρ1 := st .no .no) (δ1 := δ') (ifF (notE (b := true) (isiTup (ixE (varE rfl) intE rfl)))) (seqNx (forE (itEE (x := .tup ((List.range K).map fun k => .tup ((R k).map stD))) (δ1 := δ') (ixE (varE rfl) intE rfl) rfl) g1) (seqRt (retE ?_)))))
  · exact evBinE (x := .int 2) (y := .int 2) (δ1 := δ') (lenE (x := runP past K R) (varE rfl) rfl) intE (neI 2 2)
  · rw [evE]
theorem is_run_ok (o : w.Ok) (δ : Dl) {m : Nat} (hm : 18 ≤ m) {past : List (List Int)} (hs : ∀ s ∈ past, StOk w s) (hl : past.length ≤ 10000) {K : Nat} {R : Nat → List (List Int)} (h1 : ∀ k, k < K → LatOk w past.length (R k)) (h2 : ∀ k, k + 1 < K → ∀ j, j < w.n → ∀ i, i < (br (w.rule j)).length → ((R (k + 1)).getD j []).getD i 0 ≤ ((R k).getD j []).getD i 0 + 1) :
    callF m .is_run [netD w, .int past.length, runP past K R] δ = some (.bl true, δ) := by
  obtain ⟨n, rfl⟩ : ∃ n, m = n + 1 := ⟨m - 1, by omega⟩
  have q := fault_ok o δ (m := n) (by omega) hs hl h1 h2
  exact call_rt (by decide) rfl (seqRt (retE (evBinE (x := .non) (y := .non) (δ1 := δ) (callE (evLc (varE rfl) (evLc (varE rfl) (evLc (varE rfl) evLn))) q) (by rw [evE]) rfl)))
end
end NB

set_option Elab.async false
set_option linter.all false
set_option maxRecDepth 100000
set_option maxHeartbeats 2000000
/-! The law: what it asks of the plain run; the rest. -/
namespace NB
section
variable {w : Net} {d f : Nat} {h : List Bt} {sts : List (List Int)}
theorem sames_int : ∀ l : List Int, sames (l.map .int) (l.map .int) = true
  | [] => by simp [sames]
  | x :: l => by simp [sames, same, sames_int l]
theorem same_st (s : List Int) : same (stD s) (stD s) = true := by
  unfold stD
  rw [same]
  exact sames_int s
theorem sames_st : ∀ l : List (List Int), sames (l.map stD) (l.map stD) = true
  | [] => by simp [sames]
  | x :: l => by simp [sames, same_st x, sames_st l]
theorem eqDs_st : ∀ l : List (List Int), eqDs (l.map stD) (l.map stD) = some true
  | [] => by simp [eqDs]
  | x :: l => by
    have e : eqD (stD x) (stD x) = some true := by
      unfold stD
      rw [eqD, ints_eqD, decide_eq_true rfl]
    simp [eqDs, e, eqDs_st l]
theorem ne_sts (l : List (List Int)) : evBin .ne (.lst (l.map stD)) (.lst (l.map stD)) = some (.bl false) := by
  have f1 : fitN 6 (.lst (l.map stD)) = true := by
    show (l.map stD).all (fitN 5) = true
    rw [List.all_eq_true]
    intro x hx
    obtain ⟨s, _, rfl⟩ := List.mem_map.mp hx
    exact fit_ints 4 s
  have e : eqD (.lst (l.map stD)) (.lst (l.map stD)) = some true := by rw [eqD, eqDs_st]
  unfold evBin evEq
  simp only [f1, and_self, if_true, e, Option.map_some]
  rfl
theorem ne_nil : evBin .ne (.lst []) (.lst []) = some (.bl false) := by
  unfold evBin evEq
  simp [fitN, eqD, eqDs]
theorem ne_st {a b : List Int} (e : a = b) : evBin .ne (stD a) (stD b) = some (.bl false) := by
  have := eq_ints a b
  rw [decide_eq_true e] at this
  show (evEq (.tup (a.map .int)) (.tup (b.map .int))).map _ = _
  rw [this]
  rfl
theorem okRep_st (o : w.Ok) {ss : List (List Int)} (hs : ∀ s ∈ ss, StOk w s) (hl : ss.length ≤ 100) : okRep (.tup (ss.map stD)) = true := by
  have small : w.n ≤ 5 := o.small
  show (decide ((ss.map stD).length ≤ 100) && (ss.map stD).all smallT) = true
  rw [List.length_map, decide_eq_true hl, Bool.true_and, List.all_eq_true]
  intro x hx
  obtain ⟨s, hs', rfl⟩ := List.mem_map.mp hx
  have k := hs s hs'
  show (decide ((s.map D.int).length ≤ 100) && (s.map D.int).all smallI) = true
  rw [List.length_map, decide_eq_true (by rw [k.1]; omega), Bool.true_and, List.all_eq_true]
  intro y hy
  obtain ⟨i, hi, rfl⟩ := List.mem_map.mp hy
  obtain ⟨c, hc, rfl⟩ := List.getElem_of_mem hi
  have b := k.2 c (by rw [← k.1]; exact hc)
  have t := o.tpos (j := c) (by rw [← k.1]; exact hc)
  rw [List.getD_eq_getElem?_getD, List.getElem?_eq_getElem hc, Option.getD_some] at b
  show decide (-1000000 < s[c] ∧ s[c] < 1000000) = true
  exact decide_eq_true (by omega)
theorem ne_rep (o : w.Ok) {ss : List (List Int)} : evBin .ne (.rep (.tup (ss.map stD))) (.rep (.tup (ss.map stD))) = some (.bl false) := by
  have e : same (.tup (ss.map stD)) (.tup (ss.map stD)) = true := by rw [same, sames_st]
  show (evEq (.rep (.tup (ss.map stD))) (.rep (.tup (ss.map stD)))).map _ = _
  unfold evEq
  simp only [e, if_true]
  rfl
theorem cutD_drop {ds : List D} {b : Nat} : cutD ds (some (b : Int)) none = ds.drop b := by
  by_cases q : b ≤ ds.length
  · exact cutD_from q
  · unfold cutD
    rw [cutAt_nat, Nat.min_eq_right (by omega)]
    show (ds.drop ds.length).take (ds.length - ds.length) = _
    rw [Nat.sub_self, List.take_zero, List.drop_eq_nil_of_le (by omega)]
/-- the states of a stopped run lie in the ends' rounds -/
theorem stopped_in (o : w.Ok) (S : Stp w d (f + 1) h sts) (d0 : 0 < d) (hf : f ≤ h.length) (k p : Nat) (hp : p < sts.length) (hk : (d + f) * k ≤ p) : In w (itE w k) fun j => (sts.getD p []).getD j 0 := by
  have sl := S.len
  refine plain_in o (D := d + f) (by omega) (s := fun p j => (sts.getD p []).getD j 0) (m := sts.length) (fun p j i => (((prow w h (p - d)).getD j []).getD i 0).toNat) (fun p hp j hj => ?_) (fun p h1 h2 j hj => ?_) k p hp hk
  · by_cases q : p < sts.length
    · have := (st_get S.sok q).2 j hj
      have E := (first_ok o).1
      have z : (firstE w).1.getD j 0 = 0 := by
        show (List.replicate w.n (0 : Int)).getD j 0 = 0
        rw [List.getD_eq_getElem?_getD, List.getElem?_replicate]
        split <;> rfl
      have t : (firstE w).2.getD j 0 = w.top j := rfl
      rw [z, t]
      exact this
    · omega
  · have t : p - d < h.length := by omega
    obtain ⟨n1, n2⟩ := prow_num S t (by omega) hj
    refine ⟨?_, fun i hi => by have := n2 i hi; omega⟩
    have e := prow_shows S d0 t (by omega) hj
    rw [show d + (p - d) = p by omega] at e
    show (sts.getD p []).getD j 0 = _
    rw [e]
    refine want_same fun i hi => ?_
    have nm := n2 i hi
    have l1 : (sts.take p).length = p := by rw [List.length_take]; omega
    unfold heardOf
    rw [l1, getD_take (by omega)]
/-- in a net that rests always all from the told beat on is the rest -/
theorem rest_from (o : w.Ok) (S : Stp w d (f + 1) h sts) (d0 : 0 < d) (hf : f ≤ h.length) {R : Nat} (e : (itE w R).1 = (itE w R).2) {b : Nat} (hb : (b : Int) = f + ((d : Int) + f) * mx2 0 ((R : Int) - 1)) : ∀ s ∈ (sts.drop d).drop b, s = (itE w R).1 := by
  intro s hs
  obtain ⟨i, hi, rfl⟩ := List.getElem_of_mem hs
  rw [List.length_drop, List.length_drop] at hi
  have E := (itE_ok o R).1
  have lt : d + (b + i) < sts.length := by omega
  have ge : (d + f) * R ≤ d + (b + i) := by
    by_cases r0 : R = 0
    · rw [r0, Nat.mul_zero]; omega
    · obtain ⟨r, rfl⟩ : ∃ r, R = r + 1 := ⟨R - 1, by omega⟩
      have e1 : mx2 0 (((r + 1 : Nat) : Int) - 1) = (r : Int) := by unfold mx2; split <;> omega
      rw [e1] at hb
      have e2 : ((d : Int) + f) * (r : Int) = (((d + f) * r : Nat) : Int) := by rw [Int.natCast_mul, Int.natCast_add]
      rw [e2] at hb
      have e3 : (d + f) * (r + 1) = (d + f) * r + (d + f) := Nat.mul_succ _ _
      omega
  have I := stopped_in o S d0 hf R _ lt ge
  have eg : ((sts.drop d).drop b)[i] = sts.getD (d + (b + i)) [] := by
    rw [List.getElem_drop, List.getElem_drop, List.getD_eq_getElem?_getD, List.getElem?_eq_getElem lt, Option.getD_some]
  rw [eg]
  refine st_ext (w := w) (st_get S.sok lt).1 E.l1 fun j hj => ?_
  have := I j hj
  rw [← e] at this
  have this : (itE w R).1.getD j 0 ≤ (sts.getD (d + (b + i)) []).getD j 0 ∧ (sts.getD (d + (b + i)) []).getD j 0 ≤ (itE w R).1.getD j 0 := this
  omega
/-- the plain run passes the program's look -/
theorem plain_run_ok (o : w.Ok) (δ : Dl) {m : Nat} (hm : 18 ≤ m) (S : Stp w d (f + 1) h sts) (d1 : d ≤ 1000) (f1 : f ≤ 1000) (hf : f ≤ h.length) : callF m .is_run [netD w, .int ((d + f : Nat) : Int), plainD w d f h sts] δ = some (.bl true, δ) := by
  have sl := S.len
  have pl : (sts.take (d + f)).length = d + f := by rw [List.length_take]; omega
  have q := is_run_ok o δ hm (past := sts.take (d + f)) (fun s hs => S.sok s (List.mem_of_mem_take hs)) (by omega) (K := h.length - f) (R := fun k => prow w h (f + k)) (fun k hk => ⟨prow_len, fun j hj => by
    rw [pl]
    exact prow_num S (by omega) (by omega) hj⟩) fun k hk j hj i hi => prow_follow S (t := f + k) (by omega) (by omega) hj hi
  rw [pl] at q
  exact q
end
end NB

set_option Elab.async false
set_option linter.all false
set_option maxRecDepth 100000
set_option maxHeartbeats 2000000
/-! The law's body: the draws, the run, the first look. -/
namespace NB
/-- the law's slots -/
def lw (a2 a3 a4 a5 a6 a7 a8 a9 a10 a11 a12 a13 a14 a15 a16 a17 a18 a19 a20 : Sl) : List Sl := [.no, .va .deal, a2, a3, a4, a5, a6, a7, a8, a9, a10, a11, a12, a13, a14, a15, a16, a17, a18, a19, a20]
theorem blE {cf : CF} {b : Bool} {ρ : Env} {δ : Dl} : evE cf (.bl b) ρ δ = some (.bl b, δ) := by rw [evE]
theorem lstE {cf : CF} {es : E} {ρ : Env} {ds : List D} {δ δ1 : Dl} (h1 : evL cf es ρ δ = some (ds, δ1)) (h2 : ds.length ≤ 100000) : evE cf (.lst es) ρ δ = some (.lst ds, δ1) := by
  rw [evE, h1]
  simp only [bd, if_pos h2]
theorem callkE {cf : CF} {f : F} {ks : List Nat} {es : E} {ρ : Env} {ds ds' : List D} {r : Option (D × Dl)} {δ δ1 : Dl} (h1 : evL cf es ρ δ = some (ds, δ1)) (h2 : ks.mapM (fun k => ds[k]?) = some ds') (h3 : cf f ds' δ1 = r) : evE cf (.callk f ks es) ρ δ = r := by
  rw [evE, h1]
  simp only [bd, h2]
  exact h3
theorem unpE {cf : CF} {xs : List Nat} {e : E} {ρ : List Sl} {ds : List D} {δ δ1 : Dl} (h : evE cf e (view false ρ) δ = some (.tup ds, δ1)) (hl : ds.length = xs.length) : exec cf (.unp xs e ⟨false, false⟩) ρ δ = some (.nx (setAll ρ (xs.zip (ds.map .va))), δ1) := by
  rw [exec, evMv h]
  simp only [bd, if_pos hl]
def law1 : S := .par [(3, (.call .l_net (.cons (.var 1) (.cons (.int 5) (.cons (.call .l_of (.cons (.var 1) (.cons (.lst (.cons (.int 2) (.cons (.int 5) .nil))) .nil))) (.cons (.bl false) .nil))))), ⟨false, false⟩), (4, (.bin .add (.int 2) (.call .l_any (.cons (.var 1) (.cons (.int 3) .nil)))), ⟨false, false⟩), (5, (.bin .add (.int 1) (.call .l_any (.cons (.var 1) (.cons (.int 4) .nil)))), ⟨false, false⟩)]
theorem law1_ok (δ : Dl) (a2 a3 a4 a5 a6 a7 a8 a9 a10 a11 a12 a13 a14 a15 a16 a17 a18 a19 a20 : Sl) : ∃ (w : Net) (d f : Nat) (δ' : Dl), w.Ok ∧ 2 ≤ d ∧ d ≤ 4 ∧ f ≤ 3 ∧
    exec (callF 40) law1 (lw a2 a3 a4 a5 a6 a7 a8 a9 a10 a11 a12 a13 a14 a15 a16 a17 a18 a19 a20) δ = some (.nx (lw a2 (.va (netD w)) (.va (.int d)) (.va (.int (f + 1 : Nat))) a6 a7 a8 a9 a10 a11 a12 a13 a14 a15 a16 a17 a18 a19 a20), δ') := by
  obtain ⟨i, hi, δ1, q1⟩ := of_ok 38 δ (l := [.int 2, .int 5]) (by decide) (by decide)
  have ht : ∃ top : Int, [D.int 2, D.int 5][i] = .int top ∧ 0 < top ∧ top ≤ 5 := by
    rcases i with _ | _ | i
    · exact ⟨2, rfl, by omega, by omega⟩
    · exact ⟨5, rfl, by omega, by omega⟩
    · have : i + 1 + 1 < 2 := hi
      omega
  obtain ⟨top, et, t0, t1⟩ := ht
  rw [et] at q1
  obtain ⟨w, δ2, q2, o⟩ := net_ok (top := top) ⟨t0, t1⟩ 40 (by omega) δ1
  obtain ⟨r, δ3, q3, r0, r1⟩ := any_ok 39 δ2 (b := 3) (by omega) (by omega)
  obtain ⟨s, δ4, q4, s0, s1⟩ := any_ok 39 δ3 (b := 4) (by omega) (by omega)
  refine ⟨w, (2 + r).toNat, s.toNat, δ4, o, by omega, by omega, by omega, ?_⟩
  have e1 : (((2 + r).toNat : Nat) : Int) = 2 + r := by omega
  have e2 : ((s.toNat + 1 : Nat) : Int) = 1 + s := by omega
  rw [e1, e2]
  exact parE (parC (evMv (callE (evLc (varE rfl) (evLc intE (evLc (callE (evLc (varE rfl) (evLc (lstE (evLc intE (evLc intE evLn)) (by decide)) evLn)) q1) (evLc blE evLn)))) q2)) (parC (evMv (evBinE intE (callE (evLc (varE rfl) (evLc intE evLn)) q3) rfl)) (parC (evMv (evBinE intE (callE (evLc (varE rfl) (evLc intE evLn)) q4) rfl)) parN)))
def law2 : S := .unp [6, 7] (.call .l_stopped (.cons (.var 1) (.cons (.var 3) (.cons (.var 4) (.cons (.var 5) (.cons (.bin .add (.bin .sub (.var 5) (.int 1)) (.call .l_any (.cons (.var 1) (.cons (.int 12) .nil)))) .nil)))))) ⟨false, false⟩
section
variable {w : Net} {d f : Nat} {h : List Bt} {sts : List (List Int)}
theorem eE (f : Nat) : evBin .sub (.int ((f + 1 : Nat) : Int)) (.int 1) = some (.int (f : Int)) := by
  have e1 : ((f + 1 : Nat) : Int) - 1 = (f : Int) := by omega
  rw [← e1]
  rfl
theorem law2_ok (o : w.Ok) (d0 : 2 ≤ d) (d1 : d ≤ 4) (f1 : f ≤ 3) (δ : Dl) (a2 a6 a7 a8 a9 a10 a11 a12 a13 a14 a15 a16 a17 a18 a19 a20 : Sl) : ∃ (h : List Bt) (sts : List (List Int)) (δ' : Dl), Stp w d (f + 1) h sts ∧ f ≤ h.length ∧ h.length ≤ 20 ∧
    exec (callF 40) law2 (lw a2 (.va (netD w)) (.va (.int d)) (.va (.int (f + 1 : Nat))) a6 a7 a8 a9 a10 a11 a12 a13 a14 a15 a16 a17 a18 a19 a20) δ = some (.nx (lw a2 (.va (netD w)) (.va (.int d)) (.va (.int (f + 1 : Nat))) (.va (runD (sts.take d) h)) (.va (.lst ((sts.drop d).map stD))) a8 a9 a10 a11 a12 a13 a14 a15 a16 a17 a18 a19 a20), δ') := by
  obtain ⟨r, δ1, q1, r0, r1⟩ := any_ok 39 δ (b := 12) (by omega) (by omega)
  obtain ⟨h, sts, δ2, q2, hl, S⟩ := stopped_ok o (m := 40) (by omega) (d := d) (e := f + 1) (B := f + r.toNat) (by omega) (by omega) (by omega) (by omega) δ1
  refine ⟨h, sts, δ2, S, by omega, by omega, ?_⟩
  have e1 : ((f + r.toNat : Nat) : Int) = (f : Int) + r := by omega
  rw [e1] at q2
  exact unpE (callE (evLc (varE rfl) (evLc (varE rfl) (evLc (varE rfl) (evLc (varE rfl) (evLc (evBinE (evBinE (varE rfl) intE (eE f)) (callE (evLc (varE rfl) (evLc intE evLn)) q1) rfl) evLn))))) q2) rfl
def law3 : S := .set 8 (.callk .plain_run [3, 2, 1, 0] (.cons (.var 6) (.cons (.var 5) (.cons (.var 4) (.cons (.var 3) .nil))))) ⟨false, false⟩
def law4 : S := .unp [9, 10] (.var 8) ⟨false, false⟩
def rowsP (w : Net) (f : Nat) (h : List Bt) : D := .tup ((List.range (h.length - f)).map fun k => .tup ((prow w h (f + k)).map stD))
/-- the slots behind the plain run -/
def lp (w : Net) (d f : Nat) (h : List Bt) (sts : List (List Int)) (a2 a11 a12 a13 a14 a15 a16 a17 a18 a19 a20 : Sl) : List Sl := lw a2 (.va (netD w)) (.va (.int d)) (.va (.int (f + 1 : Nat))) (.va (runD (sts.take d) h)) (.va (.lst ((sts.drop d).map stD))) (.va (plainD w d f h sts)) (.va (.tup ((sts.take (d + f)).map stD))) (.va (rowsP w f h)) a11 a12 a13 a14 a15 a16 a17 a18 a19 a20
theorem law34_ok (o : w.Ok) (d0 : 2 ≤ d) (d1 : d ≤ 4) (f1 : f ≤ 3) (S : Stp w d (f + 1) h sts) (hf : f ≤ h.length) (hl : h.length ≤ 20) (δ : Dl) (a2 a8 a9 a10 a11 a12 a13 a14 a15 a16 a17 a18 a19 a20 : Sl) (r : Option (Fl × Dl)) (k : NB.S)
    (hk : exec (callF 40) k (lp w d f h sts a2 a11 a12 a13 a14 a15 a16 a17 a18 a19 a20) δ = r) :
    exec (callF 40) (.seq law3 (.seq law4 k)) (lw a2 (.va (netD w)) (.va (.int d)) (.va (.int (f + 1 : Nat))) (.va (runD (sts.take d) h)) (.va (.lst ((sts.drop d).map stD))) a8 a9 a10 a11 a12 a13 a14 a15 a16 a17 a18 a19 a20) δ = r := by
  have q := plain_ok o δ (m := 40) (by omega) (d := d) (f := f) (by omega) (by omega) (by omega) S (by omega) hf
  refine seqNx (ρ1 := lw a2 (.va (netD w)) (.va (.int d)) (.va (.int (f + 1 : Nat))) (.va (runD (sts.take d) h)) (.va (.lst ((sts.drop d).map stD))) (.va (plainD w d f h sts)) a9 a10 a11 a12 a13 a14 a15 a16 a17 a18 a19 a20) (δ1 := δ) (setE (callkE (evLc (varE rfl) (evLc (varE rfl) (evLc (varE rfl) (evLc (varE rfl) evLn)))) rfl q)) (seqNx (ρ1 := lp w d f h sts a2 a11 a12 a13 a14 a15 a16 a17 a18 a19 a20) (δ1 := δ) (unpE (ds := [.tup ((sts.take (d + f)).map stD), rowsP w f h]) (varE rfl) rfl) hk)
def law5 : S := .ife (.or (.bin .ne (.fn .repr (.cons (.var 9) .nil)) (.fn .repr (.cons (.bin .add (.ix (.var 6) (.int 0)) (.fn .tuple (.cons (.sl (.var 7) .nop (.one (.bin .sub (.var 5) (.int 1)))) .nil))) .nil))) (.or (.bin .ne (.fn .len (.cons (.var 10) .nil)) (.bin .add (.bin .sub (.fn .len (.cons (.ix (.var 6) (.int 1)) .nil)) (.var 5)) (.int 1))) (.one (.bin .isNot (.call .is_run (.cons (.var 3) (.cons (.bin .sub (.bin .add (.var 4) (.var 5)) (.int 1)) (.cons (.var 8) .nil)))) (.bl true))))) (.seq (.ret (.bl false)) .skip) .skip
theorem repE {cf : CF} {e : E} {ρ : Env} {x : D} {δ δ1 : Dl} (h : evE cf e ρ δ = some (x, δ1)) (hx : okRep x = true) : evE cf (.fn .repr (.cons e .nil)) ρ δ = some (.rep x, δ1) := by
  rw [evE, evLc h evLn]
  show (do let r ← evRep [x]; some (r, δ1)) = _
  rw [evRep, if_pos hx]
  rfl
theorem deE (d f : Nat) {cf : CF} {ρ : Env} {a b : Nat} {δ : Dl} (h1 : ρ[a]? = some (some (.int d))) (h2 : ρ[b]? = some (some (.int ((f + 1 : Nat) : Int)))) : evE cf (.bin .sub (.bin .add (.var a) (.var b)) (.int 1)) ρ δ = some (.int ((d + f : Nat) : Int), δ) := by
  have e : (d : Int) + ((f + 1 : Nat) : Int) - 1 = ((d + f : Nat) : Int) := by omega
  rw [← e]
  exact evBinE (evBinE (varE h1) (varE h2) rfl) intE rfl
theorem tupAddE {a b : List D} (h : a.length + b.length ≤ 100000) : evBin .add (.tup a) (.tup b) = some (.tup (a ++ b)) := by
  show evAdd (.tup a) (.tup b) = _
  rw [evAdd, if_pos h]
theorem law5_ok (o : w.Ok) (d0 : 2 ≤ d) (d1 : d ≤ 4) (f1 : f ≤ 3) (S : Stp w d (f + 1) h sts) (hf : f ≤ h.length) (hl : h.length ≤ 20) (δ : Dl) (a2 a11 a12 a13 a14 a15 a16 a17 a18 a19 a20 : Sl) :
    exec (callF 40) law5 (lp w d f h sts a2 a11 a12 a13 a14 a15 a16 a17 a18 a19 a20) δ = some (.nx (lp w d f h sts a2 a11 a12 a13 a14 a15 a16 a17 a18 a19 a20), δ) := by
  have sl := S.len
  have pl : (sts.take (d + f)).length = d + f := by rw [List.length_take]; omega
  have ok1 := okRep_st o (ss := sts.take (d + f)) (fun s hs => S.sok s (List.mem_of_mem_take hs)) (by omega)
  have e2 : (sts.take d).map stD ++ ((sts.drop d).map stD).take f = (sts.take (d + f)).map stD := by
    rw [List.take_add, List.map_append, ← List.map_take]
  have q5 := plain_run_ok o δ (m := 40) (by omega) S (by omega) (by omega) hf
  refine ifF (orF (δ1 := δ) (evBinE (x := .rep (.tup ((sts.take (d + f)).map stD))) (y := .rep (.tup ((sts.take (d + f)).map stD))) (δ1 := δ) (repE (varE rfl) ok1) (repE ?_ ok1) (ne_rep o)) (orF (δ1 := δ) ?_ (oneE (evBinE (x := .bl true) (y := .bl true) (δ1 := δ) (callE (evLc (varE rfl) (evLc (deE d f rfl rfl) (evLc (varE rfl) evLn))) q5) blE rfl))))
  · rw [← e2]
    refine evBinE (x := .tup ((sts.take d).map stD)) (y := .tup (((sts.drop d).map stD).take f)) (δ1 := δ) (ixE (x := runD (sts.take d) h) (varE rfl) intE rfl) (fnTupE (slE (x := .lst ((sts.drop d).map stD)) (l := none) (h := some (f : Int)) (varE rfl) evOn (evOi (evBinE (varE rfl) intE (eE f))) ?_)) (tupAddE ?_)
    · show some (D.lst (cutD ((sts.drop d).map stD) none (some (f : Int)))) = _
      rw [cutD_to]
    · have : ((sts.take d).map stD ++ ((sts.drop d).map stD).take f).length ≤ 100000 := by rw [e2, List.length_map]; omega
      rw [List.length_append] at this
      exact this
  · have q := evBinE (cf := callF 40) (o := .ne) (ρ := view true (lp w d f h sts a2 a11 a12 a13 a14 a15 a16 a17 a18 a19 a20)) (δ := δ) (lenE (e := .var 10) (x := rowsP w f h) (δ1 := δ) (varE rfl) rfl) (evBinE (o := .add) (a := .bin .sub (.fn .len (.cons (.ix (.var 6) (.int 1)) .nil)) (.var 5)) (b := .int 1) (evBinE (o := .sub) (lenE (x := .tup (rowsD h)) (ixE (x := runD (sts.take d) h) (varE (i := 6) rfl) intE rfl) rfl) (varE (i := 5) (d := .int ((f + 1 : Nat) : Int)) rfl) rfl) intE rfl) (neI _ _)
    rw [List.length_map, List.length_range] at q
    have hr : (rowsD h).length = h.length := List.length_map _
    rw [hr, decide_eq_true (by omega)] at q
    exact q
end
end NB

set_option Elab.async false
set_option linter.all false
set_option maxRecDepth 100000
set_option maxHeartbeats 2000000
/-! The law's body: its own look at the plain run. -/
namespace NB
section
variable {w : Net} {d f : Nat} {h : List Bt} {sts : List (List Int)}
theorem compGo_none {α : Type} {tst : Env → Dl → Option (Bool × Dl)} {elt : Env → Dl → Option (D × Dl)} {tg : Tg} {ρ : Env} {a : α → D} : ∀ {l : List α} {δ : Dl}, (∀ x ∈ l, ∃ ρ1, asg tg ρ (a x) = some ρ1 ∧ tst ρ1 δ = some (false, δ)) → compGo tst elt tg ρ (l.map a) δ = some ([], δ)
  | [], δ, _ => rfl
  | x :: l, δ, h => by
    obtain ⟨ρ1, h1, h2⟩ := h x List.mem_cons_self
    have ih := compGo_none (elt := elt) (l := l) (δ := δ) fun y hy => h y (List.mem_cons_of_mem _ hy)
    rw [List.map_cons, compGo, h1]
    simp only [bd, h2, ih]
    rw [if_neg (by decide)]
theorem chainE {cf : CF} {a b c : E} {ρ : Env} {i j k : Int} {δ δ1 δ2 δ3 : Dl} (h1 : evE cf a ρ δ = some (.int i, δ1)) (h2 : evE cf b ρ δ1 = some (.int j, δ2)) (hij : i ≤ j) (h3 : evE cf c ρ δ2 = some (.int k, δ3)) : evE cf (.chain a b c) ρ δ = some (.bl (decide (j ≤ k)), δ3) := by
  rw [evE, h1]
  simp only [bd, h2, intOf, if_pos hij, h3]
theorem nilE {cf : CF} {ρ : Env} {δ : Dl} : evE cf (.lst .nil) ρ δ = some (.lst [], δ) := lstE evLn (by decide)
/-- the slots in the look's loops -/
def lq (w : Net) (d f : Nat) (h : List Bt) (sts : List (List Int)) (a2 a11 a12 a13 a14 a15 a16 a17 a18 a19 a20 : Sl) : List Sl := lp w d f h sts a2 a11 a12 a13 a14 a15 a16 a17 a18 a19 a20
def look1 : NB.S := .ife (.or (.bin .ne (.lc [16] (.one 16) (.itS (.var 15)) (.one (.not (.chain (.int 1) (.var 16) (.bin .sub (.bin .add (.var 4) (.var 5)) (.int 1))))) (.var 16)) (.lst .nil)) (.one (.bin .ne (.fn .len (.cons (.var 15) .nil)) (.fn .len (.cons (.call .l_branches (.cons (.ix (.ix (.var 3) (.int 1)) (.var 14)) .nil)) .nil))))) (.seq (.ret (.bl false)) .skip) .skip
def look2 : NB.S := .ife (.and (.bin .gt (.var 12) (.int 0)) (.one (.bin .ne (.lc [17] (.one 17) (.itR1 (.fn .len (.cons (.var 15) .nil))) (.one (.bin .gt (.ix (.var 15) (.var 17)) (.bin .add (.ix (.ix (.ix (.var 10) (.bin .sub (.var 12) (.int 1))) (.var 14)) (.var 17)) (.int 1)))) (.var 17)) (.lst .nil)))) (.seq (.ret (.bl false)) .skip) .skip
theorem look1_ok (o : w.Ok) {j : Nat} (hj : j < w.n) {num : List Int} (hl : num.length = (br (w.rule j)).length) (hn : ∀ i, i < (br (w.rule j)).length → 1 ≤ num.getD i 0 ∧ num.getD i 0 ≤ ((d + f : Nat) : Int)) (δ : Dl) (a2 a6 a7 a8 a9 a10 a11 a12 a13 a16 a17 a18 a19 a20 : Sl) :
    exec (callF 40) look1 (lw a2 (.va (netD w)) (.va (.int d)) (.va (.int (f + 1 : Nat))) a6 a7 a8 a9 a10 a11 a12 a13 (.va (.int (j : Nat))) (.va (stD num)) a16 a17 a18 a19 a20) δ = some (.nx (lw a2 (.va (netD w)) (.va (.int d)) (.va (.int (f + 1 : Nat))) a6 a7 a8 a9 a10 a11 a12 a13 (.va (.int (j : Nat))) (.va (stD num)) a16 a17 a18 a19 a20), δ) := by
  obtain ⟨r1, r2, r3⟩ := o.rk hj
  have qb := l_branches_ok δ 40 (w.rule j) r1 (by omega) (by omega)
  refine ifF (orF (δ1 := δ) (evBinE (x := .lst []) (y := .lst []) (δ1 := δ) (lcE (xs := num.map .int) (δ1 := δ) (itSE (x := stD num) (varE rfl) rfl) (by rw [List.length_map]; omega) (compGo_none fun x hx => ⟨_, rfl, tstE ?_⟩)) nilE ne_nil) (oneE ?_))
  · obtain ⟨i, hi, rfl⟩ := List.getElem_of_mem hx
    have b := hn i (by omega)
    rw [List.getD_eq_getElem?_getD, List.getElem?_eq_getElem hi, Option.getD_some] at b
    refine notE (b := true) ?_
    have c := chainE (cf := callF 40) (a := .int 1) (b := .var 16) (c := .bin .sub (.bin .add (.var 4) (.var 5)) (.int 1)) (ρ := (wipeE (view true (lw a2 (.va (netD w)) (.va (.int d)) (.va (.int (f + 1 : Nat))) a6 a7 a8 a9 a10 a11 a12 a13 (.va (.int (j : Nat))) (.va (stD num)) a16 a17 a18 a19 a20)) [16]).set 16 (some (.int num[i]))) (δ := δ) intE (varE rfl) b.1 (deE d f rfl rfl)
    rw [decide_eq_true b.2] at c
    exact c
  · have q := evBinE (cf := callF 40) (o := .ne) (ρ := view true (lw a2 (.va (netD w)) (.va (.int d)) (.va (.int (f + 1 : Nat))) a6 a7 a8 a9 a10 a11 a12 a13 (.va (.int (j : Nat))) (.va (stD num)) a16 a17 a18 a19 a20)) (δ := δ) (lenE (e := .var 15) (x := stD num) (xs := num.map .int) (δ1 := δ) (varE rfl) rfl) (lenE (x := .lst (brD (w.rule j))) (xs := brD (w.rule j)) (callE (evLc (ruleE (a := 3) (b := 14) o hj rfl rfl) evLn) qb) rfl) (neI _ _)
    rw [List.length_map, brD_len, hl, decide_eq_true rfl] at q
    exact q
theorem look2_ok (o : w.Ok) (S : Stp w d (f + 1) h sts) {k j : Nat} (hk : f + k < h.length) (hj : j < w.n) (δ : Dl) (a2 a3 a4 a5 a6 a7 a8 a9 a11 a13 a16 a17 a18 a19 a20 : Sl) :
    exec (callF 40) look2 (lw a2 a3 a4 a5 a6 a7 a8 a9 (.va (rowsP w f h)) a11 (.va (.int (k : Nat))) a13 (.va (.int (j : Nat))) (.va (stD ((prow w h (f + k)).getD j []))) a16 a17 a18 a19 a20) δ = some (.nx (lw a2 a3 a4 a5 a6 a7 a8 a9 (.va (rowsP w f h)) a11 (.va (.int (k : Nat))) a13 (.va (.int (j : Nat))) (.va (stD ((prow w h (f + k)).getD j []))) a16 a17 a18 a19 a20), δ) := by
  have c : evE (callF 40) (.bin .gt (.var 12) (.int 0)) (view true (lw a2 a3 a4 a5 a6 a7 a8 a9 (.va (rowsP w f h)) a11 (.va (.int (k : Nat))) a13 (.va (.int (j : Nat))) (.va (stD ((prow w h (f + k)).getD j []))) a16 a17 a18 a19 a20)) δ = some (.bl (decide ((0 : Int) < (k : Int))), δ) := evBinE (varE rfl) intE rfl
  refine ifF ?_
  by_cases k0 : k = 0
  · rw [decide_eq_false (by omega)] at c
    exact andF c
  · rw [decide_eq_true (by omega)] at c
    obtain ⟨p, rfl⟩ : ∃ p, k = p + 1 := ⟨k - 1, by omega⟩
    obtain ⟨n1, n2⟩ := prow_num S (t := f + (p + 1)) hk (by omega) hj
    obtain ⟨m1, m2⟩ := prow_num S (t := f + p) (by omega) (by omega) hj
    have fo : ∀ i, i < (br (w.rule j)).length → ((prow w h (f + (p + 1))).getD j []).getD i 0 ≤ ((prow w h (f + p)).getD j []).getD i 0 + 1 := fun i hi => prow_follow S (t := f + p) (by omega) (by omega) hj hi
    have wb := (o.rk hj).2.2
    have pj : j < (prow w h (f + p)).length := by rw [prow_len]; exact hj
    generalize (prow w h (f + (p + 1))).getD j [] = num at n1 n2 fo c ⊢
    generalize en : (prow w h (f + p)).getD j [] = old at m1 m2 fo
    refine andT c (oneE (evBinE (x := .lst []) (y := .lst []) (δ1 := δ) (lcE (xs := (List.range num.length).map fun (i : Nat) => D.int (0 + (i : Int))) (δ1 := δ) ?_ (by rw [List.length_map, List.length_range]; omega) (compGo_none fun i hi => ⟨_, rfl, tstE ?_⟩)) nilE ne_nil))
    · have z := itR1E (cf := callF 40) (x := (num.length : Int)) (by omega) (by omega) (δ := δ) (a := .fn .len (.cons (.var 15) .nil)) (ρ := view true (lw a2 a3 a4 a5 a6 a7 a8 a9 (.va (rowsP w f h)) a11 (.va (.int ((p + 1 : Nat) : Int))) a13 (.va (.int (j : Nat))) (.va (stD num)) a16 a17 a18 a19 a20)) (by
        have := lenE (cf := callF 40) (e := .var 15) (ρ := view true (lw a2 a3 a4 a5 a6 a7 a8 a9 (.va (rowsP w f h)) a11 (.va (.int ((p + 1 : Nat) : Int))) a13 (.va (.int (j : Nat))) (.va (stD num)) a16 a17 a18 a19 a20)) (x := stD num) (xs := num.map .int) (δ := δ) (δ1 := δ) (varE rfl) rfl
        rw [List.length_map] at this
        exact this)
      rw [show ((num.length : Nat) : Int).toNat = num.length by omega] at z
      exact z
    · have hi := List.mem_range.mp hi
      have e0 : (0 : Int) + (i : Int) = (i : Int) := by omega
      rw [e0]
      have b := fo i (by omega)
      have r1 : evBin .sub (.int ((p + 1 : Nat) : Int)) (.int 1) = some (.int (p : Int)) := eE p
      have i1 : evIx (rowsP w f h) (.int (p : Int)) = some (.tup ((prow w h (f + p)).map stD)) := atD_rng (K := h.length - f) (k := p) (g := fun k => D.tup ((prow w h (f + k)).map stD)) (by omega)
      have i2 : evIx (.tup ((prow w h (f + p)).map stD)) (.int (j : Int)) = some (stD old) := by
        have := atD_st (sts := prow w h (f + p)) pj
        rw [en] at this
        exact this
      have i3 : evIx (stD old) (.int (i : Int)) = some (.int (old.getD i 0)) := atD_getS (by omega)
      have i4 : evIx (stD num) (.int (i : Int)) = some (.int (num.getD i 0)) := atD_getS (by omega)
      refine evBinE (x := .int (num.getD i 0)) (y := .int (old.getD i 0 + 1)) (δ1 := δ) (ixE (x := stD num) (varE rfl) (varE rfl) i4) (evBinE (x := .int (old.getD i 0)) (y := .int 1) (δ1 := δ) (ixE (ixE (ixE (varE rfl) (evBinE (varE rfl) intE r1) i1) (varE rfl) i2) (varE rfl) i3) intE rfl) ?_
      show some (D.bl (decide (old.getD i 0 + 1 < num.getD i 0))) = _
      rw [decide_eq_false (by omega)]
end
end NB

set_option Elab.async false
set_option linter.all false
set_option maxRecDepth 100000
set_option maxHeartbeats 2000000
/-! The law's body: the loops of its look. -/
namespace NB
section
variable {w : Net} {d f : Nat} {h : List Bt} {sts : List (List Int)}
def houseL : NB.S := .for (.many [14, 15]) (.itE (.var 13)) (.seq look1 (.seq look2 .skip))
theorem houseL_ok (o : w.Ok) (S : Stp w d (f + 1) h sts) {k : Nat} (hk : f + k < h.length) (δ : Dl) (a2 a11 a14 a15 a16 a17 a18 a19 a20 : Sl) :
    ∃ b14 b15, exec (callF 40) houseL (lp w d f h sts a2 a11 (.va (.int (k : Nat))) (.va (.tup ((prow w h (f + k)).map stD))) a14 a15 a16 a17 a18 a19 a20) δ = some (.nx (lp w d f h sts a2 a11 (.va (.int (k : Nat))) (.va (.tup ((prow w h (f + k)).map stD))) b14 b15 a16 a17 a18 a19 a20), δ) := by
  obtain ⟨ρ', h1, b14, b15, h2⟩ := forGo_inv (body := fun r d => exec (callF 40) (.seq look1 (.seq look2 .skip)) r d) (tg := .many [14, 15]) (δ := δ) (fun ρ => ∃ a14 a15, ρ = lp w d f h sts a2 a11 (.va (.int (k : Nat))) (.va (.tup ((prow w h (f + k)).map stD))) a14 a15 a16 a17 a18 a19 a20) (xs := enumD 0 ((prow w h (f + k)).map stD)) (ρ := lp w d f h sts a2 a11 (.va (.int (k : Nat))) (.va (.tup ((prow w h (f + k)).map stD))) a14 a15 a16 a17 a18 a19 a20) ⟨_, _, rfl⟩ (by
    rintro x hx ρ ⟨a14, a15, rfl⟩
    rw [enum_is stD [] (prow w h (f + k)), prow_len] at hx
    obtain ⟨j, hj, rfl⟩ := List.mem_map.mp hx
    have hj := List.mem_range.mp hj
    obtain ⟨n1, n2⟩ := prow_num S (t := f + k) hk (by omega) hj
    refine ⟨_, lp w d f h sts a2 a11 (.va (.int (k : Nat))) (.va (.tup ((prow w h (f + k)).map stD))) (.va (.int (j : Nat))) (.va (stD ((prow w h (f + k)).getD j []))) a16 a17 a18 a19 a20, rfl, seqNx (look1_ok o hj n1 n2 δ _ _ _ _ _ _ _ _ _ _ _ _ _ _) (seqNx (look2_ok o S hk hj δ _ _ _ _ _ _ _ _ _ _ _ _ _ _ _) rfl), _, _, rfl⟩)
  subst h2
  exact ⟨b14, b15, forE (itEE (x := .tup ((prow w h (f + k)).map stD)) (δ1 := δ) (varE rfl) rfl) h1⟩
def addB : NB.S := .app 11 (.fn .tuple (.cons (.lc [14] (.one 14) (.itR1 (.fn .len (.cons (.ix (.var 3) (.int 0)) .nil))) .nop (.call .l_hears (.cons (.var 3) (.cons (.var 11) (.cons (.var 14) (.cons (.ix (.var 13) (.var 14)) .nil)))))) .nil)) ⟨true, false⟩
theorem addB_ok (o : w.Ok) (d0 : 2 ≤ d) (S : Stp w d (f + 1) h sts) (hl : sts.length ≤ 1000) {k : Nat} (hk : f + k < h.length) (δ : Dl) (a2 a14 a15 a16 a17 a18 a19 a20 : Sl) :
    exec (callF 40) addB (lp w d f h sts a2 (.ow ((sts.take (d + (f + k))).map stD)) (.va (.int (k : Nat))) (.va (.tup ((prow w h (f + k)).map stD))) a14 a15 a16 a17 a18 a19 a20) δ = some (.nx (lp w d f h sts a2 (.ow ((sts.take (d + (f + k) + 1)).map stD)) (.va (.int (k : Nat))) (.va (.tup ((prow w h (f + k)).map stD))) a14 a15 a16 a17 a18 a19 a20), δ) := by
  have sl := S.len
  have tl : (sts.take (d + (f + k))).length = d + (f + k) := by rw [List.length_take]; omega
  have es : (sts.getD (d + (f + k)) []) = (List.range w.n).map fun j => w.want j (heardOf w j (sts.take (d + (f + k))) ((prow w h (f + k)).getD j [])) := by
    refine st_ext (w := w) (st_get S.sok (by omega)).1 (by simp) fun j hj => ?_
    rw [getD_map hj]
    exact prow_shows S (by omega) hk (by omega) hj
  have q : evE (callF 40) (.fn .tuple (.cons (.lc [14] (.one 14) (.itR1 (.fn .len (.cons (.ix (.var 3) (.int 0)) .nil))) .nop (.call .l_hears (.cons (.var 3) (.cons (.var 11) (.cons (.var 14) (.cons (.ix (.var 13) (.var 14)) .nil)))))) .nil)) (view true (lp w d f h sts a2 (.ow ((sts.take (d + (f + k))).map stD)) (.va (.int (k : Nat))) (.va (.tup ((prow w h (f + k)).map stD))) a14 a15 a16 a17 a18 a19 a20)) δ = some (stD (sts.getD (d + (f + k)) []), δ) := by
    rw [es]
    unfold stD
    rw [List.map_map]
    refine fnTupE (lcE (rangeN o rfl) (lenN o) (compGo_to fun j hj => ?_))
    have hj := List.mem_range.mp hj
    have e0 : (0 : Int) + (j : Int) = (j : Int) := by omega
    obtain ⟨n1, n2⟩ := prow_num S (t := f + k) hk (by omega) hj
    have i2 : evIx (.tup ((prow w h (f + k)).map stD)) (.int (j : Int)) = some (stD ((prow w h (f + k)).getD j [])) := atD_st (by rw [prow_len]; exact hj)
    have hh := hears_ok o δ (m := 40) hj (by omega) (sts := sts.take (d + (f + k))) (fun s hs => S.sok s (List.mem_of_mem_take hs)) n1 (fun x hx => by
      obtain ⟨i, hi, rfl⟩ := List.getElem_of_mem hx
      have b := n2 i (by omega)
      rw [List.getD_eq_getElem?_getD, List.getElem?_eq_getElem hi, Option.getD_some] at b
      rw [tl]
      omega) (row := stD ((prow w h (f + k)).getD j [])) rfl
    refine ⟨_, rfl, rfl, ?_⟩
    rw [e0]
    exact callE (evLc (varE rfl) (evLc (varE rfl) (evLc (varE rfl) (evLc (ixE (varE rfl) (varE rfl) i2) evLn)))) hh
  have z := appF (cf := callF 40) (x := 11) (ds := (sts.take (d + (f + k))).map stD) q (flat_st _) rfl (by rw [List.length_map]; omega)
  have e1 : (sts.take (d + (f + k) + 1)).map stD = (sts.take (d + (f + k))).map stD ++ [stD (sts.getD (d + (f + k)) [])] := by
    rw [take_get (x := sts.getD (d + (f + k)) []) (d := []) (by omega) rfl, List.map_append, List.map_singleton]
  rw [e1]
  exact z
def rowL : NB.S := .for (.many [12, 13]) (.itE (.var 10)) (.seq houseL (.seq addB .skip))
theorem rowL_ok (o : w.Ok) (d0 : 2 ≤ d) (S : Stp w d (f + 1) h sts) (hl : sts.length ≤ 1000) (hf : f ≤ h.length) (δ : Dl) (a2 a12 a13 a14 a15 a16 a17 a18 a19 a20 : Sl) :
    ∃ b12 b13 b14 b15, exec (callF 40) rowL (lp w d f h sts a2 (.ow ((sts.take (d + f)).map stD)) a12 a13 a14 a15 a16 a17 a18 a19 a20) δ = some (.nx (lp w d f h sts a2 (.ow (sts.map stD)) b12 b13 b14 b15 a16 a17 a18 a19 a20), δ) := by
  have en : enumD 0 ((List.range (h.length - f)).map fun k => D.tup ((prow w h (f + k)).map stD)) = (List.range (h.length - f)).map fun k => .tup [.int (k : Nat), .tup ((prow w h (f + k)).map stD)] := by
    have := enum_is (fun k : Nat => D.tup ((prow w h (f + k)).map stD)) 0 (List.range (h.length - f))
    rw [this, List.length_range]
    refine List.map_congr_left fun k hk => ?_
    have hk := List.mem_range.mp hk
    rw [List.getD_eq_getElem?_getD, List.getElem?_range hk]
    rfl
  have sl := S.len
  obtain ⟨ρ', δ', g1, b12, b13, b14, b15, g2, g3⟩ := forGo_ix (body := fun r d => exec (callF 40) (.seq houseL (.seq addB .skip)) r d) (tg := .many [12, 13]) (fun k ρ δ2 => ∃ a12 a13 a14 a15, ρ = lp w d f h sts a2 (.ow ((sts.take (d + (f + k))).map stD)) a12 a13 a14 a15 a16 a17 a18 a19 a20 ∧ δ2 = δ) (xs := enumD 0 ((List.range (h.length - f)).map fun k => D.tup ((prow w h (f + k)).map stD))) (k := 0) (ρ := lp w d f h sts a2 (.ow ((sts.take (d + (f + 0))).map stD)) a12 a13 a14 a15 a16 a17 a18 a19 a20) (δ := δ) ⟨_, _, _, _, rfl, rfl⟩ (by
    rintro k x ρ δ2 hx ⟨a12, a13, a14, a15, rfl, rfl⟩
    rw [Nat.zero_add]
    rw [en] at hx
    obtain ⟨hk, rfl⟩ := mr_get hx
    obtain ⟨b14, b15, q1⟩ := houseL_ok o S (k := k) (by omega) δ2 a2 (.ow ((sts.take (d + (f + k))).map stD)) a14 a15 a16 a17 a18 a19 a20
    have q2 := addB_ok o d0 S hl (k := k) (by omega) δ2 a2 b14 b15 a16 a17 a18 a19 a20
    exact ⟨_, _, δ2, rfl, seqNx q1 (seqNx q2 rfl), _, _, _, _, rfl, rfl⟩)
  rw [en, Nat.zero_add, List.length_map, List.length_range] at g2
  subst g2 g3
  have e1 : sts.take (d + (f + (h.length - f))) = sts := List.take_of_length_le (by omega)
  rw [e1] at g1
  exact ⟨b12, b13, b14, b15, forE (itEE (x := rowsP w f h) (δ1 := δ') (varE rfl) rfl) g1⟩
def law6 : NB.S := .set 11 (.fn .list (.cons (.var 9) .nil)) ⟨false, true⟩
theorem law6_ok (δ : Dl) (a2 a11 a12 a13 a14 a15 a16 a17 a18 a19 a20 : Sl) : exec (callF 40) law6 (lp w d f h sts a2 a11 a12 a13 a14 a15 a16 a17 a18 a19 a20) δ = some (.nx (lp w d f h sts a2 (.ow ((sts.take (d + f)).map stD)) a12 a13 a14 a15 a16 a17 a18 a19 a20), δ) := by
  have q := evMo (cf := callF 40) (e := .fn .list (.cons (.var 9) .nil)) (b := false) (ρ := lp w d f h sts a2 a11 a12 a13 a14 a15 a16 a17 a18 a19 a20) (ds := (sts.take (d + f)).map stD) (δ := δ) (δ1 := δ) (by
    rw [evE, evLc (x := .tup ((sts.take (d + f)).map stD)) (varE rfl) evLn]
    rfl) rfl (flats_st _)
  show exec (callF 40) (.set 11 (.fn .list (.cons (.var 9) .nil)) ⟨false, true⟩) _ δ = _
  rw [exec, q]
  rfl
def law8 : NB.S := .ife (.bin .ne (.sl (.var 11) (.one (.fn .len (.cons (.var 9) .nil))) .nop) (.sl (.var 7) (.one (.bin .sub (.var 5) (.int 1))) .nop)) (.seq (.ret (.bl false)) .skip) .skip
theorem law8_ok (S : Stp w d (f + 1) h sts) (hf : f ≤ h.length) (δ : Dl) (a2 a12 a13 a14 a15 a16 a17 a18 a19 a20 : Sl) : exec (callF 40) law8 (lp w d f h sts a2 (.ow (sts.map stD)) a12 a13 a14 a15 a16 a17 a18 a19 a20) δ = some (.nx (lp w d f h sts a2 (.ow (sts.map stD)) a12 a13 a14 a15 a16 a17 a18 a19 a20), δ) := by
  have sl := S.len
  have pl : (sts.take (d + f)).length = d + f := by rw [List.length_take]; omega
  refine ifF (evBinE (x := .lst ((sts.drop (d + f)).map stD)) (y := .lst ((sts.drop (d + f)).map stD)) (δ1 := δ) (slE (x := .lst (sts.map stD)) (l := some ((d + f : Nat) : Int)) (h := none) (varE rfl) (evOi ?_) evOn ?_) (slE (x := .lst ((sts.drop d).map stD)) (l := some (f : Int)) (h := none) (varE rfl) (evOi (evBinE (varE rfl) intE (eE f))) evOn ?_) (ne_sts _))
  · have := lenE (cf := callF 40) (e := .var 9) (ρ := view true (lp w d f h sts a2 (.ow (sts.map stD)) a12 a13 a14 a15 a16 a17 a18 a19 a20)) (x := .tup ((sts.take (d + f)).map stD)) (xs := (sts.take (d + f)).map stD) (δ := δ) (δ1 := δ) (varE rfl) rfl
    rw [List.length_map, pl] at this
    exact this
  · show some (D.lst (cutD (sts.map stD) (some ((d + f : Nat) : Int)) none)) = _
    rw [cutD_drop, ← List.map_drop]
  · show some (D.lst (cutD ((sts.drop d).map stD) (some (f : Int)) none)) = _
    rw [cutD_drop, ← List.map_drop, List.drop_drop]
def law9a : NB.S := .par [(18, (.callk .settled_with [3, 2, 1, 0] (.cons (.int 0) (.cons (.var 5) (.cons (.var 4) (.cons (.var 3) .nil))))), ⟨false, false⟩), (19, (.call .the_rest (.cons (.var 3) .nil)), ⟨false, false⟩)]
def law9b : NB.S := .ife (.bin .ne (.lc [20] (.one 20) (.itS (.sl (.var 7) (.one (.var 18)) .nop)) (.one (.bin .ne (.var 20) (.var 19))) (.var 20)) (.lst .nil)) (.seq (.ret (.bl false)) .skip) .skip
def law9 : NB.S := .ife (.call .rests_always (.cons (.var 3) .nil)) (.seq law9a (.seq law9b .skip)) .skip
theorem law9_ok (o : w.Ok) (d0 : 2 ≤ d) (d1 : d ≤ 4) (f1 : f ≤ 3) (S : Stp w d (f + 1) h sts) (hl : sts.length ≤ 1000) (hf : f ≤ h.length) (δ : Dl) (a2 a11 a12 a13 a14 a15 a16 a17 a18 a19 a20 : Sl) : ∃ b18 b19, exec (callF 40) law9 (lp w d f h sts a2 a11 a12 a13 a14 a15 a16 a17 a18 a19 a20) δ = some (.nx (lp w d f h sts a2 a11 a12 a13 a14 a15 a16 a17 b18 b19 a20), δ) := by
  obtain ⟨R, r1, r2, r3⟩ := rounds o
  have L : Last w R := ⟨r1, r2, r3⟩
  have q1 := rests_ok o δ (m := 40) (by omega) L
  have c : evE (callF 40) (.call .rests_always (.cons (.var 3) .nil)) (view true (lp w d f h sts a2 a11 a12 a13 a14 a15 a16 a17 a18 a19 a20)) δ = some (.bl (decide ((itE w R).1 = (itE w R).2)), δ) := callE (evLc (varE rfl) evLn) q1
  by_cases e : (itE w R).1 = (itE w R).2
  · rw [decide_eq_true e] at c
    have q2 := settled_with_ok o δ (m := 40) (by omega) L e (d := d) (e := ((f + 1 : Nat) : Int)) (by omega) (by omega) (by omega) (by omega)
    have q3 := the_rest_ok o δ (m := 40) (by omega) L e
    have m0 : 0 ≤ mx2 0 ((R : Int) - 1) := (mx2_is 0 ((R : Int) - 1)).1
    have nn : 0 ≤ ((d : Int) + f) * mx2 0 ((R : Int) - 1) := Int.mul_nonneg (by omega) m0
    obtain ⟨b, hb⟩ : ∃ b : Nat, (b : Int) = f + ((d : Int) + f) * mx2 0 ((R : Int) - 1) := ⟨((f : Int) + ((d : Int) + f) * mx2 0 ((R : Int) - 1)).toNat, by omega⟩
    have e1 : ((f + 1 : Nat) : Int) - 1 + ((d : Int) + ((f + 1 : Nat) : Int) + 0 - 1) * mx2 0 ((R : Int) - 1) = (b : Int) := by
      rw [show (d : Int) + ((f + 1 : Nat) : Int) + 0 - 1 = (d : Int) + f by omega, hb]
      omega
    rw [e1] at q2
    have rest := rest_from o S (by omega) hf e hb
    refine ⟨.va (.int (b : Nat)), .va (stD (itE w R).1), ifT c (seqNx (ρ1 := lp w d f h sts a2 a11 a12 a13 a14 a15 a16 a17 (.va (.int (b : Nat))) (.va (stD (itE w R).1)) a20) (δ1 := δ) ?_ (seqNx (ifF ?_) rfl))⟩
    · exact parE (parC (evMv (callkE (evLc intE (evLc (varE rfl) (evLc (varE rfl) (evLc (varE rfl) evLn)))) rfl q2)) (parC (evMv (callE (evLc (varE rfl) evLn) q3)) parN))
    · refine evBinE (x := .lst []) (y := .lst []) (δ1 := δ) (lcE (xs := ((sts.drop d).drop b).map stD) (δ1 := δ) (itSE (x := .lst (((sts.drop d).drop b).map stD)) (slE (x := .lst ((sts.drop d).map stD)) (l := some (b : Int)) (h := none) (varE rfl) (evOi (varE rfl)) evOn ?_) rfl) (by rw [List.length_map, List.length_drop, List.length_drop]; omega) (compGo_none fun s hs => ⟨_, rfl, tstE (evBinE (varE rfl) (varE rfl) (ne_st (rest s hs)))⟩)) nilE ne_nil
      show some (D.lst (cutD ((sts.drop d).map stD) (some (b : Int)) none)) = _
      rw [cutD_drop, ← List.map_drop]
  · rw [decide_eq_false e] at c
    exact ⟨_, _, ifF c⟩
end
end NB

set_option Elab.async false
set_option linter.all false
set_option maxRecDepth 100000
set_option maxHeartbeats 2000000
/-! The law's body answers True. -/
namespace NB
def lturnB : NB.S := .seq law1 (.seq law2 (.seq law3 (.seq law4 (.seq law5 (.seq law6 (.seq rowL (.seq law8 (.seq law9 .skip))))))))
theorem lturn_ok (δ : Dl) (a2 a3 a4 a5 a6 a7 a8 a9 a10 a11 a12 a13 a14 a15 a16 a17 a18 a19 a20 : Sl) : ∃ b3 b4 b5 b6 b7 b8 b9 b10 b11 b12 b13 b14 b15 b16 b17 b18 b19 b20 δ', exec (callF 40) lturnB (lw a2 a3 a4 a5 a6 a7 a8 a9 a10 a11 a12 a13 a14 a15 a16 a17 a18 a19 a20) δ = some (.nx (lw a2 b3 b4 b5 b6 b7 b8 b9 b10 b11 b12 b13 b14 b15 b16 b17 b18 b19 b20), δ') := by
  obtain ⟨w, d, f, δ1, o, d0, d1, f1, q1⟩ := law1_ok δ a2 a3 a4 a5 a6 a7 a8 a9 a10 a11 a12 a13 a14 a15 a16 a17 a18 a19 a20
  obtain ⟨h, sts, δ2, S, hf, hl, q2⟩ := law2_ok o d0 d1 f1 δ1 a2 a6 a7 a8 a9 a10 a11 a12 a13 a14 a15 a16 a17 a18 a19 a20
  have sl := S.len
  have q5 := law5_ok o d0 d1 f1 S hf hl δ2 a2 a11 a12 a13 a14 a15 a16 a17 a18 a19 a20
  have q6 := law6_ok (w := w) (d := d) (f := f) (h := h) (sts := sts) δ2 a2 a11 a12 a13 a14 a15 a16 a17 a18 a19 a20
  obtain ⟨b12, b13, b14, b15, q7⟩ := rowL_ok o d0 S (by omega) hf δ2 a2 a12 a13 a14 a15 a16 a17 a18 a19 a20
  have q8 := law8_ok S hf δ2 a2 b12 b13 b14 b15 a16 a17 a18 a19 a20
  obtain ⟨b18, b19, q9⟩ := law9_ok o d0 d1 f1 S (by omega) hf δ2 a2 (.ow (sts.map stD)) b12 b13 b14 b15 a16 a17 a18 a19 a20
  exact ⟨_, _, _, _, _, _, _, _, _, _, _, _, _, _, _, _, _, _, δ2, seqNx q1 (seqNx q2 (law34_ok o d0 d1 f1 S hf hl δ2 _ _ _ _ _ _ _ _ _ _ _ _ _ _ _ _ (seqNx q5 (seqNx q6 (seqNx q7 (seqNx q8 (seqNx q9 rfl)))))))⟩
theorem law_pure (δ : Dl) : ∃ δ', exec (callF 40) b_law (lw .no .no .no .no .no .no .no .no .no .no .no .no .no .no .no .no .no .no .no) δ = some (.rt (.bl true), δ') := by
  obtain ⟨ρ', δ', h1, b2, b3, b4, b5, b6, b7, b8, b9, b10, b11, b12, b13, b14, b15, b16, b17, b18, b19, b20, h2⟩ := forGo_ix (body := fun r d => exec (callF 40) lturnB r d) (tg := .one 2) (fun _ ρ _ => ∃ b2 b3 b4 b5 b6 b7 b8 b9 b10 b11 b12 b13 b14 b15 b16 b17 b18 b19 b20, ρ = lw b2 b3 b4 b5 b6 b7 b8 b9 b10 b11 b12 b13 b14 b15 b16 b17 b18 b19 b20) (xs := (List.range 2).map fun (k : Nat) => D.int (0 + (k : Int))) (k := 0) (ρ := lw .no .no .no .no .no .no .no .no .no .no .no .no .no .no .no .no .no .no .no) (δ := δ) ⟨_, _, _, _, _, _, _, _, _, _, _, _, _, _, _, _, _, _, _, rfl⟩ (by
    rintro i x ρ δ hx ⟨b2, b3, b4, b5, b6, b7, b8, b9, b10, b11, b12, b13, b14, b15, b16, b17, b18, b19, b20, rfl⟩
    obtain ⟨c3, c4, c5, c6, c7, c8, c9, c10, c11, c12, c13, c14, c15, c16, c17, c18, c19, c20, δ', q⟩ := lturn_ok δ (.va x) b3 b4 b5 b6 b7 b8 b9 b10 b11 b12 b13 b14 b15 b16 b17 b18 b19 b20
    exact ⟨_, _, δ', rfl, q, _, _, _, _, _, _, _, _, _, _, _, _, _, _, _, _, _, _, _, rfl⟩)
  exact ⟨δ', seqNx (forE (itR1E (cf := callF 40) (x := 2) (by decide) (by decide) intE) h1) (seqRt (retE blE))⟩
end NB

namespace NS
open PySem PySem.Spec PyProof.Rows L2 NR
theorem fs_all {K : PySem.W.Frag}
  (d0 : DefAt K "is_integer" (top 4))
  (d1 : DefAt K "is_number" (top 5))
  (d2 : DefAt K "is_index" (top 6))
  (d3 : DefAt K "is_worth" (top 10))
  (d4 : DefAt K "is_head" (top 11))
  (d5 : DefAt K "parts_of" (top 12))
  (d6 : DefAt K "branches" (top 13))
  (d7 : DefAt K "made" (top 14))
  (d8 : DefAt K "told_by" (top 15))
  (d9 : DefAt K "told" (top 16))
  (d10 : DefAt K "is_state" (top 18))
  (d11 : DefAt K "wanted" (top 19))
  (d12 : DefAt K "is_past" (top 21))
  (d13 : DefAt K "is_house_lateness" (top 22))
  (d14 : DefAt K "is_lateness" (top 23))
  (d15 : DefAt K "can_follow" (top 24))
  (d16 : DefAt K "fault_of" (top 25))
  (d17 : DefAt K "is_run" (top 26))
  (d18 : DefAt K "shows_next" (top 28))
  (d19 : DefAt K "moves_of" (top 30))
  (d20 : DefAt K "stopped_shown" (top 31))
  (d21 : DefAt K "aged" (top 33))
  (d22 : DefAt K "plain_run" (top 34))
  (d23 : DefAt K "entries_for" (top 36))
  (d24 : DefAt K "range_of" (top 37))
  (d25 : DefAt K "house_range" (top 38))
  (d26 : DefAt K "is_rising_row" (top 40))
  (d27 : DefAt K "turn_of" (top 41))
  (d28 : DefAt K "words_within" (top 42))
  (d29 : DefAt K "ways" (top 43))
  (d30 : DefAt K "one_way" (top 45))
  (d31 : DefAt K "heard_ends" (top 46))
  (d32 : DefAt K "stepped" (top 47))
  (d33 : DefAt K "first_ends" (top 48))
  (d34 : DefAt K "rows_of_ends" (top 49))
  (d35 : DefAt K "last_ends" (top 50))
  (d36 : DefAt K "rounds_needed" (top 51))
  (d37 : DefAt K "rests_always" (top 54))
  (d38 : DefAt K "the_rest" (top 55))
  (d39 : DefAt K "settled_from" (top 56))
  (d40 : DefAt K "settled_with" (top 58))
  (d41 : DefAt K "_law_of" (top 62))
  (d42 : DefAt K "_law_rule" (top 64))
  (d43 : DefAt K "_law_net" (top 65))
  (d44 : DefAt K "_law_parts" (top 66))
  (d45 : DefAt K "_law_branches" (top 67))
  (d46 : DefAt K "_law_made" (top 68))
  (d47 : DefAt K "_law_told" (top 69))
  (d48 : DefAt K "_law_wants" (top 70))
  (d49 : DefAt K "_law_past" (top 71))
  (d50 : DefAt K "_law_hears" (top 72))
  (d51 : DefAt K "_law_stopped" (top 73))
  (d52 : DefAt K "_law_any" (top 61))
  : ∀ f : NB.F, DefAt K (pyS f) (top f.at) := by
  intro f
  cases f
  case is_integer => exact d0
  case is_number => exact d1
  case is_index => exact d2
  case is_worth => exact d3
  case is_head => exact d4
  case parts_of => exact d5
  case branches => exact d6
  case made => exact d7
  case told_by => exact d8
  case told => exact d9
  case is_state => exact d10
  case wanted => exact d11
  case is_past => exact d12
  case is_house_lateness => exact d13
  case is_lateness => exact d14
  case can_follow => exact d15
  case fault_of => exact d16
  case is_run => exact d17
  case shows_next => exact d18
  case moves_of => exact d19
  case stopped_shown => exact d20
  case aged => exact d21
  case plain_run => exact d22
  case entries_for => exact d23
  case range_of => exact d24
  case house_range => exact d25
  case is_rising_row => exact d26
  case turn_of => exact d27
  case words_within => exact d28
  case ways => exact d29
  case one_way => exact d30
  case heard_ends => exact d31
  case stepped => exact d32
  case first_ends => exact d33
  case rows_of_ends => exact d34
  case last_ends => exact d35
  case rounds_needed => exact d36
  case rests_always => exact d37
  case the_rest => exact d38
  case settled_from => exact d39
  case settled_with => exact d40
  case l_of => exact d41
  case l_rule => exact d42
  case l_net => exact d43
  case l_parts => exact d44
  case l_branches => exact d45
  case l_made => exact d46
  case l_told => exact d47
  case l_wants => exact d48
  case l_past => exact d49
  case l_hears => exact d50
  case l_stopped => exact d51
  case l_any => exact d52
theorem bl_all {K : PySem.W.Frag} (b0 : PySem.W.nsIn K mainGlobals "len" = some none) (b1 : PySem.W.nsIn K mainGlobals "all" = some none) (b2 : PySem.W.nsIn K mainGlobals "min" = some none) (b3 : PySem.W.nsIn K mainGlobals "max" = some none) (b4 : PySem.W.nsIn K mainGlobals "sum" = some none) (b5 : PySem.W.nsIn K mainGlobals "sorted" = some none) (b6 : PySem.W.nsIn K mainGlobals "tuple" = some none) (b7 : PySem.W.nsIn K mainGlobals "list" = some none) (b8 : PySem.W.nsIn K mainGlobals "repr" = some none) : ∀ b : NB.B, PySem.W.nsIn K mainGlobals (Str.ofString (pyB b)) = some none := by
  intro b
  cases b
  case len => exact b0
  case all => exact b1
  case mn => exact b2
  case mx => exact b3
  case sum => exact b4
  case sorted => exact b5
  case tuple => exact b6
  case list => exact b7
  case repr => exact b8
theorem ty_all {K : PySem.W.Frag} (b0 : PySem.W.nsIn K mainGlobals "tuple" = some none) (b1 : PySem.W.nsIn K mainGlobals "str" = some none) (b2 : PySem.W.nsIn K mainGlobals "int" = some none) (b3 : PySem.W.nsIn K mainGlobals "bool" = some none) : ∀ b : NB.Ty, PySem.W.nsIn K mainGlobals (Str.ofString (pyT b)) = some none := by
  intro b
  cases b
  case tuple => exact b0
  case str => exact b1
  case int => exact b2
  case bool => exact b3
end NS
namespace NS
theorem pure_law : ∀ d, ∃ d', NB.exec (NB.callF 40) NB.b_law NS.lawRow d = some (.rt (.bl true), d') := fun d => NB.law_pure d
end NS
open PySem PySem.W PyProof.Rows
set_option maxRecDepth 100000 in
set_option maxHeartbeats 0 in
theorem PySem.Challenge.cw_newsbehind_k53_whole_stops_are_late_news_holds : PySem.Challenge.rw_newsbehind_k53_whole_stops_are_late_news.Holds := by
  w_on; o_law; k_head; (case hw => w_witness2)
  k_fill
  refine NS.row_walk (l := PySem.Challenge.rw_newsbehind_k53_whole_stops_are_late_news) rfl (by decide) rfl rfl (fun w h Y => PySem.W.kIn_of Y) ?T NS.pure_law
  case T =>
    intro w
    refine' NS.Txt.mk (NS.fs_all ?d0 ?d1 ?d2 ?d3 ?d4 ?d5 ?d6 ?d7 ?d8 ?d9 ?d10 ?d11 ?d12 ?d13 ?d14 ?d15 ?d16 ?d17 ?d18 ?d19 ?d20 ?d21 ?d22 ?d23 ?d24 ?d25 ?d26 ?d27 ?d28 ?d29 ?d30 ?d31 ?d32 ?d33 ?d34 ?d35 ?d36 ?d37 ?d38 ?d39 ?d40 ?d41 ?d42 ?d43 ?d44 ?d45 ?d46 ?d47 ?d48 ?d49 ?d50 ?d51 ?d52) ?law ?draw (NS.bl_all ?b0 ?b1 ?b2 ?b3 ?b4 ?b5 ?b6 ?b7 ?b8) (NS.ty_all ?t0 ?t1 ?t2 ?t3) ?isi ?rng ?zip ?enu ?int ?abs (NS.glob_mk ?most ?most2) (NS.glob_mk ?mrow ?mrow2) (NS.glob_mk ?noh ?noh2)
    (case d0 => (refine' NS.defAt_mk ?a ?l ?c ?k; (case a => k_is); (case l => k_is); (case c => k_is); (case k => k_is)))
    (case d1 => (refine' NS.defAt_mk ?a ?l ?c ?k; (case a => k_is); (case l => k_is); (case c => k_is); (case k => k_is)))
    (case d2 => (refine' NS.defAt_mk ?a ?l ?c ?k; (case a => k_is); (case l => k_is); (case c => k_is); (case k => k_is)))
    (case d3 => (refine' NS.defAt_mk ?a ?l ?c ?k; (case a => k_is); (case l => k_is); (case c => k_is); (case k => k_is)))
    (case d4 => (refine' NS.defAt_mk ?a ?l ?c ?k; (case a => k_is); (case l => k_is); (case c => k_is); (case k => k_is)))
    (case d5 => (refine' NS.defAt_mk ?a ?l ?c ?k; (case a => k_is); (case l => k_is); (case c => k_is); (case k => k_is)))
    (case d6 => (refine' NS.defAt_mk ?a ?l ?c ?k; (case a => k_is); (case l => k_is); (case c => k_is); (case k => k_is)))
    (case d7 => (refine' NS.defAt_mk ?a ?l ?c ?k; (case a => k_is); (case l => k_is); (case c => k_is); (case k => k_is)))
    (case d8 => (refine' NS.defAt_mk ?a ?l ?c ?k; (case a => k_is); (case l => k_is); (case c => k_is); (case k => k_is)))
    (case d9 => (refine' NS.defAt_mk ?a ?l ?c ?k; (case a => k_is); (case l => k_is); (case c => k_is); (case k => k_is)))
    (case d10 => (refine' NS.defAt_mk ?a ?l ?c ?k; (case a => k_is); (case l => k_is); (case c => k_is); (case k => k_is)))
    (case d11 => (refine' NS.defAt_mk ?a ?l ?c ?k; (case a => k_is); (case l => k_is); (case c => k_is); (case k => k_is)))
    (case d12 => (refine' NS.defAt_mk ?a ?l ?c ?k; (case a => k_is); (case l => k_is); (case c => k_is); (case k => k_is)))
    (case d13 => (refine' NS.defAt_mk ?a ?l ?c ?k; (case a => k_is); (case l => k_is); (case c => k_is); (case k => k_is)))
    (case d14 => (refine' NS.defAt_mk ?a ?l ?c ?k; (case a => k_is); (case l => k_is); (case c => k_is); (case k => k_is)))
    (case d15 => (refine' NS.defAt_mk ?a ?l ?c ?k; (case a => k_is); (case l => k_is); (case c => k_is); (case k => k_is)))
    (case d16 => (refine' NS.defAt_mk ?a ?l ?c ?k; (case a => k_is); (case l => k_is); (case c => k_is); (case k => k_is)))
    (case d17 => (refine' NS.defAt_mk ?a ?l ?c ?k; (case a => k_is); (case l => k_is); (case c => k_is); (case k => k_is)))
    (case d18 => (refine' NS.defAt_mk ?a ?l ?c ?k; (case a => k_is); (case l => k_is); (case c => k_is); (case k => k_is)))
    (case d19 => (refine' NS.defAt_mk ?a ?l ?c ?k; (case a => k_is); (case l => k_is); (case c => k_is); (case k => k_is)))
    (case d20 => (refine' NS.defAt_mk ?a ?l ?c ?k; (case a => k_is); (case l => k_is); (case c => k_is); (case k => k_is)))
    (case d21 => (refine' NS.defAt_mk ?a ?l ?c ?k; (case a => k_is); (case l => k_is); (case c => k_is); (case k => k_is)))
    (case d22 => (refine' NS.defAt_mk ?a ?l ?c ?k; (case a => k_is); (case l => k_is); (case c => k_is); (case k => k_is)))
    (case d23 => (refine' NS.defAt_mk ?a ?l ?c ?k; (case a => k_is); (case l => k_is); (case c => k_is); (case k => k_is)))
    (case d24 => (refine' NS.defAt_mk ?a ?l ?c ?k; (case a => k_is); (case l => k_is); (case c => k_is); (case k => k_is)))
    (case d25 => (refine' NS.defAt_mk ?a ?l ?c ?k; (case a => k_is); (case l => k_is); (case c => k_is); (case k => k_is)))
    (case d26 => (refine' NS.defAt_mk ?a ?l ?c ?k; (case a => k_is); (case l => k_is); (case c => k_is); (case k => k_is)))
    (case d27 => (refine' NS.defAt_mk ?a ?l ?c ?k; (case a => k_is); (case l => k_is); (case c => k_is); (case k => k_is)))
    (case d28 => (refine' NS.defAt_mk ?a ?l ?c ?k; (case a => k_is); (case l => k_is); (case c => k_is); (case k => k_is)))
    (case d29 => (refine' NS.defAt_mk ?a ?l ?c ?k; (case a => k_is); (case l => k_is); (case c => k_is); (case k => k_is)))
    (case d30 => (refine' NS.defAt_mk ?a ?l ?c ?k; (case a => k_is); (case l => k_is); (case c => k_is); (case k => k_is)))
    (case d31 => (refine' NS.defAt_mk ?a ?l ?c ?k; (case a => k_is); (case l => k_is); (case c => k_is); (case k => k_is)))
    (case d32 => (refine' NS.defAt_mk ?a ?l ?c ?k; (case a => k_is); (case l => k_is); (case c => k_is); (case k => k_is)))
    (case d33 => (refine' NS.defAt_mk ?a ?l ?c ?k; (case a => k_is); (case l => k_is); (case c => k_is); (case k => k_is)))
    (case d34 => (refine' NS.defAt_mk ?a ?l ?c ?k; (case a => k_is); (case l => k_is); (case c => k_is); (case k => k_is)))
    (case d35 => (refine' NS.defAt_mk ?a ?l ?c ?k; (case a => k_is); (case l => k_is); (case c => k_is); (case k => k_is)))
    (case d36 => (refine' NS.defAt_mk ?a ?l ?c ?k; (case a => k_is); (case l => k_is); (case c => k_is); (case k => k_is)))
    (case d37 => (refine' NS.defAt_mk ?a ?l ?c ?k; (case a => k_is); (case l => k_is); (case c => k_is); (case k => k_is)))
    (case d38 => (refine' NS.defAt_mk ?a ?l ?c ?k; (case a => k_is); (case l => k_is); (case c => k_is); (case k => k_is)))
    (case d39 => (refine' NS.defAt_mk ?a ?l ?c ?k; (case a => k_is); (case l => k_is); (case c => k_is); (case k => k_is)))
    (case d40 => (refine' NS.defAt_mk ?a ?l ?c ?k; (case a => k_is); (case l => k_is); (case c => k_is); (case k => k_is)))
    (case d41 => (refine' NS.defAt_mk ?a ?l ?c ?k; (case a => k_is); (case l => k_is); (case c => k_is); (case k => k_is)))
    (case d42 => (refine' NS.defAt_mk ?a ?l ?c ?k; (case a => k_is); (case l => k_is); (case c => k_is); (case k => k_is)))
    (case d43 => (refine' NS.defAt_mk ?a ?l ?c ?k; (case a => k_is); (case l => k_is); (case c => k_is); (case k => k_is)))
    (case d44 => (refine' NS.defAt_mk ?a ?l ?c ?k; (case a => k_is); (case l => k_is); (case c => k_is); (case k => k_is)))
    (case d45 => (refine' NS.defAt_mk ?a ?l ?c ?k; (case a => k_is); (case l => k_is); (case c => k_is); (case k => k_is)))
    (case d46 => (refine' NS.defAt_mk ?a ?l ?c ?k; (case a => k_is); (case l => k_is); (case c => k_is); (case k => k_is)))
    (case d47 => (refine' NS.defAt_mk ?a ?l ?c ?k; (case a => k_is); (case l => k_is); (case c => k_is); (case k => k_is)))
    (case d48 => (refine' NS.defAt_mk ?a ?l ?c ?k; (case a => k_is); (case l => k_is); (case c => k_is); (case k => k_is)))
    (case d49 => (refine' NS.defAt_mk ?a ?l ?c ?k; (case a => k_is); (case l => k_is); (case c => k_is); (case k => k_is)))
    (case d50 => (refine' NS.defAt_mk ?a ?l ?c ?k; (case a => k_is); (case l => k_is); (case c => k_is); (case k => k_is)))
    (case d51 => (refine' NS.defAt_mk ?a ?l ?c ?k; (case a => k_is); (case l => k_is); (case c => k_is); (case k => k_is)))
    (case d52 => (refine' NS.defAt_mk ?a ?l ?c ?k; (case a => k_is); (case l => k_is); (case c => k_is); (case k => k_is)))
    (case law => (refine' NS.defAt_mk ?a ?l ?c ?k; (case a => k_is); (case l => k_is); (case c => k_is); (case k => k_is)))
    (case draw => (refine' NS.defAt_mk ?a ?l ?c ?k; (case a => k_is); (case l => k_is); (case c => k_is); (case k => k_is)))
    (case b0 => k_is)
    (case b1 => k_is)
    (case b2 => k_is)
    (case b3 => k_is)
    (case b4 => k_is)
    (case b5 => k_is)
    (case b6 => k_is)
    (case b7 => k_is)
    (case b8 => k_is)
    (case t0 => k_is)
    (case t1 => k_is)
    (case t2 => k_is)
    (case t3 => k_is)
    (case isi => k_is)
    (case rng => k_is)
    (case zip => k_is)
    (case enu => k_is)
    (case int => k_is)
    (case abs => k_is)
    (case most => k_is)
    (case mrow => k_is)
    (case noh => k_is)
    (case most2 => exact ⟨_, rfl⟩)
    (case mrow2 => exact ⟨_, rfl⟩)
    (case noh2 => exact ⟨_, rfl⟩)
