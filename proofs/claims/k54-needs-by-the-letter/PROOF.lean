import PyProof.Rows.All
import Wide.All
import OpenK.AllK
import Wide.FinOn
import HandS.ForMost
import HandS.ForExc
import HandS.IsInst
import HandS.TupAny
import HandS.Flow
import HandS.TupLe
import HandS.Style
import HandS.Rev
import HandS.Conv
import HandS.SetBool
import HandS.DictComp
import KE.KDictKeyed
import KE.KDictList
import KE.KDictWalk
import HandS.Defaults
import HandS.More
import HandS.Strs
import PyProof.Rows.MatchSeqLen
import KE.KUnpackStar
import KE.GoesEnum
import HandS.Deep
import HandS.Star
import KE.LtSeq
import KE.LtData
import KE.SortCalls
import KE.SortKeyHeap
import HandS.SortKw
import HandS.Flt
import HandS.Ends
import HandS.WordsExc
import HandS.Head0
import HandS.Head1
import HandS.Head2
import HandS.HeadEnd
import HandS.HeadHook1
import HandS.HeadHook2
import KE.KStateDown
import PySem.Challenge.RW_askedthen_k54_needs_by_the_letter
-- FN
/-! one constructor for each unlike def of the linked texts (printed by gen_fn.py) -/
namespace A3
inductive FN where
  | wall | InvalidArgument_init | BadPaper_init | NoSuchDeed_init | is_number | is_text | kind_of | order_of
  | in_order | is_name | are_unlike | is_column | are_columns | is_table | check_schema | columns_of
  | is_row | is_key | value_octets | body | key_octets | value_end | are_key_octets | first_bit
  | has_bit | is_day | are_days | is_pair | are_spans | holds | points_of | joined
  | pieces | unite | less | small | all_words | words_of | side_input | leaf_input
  | state_input | root | make_leaf | make_node | join | way_to | put | paper_of
  | is_whole | are_octets | is_pruned_part | is_part | splits_at | are_children | tree_of_paper | paper_tree
  | leaf_digest | node_digest | DigestRow_init | DigestRow_append | DigestRow_digest | DigestRow_inclusion | DigestRow_extension | digest_after
  | Asker_init | Asker_learn | Asker_takes_state | Asker_takes | Asker_takes_change | Hasher_init | Hasher_digest | check_days
  | check_table | check_deed | row_entries | Knowledge_init | Knowledge_change | Knowledge_apply | Knowledge_days | Knowledge_rows
  | Knowledge_entries | entry_order | pruned | rebuilt | prune_for | Keeper_init | Keeper_record | Keeper_deeds
  | Keeper_days | Keeper_tree | Keeper_digest | Keeper_ask | Keeper_changes | Keeper_row_digest | Keeper_inclusion | Keeper_extension
  | law_cell | law_draws | law_hasher | law_text | law_schema | law_deed | law_question | law_keeper
  | law_octets | law_forged | law_due | law_k34 | law_same | law_sorted | law_once | law_any
  | law_k40 | meet | law_schema_1 | law_value | law_row | law_points | law_table | law_deed_1
  | law_known | law_spans | law_tables | law_set | law_k41 | law_k42 | law_check | law_change
  | law_due_1 | law_apply | law_k44 | is_name_1 | Knowledge_entries_1 | law_deeds | law_k45 | law_words
  | law_fulfils | law_wish | law_entries | law_wide | law_k46 | BadQuestion_init | place_of | is_word
  | is_word_wish | is_deep_wish | is_wish | refuse_if | needed | table_columns | chosen | renamed
  | both_columns | with_number | picked_columns | same_columns | summed_columns | found_columns | kept_columns | columns
  | deep_columns | law_names | law_columns | law_compare | law_joined | law_groups | law_mean | law_text_table
  | law_base | law_pick | law_stage | law_question_1 | law_k47 | range_of | range_of_text | words_fulfil
  | fulfils | wish_ranges | compares | chosen_values | how_many | places_of | common_places | unlike
  | day_join | day_groups | two_parts_on | day_rows | day_change | meaning | chain_of | wanted_value
  | beginning_of | ranges_of | needs | law_faults | law_reason | law_other | law_k48 | law_day
  | law_k49 | collected | picked | picked_same | kept | combined | united | lessened
  | grouped | counted | summed | law_relation | law_on | law_form | law_group | law_k50
  | rows_in | both | either | without | rows_of_wish | found | chain_rows | two_parts
  | one_part | rows_of | answer | rows_on | tree_of | meets | entries | TreeSource_init
  | TreeSource_entries | law_k51 | Keeper_ask_1 | Keeper_row_digest_1 | Keeper_inclusion_1 | Keeper_extension_1 | law_hasher_1 | law_keeper_1
  | law_fits | law_k52 | is_open | prune | law_inside | law_k53 | law_chain | law_k54
  | left_size | part_digest | inclusion | extension | DigestRow_inclusion_1 | DigestRow_extension_1 | Keeper_ask_2 | Keeper_row_digest_2
  | Keeper_inclusion_2 | Keeper_extension_2 | law_no | law_k55 | Keeper_row_digest_3 | Keeper_inclusion_3 | Keeper_extension_3 | law_k56
  | is_row_of | fits | judge | law_k57 | law_spoilt | law_changed | law_over | law_k58
  | input_of | find_clash | law_k59 | row_digest | turns_to | included_digest | extension_turns | extended_digests
  | Keeper_ask_3 | Asker_learn_1 | Asker_takes_state_1 | Asker_takes_1 | Asker_takes_change_1 | law_k60 | Asker_learn_2 | Asker_takes_state_2
  | Asker_takes_2 | law_after | law_k61 | turns | law_bad | law_k62 | law_fault | law_no_1
  | law_made | law_look | law_k63 | law_spoil | law_k64
  deriving DecidableEq, Repr, Inhabited
end A3

-- Core
/-! The own small language: values without a heap, a syntax tree, its evaluator. Plain Lean, no kit. -/
namespace A3

abbrev Tx := List Nat

/-- a Python value by what it holds -/
inductive PV where
  | non | bl (b : Bool) | int (i : Int) | str (s : Tx)
  | tup (xs : List PV) | lst (xs : List PV) | dct (kvs : List (PV × PV))
  | ins (c : Nat) (fs : List (Nat × PV)) | obj (n : Nat) | fn (f : FN) (cl : List PV)
  deriving Inhabited, Repr

/-- a text written out -/
def tx (s : String) : Tx := s.toList.map Char.toNat

mutual
def PV.eqv : PV → PV → Bool
  | .non, .non => true
  | .bl a, .bl b => a == b
  | .bl a, .int j => (if a then (1 : Int) else 0) == j
  | .int i, .bl b => i == (if b then (1 : Int) else 0)
  | .int i, .int j => i == j
  | .str a, .str b => a == b
  | .tup xs, .tup ys => PV.eqvL xs ys
  | .lst xs, .lst ys => PV.eqvL xs ys
  | _, _ => false
def PV.eqvL : List PV → List PV → Bool
  | [], [] => true
  | x :: xs, y :: ys => PV.eqv x y && PV.eqvL xs ys
  | _, _ => false
end

/-- data that can be compared by ==, nested at most d deep -/
def PV.dok : Nat → PV → Bool
  | _, .non => true
  | _, .bl _ => true
  | _, .int _ => true
  | _, .str _ => true
  | d + 1, .tup xs => xs.all (PV.dok d)
  | d + 1, .lst xs => xs.all (PV.dok d)
  | _, _ => false

mutual
/-- a < b, none: Python refuses (or it isn't carried here) -/
def PV.lt : PV → PV → Option Bool
  | .int i, .int j => some (decide (i < j))
  | .bl a, .bl b => some (!a && b)
  | .str a, .str b => some (decide (a < b))
  | .tup xs, .tup ys => PV.ltL xs ys
  | .lst xs, .lst ys => PV.ltL xs ys
  | _, _ => none
def PV.ltL : List PV → List PV → Option Bool
  | [], [] => some false
  | [], _ :: _ => some true
  | _ :: _, [] => some false
  | x :: xs, y :: ys => if PV.eqv x y then PV.ltL xs ys else PV.lt x y
end

def PV.truth : PV → Option Bool
  | .non => some false
  | .bl b => some b
  | .int i => some (i != 0)
  | .str s => some (!s.isEmpty)
  | .tup xs => some (!xs.isEmpty)
  | .lst xs => some (!xs.isEmpty)
  | _ => none

/-- a slot: a value that stays; a list, a dict of the def's own that it may change -/
inductive Cell where
  | val (p : PV) | ol (xs : List PV) | od (kvs : List (PV × PV))
  deriving Inhabited, Repr
def Cell.pv : Cell → PV
  | .val p => p
  | .ol xs => .lst xs
  | .od kvs => .dct kvs
abbrev Env := List (Option Cell)
/-- the objects that methods change: class, attributes -/
abbrev Store := List (Nat × List (Nat × Cell))

inductive R (α : Type) where
  | ok (a : α) (S : Store) | exc (x : PV) (S : Store) | bad
def R.bind {α β : Type} (r : R α) (f : α → Store → R β) : R β :=
  match r with
  | .ok a S => f a S
  | .exc x S => .exc x S
  | .bad => .bad
def R.of {α : Type} (o : Option α) (S : Store) : R α :=
  match o with
  | some a => .ok a S
  | none => .bad

inductive Ty where | int | bool | str | tuple | list
  deriving DecidableEq, Repr
inductive BO where | add | sub | mul | fdiv | mod | pow | and
  deriving DecidableEq, Repr
inductive CO where | eq | ne | lt | le | gt | ge | isin | notin | is | isnot
  deriving DecidableEq, Repr
/-- built-in calls of one argument -/
inductive B1 where | len | int | list | tuple | dict | sorted | sum | any | all | ord | set
  deriving DecidableEq, Repr

/-- the target of a for, of a comprehension, of an assignment -/
inductive Tg where
  | nm (i : Nat) | tp (ts : List Tg)
  deriving Inhabited, Repr
mutual
inductive E where
  | c (p : PV)
  | v (i : Nat)
  | peek (i : Nat)
  | bin (o : BO) (a b : E)
  | neg (a : E)
  | cmp (o : CO) (a b : E)
  | chain (o o' : CO) (a b c : E)
  | and (a b : E)
  | or (a b : E)
  | not (a : E)
  | ite (t a b : E)
  | tup (es : Es)
  | lst (es : Es)
  | idx (a i : E)
  | slc (a : E) (lo hi : OE)
  | call (f : FN) (es : Es)
  | b1 (f : B1) (a : E)
  | isi (a : E) (t : Ty)
  | idxOf (a x : E)
  | lenset (a : E)
  | srtk (f : FN) (a : E)
  | min2 (a b : E)
  | dcomp (vs : List Nat) (tg : Tg) (it : It) (cd : OE) (k el : E)
  | comp (vs : List Nat) (tg : Tg) (it : It) (cd : OE) (el : E)
  | sset (vs : List Nat) (t1 : Tg) (i1 : It) (t2 : Tg) (i2 : It) (t3 : Tg) (i3 : It) (el : E)
inductive Es where
  | nil
  | cons (e : E) (es : Es)
  | star (e : E) (es : Es)
inductive OE where
  | none
  | some (e : E)
inductive It where
  | of (e : E)
  | rng (a : E)
  | rng2 (a b : E)
  | enum (e : E)
  | rev (e : E)
end
/-- an item of a case's pattern; the pattern -/
inductive Pt where
  | val (p : PV) | alt (ps : List PV) | cap (i : Nat) | wild
inductive Pat where
  | one (p : Pt) | seq (ps : List Pt) | seqs (ps : List Pt) (i : Nat)
mutual
inductive Stm where
  | asg (t : Tg) (e : E)
  | mkl (i : Nat) (e : E)
  | frz (is : List Nat)
  | app (i : Nat) (e : E)
  | ext (i : Nat) (e : E)
  | pop (j i : Nat)
  | seti (i : Nat) (k e : E)
  | ret (e : E)
  | expr (e : E)
  | ife (t : E) (a b : Stms)
  | for_ (t : Tg) (it : It) (b : Stms)
  | while_ (t : E) (b : Stms)
  | brk
  | cnt
  | pass
  | nvr
  | mtch (e : E) (cs : Cases)
inductive Stms where
  | nil
  | cons (s : Stm) (ss : Stms)
inductive Cases where
  | nil
  | cons (p : Pat) (b : Stms) (r : Cases)
end
structure FDef where
  npar : Nat
  nslot : Nat
  body : Stms

/-! ### the values' operations -/
def smallI (i : Int) : Bool := decide (-(2 ^ 64) < i) && decide (i < 2 ^ 64)
def lineN : Nat := 16777216
def addV : PV → PV → Option PV
  | .int i, .int j => some (.int (i + j))
  | .str a, .str b => if a.length + b.length ≤ lineN then some (.str (a ++ b)) else none
  | .lst a, .lst b => if a.length + b.length ≤ lineN then some (.lst (a ++ b)) else none
  | .tup a, .tup b => if a.length + b.length ≤ lineN then some (.tup (a ++ b)) else none
  | _, _ => none
def subV : PV → PV → Option PV
  | .int i, .int j => some (.int (i - j))
  | _, _ => none
def mulV : PV → PV → Option PV
  | .int i, .int j => if smallI i || smallI j then some (.int (i * j)) else none
  | _, _ => none
def fdivV : PV → PV → Option PV
  | .int i, .int j => if 0 < j ∧ j < 1073741824 then some (.int (i / j)) else none
  | _, _ => none
def modV : PV → PV → Option PV
  | .int i, .int j => if 0 < j then some (.int (i % j)) else none
  | _, _ => none
def powV : PV → PV → Option PV
  | .int i, .int j => if 0 ≤ j ∧ j ≤ 1000 ∧ smallI i then some (.int (i ^ j.toNat)) else none
  | _, _ => none
def andV : PV → PV → Option PV
  | .int i, .int j => if 0 ≤ i ∧ 0 ≤ j then some (.int ((i.toNat &&& j.toNat : Nat) : Int)) else none
  | _, _ => none
def BO.ev : BO → PV → PV → Option PV
  | .add => addV
  | .sub => subV
  | .mul => mulV
  | .fdiv => fdivV
  | .mod => modV
  | .pow => powV
  | .and => andV
/-- x in a row of values -/
def PV.mem (x : PV) (xs : List PV) : Bool := xs.any fun y => PV.eqv y x
/-- what a dict's key may be: nested tuples of numbers, texts, None -/
def PV.hk : Nat → PV → Bool
  | _, .non => true
  | _, .int _ => true
  | _, .str _ => true
  | d + 1, .tup xs => xs.all (PV.hk d)
  | _, _ => false
def PV.keyb : PV → Bool
  | .tup xs => (PV.tup xs).hk 8
  | _ => false
/-- d[k] = v -/
def dSet (k v : PV) : List (PV × PV) → List (PV × PV)
  | [] => [(k, v)]
  | (a, b) :: r => if PV.eqv a k then (a, v) :: r else (a, b) :: dSet k v r
/-- the dict of some entries, one behind the other -/
def dMk : List PV → List (PV × PV) → Option (List (PV × PV))
  | [], kvs => some kvs
  | .tup [k, v] :: r, kvs => if k.keyb && decide (kvs.length < 65536) then dMk r (dSet k v kvs) else none
  | _, _ => none
def dGet (k : PV) : List (PV × PV) → Option PV
  | [] => none
  | (a, b) :: r => if PV.eqv a k then some b else dGet k r
def allInts : List PV → Option (List Int)
  | [] => some []
  | .int i :: r => (allInts r).map (i :: ·)
  | _ => none
def inV (x y : PV) : Option Bool :=
  match y with
  | .lst ys => if x.dok 64 && ys.all (PV.dok 64) then some (PV.mem x ys) else none
  | .tup ys => if x.dok 64 && ys.all (PV.dok 64) then some (PV.mem x ys) else none
  | .str t => match x with
    | .str [c] => some (decide (c ∈ t))
    | _ => none
  | _ => none
/-- x is y, where y is None, True or False -/
def isV (x y : PV) : Option Bool :=
  match y with
  | .non => some (match x with | .non => true | _ => false)
  | .bl b => some (match x with | .bl a => a == b | _ => false)
  | _ => none
def eqV' (x y : PV) : Option Bool := if x.dok 64 && y.dok 64 then some (PV.eqv x y) else none
def ltV : PV → PV → Option Bool
  | .int i, .int j => some (decide (i < j))
  | .str a, .str b => some (decide (a < b))
  | .tup a, .tup b => match allInts a, allInts b with
    | some x, some y => some (decide (x < y))
    | _, _ => none
  | _, _ => none
def gtV : PV → PV → Option Bool
  | .int i, .int j => some (decide (j < i))
  | .str a, .str b => some (decide (b < a))
  | _, _ => none
def leV : PV → PV → Option Bool
  | .int i, .int j => some (decide (i ≤ j))
  | .str a, .str b => some (decide (a ≤ b))
  | _, _ => none
def geV : PV → PV → Option Bool
  | .int i, .int j => some (decide (j ≤ i))
  | .tup a, .tup b => match allInts a, allInts b with
    | some x, some y => some (!decide (x < y))
    | _, _ => none
  | _, _ => none
def CO.ev : CO → PV → PV → Option Bool
  | .eq, x, y => eqV' x y
  | .ne, x, y => (eqV' x y).map (! ·)
  | .lt, x, y => ltV x y
  | .gt, x, y => gtV x y
  | .le, x, y => leV x y
  | .ge, x, y => geV x y
  | .isin, x, y => inV x y
  | .notin, x, y => (inV x y).map (! ·)
  | .is, x, y => isV x y
  | .isnot, x, y => (isV x y).map (! ·)
def Ty.ev : Ty → PV → Option Bool
  | t, .non => some (match t with | _ => false)
  | t, .bl _ => some (match t with | .int => true | .bool => true | _ => false)
  | t, .int _ => some (match t with | .int => true | _ => false)
  | t, .str _ => some (match t with | .str => true | _ => false)
  | t, .tup _ => some (match t with | .tuple => true | _ => false)
  | t, .lst _ => some (match t with | .list => true | _ => false)
  | _, _ => none
/-- the place of an index in a row of n things -/
def ixOf (n : Nat) (i : Int) : Option Nat := if 0 ≤ i then (if i < n then some i.toNat else none) else if -(n : Int) ≤ i then some (i + n).toNat else none
def idxEv : PV → PV → Option PV
  | .lst xs, .int i => (ixOf xs.length i).bind fun k => xs[k]?
  | .tup xs, .int i => (ixOf xs.length i).bind fun k => xs[k]?
  | .str xs, .int i => (ixOf xs.length i).bind fun k => (xs[k]?).map fun c => .str [c]
  | _, _ => none
/-- an end of a slice -/
def sliceAt (n d : Nat) : Option Int → Nat
  | none => d
  | some i => if i < 0 then (i + n).toNat else min i.toNat n
def cut {α : Type} (xs : List α) (lo hi : Option Int) : List α := (xs.drop (sliceAt xs.length 0 lo)).take (sliceAt xs.length xs.length hi - sliceAt xs.length 0 lo)
def slcEv : PV → Option Int → Option Int → Option PV
  | .lst xs, lo, hi => some (.lst (cut xs lo hi))
  | .tup xs, lo, hi => some (.tup (cut xs lo hi))
  | .str xs, lo, hi => some (.str (cut xs lo hi))
  | _, _, _ => none
def allBools : List PV → Option (List Bool)
  | [] => some []
  | .bl b :: r => (allBools r).map (b :: ·)
  | _ => none
/-! ### the order that sorting goes by: a datum as a row of signs -/
abbrev Tok := Int ⊕ Tx
mutual
def PV.toks : PV → List Tok
  | .bl b => [.inl (if b then 1 else 0)]
  | .int i => [.inl i]
  | .str s => [.inr s]
  | .tup xs => PV.toksL xs
  | .lst xs => PV.toksL xs
  | _ => []
def PV.toksL : List PV → List Tok
  | [] => [.inl 0]
  | x :: xs => .inl 1 :: (PV.toks x ++ PV.toksL xs)
end
def tokLt : Tok → Tok → Bool
  | .inl a, .inl b => decide (a < b)
  | .inl _, .inr _ => true
  | .inr _, .inl _ => false
  | .inr a, .inr b => decide (a < b)
def toksLt : List Tok → List Tok → Bool
  | [], [] => false
  | [], _ :: _ => true
  | _ :: _, [] => false
  | x :: r, y :: t => tokLt x y || (!tokLt y x && toksLt r t)
mutual
/-- the two can be compared: place by place up to the first that differs -/
def PV.cmpb : PV → PV → Bool
  | .bl _, .bl _ => true
  | .int _, .int _ => true
  | .str _, .str _ => true
  | .tup xs, .tup ys => PV.cmpbL xs ys
  | .lst xs, .lst ys => PV.cmpbL xs ys
  | _, _ => false
def PV.cmpbL : List PV → List PV → Bool
  | x :: xs, y :: ys => PV.cmpb x y && (!PV.eqv x y || PV.cmpbL xs ys)
  | _, _ => true
end
/-- put in behind all that are less, ahead of the others -/
def insL {α : Type} (lt : α → α → Bool) (x : α) : List α → List α
  | [] => [x]
  | y :: ys => if lt y x then y :: insL lt x ys else x :: y :: ys
/-- sorted stably -/
def sortL {α : Type} (lt : α → α → Bool) (xs : List α) : List α := xs.foldr (insL lt) []
def keyLtP (p q : PV × PV) : Bool := toksLt p.1.toks q.1.toks
/-- the keys by which one may sort: all lists, or all tuples that begin with a number -/
def keysOk (ks : List PV) : Bool := (ks.all fun k => match k with
    | .lst _ => true
    | _ => false) || (ks.all fun k => match k with
    | .tup (.int _ :: _) => true
    | _ => false)
/-- the items in the order of their keys -/
def sortV (ks xs : List PV) : Option (List PV) :=
  if keysOk ks && (ks.all (PV.dok 32) && ks.all fun a => ks.all fun b => PV.cmpb a b) then some ((sortL keyLtP (ks.zip xs)).map (·.2)) else none
def lenV : PV → Option PV
  | .lst xs => some (.int xs.length)
  | .tup xs => some (.int xs.length)
  | .str xs => some (.int xs.length)
  | _ => none
def intV : PV → Option PV
  | .int i => some (.int i)
  | .bl b => some (.int (if b then 1 else 0))
  | _ => none
def listV : PV → Option PV
  | .lst xs => some (.lst xs)
  | .tup xs => some (.lst xs)
  | .dct kvs => some (.lst (kvs.map (·.1)))
  | _ => none
def tupleV : PV → Option PV
  | .lst xs => some (.tup xs)
  | .tup xs => some (.tup xs)
  | _ => none
def sumV : PV → Option PV
  | .lst xs => (allInts xs).map fun is => .int is.sum
  | _ => none
def anyV : PV → Option PV
  | .lst xs => (allBools xs).map fun bs => .bl (bs.any id)
  | _ => none
def allV : PV → Option PV
  | .lst xs => (allBools xs).map fun bs => .bl (bs.all id)
  | _ => none
/-- sorted(xs) -/
def sortedV : PV → Option PV
  | .lst xs => (sortV xs xs).map .lst
  | _ => none
/-- what sorted(.., key=f) goes over -/
def sortItems : PV → Option (List PV)
  | .lst xs => some xs
  | _ => none
def ordV : PV → Option PV
  | .str [c] => some (.int c)
  | _ => none
/-- the first place of an equal one -/
def firstAt (x : PV) : List PV → Nat → Option Nat
  | [], _ => none
  | y :: ys, n => if PV.eqv y x then some n else firstAt x ys (n + 1)
/-- a.index(x) -/
def idxOfV : PV → PV → Option PV
  | .lst ys, x => if x.dok 32 && ys.all (PV.dok 32) then (firstAt x ys 0).map fun (n : Nat) => PV.int n else none
  | _, _ => none
def allStrs : List PV → Option (List Tx)
  | [] => some []
  | .str t :: r => (allStrs r).map (t :: ·)
  | _ => none
/-- each text once, as first met -/
def distT (ts : List Tx) : List Tx := ts.foldl (fun us y => if y ∈ us then us else us ++ [y]) []
/-- len(set(texts)) -/
def lenSetV : PV → Option PV
  | .lst xs => (allStrs xs).bind fun ts => if ts.length < 64 then some (.int (distT ts).length) else none
  | .tup xs => (allStrs xs).bind fun ts => if ts.length < 64 then some (.int (distT ts).length) else none
  | _ => none
/-- min(a, b) of numbers -/
def min2V : PV → PV → Option PV
  | .int a, .int b => some (.int (if b < a then b else a))
  | _, _ => none
/-- what a star in a display takes -/
def starOf : PV → Option (List PV)
  | .lst xs => some xs
  | .tup xs => some xs
  | _ => none
def B1.ev : B1 → PV → Option PV
  | .len => lenV
  | .int => intV
  | .list => listV
  | .tuple => tupleV
  | .sum => sumV
  | .any => anyV
  | .all => allV
  | .ord => ordV
  | .sorted => sortedV
  | _ => fun _ => none

/-! ### names -/
def setS (ρ : Env) (i : Nat) (c : Cell) : Env := ρ.set i (some c)
mutual
def Tg.bind : Tg → PV → Env → Option Env
  | .nm i, p, ρ => some (setS ρ i (.val p))
  | .tp ts, p, ρ => match p with
    | .tup xs => Tg.binds ts xs ρ
    | _ => none
def Tg.binds : List Tg → List PV → Env → Option Env
  | [], [], ρ => some ρ
  | t :: ts, p :: ps, ρ => (Tg.bind t p ρ).bind fun ρ' => Tg.binds ts ps ρ'
  | _, _, _ => none
end
def frz1 (ρ : Env) (i : Nat) : Env := match ρ[i]? with
  | some (some c) => setS ρ i (.val c.pv)
  | _ => ρ
def frzs (ρ : Env) (is : List Nat) : Env := is.foldl frz1 ρ

abbrev CallF := FN → List PV → Store → R PV

/-! ### expressions -/
/-- what a for walks -/
def iterOf : PV → Option (List PV)
  | .lst xs => some xs
  | .tup xs => some xs
  | .str s => some (s.map fun c => .str [c])
  | _ => none
def upto (lo : Int) (n : Nat) : List PV := (List.range n).map fun (k : Nat) => .int (lo + k)
def numbered : Nat → List PV → List PV
  | _, [] => []
  | k, x :: xs => .tup [.int k, x] :: numbered (k + 1) xs
def rngOk (i : Int) : Bool := decide (-16777216 ≤ i) && decide (i ≤ 16777216)
/-- the slots of a comprehension's own names forgotten -/
def wipeR (ρ : Env) : List Nat → Env
  | [] => ρ
  | v :: vs => (wipeR ρ vs).set v none
/-- a turn: the target bound, then g -/
def fStep {α : Type} (t : Tg) (g : Env → Store → R α) (ρ : Env) (x : PV) (S : Store) : R α :=
  match t.bind x ρ with
  | none => .bad
  | some ρ' => g ρ' S
/-- no slot holds a list of its own -/
def noOl (ρ : Env) : Bool := ρ.all fun c => match c with
  | some (.ol _) => false
  | some (.od _) => false
  | _ => true
/-- each number once -/
def dist (is : List Int) : List Int := is.foldl (fun us y => if y ∈ us then us else y :: us) []
def insU (x : Int) : List Int → List Int
  | [] => [x]
  | y :: ys => if x < y then x :: y :: ys else if x = y then y :: ys else y :: insU x ys
/-- ascending, each once -/
def sortU (is : List Int) : List Int := is.foldr insU []
/-- what f gives, one after another -/
def mapC (f : PV → Store → R PV) : List PV → Store → R (List PV)
  | [], S => .ok [] S
  | x :: xs, S => (f x S).bind fun y S' => (mapC f xs S').bind fun ys S'' => .ok (y :: ys) S''
/-- one turn after another; f tells the items that a turn adds -/
def compL (f : PV → Store → R (List PV)) : List PV → Store → R (List PV)
  | [], S => .ok [] S
  | x :: xs, S => (f x S).bind fun ys S' => (compL f xs S').bind fun zs S'' => .ok (ys ++ zs) S''
mutual
def E.ev (cf : CallF) : E → Env → Store → R PV
  | .c p, _, S => .ok p S
  | .v i, ρ, S => match ρ[i]? with
    | some (some (.val p)) => .ok p S
    | _ => .bad
  | .peek i, ρ, S => match ρ[i]? with
    | some (some c) => .ok c.pv S
    | _ => .bad
  | .bin o a b, ρ, S => (a.ev cf ρ S).bind fun x S => (b.ev cf ρ S).bind fun y S => R.of (o.ev x y) S
  | .neg a, ρ, S => (a.ev cf ρ S).bind fun x S => match x with
    | .int i => .ok (.int (-i)) S
    | _ => .bad
  | .cmp o a b, ρ, S => (a.ev cf ρ S).bind fun x S => (b.ev cf ρ S).bind fun y S => R.of ((o.ev x y).map .bl) S
  | .chain o o' a b c, ρ, S => (a.ev cf ρ S).bind fun x S => (b.ev cf ρ S).bind fun y S => (R.of (o.ev x y) S).bind fun k S =>
      if k then (c.ev cf ρ S).bind fun z S => R.of ((o'.ev y z).map .bl) S else .ok (.bl false) S
  | .and a b, ρ, S => (a.ev cf ρ S).bind fun x S => (R.of x.truth S).bind fun k S => if k then b.ev cf ρ S else .ok x S
  | .or a b, ρ, S => (a.ev cf ρ S).bind fun x S => (R.of x.truth S).bind fun k S => if k then .ok x S else b.ev cf ρ S
  | .not a, ρ, S => (a.ev cf ρ S).bind fun x S => (R.of x.truth S).bind fun k S => .ok (.bl !k) S
  | .ite t a b, ρ, S => (t.ev cf ρ S).bind fun x S => (R.of x.truth S).bind fun k S => if k then a.ev cf ρ S else b.ev cf ρ S
  | .tup es, ρ, S => (es.ev cf ρ S).bind fun xs S => .ok (.tup xs) S
  | .lst es, ρ, S => (es.ev cf ρ S).bind fun xs S => .ok (.lst xs) S
  | .idx a i, ρ, S => (a.ev cf ρ S).bind fun x S => (i.ev cf ρ S).bind fun y S => R.of (idxEv x y) S
  | .slc a lo hi, ρ, S => (a.ev cf ρ S).bind fun x S => (lo.ev cf ρ S).bind fun l S => (hi.ev cf ρ S).bind fun h S => R.of (slcEv x l h) S
  | .call f es, ρ, S => (es.ev cf ρ S).bind fun xs S => cf f xs S
  | .b1 f a, ρ, S => (a.ev cf ρ S).bind fun x S => R.of (f.ev x) S
  | .idxOf a b, ρ, S => (a.ev cf ρ S).bind fun x S => (b.ev cf ρ S).bind fun y S => R.of (idxOfV x y) S
  | .lenset a, ρ, S => (a.ev cf ρ S).bind fun x S => R.of (lenSetV x) S
  | .srtk f a, ρ, S => (a.ev cf ρ S).bind fun x S => (R.of (sortItems x) S).bind fun xs S => (mapC (fun y S => cf f [y] S) xs S).bind fun ks S => (R.of (sortV ks xs) S).bind fun ys S => .ok (.lst ys) S
  | .isi a t, ρ, S => (a.ev cf ρ S).bind fun x S => R.of ((t.ev x).map .bl) S
  | .comp vs tg it cd el, ρ, S => (it.ev cf ρ S).bind fun xs S => (compL (fun x S => match tg.bind x (wipeR ρ vs) with
      | none => .bad
      | some ρ' => (cd.tst cf ρ' S).bind fun k S => if k then (el.ev cf ρ' S).bind fun y S => .ok [y] S else .ok [] S) xs S).bind fun ys S => .ok (.lst ys) S
  | .min2 a b, ρ, S => (a.ev cf ρ S).bind fun x S => (b.ev cf ρ S).bind fun y S => R.of (min2V x y) S
  | .dcomp vs tg it cd k el, ρ, S => (it.ev cf ρ S).bind fun xs S => (compL (fun x S => match tg.bind x (wipeR ρ vs) with
      | none => .bad
      | some ρ' => (cd.tst cf ρ' S).bind fun b S => if b then (k.ev cf ρ' S).bind fun y S => (el.ev cf ρ' S).bind fun z S => .ok [.tup [y, z]] S else .ok [] S) xs S).bind fun ys S => R.of ((dMk ys []).map .dct) S
  | .sset vs t1 i1 t2 i2 t3 i3 el, ρ, S => if noOl ρ then (i1.ev cf ρ S).bind fun xs S => (compL (fStep t1 (fun ρ S => (i2.ev cf ρ S).bind fun xs S => compL (fStep t2 (fun ρ S => (i3.ev cf ρ S).bind fun xs S => compL (fStep t3 (fun ρ S => (el.ev cf ρ S).bind fun y S => .ok [y] S) ρ) xs S) ρ) xs S) (wipeR ρ vs)) xs S).bind fun ys S =>
        match allInts ys with
        | some is => if (dist is).length < 64 then .ok (.lst ((sortU is).map .int)) S else .bad
        | none => .bad
      else .bad
def Es.ev (cf : CallF) : Es → Env → Store → R (List PV)
  | .nil, _, S => .ok [] S
  | .cons e es, ρ, S => (e.ev cf ρ S).bind fun x S => (es.ev cf ρ S).bind fun xs S => .ok (x :: xs) S
  | .star e es, ρ, S => (e.ev cf ρ S).bind fun x S => (R.of (starOf x) S).bind fun ys S => (es.ev cf ρ S).bind fun zs S => if ys.length + zs.length ≤ 65536 then .ok (ys ++ zs) S else .bad
def OE.ev (cf : CallF) : OE → Env → Store → R (Option Int)
  | .none, _, S => .ok none S
  | .some e, ρ, S => (e.ev cf ρ S).bind fun x S => match x with
    | .int i => .ok (some i) S
    | _ => .bad
/-- a clause's test -/
def OE.tst (cf : CallF) : OE → Env → Store → R Bool
  | .none, _, S => .ok true S
  | .some e, ρ, S => (e.ev cf ρ S).bind fun x S => R.of x.truth S
def It.ev (cf : CallF) : It → Env → Store → R (List PV)
  | .of e, ρ, S => (e.ev cf ρ S).bind fun x S => R.of (iterOf x) S
  | .rng a, ρ, S => (a.ev cf ρ S).bind fun x S => match x with
    | .int j => if rngOk j then .ok (upto 0 j.toNat) S else .bad
    | _ => .bad
  | .rng2 a b, ρ, S => (a.ev cf ρ S).bind fun x S => (b.ev cf ρ S).bind fun y S => match x, y with
    | .int i, .int j => if rngOk i && rngOk j && decide (j - i ≤ 16777216) then .ok (upto i (j - i).toNat) S else .bad
    | _, _ => .bad
  | .enum e, ρ, S => (e.ev cf ρ S).bind fun x S => match x with
    | .lst xs => .ok (numbered 0 xs) S
    | .tup xs => .ok (numbered 0 xs) S
    | _ => .bad
  | .rev e, ρ, S => (e.ev cf ρ S).bind fun x S => match x with
    | .lst xs => .ok xs.reverse S
    | .tup xs => .ok xs.reverse S
    | _ => .bad
end

/-! ### patterns: none: not carried here; some none: no match -/
def altM : List PV → PV → Option (Option (List (Nat × PV)))
  | [], _ => some none
  | c :: cs, v => match eqV' v c with
    | some true => some (some [])
    | some false => altM cs v
    | none => none
def Pt.m : Pt → PV → Option (Option (List (Nat × PV)))
  | .val c, v => altM [c] v
  | .alt cs, v => altM cs v
  | .cap i, v => some (some [(i, v)])
  | .wild, _ => some (some [])
def ptsM : List Pt → List PV → Option (Option (List (Nat × PV)))
  | [], [] => some (some [])
  | p :: ps, v :: vs => match p.m v with
    | some (some bs) => (match ptsM ps vs with
      | some (some cs) => some (some (bs ++ cs))
      | r => r)
    | r => r
  | _, _ => none
def Pat.m : Pat → PV → Option (Option (List (Nat × PV)))
  | .one p, v => p.m v
  | .seq ps, .tup xs => if xs.length = ps.length then ptsM ps xs else some none
  | .seq _, .non => some none
  | .seq _, .bl _ => some none
  | .seq _, .int _ => some none
  | .seq _, .str _ => some none
  | .seq _, _ => none
  | .seqs ps i, .tup xs => if ps.length ≤ xs.length && decide (xs.length ≤ 16384) then (match ptsM ps (xs.take ps.length) with
      | some (some bs) => some (some (bs ++ [(i, .lst (xs.drop ps.length))]))
      | r => r) else (if xs.length < ps.length then some none else none)
  | .seqs _ _, .non => some none
  | .seqs _ _, .bl _ => some none
  | .seqs _ _, .int _ => some none
  | .seqs _ _, .str _ => some none
  | .seqs _ _, _ => none
def bindAll (bs : List (Nat × PV)) (ρ : Env) : Env := bs.foldl (fun ρ b => setS ρ b.1 (.val b.2)) ρ

/-! ### statements -/
inductive RS where
  | nx (ρ : Env) (S : Store) | rt (p : PV) (S : Store) | ex (x : PV) (ρ : Env) (S : Store) | bk (ρ : Env) (S : Store) | ct (ρ : Env) (S : Store) | bad
/-- an expression's end as a statement's -/
def R.st (r : R PV) (ρ : Env) (f : PV → Store → RS) : RS :=
  match r with
  | .ok a S => f a S
  | .exc x S => .ex x ρ S
  | .bad => .bad
def forL (tg : Tg) (f : Env → Store → RS) : List PV → Env → Store → RS
  | [], ρ, S => .nx ρ S
  | x :: xs, ρ, S => match tg.bind x ρ with
    | none => .bad
    | some ρ' => match f ρ' S with
      | .nx ρ S => forL tg f xs ρ S
      | .ct ρ S => forL tg f xs ρ S
      | .bk ρ S => .nx ρ S
      | r => r
def whileL (t : Env → Store → R Bool) (f : Env → Store → RS) : Nat → Env → Store → RS
  | 0, _, _ => .bad
  | n + 1, ρ, S => match t ρ S with
    | .ok true S => (match f ρ S with
      | .nx ρ S => whileL t f n ρ S
      | .ct ρ S => whileL t f n ρ S
      | .bk ρ S => .nx ρ S
      | r => r)
    | .ok false S => .nx ρ S
    | .exc x S => .ex x ρ S
    | .bad => .bad
mutual
def Stm.ev (cf : CallF) : Stm → Env → Store → RS
  | .asg t e, ρ, S => (e.ev cf ρ S).st ρ fun x S => match t.bind x ρ with
    | some ρ => .nx ρ S
    | none => .bad
  | .mkl i e, ρ, S => (e.ev cf ρ S).st ρ fun x S => match x with
    | .lst xs => .nx (setS ρ i (.ol xs)) S
    | _ => .bad
  | .frz is, ρ, S => .nx (frzs ρ is) S
  | .app i e, ρ, S => (e.ev cf ρ S).st ρ fun x S => match ρ[i]? with
    | some (some (.ol xs)) => if xs.length < lineN then .nx (setS ρ i (.ol (xs ++ [x]))) S else .bad
    | _ => .bad
  | .ext i e, ρ, S => (e.ev cf ρ S).st ρ fun x S => match ρ[i]?, x with
    | some (some (.ol xs)), .lst ys => if xs.length + ys.length ≤ 65536 then .nx (setS ρ i (.ol (xs ++ ys))) S else .bad
    | _, _ => .bad
  | .pop j i, ρ, S => match ρ[i]? with
    | some (some (.ol xs)) => (match xs.getLast? with
      | some x => .nx (setS (setS ρ i (.ol xs.dropLast)) j (.val x)) S
      | none => .bad)
    | _ => .bad
  | .seti i k e, ρ, S => (e.ev cf ρ S).st ρ fun x S => (k.ev cf ρ S).st ρ fun y S => match ρ[i]?, y with
    | some (some (.ol xs)), .int z => (match ixOf xs.length z with
      | some n => .nx (setS ρ i (.ol (xs.set n x))) S
      | none => .bad)
    | _, _ => .bad
  | .ret e, ρ, S => (e.ev cf ρ S).st ρ fun x S => .rt x S
  | .expr e, ρ, S => (e.ev cf ρ S).st ρ fun _ S => .nx ρ S
  | .ife t a b, ρ, S => (t.ev cf ρ S).st ρ fun x S => match x.truth with
    | some true => a.ev cf ρ S
    | some false => b.ev cf ρ S
    | none => .bad
  | .for_ t it b, ρ, S => match it.ev cf ρ S with
    | .ok xs S => forL t (fun ρ S => b.ev cf ρ S) xs ρ S
    | .exc x S => .ex x ρ S
    | .bad => .bad
  | .while_ t b, ρ, S => whileL (fun ρ S => (t.ev cf ρ S).bind fun x S => R.of x.truth S) (fun ρ S => b.ev cf ρ S) 1000000 ρ S
  | .brk, ρ, S => .bk ρ S
  | .cnt, ρ, S => .ct ρ S
  | .pass, ρ, S => .nx ρ S
  | .nvr, _, _ => .bad
  | .mtch e cs, ρ, S => (e.ev cf ρ S).st ρ fun x S => cs.ev cf x ρ S
def Stms.ev (cf : CallF) : Stms → Env → Store → RS
  | .nil, ρ, S => .nx ρ S
  | .cons s ss, ρ, S => match s.ev cf ρ S with
    | .nx ρ S => ss.ev cf ρ S
    | r => r
def Cases.ev (cf : CallF) : Cases → PV → Env → Store → RS
  | .nil, _, ρ, S => .nx ρ S
  | .cons p b r, x, ρ, S => match p.m x with
    | some (some bs) => b.ev cf (bindAll bs ρ) S
    | some none => r.ev cf x ρ S
    | none => .bad
end

/-! ### calls -/
def FDef.run (d : FDef) (cf : CallF) (xs : List PV) (S : Store) : R PV :=
  if xs.length = d.npar then
    match d.body.ev cf (xs.map (fun x => some (.val x)) ++ List.replicate (d.nslot - d.npar) none) S with
    | .rt p S => .ok p S
    | .nx _ S => .ok .non S
    | .ex x _ S => .exc x S
    | _ => .bad
  else .bad
/-- calls nested at most n deep, by a table of defs -/
def callN (G : FN → Option FDef) : Nat → CallF
  | 0, _, _, _ => .bad
  | n + 1, f, xs, S => match G f with
    | some d => d.run (callN G n) xs S
    | none => .bad
end A3

-- SrtP
set_option linter.all false
set_option maxRecDepth 100000
/-! SrtP: the order of the rows of signs; sorting by insertion is the stable sort. -/
namespace A3
theorem txLt_irrefl (a : Tx) : ¬ a < a := List.lt_irrefl a
theorem tokLt_irrefl : ∀ a : Tok, tokLt a a = false
  | .inl a => by simp [tokLt]
  | .inr a => by
    have : ¬ (a < a) := List.lt_irrefl a
    simp [tokLt, this]
theorem tokLt_asymm {a b : Tok} (h : tokLt a b = true) : tokLt b a = false := by
  cases a <;> cases b <;> simp only [tokLt, decide_eq_true_eq, decide_eq_false_iff_not] at h ⊢
  · omega
  · cases h
  · exact List.not_lt.mpr (List.le_of_lt h)
theorem tok_eq {a b : Tok} (h1 : tokLt a b = false) (h2 : tokLt b a = false) : a = b := by
  cases a <;> cases b <;> simp only [tokLt, decide_eq_false_iff_not] at h1 h2
  · congr 1; omega
  · cases h1
  · cases h2
  · congr 1
    exact List.le_antisymm (List.not_lt.mp h2) (List.not_lt.mp h1)
theorem tokLt_trans {a b c : Tok} (h1 : tokLt a b = true) (h2 : tokLt b c = true) : tokLt a c = true := by
  cases a <;> cases b <;> cases c <;> simp only [tokLt, decide_eq_true_eq] at h1 h2 ⊢
  all_goals first | omega | (cases h1; done) | (cases h2; done) | exact List.lt_trans h1 h2 | trivial
theorem toksLt_self (x : Tok) (r t : List Tok) : toksLt (x :: r) (x :: t) = toksLt r t := by
  show (tokLt x x || (!tokLt x x && toksLt r t)) = _
  rw [tokLt_irrefl]; rfl
theorem toksLt_pre : ∀ (p a b : List Tok), toksLt (p ++ a) (p ++ b) = toksLt a b
  | [], _, _ => rfl
  | x :: p, a, b => by rw [List.cons_append, List.cons_append, toksLt_self, toksLt_pre p a b]
theorem toksLt_irrefl (a : List Tok) : toksLt a a = false := by
  have := toksLt_pre a [] []
  rw [List.append_nil] at this
  rw [this]; rfl
theorem toksLt_ne {x y : Tok} (h : x ≠ y) (r t : List Tok) : toksLt (x :: r) (y :: t) = tokLt x y := by
  show (tokLt x y || (!tokLt y x && toksLt r t)) = _
  cases h1 : tokLt x y with
  | true => rfl
  | false =>
    cases h2 : tokLt y x with
    | true => rfl
    | false => exact absurd (tok_eq h1 h2) h
theorem toksLt_asymm : ∀ {a b : List Tok}, toksLt a b = true → toksLt b a = false
  | [], [], h => by cases h
  | [], _ :: _, _ => rfl
  | _ :: _, [], h => by cases h
  | x :: r, y :: t, h => by
    by_cases e : x = y
    · subst e
      rw [toksLt_self] at h ⊢
      exact toksLt_asymm h
    · rw [toksLt_ne e] at h
      rw [toksLt_ne (Ne.symm e)]
      exact tokLt_asymm h
theorem toks_eq : ∀ {a b : List Tok}, toksLt a b = false → toksLt b a = false → a = b
  | [], [], _, _ => rfl
  | [], _ :: _, h, _ => by cases h
  | _ :: _, [], _, h => by cases h
  | x :: r, y :: t, h1, h2 => by
    by_cases e : x = y
    · subst e
      rw [toksLt_self] at h1 h2
      rw [toks_eq h1 h2]
    · rw [toksLt_ne e] at h1
      rw [toksLt_ne (Ne.symm e)] at h2
      exact absurd (tok_eq h1 h2) e
theorem toksLt_trans : ∀ {a b c : List Tok}, toksLt a b = true → toksLt b c = true → toksLt a c = true
  | [], _, [], h1, h2 => by
    rename_i b
    cases b <;> first | (cases h1; done) | (cases h2; done)
  | [], _, _ :: _, _, _ => rfl
  | _ :: _, [], _, h, _ => by cases h
  | _ :: _, _ :: _, [], _, h => by cases h
  | x :: r, y :: t, z :: u, h1, h2 => by
    by_cases e : x = y
    · subst e
      rw [toksLt_self] at h1
      by_cases e2 : x = z
      · subst e2
        rw [toksLt_self] at h2 ⊢
        exact toksLt_trans h1 h2
      · rw [toksLt_ne e2] at h2 ⊢; exact h2
    · rw [toksLt_ne e] at h1
      by_cases e2 : y = z
      · subst e2
        rw [toksLt_ne e]; exact h1
      · rw [toksLt_ne e2] at h2
        have e3 : x ≠ z := by
          rintro rfl
          rw [tokLt_asymm h1] at h2; cases h2
        rw [toksLt_ne e3]; exact tokLt_trans h1 h2
/-- a ≤ b, as the stable sort asks it -/
def leOf {α : Type} (lt : α → α → Bool) (a b : α) : Bool := !lt b a
theorem le_trans' {α : Type} (f : α → List Tok) (a b c : α) : leOf (fun x y => toksLt (f x) (f y)) a b = true → leOf (fun x y => toksLt (f x) (f y)) b c = true → leOf (fun x y => toksLt (f x) (f y)) a c = true := by
  unfold leOf
  simp only [Bool.not_eq_true']
  intro h1 h2
  cases h : toksLt (f c) (f a) with
  | false => rfl
  | true =>
    by_cases e : f b = f a
    · rw [e] at h2; rw [h] at h2; cases h2
    · have : toksLt (f a) (f b) = true := by
        cases q : toksLt (f a) (f b) with
        | true => rfl
        | false => exact absurd (toks_eq h1 q) e
      have := toksLt_trans h this
      rw [this] at h2; cases h2
theorem le_total' {α : Type} (f : α → List Tok) (a b : α) : (leOf (fun x y => toksLt (f x) (f y)) a b || leOf (fun x y => toksLt (f x) (f y)) b a) = true := by
  show (!toksLt (f b) (f a) || !toksLt (f a) (f b)) = true
  cases h : toksLt (f b) (f a) with
  | false => rfl
  | true => rw [toksLt_asymm h]; rfl
theorem insL_at {α : Type} {lt : α → α → Bool} {x : α} : ∀ {l₁ l₂ : List α}, (∀ b ∈ l₁, lt b x = true) → (∀ b, l₂.head? = some b → lt b x = false) → insL lt x (l₁ ++ l₂) = l₁ ++ x :: l₂
  | [], [], _, _ => rfl
  | [], b :: l₂, _, h => by
    show (if lt b x then _ else _) = _
    rw [h b rfl]; rfl
  | b :: l₁, l₂, h, h2 => by
    show (if lt b x then b :: insL lt x (l₁ ++ l₂) else _) = _
    rw [h b List.mem_cons_self, if_pos rfl, insL_at (fun c hc => h c (List.mem_cons_of_mem _ hc)) h2]; rfl
theorem sortL_merge {α : Type} (f : α → List Tok) : ∀ (xs : List α), sortL (fun x y => toksLt (f x) (f y)) xs = xs.mergeSort (leOf fun x y => toksLt (f x) (f y))
  | [] => by simp [sortL]
  | x :: xs => by
    have ih := sortL_merge f xs
    obtain ⟨l₁, l₂, h1, h2, h3⟩ := List.mergeSort_cons (le := leOf fun x y => toksLt (f x) (f y)) (le_trans' f) (le_total' f) x xs
    have hs := List.pairwise_mergeSort (le := leOf fun x y => toksLt (f x) (f y)) (le_trans' f) (le_total' f) (x :: xs)
    rw [h1] at hs ⊢
    show insL _ x (sortL _ xs) = _
    rw [ih, h2]
    refine insL_at (fun b hb => ?_) fun b hb => ?_
    · have := h3 b hb
      unfold leOf at this
      simpa using this
    · have hp := (List.pairwise_append.mp hs).2.1
      have := (List.pairwise_cons.mp hp).1 b (by
        cases l₂ with
        | nil => cases hb
        | cons c l => cases hb; exact List.mem_cons_self)
      unfold leOf at this
      simpa using this
/-- sorting goes with a map under which the order is the same -/
theorem insL_map {α β : Type} (g : α → β) {lt : α → α → Bool} {lt' : β → β → Bool} : ∀ (x : α) (xs : List α), (∀ y ∈ xs, lt y x = lt' (g y) (g x)) → (insL lt x xs).map g = insL lt' (g x) (xs.map g)
  | x, [], _ => rfl
  | x, y :: ys, h => by
    show (if lt y x = true then y :: insL lt x ys else x :: y :: ys).map g = if lt' (g y) (g x) = true then g y :: insL lt' (g x) (ys.map g) else g x :: g y :: ys.map g
    rw [← h y List.mem_cons_self]
    cases lt y x with
    | true =>
      simp only [if_true, List.map_cons]
      rw [insL_map g x ys fun z hz => h z (List.mem_cons_of_mem _ hz)]
    | false => simp
theorem mem_insL {α : Type} {lt : α → α → Bool} {x y : α} : ∀ {xs : List α}, y ∈ insL lt x xs ↔ y = x ∨ y ∈ xs
  | [] => by simp [insL]
  | z :: zs => by
    unfold insL
    split
    · rw [List.mem_cons, mem_insL (xs := zs), List.mem_cons]
      constructor
      · rintro (h | h | h)
        · exact .inr (.inl h)
        · exact .inl h
        · exact .inr (.inr h)
      · rintro (h | h | h)
        · exact .inr (.inl h)
        · exact .inl h
        · exact .inr (.inr h)
    · rw [List.mem_cons]
theorem mem_sortL {α : Type} {lt : α → α → Bool} {y : α} : ∀ {xs : List α}, y ∈ sortL lt xs ↔ y ∈ xs
  | [] => by simp [sortL]
  | x :: xs => by
    show y ∈ insL lt x (sortL lt xs) ↔ _
    rw [mem_insL, mem_sortL, List.mem_cons]
theorem sortL_map {α β : Type} (g : α → β) {lt : α → α → Bool} {lt' : β → β → Bool} : ∀ (xs : List α), (∀ x ∈ xs, ∀ y ∈ xs, lt y x = lt' (g y) (g x)) → (sortL lt xs).map g = sortL lt' (xs.map g)
  | [], _ => rfl
  | x :: xs, h => by
    show (insL lt x (sortL lt xs)).map g = insL lt' (g x) (sortL lt' (xs.map g))
    rw [insL_map g x _ fun y hy => h x List.mem_cons_self y (List.mem_cons_of_mem _ (mem_sortL.mp hy)), sortL_map g xs fun a ha b hb => h a (List.mem_cons_of_mem _ ha) b (List.mem_cons_of_mem _ hb)]
theorem length_insL {α : Type} {lt : α → α → Bool} {x : α} : ∀ {xs : List α}, (insL lt x xs).length = xs.length + 1
  | [] => rfl
  | z :: zs => by
    unfold insL
    split
    · rw [List.length_cons, length_insL]; rfl
    · rfl
theorem length_sortL {α : Type} {lt : α → α → Bool} : ∀ {xs : List α}, (sortL lt xs).length = xs.length
  | [] => rfl
  | x :: xs => by
    show (insL lt x (sortL lt xs)).length = _
    rw [length_insL, length_sortL]; rfl

/-! ### what can be compared -/
mutual
theorem toks_eqv : ∀ (x y : PV), PV.cmpb x y = true → (PV.eqv x y = true → x.toks = y.toks) ∧ (PV.eqv x y = false → ∀ l m, toksLt (x.toks ++ l) (y.toks ++ m) = toksLt x.toks y.toks)
  | .bl a, y, h => by
    cases y with
    | bl b =>
      refine ⟨fun e => ?_, fun e l m => ?_⟩
      · have : a = b := by simpa [PV.eqv] using e
        rw [this]
      · have hne : (Sum.inl (if a then 1 else 0) : Tok) ≠ .inl (if b then 1 else 0) := by
          intro z
          cases a <;> cases b <;> simp [PV.eqv] at e <;> simp at z
        unfold PV.toks
        rw [List.cons_append, List.cons_append, toksLt_ne hne, toksLt_ne hne]
    | _ => cases h
  | .int a, y, h => by
    cases y with
    | int b =>
      refine ⟨fun e => ?_, fun e l m => ?_⟩
      · have : a = b := by simpa [PV.eqv] using e
        rw [this]
      · have hne : (Sum.inl a : Tok) ≠ .inl b := by
          intro z
          cases z
          simp [PV.eqv] at e
        unfold PV.toks
        rw [List.cons_append, List.cons_append, toksLt_ne hne, toksLt_ne hne]
    | _ => cases h
  | .str a, y, h => by
    cases y with
    | str b =>
      refine ⟨fun e => ?_, fun e l m => ?_⟩
      · have : a = b := by simpa [PV.eqv] using e
        rw [this]
      · have hne : (Sum.inr a : Tok) ≠ .inr b := by
          intro z
          cases z
          simp [PV.eqv] at e
        unfold PV.toks
        rw [List.cons_append, List.cons_append, toksLt_ne hne, toksLt_ne hne]
    | _ => cases h
  | .tup xs, y, h => by
    cases y with
    | tup ys => exact toksL_eqv xs ys h
    | _ => cases h
  | .lst xs, y, h => by
    cases y with
    | lst ys => exact toksL_eqv xs ys h
    | _ => cases h
  | .non, _, h => by cases h
  | .dct _, _, h => by cases h
  | .ins _ _, _, h => by cases h
  | .obj _, _, h => by cases h
  | .fn _ _, _, h => by cases h
theorem toksL_eqv : ∀ (xs ys : List PV), PV.cmpbL xs ys = true → (PV.eqvL xs ys = true → PV.toksL xs = PV.toksL ys) ∧ (PV.eqvL xs ys = false → ∀ l m, toksLt (PV.toksL xs ++ l) (PV.toksL ys ++ m) = toksLt (PV.toksL xs) (PV.toksL ys))
  | [], [], _ => ⟨fun _ => rfl, fun e => by cases e⟩
  | [], y :: ys, _ => by
    refine ⟨fun e => (by cases e), fun _ l m => ?_⟩
    show toksLt (.inl 0 :: l) (.inl 1 :: (y.toks ++ PV.toksL ys ++ m)) = toksLt [.inl 0] (.inl 1 :: (y.toks ++ PV.toksL ys))
    rw [toksLt_ne (by decide), toksLt_ne (by decide)]
  | x :: xs, [], _ => by
    refine ⟨fun e => (by cases e), fun _ l m => ?_⟩
    show toksLt (.inl 1 :: (x.toks ++ PV.toksL xs ++ l)) (.inl 0 :: m) = toksLt (.inl 1 :: (x.toks ++ PV.toksL xs)) [.inl 0]
    rw [toksLt_ne (by decide), toksLt_ne (by decide)]
  | x :: xs, y :: ys, h => by
    have h : (PV.cmpb x y && (!PV.eqv x y || PV.cmpbL xs ys)) = true := h
    rw [Bool.and_eq_true] at h
    obtain ⟨h1, h2⟩ := h
    obtain ⟨a1, a2⟩ := toks_eqv x y h1
    have e0 : PV.eqvL (x :: xs) (y :: ys) = (PV.eqv x y && PV.eqvL xs ys) := rfl
    rw [e0]
    cases he : PV.eqv x y with
    | true =>
      rw [he] at h2
      obtain ⟨b1, b2⟩ := toksL_eqv xs ys (by simpa using h2)
      rw [Bool.true_and]
      have ex := a1 he
      refine ⟨fun e => ?_, fun e l m => ?_⟩
      · show Sum.inl 1 :: (x.toks ++ PV.toksL xs) = Sum.inl 1 :: (y.toks ++ PV.toksL ys)
        rw [ex, b1 e]
      · show toksLt (Sum.inl 1 :: (x.toks ++ PV.toksL xs) ++ l) (Sum.inl 1 :: (y.toks ++ PV.toksL ys) ++ m) = toksLt (Sum.inl 1 :: (x.toks ++ PV.toksL xs)) (Sum.inl 1 :: (y.toks ++ PV.toksL ys))
        rw [ex, List.cons_append, List.cons_append, List.append_assoc, List.append_assoc, toksLt_self, toksLt_pre, toksLt_self, toksLt_pre]
        exact b2 e l m
    | false =>
      refine ⟨fun e => by simp at e, fun _ l m => ?_⟩
      show toksLt (Sum.inl 1 :: (x.toks ++ PV.toksL xs) ++ l) (Sum.inl 1 :: (y.toks ++ PV.toksL ys) ++ m) = toksLt (Sum.inl 1 :: (x.toks ++ PV.toksL xs)) (Sum.inl 1 :: (y.toks ++ PV.toksL ys))
      rw [List.cons_append, List.cons_append, List.append_assoc, List.append_assoc, toksLt_self, toksLt_self, a2 he, a2 he]
end
/-- the order of rows of items: the first place that differs tells -/
theorem toksL_cons_eq {x y : PV} {xs ys : List PV} (h : PV.cmpb x y = true) (e : PV.eqv x y = true) : toksLt (PV.toksL (x :: xs)) (PV.toksL (y :: ys)) = toksLt (PV.toksL xs) (PV.toksL ys) := by
  show toksLt (Sum.inl 1 :: (x.toks ++ PV.toksL xs)) (Sum.inl 1 :: (y.toks ++ PV.toksL ys)) = _
  rw [(toks_eqv x y h).1 e, toksLt_self, toksLt_pre]
theorem toksL_cons_ne {x y : PV} {xs ys : List PV} (h : PV.cmpb x y = true) (e : PV.eqv x y = false) : toksLt (PV.toksL (x :: xs)) (PV.toksL (y :: ys)) = toksLt x.toks y.toks := by
  show toksLt (Sum.inl 1 :: (x.toks ++ PV.toksL xs)) (Sum.inl 1 :: (y.toks ++ PV.toksL ys)) = _
  rw [toksLt_self, (toks_eqv x y h).2 e]
end A3

-- Sim1
set_option Elab.async false
set_option linter.all false
set_option maxRecDepth 100000
set_option maxHeartbeats 4000000
/-! Sim1: how the model's values and states bear those of the own small language. -/
namespace A3
open PySem PySem.Spec PyProof.Rows L2

def toStr (s : Tx) : Str := ⟨s.toArray⟩
theorem toStr_inj {s t : Tx} (h : toStr s = toStr t) : s = t := by
  have e : s.toArray = t.toArray := congrArg Str.cps h
  have e2 := congrArg Array.toList e
  simpa using e2
theorem toStr_len (s : Tx) : (toStr s).length = s.length := by
  show s.toArray.size = s.length
  simp

/-- a text that the model holds: not too long, its codes are code points -/
def txOk (s : Tx) : Bool := decide (s.length ≤ sizeLine) && s.all fun c => decide (c < 0x110000)
theorem txOk_len {s : Tx} (h : txOk s = true) : s.length ≤ sizeLine := of_decide_eq_true (Bool.and_eq_true_iff.mp h).1
theorem txOk_strOk {s : Tx} (h : txOk s = true) : PySem.PyData.strOk (toStr s) = true := by
  have h2 := (Bool.and_eq_true_iff.mp h).2
  show (s.toArray.all fun c => decide (c < 0x110000)) = true
  simpa using h2
theorem txOk_append {s t : Tx} (h1 : txOk s = true) (h2 : txOk t = true) (hl : s.length + t.length ≤ sizeLine) : txOk (s ++ t) = true := by
  unfold txOk at *
  rw [Bool.and_eq_true] at *
  refine ⟨decide_eq_true (by rw [List.length_append]; exact hl), ?_⟩
  rw [List.all_append, h1.2, h2.2]; rfl
theorem txOk_sub {s t : Tx} (h : txOk s = true) (hs : ∀ c ∈ t, c ∈ s) (hl : t.length ≤ s.length) : txOk t = true := by
  unfold txOk at *
  rw [Bool.and_eq_true] at *
  refine ⟨decide_eq_true (Nat.le_trans hl (of_decide_eq_true h.1)), List.all_eq_true.mpr fun c hc => List.all_eq_true.mp h.2 c (hs c hc)⟩
theorem txOk_nil : txOk [] = true := by unfold txOk; rw [sizeLine_eq]; rfl

/-- the part of the heap that stays, the objects, the store -/
structure Wd where
  F : Hp
  Om : List Addr
  S : Store

/-- where the defs stand; the world -/
structure Fa where
  f : FN → Addr
  w : World
instance : CoeFun Fa fun _ => FN → Addr := ⟨Fa.f⟩
/-! ### dicts: an entry: the key's datum, the key, the value -/
abbrev DE := NestedKey × V × V
/-- what stands at d is the dict of these entries -/
def DcP (w : World) (d : Addr) (es : List DE) (h : Heap) : Prop :=
  (d == sysModules) = false ∧ es.length ≤ sizeLine ∧ (es.map (·.1)).Nodup ∧ ∃ (xs : List (NestedKey × Value × Value)) (o : Obj) (ds : Array DictEntry) (ep : Nat),
    Paired (fun (p : DE) (q : NestedKey × Value × Value) => p.1 = q.1 ∧ RelV p.2.1 q.2.1 ∧ RelV p.2.2 q.2.2) es xs ∧ h.get? d = some o ∧ o.ExactDict ∧ o.data = .dict ds ep ∧ ds.toList = xs.map fun x => (⟨x.1.hash w, x.2.1, x.2.2⟩ : DictEntry)
def DcO (w : World) (d : Addr) (es : List DE) : HO := .ext (DcP w d es)
mutual
/-- the datum of a key -/
def keyOf : PV → NestedKey
  | .int i => .num i
  | .str s => .text (toStr s)
  | .tup xs => .tup (keysOf xs)
  | _ => .none
def keysOf : List PV → List NestedKey
  | [] => []
  | x :: xs => keyOf x :: keysOf xs
end

section
variable (K : PySem.W.Frag) (fa : Fa) (W : Wd)
mutual
/-- v is the value p -/
inductive Rep : V → PV → Prop
  | non : Rep .non .non
  | bl (b : Bool) : Rep (.bl b) (.bl b)
  | int (i : Int) : Rep (.int i) (.int i)
  | str (s : Tx) (h : txOk s = true) : Rep (.str (toStr s)) (.str s)
  | tup {a : Addr} {xs : List V} {ps : List PV} : SqT K W.F a xs → RepL xs ps → ps.length ≤ sizeLine → Rep (.ref a) (.tup ps)
  | lst {a : Addr} {xs : List V} {ps : List PV} : SqL K W.F a xs → RepL xs ps → ps.length ≤ sizeLine → Rep (.ref a) (.lst ps)
  | fn (f : FN) : Rep (.ref (fa f)) (.fn f [])
  | obj {a : Addr} {n : Nat} : W.Om[n]? = some a → Rep (.ref a) (.obj n)
  | dct {a : Addr} {es : List DE} {kvs : List (PV × PV)} : W.F a = some (DcO fa.w a es) → RepD es kvs → Rep (.ref a) (.dct kvs)
inductive RepL : List V → List PV → Prop
  | nil : RepL [] []
  | cons {v : V} {vs : List V} {p : PV} {ps : List PV} : Rep v p → RepL vs ps → RepL (v :: vs) (p :: ps)
/-- the entries are these keys and values -/
inductive RepD : List DE → List (PV × PV) → Prop
  | nil : RepD [] []
  | cons {y z : V} {p q : PV} {es : List DE} {kvs : List (PV × PV)} : Rep y p → p.keyb = true → Rep z q → RepD es kvs → RepD ((keyOf p, y, z) :: es) ((p, q) :: kvs)
end
end

/-- what stays where more is known -/
structure Ext (H : Hp) (W : Wd) (H' : Hp) (W' : Wd) : Prop where
  hs : Same H H'
  fs : Same W.F W'.F
  new : ∀ b o, W'.F b = some o → W.F b = some o ∨ H b = none
  sub : Same W'.F H'
  om : ∀ (n : Nat) (a : Addr), W.Om[n]? = some a → W'.Om[n]? = some a
  st : W'.S = []
/-- the world's own form at a heap -/
structure Wf (W : Wd) (H : Hp) : Prop where
  sub : Same W.F H
  st : W.S = []
theorem Ext.wf {H H' : Hp} {W W' : Wd} (x : Ext H W H' W') : Wf W' H' := ⟨x.sub, x.st⟩
theorem Ext.refl {H : Hp} {W : Wd} (x : Wf W H) : Ext H W H W := ⟨fun _ _ e => e, fun _ _ e => e, fun _ _ e => .inl e, x.sub, fun _ _ e => e, x.st⟩
theorem Ext.trans {H H1 H2 : Hp} {W W1 W2 : Wd} (x : Ext H W H1 W1) (y : Ext H1 W1 H2 W2) : Ext H W H2 W2 := by
  refine ⟨fun b o e => y.hs b o (x.hs b o e), fun b o e => y.fs b o (x.fs b o e), fun b o e => ?_, y.sub, fun n a e => y.om n a (x.om n a e), y.st⟩
  rcases y.new b o e with z | z
  · exact x.new b o z
  · refine .inr ?_
    cases q : H b with
    | none => rfl
    | some u => rw [x.hs b u q] at z; cases z
/-- a new object that stays -/
theorem Ext.laid {H : Hp} {W : Wd} (x : Wf W H) {p : Addr} {o : HO} (hp : H p = none) : Ext H W (upd H p o) { W with F := upd W.F p o } := by
  refine ⟨fun b u e => ?_, fun b u e => ?_, fun b u e => ?_, fun b u e => ?_, fun _ _ e => e, x.st⟩
  · rw [upd_ne (ne_of_none e hp)]; exact e
  · show upd W.F p o b = some u
    rw [upd_ne (ne_of_none (x.sub b u e) hp)]; exact e
  · by_cases hb : b = p
    · subst hb; exact .inr hp
    · have e2 : upd W.F p o b = some u := e
      rw [upd_ne hb] at e2; exact .inl e2
  · have e2 : upd W.F p o b = some u := e
    by_cases hb : b = p
    · subst hb
      rw [upd_same] at e2 ⊢; exact e2
    · rw [upd_ne hb] at e2
      rw [upd_ne hb]; exact x.sub b u e2
/-- a new object that is not said to stay -/
theorem Ext.laidO {H : Hp} {W : Wd} (x : Wf W H) {p : Addr} {o : HO} (hp : H p = none) : Ext H W (upd H p o) W := by
  refine ⟨fun b u e => ?_, fun b u e => e, fun b u e => .inl e, fun b u e => ?_, fun _ _ e => e, x.st⟩
  · rw [upd_ne (ne_of_none e hp)]; exact e
  · rw [upd_ne (ne_of_none (x.sub b u e) hp)]; exact x.sub b u e

section
variable {K : PySem.W.Frag} {fa : Fa}
theorem Same.sqT {H H' : Hp} (k : Same H H') {a : Addr} {xs : List V} (h : SqT K H a xs) : SqT K H' a xs := by
  rcases h with (h | ⟨o, h⟩) | h
  · exact .inl (.inl (k _ _ h))
  · exact .inl (.inr ⟨o, k _ _ h⟩)
  · exact .inr h
theorem Same.sqL {H H' : Hp} (k : Same H H') {a : Addr} {xs : List V} (h : SqL K H a xs) : SqL K H' a xs := by
  rcases h with (h | ⟨o, h⟩) | h
  · exact .inl (.inl (k _ _ h))
  · exact .inl (.inr ⟨o, k _ _ h⟩)
  · exact .inr h
theorem Same.rd {H H' : Hp} (k : Same H H') {a : Addr} {u : HO} (h : Rd H a u) : Rd H' a u := by
  rcases h with h | ⟨o, h⟩
  · exact .inl (k _ _ h)
  · exact .inr ⟨o, k _ _ h⟩
mutual
theorem Rep.mono {W W' : Wd} (k : Same W.F W'.F) (om : ∀ (n : Nat) (a : Addr), W.Om[n]? = some a → W'.Om[n]? = some a) : ∀ {v : V} {p : PV}, Rep K fa W v p → Rep K fa W' v p
  | _, _, .non => .non
  | _, _, .bl b => .bl b
  | _, _, .int i => .int i
  | _, _, .str s h => .str s h
  | _, _, .tup h r z => .tup (Same.sqT k h) (RepL.mono k om r) z
  | _, _, .lst h r z => .lst (Same.sqL k h) (RepL.mono k om r) z
  | _, _, .fn f => .fn f
  | _, _, .obj h => .obj (om _ _ h)
  | _, _, .dct h r => .dct (k _ _ h) (RepD.mono k om r)
theorem RepL.mono {W W' : Wd} (k : Same W.F W'.F) (om : ∀ (n : Nat) (a : Addr), W.Om[n]? = some a → W'.Om[n]? = some a) : ∀ {vs : List V} {ps : List PV}, RepL K fa W vs ps → RepL K fa W' vs ps
  | _, _, .nil => .nil
  | _, _, .cons r t => .cons (Rep.mono k om r) (RepL.mono k om t)
theorem RepD.mono {W W' : Wd} (k : Same W.F W'.F) (om : ∀ (n : Nat) (a : Addr), W.Om[n]? = some a → W'.Om[n]? = some a) : ∀ {es : List DE} {kvs : List (PV × PV)}, RepD K fa W es kvs → RepD K fa W' es kvs
  | _, _, .nil => .nil
  | _, _, .cons r1 b r2 t => .cons (Rep.mono k om r1) b (Rep.mono k om r2) (RepD.mono k om t)
end
theorem Rep.ext {H H' : Hp} {W W' : Wd} (x : Ext H W H' W') {v : V} {p : PV} (r : Rep K fa W v p) : Rep K fa W' v p := r.mono x.fs x.om
theorem RepL.ext {H H' : Hp} {W W' : Wd} (x : Ext H W H' W') {v : List V} {p : List PV} (r : RepL K fa W v p) : RepL K fa W' v p := r.mono x.fs x.om
section
variable {W : Wd}
theorem RepL.length : ∀ {vs : List V} {ps : List PV}, RepL K fa W vs ps → vs.length = ps.length
  | _, _, .nil => rfl
  | _, _, .cons _ t => by simp [RepL.length t]
theorem RepL.append : ∀ {vs ws : List V} {ps qs : List PV}, RepL K fa W vs ps → RepL K fa W ws qs → RepL K fa W (vs ++ ws) (ps ++ qs)
  | _, _, _, _, .nil, h => h
  | _, _, _, _, .cons r t, h => .cons r (RepL.append t h)
theorem RepL.get : ∀ {vs : List V} {ps : List PV} {i : Nat} {p : PV}, RepL K fa W vs ps → ps[i]? = some p → ∃ v, vs[i]? = some v ∧ Rep K fa W v p
  | _, _, _, _, .nil, e => by simp at e
  | _, _, 0, _, .cons r _, e => by simp at e; subst e; exact ⟨_, rfl, r⟩
  | _, _, i + 1, p, .cons _ t, e => by
    obtain ⟨v, h1, h2⟩ := RepL.get (i := i) (p := p) t (by simpa using e)
    exact ⟨v, by simpa using h1, h2⟩
theorem RepL.getV : ∀ {vs : List V} {ps : List PV} {i : Nat} {v : V}, RepL K fa W vs ps → vs[i]? = some v → ∃ p, ps[i]? = some p ∧ Rep K fa W v p
  | _, _, _, _, .nil, e => by simp at e
  | _, _, 0, _, .cons r _, e => by simp at e; subst e; exact ⟨_, rfl, r⟩
  | _, _, i + 1, v, .cons _ t, e => by
    obtain ⟨p, h1, h2⟩ := RepL.getV (i := i) (v := v) t (by simpa using e)
    exact ⟨p, by simpa using h1, h2⟩
theorem RepL.take : ∀ {vs : List V} {ps : List PV} (n : Nat), RepL K fa W vs ps → RepL K fa W (vs.take n) (ps.take n)
  | _, _, 0, _ => .nil
  | _, _, _ + 1, .nil => .nil
  | _, _, n + 1, .cons r t => .cons r (RepL.take n t)
theorem RepL.drop : ∀ {vs : List V} {ps : List PV} (n : Nat), RepL K fa W vs ps → RepL K fa W (vs.drop n) (ps.drop n)
  | _, _, 0, h => h
  | _, _, _ + 1, .nil => .nil
  | _, _, n + 1, .cons _ t => RepL.drop n t
theorem RepL.set {v : V} {p : PV} (r : Rep K fa W v p) : ∀ {vs : List V} {ps : List PV} (n : Nat), RepL K fa W vs ps → RepL K fa W (vs.set n v) (ps.set n p)
  | _, _, _, .nil => .nil
  | _, _, 0, .cons _ t => .cons r t
  | _, _, n + 1, .cons q t => .cons q (RepL.set r n t)
theorem RepL.one {v : V} {p : PV} (r : Rep K fa W v p) : RepL K fa W [v] [p] := .cons r .nil
theorem RepL.reverse {vs : List V} {ps : List PV} (h : RepL K fa W vs ps) : RepL K fa W vs.reverse ps.reverse := by
  induction vs generalizing ps with
  | nil => cases h; exact .nil
  | cons v vs ih => cases h with | cons r t => rw [List.reverse_cons, List.reverse_cons]; exact (ih t).append (.one r)
theorem RepL.dropLast {vs : List V} {ps : List PV} (h : RepL K fa W vs ps) : RepL K fa W vs.dropLast ps.dropLast := by
  rw [List.dropLast_eq_take, List.dropLast_eq_take, h.length]; exact h.take _
theorem Rep.int_inv {v : V} {i : Int} (r : Rep K fa W v (.int i)) : v = .int i := by cases r; rfl
theorem Rep.bl_inv {v : V} {b : Bool} (r : Rep K fa W v (.bl b)) : v = .bl b := by cases r; rfl
theorem Rep.non_inv {v : V} (r : Rep K fa W v .non) : v = .non := by cases r; rfl
theorem Rep.str_inv {v : V} {s : Tx} (r : Rep K fa W v (.str s)) : v = .str (toStr s) ∧ txOk s = true := by cases r; exact ⟨rfl, by assumption⟩
theorem Rep.tup_inv {v : V} {ps : List PV} (r : Rep K fa W v (.tup ps)) : ∃ a xs, v = .ref a ∧ SqT K W.F a xs ∧ RepL K fa W xs ps ∧ ps.length ≤ sizeLine := by cases r with | tup h t z => exact ⟨_, _, rfl, h, t, z⟩
theorem Rep.lst_inv {v : V} {ps : List PV} (r : Rep K fa W v (.lst ps)) : ∃ a xs, v = .ref a ∧ SqL K W.F a xs ∧ RepL K fa W xs ps ∧ ps.length ≤ sizeLine := by cases r with | lst h t z => exact ⟨_, _, rfl, h, t, z⟩
end
end

/-! ### the slots -/
section
variable (K : PySem.W.Frag) (fa : Fa)
def CellOk (W : Wd) (H : Hp) (v : V) : Cell → Prop
  | .val p => Rep K fa W v p
  | .ol ps => ∃ a xs, v = .ref a ∧ W.F a = none ∧ H a = some (.lst xs) ∧ RepL K fa W xs ps ∧ ps.length ≤ sizeLine
  | .od _ => False
structure Slots (W : Wd) (σ : L2.St) (ρ : Env) (H : Hp) : Prop where
  len : σ.length = ρ.length
  cell : ∀ (i : Nat) (c : Cell), ρ[i]? = some (some c) → ∃ v, σ[i]? = some (some v) ∧ CellOk K fa W H v c
  apart : ∀ (i j : Nat) (ps qs : List PV), i ≠ j → ρ[i]? = some (some (.ol ps)) → ρ[j]? = some (some (.ol qs)) → σ[i]? ≠ σ[j]?
end
section
variable {K : PySem.W.Frag} {fa : Fa} {W W' : Wd} {H H' : Hp} {σ : L2.St} {ρ : Env}
theorem CellOk.ext (x : Ext H W H' W') {v : V} {c : Cell} (h : CellOk K fa W H v c) : CellOk K fa W' H' v c := by
  cases c with
  | val p => exact Rep.ext x h
  | ol ps =>
    obtain ⟨a, xs, e, f, h, r, z⟩ := h
    refine ⟨a, xs, e, ?_, x.hs _ _ h, r.ext x, z⟩
    cases q : W'.F a with
    | none => rfl
    | some o =>
      rcases x.new a o q with z | z
      · rw [f] at z; cases z
      · rw [h] at z; cases z
  | od _ => exact h.elim
theorem Slots.ext (x : Ext H W H' W') (s : Slots K fa W σ ρ H) : Slots K fa W' σ ρ H' :=
  ⟨s.len, fun i c e => let ⟨v, h1, h2⟩ := s.cell i c e; ⟨v, h1, h2.ext x⟩, s.apart⟩
theorem Slots.val (s : Slots K fa W σ ρ H) {i : Nat} {p : PV} (e : ρ[i]? = some (some (.val p))) : ∃ v, σ[i]? = some (some v) ∧ Rep K fa W v p := s.cell i _ e
theorem Slots.ol (s : Slots K fa W σ ρ H) {i : Nat} {ps : List PV} (e : ρ[i]? = some (some (.ol ps))) : ∃ a xs, σ[i]? = some (some (.ref a)) ∧ W.F a = none ∧ H a = some (.lst xs) ∧ RepL K fa W xs ps ∧ ps.length ≤ sizeLine := by
  obtain ⟨v, h1, a, xs, rfl, h⟩ := s.cell i _ e
  exact ⟨a, xs, h1, h⟩
/-- a slot gets a value -/
theorem Slots.set (s : Slots K fa W σ ρ H) {i : Nat} {v : V} {p : PV} (r : Rep K fa W v p) : Slots K fa W (σ.set i (some v)) (setS ρ i (.val p)) H := by
  unfold setS
  refine ⟨by simp [s.len], fun j c e => ?_, fun j k ps qs hjk e1 e2 => ?_⟩
  · by_cases h : i = j
    · subst h
      by_cases hi : i < ρ.length
      · rw [List.getElem?_set_self hi] at e
        cases e
        exact ⟨v, List.getElem?_set_self (by rw [s.len]; exact hi), r⟩
      · rw [List.getElem?_eq_none (by simpa using hi)] at e; cases e
    · rw [List.getElem?_set_ne h] at e
      obtain ⟨u, h1, h2⟩ := s.cell j c e
      exact ⟨u, by rw [List.getElem?_set_ne h]; exact h1, h2⟩
  · have n1 : i ≠ j := by
      rintro rfl
      by_cases hi : i < ρ.length
      · rw [List.getElem?_set_self hi] at e1; cases e1
      · rw [List.getElem?_eq_none (by simpa using hi)] at e1; cases e1
    have n2 : i ≠ k := by
      rintro rfl
      by_cases hi : i < ρ.length
      · rw [List.getElem?_set_self hi] at e2; cases e2
      · rw [List.getElem?_eq_none (by simpa using hi)] at e2; cases e2
    rw [List.getElem?_set_ne n1] at e1 ⊢
    rw [List.getElem?_set_ne n2] at e2 ⊢
    exact s.apart j k ps qs hjk e1 e2
/-- a slot gets a list of its own -/
theorem Slots.setO (s : Slots K fa W σ ρ H) {i : Nat} {a : Addr} {xs : List V} {ps : List PV} (f : W.F a = none) (h : H a = some (.lst xs)) (r : RepL K fa W xs ps) (hz : ps.length ≤ sizeLine)
    (hn : ∀ (j : Nat) (qs : List PV), j ≠ i → ρ[j]? = some (some (.ol qs)) → σ[j]? ≠ some (some (.ref a))) : Slots K fa W (σ.set i (some (.ref a))) (setS ρ i (.ol ps)) H := by
  unfold setS
  refine ⟨by simp [s.len], fun j c e => ?_, fun j k ps' qs hjk e1 e2 => ?_⟩
  · by_cases hj : i = j
    · subst hj
      by_cases hi : i < ρ.length
      · rw [List.getElem?_set_self hi] at e
        cases e
        exact ⟨_, List.getElem?_set_self (by rw [s.len]; exact hi), a, xs, rfl, f, h, r, hz⟩
      · rw [List.getElem?_eq_none (by simpa using hi)] at e; cases e
    · rw [List.getElem?_set_ne hj] at e
      obtain ⟨u, h1, h2⟩ := s.cell j c e
      exact ⟨u, by rw [List.getElem?_set_ne hj]; exact h1, h2⟩
  · by_cases n1 : i = j
    · subst n1
      have hi : i < σ.length := by
        by_cases hi : i < ρ.length
        · rw [s.len]; exact hi
        · rw [List.getElem?_eq_none (by simpa using hi)] at e1; cases e1
      have n2 : i ≠ k := hjk
      rw [List.getElem?_set_self hi, List.getElem?_set_ne n2]
      rw [List.getElem?_set_ne n2] at e2
      exact fun q => hn k qs (Ne.symm n2) e2 q.symm
    · by_cases n2 : i = k
      · subst n2
        have hi : i < σ.length := by
          by_cases hi : i < ρ.length
          · rw [s.len]; exact hi
          · rw [List.getElem?_eq_none (by simpa using hi)] at e2; cases e2
        rw [List.getElem?_set_self hi, List.getElem?_set_ne n1]
        rw [List.getElem?_set_ne n1] at e1
        exact fun q => hn j ps' (Ne.symm n1) e1 q
      · rw [List.getElem?_set_ne n1] at e1 ⊢
        rw [List.getElem?_set_ne n2] at e2 ⊢
        exact s.apart j k ps' qs hjk e1 e2
end

/-! ### what an expression's run hands on -/
/-- the context of a claim about expressions: the written part, where the defs stand, what calls do -/
structure Ctx where
  K : PySem.W.Frag
  fa : Fa
  cf : CallF
def After {α β : Type} (rel : Wd → β → α → Prop) (W : Wd) (H : Hp) (r : R α) (Q : β → Hp → Prop) : Prop :=
  match r with
  | .ok p S => ∀ v H' W', Ext H W H' W' → W'.S = S → rel W' v p → Q v H'
  | .exc _ _ => False
  | .bad => False
theorem After.mono {α β : Type} {rel : Wd → β → α → Prop} {W : Wd} {H : Hp} {r : R α} {Q Q' : β → Hp → Prop} (h : After rel W H r Q) (hq : ∀ v H', Q v H' → Q' v H') : After rel W H r Q' := by
  cases r with
  | ok p S => exact fun v H' W' x e r => hq _ _ (h v H' W' x e r)
  | exc _ _ => exact h
  | bad => exact h
theorem After.start {α β : Type} {rel : Wd → β → α → Prop} {W W1 : Wd} {H H1 : Hp} {r : R α} {Q : β → Hp → Prop} (h : After rel W H r Q) (x : Ext H W H1 W1) : After rel W1 H1 r Q := by
  cases r with
  | ok p S => exact fun v H' W' y e r => h v H' W' (x.trans y) e r
  | exc _ _ => exact h
  | bad => exact h
/-- the first part of a run, then the rest -/
theorem After.bind {α β α' β' : Type} {rel : Wd → β → α → Prop} {rel' : Wd → β' → α' → Prop} {W : Wd} {H : Hp} {r : R α} {f : α → Store → R α'} {Q : β' → Hp → Prop} (h : After rel' W H (r.bind f) Q) :
    After rel W H r fun v H1 => ∃ p W1, Ext H W H1 W1 ∧ rel W1 v p ∧ r = .ok p W1.S ∧ After rel' W1 H1 (f p W1.S) Q := by
  cases r with
  | ok p S => exact fun v H1 W1 x e r => ⟨p, W1, x, r, by rw [e], by rw [e]; exact After.start (H := H) (W := W) (show After rel' W H (f p S) Q from h) x⟩
  | exc _ _ => exact h
  | bad => exact h
/-- the run's end by a choice -/
theorem After.of {α β : Type} {rel : Wd → β → α → Prop} {W : Wd} {H : Hp} {o : Option α} {S : Store} {Q : β → Hp → Prop} (h : After rel W H (R.of o S) Q) : ∃ p, o = some p ∧ After rel W H (.ok p S) Q := by
  cases o with
  | none => exact h.elim
  | some p => exact ⟨p, rfl, h⟩
/-- the end -/
theorem After.fin {α β : Type} {rel : Wd → β → α → Prop} {W : Wd} {H : Hp} {p : α} {Q : β → Hp → Prop} (h : After rel W H (.ok p W.S) Q) (wf : Wf W H) {v : β} (r : rel W v p) : Q v H := h v H W (.refl wf) rfl r
/-- the end, with a new object that stays -/
theorem After.lay {α β : Type} {rel : Wd → β → α → Prop} {W : Wd} {H : Hp} {p : α} {Q : β → Hp → Prop} (h : After rel W H (.ok p W.S) Q) (wf : Wf W H) {a : Addr} {o : HO} (ha : H a = none) {v : β} (r : rel { W with F := upd W.F a o } v p) : Q v (upd H a o) :=
  h v _ _ (.laid wf ha) rfl r

section
variable (C : Ctx)
abbrev Ctx.rep (W : Wd) (v : V) (p : PV) : Prop := Rep C.K C.fa W v p
abbrev Ctx.repL (W : Wd) (v : List V) (p : List PV) : Prop := RepL C.K C.fa W v p
/-- a value that is only looked at: it stays, or it is the list of a slot -/
def RelB (σ : L2.St) (ρ : Env) (W : Wd) (v : V) (p : PV) : Prop := Rep C.K C.fa W v p ∨ ∃ (i : Nat) (ps : List PV), ρ[i]? = some (some (.ol ps)) ∧ σ[i]? = some (some v) ∧ p = .lst ps
def tE (e : E) : TE := fun σ H Q => ∃ W ρ, Wf W H ∧ Slots C.K C.fa W σ ρ H ∧ After C.rep W H (e.ev C.cf ρ W.S) Q
def tB (e : E) : TE := fun σ H Q => ∃ W ρ, Wf W H ∧ Slots C.K C.fa W σ ρ H ∧ After (RelB C σ ρ) W H (e.ev C.cf ρ W.S) Q
def tEs (es : Es) : TA := fun σ H Q => ∃ W ρ, Wf W H ∧ Slots C.K C.fa W σ ρ H ∧ After C.repL W H (es.ev C.cf ρ W.S) Q
/-- a test -/
def tT (e : E) : TT := fun σ H Q => ∃ W ρ, Wf W H ∧ Slots C.K C.fa W σ ρ H ∧ After (fun _ (b c : Bool) => b = c) W H ((e.ev C.cf ρ W.S).bind fun x S => R.of x.truth S) Q
end
section
variable {X : Cx} {C : Ctx}
theorem _root_.L2.PE.weak {e : Expr} {t t' : TE} (h : PE X e t) (hw : ∀ σ H Q, t' σ H Q → t σ H Q) : PE X e t' := ⟨fun pins s σ H Q I q => h.run pins s σ H Q I (hw _ _ _ q)⟩
theorem _root_.L2.PT.weak {e : Expr} {t t' : TT} (h : PT X e t) (hw : ∀ σ H Q, t' σ H Q → t σ H Q) : PT X e t' := ⟨fun pins s σ H Q I q => h.run pins s σ H Q I (hw _ _ _ q)⟩
theorem _root_.L2.PW.weak {e : Expr} {t t' : TT} (h : PW X e t) (hw : ∀ σ H Q, t' σ H Q → t σ H Q) : PW X e t' := ⟨fun wh pins s σ H Q I q => h.run wh pins s σ H Q I (hw _ _ _ q)⟩
theorem _root_.L2.PA.weak {e : List Expr} {t t' : TA} (h : PA X e t) (hw : ∀ σ H Q, t' σ H Q → t σ H Q) : PA X e t' := ⟨fun pos pins s σ H Q I q => h.run pos pins s σ H Q I (hw _ _ _ q)⟩
/-- a value that stays may be looked at -/
theorem tB_of {e : Expr} {m : E} (h : PE X e (tE C m)) : PE X e (tB C m) := h.weak fun σ H Q ⟨W, ρ, wf, sl, q⟩ => ⟨W, ρ, wf, sl, by
  cases hr : m.ev C.cf ρ W.S with
  | ok p S => rw [hr] at q; exact fun v H' W' x e r => q v H' W' x e (.inl r)
  | exc _ _ => rw [hr] at q; exact q
  | bad => rw [hr] at q; exact q⟩
theorem RelB.ext {σ : L2.St} {ρ : Env} {W W' : Wd} {H H' : Hp} (x : Ext H W H' W') {v : V} {p : PV} (r : RelB C σ ρ W v p) : RelB C σ ρ W' v p := by
  rcases r with r | r
  · exact .inl (r.ext x)
  · exact .inr r
end
end A3

-- Sim2
set_option Elab.async false
set_option linter.all false
set_option maxRecDepth 100000
set_option maxHeartbeats 4000000
/-! Sim2: names, constants, operators, comparisons, tests. -/
namespace A3
open PySem PySem.Spec PyProof.Rows L2

section
variable {X : Cx} {C : Ctx}
/-! ### values that are looked at -/
/-- x is p at the heap H: p stays, or it is a list of a slot -/
def VB (C : Ctx) (W : Wd) (H : Hp) (x : V) (p : PV) : Prop := Rep C.K C.fa W x p ∨ ∃ a xs ps, x = .ref a ∧ p = .lst ps ∧ H a = some (.lst xs) ∧ RepL C.K C.fa W xs ps ∧ ps.length ≤ sizeLine
theorem RelB.vb {σ : L2.St} {ρ : Env} {W : Wd} {H : Hp} (sl : Slots C.K C.fa W σ ρ H) {v : V} {p : PV} (r : RelB C σ ρ W v p) : VB C W H v p := by
  rcases r with r | ⟨i, qs, e1, e2, e3⟩
  · exact .inl r
  · obtain ⟨a, xs, h1, h2, h3, h4, h5⟩ := sl.ol e1
    rw [e2] at h1
    cases h1
    exact .inr ⟨a, xs, qs, rfl, e3, h3, h4, h5⟩
theorem VB.lst {W : Wd} {H : Hp} (wf : Wf W H) {v : V} {ps : List PV} (r : VB C W H v (.lst ps)) : ∃ a xs, v = .ref a ∧ SqL C.K H a xs ∧ RepL C.K C.fa W xs ps ∧ ps.length ≤ sizeLine := by
  rcases r with r | ⟨a, xs, qs, e, e3, h, r⟩
  · obtain ⟨a, xs, rfl, h, r, z⟩ := r.lst_inv
    exact ⟨a, xs, rfl, Same.sqL wf.sub h, r, z⟩
  · cases e3
    exact ⟨a, xs, e, .inl (.inl h), r⟩
theorem VB.rep {W : Wd} {H : Hp} {v : V} {p : PV} (r : VB C W H v p) (hp : ∀ ps, p ≠ .lst ps) : Rep C.K C.fa W v p := by
  rcases r with r | ⟨_, _, qs, _, e3, _⟩
  · exact r
  · exact absurd e3 (hp qs)
theorem VB.tup {W : Wd} {H : Hp} {v : V} {ps : List PV} (r : VB C W H v (.tup ps)) : ∃ a xs, v = .ref a ∧ SqT C.K W.F a xs ∧ RepL C.K C.fa W xs ps ∧ ps.length ≤ sizeLine := (r.rep (fun _ => nofun)).tup_inv
theorem VB.int {W : Wd} {H : Hp} {v : V} {i : Int} (r : VB C W H v (.int i)) : v = .int i := (r.rep (fun _ => nofun)).int_inv
theorem VB.bl {W : Wd} {H : Hp} {v : V} {i : Bool} (r : VB C W H v (.bl i)) : v = .bl i := (r.rep (fun _ => nofun)).bl_inv
theorem VB.non {W : Wd} {H : Hp} {v : V} (r : VB C W H v .non) : v = .non := (r.rep (fun _ => nofun)).non_inv
theorem VB.str {W : Wd} {H : Hp} {v : V} {s : Tx} (r : VB C W H v (.str s)) : v = .str (toStr s) ∧ txOk s = true := (r.rep (fun _ => nofun)).str_inv
theorem VB.ext {W W' : Wd} {H H' : Hp} (x : Ext H W H' W') {v : V} {p : PV} (r : VB C W H v p) : VB C W' H' v p := by
  rcases r with r | ⟨a, xs, qs, e, e3, h, r, z⟩
  · exact .inl (r.ext x)
  · exact .inr ⟨a, xs, qs, e, e3, x.hs _ _ h, r.ext x, z⟩

/-! ### names, constants -/
theorem sim_v {x : Str} {i : Nat} {pos : Pos} (hN : X.N[i]? = some x) (hv : Vis X.env.scope x) (hd : (x == ("__debug__" : Str)) = false) (hcd : (x == ("__classdict__" : Str)) = false) : PE X (.Name x pos) (tE C (.v i)) :=
  (pe_var hN hv hd hcd).weak fun σ H Q ⟨W, ρ, wf, sl, q⟩ => by
    have q : After C.rep W H (match ρ[i]? with | some (some (.val p)) => R.ok p W.S | _ => .bad) Q := q
    split at q
    · rename_i p e
      obtain ⟨v, h1, h2⟩ := sl.val e
      exact ⟨v, h1, q.fin wf h2⟩
    · exact q.elim
theorem sim_peek {x : Str} {i : Nat} {pos : Pos} (hN : X.N[i]? = some x) (hv : Vis X.env.scope x) (hd : (x == ("__debug__" : Str)) = false) (hcd : (x == ("__classdict__" : Str)) = false) : PE X (.Name x pos) (tB C (.peek i)) :=
  (pe_var hN hv hd hcd).weak fun σ H Q ⟨W, ρ, wf, sl, q⟩ => by
    have q : After (RelB C σ ρ) W H (match ρ[i]? with | some (some c) => R.ok c.pv W.S | _ => .bad) Q := q
    split at q
    · rename_i c e
      obtain ⟨v, h1, h2⟩ := sl.cell i c e
      refine ⟨v, h1, q.fin wf ?_⟩
      cases c with
      | val p => exact .inl h2
      | ol ps => exact .inr ⟨i, ps, e, h1, rfl⟩
      | od _ => exact h2.elim
    · exact q.elim
/-- what the checker may take for a constant of the text -/
def constPV : Const → Option PV
  | .none => some .non
  | .bool b => some (.bl b)
  | .int i => some (.int i)
  | .str s => if txOk s.cps.toList then some (.str s.cps.toList) else none
  | _ => none
theorem toStr_toList (s : Str) : toStr s.cps.toList = s := by cases s; rfl
theorem sim_const {c : Const} {p : PV} {k : Nat} {pos : Pos} (h : constPV c = some p) : PE X (.Constant c k pos) (tE C (.c p)) := by
  cases c with
  | none => cases h; exact pe_non.weak fun σ H Q ⟨W, ρ, wf, sl, q⟩ => After.fin q wf .non
  | bool b => cases h; exact pe_bl.weak fun σ H Q ⟨W, ρ, wf, sl, q⟩ => After.fin q wf (.bl b)
  | int i => cases h; exact pe_int.weak fun σ H Q ⟨W, ρ, wf, sl, q⟩ => After.fin q wf (.int i)
  | str s =>
    have h : (if txOk s.cps.toList then some (PV.str s.cps.toList) else none) = some p := h
    split at h
    · rename_i hk
      cases h
      refine pe_str.weak fun σ H Q ⟨W, ρ, wf, sl, q⟩ => ?_
      have r : Rep C.K C.fa W (.str (toStr s.cps.toList)) (.str s.cps.toList) := .str _ hk
      rw [toStr_toList] at r
      exact After.fin q wf r
    · cases h
  | _ => cases h
/-- a name of the module that stands for p at every state -/
def GloOk (C : Ctx) (X : Cx) (x : Str) (p : PV) : Prop := ∃ (u : Value) (v : V), X.mg x = some u ∧ RelV v u ∧ ∀ W : Wd, Rep C.K C.fa W v p
theorem sim_glob {x : Str} {p : PV} {pos : Pos} (hg : Gl X x) (h : GloOk C X x p) (hd : (x == ("__debug__" : Str)) = false) : PE X (.Name x pos) (tE C (.c p)) := by
  obtain ⟨u, v, h1, h2, h3⟩ := h
  exact (pe_glob hg h1 h2 hd).weak fun σ H Q ⟨W, ρ, wf, sl, q⟩ => After.fin q wf (h3 W)

/-! ### operators -/
theorem lineN_eq : lineN = sizeLine := by rw [sizeLine_eq]; rfl
/-- x o y by values -/
def rBO (C : Ctx) (o : BO) : R2 := fun x y H Q => ∃ W p q r, Wf W H ∧ VB C W H x p ∧ VB C W H y q ∧ o.ev p q = some r ∧ After C.rep W H (.ok r W.S) Q
theorem sim_bin {a b : Expr} {ma mb : E} {op : Operator} {o : BO} {pos : Pos} (ha : PE X a (tB C ma)) (hb : PE X b (tB C mb)) (ho : OpR X (binaryOp op) (rBO C o)) : PE X (.BinOp a op b pos) (tE C (.bin o ma mb)) :=
  (pe_op ho ha hb).weak fun σ H Q ⟨W, ρ, wf, sl, q⟩ => ⟨W, ρ, wf, sl, (After.bind (rel := RelB C σ ρ) q).mono fun x H1 ⟨p, W1, x1, r1, _, q1⟩ => ⟨W1, ρ, x1.wf, sl.ext x1, (After.bind (rel := RelB C σ ρ) q1).mono fun y H2 ⟨p2, W2, x2, r2, _, q2⟩ => by
    obtain ⟨r, e, q3⟩ := q2.of
    exact ⟨W2, p, p2, r, x2.wf, ((r1.vb (sl.ext x1)).ext x2), r2.vb ((sl.ext x1).ext x2), e, q3⟩⟩⟩
theorem cat_toStr (a b : Tx) : toStr a ++ toStr b = toStr (a ++ b) := by
  show Str.mk (a.toArray ++ b.toArray) = Str.mk (a ++ b).toArray
  simp
/-- list + list, tracked or locked -/
theorem op_catAny : OpR X (binaryOp .Add) (fun x y H Q => ∃ l b xs zs, x = .ref l ∧ y = .ref b ∧ SqL X.K H l xs ∧ SqL X.K H b zs ∧ xs.length + zs.length ≤ sizeLine ∧ ∀ p, H p = none → Q (.ref p) (upd H p (.lst (xs ++ zs)))) := by
  intro pins s σ H x y v u Q I rx ry h
  obtain ⟨l, b, xs, zs, rfl, rfl, hH, hB, hz, q⟩ := h
  cases rx
  cases ry
  obtain ⟨its, r, ⟨⟨c1, dd1, da1, sl1⟩, n, e, h1, h2, h3⟩, z⟩ := I.list hH
  obtain ⟨its2, r2, ⟨⟨c2, dd2, da2, sl2⟩, n2, e2, k1, k2, k3⟩, z2⟩ := I.list hB
  simp only at h1 h2 h3 k1 k2 k3
  subst h1 h2 h3 k1 k2 k3
  have hl := r.length
  have hl2 := r2.length
  have ea : its.toArray ++ its2.toArray = (its ++ its2).toArray := by simp
  refine PySem.concat_meets ⟨_, e, rfl⟩ ⟨_, e2, rfl⟩ PySem.noFill_list_add PySem.seq_list_add PySem.F.slot_list_add PySem.F.entry_list_add (PySem.F.args_list_add_2 _ _) (PyProof.Rows.list_addW l b its.toArray its2.toArray n n2 _ _ sl1 sl2 (by rw [List.size_toArray, List.size_toArray]; omega)) ⟨e, e2, ?_⟩
  rw [ea]
  exact ⟨.ref _, _, I.lnew (t' := s.toks) (r.append r2) (by rw [List.length_append]; omega), rfl, q _ I.fresh⟩
theorem bo_add (hK : X.K = C.K) : OpR X (binaryOp .Add) (rBO C .add) := by
  intro pins s σ H x y v u Q I rx ry ⟨W, p, q, r, wf, h1, h2, e, k⟩
  replace e : addV p q = some r := e
  unfold addV at e
  split at e
  · cases e; cases h1.int; cases h2.int
    exact op_add pins s σ H _ _ v u Q I rx ry ⟨_, _, rfl, rfl, k.fin wf (.int _)⟩
  · rename_i a b
    split at e
    · rename_i hl
      cases e
      obtain ⟨rfl, o1⟩ := h1.str
      obtain ⟨rfl, o2⟩ := h2.str
      rw [lineN_eq] at hl
      exact op_add_str pins s σ H _ _ v u Q I rx ry ⟨_, _, rfl, rfl, by rw [toStr_len, toStr_len]; exact hl, by rw [cat_toStr]; exact k.fin wf (.str _ (txOk_append o1 o2 hl))⟩
    · cases e
  · split at e
    · rename_i hl
      cases e
      obtain ⟨a, xs, rfl, d1, r1, r1z⟩ := h1.lst wf
      obtain ⟨b, ys, rfl, d2, r2, r2z⟩ := h2.lst wf
      rw [lineN_eq, ← r1.length, ← r2.length] at hl
      exact op_catAny pins s σ H _ _ v u Q I rx ry ⟨a, b, xs, ys, rfl, rfl, hK ▸ d1, hK ▸ d2, hl, fun p hp => k.lay wf hp (.lst (.inl (.inl upd_same)) ((r1.append r2).ext (.laid wf hp)) (by rw [← (r1.append r2).length, List.length_append]; exact hl))⟩
    · cases e
  · split at e
    · rename_i hl
      cases e
      obtain ⟨a, xs, rfl, d1, r1, r1z⟩ := h1.tup
      obtain ⟨b, ys, rfl, d2, r2, r2z⟩ := h2.tup
      rw [lineN_eq, ← r1.length, ← r2.length] at hl
      refine op_catA pins s σ H _ _ v u Q I rx ry ⟨a, b, xs, ys, rfl, rfl, Same.sqT wf.sub (hK ▸ d1), Same.sqT wf.sub (hK ▸ d2), hl, fun ex => ?_, fun _ ey => ?_, fun _ _ p hp => k.lay wf hp (.tup (.inl (.inl upd_same)) ((r1.append r2).ext (.laid wf hp)) (by rw [← (r1.append r2).length, List.length_append]; exact hl))⟩
      · subst ex; cases r1; exact k.fin wf (.tup d2 r2 r2z)
      · subst ey; cases r2; rw [List.append_nil] at k; exact k.fin wf (.tup d1 r1 r1z)
    · cases e
  · cases e
theorem bo_sub : OpR X (binaryOp .Sub) (rBO C .sub) := by
  intro pins s σ H x y v u Q I rx ry ⟨W, p, q, r, wf, h1, h2, e, k⟩
  replace e : subV p q = some r := e
  unfold subV at e
  split at e
  · cases e; cases h1.int; cases h2.int
    exact op_sub pins s σ H _ _ v u Q I rx ry ⟨_, _, rfl, rfl, k.fin wf (.int _)⟩
  · cases e
theorem smallI_iff {i : Int} : smallI i = true ↔ (-(2 ^ 64) < i ∧ i < 2 ^ 64) := by
  unfold smallI
  rw [Bool.and_eq_true, decide_eq_true_eq, decide_eq_true_eq]
theorem bo_mul : OpR X (binaryOp .Mult) (rBO C .mul) := by
  intro pins s σ H x y v u Q I rx ry ⟨W, p, q, r, wf, h1, h2, e, k⟩
  replace e : mulV p q = some r := e
  unfold mulV at e
  split at e
  · split at e
    · rename_i hs
      cases e; cases h1.int; cases h2.int
      rw [Bool.or_eq_true, smallI_iff, smallI_iff] at hs
      exact op_mul pins s σ H _ _ v u Q I rx ry ⟨_, _, rfl, rfl, hs, k.fin wf (.int _)⟩
    · cases e
  · cases e
theorem bo_fdiv : OpR X (binaryOp .FloorDiv) (rBO C .fdiv) := by
  intro pins s σ H x y v u Q I rx ry ⟨W, p, q, r, wf, h1, h2, e, k⟩
  replace e : fdivV p q = some r := e
  unfold fdivV at e
  split at e
  · split at e
    · rename_i hs
      cases e; cases h1.int; cases h2.int
      exact op_fdiv pins s σ H _ _ v u Q I rx ry ⟨_, _, rfl, rfl, hs, k.fin wf (.int _)⟩
    · cases e
  · cases e
theorem bo_mod : OpR X (binaryOp .Mod) (rBO C .mod) := by
  intro pins s σ H x y v u Q I rx ry ⟨W, p, q, r, wf, h1, h2, e, k⟩
  replace e : modV p q = some r := e
  unfold modV at e
  split at e
  · split at e
    · rename_i hs
      cases e; cases h1.int; cases h2.int
      exact op_mod pins s σ H _ _ v u Q I rx ry ⟨_, _, rfl, rfl, hs, k.fin wf (.int _)⟩
    · cases e
  · cases e
theorem bo_pow : OpR X (binaryOp .Pow) (rBO C .pow) := by
  intro pins s σ H x y v u Q I rx ry ⟨W, p, q, r, wf, h1, h2, e, k⟩
  replace e : powV p q = some r := e
  unfold powV at e
  split at e
  · split at e
    · rename_i hs
      cases e; cases h1.int; cases h2.int
      obtain ⟨a1, a2, a3⟩ := hs
      rw [smallI_iff] at a3
      exact op_pow pins s σ H _ _ v u Q I rx ry ⟨_, _, rfl, rfl, ⟨a1, by omega, by omega⟩, k.fin wf (.int _)⟩
    · cases e
  · cases e
theorem bo_and : OpR X (binaryOp .BitAnd) (rBO C .and) := by
  intro pins s σ H x y v u Q I rx ry ⟨W, p, q, r, wf, h1, h2, e, k⟩
  replace e : andV p q = some r := e
  unfold andV at e
  split at e
  · rename_i i j
    split at e
    · rename_i hs
      cases e; cases h1.int; cases h2.int
      refine op_and pins s σ H _ _ v u Q I rx ry ⟨_, _, rfl, rfl, k.fin wf ?_⟩
      have e2 : Builtin.bitAnd i j = ((i.toNat &&& j.toNat : Nat) : Int) := by
        obtain ⟨m, rfl⟩ := Int.eq_ofNat_of_zero_le hs.1
        obtain ⟨n, rfl⟩ := Int.eq_ofNat_of_zero_le hs.2
        rfl
      show Rep C.K C.fa W (V.int (Builtin.bitAnd i j)) _
      rw [e2]
      exact .int _
    · cases e
  · cases e

/-! ### data, compared -/
mutual
def toPy : PV → PyData
  | .bl b => .bool b
  | .int i => .int i
  | .str s => .str (toStr s)
  | .tup xs => .tuple (toPyL xs)
  | .lst xs => .list (toPyL xs)
  | _ => .none
def toPyL : List PV → List PyData
  | [] => []
  | x :: xs => toPy x :: toPyL xs
end
theorem toPyL_map : ∀ xs : List PV, toPyL xs = xs.map toPy
  | [] => rfl
  | x :: xs => by rw [toPyL, List.map_cons, toPyL_map xs]
theorem dok_tup {d : Nat} {xs : List PV} : PV.dok d (.tup xs) = true → ∃ e, d = e + 1 ∧ xs.all (PV.dok e) = true := by
  cases d with
  | zero => intro h; unfold PV.dok at h; cases h
  | succ e => intro h; unfold PV.dok at h; exact ⟨e, rfl, h⟩
theorem dok_lst {d : Nat} {xs : List PV} : PV.dok d (.lst xs) = true → ∃ e, d = e + 1 ∧ xs.all (PV.dok e) = true := by
  cases d with
  | zero => intro h; unfold PV.dok at h; cases h
  | succ e => intro h; unfold PV.dok at h; exact ⟨e, rfl, h⟩
mutual
/-- data of at most this depth, as the library takes it -/
theorem dp_of {W : Wd} : ∀ {v : V} {p : PV} (d : Nat), Rep C.K C.fa W v p → p.dok d = true → Dp C.K W.F v (toPy p) ∧ (toPy p).canLay0 = true ∧ (toPy p).depth ≤ d
  | _, _, d, .non, _ => ⟨.non, rfl, Nat.zero_le _⟩
  | _, _, d, .bl b, _ => ⟨.bl b, rfl, Nat.zero_le _⟩
  | _, _, d, .int i, _ => ⟨.int i, rfl, Nat.zero_le _⟩
  | _, _, d, .str s h, _ => ⟨.str _, txOk_strOk h, Nat.zero_le _⟩
  | _, _, d, .tup h r _, hd => by
    obtain ⟨e, rfl, ha⟩ := dok_tup hd
    obtain ⟨h1, h2, h3⟩ := dpL_of e r ha
    unfold toPy
    refine ⟨.tup h h1, by unfold PyData.canLay0; exact h2, ?_⟩
    unfold PyData.depth; omega
  | _, _, d, .lst h r _, hd => by
    obtain ⟨e, rfl, ha⟩ := dok_lst hd
    obtain ⟨h1, h2, h3⟩ := dpL_of e r ha
    unfold toPy
    refine ⟨.lst h h1, by unfold PyData.canLay0; exact h2, ?_⟩
    unfold PyData.depth; omega
  | _, _, 0, .fn f, hd => by unfold PV.dok at hd; cases hd
  | _, _, d + 1, .fn f, hd => by unfold PV.dok at hd; cases hd
  | _, _, 0, .obj h, hd => by unfold PV.dok at hd; cases hd
  | _, _, d + 1, .obj h, hd => by unfold PV.dok at hd; cases hd
  | _, _, 0, .dct h r, hd => by unfold PV.dok at hd; cases hd
  | _, _, d + 1, .dct h r, hd => by unfold PV.dok at hd; cases hd
theorem dpL_of {W : Wd} : ∀ {vs : List V} {ps : List PV} (d : Nat), RepL C.K C.fa W vs ps → ps.all (PV.dok d) = true → DpAll C.K W.F vs (toPyL ps) ∧ PyData.canLayAll0 (toPyL ps) = true ∧ PyData.depthAll (toPyL ps) ≤ d
  | _, _, d, .nil, _ => ⟨.nil, rfl, Nat.zero_le _⟩
  | _, _, d, .cons r t, h => by
    rw [List.all_cons, Bool.and_eq_true] at h
    obtain ⟨a1, a2, a3⟩ := dp_of d r h.1
    obtain ⟨b1, b2, b3⟩ := dpL_of d t h.2
    unfold toPyL
    refine ⟨.cons a1 b1, ?_, ?_⟩
    · unfold PyData.canLayAll0; rw [a2, b2]; rfl
    · unfold PyData.depthAll; omega
end
theorem beq_toStr (s t : Tx) : (toStr s == toStr t) = (s == t) := by
  by_cases h : s = t
  · subst h; simp
  · rw [beq_eq_false_iff_ne.mpr h, beq_eq_false_iff_ne.mpr fun e => h (toStr_inj e)]
mutual
theorem eqv_py : ∀ (d e : Nat) (p q : PV), p.dok d = true → q.dok e = true → PyData.eqv (toPy p) (toPy q) = PV.eqv p q
  | d, e, p, q, hp, hq => by
    cases p with
    | non => cases q <;> first | (unfold toPy; unfold PyData.eqv; unfold PV.eqv; rfl) | (cases e <;> (unfold PV.dok at hq; cases hq))
    | bl b => cases q <;> first | (unfold toPy; unfold PyData.eqv; unfold PV.eqv; rfl) | (cases e <;> (unfold PV.dok at hq; cases hq))
    | int b => cases q <;> first | (unfold toPy; unfold PyData.eqv; unfold PV.eqv; rfl) | (cases e <;> (unfold PV.dok at hq; cases hq))
    | str s => cases q <;> first | (unfold toPy; unfold PyData.eqv; unfold PV.eqv; exact beq_toStr _ _) | (unfold toPy; unfold PyData.eqv; unfold PV.eqv; rfl) | (cases e <;> (unfold PV.dok at hq; cases hq))
    | tup xs =>
      obtain ⟨d', rfl, ha⟩ := dok_tup hp
      cases q with
      | tup ys =>
        obtain ⟨e', rfl, hb⟩ := dok_tup hq
        unfold toPy; unfold PyData.eqv; unfold PV.eqv
        exact eqvL_py d' e' xs ys ha hb
      | _ => first | (unfold toPy; unfold PyData.eqv; unfold PV.eqv; rfl) | (cases e <;> (unfold PV.dok at hq; cases hq))
    | lst xs =>
      obtain ⟨d', rfl, ha⟩ := dok_lst hp
      cases q with
      | lst ys =>
        obtain ⟨e', rfl, hb⟩ := dok_lst hq
        unfold toPy; unfold PyData.eqv; unfold PV.eqv
        exact eqvL_py d' e' xs ys ha hb
      | _ => first | (unfold toPy; unfold PyData.eqv; unfold PV.eqv; rfl) | (cases e <;> (unfold PV.dok at hq; cases hq))
    | _ => cases d <;> (unfold PV.dok at hp; cases hp)
theorem eqvL_py : ∀ (d e : Nat) (ps qs : List PV), ps.all (PV.dok d) = true → qs.all (PV.dok e) = true → PyData.eqvAll (toPyL ps) (toPyL qs) = PV.eqvL ps qs
  | d, e, [], [], _, _ => by unfold toPyL; unfold PyData.eqvAll; unfold PV.eqvL; rfl
  | d, e, [], q :: qs, _, _ => by unfold toPyL; unfold PyData.eqvAll; unfold PV.eqvL; rfl
  | d, e, p :: ps, [], _, _ => by unfold toPyL; unfold PyData.eqvAll; unfold PV.eqvL; rfl
  | d, e, p :: ps, q :: qs, hp, hq => by
    rw [List.all_cons, Bool.and_eq_true] at hp hq
    unfold toPyL; unfold PyData.eqvAll; unfold PV.eqvL
    rw [eqv_py d e p q hp.1 hq.1, eqvL_py d e ps qs hp.2 hq.2]
end

mutual
theorem Dp.mono {K : PySem.W.Frag} {H H' : Hp} (k : Same H H') : ∀ {v : V} {d : PyData}, Dp K H v d → Dp K H' v d
  | _, _, .non => .non
  | _, _, .bl b => .bl b
  | _, _, .int i => .int i
  | _, _, .str s => .str s
  | _, _, .lst h r => .lst (Same.sqL k h) (DpAll.mono k r)
  | _, _, .tup h r => .tup (Same.sqT k h) (DpAll.mono k r)
theorem DpAll.mono {K : PySem.W.Frag} {H H' : Hp} (k : Same H H') : ∀ {v : List V} {d : List PyData}, DpAll K H v d → DpAll K H' v d
  | _, _, .nil => .nil
  | _, _, .cons r t => .cons (Dp.mono k r) (DpAll.mono k t)
end
/-- .. of what is looked at -/
theorem dp_vb {W : Wd} {H : Hp} (wf : Wf W H) {v : V} {p : PV} {d : Nat} (h : VB C W H v p) (hd : p.dok d = true) : Dp C.K H v (toPy p) ∧ (toPy p).canLay0 = true ∧ (toPy p).depth ≤ d := by
  rcases h with h | ⟨a, xs, ps, rfl, rfl, h, r, z⟩
  · obtain ⟨h1, h2⟩ := dp_of d h hd
    exact ⟨Dp.mono wf.sub h1, h2⟩
  · obtain ⟨e, rfl, ha⟩ := dok_lst hd
    obtain ⟨h1, h2, h3⟩ := dpL_of e r ha
    unfold toPy
    refine ⟨.lst (SqL.of h) (DpAll.mono wf.sub h1), by unfold PyData.canLay0; exact h2, ?_⟩
    unfold PyData.depth; omega
theorem shaped_of {d : PyData} (h1 : d.canLay0 = true) (h2 : d.depth ≤ 64) : SeqAt.shaped d = true := by
  unfold SeqAt.shaped
  rw [h1, decide_eq_true h2]; rfl

/-! ### comparisons -/
def rCO (C : Ctx) (o : CO) : R2 := fun x y H Q => ∃ W p q k, Wf W H ∧ VB C W H x p ∧ VB C W H y q ∧ o.ev p q = some k ∧ Q (.bl k) H
theorem eqV_some {p q : PV} {k : Bool} (e : eqV' p q = some k) : p.dok 64 = true ∧ q.dok 64 = true ∧ k = PV.eqv p q := by
  unfold eqV' at e
  split at e
  · rename_i h
    rw [Bool.and_eq_true] at h
    exact ⟨h.1, h.2, (Option.some.inj e).symm⟩
  · cases e
theorem co_eq (hK : X.K = C.K) (hu : X.A.units + 64 < cLine) : OpR X (compareOp .Eq) (rCO C .eq) := by
  intro pins s σ H x y v u Q I rx ry ⟨W, p, q, k, wf, h1, h2, e, h⟩
  replace e : eqV' p q = some k := e
  obtain ⟨d1, d2, rfl⟩ := eqV_some e
  obtain ⟨a1, a2, a3⟩ := dp_vb wf h1 d1
  obtain ⟨b1, b2, b3⟩ := dp_vb wf h2 d2
  refine op_eqD hu pins s σ H x y v u Q I rx ry ⟨_, _, hK ▸ a1, hK ▸ b1, shaped_of a2 a3, shaped_of b2 b3, ?_⟩
  rw [eqv_py 64 64 p q d1 d2]; exact h
theorem co_ne (hK : X.K = C.K) (hu : X.A.units + 64 < cLine) : OpR X (compareOp .NotEq) (rCO C .ne) := by
  intro pins s σ H x y v u Q I rx ry ⟨W, p, q, k, wf, h1, h2, e, h⟩
  replace e : (eqV' p q).map (! ·) = some k := e
  obtain ⟨k', e', rfl⟩ := Option.map_eq_some_iff.mp e
  obtain ⟨d1, d2, rfl⟩ := eqV_some e'
  obtain ⟨a1, a2, a3⟩ := dp_vb wf h1 d1
  obtain ⟨b1, b2, b3⟩ := dp_vb wf h2 d2
  refine op_neD hu pins s σ H x y v u Q I rx ry ⟨_, _, hK ▸ a1, hK ▸ b1, shaped_of a2 a3, shaped_of b2 b3, ?_⟩
  rw [eqv_py 64 64 p q d1 d2]; exact h
theorem mem_py {x : PV} {ys : List PV} (hx : x.dok 64 = true) (hy : ys.all (PV.dok 64) = true) : ((toPyL ys).any fun z => PyData.eqv z (toPy x)) = PV.mem x ys := by
  unfold PV.mem
  induction ys with
  | nil => rfl
  | cons y ys ih =>
    rw [List.all_cons, Bool.and_eq_true] at hy
    unfold toPyL
    rw [List.any_cons, List.any_cons, ih hy.2, eqv_py 64 64 y x hy.1 hx]
theorem allInts_map : ∀ {ps : List PV} {ns : List Int}, allInts ps = some ns → ps = ns.map PV.int
  | [], ns, h => by unfold allInts at h; cases h; rfl
  | p :: ps, ns, h => by
    cases p with
    | int i =>
      unfold allInts at h
      obtain ⟨ms, h1, rfl⟩ := Option.map_eq_some_iff.mp h
      rw [allInts_map h1]; rfl
    | _ => unfold allInts at h; cases h
theorem repL_ints {W : Wd} : ∀ {vs : List V} {ns : List Int}, RepL C.K C.fa W vs (ns.map PV.int) → vs = ns.map V.int
  | [], ns, h => by
    cases ns with
    | nil => rfl
    | cons => cases h
  | v :: vs, ns, h => by
    cases ns with
    | nil => cases h
    | cons n ns =>
      cases h with
      | cons r t => rw [r.int_inv, repL_ints t]; rfl
theorem lexLt_dec : ∀ xs ys : List Int, HT.lexLt xs ys = decide (xs < ys)
  | [], [] => rfl
  | [], y :: ys => rfl
  | x :: xs, [] => rfl
  | x :: xs, y :: ys => by
    rw [HT.lexLt_cons]
    by_cases h : x = y
    · subst h
      rw [if_pos rfl, lexLt_dec xs ys]
      by_cases hl : xs < ys
      · rw [decide_eq_true hl, decide_eq_true (List.cons_lt_cons_iff.mpr (.inr ⟨rfl, hl⟩))]
      · rw [decide_eq_false hl, decide_eq_false fun q => by
          rcases List.cons_lt_cons_iff.mp q with z | z
          · omega
          · exact hl z.2]
    · rw [if_neg h]
      by_cases hl : x < y
      · rw [decide_eq_true hl, decide_eq_true (List.cons_lt_cons_iff.mpr (.inl hl))]
      · rw [decide_eq_false hl, decide_eq_false fun q => by
          rcases List.cons_lt_cons_iff.mp q with z | z
          · exact hl z
          · exact h z.1]
theorem lt_ok (hK : X.K = C.K) (hu : X.A.units < cLine) : OpR X (compareOp .Lt) (rCO C .lt) := by
  intro pins s σ H x y v u Q I rx ry ⟨W, p, q, k, wf, h1, h2, e, h⟩
  replace e : ltV p q = some k := e
  unfold ltV at e
  split at e
  · cases e; cases h1.int; cases h2.int
    exact op_lt pins s σ H _ _ v u Q I rx ry ⟨_, _, rfl, rfl, h⟩
  · cases e
    obtain ⟨rfl, o1⟩ := h1.str
    obtain ⟨rfl, o2⟩ := h2.str
    exact op_lt_str pins s σ H _ _ v u Q I rx ry ⟨_, _, rfl, rfl, h⟩
  · split at e
    · rename_i n1 n2 e1 e2
      cases e
      cases allInts_map e1
      cases allInts_map e2
      obtain ⟨a, xs, rfl, d1, r1, r1z⟩ := h1.tup
      obtain ⟨b, ys, rfl, d2, r2, r2z⟩ := h2.tup
      rw [repL_ints r1] at d1
      rw [repL_ints r2] at d2
      refine op_ltT hu pins s σ H _ _ v u Q I rx ry ⟨a, b, n1, n2, rfl, rfl, Same.sqT wf.sub (hK ▸ d1), Same.sqT wf.sub (hK ▸ d2), ?_⟩
      rw [lexLt_dec]; exact h
    · cases e
  · cases e
theorem gt_ok : OpR X (compareOp .Gt) (rCO C .gt) := by
  intro pins s σ H x y v u Q I rx ry ⟨W, p, q, k, wf, h1, h2, e, h⟩
  replace e : gtV p q = some k := e
  unfold gtV at e
  split at e
  · cases e; cases h1.int; cases h2.int
    exact op_gt pins s σ H _ _ v u Q I rx ry ⟨_, _, rfl, rfl, h⟩
  · cases e
    obtain ⟨rfl, o1⟩ := h1.str
    obtain ⟨rfl, o2⟩ := h2.str
    exact op_gt_str pins s σ H _ _ v u Q I rx ry ⟨_, _, rfl, rfl, h⟩
  · cases e
theorem le_ok : OpR X (compareOp .LtE) (rCO C .le) := by
  intro pins s σ H x y v u Q I rx ry ⟨W, p, q, k, wf, h1, h2, e, h⟩
  replace e : leV p q = some k := e
  unfold leV at e
  split at e
  · cases e; cases h1.int; cases h2.int
    exact op_le pins s σ H _ _ v u Q I rx ry ⟨_, _, rfl, rfl, h⟩
  · rename_i a b
    cases e
    obtain ⟨rfl, o1⟩ := h1.str
    obtain ⟨rfl, o2⟩ := h2.str
    refine op_le_str pins s σ H _ _ v u Q I rx ry ⟨_, _, rfl, rfl, ?_⟩
    show Q (.bl (!decide (b < a))) H
    have e2 : (!decide (b < a)) = decide (a ≤ b) := by
      by_cases z : b < a
      · rw [decide_eq_true z, decide_eq_false (List.not_le.mpr z)]; rfl
      · rw [decide_eq_false z, decide_eq_true (List.not_lt.mp z)]; rfl
    rw [e2]; exact h
  · cases e
theorem lexGe_dec (ns ms : List Int) : ∀ i, i ≤ ns.length → i ≤ ms.length →
    Ob.lexAt (fun j => decide (ns.getD j 0 = ms.getD j 0)) (fun j => decide (ms.getD j 0 ≤ ns.getD j 0)) (decide (ns.length ≥ ms.length)) i (min ns.length ms.length - i) = !decide (ns.drop i < ms.drop i) := by
  intro i hi hj
  generalize hk : min ns.length ms.length - i = k
  induction k generalizing i with
  | zero =>
    rw [Ob.lexAt_zero]
    by_cases h : ns.length ≥ ms.length
    · have e : ms.drop i = [] := List.drop_eq_nil_of_le (by omega)
      rw [decide_eq_true h, e, decide_eq_false (List.not_lt_nil _)]; rfl
    · have e : ns.drop i = [] := List.drop_eq_nil_of_le (by omega)
      obtain ⟨y, ys, e2⟩ : ∃ y ys, ms.drop i = y :: ys := by
        cases q : ms.drop i with
        | nil => rw [List.drop_eq_nil_iff] at q; omega
        | cons y ys => exact ⟨y, ys, rfl⟩
      rw [decide_eq_false h, e, e2, decide_eq_true (List.nil_lt_cons _ _)]; rfl
  | succ k ih =>
    have h1 : i < ns.length := by omega
    have h2 : i < ms.length := by omega
    rw [Ob.lexAt_succ, List.drop_eq_getElem_cons h1, List.drop_eq_getElem_cons h2]
    have g1 : ns.getD i 0 = ns[i] := by rw [List.getD_eq_getElem?_getD, List.getElem?_eq_getElem h1]; rfl
    have g2 : ms.getD i 0 = ms[i] := by rw [List.getD_eq_getElem?_getD, List.getElem?_eq_getElem h2]; rfl
    by_cases h : ns.getD i 0 = ms.getD i 0
    · rw [if_pos (decide_eq_true h), ih (i + 1) (by omega) (by omega) (by omega)]
      rw [g1, g2] at h
      rw [h]
      by_cases z : ns.drop (i + 1) < ms.drop (i + 1)
      · rw [decide_eq_true z, decide_eq_true (List.cons_lt_cons_iff.mpr (.inr ⟨rfl, z⟩))]
      · rw [decide_eq_false z, decide_eq_false fun q => by
          rcases List.cons_lt_cons_iff.mp q with y | y
          · omega
          · exact z y.2]
    · rw [if_neg (by rw [decide_eq_false h]; exact Bool.false_ne_true)]
      rw [g1, g2] at h ⊢
      by_cases z : ms[i] ≤ ns[i]
      · rw [decide_eq_true z, decide_eq_false fun q => by
          rcases List.cons_lt_cons_iff.mp q with y | y
          · omega
          · exact h y.1]; rfl
      · rw [decide_eq_false z, decide_eq_true (List.cons_lt_cons_iff.mpr (.inl (by omega)))]; rfl
/-- t >= u of tuples of ints -/
theorem op_geT (hu : X.A.units < cLine) : OpR X (compareOp .GtE) (fun x y H Q => ∃ (a b : Addr) (ns ms : List Int), x = .ref a ∧ y = .ref b ∧ SqT X.K H a (ns.map V.int) ∧ SqT X.K H b (ms.map V.int) ∧ Q (.bl (!decide (ns < ms))) H) := by
  intro pins s σ H x y v u Q I rx ry h
  obtain ⟨a, b, ns, ms, rfl, rfl, ha, hb, q⟩ := h
  cases rx
  cases ry
  obtain ⟨its, r1, p1, _⟩ := I.tuple ha
  obtain ⟨its2, r2, p2, _⟩ := I.tuple hb
  have i1 : IntsAre its ns := Vals.ints r1
  have i2 : IntsAre its2 ms := Vals.ints r2
  have e1 : its.toArray.size = ns.length := by rw [List.size_toArray]; exact i1.length
  have e2 : its2.toArray.size = ms.length := by rw [List.size_toArray]; exact i2.length
  have at1 : ∀ j (h1 : j < its.toArray.size), ∃ t, its.toArray[j] = .int (ns.getD j 0) t := fun j h1 => PyProof.Rows.IntsAre.int_at i1 _ _ (by simp at h1; simp [h1])
  have at2 : ∀ j (h1 : j < its2.toArray.size), ∃ t, its2.toArray[j] = .int (ms.getD j 0) t := fun j h1 => PyProof.Rows.IntsAre.int_at i2 _ _ (by simp at h1; simp [h1])
  have R := Ob.RcOp.tuples_ge (A := X.A) (s := s) (e := fun j => decide (ns.getD j 0 = ms.getD j 0)) (r := fun j => decide (ms.getD j 0 ≤ ns.getD j 0)) p1 p2 hu
    (fun j h1 h2 => by
      obtain ⟨t, et⟩ := at1 j h1
      obtain ⟨t', et'⟩ := at2 j h2
      rw [et, et']
      have z : (ns.getD j 0 == ms.getD j 0) = decide (ns.getD j 0 = ms.getD j 0) := by rw [Bool.beq_eq_decide_eq]
      show SeqAt.EqAt X.A.in1 s _ _ (decide (ns.getD j 0 = ms.getD j 0))
      rw [← z]
      exact SeqAt.EqAt.int_int _ _ _ _)
    (fun j h1 h2 _ => by
      obtain ⟨t, et⟩ := at1 j h1
      obtain ⟨t', et'⟩ := at2 j h2
      rw [et, et']
      exact Ob.RcOp.ge_int _ _ _ _)
  rw [e1, e2] at R
  have z := lexGe_dec ns ms 0 (Nat.zero_le _) (Nat.zero_le _)
  rw [Nat.sub_zero, List.drop_zero, List.drop_zero] at z
  rw [z] at R
  exact R X.prog X.w X.xe (EP X pins σ Q) ⟨.bl _, H, I, rfl, q⟩
theorem ge_ok (hK : X.K = C.K) (hu : X.A.units < cLine) : OpR X (compareOp .GtE) (rCO C .ge) := by
  intro pins s σ H x y v u Q I rx ry ⟨W, p, q, k, wf, h1, h2, e, h⟩
  replace e : geV p q = some k := e
  unfold geV at e
  split at e
  · cases e; cases h1.int; cases h2.int
    exact op_ge pins s σ H _ _ v u Q I rx ry ⟨_, _, rfl, rfl, h⟩
  · split at e
    · rename_i n1 n2 e1 e2
      cases e
      cases allInts_map e1
      cases allInts_map e2
      obtain ⟨a, xs, rfl, d1, r1, r1z⟩ := h1.tup
      obtain ⟨b, ys, rfl, d2, r2, r2z⟩ := h2.tup
      rw [repL_ints r1] at d1
      rw [repL_ints r2] at d2
      exact op_geT hu pins s σ H _ _ v u Q I rx ry ⟨a, b, n1, n2, rfl, rfl, Same.sqT wf.sub (hK ▸ d1), Same.sqT wf.sub (hK ▸ d2), h⟩
    · cases e
  · cases e
theorem relV_bool {x : V} {b : Bool} {v : Value} (r : RelV x v) : (v == Value.bool b) = decide (x = .bl b) := by
  cases x with
  | bl c =>
    cases r
    by_cases h : c = b
    · subst h; simp
    · rw [decide_eq_false fun q => h (V.bl.inj q), beq_eq_false_iff_ne.mpr fun q => h (Value.bool.inj q)]
  | _ => first | (cases r; rfl) | (obtain ⟨t, rfl⟩ := r; rfl)
theorem plainIs_bool {x : V} {b : Bool} {v : Value} (r : RelV x v) : plainIs v (.bool b) = true := by
  cases x with
  | _ => first | (cases r; rfl) | (obtain ⟨t, rfl⟩ := r; rfl)
theorem isV_non {p : PV} {W : Wd} {x : V} {k : Bool} (r : Rep C.K C.fa W x p) (e : isV p .non = some k) : k = decide (x = .non) := by
  unfold isV at e
  cases r <;> first | (cases e; rfl) | (cases e; exact (decide_eq_false (fun z => nomatch z)).symm)
theorem isV_bl {p : PV} {W : Wd} {x : V} {k b : Bool} (r : Rep C.K C.fa W x p) (e : isV p (.bl b) = some k) : k = decide (x = .bl b) := by
  unfold isV at e
  cases r with
  | bl c =>
    cases e
    by_cases h : c = b
    · subst h; simp
    · rw [decide_eq_false fun q => h (V.bl.inj q)]; simpa using h
  | _ => cases e; exact (decide_eq_false (fun z => nomatch z)).symm
theorem isV_vb {p q : PV} {W : Wd} {H : Hp} {x y : V} {k : Bool} (r : VB C W H x p) (r2 : VB C W H y q) (e : isV p q = some k) : (y = .non ∧ k = decide (x = .non)) ∨ ∃ b, y = .bl b ∧ k = decide (x = .bl b) := by
  cases q with
  | non =>
    cases r2.non
    refine .inl ⟨rfl, ?_⟩
    rcases r with r | ⟨a, xs, ps, rfl, rfl, _⟩
    · exact isV_non r e
    · cases e; rfl
  | bl b =>
    cases r2.bl
    refine .inr ⟨b, rfl, ?_⟩
    rcases r with r | ⟨a, xs, ps, rfl, rfl, _⟩
    · exact isV_bl r e
    · cases e; exact (decide_eq_false (fun z => nomatch z)).symm
  | _ => cases e
theorem is_ok : OpR X (compareOp .Is) (rCO C .is) := by
  intro pins s σ H x y v u Q I rx ry ⟨W, p, q, k, wf, h1, h2, e, h⟩
  replace e : isV p q = some k := e
  rcases isV_vb h1 h2 e with ⟨rfl, rfl⟩ | ⟨b, rfl, rfl⟩
  · exact op_isN pins s σ H _ _ v u Q I rx ry ⟨rfl, h⟩
  · cases (show u = Value.bool b from ry)
    exact wpAny_is_plain (plainIs_bool rx) ⟨.bl _, H, I, by rw [relV_bool rx]; rfl, h⟩
theorem isnot_ok : OpR X (compareOp .IsNot) (rCO C .isnot) := by
  intro pins s σ H x y v u Q I rx ry ⟨W, p, q, k, wf, h1, h2, e, h⟩
  replace e : (isV p q).map (! ·) = some k := e
  obtain ⟨k', e', rfl⟩ := Option.map_eq_some_iff.mp e
  rcases isV_vb h1 h2 e' with ⟨rfl, rfl⟩ | ⟨b, rfl, rfl⟩
  · exact op_notN pins s σ H _ _ v u Q I rx ry ⟨rfl, h⟩
  · cases (show u = Value.bool b from ry)
    exact wpAny_isNot_plain (plainIs_bool rx) ⟨.bl _, H, I, by rw [relV_bool rx]; rfl, h⟩
/-- x in y, whether it is asked for or its contrary -/
theorem in_cases {W : Wd} {H : Hp} {x y : V} {p q : PV} {k : Bool} (wf : Wf W H) (h1 : VB C W H x p) (h2 : VB C W H y q) (e : inV p q = some k) :
    (∃ (d : PyData) (ds : List PyData), Dp C.K H x d ∧ (Dp C.K H y (.list ds) ∨ Dp C.K H y (.tuple ds)) ∧ d.canLay0 = true ∧ d.depth ≤ 64 ∧ PyData.canLayAll0 ds = true ∧ PyData.depthAll ds ≤ 64 ∧ k = ds.any fun z => PyData.eqv z d) ∨
    (∃ (c : Nat) (z : Str), x = .str ⟨#[c]⟩ ∧ y = .str z ∧ k = decide (c ∈ z.cps.toList)) := by
  cases q with
  | lst ys =>
    have e : (if (p.dok 64 && ys.all (PV.dok 64)) = true then some (PV.mem p ys) else none) = some k := e
    split at e
    · rename_i hd
      cases e
      rw [Bool.and_eq_true] at hd
      obtain ⟨a1, a2, a3⟩ := dp_vb wf h1 hd.1
      obtain ⟨b, zs, rfl, hb, rb, rbz⟩ := h2.lst wf
      obtain ⟨b1, b2, b3⟩ := dpL_of 64 rb hd.2
      exact .inl ⟨_, _, a1, .inl (.lst hb (DpAll.mono wf.sub b1)), a2, a3, b2, b3, (mem_py hd.1 hd.2).symm⟩
    · cases e
  | tup ys =>
    have e : (if (p.dok 64 && ys.all (PV.dok 64)) = true then some (PV.mem p ys) else none) = some k := e
    split at e
    · rename_i hd
      cases e
      rw [Bool.and_eq_true] at hd
      obtain ⟨a1, a2, a3⟩ := dp_vb wf h1 hd.1
      obtain ⟨b, zs, rfl, hb, rb, rbz⟩ := h2.tup
      obtain ⟨b1, b2, b3⟩ := dpL_of 64 rb hd.2
      exact .inl ⟨_, _, a1, .inr (.tup (Same.sqT wf.sub hb) (DpAll.mono wf.sub b1)), a2, a3, b2, b3, (mem_py hd.1 hd.2).symm⟩
    · cases e
  | str t =>
    obtain ⟨rfl, _⟩ := h2.str
    unfold inV at e
    simp only at e
    split at e
    · rename_i c
      cases e
      obtain ⟨rfl, _⟩ := h1.str
      exact .inr ⟨c, _, rfl, rfl, rfl⟩
    · cases e
  | _ => cases e
theorem in_ok (hK : X.K = C.K) (hu : X.A.units + 66 < cLine) : OpR X (compareOp .In) (rCO C .isin) := by
  intro pins s σ H x y v u Q I rx ry ⟨W, p, q, k, wf, h1, h2, e, h⟩
  rcases in_cases wf h1 h2 e with ⟨d, ds, hd, he, c1, c2, c3, c4, rfl⟩ | ⟨c, z, rfl, rfl, rfl⟩
  · obtain ⟨as, r1⟩ := Dp.reads I d x v (hK ▸ hd) rx
    rcases he with he | he
    · obtain ⟨bs, r2⟩ := Dp.reads I (.list ds) y u (hK ▸ he) ry
      exact SeqAt.in_list_reads r2 r1 c3 c1 (by omega) ⟨.bl _, H, I, rfl, h⟩
    · obtain ⟨bs, r2⟩ := Dp.reads I (.tuple ds) y u (hK ▸ he) ry
      exact SeqAt.in_tuple_reads r2 r1 c3 c1 (by omega) ⟨.bl _, H, I, rfl, h⟩
  · exact op_in_sign pins s σ H _ _ v u Q I rx ry ⟨c, z, rfl, rfl, h⟩
theorem notin_ok (hK : X.K = C.K) (hu : X.A.units + 66 < cLine) : OpR X (compareOp .NotIn) (rCO C .notin) := by
  intro pins s σ H x y v u Q I rx ry ⟨W, p, q, k, wf, h1, h2, e, h⟩
  replace e : (inV p q).map (! ·) = some k := e
  obtain ⟨k', e', rfl⟩ := Option.map_eq_some_iff.mp e
  rcases in_cases wf h1 h2 e' with ⟨d, ds, hd, he, c1, c2, c3, c4, rfl⟩ | ⟨c, z, rfl, rfl, rfl⟩
  · obtain ⟨as, r1⟩ := Dp.reads I d x v (hK ▸ hd) rx
    rcases he with he | he
    · obtain ⟨bs, r2⟩ := Dp.reads I (.list ds) y u (hK ▸ he) ry
      exact SeqAt.notIn_list_reads r2 r1 c3 c1 (by omega) ⟨.bl _, H, I, rfl, h⟩
    · obtain ⟨bs, r2⟩ := Dp.reads I (.tuple ds) y u (hK ▸ he) ry
      exact SeqAt.notIn_tuple_reads r2 r1 c3 c1 (by omega) ⟨.bl _, H, I, rfl, h⟩
  · exact op_notIn_sign pins s σ H _ _ v u Q I rx ry ⟨c, z, rfl, rfl, h⟩

/-! ### expressions over these -/
theorem cmp_use {ma mb : E} {o : CO} {σ : L2.St} {H : Hp} {Q : VK} (h : tE C (.cmp o ma mb) σ H Q) : tOp (rCO C o) (tB C ma) (tB C mb) σ H Q := by
  obtain ⟨W, ρ, wf, sl, q⟩ := h
  exact ⟨W, ρ, wf, sl, (After.bind (rel := RelB C σ ρ) q).mono fun x H1 ⟨p, W1, x1, r1, _, q1⟩ => ⟨W1, ρ, x1.wf, sl.ext x1, (After.bind (rel := RelB C σ ρ) q1).mono fun y H2 ⟨p2, W2, x2, r2, _, q2⟩ => by
    obtain ⟨r, e, q3⟩ := q2.of
    obtain ⟨k, e', rfl⟩ := Option.map_eq_some_iff.mp e
    exact ⟨W2, p, p2, k, x2.wf, ((r1.vb (sl.ext x1)).ext x2), r2.vb ((sl.ext x1).ext x2), e', q3.fin x2.wf (.bl k)⟩⟩⟩
theorem sim_cmp {a b : Expr} {ma mb : E} {op : CmpOp} {o : CO} {pos : Pos} (ha : PE X a (tB C ma)) (hb : PE X b (tB C mb)) (ho : OpR X (compareOp op) (rCO C o)) (hm : behindInMarks op b = false) : PE X (.Compare a [op] [b] pos) (tE C (.cmp o ma mb)) :=
  (pe_cmpR ho ha hb hm).weak fun σ H Q => cmp_use
theorem chain_use {ma mb mc : E} {o o' : CO} {σ : L2.St} {H : Hp} {Q : VK} (h : tE C (.chain o o' ma mb mc) σ H Q) : tChain (rCO C o) (rCO C o') (tB C ma) (tB C mb) (tB C mc) σ H Q := by
  obtain ⟨W, ρ, wf, sl, q⟩ := h
  exact ⟨W, ρ, wf, sl, (After.bind (rel := RelB C σ ρ) q).mono fun x H1 ⟨p, W1, x1, r1, _, q1⟩ => ⟨W1, ρ, x1.wf, sl.ext x1, (After.bind (rel := RelB C σ ρ) q1).mono fun y H2 ⟨p2, W2, x2, r2, _, q2⟩ => by
    have sl2 := (sl.ext x1).ext x2
    have r2' := r2.vb sl2
    obtain ⟨r, e, q3⟩ : ∃ r, o.ev p p2 = some r ∧ After C.rep W2 H2 (if r then (mc.ev C.cf ρ W2.S).bind fun z S => R.of ((o'.ev p2 z).map .bl) S else .ok (.bl false) W2.S) Q := by
      cases e : o.ev p p2 with
      | none => rw [e] at q2; exact q2.elim
      | some r => rw [e] at q2; exact ⟨r, rfl, q2⟩
    refine ⟨W2, p, p2, r, x2.wf, ((r1.vb (sl.ext x1)).ext x2), r2', e, r, rfl, ?_⟩
    cases r with
    | false => exact q3.fin x2.wf (.bl false)
    | true => exact ⟨W2, ρ, x2.wf, sl2, (After.bind (rel := RelB C σ ρ) q3).mono fun z H3 ⟨p3, W3, x3, r3, _, q4⟩ => by
        obtain ⟨r, e, q5⟩ := q4.of
        obtain ⟨k, e', rfl⟩ := Option.map_eq_some_iff.mp e
        exact ⟨W3, p2, p3, k, x3.wf, r2'.ext x3, r3.vb (sl2.ext x3), e', q5.fin x3.wf (.bl k)⟩⟩⟩⟩
theorem sim_chain {a b c : Expr} {ma mb mc : E} {op op' : CmpOp} {o o' : CO} {pos : Pos} (ha : PE X a (tB C ma)) (hb : PE X b (tB C mb)) (hc : PE X c (tB C mc)) (ho : OpR X (compareOp op) (rCO C o)) (ho' : OpR X (compareOp op') (rCO C o')) (hm : behindInMarks op' c = false) :
    PE X (.Compare a [op, op'] [b, c] pos) (tE C (.chain o o' ma mb mc)) :=
  (pe_chain ho ho' ha hb hc hm).weak fun σ H Q => chain_use

/-! ### truth -/
theorem tru_of {W : Wd} {H : Hp} {x : V} {p : PV} {k : Bool} (wf : Wf W H) (r : VB C W H x p) (e : p.truth = some k) : TruV C.K x H k := by
  cases p with
  | non => cases r.non; cases e; rfl
  | bl b => cases r.bl; cases e; rfl
  | int i => cases r.int; cases e; rfl
  | str s =>
    obtain ⟨rfl, o⟩ := r.str
    cases e
    refine ⟨by rw [toStr_len]; exact txOk_len o, ?_⟩
    rw [toStr_len]
    cases s with
    | nil => rfl
    | cons c s =>
      show true = _
      symm
      rw [bne_iff_ne]
      simp only [List.length_cons]
      omega
  | tup xs =>
    obtain ⟨a, ys, rfl, h, r, rz⟩ := r.tup
    cases e
    refine .inr (.inl ⟨ys, Same.sqT wf.sub h, ?_⟩)
    cases r <;> rfl
  | lst xs =>
    obtain ⟨a, ys, rfl, h, r, rz⟩ := r.lst wf
    cases e
    refine .inl ⟨ys, h, ?_⟩
    cases r <;> rfl
  | _ => cases e
/-- a test of an expression whose test is its value's truth -/
theorem simT_any {a : Expr} {ma : E} (hK : X.K = C.K) (ha : PE X a (tB C ma)) (he : ∀ whole, isTrue a X.env whole = (do let v ← whole; standAt a.pos; holding [v] (truthy v))) : PT X a (tT C ma) :=
  (pt_truth ha he).weak fun σ H Q ⟨W, ρ, wf, sl, q⟩ => ⟨W, ρ, wf, sl, (After.bind (rel := RelB C σ ρ) q).mono fun x H1 ⟨p, W1, x1, r1, _, q1⟩ => by
    obtain ⟨k, e, q2⟩ := q1.of
    exact ⟨k, hK ▸ tru_of x1.wf (r1.vb (sl.ext x1)) e, q2.fin x1.wf rfl⟩⟩
/-- a test of an expression that gives True or False, by the value's own rule -/
theorem simT_bl {a : Expr} {ma : E} {t : TE} (h : PT X a (tTest t)) (hw : ∀ σ H Q, tE C ma σ H Q → t σ H Q) (hb : ∀ ρ S p S', ma.ev C.cf ρ S = .ok p S' → ∃ b, p = .bl b) : PT X a (tT C ma) :=
  h.weak fun σ H Q ⟨W, ρ, wf, sl, q⟩ => by
    refine hw σ H _ ⟨W, ρ, wf, sl, ?_⟩
    refine (After.bind (rel := C.rep) q).mono fun x H1 ⟨p, W1, x1, r1, e, q1⟩ => ?_
    obtain ⟨b, rfl⟩ := hb _ _ _ _ e
    cases r1.bl_inv
    exact ⟨b, rfl, q1.fin x1.wf rfl⟩
theorem cmp_bl {cf : CallF} {ma mb : E} {o : CO} {ρ : Env} {S S' : Store} {p : PV} (h : (E.cmp o ma mb).ev cf ρ S = .ok p S') : ∃ b, p = .bl b := by
  replace h : ((ma.ev cf ρ S).bind fun x S => (mb.ev cf ρ S).bind fun y S => R.of ((o.ev x y).map .bl) S) = .ok p S' := h
  cases e1 : ma.ev cf ρ S with
  | ok x S1 =>
    rw [e1] at h
    replace h : ((mb.ev cf ρ S1).bind fun y S => R.of ((o.ev x y).map .bl) S) = .ok p S' := h
    cases e2 : mb.ev cf ρ S1 with
    | ok y S2 =>
      rw [e2] at h
      replace h : (R.of ((o.ev x y).map .bl) S2 : R PV) = .ok p S' := h
      cases e3 : o.ev x y with
      | none => rw [e3] at h; cases h
      | some k => rw [e3] at h; cases h; exact ⟨k, rfl⟩
    | exc _ _ => rw [e2] at h; cases h
    | bad => rw [e2] at h; cases h
  | exc _ _ => rw [e1] at h; cases h
  | bad => rw [e1] at h; cases h
theorem chain_bl {cf : CallF} {ma mb mc : E} {o o' : CO} {ρ : Env} {S S' : Store} {p : PV} (h : (E.chain o o' ma mb mc).ev cf ρ S = .ok p S') : ∃ b, p = .bl b := by
  replace h : ((ma.ev cf ρ S).bind fun x S => (mb.ev cf ρ S).bind fun y S => (R.of (o.ev x y) S).bind fun k S =>
      if k then (mc.ev cf ρ S).bind fun z S => R.of ((o'.ev y z).map .bl) S else .ok (.bl false) S) = .ok p S' := h
  cases e1 : ma.ev cf ρ S with
  | ok x S1 =>
    rw [e1] at h
    replace h : ((mb.ev cf ρ S1).bind fun y S => (R.of (o.ev x y) S).bind fun k S =>
      if k then (mc.ev cf ρ S).bind fun z S => R.of ((o'.ev y z).map .bl) S else .ok (.bl false) S) = .ok p S' := h
    cases e2 : mb.ev cf ρ S1 with
    | ok y S2 =>
      rw [e2] at h
      replace h : ((R.of (o.ev x y) S2 : R Bool).bind fun k S =>
        if k then (mc.ev cf ρ S).bind fun z S => R.of ((o'.ev y z).map .bl) S else .ok (.bl false) S) = .ok p S' := h
      cases e3 : o.ev x y with
      | none => rw [e3] at h; cases h
      | some k =>
        rw [e3] at h
        cases k with
        | false => cases h; exact ⟨false, rfl⟩
        | true =>
          replace h : ((mc.ev cf ρ S2).bind fun z S => R.of ((o'.ev y z).map .bl) S) = .ok p S' := h
          cases e4 : mc.ev cf ρ S2 with
          | ok z S3 =>
            rw [e4] at h
            replace h : (R.of ((o'.ev y z).map .bl) S3 : R PV) = .ok p S' := h
            cases e5 : o'.ev y z with
            | none => rw [e5] at h; cases h
            | some k => rw [e5] at h; cases h; exact ⟨k, rfl⟩
          | exc _ _ => rw [e4] at h; cases h
          | bad => rw [e4] at h; cases h
    | exc _ _ => rw [e2] at h; cases h
    | bad => rw [e2] at h; cases h
  | exc _ _ => rw [e1] at h; cases h
  | bad => rw [e1] at h; cases h
theorem simT_cmp {a b : Expr} {ma mb : E} {op : CmpOp} {o : CO} {pos : Pos} (ha : PE X a (tB C ma)) (hb : PE X b (tB C mb)) (ho : OpR X (compareOp op) (rCO C o)) (hm : behindInMarks op b = false) : PT X (.Compare a [op] [b] pos) (tT C (.cmp o ma mb)) :=
  simT_bl (pt_cmpR ho ha hb hm) (fun σ H Q => cmp_use) fun _ _ _ _ h => cmp_bl h
theorem simT_chain {a b c : Expr} {ma mb mc : E} {op op' : CmpOp} {o o' : CO} {pos : Pos} (ha : PE X a (tB C ma)) (hb : PE X b (tB C mb)) (hc : PE X c (tB C mc)) (ho : OpR X (compareOp op) (rCO C o)) (ho' : OpR X (compareOp op') (rCO C o')) (hm : behindInMarks op' c = false) :
    PT X (.Compare a [op, op'] [b, c] pos) (tT C (.chain o o' ma mb mc)) :=
  simT_bl (pt_chain ho ho' ha hb hc hm) (fun σ H Q => chain_use) fun _ _ _ _ h => chain_bl h
theorem simT_not {a : Expr} {ma : E} {pos : Pos} (ha : PT X a (tT C ma)) : PT X (.UnaryOp .Not a pos) (tT C (.not ma)) :=
  (pt_not ha).weak fun σ H Q ⟨W, ρ, wf, sl, q⟩ => ⟨W, ρ, wf, sl, by
    replace q : After (fun _ (b c : Bool) => b = c) W H (((ma.ev C.cf ρ W.S).bind fun x S => (R.of x.truth S).bind fun k S => .ok (PV.bl !k) S).bind fun x S => R.of x.truth S) Q := q
    show After _ W H ((ma.ev C.cf ρ W.S).bind fun x S => R.of x.truth S) _
    cases hr : ma.ev C.cf ρ W.S with
    | ok p S =>
      rw [hr] at q
      cases ht : p.truth with
      | none => simp only [R.bind, ht, R.of] at q; exact q.elim
      | some k =>
        simp only [R.bind, ht, R.of] at q ⊢
        intro v H' W' x e r
        subst r
        exact q (!v) H' W' x e rfl
    | exc _ _ => rw [hr] at q; exact q
    | bad => rw [hr] at q; exact q⟩
theorem R.bind_assoc {α β γ : Type} (r : R α) (f : α → Store → R β) (g : β → Store → R γ) : (r.bind f).bind g = r.bind fun a S => (f a S).bind g := by cases r <;> rfl
theorem R.bind_of {α β : Type} (o : Option α) (S : Store) (f : α → Store → R β) : (R.of o S).bind f = match o with | some a => f a S | none => .bad := by cases o <;> rfl
/-- a and b, as a test -/
theorem and_test {ma mb : E} {ρ : Env} {S : Store} {cf : CallF} : ((E.and ma mb).ev cf ρ S).bind (fun x S => R.of x.truth S) = ((ma.ev cf ρ S).bind fun x S => R.of x.truth S).bind fun k S => if k then (mb.ev cf ρ S).bind (fun x S => R.of x.truth S) else .ok false S := by
  show ((ma.ev cf ρ S).bind fun x S => (R.of x.truth S).bind fun k S => if k then mb.ev cf ρ S else .ok x S).bind _ = _
  rw [R.bind_assoc, R.bind_assoc]
  congr 1
  funext x S
  cases h : x.truth with
  | none => rfl
  | some k =>
    cases k
    · show R.of x.truth S = _
      rw [h]; rfl
    · rfl
theorem or_test {ma mb : E} {ρ : Env} {S : Store} {cf : CallF} : ((E.or ma mb).ev cf ρ S).bind (fun x S => R.of x.truth S) = ((ma.ev cf ρ S).bind fun x S => R.of x.truth S).bind fun k S => if k then .ok true S else (mb.ev cf ρ S).bind (fun x S => R.of x.truth S) := by
  show ((ma.ev cf ρ S).bind fun x S => (R.of x.truth S).bind fun k S => if k then .ok x S else mb.ev cf ρ S).bind _ = _
  rw [R.bind_assoc, R.bind_assoc]
  congr 1
  funext x S
  cases h : x.truth with
  | none => rfl
  | some k =>
    cases k
    · rfl
    · show R.of x.truth S = _
      rw [h]; rfl
theorem simW_and {a b : Expr} {rest : List Expr} {ma mb : E} {pos : Pos} (ha : PT X a (tT C ma)) (hb : PW X (.BoolOp .And (b :: rest) pos) (tT C mb)) : PW X (.BoolOp .And (a :: b :: rest) pos) (tT C (.and ma mb)) :=
  (pw_and ha hb).weak fun σ H Q ⟨W, ρ, wf, sl, q⟩ => ⟨W, ρ, wf, sl, by
    rw [and_test] at q
    refine (After.bind (rel := fun _ (b c : Bool) => b = c) q).mono fun k H1 ⟨p, W1, x1, r1, _, q1⟩ => ?_
    subst r1
    cases k with
    | true => exact ⟨W1, ρ, x1.wf, sl.ext x1, q1⟩
    | false => exact q1.fin x1.wf rfl⟩
theorem simW_or {a b : Expr} {rest : List Expr} {ma mb : E} {pos : Pos} (ha : PT X a (tT C ma)) (hb : PW X (.BoolOp .Or (b :: rest) pos) (tT C mb)) : PW X (.BoolOp .Or (a :: b :: rest) pos) (tT C (.or ma mb)) :=
  (pw_or ha hb).weak fun σ H Q ⟨W, ρ, wf, sl, q⟩ => ⟨W, ρ, wf, sl, by
    rw [or_test] at q
    refine (After.bind (rel := fun _ (b c : Bool) => b = c) q).mono fun k H1 ⟨p, W1, x1, r1, _, q1⟩ => ?_
    subst r1
    cases k with
    | false => exact ⟨W1, ρ, x1.wf, sl.ext x1, q1⟩
    | true => exact q1.fin x1.wf rfl⟩
theorem simE_and {a b : Expr} {rest : List Expr} {ma mb : E} {pos : Pos} (hK : X.K = C.K) (ha : PE X a (tE C ma)) (hb : PE X (.BoolOp .And (b :: rest) pos) (tE C mb)) : PE X (.BoolOp .And (a :: b :: rest) pos) (tE C (.and ma mb)) :=
  (pe_andT ha hb).weak fun σ H Q ⟨W, ρ, wf, sl, q⟩ => ⟨W, ρ, wf, sl, (After.bind (rel := C.rep) q).mono fun x H1 ⟨p, W1, x1, r1, _, q1⟩ => by
    rw [R.bind_of] at q1
    cases e : p.truth with
    | none => rw [e] at q1; exact q1.elim
    | some k =>
      rw [e] at q1
      refine ⟨k, hK ▸ tru_of x1.wf (.inl r1) e, ?_⟩
      cases k with
      | true => exact ⟨W1, ρ, x1.wf, sl.ext x1, q1⟩
      | false => exact After.fin (rel := C.rep) q1 x1.wf r1⟩
theorem simE_or {a b : Expr} {rest : List Expr} {ma mb : E} {pos : Pos} (hK : X.K = C.K) (ha : PE X a (tE C ma)) (hb : PE X (.BoolOp .Or (b :: rest) pos) (tE C mb)) : PE X (.BoolOp .Or (a :: b :: rest) pos) (tE C (.or ma mb)) :=
  (pe_orT ha hb).weak fun σ H Q ⟨W, ρ, wf, sl, q⟩ => ⟨W, ρ, wf, sl, (After.bind (rel := C.rep) q).mono fun x H1 ⟨p, W1, x1, r1, _, q1⟩ => by
    rw [R.bind_of] at q1
    cases e : p.truth with
    | none => rw [e] at q1; exact q1.elim
    | some k =>
      rw [e] at q1
      refine ⟨k, hK ▸ tru_of x1.wf (.inl r1) e, ?_⟩
      cases k with
      | false => exact ⟨W1, ρ, x1.wf, sl.ext x1, q1⟩
      | true => exact After.fin (rel := C.rep) q1 x1.wf r1⟩
theorem simE_not {a : Expr} {ma : E} {pos : Pos} (hK : X.K = C.K) (ha : PE X a (tB C ma)) : PE X (.UnaryOp .Not a pos) (tE C (.not ma)) :=
  (pe_notT ha).weak fun σ H Q ⟨W, ρ, wf, sl, q⟩ => ⟨W, ρ, wf, sl, (After.bind (rel := RelB C σ ρ) q).mono fun x H1 ⟨p, W1, x1, r1, _, q1⟩ => by
    rw [R.bind_of] at q1
    cases e : p.truth with
    | none => rw [e] at q1; exact q1.elim
    | some k =>
      rw [e] at q1
      exact ⟨k, hK ▸ tru_of x1.wf (r1.vb (sl.ext x1)) e, q1.fin x1.wf (.bl _)⟩⟩
theorem simE_neg {a : Expr} {ma : E} {pos : Pos} (ha : PE X a (tE C ma)) : PE X (.UnaryOp .USub a pos) (tE C (.neg ma)) :=
  (pe_un un_neg ha).weak fun σ H Q ⟨W, ρ, wf, sl, q⟩ => ⟨W, ρ, wf, sl, (After.bind (rel := C.rep) q).mono fun x H1 ⟨p, W1, x1, r1, _, q1⟩ => by
    cases p with
    | int i => cases r1.int_inv; exact ⟨i, rfl, q1.fin x1.wf (.int _)⟩
    | _ => exact q1.elim⟩
theorem simE_ite {c a b : Expr} {mc ma mb : E} {pos : Pos} (hc : PT X c (tT C mc)) (ha : PE X a (tE C ma)) (hb : PE X b (tE C mb)) : PE X (.IfExp c a b pos) (tE C (.ite mc ma mb)) :=
  (pe_ifExp hc ha hb).weak fun σ H Q ⟨W, ρ, wf, sl, q⟩ => ⟨W, ρ, wf, sl, by
    replace q : After C.rep W H ((mc.ev C.cf ρ W.S).bind fun x S => (R.of x.truth S).bind fun k S => if k then ma.ev C.cf ρ S else mb.ev C.cf ρ S) Q := q
    rw [← R.bind_assoc] at q
    refine (After.bind (rel := fun _ (b c : Bool) => b = c) q).mono fun k H1 ⟨p, W1, x1, r1, _, q1⟩ => ?_
    subst r1
    cases k with
    | true => exact ⟨W1, ρ, x1.wf, sl.ext x1, q1⟩
    | false => exact ⟨W1, ρ, x1.wf, sl.ext x1, q1⟩⟩
end
end A3

-- SimD
set_option Elab.async false
set_option linter.all false
set_option maxRecDepth 100000
set_option maxHeartbeats 4000000
/-! SimD: dict objects: what stands in the heap; list(d). -/
namespace A3
open PySem PySem.Spec PyProof.Rows L2

section
variable {X : Cx}
/-- the dict at d, as the heap has it -/
theorem dc_of {pins : List (Addr × Obj)} {σ : L2.St} {H : Hp} {s : Shared} {w : World} {d : Addr} {es : List DE} (I : Inv X pins σ H s) (e : H d = some (DcO w d es)) : DcP w d es s.heap := (I.hok d _ e).1
theorem DcP.raw {w : World} {d : Addr} {es : List DE} {h : Heap} (x : DcP w d es h) : ∃ (ds : Array DictEntry) (ep : Nat), h.DictRaw d ds ep ∧ ds.size = es.length ∧ ∀ i (hi : i < ds.size) (e : DE), es[i]? = some e → RelV e.2.1 ds[i].key ∧ RelV e.2.2 ds[i].val := by
  obtain ⟨_, _, _, xs, o, ds, ep, r, ho, hc, hd, hl⟩ := x
  have hs : ds.size = es.length := by rw [← Array.length_toList, hl, List.length_map, r.length]
  refine ⟨ds, ep, ⟨o, ho, hc, hd⟩, hs, fun i hi e he => ?_⟩
  have key : ∀ {as : List DE} {bs : List (NestedKey × Value × Value)}, Paired (fun (p : DE) (q : NestedKey × Value × Value) => p.1 = q.1 ∧ RelV p.2.1 q.2.1 ∧ RelV p.2.2 q.2.2) as bs → ∀ (i : Nat) (e : DE), as[i]? = some e → ∃ q, bs[i]? = some q ∧ RelV e.2.1 q.2.1 ∧ RelV e.2.2 q.2.2 := by
    intro as bs r
    induction r with
    | nil => intro i e h; simp at h
    | cons h t ih =>
      intro i e he
      cases i with
      | zero => simp only [List.getElem?_cons_zero, Option.some.injEq] at he; subst he; exact ⟨_, rfl, h.2.1, h.2.2⟩
      | succ i => simpa using ih i e (by simpa using he)
  obtain ⟨q, hq, h1, h2⟩ := key r i e he
  have : ds[i] = (⟨q.1.hash w, q.2.1, q.2.2⟩ : DictEntry) := by
    have z : ds.toList[i]? = some (⟨q.1.hash w, q.2.1, q.2.2⟩ : DictEntry) := by rw [hl, List.getElem?_map, hq]; rfl
    rw [Array.getElem?_toList, Array.getElem?_eq_getElem hi] at z
    exact Option.some.inj z
  rw [this]
  exact ⟨h1, h2⟩
theorem DcP.stay {w : World} {d : Addr} {es : List DE} {h h' : Heap} (x : DcP w d es h) (k : ∀ o, h.get? d = some o → h'.get? d = some o) : DcP w d es h' := by
  obtain ⟨a, b, c, xs, o, ds, ep, r, ho, q⟩ := x
  exact ⟨a, b, c, xs, o, ds, ep, r, k o ho, q⟩
/-- as the object of a dict -/
theorem DcP.ok {P : Program} {w w' : World} {H : Hp} {d : Addr} {es : List DE} {h : Heap} (x : DcP w d es h) : ObjOk P w' H h d (DcO w d es) :=
  ⟨x, let ⟨_, _, _, _, o, _, _, _, ho, _⟩ := x; ⟨o, ho⟩, fun _ _ y k => y.stay k⟩
theorem kdl_raw {prog : Program} {w : World} {d : Addr} {ds : Array DictEntry} {ep : Nat} (lo : (d == sysModules) = false) : W.KdlSrc prog w "dict" d d ds.size (fun i v => ∃ hi : i < ds.size, v = ds[i].key) (fun h => h.DictRaw d ds ep) where
  type := fun _ hm => hm.typeIs
  there := fun _ hm => let ⟨_, ho, _⟩ := hm; ⟨Heap.lt_size ho, Heap.lt_size ho⟩
  keep := fun _ _ hm hk => hm.at fun o e => hk d (.inl rfl) o e
  notList := by decide
  notTuple := by decide
  hint := fun _ _ _ _ hm hq => W.kdl_hint_dict hm.typeIs hq
  iter := fun _ s hh hm => ⟨_, _, (fun _ _ hq => wpAny_pyIter_dict_raw lo hm hq), Walks.rawKeys hh _ d (Nat.ne_of_lt (let ⟨_, ho, _⟩ := hm; Heap.lt_size ho)) ds ep, ⟨⟨_, Heap.get?_push_size _ rfl, rfl, rfl⟩, hm.at fun o e => Heap.get?_push_of_some _ e⟩⟩
/-- list(d) -/
theorem call_list_dct (hc : X.calm = true) : CallR X (.type "list") (fun xs H Q => ∃ w d es, xs = [.ref d] ∧ H d = some (DcO w d es) ∧ (es.length ≤ sizeLine → ∀ l, H l = none → Q (.ref l) (upd H l (.lst (es.map fun e => e.2.1))))) := by
  intro pins s σ H xs us Q I r ⟨w, d, es, e, hd, q⟩
  subst e
  obtain ⟨u, rfl, rx⟩ := vals1 r
  cases rx
  have x := dc_of I hd
  obtain ⟨ds, ep, hr, hs, hk⟩ := x.raw
  refine W.kdl_call (kdl_raw x.1) (I.ok.hd hc) hr (by rw [hs]; exact x.2.1) fun h' tk acc c kp he hacc => ?_
  refine ⟨.ref s.heap.objs.size, _, I.laid (t' := tk) kp (Nat.le_refl _) (show ObjOk X.prog X.w _ h' _ (.lst (es.map fun e => e.2.1)) from ⟨by rw [List.length_map]; exact x.2.1, acc.toList, c, ?_, he⟩), rfl, q x.2.1 _ (I.hok.fresh (Nat.le_refl _))⟩
  have key : ∀ (as : List DE) (vs : List Value), vs.length = as.length → (∀ (i : Nat) (v : Value) (e : DE), vs[i]? = some v → as[i]? = some e → RelV e.2.1 v) → Vals (as.map fun e => e.2.1) vs := by
    intro as
    induction as with
    | nil => intro vs hl _; cases vs with
      | nil => exact .nil
      | cons _ _ => cases hl
    | cons a as ih =>
      intro vs hl h
      cases vs with
      | nil => cases hl
      | cons v vs => exact .cons (h 0 v a rfl rfl) (ih vs (by simpa using hl) fun i v e h1 h2 => h (i + 1) v e (by simpa using h1) (by simpa using h2))
  refine key es acc.toList (by rw [Array.length_toList, hacc.1, hs]) fun i v e h1 h2 => ?_
  rw [Array.getElem?_toList] at h1
  obtain ⟨hi, rfl⟩ := hacc.2 i v h1
  exact (hk i hi e h2).1
/-- list(..) of a list, a tuple, a dict -/
theorem call_listA (hc : X.calm = true) : CallR X (.type "list") (fun xs H Q => (∃ p ys, xs = [.ref p] ∧ (SqL X.K H p ys ∨ SqT X.K H p ys) ∧ ∀ l, H l = none → Q (.ref l) (upd H l (.lst ys))) ∨
    (∃ w d es, xs = [.ref d] ∧ H d = some (DcO w d es) ∧ (es.length ≤ sizeLine → ∀ l, H l = none → Q (.ref l) (upd H l (.lst (es.map fun e => e.2.1)))))) := by
  intro pins s σ H xs us Q I r h
  rcases h with h | h
  · exact call_list_of pins s σ H xs us Q I r h
  · exact call_list_dct hc pins s σ H xs us Q I r h
end
section
variable {C : Ctx} {W : Wd}
theorem RepD.keysL : ∀ {es : List DE} {kvs : List (PV × PV)}, RepD C.K C.fa W es kvs → RepL C.K C.fa W (es.map fun e => e.2.1) (kvs.map (·.1))
  | _, _, .nil => .nil
  | _, _, .cons r1 _ _ t => .cons r1 (RepD.keysL t)
theorem RepD.len : ∀ {es : List DE} {kvs : List (PV × PV)}, RepD C.K C.fa W es kvs → es.length = kvs.length
  | _, _, .nil => rfl
  | _, _, .cons _ _ _ t => by simp [RepD.len t]
theorem Rep.dct_inv {v : V} {kvs : List (PV × PV)} (r : Rep C.K C.fa W v (.dct kvs)) : ∃ d es, v = .ref d ∧ W.F d = some (DcO C.fa.w d es) ∧ RepD C.K C.fa W es kvs := by
  cases r with | dct h t => exact ⟨_, _, rfl, h, t⟩
theorem VB.dct {H : Hp} {v : V} {kvs : List (PV × PV)} (r : VB C W H v (.dct kvs)) : ∃ d es, v = .ref d ∧ W.F d = some (DcO C.fa.w d es) ∧ RepD C.K C.fa W es kvs := (r.rep (fun _ => nofun)).dct_inv
end
end A3

-- Sim3
set_option Elab.async false
set_option linter.all false
set_option maxRecDepth 100000
set_option maxHeartbeats 4000000
/-! Sim3: displays, subscripts, built-in calls, calls, what is walked, targets. -/
namespace A3
open PySem PySem.Spec PyProof.Rows L2

section
variable {X : Cx} {C : Ctx}
/-! ### no stars -/
def notStar : Expr → Bool
  | .Starred _ _ => false
  | _ => true
theorem star_cons {e : Expr} {es : List Expr} {env : PySem.Env} (h : notStar e = true) : starEach (e :: es) env = (false, eval e env) :: starEach es env := by
  cases e <;> first | rfl | cases h
theorem star_none {pos : Pos} {env : PySem.Env} : ∀ {es : List Expr}, (∀ e ∈ es, notStar e = true) → (backTo pos (starEach es env)).any (·.1) = false
  | [], _ => rfl
  | e :: es, h => by
    rw [star_cons (h e List.mem_cons_self)]
    have ih := star_none (pos := pos) (env := env) fun x hx => h x (List.mem_cons_of_mem _ hx)
    simpa [backTo] using ih

/-! ### argument lists, displays -/
theorem simA_nil : PA X [] (tEs C .nil) := pa_nil.weak fun σ H Q ⟨W, ρ, wf, sl, q⟩ => After.fin (rel := C.repL) q wf .nil
theorem simA_cons {e : Expr} {es : List Expr} {m : E} {ms : Es} (he : PE X e (tE C m)) (hr : PA X es (tEs C ms)) (hs : notStar e = true) : PA X (e :: es) (tEs C (.cons m ms)) :=
  (pa_cons he hr (star_cons hs)).weak fun σ H Q ⟨W, ρ, wf, sl, q⟩ => ⟨W, ρ, wf, sl, (After.bind (rel := C.rep) q).mono fun x H1 ⟨p, W1, x1, r1, _, q1⟩ => ⟨W1, ρ, x1.wf, sl.ext x1, (After.bind (rel := C.repL) q1).mono fun xs H2 ⟨ps, W2, x2, r2, _, q2⟩ => After.fin (rel := C.repL) q2 x2.wf (.cons (r1.ext x2) r2)⟩⟩
def Es.count : Es → Nat
  | .nil => 0
  | .cons _ es => es.count + 1
  | .star _ _ => 65536
theorem R.bind_ok {α β : Type} {r : A3.R α} {f : α → Store → A3.R β} {y : β} {S' : Store} (h : r.bind f = .ok y S') : ∃ x S, r = .ok x S ∧ f x S = .ok y S' := by
  cases r with
  | ok x S => exact ⟨x, S, rfl, h⟩
  | exc _ _ => cases h
  | bad => cases h
theorem Es.ev_len {cf : CallF} : ∀ {es : Es} {ρ : Env} {S S' : Store} {ps : List PV}, es.ev cf ρ S = .ok ps S' → ps.length ≤ es.count
  | .nil, _, _, _, _, h => by cases h; exact Nat.le_refl _
  | .cons e es, ρ, S, S', ps, h => by
    replace h : ((e.ev cf ρ S).bind fun x S => (es.ev cf ρ S).bind fun xs S => R.ok (x :: xs) S) = .ok ps S' := h
    obtain ⟨p, S1, _, h⟩ := R.bind_ok h
    obtain ⟨qs, S2, e2, h⟩ := R.bind_ok h
    cases h
    have := Es.ev_len e2
    show qs.length + 1 ≤ es.count + 1
    omega
  | .star e es, ρ, S, S', ps, h => by
    replace h : ((e.ev cf ρ S).bind fun x S => (R.of (starOf x) S).bind fun ys S => (es.ev cf ρ S).bind fun zs S => if ys.length + zs.length ≤ 65536 then R.ok (ys ++ zs) S else .bad) = .ok ps S' := h
    obtain ⟨p, S1, _, h⟩ := R.bind_ok h
    obtain ⟨ys, S2, _, h⟩ := R.bind_ok h
    obtain ⟨zs, S3, _, h⟩ := R.bind_ok h
    split at h
    · cases h
      rw [List.length_append]; assumption
    · cases h
theorem small_line {n : Nat} (h : n ≤ 100000) : n ≤ sizeLine := by rw [sizeLine_eq]; omega
theorem simE_tup {es : List Expr} {ms : Es} {k : Nat} {pos : Pos} (h : PA X es (tEs C ms)) (hz : ms.count ≤ 100000) : PE X (.Tuple es k pos) (tE C (.tup ms)) :=
  (pe_tup h).weak fun σ H Q ⟨W, ρ, wf, sl, q⟩ => ⟨W, ρ, wf, sl, (After.bind (rel := C.repL) q).mono fun xs H1 ⟨ps, W1, x1, r1, e, q1⟩ => by
    have hl := Es.ev_len e
    have z : ps.length ≤ sizeLine := small_line (by omega)
    exact ⟨by rw [r1.length]; exact z, fun p hp => After.lay (rel := C.rep) q1 x1.wf hp (.tup (.inl (.inl upd_same)) (r1.ext (.laid x1.wf hp)) z)⟩⟩
theorem simE_lst {es : List Expr} {ms : Es} {pos : Pos} (h : PA X es (tEs C ms)) (hz : ms.count ≤ 100000) : PE X (.List es pos) (tE C (.lst ms)) :=
  (pe_lst h).weak fun σ H Q ⟨W, ρ, wf, sl, q⟩ => ⟨W, ρ, wf, sl, (After.bind (rel := C.repL) q).mono fun xs H1 ⟨ps, W1, x1, r1, e, q1⟩ => by
    have hl := Es.ev_len e
    have z : ps.length ≤ sizeLine := small_line (by omega)
    exact ⟨by rw [r1.length]; exact z, fun p hp => After.lay (rel := C.rep) q1 x1.wf hp (.lst (.inl (.inl upd_same)) (r1.ext (.laid x1.wf hp)) z)⟩⟩

/-! ### subscripts -/
theorem ixOf_eq : ixOf = ixN := rfl
def rIX (C : Ctx) : R2 := fun x y H Q => ∃ W p q r, Wf W H ∧ VB C W H x p ∧ VB C W H y q ∧ idxEv p q = some r ∧ After C.rep W H (.ok r W.S) Q
theorem atI_of {W : Wd} {xs : List V} {ps : List PV} {i : Int} {p : PV} (r : RepL C.K C.fa W xs ps) (e : ((ixOf ps.length i).bind fun k => ps[k]?) = some p) : ∃ v, atI xs i = some v ∧ Rep C.K C.fa W v p := by
  obtain ⟨k, e1, e2⟩ := Option.bind_eq_some_iff.mp e
  obtain ⟨v, h1, h2⟩ := r.get e2
  refine ⟨v, ?_, h2⟩
  unfold atI
  rw [r.length]
  rw [ixOf_eq] at e1
  rw [e1]; exact h1
theorem ix_ok (hK : X.K = C.K) : IxR X (rIX C) := by
  intro ex sx pins s σ H x y v u Q I rx ry ⟨W, p, q, r, wf, h1, h2, e, k⟩ hs
  unfold idxEv at e
  split at e
  · cases h2.int
    obtain ⟨a, xs, rfl, d1, r1, _⟩ := h1.lst wf
    obtain ⟨w, e1, e2⟩ := atI_of r1 e
    exact ix_list ex sx pins s σ H _ _ v u Q I rx ry ⟨a, xs, _, w, rfl, rfl, hK ▸ d1, e1, k.fin wf e2⟩ hs
  · cases h2.int
    obtain ⟨a, xs, rfl, d1, r1, _⟩ := h1.tup
    obtain ⟨w, e1, e2⟩ := atI_of r1 e
    exact ix_tup ex sx pins s σ H _ _ v u Q I rx ry ⟨a, xs, _, w, rfl, rfl, Same.sqT wf.sub (hK ▸ d1), e1, k.fin wf e2⟩ hs
  · rename_i t i
    cases h2.int
    obtain ⟨rfl, o⟩ := h1.str
    obtain ⟨j, e1, e2⟩ := Option.bind_eq_some_iff.mp e
    obtain ⟨c, e3, rfl⟩ := Option.map_eq_some_iff.mp e2
    refine ix_str ex sx pins s σ H _ _ v u Q I rx ry ⟨_, _, c, rfl, rfl, by rw [toStr_len]; exact txOk_len o, ?_, k.fin wf (.str [c] (txOk_sub o (fun d hd => ?_) ?_))⟩ hs
    · show ((ixN t.length i).bind fun j => t[j]?) = some c
      rw [← ixOf_eq, e1]; exact e3
    · cases List.mem_singleton.mp hd
      exact List.mem_of_getElem? e3
    · have := (List.getElem?_eq_some_iff.mp e3).1
      simp only [List.length_singleton]; omega
  · cases e
def notSlice : Expr → Bool
  | .Slice .. => false
  | _ => true
theorem plainIx_of {b : Expr} (h : notSlice b = true) : PlainIx b := by
  intro o i
  cases b <;> first | rfl | cases h
theorem simE_idx {a b : Expr} {ma mb : E} {pos : Pos} (hK : X.K = C.K) (ha : PE X a (tB C ma)) (hb : PE X b (tE C mb)) (hs : notSlice b = true) : PE X (.Subscript a b pos) (tE C (.idx ma mb)) :=
  (pe_ix (ix_ok hK) ha hb (plainIx_of hs)).weak fun σ H Q ⟨W, ρ, wf, sl, q⟩ => ⟨W, ρ, wf, sl, (After.bind (rel := RelB C σ ρ) q).mono fun x H1 ⟨p, W1, x1, r1, _, q1⟩ => ⟨W1, ρ, x1.wf, sl.ext x1, (After.bind (rel := C.rep) q1).mono fun y H2 ⟨p2, W2, x2, r2, _, q2⟩ => by
    obtain ⟨r, e, q3⟩ := q2.of
    exact ⟨W2, p, p2, r, x2.wf, ((r1.vb (sl.ext x1)).ext x2), .inl r2, e, q3⟩⟩⟩
/-! slices -/
def tOE (C : Ctx) (m : OE) : TO := fun σ H Q => ∃ W ρ, Wf W H ∧ Slots C.K C.fa W σ ρ H ∧ After (fun _ (b c : Option Int) => b = c) W H (m.ev C.cf ρ W.S) Q
theorem _root_.L2.PO.weak {e : Option Expr} {t t' : TO} (h : PO X e t) (hw : ∀ σ H Q, t' σ H Q → t σ H Q) : PO X e t' := ⟨fun pins s σ H Q I q => h.run pins s σ H Q I (hw _ _ _ q)⟩
theorem simO_none : PO X none (tOE C .none) := po_none.weak fun σ H Q ⟨W, ρ, wf, sl, q⟩ => After.fin q wf rfl
theorem simO_some {e : Expr} {m : E} (h : PE X e (tE C m)) : PO X (some e) (tOE C (.some m)) := (po_some h).weak fun σ H Q ⟨W, ρ, wf, sl, q⟩ => ⟨W, ρ, wf, sl, (After.bind (rel := C.rep) q).mono fun x H1 ⟨p, W1, x1, r1, _, q1⟩ => by
  cases p with
  | int i => cases r1.int_inv; exact ⟨i, rfl, After.fin (rel := fun _ (b c : Option Int) => b = c) q1 x1.wf rfl⟩
  | _ => exact q1.elim⟩
theorem cut_eq (xs : List V) (lo hi : Option Int) : cutV xs lo hi = cut xs lo hi := rfl
theorem RepL.cut {W : Wd} {xs : List V} {ps : List PV} (r : RepL C.K C.fa W xs ps) (lo hi : Option Int) : RepL C.K C.fa W (A3.cut xs lo hi) (A3.cut ps lo hi) := by
  unfold A3.cut
  rw [r.length]
  exact (r.drop _).take _
theorem cut_len {α : Type} (xs : List α) (lo hi : Option Int) : (cut xs lo hi).length ≤ xs.length := by
  unfold cut
  rw [List.length_take, List.length_drop]; omega
theorem cut_whole {α : Type} (xs : List α) (lo hi : Option Int) (h : HT.sIx xs.length 0 lo = 0 ∧ HT.sIx xs.length xs.length hi = xs.length) : cut xs lo hi = xs := by
  unfold cut
  have h1 : sliceAt xs.length 0 lo = 0 := h.1
  have h2 : sliceAt xs.length xs.length hi = xs.length := h.2
  rw [h1, h2, List.drop_zero, Nat.sub_zero, List.take_length]
def rSL (C : Ctx) : V → Option Int → Option Int → Hp → VK → Prop := fun x lo hi H Q => ∃ W p r, Wf W H ∧ VB C W H x p ∧ slcEv p lo hi = some r ∧ After C.rep W H (.ok r W.S) Q
theorem cutS_toStr (t : Tx) (lo hi : Option Int) : cutS (toStr t) lo hi = toStr (cut t lo hi) := by
  unfold cutS
  rfl
theorem sl_ok (hK : X.K = C.K) : SlR X (rSL C) := by
  intro pins s σ H x v vl vu lo hi sl Q I rx hs pl pu ⟨W, p, r, wf, h1, e, k⟩
  unfold slcEv at e
  split at e
  · cases e
    obtain ⟨a, xs, rfl, d1, r1, z⟩ := h1.lst wf
    exact sl_list pins s σ H _ v vl vu lo hi sl Q I rx hs pl pu ⟨a, xs, rfl, hK ▸ d1, fun p hp => by
      rw [cut_eq]
      exact k.lay wf hp (.lst (.inl (.inl upd_same)) ((r1.cut lo hi).ext (.laid wf hp)) (Nat.le_trans (cut_len _ _ _) z))⟩
  · cases e
    obtain ⟨a, xs, rfl, d1, r1, z⟩ := h1.tup
    refine sl_tupA pins s σ H _ v vl vu lo hi sl Q I rx hs pl pu ⟨a, xs, rfl, Same.sqT wf.sub (hK ▸ d1), fun hw => ?_, fun _ p hp => ?_⟩
    · have r2 := r1.cut lo hi
      rw [cut_whole xs lo hi hw] at r2
      exact k.fin wf (.tup d1 r2 (Nat.le_trans (cut_len _ _ _) z))
    · rw [cut_eq]
      exact k.lay wf hp (.tup (.inl (.inl upd_same)) ((r1.cut lo hi).ext (.laid wf hp)) (Nat.le_trans (cut_len _ _ _) z))
  · rename_i t
    cases e
    obtain ⟨rfl, o⟩ := h1.str
    refine sl_str pins s σ H _ v vl vu lo hi sl Q I rx hs pl pu ⟨_, rfl, by rw [toStr_len]; exact txOk_len o, ?_⟩
    rw [cutS_toStr]
    exact k.fin wf (.str _ (txOk_sub o (fun c hc => List.mem_of_mem_drop (List.mem_of_mem_take hc)) (cut_len _ _ _)))
  · cases e
theorem simE_slc {a : Expr} {lo hi : Option Expr} {ma : E} {ml mh : OE} {p2 pos : Pos} (hK : X.K = C.K) (ha : PE X a (tB C ma)) (hl : PO X lo (tOE C ml)) (hh : PO X hi (tOE C mh)) : PE X (.Subscript a (.Slice lo hi none p2) pos) (tE C (.slc ma ml mh)) :=
  (pe_slice (sl_ok hK) ha hl hh).weak fun σ H Q ⟨W, ρ, wf, sl, q⟩ => ⟨W, ρ, wf, sl, (After.bind (rel := RelB C σ ρ) q).mono fun x H1 ⟨p, W1, x1, r1, _, q1⟩ => ⟨W1, ρ, x1.wf, sl.ext x1, (After.bind (rel := fun _ (b c : Option Int) => b = c) q1).mono fun l H2 ⟨l2, W2, x2, r2, _, q2⟩ => ⟨W2, ρ, x2.wf, (sl.ext x1).ext x2, (After.bind (rel := fun _ (b c : Option Int) => b = c) q2).mono fun h H3 ⟨h3, W3, x3, r3, _, q3⟩ => by
    subst r2 r3
    obtain ⟨r, e, q4⟩ := q3.of
    exact ⟨W3, p, r, x3.wf, ((r1.vb (sl.ext x1)).ext x2).ext x3, e, q4⟩⟩⟩⟩

/-! ### built-in calls of one argument -/
def rB1 (C : Ctx) (f : B1) : List V → Hp → VK → Prop := fun vs H Q => ∃ W x p r, vs = [x] ∧ Wf W H ∧ VB C W H x p ∧ f.ev p = some r ∧ After C.rep W H (.ok r W.S) Q
theorem b1_read {a : Expr} {ma : E} {f : B1} (ha : PE X a (tB C ma)) (hs : notStar a = true) : PA X [a] (tCons (tB C ma) tNil) := pa_cons ha pa_nil (star_cons hs)
theorem b1_use {ma : E} {f : B1} {σ : L2.St} {H : Hp} {Q : VK} (h : tE C (.b1 f ma) σ H Q) : tCB (rB1 C f) (tCons (tB C ma) tNil) σ H Q := by
  obtain ⟨W, ρ, wf, sl, q⟩ := h
  refine ⟨W, ρ, wf, sl, (After.bind (rel := RelB C σ ρ) q).mono fun x H1 ⟨p, W1, x1, r1, _, q1⟩ => ?_⟩
  obtain ⟨r, e, q2⟩ := q1.of
  exact ⟨W1, x, p, r, rfl, x1.wf, r1.vb (sl.ext x1), e, q2⟩
theorem simE_b1B {a : Expr} {ma : E} {f : B1} {x : Str} {id : String} {p pos : Pos} (hc : CallR X (.builtin id) (rB1 C f)) (hg : Gl X x) (hm : X.mg x = none) (hv : bootBuiltins x = some (.builtin id)) (ha : PE X a (tB C ma)) (hs : notStar a = true)
    (hn : x ≠ "__name__") (hdb : (x == ("__debug__" : Str)) = false) : PE X (.Call (.Name x p) [a] [] pos) (tE C (.b1 f ma)) :=
  (pe_callB hc hg hm hv (b1_read (f := f) ha hs) hn hdb (star_cons hs) rfl).weak fun _ _ _ h => b1_use h
theorem simE_b1T {a : Expr} {ma : E} {f : B1} {x : Str} {T : String} {p pos : Pos} (hc : CallR X (.type T) (rB1 C f)) (hg : Gl X x) (hm : X.mg x = none) (hv : bootBuiltins x = some (.type T)) (ha : PE X a (tB C ma)) (hs : notStar a = true)
    (hn : x ≠ "__name__") (hdb : (x == ("__debug__" : Str)) = false) : PE X (.Call (.Name x p) [a] [] pos) (tE C (.b1 f ma)) :=
  (pe_callTy hc hg hm hv (b1_read (f := f) ha hs) hn hdb (star_cons hs) rfl).weak fun _ _ _ h => b1_use h
theorem b_len (hK : X.K = C.K) : CallR X (.builtin "len") (rB1 C .len) := by
  intro pins s σ H vs us Q I r h0
  obtain ⟨W, x, p, q, rfl, wf, h, e, k⟩ := h0
  replace e : lenV p = some q := e
  unfold lenV at e
  split at e
  · cases e
    obtain ⟨a, xs, rfl, d1, r1, z⟩ := h.lst wf
    exact call_len_seq pins s σ H _ us Q I r ⟨a, xs, rfl, .inl (hK ▸ d1), by rw [r1.length]; exact k.fin wf (.int _)⟩
  · cases e
    obtain ⟨a, xs, rfl, d1, r1, z⟩ := h.tup
    exact call_len_seq pins s σ H _ us Q I r ⟨a, xs, rfl, .inr (Same.sqT wf.sub (hK ▸ d1)), by rw [r1.length]; exact k.fin wf (.int _)⟩
  · cases e
    obtain ⟨rfl, o⟩ := h.str
    exact call_len_str pins s σ H _ us Q I r ⟨_, rfl, by rw [toStr_len]; exact txOk_len o, by rw [toStr_len]; exact k.fin wf (.int _)⟩
  · cases e
theorem b_int : CallR X (.type "int") (rB1 C .int) := by
  intro pins s σ H vs us Q I r h0
  obtain ⟨W, x, p, q, rfl, wf, h, e, k⟩ := h0
  replace e : intV p = some q := e
  unfold intV at e
  split at e
  · cases e; cases h.int
    exact call_int1 pins s σ H _ us Q I r (.inl ⟨_, rfl, k.fin wf (.int _)⟩)
  · cases e; cases h.bl
    exact call_int1 pins s σ H _ us Q I r (.inr ⟨_, rfl, k.fin wf (.int _)⟩)
  · cases e
theorem b_list (hK : X.K = C.K) (hc : X.calm = true) : CallR X (.type "list") (rB1 C .list) := by
  intro pins s σ H vs us Q I r h0
  obtain ⟨W, x, p, q, rfl, wf, h, e, k⟩ := h0
  replace e : listV p = some q := e
  unfold listV at e
  split at e
  · cases e
    obtain ⟨a, xs, rfl, d1, r1, z⟩ := h.lst wf
    exact call_list_of pins s σ H _ us Q I r ⟨a, xs, rfl, .inl (hK ▸ d1), fun l hl => k.lay wf hl (.lst (.inl (.inl upd_same)) (r1.ext (.laid wf hl)) z)⟩
  · cases e
    obtain ⟨a, xs, rfl, d1, r1, z⟩ := h.tup
    exact call_list_of pins s σ H _ us Q I r ⟨a, xs, rfl, .inr (Same.sqT wf.sub (hK ▸ d1)), fun l hl => k.lay wf hl (.lst (.inl (.inl upd_same)) (r1.ext (.laid wf hl)) z)⟩
  · cases e
    obtain ⟨d, es, rfl, d1, r1⟩ := h.dct
    have hz := (dc_of I (wf.sub _ _ d1)).2.1
    exact call_list_dct hc pins s σ H _ us Q I r ⟨_, d, es, rfl, wf.sub _ _ d1, fun _ l hl => k.lay wf hl (.lst (.inl (.inl upd_same)) (r1.keysL.ext (.laid wf hl)) (by rw [List.length_map, ← r1.len]; exact hz))⟩
  · cases e
theorem b_tuple (hK : X.K = C.K) : CallR X (.type "tuple") (rB1 C .tuple) := by
  intro pins s σ H vs us Q I r h0
  obtain ⟨W, x, p, q, rfl, wf, h, e, k⟩ := h0
  replace e : tupleV p = some q := e
  unfold tupleV at e
  split at e
  · cases e
    obtain ⟨a, xs, rfl, d1, r1, z⟩ := h.lst wf
    exact call_tuple_of pins s σ H _ us Q I r ⟨a, xs, rfl, .inl ⟨hK ▸ d1, fun l hl => k.lay wf hl (.tup (.inl (.inl upd_same)) (r1.ext (.laid wf hl)) z)⟩⟩
  · cases e
    obtain ⟨a, xs, rfl, d1, r1, z⟩ := h.tup
    exact call_tuple_of pins s σ H _ us Q I r ⟨a, xs, rfl, .inr ⟨Same.sqT wf.sub (hK ▸ d1), k.fin wf (.tup d1 r1 z)⟩⟩
  · cases e
theorem b_sum (hK : X.K = C.K) (hc : X.calm = true) : CallR X (.builtin "sum") (rB1 C .sum) := by
  intro pins s σ H vs us Q I r h0
  obtain ⟨W, x, p, q, rfl, wf, h, e, k⟩ := h0
  replace e : sumV p = some q := e
  unfold sumV at e
  split at e
  · obtain ⟨ns, e1, rfl⟩ := Option.map_eq_some_iff.mp e
    cases allInts_map e1
    obtain ⟨a, xs, rfl, d1, r1, z⟩ := h.lst wf
    rw [repL_ints r1] at d1
    exact cr_sum hc pins s σ H _ us Q I r ⟨a, ns, rfl, hK ▸ d1, k.fin wf (.int _)⟩
  · cases e
theorem allBools_map : ∀ {ps : List PV} {bs : List Bool}, allBools ps = some bs → ps = bs.map PV.bl
  | [], bs, h => by unfold allBools at h; cases h; rfl
  | p :: ps, bs, h => by
    cases p with
    | bl i =>
      unfold allBools at h
      obtain ⟨ms, h1, rfl⟩ := Option.map_eq_some_iff.mp h
      rw [allBools_map h1]; rfl
    | _ => unfold allBools at h; cases h
theorem repL_bools {W : Wd} : ∀ {vs : List V} {bs : List Bool}, RepL C.K C.fa W vs (bs.map PV.bl) → vs = bs.map V.bl
  | [], bs, h => by
    cases bs with
    | nil => rfl
    | cons => cases h
  | v :: vs, bs, h => by
    cases bs with
    | nil => cases h
    | cons n ns =>
      cases h with
      | cons r t => rw [r.bl_inv, repL_bools t]; rfl
theorem b_any (hK : X.K = C.K) (hc : X.calm = true) : CallR X (.builtin "any") (rB1 C .any) := by
  intro pins s σ H vs us Q I r h0
  obtain ⟨W, x, p, q, rfl, wf, h, e, k⟩ := h0
  replace e : anyV p = some q := e
  unfold anyV at e
  split at e
  · obtain ⟨ns, e1, rfl⟩ := Option.map_eq_some_iff.mp e
    cases allBools_map e1
    obtain ⟨a, xs, rfl, d1, r1, z⟩ := h.lst wf
    rw [repL_bools r1] at d1
    exact cr_any hc pins s σ H _ us Q I r ⟨a, ns, rfl, hK ▸ d1, k.fin wf (.bl _)⟩
  · cases e
theorem b_all (hK : X.K = C.K) (hc : X.calm = true) : CallR X (.builtin "all") (rB1 C .all) := by
  intro pins s σ H vs us Q I r h0
  obtain ⟨W, x, p, q, rfl, wf, h, e, k⟩ := h0
  replace e : allV p = some q := e
  unfold allV at e
  split at e
  · obtain ⟨ns, e1, rfl⟩ := Option.map_eq_some_iff.mp e
    cases allBools_map e1
    obtain ⟨a, xs, rfl, d1, r1, z⟩ := h.lst wf
    rw [repL_bools r1] at d1
    exact cr_all hc pins s σ H _ us Q I r ⟨a, ns, rfl, hK ▸ d1, k.fin wf (.bl _)⟩
  · cases e
theorem b_ord : CallR X (.builtin "ord") (rB1 C .ord) := by
  intro pins s σ H vs us Q I r h0
  obtain ⟨W, x, p, q, rfl, wf, h, e, k⟩ := h0
  replace e : ordV p = some q := e
  unfold ordV at e
  split at e
  · cases e
    obtain ⟨rfl, o⟩ := h.str
    exact call_ord pins s σ H _ us Q I r ⟨_, rfl, rfl, k.fin wf (.int _)⟩
  · cases e
/-! isinstance -/
def Ty.nm : Ty → String
  | .int => "int"
  | .bool => "bool"
  | .str => "str"
  | .tuple => "tuple"
  | .list => "list"
theorem rd_tyL {K : PySem.W.Frag} {H : Hp} {a : Addr} {xs : List V} (h : SqL K H a xs) : TyX K H (.ref a) (.type "list") := by
  rcases h with (h | ⟨o, h⟩) | ⟨o, its, n, e, c, _⟩
  · exact .base (.lst h)
  · exact .base (.frz h)
  · exact .kList e c
theorem sq_tyT {K : PySem.W.Frag} {H : Hp} {a : Addr} {xs : List V} (h : SqT K H a xs) : TyX K H (.ref a) (.type "tuple") := by
  rcases h with (h | ⟨o, h⟩) | ⟨o, its, n, e, c, _⟩
  · exact .base (.tup h)
  · exact .fTuple h
  · exact .kTuple e c
theorem kit_all : (∀ t : Ty, kitB "NoneType" t.nm = some false) ∧ (∀ t : Ty, kitB "bool" t.nm = some (match t with | .int => true | .bool => true | _ => false)) ∧ (∀ t : Ty, kitB "int" t.nm = some (match t with | .int => true | _ => false)) ∧
    (∀ t : Ty, kitB "str" t.nm = some (match t with | .str => true | _ => false)) ∧ (∀ t : Ty, kitB "tuple" t.nm = some (match t with | .tuple => true | _ => false)) ∧ (∀ t : Ty, kitB "list" t.nm = some (match t with | .list => true | _ => false)) := by
  refine ⟨?_, ?_, ?_, ?_, ?_, ?_⟩ <;> intro t <;> cases t <;> decide +kernel
theorem isi_ok {W : Wd} {H : Hp} {v : V} {p : PV} {t : Ty} {k : Bool} (wf : Wf W H) (h : VB C W H v p) (e : t.ev p = some k) : ∃ ty, TyX C.K H v ty ∧ PySem.W.kitOne C.K ty (.type t.nm) = some k := by
  obtain ⟨k1, k2, k3, k4, k5, k6⟩ := kit_all
  cases p with
  | non => cases h.non; cases e; exact ⟨_, .base .non, kit_ty (k1 t)⟩
  | bl b => cases h.bl; cases e; exact ⟨_, .base (.bl b), kit_ty (k2 t)⟩
  | int b => cases h.int; cases e; exact ⟨_, .base (.int b), kit_ty (k3 t)⟩
  | str s => obtain ⟨rfl, o⟩ := h.str; cases e; exact ⟨_, .base (.str _), kit_ty (k4 t)⟩
  | tup xs => obtain ⟨a, ys, rfl, d, r, z⟩ := h.tup; cases e; exact ⟨_, sq_tyT (Same.sqT wf.sub d), kit_ty (k5 t)⟩
  | lst xs => obtain ⟨a, ys, rfl, d, r, z⟩ := h.lst wf; cases e; exact ⟨_, rd_tyL d, kit_ty (k6 t)⟩
  | _ => cases e
theorem simE_isi {a : Expr} {ma : E} {t : Ty} {x : Str} {p p2 pos : Pos} (hK : X.K = C.K) (hg : Gl X "isinstance") (hm : X.mg "isinstance" = none) (hv : bootBuiltins "isinstance" = some (.builtin "isinstance")) (ha : PE X a (tB C ma)) (hs : notStar a = true)
    (hg2 : Gl X x) (hm2 : X.mg x = none) (hv2 : bootBuiltins x = some (.type t.nm)) (hn2 : x ≠ "__name__") (hd2 : (x == ("__debug__" : Str)) = false) : PE X (.Call (.Name "isinstance" p) [a, .Name x p2] [] pos) (tE C (.isi ma t)) :=
  (pe_callB call_isi hg hm hv (pa_cons ha (pa_cons (pe_bltn (v := .ty t.nm) hg2 hm2 hv2 rfl hn2 hd2) pa_nil rfl) (star_cons hs)) (by decide) (by decide) (star_cons hs) rfl).weak fun σ H Q ⟨W, ρ, wf, sl, q⟩ => ⟨W, ρ, wf, sl, (After.bind (rel := RelB C σ ρ) q).mono fun x H1 ⟨p, W1, x1, r1, _, q1⟩ => by
    obtain ⟨r, e, q2⟩ := q1.of
    obtain ⟨k, e', rfl⟩ := Option.map_eq_some_iff.mp e
    obtain ⟨ty, h1, h2⟩ := isi_ok x1.wf (r1.vb (sl.ext x1)) e'
    exact ⟨x, .ty t.nm, ty, _, k, rfl, .ty _, hK ▸ h1, hK ▸ h2, q2.fin x1.wf (.bl k)⟩⟩
end
end A3

-- Sim4
set_option Elab.async false
set_option linter.all false
set_option maxRecDepth 100000
set_option maxHeartbeats 4000000
/-! Sim4: what is walked, targets, comprehensions. -/
namespace A3
open PySem PySem.Spec PyProof.Rows L2

section
variable {X : Cx} {C : Ctx}
/-! ### what is walked -/
/-- more is known: the part that stays grew (slots' own lists may have changed) -/
structure Up (W W' : Wd) : Prop where
  fs : Same W.F W'.F
  om : ∀ (n : Nat) (a : Addr), W.Om[n]? = some a → W'.Om[n]? = some a
theorem Up.refl (W : Wd) : Up W W := ⟨fun _ _ e => e, fun _ _ e => e⟩
theorem Up.trans {W W1 W2 : Wd} (x : Up W W1) (y : Up W1 W2) : Up W W2 := ⟨fun b o e => y.fs b o (x.fs b o e), fun n a e => y.om n a (x.om n a e)⟩
theorem Ext.up {H H' : Hp} {W W' : Wd} (x : Ext H W H' W') : Up W W' := ⟨x.fs, x.om⟩
theorem Rep.up {W W' : Wd} (x : Up W W') {v : V} {p : PV} (r : Rep C.K C.fa W v p) : Rep C.K C.fa W' v p := r.mono x.fs x.om
theorem RepL.up {W W' : Wd} (x : Up W W') {v : List V} {p : List PV} (r : RepL C.K C.fa W v p) : RepL C.K C.fa W' v p := r.mono x.fs x.om
/-- the iterator J gives out the values xs -/
structure ItOk (C : Ctx) (W : Wd) (J : L2.It) (xs : List PV) : Prop where
  len : xs.length ≤ sizeLine
  go : ∀ (W' : Wd) (H' : Hp), Up W W' → Wf W' H' → ∀ (i : Nat) (p : PV), xs[i]? = some p → J.go i H' ∧ ∀ (x : V) (H3 : Hp), J.yld i H' x H3 → ∃ W3, Ext H' W' H3 W3 ∧ W3.S = W'.S ∧ Rep C.K C.fa W3 x p
  stop : ∀ (W' : Wd) (H' : Hp), Up W W' → Wf W' H' → J.stop xs.length H'
def tI (C : Ctx) (m : A3.It) : TI := fun σ H R => ∃ W ρ, Wf W H ∧ Slots C.K C.fa W σ ρ H ∧ After (fun W' (J : L2.It) (xs : List PV) => ItOk C W' J xs) W H (m.ev C.cf ρ W.S) R
theorem _root_.L2.PI.weak {tg e : Expr} {t t' : TI} (h : PI X tg e t) (hw : ∀ σ H R, t' σ H R → t σ H R) : PI X tg e t' := ⟨fun pins s σ H R I q => h.run pins s σ H R I (hw _ _ _ q)⟩
theorem itl_ok {W : Wd} {a : Addr} {vs : List V} {ps : List PV} (h : SqL C.K W.F a vs) (r : RepL C.K C.fa W vs ps) (z : ps.length ≤ sizeLine) : ItOk C W (Itl C.K a) ps := by
  refine ⟨z, fun W' H' u wf i p e => ?_, fun W' H' u wf => ?_⟩
  · obtain ⟨v, h1, h2⟩ := r.get e
    have hL : SqL C.K H' a vs := Same.sqL wf.sub (Same.sqL u.fs h)
    refine ⟨⟨vs, v, hL, h1⟩, fun x H3 y => ?_⟩
    obtain ⟨rfl, y⟩ := y
    have e2 := y vs hL
    rw [h1] at e2
    cases e2
    exact ⟨W', .refl wf, rfl, Rep.up u h2⟩
  · exact ⟨vs, Same.sqL wf.sub (Same.sqL u.fs h), by rw [r.length]; exact Nat.le_refl _⟩
theorem itt_ok {W : Wd} {a : Addr} {vs : List V} {ps : List PV} (h : SqT C.K W.F a vs) (r : RepL C.K C.fa W vs ps) (z : ps.length ≤ sizeLine) : ItOk C W (Itt C.K a) ps := by
  refine ⟨z, fun W' H' u wf i p e => ?_, fun W' H' u wf => ?_⟩
  · obtain ⟨v, h1, h2⟩ := r.get e
    have hL : SqT C.K H' a vs := Same.sqT wf.sub (Same.sqT u.fs h)
    refine ⟨⟨vs, v, hL, h1⟩, fun x H3 y => ?_⟩
    obtain ⟨rfl, y⟩ := y
    have e2 := y vs hL
    rw [h1] at e2
    cases e2
    exact ⟨W', .refl wf, rfl, Rep.up u h2⟩
  · exact ⟨vs, Same.sqT wf.sub (Same.sqT u.fs h), by rw [r.length]; exact Nat.le_refl _⟩
theorem its_ok {W : Wd} {t : Tx} (o : txOk t = true) : ItOk C W (Its (toStr t)) (t.map fun c => .str [c]) := by
  refine ⟨by rw [List.length_map]; exact txOk_len o, fun W' H' u wf i p e => ?_, fun W' H' u wf => ?_⟩
  · obtain ⟨c, e1, rfl⟩ : ∃ c, t[i]? = some c ∧ PV.str [c] = p := by
      rw [List.getElem?_map] at e
      cases q : t[i]? with
      | none => rw [q] at e; cases e
      | some c => rw [q] at e; exact ⟨c, rfl, Option.some.inj e⟩
    have hi := (List.getElem?_eq_some_iff.mp e1).1
    refine ⟨by show i < t.toArray.size; simpa using hi, fun x H3 y => ?_⟩
    obtain ⟨rfl, c', e2, rfl⟩ := y
    have e3 : t[i]? = some c' := by
      have e2 : t.toArray[i]? = some c' := e2
      simpa using e2
    rw [e1] at e3
    cases e3
    refine ⟨W', .refl wf, rfl, .str [c] (txOk_sub o (fun d hd => ?_) ?_)⟩
    · cases List.mem_singleton.mp hd
      exact List.mem_of_getElem? e1
    · simp only [List.length_singleton]; omega
  · show t.toArray.size ≤ (t.map _).length
    simp
theorem itr_ok {W : Wd} {lo : Int} {n : Nat} (z : n ≤ sizeLine) : ItOk C W (Itr lo n) (upto lo n) := by
  have hl : (upto lo n).length = n := by unfold upto; simp
  refine ⟨by rw [hl]; exact z, fun W' H' u wf i p e => ?_, fun W' H' u wf => ?_⟩
  · have hi := (List.getElem?_eq_some_iff.mp e).1
    rw [hl] at hi
    refine ⟨hi, fun x H3 y => ?_⟩
    obtain ⟨rfl, rfl⟩ := y
    have e2 : p = .int (lo + (i : Nat)) := by
      unfold upto at e
      rw [List.getElem?_map, List.getElem?_range hi] at e
      exact (Option.some.inj e).symm
    subst e2
    exact ⟨W', .refl wf, rfl, .int _⟩
  · rw [hl]; exact Nat.le_refl _
/-- for x in a list, a tuple, a text -/
theorem simI_of {tg e : Expr} {m : E} (hK : X.K = C.K) (he : PE X e (tE C m)) : PI X tg e (tI C (.of m)) := by
  refine ⟨fun pins s σ H R I h => ?_⟩
  obtain ⟨W, ρ, wf, sl, q⟩ := h
  have he2 := he.run pins s σ H (fun x H1 => ∃ W1 p ps, Wf W1 H1 ∧ Rep C.K C.fa W1 x p ∧ iterOf p = some ps ∧ ∀ J, ItOk C W1 J ps → R J H1) I
    ⟨W, ρ, wf, sl, (After.bind (rel := C.rep) q).mono fun x H1 ⟨p, W1, x1, r1, _, q1⟩ => by
      obtain ⟨ps, e, q2⟩ := q1.of
      exact ⟨W1, p, ps, x1.wf, r1, e, fun J hJ => After.fin (rel := fun W' (J : L2.It) (xs : List PV) => ItOk C W' J xs) q2 x1.wf hJ⟩⟩
  refine thn he2 fun v s1 ⟨x, H1, I1, rx, W1, p, ps, wf1, r, e, q⟩ => ?_
  cases p with
  | lst xs =>
    cases e
    obtain ⟨a, vs, rfl, d, rv, z⟩ := r.lst_inv
    cases rx
    have hq : SqL X.K H1 a vs := Same.sqL wf1.sub (hK ▸ d)
    obtain ⟨its, rr, pl, _⟩ := I1.list hq
    refine wpAny_pyIter_list pl.isList ?_
    have k := q _ (itl_ok d rv z)
    rw [← hK] at k
    exact pi_one (tk := s1.toks) I1 _ (turn_list a _) ⟨_, Heap.get?_push_size _ rfl, rfl, rfl⟩ k
  | tup xs =>
    cases e
    obtain ⟨a, vs, rfl, d, rv, z⟩ := r.tup_inv
    cases rx
    have hq : SqT X.K H1 a vs := Same.sqT wf1.sub (hK ▸ d)
    obtain ⟨its, rr, pl, _⟩ := I1.tuple hq
    refine wpAny_pyIter_tuple (show s1.heap.IsTuple a its.toArray from pl) ?_
    have k := q _ (itt_ok d rv z)
    rw [← hK] at k
    exact pi_one (tk := s1.toks) I1 _ (turn_tuple a _) ⟨_, Heap.get?_push_size _ rfl, rfl, rfl⟩ k
  | str t =>
    cases e
    obtain ⟨rfl, o⟩ := r.str_inv
    obtain ⟨tk, rfl⟩ := rx
    have k := q _ (its_ok o)
    cases ha : (toStr t).cps.all (· < 128)
    · exact wpAny_pyIter_wide ha (pi_one (tk := s1.toks) I1 _ (turn_str _ _ tk "str_iterator" (.inr rfl)) ⟨_, Heap.get?_push_size _ rfl, rfl, rfl⟩ k)
    · exact wpAny_pyIter_ascii ha (pi_one (tk := s1.toks) I1 _ (turn_str _ _ tk "str_ascii_iterator" (.inl rfl)) ⟨_, Heap.get?_push_size _ rfl, rfl, rfl⟩ k)
  | _ => cases e
theorem rngOk_iff {i : Int} : rngOk i = true ↔ (-16777216 ≤ i ∧ i ≤ 16777216) := by
  unfold rngOk
  rw [Bool.and_eq_true, decide_eq_true_eq, decide_eq_true_eq]
theorem simI_rng {tg a : Expr} {m : E} {p pos : Pos} (hg : Gl X "range") (hm : X.mg "range" = none) (ha : PE X a (tE C m)) (hs : notStar a = true) : PI X tg (.Call (.Name "range" p) [a] [] pos) (tI C (.rng m)) :=
  (pi_range1 hg hm (pa_cons ha pa_nil (star_cons hs)) (star_cons hs)).weak fun σ H R ⟨W, ρ, wf, sl, q⟩ => ⟨W, ρ, wf, sl, (After.bind (rel := C.rep) q).mono fun x H1 ⟨p, W1, x1, r1, _, q1⟩ => by
    cases p with
    | int j =>
      cases r1.int_inv
      replace q1 : After (fun W' (J : L2.It) (xs : List PV) => ItOk C W' J xs) W1 H1 (if rngOk j then A3.R.ok (upto 0 j.toNat) W1.S else .bad) R := q1
      split at q1
      · rename_i hr
        rw [rngOk_iff] at hr
        exact ⟨j, rfl, by omega, by omega, q1.fin x1.wf (itr_ok (by rw [sizeLine_eq]; omega))⟩
      · exact q1.elim
    | _ => exact q1.elim⟩
theorem simI_rng2 {tg a b : Expr} {ma mb : E} {p pos : Pos} (hg : Gl X "range") (hm : X.mg "range" = none) (ha : PE X a (tE C ma)) (hb : PE X b (tE C mb)) (hsa : notStar a = true) (hsb : notStar b = true) : PI X tg (.Call (.Name "range" p) [a, b] [] pos) (tI C (.rng2 ma mb)) :=
  (pi_range2 hg hm (pa_cons ha (pa_cons hb pa_nil (star_cons hsb)) (star_cons hsa)) (by rw [star_cons hsa, star_cons hsb]; rfl) (star_cons hsb)).weak fun σ H R ⟨W, ρ, wf, sl, q⟩ => ⟨W, ρ, wf, sl, (After.bind (rel := C.rep) q).mono fun x H1 ⟨p, W1, x1, r1, _, q1⟩ => ⟨W1, ρ, x1.wf, sl.ext x1, (After.bind (rel := C.rep) q1).mono fun y H2 ⟨p2, W2, x2, r2, _, q2⟩ => by
    cases p with
    | int i =>
      cases p2 with
      | int j =>
        cases r1.int_inv
        cases r2.int_inv
        replace q2 : After (fun W' (J : L2.It) (xs : List PV) => ItOk C W' J xs) W2 H2 (if (rngOk i && rngOk j && decide (j - i ≤ 16777216)) = true then A3.R.ok (upto i (j - i).toNat) W2.S else .bad) R := q2
        split at q2
        · rename_i hr
          rw [Bool.and_eq_true, Bool.and_eq_true, rngOk_iff, rngOk_iff, decide_eq_true_eq] at hr
          exact ⟨i, j, rfl, ⟨by omega, by omega, by omega, by omega⟩, q2.fin x2.wf (itr_ok (by rw [sizeLine_eq]; omega))⟩
        · exact q2.elim
      | _ => exact q2.elim
    | _ => exact q2.elim⟩⟩

/-! ### targets -/
mutual
def Tg.slots : Tg → List Nat
  | .nm i => [i]
  | .tp ts => Tg.slotsL ts
def Tg.slotsL : List Tg → List Nat
  | [] => []
  | t :: ts => t.slots ++ Tg.slotsL ts
end
/-- σ' is σ but at these slots -/
def ButAt (is : List Nat) (σ σ' : L2.St) : Prop := σ'.length = σ.length ∧ ∀ j, j ∉ is → σ'[j]? = σ[j]?
theorem ButAt.refl (is : List Nat) (σ : L2.St) : ButAt is σ σ := ⟨rfl, fun _ _ => rfl⟩
def tG (C : Ctx) (tg : Tg) : TG := fun v σ H Q => ∃ W ρ p ρ', Wf W H ∧ Slots C.K C.fa W σ ρ H ∧ Rep C.K C.fa W v p ∧ tg.bind p ρ = some ρ' ∧ ∀ σ', Slots C.K C.fa W σ' ρ' H → ButAt tg.slots σ σ' → Q σ' H
def tGs (C : Ctx) (tgs : List Tg) : TGs := fun vs σ H Q => ∃ W ρ ps ρ', Wf W H ∧ Slots C.K C.fa W σ ρ H ∧ RepL C.K C.fa W vs ps ∧ Tg.binds tgs ps ρ = some ρ' ∧ ∀ σ', Slots C.K C.fa W σ' ρ' H → ButAt (Tg.slotsL tgs) σ σ' → Q σ' H
theorem _root_.L2.PG.weak {e : Expr} {t t' : TG} (h : PG X e t) (hw : ∀ v σ H Q, t' v σ H Q → t v σ H Q) : PG X e t' := ⟨fun pins s σ H v u Q I r q => h.run pins s σ H v u Q I r (hw _ _ _ _ q)⟩
theorem _root_.L2.PGs.weak {e : List Expr} {t t' : TGs} (h : PGs X e t) (hw : ∀ v σ H Q, t' v σ H Q → t v σ H Q) : PGs X e t' := ⟨fun pins s σ H v u Q I r q => h.run pins s σ H v u Q I r (hw _ _ _ _ q)⟩
theorem butAt_set (σ : L2.St) (i : Nat) (o : Option V) : ButAt [i] σ (σ.set i o) := by
  refine ⟨by simp, fun j hj => ?_⟩
  have : i ≠ j := fun e => hj (by simp [e])
  rw [List.getElem?_set_ne this]
theorem simG_nm {x : Str} {i : Nat} {pos : Pos} (hN : X.N.Nodup) (hi : X.N[i]? = some x) (hx : Loc X.env.scope x) (hf : X.fn x = true ∨ X.env.scope.names.lookup x = some .local) : PG X (.Name x pos) (tG C (.nm i)) :=
  (pg_name hN hi hx hf).weak fun v σ H Q ⟨W, ρ, p, ρ', wf, sl, r, e, k⟩ => by
    cases e
    exact k _ (sl.set r) (butAt_set σ i _)
theorem simGs_nil : PGs X [] (tGs C []) := pgs_nil.weak fun v σ H Q ⟨W, ρ, ps, ρ', wf, sl, r, e, k⟩ => by
  cases r with
  | nil =>
    unfold Tg.binds at e
    cases e
    exact ⟨rfl, k _ sl (.refl _ _)⟩
  | cons => unfold Tg.binds at e; cases e
def notStarT (e : Expr) : Bool := notStar e
theorem assign_cons {e : Expr} {es : List Expr} {env : PySem.Env} (h : notStar e = true) : assignEach (e :: es) env = (false, assign e env) :: assignEach es env := by
  cases e <;> first | rfl | cases h
theorem simGs_cons {e : Expr} {es : List Expr} {t : Tg} {ts : List Tg} (h1 : PG X e (tG C t)) (h2 : PGs X es (tGs C ts)) (hs : notStar e = true) : PGs X (e :: es) (tGs C (t :: ts)) :=
  (pgs_cons h1 h2 (by rw [assign_cons hs]; rfl)).weak fun v σ H Q ⟨W, ρ, ps, ρ', wf, sl, r, e, k⟩ => by
    cases r with
    | nil => unfold Tg.binds at e; cases e
    | @cons v vs p ps r rr =>
      unfold Tg.binds at e
      obtain ⟨ρ1, e1, e2⟩ := Option.bind_eq_some_iff.mp e
      exact ⟨v, vs, rfl, W, ρ, p, ρ1, wf, sl, r, e1, fun σ1 sl1 b1 => ⟨W, ρ1, ps, ρ', wf, sl1, rr, e2, fun σ2 sl2 b2 => k σ2 sl2 ⟨b2.1.trans b1.1, fun j hj => by
        unfold Tg.slotsL at hj
        rw [List.mem_append, not_or] at hj
        rw [b2.2 j hj.2, b1.2 j hj.1]⟩⟩⟩
theorem assignEach_len {env : PySem.Env} : ∀ {es : List Expr}, (∀ e ∈ es, notStar e = true) → (assignEach es env).length = es.length ∧ (assignEach es env).findIdx? (·.1) = none
  | [], _ => ⟨rfl, rfl⟩
  | e :: es, h => by
    obtain ⟨h1, h2⟩ := assignEach_len (env := env) fun x hx => h x (List.mem_cons_of_mem _ hx)
    rw [assign_cons (h e List.mem_cons_self)]
    refine ⟨by rw [List.length_cons, List.length_cons, h1], ?_⟩
    rw [List.findIdx?_cons, h2]; rfl
theorem binds_len : ∀ {ts : List Tg} {ps : List PV} {ρ ρ' : Env}, Tg.binds ts ps ρ = some ρ' → ps.length = ts.length
  | [], [], _, _, _ => rfl
  | [], _ :: _, _, _, h => by unfold Tg.binds at h; cases h
  | _ :: _, [], _, _, h => by unfold Tg.binds at h; cases h
  | t :: ts, p :: ps, ρ, ρ', h => by
    unfold Tg.binds at h
    obtain ⟨ρ1, e1, e2⟩ := Option.bind_eq_some_iff.mp h
    rw [List.length_cons, List.length_cons, binds_len e2]
theorem simG_tp {es : List Expr} {k : Nat} {pos : Pos} {ts : List Tg} (hK : X.K = C.K) (hc : X.calm = true) (h : PGs X es (tGs C ts)) (hs : ∀ e ∈ es, notStar e = true) (hl : es.length = ts.length) : PG X (.Tuple es k pos) (tG C (.tp ts)) :=
  (pg_tup hc h (assignEach_len hs).1 (assignEach_len hs).2).weak fun v σ H Q ⟨W, ρ, p, ρ', wf, sl, r, e, k⟩ => by
    cases p with
    | tup ps =>
      unfold Tg.bind at e
      simp only at e
      obtain ⟨a, vs, rfl, d, rv, _⟩ := r.tup_inv
      exact ⟨a, vs, rfl, Same.sqT wf.sub (hK ▸ d), by rw [rv.length, binds_len e, hl], W, ρ, ps, ρ', wf, sl, rv, e, fun σ' sl' b => k σ' sl' (by unfold Tg.slots; exact b)⟩
    | _ => unfold Tg.bind at e; cases e
end
end A3

-- Sim5
set_option Elab.async false
set_option linter.all false
set_option maxRecDepth 100000
set_option maxHeartbeats 4000000
/-! Sim5: new lists, list comprehensions. -/
namespace A3
open PySem PySem.Spec PyProof.Rows L2

section
variable {X : Cx} {C : Ctx}
theorem Same.none {H H' : Hp} (k : Same H H') {a : Addr} (h : H' a = none) : H a = none := by
  cases q : H a with
  | none => rfl
  | some o => rw [k _ _ q] at h; cases h
/-- an address that does not stay, does not stay later either -/
theorem Ext.own {H H' : Hp} {W W' : Wd} (x : Ext H W H' W') {a : Addr} {o : HO} (f : W.F a = none) (h : H a = some o) : W'.F a = none := by
  cases q : W'.F a with
  | none => rfl
  | some u =>
    rcases x.new a u q with z | z
    · rw [f] at z; cases z
    · rw [h] at z; cases z
/-- a list that is new is changed -/
theorem Ext.write {H H' : Hp} {W W' : Wd} (x : Ext H W H' W') {a : Addr} {o : HO} (h : H a = none) (f : W'.F a = none) : Ext H W (upd H' a o) W' := by
  refine ⟨fun b u e => ?_, x.fs, x.new, fun b u e => ?_, x.om, x.st⟩
  · rw [upd_ne (ne_of_none e h)]; exact x.hs b u e
  · rw [upd_ne (ne_of_none e f)]; exact x.sub b u e
/-- a list that is new is from now on one that stays -/
theorem Ext.freeze {H H' : Hp} {W W' : Wd} (x : Ext H W H' W') {a : Addr} {o : HO} (h : H a = none) (f : W'.F a = none) (e : H' a = some o) : Ext H W H' { W' with F := upd W'.F a o } := by
  refine ⟨x.hs, fun b u e => ?_, fun b u q => ?_, fun b u q => ?_, x.om, x.st⟩
  · show upd W'.F a o b = some u
    rw [upd_ne (ne_of_none (x.fs b u e) f)]; exact x.fs b u e
  · have q : upd W'.F a o b = some u := q
    by_cases hb : b = a
    · subst hb; exact .inr h
    · rw [upd_ne hb] at q; exact x.new b u q
  · have q : upd W'.F a o b = some u := q
    by_cases hb : b = a
    · subst hb; rw [upd_same] at q; cases q; exact e
    · rw [upd_ne hb] at q; exact x.sub b u q
theorem Up.freeze {W : Wd} {a : Addr} {o : HO} (f : W.F a = none) : Up W { W with F := upd W.F a o } :=
  ⟨fun b u e => by show upd W.F a o b = some u; rw [upd_ne (ne_of_none e f)]; exact e, fun _ _ e => e⟩

/-! ### a run that ends with a new list -/
def AfterN (C : Ctx) (W : Wd) (H : Hp) (r : A3.R PV) (Q : VK) : Prop :=
  match r with
  | .ok (.lst ps) S => ∀ a xs H' W', Ext H W H' W' → W'.S = S → W'.F a = none → H a = none → H' a = some (.lst xs) → RepL C.K C.fa W' xs ps → ps.length ≤ sizeLine → Q (.ref a) H'
  | _ => False
def tN (C : Ctx) (e : E) : TE := fun σ H Q => ∃ W ρ, Wf W H ∧ Slots C.K C.fa W σ ρ H ∧ AfterN C W H (e.ev C.cf ρ W.S) Q
theorem AfterN.start {W W1 : Wd} {H H1 : Hp} {r : A3.R PV} {Q : VK} (h : AfterN C W H r Q) (x : Ext H W H1 W1) : AfterN C W1 H1 r Q := by
  unfold AfterN at h ⊢
  split
  · exact fun a xs H' W' y e f n => h a xs H' W' (x.trans y) e f (Same.none x.hs n)
  · rename_i hn
    split at h
    · exact hn _ _ rfl
    · exact h
theorem AfterN.bind {α β : Type} {rel : Wd → β → α → Prop} {W : Wd} {H : Hp} {r : A3.R α} {f : α → Store → A3.R PV} {Q : VK} (h : AfterN C W H (r.bind f) Q) :
    After rel W H r fun v H1 => ∃ p W1, Ext H W H1 W1 ∧ rel W1 v p ∧ r = .ok p W1.S ∧ AfterN C W1 H1 (f p W1.S) Q := by
  cases r with
  | ok p S => exact fun v H1 W1 x e r => ⟨p, W1, x, r, by rw [e], by rw [e]; exact AfterN.start (H := H) (W := W) (show AfterN C W H (f p S) Q from h) x⟩
  | exc _ _ => exact h
  | bad => exact h
theorem AfterN.of {W : Wd} {H : Hp} {o : Option PV} {S : Store} {Q : VK} (h : AfterN C W H (A3.R.of o S) Q) : ∃ p, o = some p ∧ AfterN C W H (.ok p S) Q := by
  cases o with
  | none => exact h.elim
  | some p => exact ⟨p, rfl, h⟩
theorem AfterN.lst {W : Wd} {H : Hp} {p : PV} {S : Store} {Q : VK} (h : AfterN C W H (.ok p S) Q) : ∃ ps, p = .lst ps := by
  cases p with
  | lst ps => exact ⟨ps, rfl⟩
  | _ => exact h.elim
/-- the end, with the new list -/
theorem AfterN.lay {W : Wd} {H : Hp} {ps : List PV} {Q : VK} (h : AfterN C W H (.ok (.lst ps) W.S) Q) (wf : Wf W H) {a : Addr} {xs : List V} (ha : H a = none) (r : RepL C.K C.fa W xs ps) (z : ps.length ≤ sizeLine) : Q (.ref a) (upd H a (.lst xs)) :=
  h a xs _ W (.laidO wf ha) rfl (Same.none wf.sub ha) ha upd_same r z
/-- a new list may stay -/
theorem tE_of_tN {e : Expr} {m : E} (h : PE X e (tN C m)) (hl : ∀ ρ S p S', m.ev C.cf ρ S = .ok p S' → ∃ ps, p = .lst ps) : PE X e (tE C m) := h.weak fun σ H Q ⟨W, ρ, wf, sl, q⟩ => ⟨W, ρ, wf, sl, by
  cases hr : m.ev C.cf ρ W.S with
  | ok p S =>
    rw [hr] at q
    obtain ⟨ps, rfl⟩ := hl _ _ _ _ hr
    exact fun a xs H' W' x e f n ha r z => q (.ref a) H' { W' with F := upd W'.F a (.lst xs) } (x.freeze n f ha) e (.lst (.inl (.inl upd_same)) (r.up (.freeze f)) z)
  | exc _ _ => rw [hr] at q; exact q
  | bad => rw [hr] at q; exact q⟩
theorem simN_lst {es : List Expr} {ms : Es} {pos : Pos} (h : PA X es (tEs C ms)) (hz : ms.count ≤ 100000) : PE X (.List es pos) (tN C (.lst ms)) :=
  (pe_lst h).weak fun σ H Q ⟨W, ρ, wf, sl, q⟩ => ⟨W, ρ, wf, sl, (AfterN.bind (rel := C.repL) q).mono fun xs H1 ⟨ps, W1, x1, r1, e, q1⟩ => by
    have hl := Es.ev_len e
    have z : ps.length ≤ sizeLine := small_line (by omega)
    exact ⟨by rw [r1.length]; exact z, fun p hp => AfterN.lay q1 x1.wf hp r1 z⟩⟩
/-- list + list -/
theorem simN_add {a b : Expr} {ma mb : E} {pos : Pos} (hK : X.K = C.K) (ha : PE X a (tB C ma)) (hb : PE X b (tB C mb)) : PE X (.BinOp a .Add b pos) (tN C (.bin .add ma mb)) :=
  (pe_op op_catAny ha hb).weak fun σ H Q ⟨W, ρ, wf, sl, q⟩ => ⟨W, ρ, wf, sl, (AfterN.bind (rel := RelB C σ ρ) q).mono fun x H1 ⟨p, W1, x1, r1, _, q1⟩ => ⟨W1, ρ, x1.wf, sl.ext x1, (AfterN.bind (rel := RelB C σ ρ) q1).mono fun y H2 ⟨p2, W2, x2, r2, _, q2⟩ => by
    obtain ⟨r, e, q3⟩ := q2.of
    obtain ⟨rs, rfl⟩ := q3.lst
    have v1 := (r1.vb (sl.ext x1)).ext x2
    have v2 := r2.vb ((sl.ext x1).ext x2)
    replace e : addV p p2 = some (.lst rs) := e
    unfold addV at e
    split at e
    · cases e
    · split at e <;> cases e
    · split at e
      · rename_i hz
        cases e
        obtain ⟨a1, xs1, rfl, d1, s1, z1⟩ := v1.lst x2.wf
        obtain ⟨a2, xs2, rfl, d2, s2, z2⟩ := v2.lst x2.wf
        rw [lineN_eq] at hz
        refine ⟨a1, a2, xs1, xs2, rfl, rfl, hK ▸ d1, hK ▸ d2, by rw [s1.length, s2.length]; exact hz, fun p hp => ?_⟩
        exact AfterN.lay q3 x2.wf hp (s1.append s2) (by rw [List.length_append]; exact hz)
      · cases e
    · split at e <;> cases e
    · cases e⟩⟩
/-- list(..) -/
theorem simN_list {a : Expr} {ma : E} {p pos : Pos} (hK : X.K = C.K) (hc : X.calm = true) (hg : Gl X "list") (hm : X.mg "list" = none) (ha : PE X a (tB C ma)) (hs : notStar a = true) : PE X (.Call (.Name "list" p) [a] [] pos) (tN C (.b1 .list ma)) :=
  (pe_callTy (call_listA hc) hg hm rfl (b1_read (f := .list) ha hs) (by decide) (by decide) (star_cons hs) rfl).weak fun σ H Q ⟨W, ρ, wf, sl, q⟩ => ⟨W, ρ, wf, sl, (AfterN.bind (rel := RelB C σ ρ) q).mono fun x H1 ⟨p, W1, x1, r1, _, q1⟩ => by
    obtain ⟨r, e, q2⟩ := q1.of
    obtain ⟨rs, rfl⟩ := q2.lst
    have v1 := r1.vb (sl.ext x1)
    replace e : listV p = some (.lst rs) := e
    unfold listV at e
    split at e
    · cases e
      obtain ⟨a, xs, rfl, d1, r1, z⟩ := v1.lst x1.wf
      exact .inl ⟨a, xs, rfl, .inl (hK ▸ d1), fun l hl => AfterN.lay q2 x1.wf hl r1 z⟩
    · cases e
      obtain ⟨a, xs, rfl, d1, r1, z⟩ := v1.tup
      exact .inl ⟨a, xs, rfl, .inr (Same.sqT x1.wf.sub (hK ▸ d1)), fun l hl => AfterN.lay q2 x1.wf hl r1 z⟩
    · cases e
      obtain ⟨d, es, rfl, d1, r1⟩ := v1.dct
      exact .inr ⟨_, d, es, rfl, x1.wf.sub _ _ d1, fun hz l hl => AfterN.lay q2 x1.wf hl r1.keysL (by rw [List.length_map, ← r1.len]; exact hz)⟩
    · cases e⟩

/-! ### list comprehensions -/
/-- what a turn of a list comprehension adds -/
def compF (cf : CallF) (vs : List Nat) (t : Tg) (cd : OE) (el : E) (ρ : Env) : PV → Store → A3.R (List PV) := fun x S => match t.bind x (wipeR ρ vs) with
  | none => .bad
  | some ρ' => (cd.tst cf ρ' S).bind fun k S => if k then (el.ev cf ρ' S).bind fun y S => .ok [y] S else .ok [] S
theorem compF_len {cf : CallF} {vs : List Nat} {t : Tg} {cd : OE} {el : E} {ρ : Env} {x : PV} {S S' : Store} {ys : List PV} (h : compF cf vs t cd el ρ x S = .ok ys S') : ys.length ≤ 1 := by
  unfold compF at h
  split at h
  · cases h
  · obtain ⟨k, S1, _, h⟩ := R.bind_ok h
    cases k with
    | true => obtain ⟨y, S2, _, h⟩ := R.bind_ok h; cases h; exact Nat.le_refl _
    | false => cases h; exact Nat.zero_le _
theorem compL_cons {f : PV → Store → A3.R (List PV)} {x : PV} {xs : List PV} {S S' : Store} {zs : List PV} (h : compL f (x :: xs) S = .ok zs S') : ∃ ys S1 ws, f x S = .ok ys S1 ∧ compL f xs S1 = .ok ws S' ∧ zs = ys ++ ws := by
  unfold compL at h
  obtain ⟨ys, S1, h1, h⟩ := R.bind_ok h
  obtain ⟨ws, S2, h2, h⟩ := R.bind_ok h
  cases h
  exact ⟨ys, S1, ws, h1, h2, rfl⟩
/-- a clause's test -/
def tOT (C : Ctx) (m : OE) : TT := fun σ H Q => ∃ W ρ, Wf W H ∧ Slots C.K C.fa W σ ρ H ∧ After (fun _ (b c : Bool) => b = c) W H (m.tst C.cf ρ W.S) Q
theorem _root_.L2.PTs.weak {e : List Expr} {t t' : TT} (h : PTs X e t) (hw : ∀ σ H Q, t' σ H Q → t σ H Q) : PTs X e t' := ⟨fun pins s σ H Q I q => h.run pins s σ H Q I (hw _ _ _ q)⟩
theorem simOT_none : PTs X [] (tOT C .none) := pts_nil.weak fun σ H Q ⟨W, ρ, wf, sl, q⟩ => After.fin q wf rfl
theorem simOT_some {e : Expr} {m : E} (h : PT X e (tT C m)) : PTs X [e] (tOT C (.some m)) := (pts_one h).weak fun σ H Q q => q
theorem wipe_get {σ : L2.St} {j : Nat} : ∀ {vs : List Nat}, (wipe σ vs)[j]? = if j ∈ vs ∧ j < σ.length then some none else σ[j]?
  | [] => by simp [wipe]
  | v :: vs => by
    unfold wipe
    by_cases hv : v = j
    · subst hv
      by_cases hl : v < σ.length
      · rw [List.getElem?_set_self (by rw [wipe_length]; exact hl), if_pos ⟨List.mem_cons_self, hl⟩]
      · rw [List.getElem?_eq_none (by rw [List.length_set, wipe_length]; omega), if_neg (fun h => hl h.2), List.getElem?_eq_none (by omega)]
    · rw [List.getElem?_set_ne hv, wipe_get (vs := vs)]
      have : (j ∈ v :: vs) ↔ (j ∈ vs) := by simp [Ne.symm hv]
      by_cases h : j ∈ vs ∧ j < σ.length
      · rw [if_pos h, if_pos ⟨this.mpr h.1, h.2⟩]
      · rw [if_neg h, if_neg fun z => h ⟨this.mp z.1, z.2⟩]
theorem wipe_but {σ σ' : L2.St} {vs js : List Nat} (b : ButAt js (wipe σ vs) σ') (hj : ∀ j ∈ js, j ∈ vs) : wipe σ' vs = wipe σ vs := by
  have hl : σ'.length = σ.length := by rw [b.1, wipe_length]
  refine List.ext_getElem? fun j => ?_
  rw [wipe_get, wipe_get, hl]
  by_cases h : j ∈ vs ∧ j < σ.length
  · rw [if_pos h, if_pos h]
  · rw [if_neg h, if_neg h]
    by_cases hm : j ∈ js
    · have := hj j hm
      have : ¬ j < σ.length := fun z => h ⟨hj j hm, z⟩
      rw [List.getElem?_eq_none (by omega), List.getElem?_eq_none (by omega)]
    · rw [b.2 j hm, wipe_get, if_neg h]
theorem Slots.clear {W : Wd} {σ : L2.St} {ρ : Env} {H : Hp} (s : Slots C.K C.fa W σ ρ H) (i : Nat) : Slots C.K C.fa W (σ.set i Option.none) (ρ.set i Option.none) H := by
  have key : ∀ {j : Nat} {c : Cell}, (ρ.set i none)[j]? = some (some c) → i ≠ j ∧ ρ[j]? = some (some c) := fun {j c} e => by
    by_cases h : i = j
    · subst h
      by_cases hi : i < ρ.length
      · rw [List.getElem?_set_self hi] at e; cases e
      · rw [List.getElem?_eq_none (by simpa using hi)] at e; cases e
    · rw [List.getElem?_set_ne h] at e; exact ⟨h, e⟩
  refine ⟨by simp [s.len], fun j c e => ?_, fun j k ps qs hjk e1 e2 => ?_⟩
  · obtain ⟨h, e⟩ := key e
    rw [List.getElem?_set_ne h]
    exact s.cell j c e
  · obtain ⟨h1, e1⟩ := key e1
    obtain ⟨h2, e2⟩ := key e2
    rw [List.getElem?_set_ne h1, List.getElem?_set_ne h2]
    exact s.apart j k ps qs hjk e1 e2
theorem Slots.wipe {W : Wd} {σ : L2.St} {ρ : Env} {H : Hp} (s : Slots C.K C.fa W σ ρ H) : ∀ vs : List Nat, Slots C.K C.fa W (L2.wipe σ vs) (wipeR ρ vs) H
  | [] => s
  | v :: vs => (Slots.wipe s vs).clear v

/-- the loop's law -/
theorem comp_loop {σ : L2.St} {ρ : Env} {H1 : Hp} {W1 : Wd} {J : L2.It} {xs : List PV} {vs : List Nat} {t : Tg} {cd : OE} {el : E} {D : Addr} {Q : VK}
    (x1 : Wf W1 H1) (sl : Slots C.K C.fa W1 σ ρ H1) (j : ItOk C W1 J xs) (ht : ∀ i ∈ t.slots, i ∈ vs) (hD : H1 D = none)
    (q : AfterN C W1 H1 ((compL (compF C.cf vs t cd el ρ) xs W1.S).bind fun ys S => .ok (.lst ys) S) Q) :
    ∃ W : Nat → Nat → Hp → Prop, (∃ m, W 0 m (upd H1 D (.lst []))) ∧ ∀ i m H, W i m H →
      (J.stop i H ∧ Q (.ref D) H) ∨ (J.go i H ∧ ∃ Nx : Hp → Prop, (∀ H', Nx H' → ∃ m', m' < m ∧ W (i + 1) m' H') ∧ ∀ x H', J.yld i H x H' → tG C t x (L2.wipe σ vs) H' fun σ2 H2 => L2.wipe σ2 vs = L2.wipe σ vs ∧ tOT C cd σ2 H2 fun b H3 =>
        if b = true then tE C el σ2 H3 fun y H4 => ∃ acc, H4 D = some (.lst acc) ∧ acc.length < sizeLine ∧ Nx (upd H4 D (.lst (acc ++ [y]))) else Nx H3) := by
  cases hr : compL (compF C.cf vs t cd el ρ) xs W1.S with
  | exc _ _ => rw [hr] at q; exact q.elim
  | bad => rw [hr] at q; exact q.elim
  | ok tot SE =>
    rw [hr] at q
    replace q : AfterN C W1 H1 (.ok (.lst tot) SE) Q := q
    have fD : W1.F D = none := Same.none x1.sub hD
    refine ⟨fun i m H => i ≤ xs.length ∧ m = xs.length - i ∧ ∃ (W' : Wd) (ys zs : List PV) (acc : List V), Ext H1 W1 H W' ∧ W'.F D = none ∧ H D = some (.lst acc) ∧ RepL C.K C.fa W' acc ys ∧ ys.length ≤ i ∧ tot = ys ++ zs ∧ compL (compF C.cf vs t cd el ρ) (xs.drop i) W'.S = .ok zs SE, ⟨xs.length, Nat.zero_le _, rfl, W1, [], tot, [], .laidO x1 hD, fD, upd_same, .nil, Nat.le_refl _, rfl, hr⟩, ?_⟩
    rintro i m H ⟨hi, rfl, W', ys, zs, acc, x2, f2, h2, r2, l2, e2, c2⟩
    by_cases hlt : i < xs.length
    · right
      obtain ⟨p, hp⟩ : ∃ p, xs[i]? = some p := ⟨_, List.getElem?_eq_getElem hlt⟩
      obtain ⟨go, yl⟩ := j.go W' H x2.up x2.wf i p hp
      have hd : xs.drop i = p :: xs.drop (i + 1) := by
        rw [List.drop_eq_getElem_cons hlt]
        rw [List.getElem?_eq_getElem hlt] at hp
        rw [Option.some.inj hp]
      rw [hd] at c2
      obtain ⟨as, S1, ws, c3, c4, rfl⟩ := compL_cons c2
      refine ⟨go, _, fun H' h => h, fun x H' y => ?_⟩
      obtain ⟨W3, x3, s3, r3⟩ := yl x H' y
      have X3 := x2.trans x3
      have f3 := x3.own f2 h2
      have h3 := x3.hs _ _ h2
      unfold compF at c3
      split at c3
      · cases c3
      · rename_i ρ' hb
        refine ⟨W3, wipeR ρ vs, p, ρ', X3.wf, (sl.ext X3).wipe vs, r3, hb, fun σ2 sl2 b2 => ⟨wipe_but b2 ht, ?_⟩⟩
        obtain ⟨k, S2, c5, c6⟩ := R.bind_ok c3
        refine ⟨W3, ρ', X3.wf, sl2, ?_⟩
        rw [s3, c5]
        intro b H4 W4 x4 s4 hbk
        subst hbk
        have X4 := X3.trans x4
        have f4 := x4.own f3 h3
        have h4 := x4.hs _ _ h3
        cases b with
        | false =>
          cases c6
          rw [if_neg (by decide)]
          refine ⟨xs.length - (i + 1), by omega, hlt, rfl, W4, ys, ws, acc, X4, f4, h4, (r2.ext x3).ext x4, by omega, by rw [e2]; simp, by rw [s4]; exact c4⟩
        | true =>
          rw [if_pos rfl]
          obtain ⟨w, S3, c7, c8⟩ := R.bind_ok c6
          cases c8
          refine ⟨W4, ρ', X4.wf, sl2.ext x4, ?_⟩
          rw [s4, c7]
          intro y H5 W5 x5 s5 r5
          have X5 := X4.trans x5
          have f5 := x5.own f4 h4
          have h5 := x5.hs _ _ h4
          have r5' := ((r2.ext x3).ext x4).ext x5
          have hacc : acc.length = ys.length := r5'.length
          have hj := j.len
          refine ⟨acc, h5, by omega, xs.length - (i + 1), by omega, hlt, rfl, W5, ys ++ [w], ws, acc ++ [y], X5.write hD f5, f5, upd_same, r5'.append (.one r5), by simp; omega, by rw [e2]; simp, by rw [s5]; exact c4⟩
    · left
      have ei : i = xs.length := by omega
      subst ei
      rw [List.drop_length] at c2
      cases c2
      refine ⟨j.stop W' H x2.up x2.wf, ?_⟩
      rw [List.append_nil] at e2
      subst e2
      have hj := j.len
      exact q D acc H W' x2 rfl f2 hD h2 r2 (by omega)
theorem simN_comp {elt tg iter : Expr} {ifs : List Expr} {scope : Scope} {own : List (Str × Nat)} {pos : Pos} {t : Tg} {it : A3.It} {cd : OE} {el : E} (hc : X.calm = true) (hN : X.N.Nodup) (hi : PI X tg iter (tI C it)) (ok : BlkOk X.N X.env.scope scope own) (hsl : ∀ i ∈ t.slots, i ∈ own.map (·.2))
    (hg : ∀ (s : Shared) (H : Hp) (D : Addr) (cl : List (Str × Addr)) (fp : List Addr), PG (X.blk s H scope (compEnvC scope cl D X.env) fp) tg (tG C t)) (ht : ∀ (s : Shared) (H : Hp) (D : Addr) (cl : List (Str × Addr)) (fp : List Addr), PTs (X.blk s H scope (compEnvC scope cl D X.env) fp) ifs (tOT C cd))
    (he : ∀ (s : Shared) (H : Hp) (D : Addr) (cl : List (Str × Addr)) (fp : List Addr), PE (X.blk s H scope (compEnvC scope cl D X.env) fp) elt (tE C el)) (hs : ∀ x, foldedSetIterable iter X.env x = pure x) :
    PE X (.ListComp elt [⟨tg, iter, ifs, 0⟩] scope pos) (tN C (.comp (own.map (·.2)) t it cd el)) :=
  (pe_lc hc hN hi ok hg ht he hs).weak fun σ H Q ⟨W, ρ, wf, sl, q⟩ => ⟨W, ρ, wf, sl, (AfterN.bind (rel := fun W' (J : L2.It) (xs : List PV) => ItOk C W' J xs) q).mono fun J H1 ⟨xs, W1, x1, j, _, q1⟩ => fun D hD => comp_loop x1.wf (sl.ext x1) j hsl hD q1⟩
end
end A3

-- Sim6
set_option Elab.async false
set_option linter.all false
set_option maxRecDepth 100000
set_option maxHeartbeats 4000000
/-! Sim6: statements. -/
namespace A3
open PySem PySem.Spec PyProof.Rows L2

section
variable {X : Cx} {C : Ctx}
/-! ### statements' claims -/
/-- the slots; the own lists are new since the entry -/
structure SlotsE (C : Ctx) (He : Hp) (W : Wd) (σ : L2.St) (ρ : A3.Env) (H : Hp) : Prop where
  sl : Slots C.K C.fa W σ ρ H
  nw : ∀ (i : Nat) (ps : List PV) (a : Addr), ρ[i]? = some (some (.ol ps)) → σ[i]? = some (some (.ref a)) → He a = none
theorem SlotsE.ext {He H H' : Hp} {W W' : Wd} {σ : L2.St} {ρ : A3.Env} (s : SlotsE C He W σ ρ H) (x : Ext H W H' W') : SlotsE C He W' σ ρ H' := ⟨s.sl.ext x, s.nw⟩
def AfterS (C : Ctx) (He : Hp) (We W : Wd) (r : RS) (D : Ends) : Prop :=
  match r with
  | .nx ρ S => ∀ σ' H' W', Ext He We H' W' → Up W W' → W'.S = S → SlotsE C He W' σ' ρ H' → D.nx σ' H'
  | .bk ρ S => ∀ σ' H' W', Ext He We H' W' → Up W W' → W'.S = S → SlotsE C He W' σ' ρ H' → D.bk σ' H'
  | .ct ρ S => ∀ σ' H' W', Ext He We H' W' → Up W W' → W'.S = S → SlotsE C He W' σ' ρ H' → D.ct σ' H'
  | .rt p S => ∀ v H' W', Ext He We H' W' → Up W W' → W'.S = S → Rep C.K C.fa W' v p → D.rt v H'
  | .ex _ _ _ => False
  | .bad => False
theorem AfterS.up {He : Hp} {We W W1 : Wd} {r : RS} {D : Ends} (h : AfterS C He We W r D) (u : Up W W1) : AfterS C He We W1 r D := by
  cases r with
  | nx ρ S => exact fun σ' H' W' x v => h σ' H' W' x (u.trans v)
  | bk ρ S => exact fun σ' H' W' x v => h σ' H' W' x (u.trans v)
  | ct ρ S => exact fun σ' H' W' x v => h σ' H' W' x (u.trans v)
  | rt p S => exact fun σ' H' W' x v => h σ' H' W' x (u.trans v)
  | ex _ _ _ => exact h
  | bad => exact h
theorem AfterS.bind {β : Type} {rel : Wd → β → PV → Prop} {He H : Hp} {We W : Wd} {r : A3.R PV} {ρ : A3.Env} {f : PV → Store → RS} {D : Ends} (x : Ext He We H W) (h : AfterS C He We W (r.st ρ f) D) :
    After rel W H r fun v H1 => ∃ p W1, Ext H W H1 W1 ∧ Ext He We H1 W1 ∧ rel W1 v p ∧ r = .ok p W1.S ∧ AfterS C He We W1 (f p W1.S) D := by
  cases r with
  | ok p S => exact fun v H1 W1 y e r => ⟨p, W1, y, x.trans y, r, by rw [e], by rw [e]; exact AfterS.up (W := W) (show AfterS C He We W (f p S) D from h) y.up⟩
  | exc _ _ => exact h
  | bad => exact h
def tS (C : Ctx) (m : Stm) : TS := fun D σ H => ∃ He We W ρ, Ext He We H W ∧ SlotsE C He W σ ρ H ∧ AfterS C He We W (m.ev C.cf ρ W.S) D
def tSs (C : Ctx) (m : Stms) : TS := fun D σ H => ∃ He We W ρ, Ext He We H W ∧ SlotsE C He W σ ρ H ∧ AfterS C He We W (m.ev C.cf ρ W.S) D
theorem _root_.L2.PS.weak {st : Stmt} {t t' : TS} (h : PS X st t) (hw : ∀ D σ H, t' D σ H → t D σ H) : PS X st t' := ⟨fun pins s σ H D I q => h.run pins s σ H D I (hw _ _ _ q)⟩
theorem _root_.L2.PSs.weak {st : List Stmt} {t t' : TS} (h : PSs X st t) (hw : ∀ D σ H, t' D σ H → t D σ H) : PSs X st t' := ⟨fun pins s σ H D I q => h.run pins s σ H D I (hw _ _ _ q)⟩

theorem simSs_nil : PSs X [] (tSs C .nil) := pss_nil.weak fun D σ H ⟨He, We, W, ρ, x, sl, q⟩ => q σ H W x (.refl W) rfl sl
theorem simSs_cons {st : Stmt} {rest : List Stmt} {m : Stm} {ms : Stms} (h1 : PS X st (tS C m)) (h2 : PSs X rest (tSs C ms)) : PSs X (st :: rest) (tSs C (.cons m ms)) :=
  (pss_cons h1 h2).weak fun D σ H ⟨He, We, W, ρ, x, sl, q⟩ => ⟨He, We, W, ρ, x, sl, by
    have e : (Stms.cons m ms).ev C.cf ρ W.S = (match m.ev C.cf ρ W.S with
      | .nx ρ S => ms.ev C.cf ρ S
      | r => r) := rfl
    rw [e] at q
    cases hr : m.ev C.cf ρ W.S with
    | nx ρ' S =>
      rw [hr] at q
      exact fun σ' H' W' y u e s => ⟨He, We, W', ρ', y, s, by rw [e]; exact AfterS.up q u⟩
    | bk ρ' S => rw [hr] at q; exact q
    | ct ρ' S => rw [hr] at q; exact q
    | rt p S => rw [hr] at q; exact q
    | ex _ _ _ => rw [hr] at q; exact q
    | bad => rw [hr] at q; exact q⟩
/-- a statement that stands for several of the own ones' last -/
theorem simS_pass {pos : Pos} : PS X (.Pass pos) (tS C .pass) := ps_pass.weak fun D σ H ⟨He, We, W, ρ, x, sl, q⟩ => q σ H W x (.refl W) rfl sl
theorem simS_doc {x j pos pos'} : PS X (.Expr (.Constant (.str x) j pos) pos') (tS C .pass) := ps_doc.weak fun D σ H ⟨He, We, W, ρ, x, sl, q⟩ => q σ H W x (.refl W) rfl sl
theorem simS_brk {pos : Pos} : PS X (.Break pos) (tS C .brk) := ps_break.weak fun D σ H ⟨He, We, W, ρ, x, sl, q⟩ => q σ H W x (.refl W) rfl sl
theorem simS_cnt {pos : Pos} : PS X (.Continue pos) (tS C .cnt) := ps_continue.weak fun D σ H ⟨He, We, W, ρ, x, sl, q⟩ => q σ H W x (.refl W) rfl sl
theorem simS_ret {e : Expr} {m : E} {pos : Pos} (he : PE X e (tE C m)) : PS X (.Return (some e) pos) (tS C (.ret m)) :=
  (ps_ret he).weak fun D σ H ⟨He, We, W, ρ, x, sl, q⟩ => ⟨W, ρ, x.wf, sl.sl, (AfterS.bind (rel := C.rep) x q).mono fun v H1 ⟨p, W1, x1, x2, r1, e, q1⟩ => q1 v H1 W1 x2 (.refl W1) rfl r1⟩
theorem simS_retN {pos : Pos} : PS X (.Return none pos) (tS C (.ret (.c .non))) :=
  ps_retN.weak fun D σ H ⟨He, We, W, ρ, x, sl, q⟩ => q .non H W x (.refl W) rfl .non
theorem simS_expr {e : Expr} {m : E} {pos : Pos} (he : PE X e (tE C m)) (hs : swapsWith e none pos.line X.env = pure false) : PS X (.Expr e pos) (tS C (.expr m)) :=
  (ps_expr he hs).weak fun D σ H ⟨He, We, W, ρ, x, sl, q⟩ => ⟨W, ρ, x.wf, sl.sl, (AfterS.bind (rel := C.rep) x q).mono fun v H1 ⟨p, W1, x1, x2, r1, e, q1⟩ => q1 σ H1 W1 x2 (.refl W1) rfl (sl.ext x1)⟩
mutual
/-- a target makes no own list -/
theorem bind_ol : ∀ {t : Tg} {p : PV} {ρ ρ' : A3.Env} {i : Nat} {ps : List PV}, t.bind p ρ = some ρ' → ρ'[i]? = some (some (.ol ps)) → ρ[i]? = some (some (.ol ps)) ∧ i ∉ t.slots
  | .nm j, p, ρ, ρ', i, ps, h, e => by
    unfold Tg.bind at h
    cases h
    unfold setS at e
    by_cases hj : j = i
    · subst hj
      by_cases hl : j < ρ.length
      · rw [List.getElem?_set_self hl] at e; cases e
      · rw [List.getElem?_eq_none (by simpa using hl)] at e; cases e
    · rw [List.getElem?_set_ne hj] at e
      exact ⟨e, by unfold Tg.slots; simp [Ne.symm hj]⟩
  | .tp ts, p, ρ, ρ', i, ps, h, e => by
    unfold Tg.bind at h
    unfold Tg.slots
    cases p with
    | tup xs => exact binds_ol h e
    | _ => cases h
theorem binds_ol : ∀ {ts : List Tg} {qs : List PV} {ρ ρ' : A3.Env} {i : Nat} {ps : List PV}, Tg.binds ts qs ρ = some ρ' → ρ'[i]? = some (some (.ol ps)) → ρ[i]? = some (some (.ol ps)) ∧ i ∉ Tg.slotsL ts
  | [], [], ρ, ρ', i, ps, h, e => by unfold Tg.binds at h; cases h; exact ⟨e, by unfold Tg.slotsL; simp⟩
  | [], _ :: _, _, _, _, _, h, _ => by unfold Tg.binds at h; cases h
  | _ :: _, [], _, _, _, _, h, _ => by unfold Tg.binds at h; cases h
  | t :: ts, q :: qs, ρ, ρ', i, ps, h, e => by
    unfold Tg.binds at h
    obtain ⟨ρ1, h1, h2⟩ := Option.bind_eq_some_iff.mp h
    obtain ⟨e1, n1⟩ := binds_ol h2 e
    obtain ⟨e2, n2⟩ := bind_ol h1 e1
    exact ⟨e2, by unfold Tg.slotsL; rw [List.mem_append, not_or]; exact ⟨n2, n1⟩⟩
end
theorem SlotsE.bound {He H : Hp} {W : Wd} {σ σ' : L2.St} {ρ ρ' : A3.Env} {t : Tg} {p : PV} (s : SlotsE C He W σ ρ H) (e : t.bind p ρ = some ρ') (b : ButAt t.slots σ σ') (sl : Slots C.K C.fa W σ' ρ' H) : SlotsE C He W σ' ρ' H :=
  ⟨sl, fun i ps a h1 h2 => by
    obtain ⟨h3, h4⟩ := bind_ol e h1
    rw [b.2 i h4] at h2
    exact s.nw i ps a h3 h2⟩
theorem simS_asg {tg e : Expr} {t : Tg} {m : E} {pos : Pos} (he : PE X e (tE C m)) (hg : PG X tg (tG C t)) (hs : swapsWithSole [tg] e pos.line X.env = pure false) (hw : swappedStores [tg] e X.env = pure none)
    (h1 : (assignEach [tg] X.env).map (·.2) = [assign tg X.env]) : PS X (.Assign [tg] e pos) (tS C (.asg t m)) :=
  (ps_asg he hg hs hw h1).weak fun D σ H ⟨He, We, W, ρ, x, sl, q⟩ => ⟨W, ρ, x.wf, sl.sl, (AfterS.bind (rel := C.rep) x q).mono fun v H1 ⟨p, W1, x1, x2, r1, e, q1⟩ => by
    replace q1 : AfterS C He We W1 (match t.bind p ρ with
      | some ρ => .nx ρ W1.S
      | none => .bad) D := q1
    split at q1
    · rename_i ρ' hb
      exact ⟨W1, ρ, p, ρ', x2.wf, sl.sl.ext x1, r1, hb, fun σ' sl' b => q1 σ' H1 W1 x2 (.refl W1) rfl ((sl.ext x1).bound hb b sl')⟩
    · exact q1.elim⟩
/-- the slot's own list is new -/
theorem SlotsE.own {He H H' : Hp} {W W' : Wd} {σ : L2.St} {ρ : A3.Env} {i : Nat} {a : Addr} {xs : List V} {ps : List PV} (s : SlotsE C He W σ ρ H) (y : Ext H W H' W') (x : Ext He We H' W') (f : W'.F a = none) (n : H a = none) (h : H' a = some (.lst xs)) (r : RepL C.K C.fa W' xs ps) (z : ps.length ≤ sizeLine) (he : He a = none) :
    SlotsE C He W' (σ.set i (some (.ref a))) (setS ρ i (.ol ps)) H' := by
  refine ⟨(s.sl.ext y).setO f h r z fun j qs hj e1 e2 => ?_, fun j qs b e1 e2 => ?_⟩
  · obtain ⟨b, ys, h1, _, h2, _⟩ := s.sl.ol e1
    rw [h1] at e2
    cases e2
    rw [n] at h2; cases h2
  · unfold setS at e1
    by_cases hj : i = j
    · subst hj
      by_cases hl : i < ρ.length
      · rw [List.getElem?_set_self (by rw [s.sl.len]; exact hl)] at e2
        cases e2
        exact he
      · rw [List.getElem?_eq_none (by simpa using hl)] at e1; cases e1
    · rw [List.getElem?_set_ne hj] at e1 e2
      exact s.nw j qs b e1 e2
theorem mkl_use {m : E} {i : Nat} {D : Ends} {σ : L2.St} {H : Hp} (h : tS C (.mkl i m) D σ H) : tAsg (tN C m) (gName i) D σ H := by
  obtain ⟨He, We, W, ρ, x, sl, q⟩ := h
  refine ⟨W, ρ, x.wf, sl.sl, ?_⟩
  replace q : AfterS C He We W ((m.ev C.cf ρ W.S).st ρ fun x S => match x with
    | .lst xs => .nx (setS ρ i (.ol xs)) S
    | _ => .bad) D := q
  cases hr : m.ev C.cf ρ W.S with
  | ok p S =>
    rw [hr] at q
    cases p with
    | lst ps =>
      intro a xs H' W' y e f n h r z
      exact q _ H' W' (x.trans y) y.up e (sl.own y (x.trans y) f n h r z (Same.none x.hs n))
    | _ => exact q.elim
  | exc _ _ => rw [hr] at q; exact q.elim
  | bad => rw [hr] at q; exact q.elim
theorem simS_mkl {x : Str} {i : Nat} {e : Expr} {m : E} {p pos : Pos} (hN : X.N.Nodup) (hi : X.N[i]? = some x) (hx : Loc X.env.scope x) (hf : X.fn x = true ∨ X.env.scope.names.lookup x = some .local) (he : PE X e (tN C m)) (hs : swapsWithSole [.Name x p] e pos.line X.env = pure false) (hw : swappedStores [.Name x p] e X.env = pure none)
    (h1 : (assignEach [.Name x p] X.env).map (·.2) = [assign (.Name x p) X.env]) : PS X (.Assign [.Name x p] e pos) (tS C (.mkl i m)) :=
  (ps_asg he (pg_name hN hi hx hf) hs hw h1).weak fun D σ H h => mkl_use h

/-! ### own lists from now on stay -/
theorem frz1_ok {He H : Hp} {We W : Wd} {σ : L2.St} {ρ : A3.Env} (i : Nat) (x : Ext He We H W) (s : SlotsE C He W σ ρ H) : ∃ W', Ext He We H W' ∧ Up W W' ∧ W'.S = W.S ∧ SlotsE C He W' σ (frz1 ρ i) H := by
  unfold frz1
  split
  · rename_i c e
    obtain ⟨v, h1, h2⟩ := s.sl.cell i c e
    have hi : i < ρ.length := (List.getElem?_eq_some_iff.mp e).1
    have key : ∀ {W' : Wd}, Up W W' → (∀ (j : Nat) (qs : List PV) (b : Addr), j ≠ i → ρ[j]? = some (some (.ol qs)) → σ[j]? = some (some (.ref b)) → W'.F b = none) → Rep C.K C.fa W' v c.pv → SlotsE C He W' σ (setS ρ i (.val c.pv)) H := fun {W'} u hn r => by
      unfold setS
      refine ⟨⟨by simp [s.sl.len], fun j d ed => ?_, fun j k qs rs hjk e1 e2 => ?_⟩, fun j qs b e1 e2 => ?_⟩
      · by_cases hj : i = j
        · subst hj
          rw [List.getElem?_set_self hi] at ed
          cases ed
          exact ⟨v, h1, r⟩
        · rw [List.getElem?_set_ne hj] at ed
          obtain ⟨w, h3, h4⟩ := s.sl.cell j d ed
          refine ⟨w, h3, ?_⟩
          cases d with
          | val p => exact Rep.up u h4
          | ol qs =>
            obtain ⟨b, ys, rfl, h5, h6, h7, h8⟩ := h4
            exact ⟨b, ys, rfl, hn j qs b (Ne.symm hj) ed h3, h6, h7.up u, h8⟩
          | od _ => exact h4.elim
      · have n1 : i ≠ j := by rintro rfl; rw [List.getElem?_set_self hi] at e1; cases e1
        have n2 : i ≠ k := by rintro rfl; rw [List.getElem?_set_self hi] at e2; cases e2
        rw [List.getElem?_set_ne n1] at e1
        rw [List.getElem?_set_ne n2] at e2
        exact s.sl.apart j k qs rs hjk e1 e2
      · have n1 : i ≠ j := by rintro rfl; rw [List.getElem?_set_self hi] at e1; cases e1
        rw [List.getElem?_set_ne n1] at e1
        exact s.nw j qs b e1 e2
    cases c with
    | val p => exact ⟨W, x, .refl W, rfl, key (.refl W) (fun j qs b hj e1 e2 => by
        obtain ⟨b', ys, h3, h4, _⟩ := s.sl.ol e1
        rw [e2] at h3; cases h3; exact h4) h2⟩
    | ol ps =>
      obtain ⟨a, xs, rfl, f, h, r, z⟩ := h2
      have na := s.nw i ps a e h1
      refine ⟨{ W with F := upd W.F a (.lst xs) }, x.freeze na f h, .freeze f, rfl, key (.freeze f) (fun j qs b hj e1 e2 => ?_) (.lst (.inl (.inl upd_same)) (r.up (.freeze f)) z)⟩
      obtain ⟨b', ys, h3, h4, _⟩ := s.sl.ol e1
      have e2' := e2
      rw [e2] at h3; cases h3
      have hne : b ≠ a := by
        rintro rfl
        exact s.sl.apart j i qs ps hj e1 e (e2.trans h1.symm)
      show upd W.F a _ b = none
      rw [upd_ne hne]; exact h4
    | od _ => exact h2.elim
  · exact ⟨W, x, .refl W, rfl, s⟩
theorem frzs_ok {He H : Hp} {We : Wd} {σ : L2.St} : ∀ (is : List Nat) {W : Wd} {ρ : A3.Env}, Ext He We H W → SlotsE C He W σ ρ H → ∃ W', Ext He We H W' ∧ Up W W' ∧ W'.S = W.S ∧ SlotsE C He W' σ (frzs ρ is) H
  | [], W, ρ, x, s => ⟨W, x, .refl W, rfl, s⟩
  | i :: is, W, ρ, x, s => by
    obtain ⟨W1, x1, u1, e1, s1⟩ := frz1_ok i x s
    obtain ⟨W2, x2, u2, e2, s2⟩ := frzs_ok is x1 s1
    exact ⟨W2, x2, u1.trans u2, e2.trans e1, s2⟩
theorem simSs_frz {sts : List Stmt} {is : List Nat} {ms : Stms} (h : PSs X sts (tSs C ms)) : PSs X sts (tSs C (.cons (.frz is) ms)) :=
  h.weak fun D σ H ⟨He, We, W, ρ, x, sl, q⟩ => by
    obtain ⟨W', x', u, e, s'⟩ := frzs_ok is x sl
    exact ⟨He, We, W', frzs ρ is, x', s', by rw [e]; exact AfterS.up (W := W) (show AfterS C He We W (ms.ev C.cf (frzs ρ is) W.S) D from q) u⟩

/-! ### a slot's own list is changed -/
theorem SlotsE.write {He H : Hp} {W : Wd} {σ : L2.St} {ρ : A3.Env} {i : Nat} {a : Addr} {ys : List V} {ps qs : List PV} (s : SlotsE C He W σ ρ H) (e : ρ[i]? = some (some (.ol ps))) (h1 : σ[i]? = some (some (.ref a))) (f : W.F a = none) (r : RepL C.K C.fa W ys qs) (z : qs.length ≤ sizeLine) :
    SlotsE C He W σ (setS ρ i (.ol qs)) (upd H a (.lst ys)) := by
  have hi : i < ρ.length := (List.getElem?_eq_some_iff.mp e).1
  unfold setS
  have hne : ∀ {j : Nat} {rs : List PV} {b : Addr}, i ≠ j → ρ[j]? = some (some (.ol rs)) → σ[j]? = some (some (.ref b)) → b ≠ a := fun {j rs b} hj e1 e2 => by
    rintro rfl
    exact s.sl.apart i j ps rs hj e e1 (h1.trans e2.symm)
  refine ⟨⟨by simp [s.sl.len], fun j d ed => ?_, fun j k qs rs hjk e1 e2 => ?_⟩, fun j qs b e1 e2 => ?_⟩
  · by_cases hj : i = j
    · subst hj
      rw [List.getElem?_set_self hi] at ed
      cases ed
      exact ⟨_, h1, a, ys, rfl, f, upd_same, r, z⟩
    · rw [List.getElem?_set_ne hj] at ed
      obtain ⟨w, h3, h4⟩ := s.sl.cell j d ed
      refine ⟨w, h3, ?_⟩
      cases d with
      | val p => exact h4
      | ol rs =>
        obtain ⟨b, zs, rfl, h5, h6, h7, h8⟩ := h4
        exact ⟨b, zs, rfl, h5, by rw [upd_ne (hne hj ed h3)]; exact h6, h7, h8⟩
      | od _ => exact h4.elim
  · by_cases n1 : i = j
    · subst n1
      rw [List.getElem?_set_ne hjk] at e2
      exact s.sl.apart i k ps rs hjk e e2
    · rw [List.getElem?_set_ne n1] at e1
      by_cases n2 : i = k
      · subst n2
        exact s.sl.apart j i qs ps hjk e1 e
      · rw [List.getElem?_set_ne n2] at e2
        exact s.sl.apart j k qs rs hjk e1 e2
  · by_cases hj : i = j
    · subst hj
      exact s.nw i ps b e e2
    · rw [List.getElem?_set_ne hj] at e1
      exact s.nw j qs b e1 e2
theorem line_len {n : Nat} (h : n < lineN) : n < sizeLine := by rw [← lineN_eq]; exact h
/-- x.append(..) -/
theorem simS_app {x : Str} {i : Nat} {e : Expr} {m : E} {p apos cpos pos : Pos} (hK : X.K = C.K) (hN : X.N[i]? = some x) (hv : Vis X.env.scope x) (hd : (x == ("__debug__" : Str)) = false) (hcd : (x == ("__classdict__" : Str)) = false) (he : PE X e (tE C m)) (hs : notStar e = true) (hline : (apos.endLine == cpos.line) = true) :
    PS X (.Expr (.Call (.Attribute (.Name x p) "append" apos) [e] [] cpos) pos) (tS C (.app i m)) :=
  (ps_expr (pe_bm PySem.F.plainAttrs_list PySem.F.slot_list_append PySem.F.type_list_append mt_append (pe_var hN hv hd hcd) (pa_cons he pa_nil (star_cons hs)) rfl (by rw [star_cons hs]; rfl) hline (star_cons hs) rfl) rfl).weak fun D σ H ⟨He, We, W, ρ, x, sl, q⟩ => by
    replace q : AfterS C He We W ((m.ev C.cf ρ W.S).st ρ fun x S => match ρ[i]? with
      | some (some (.ol xs)) => if xs.length < lineN then .nx (setS ρ i (.ol (xs ++ [x]))) S else .bad
      | _ => .bad) D := q
    have hol : ∃ ps, ρ[i]? = some (some (.ol ps)) := by
      cases hr : m.ev C.cf ρ W.S with
      | ok p S =>
        rw [hr] at q
        replace q : AfterS C He We W (match ρ[i]? with
          | some (some (.ol xs)) => if xs.length < lineN then .nx (setS ρ i (.ol (xs ++ [p]))) S else .bad
          | _ => .bad) D := q
        split at q
        · exact ⟨_, by assumption⟩
        · exact q.elim
      | exc _ _ => rw [hr] at q; exact q.elim
      | bad => rw [hr] at q; exact q.elim
    obtain ⟨ps, e⟩ := hol
    obtain ⟨a, xs, h1, f, h, r, z⟩ := sl.sl.ol e
    have nw := sl.nw i ps a e h1
    refine ⟨.ref a, h1, .inl ⟨rfl, xs, .inl (.inl h)⟩, W, ρ, x.wf, sl.sl, (AfterS.bind (rel := C.rep) x q).mono fun v H1 ⟨p, W1, x1, x2, r1, _, q1⟩ => ?_⟩
    rw [e] at q1
    replace q1 : AfterS C He We W1 (if ps.length < lineN then .nx (setS ρ i (.ol (ps ++ [p]))) W1.S else .bad) D := q1
    split at q1
    · rename_i hl
      have f1 := x1.own f h
      have hh := x1.hs _ _ h
      have r2 := (r.ext x1).append (.one r1)
      exact ⟨a, xs, v, rfl, rfl, hh, by rw [r.length]; exact line_len hl, q1 σ _ W1 (x2.write nw f1) (.refl W1) rfl ((sl.ext x1).write e h1 f1 r2 (by rw [List.length_append, List.length_singleton]; exact line_len hl))⟩
    · exact q1.elim
/-- x[k] = .. -/
theorem simS_seti {x : Str} {i : Nat} {e k : Expr} {m mk : E} {p tpos pos : Pos} (hN : X.N[i]? = some x) (hv : Vis X.env.scope x) (hd : (x == ("__debug__" : Str)) = false) (hcd : (x == ("__classdict__" : Str)) = false) (he : PE X e (tE C m)) (hk : PE X k (tE C mk))
    (ha : ∀ v, assign (.Subscript (.Name x p) k tpos) X.env v = (do
      let ov ← holding [v] (eval (.Name x p) X.env)
      let iv ← holding [v, ov] (eval k X.env)
      standAt tpos
      holding [v, ov, iv] (setItem ov iv v)
      release [v, ov, iv] [])) (hs : swapsWithSole [.Subscript (.Name x p) k tpos] e pos.line X.env = pure false) (hw : swappedStores [.Subscript (.Name x p) k tpos] e X.env = pure none) :
    PS X (.Assign [.Subscript (.Name x p) k tpos] e pos) (tS C (.seti i mk m)) :=
  (ps_asg he (pg_sub (pe_var hN hv hd hcd) hk set_list ha) hs hw rfl).weak fun D σ H ⟨He, We, W, ρ, x, sl, q⟩ => by
    refine ⟨W, ρ, x.wf, sl.sl, (AfterS.bind (rel := C.rep) x q).mono fun v H1 ⟨p, W1, x1, x2, r1, _, q1⟩ => ?_⟩
    replace q1 : AfterS C He We W1 ((mk.ev C.cf ρ W1.S).st ρ fun y S => match ρ[i]?, y with
      | some (some (.ol xs)), .int z => (match ixOf xs.length z with
        | some n => .nx (setS ρ i (.ol (xs.set n p))) S
        | none => .bad)
      | _, _ => .bad) D := q1
    have hol : ∃ ps, ρ[i]? = some (some (.ol ps)) := by
      cases hr : mk.ev C.cf ρ W1.S with
      | ok p2 S =>
        rw [hr] at q1
        replace q1 : AfterS C He We W1 (match (generalizing := false) ρ[i]?, p2 with
          | some (some (.ol xs)), .int z => (match ixOf xs.length z with
            | some n => .nx (setS ρ i (.ol (xs.set n p))) S
            | none => .bad)
          | _, _ => .bad) D := q1
        split at q1
        · exact ⟨_, by assumption⟩
        · exact q1.elim
      | exc _ _ => rw [hr] at q1; exact q1.elim
      | bad => rw [hr] at q1; exact q1.elim
    obtain ⟨ps, e⟩ := hol
    obtain ⟨a, xs, h1, f, h, r, z⟩ := sl.sl.ol e
    have nw := sl.nw i ps a e h1
    refine ⟨.ref a, h1, W1, ρ, x2.wf, sl.sl.ext x1, (AfterS.bind (rel := C.rep) x2 q1).mono fun kv H2 ⟨pk, W2, x3, x4, r2, _, q2⟩ => ?_⟩
    rw [e] at q2
    cases pk with
    | int j =>
      cases r2.int_inv
      replace q2 : AfterS C He We W2 (match ixOf ps.length j with
        | some n => .nx (setS ρ i (.ol (ps.set n p))) W2.S
        | none => .bad) D := q2
      split at q2
      · rename_i n hn
        have f2 := x3.own (x1.own f h) (x1.hs _ _ h)
        have hh := x3.hs _ _ (x1.hs _ _ h)
        have r3 := ((r.ext x1).ext x3).set (r1.ext x3) n
        refine ⟨a, xs, j, n, rfl, rfl, hh, by rw [r.length, ← ixOf_eq]; exact hn, ?_⟩
        exact q2 σ _ W2 (x4.write nw f2) (.refl W2) rfl (((sl.ext x1).ext x3).write e h1 f2 r3 (by rw [List.length_set]; exact z))
      · exact q2.elim
    | _ => exact q2.elim
/-! ### if, for, while -/
theorem test_use {He H : Hp} {We W : Wd} {t : A3.R PV} {ρ : A3.Env} {f : Bool → Store → RS} {D : Ends} (x : Ext He We H W) (q : AfterS C He We W (t.st ρ fun x S => match x.truth with
      | some true => f true S
      | some false => f false S
      | none => .bad) D) :
    After (fun _ (b c : Bool) => b = c) W H (t.bind fun x S => A3.R.of x.truth S) fun b H1 => ∃ W1, Ext H W H1 W1 ∧ Ext He We H1 W1 ∧ AfterS C He We W1 (f b W1.S) D := by
  cases t with
  | ok p S =>
    replace q : AfterS C He We W (match p.truth with
      | some true => f true S
      | some false => f false S
      | none => .bad) D := q
    show After _ W H (A3.R.of p.truth S) _
    cases ht : p.truth with
    | none => rw [ht] at q; exact q
    | some b =>
      rw [ht] at q
      intro b' H' W' y e eb
      subst eb
      refine ⟨W', y, x.trans y, ?_⟩
      rw [e]
      cases b' <;> exact AfterS.up q y.up
  | exc _ _ => exact q
  | bad => exact q
theorem simS_ife {c : Expr} {a b : List Stmt} {m : E} {ma mb : Stms} {pos : Pos} (hc : PT X c (tT C m)) (ha : PSs X a (tSs C ma)) (hb : PSs X b (tSs C mb)) : PS X (.If c a b pos) (tS C (.ife m ma mb)) :=
  (ps_if hc ha hb).weak fun D σ H ⟨He, We, W, ρ, x, sl, q⟩ => ⟨W, ρ, x.wf, sl.sl, (test_use (f := fun b S => if b then ma.ev C.cf ρ S else mb.ev C.cf ρ S) x (t := m.ev C.cf ρ W.S) (ρ := ρ) q).mono fun b H1 ⟨W1, x1, x2, q1⟩ => by
    cases b with
    | true => exact ⟨He, We, W1, ρ, x2, sl.ext x1, q1⟩
    | false => exact ⟨He, We, W1, ρ, x2, sl.ext x1, q1⟩⟩
theorem simS_for {tg iter : Expr} {body : List Stmt} {t : Tg} {it : A3.It} {mb : Stms} {pos : Pos} (hp : PassesOwn (model X.prog X.w) X.A X.env X.xe) (hc : X.calm = true) (hi : PI X tg iter (tI C it)) (hg : PG X tg (tG C t)) (hb : PSs X body (tSs C mb)) (hs : ∀ x, foldedSetIterable iter X.env x = pure x) :
    PS X (.For tg iter body [] pos) (tS C (.for_ t it mb)) :=
  (ps_for hp hc hi hg hb hs).weak fun D σ H ⟨He, We, W, ρ, x, sl, q⟩ => by
    refine ⟨W, ρ, x.wf, sl.sl, ?_⟩
    replace q : AfterS C He We W (match it.ev C.cf ρ W.S with
      | .ok xs S => forL t (fun ρ S => mb.ev C.cf ρ S) xs ρ S
      | .exc x S => .ex x ρ S
      | .bad => .bad) D := q
    cases hr : it.ev C.cf ρ W.S with
    | exc _ _ => rw [hr] at q; exact q.elim
    | bad => rw [hr] at q; exact q.elim
    | ok xs S =>
      rw [hr] at q
      intro J H1 W1 x1 e1 j
      replace q : AfterS C He We W1 (forL t (fun ρ S => mb.ev C.cf ρ S) xs ρ W1.S) D := by rw [e1]; exact AfterS.up q x1.up
      refine ⟨fun i n σ' H' => i ≤ xs.length ∧ n = xs.length - i ∧ ∃ W' ρ', Ext He We H' W' ∧ Up W1 W' ∧ SlotsE C He W' σ' ρ' H' ∧ AfterS C He We W' (forL t (fun ρ S => mb.ev C.cf ρ S) (xs.drop i) ρ' W'.S) D, ⟨xs.length, Nat.zero_le _, rfl, W1, ρ, x.trans x1, .refl W1, sl.ext x1, q⟩, ?_⟩
      rintro i n σ' H' ⟨hi, rfl, W', ρ', x2, u2, sl2, q2⟩
      by_cases hlt : i < xs.length
      · right
        obtain ⟨p, hp⟩ : ∃ p, xs[i]? = some p := ⟨_, List.getElem?_eq_getElem hlt⟩
        obtain ⟨go, yl⟩ := j.go W' H' u2 x2.wf i p hp
        have hd : xs.drop i = p :: xs.drop (i + 1) := by
          rw [List.drop_eq_getElem_cons hlt]
          rw [List.getElem?_eq_getElem hlt] at hp
          rw [Option.some.inj hp]
        rw [hd] at q2
        refine ⟨go, _, fun σ' H' h => h, fun v H3 y => ?_⟩
        obtain ⟨W3, x3, s3, r3⟩ := yl v H3 y
        replace q2 : AfterS C He We W' (match t.bind p ρ' with
          | none => .bad
          | some ρ' => match mb.ev C.cf ρ' W'.S with
            | .nx ρ S => forL t (fun ρ S => mb.ev C.cf ρ S) (xs.drop (i + 1)) ρ S
            | .ct ρ S => forL t (fun ρ S => mb.ev C.cf ρ S) (xs.drop (i + 1)) ρ S
            | .bk ρ S => .nx ρ S
            | r => r) D := q2
        have X3 := x2.trans x3
        cases hbd : t.bind p ρ' with
        | none => rw [hbd] at q2; exact q2.elim
        | some ρ2 =>
          rw [hbd] at q2
          refine ⟨W3, ρ', p, ρ2, X3.wf, sl2.sl.ext x3, r3, hbd, fun σ2 s2 b2 => ⟨He, We, W3, ρ2, X3, (sl2.ext x3).bound hbd b2 s2, ?_⟩⟩
          rw [s3]
          replace q2 := AfterS.up q2 x3.up
          replace q2 : AfterS C He We W3 (match mb.ev C.cf ρ2 W'.S with
            | .nx ρ S => forL t (fun ρ S => mb.ev C.cf ρ S) (xs.drop (i + 1)) ρ S
            | .ct ρ S => forL t (fun ρ S => mb.ev C.cf ρ S) (xs.drop (i + 1)) ρ S
            | .bk ρ S => .nx ρ S
            | r => r) D := q2
          cases hm : mb.ev C.cf ρ2 W'.S with
          | nx ρ4 S4 =>
            rw [hm] at q2
            exact fun σ4 H4 W4 x4 u4 e4 sl4 => ⟨xs.length - (i + 1), by omega, hlt, rfl, W4, ρ4, x4, (u2.trans x3.up).trans u4, sl4, by rw [e4]; exact AfterS.up q2 u4⟩
          | ct ρ4 S4 =>
            rw [hm] at q2
            exact fun σ4 H4 W4 x4 u4 e4 sl4 => ⟨xs.length - (i + 1), by omega, hlt, rfl, W4, ρ4, x4, (u2.trans x3.up).trans u4, sl4, by rw [e4]; exact AfterS.up q2 u4⟩
          | bk ρ4 S4 => rw [hm] at q2; exact q2
          | rt p4 S4 => rw [hm] at q2; exact q2
          | ex _ _ _ => rw [hm] at q2; exact q2
          | bad => rw [hm] at q2; exact q2
      · left
        have ei : i = xs.length := by omega
        subst ei
        rw [List.drop_length] at q2
        exact ⟨j.stop W' H' u2 x2.wf, q2 σ' H' W' x2 (.refl W') rfl sl2⟩
theorem simS_while {c : Expr} {body : List Stmt} {m : E} {mb : Stms} {pos : Pos} (hp : PassesOwn (model X.prog X.w) X.A X.env X.xe) (hc : PT X c (tT C m)) (hb : PSs X body (tSs C mb)) : PS X (.While c body [] pos) (tS C (.while_ m mb)) :=
  (ps_while hp hc hb).weak fun D σ H ⟨He, We, W, ρ, x, sl, q⟩ => by
    replace q : AfterS C He We W (whileL (fun ρ S => (m.ev C.cf ρ S).bind fun x S => A3.R.of x.truth S) (fun ρ S => mb.ev C.cf ρ S) 1000000 ρ W.S) D := q
    generalize 1000000 = fuel at q
    refine ⟨fun n σ' H' => ∃ W' ρ', Ext He We H' W' ∧ SlotsE C He W' σ' ρ' H' ∧ AfterS C He We W' (whileL (fun ρ S => (m.ev C.cf ρ S).bind fun x S => A3.R.of x.truth S) (fun ρ S => mb.ev C.cf ρ S) n ρ' W'.S) D, ⟨fuel, W, ρ, x, sl, q⟩, ?_⟩
    rintro n σ' H' ⟨W', ρ', x2, sl2, q2⟩
    cases n with
    | zero => exact q2.elim
    | succ n =>
      replace q2 : AfterS C He We W' (match ((m.ev C.cf ρ' W'.S).bind fun x S => A3.R.of x.truth S) with
        | .ok true S => (match mb.ev C.cf ρ' S with
          | .nx ρ S => whileL (fun ρ S => (m.ev C.cf ρ S).bind fun x S => A3.R.of x.truth S) (fun ρ S => mb.ev C.cf ρ S) n ρ S
          | .ct ρ S => whileL (fun ρ S => (m.ev C.cf ρ S).bind fun x S => A3.R.of x.truth S) (fun ρ S => mb.ev C.cf ρ S) n ρ S
          | .bk ρ S => .nx ρ S
          | r => r)
        | .ok false S => .nx ρ' S
        | .exc x S => .ex x ρ' S
        | .bad => .bad) D := q2
      refine ⟨W', ρ', x2.wf, sl2.sl, ?_⟩
      cases ht : ((m.ev C.cf ρ' W'.S).bind fun x S => A3.R.of x.truth S) with
      | exc _ _ => rw [ht] at q2; exact q2.elim
      | bad => rw [ht] at q2; exact q2.elim
      | ok b S =>
        rw [ht] at q2
        intro b' H3 W3 x3 e3 eb
        subst eb
        cases b' with
        | false =>
          rw [if_neg Bool.false_ne_true]
          exact q2 σ' H3 W3 (x2.trans x3) x3.up e3 (sl2.ext x3)
        | true =>
          rw [if_pos rfl]
          refine ⟨_, fun σ' H' h => h, He, We, W3, ρ', x2.trans x3, sl2.ext x3, ?_⟩
          rw [e3]
          replace q2 : AfterS C He We W' (match mb.ev C.cf ρ' S with
            | .nx ρ S => whileL (fun ρ S => (m.ev C.cf ρ S).bind fun x S => A3.R.of x.truth S) (fun ρ S => mb.ev C.cf ρ S) n ρ S
            | .ct ρ S => whileL (fun ρ S => (m.ev C.cf ρ S).bind fun x S => A3.R.of x.truth S) (fun ρ S => mb.ev C.cf ρ S) n ρ S
            | .bk ρ S => .nx ρ S
            | r => r) D := q2
          replace q2 := AfterS.up q2 x3.up
          cases hm : mb.ev C.cf ρ' S with
          | nx ρ4 S4 =>
            rw [hm] at q2
            exact fun σ4 H4 W4 x4 u4 e4 sl4 => ⟨n, Nat.lt_succ_self n, W4, ρ4, x4, sl4, by rw [e4]; exact AfterS.up q2 u4⟩
          | ct ρ4 S4 =>
            rw [hm] at q2
            exact fun σ4 H4 W4 x4 u4 e4 sl4 => ⟨n, Nat.lt_succ_self n, W4, ρ4, x4, sl4, by rw [e4]; exact AfterS.up q2 u4⟩
          | bk ρ4 S4 => rw [hm] at q2; exact q2
          | rt p4 S4 => rw [hm] at q2; exact q2
          | ex _ _ _ => rw [hm] at q2; exact q2
          | bad => rw [hm] at q2; exact q2
end
end A3

-- Sim7
set_option Elab.async false
set_option linter.all false
set_option maxRecDepth 100000
set_option maxHeartbeats 4000000
/-! Sim7: calls of defs. -/
namespace A3
open PySem PySem.Spec PyProof.Rows L2

/-- what the def f promises -/
def spC (C : Ctx) (f : FN) : Sp := fun vs H Q _ => ∃ W ps, Wf W H ∧ RepL C.K C.fa W vs ps ∧ After C.rep W H (C.cf f ps W.S) Q
/-- the module's name x is the def f of k parameters, and it keeps its promise -/
def CallOk (C : Ctx) (X : Cx) (x : Str) (f : FN) (k : Nat) : Prop := ∃ (n : Nat) (fd : FuncData) (ps : List Str), FnOk X.prog X.w X.K X.mg X.base CX0 n (C.fa f) fd ps (spC C f) ∧ Room (n + 1) X.A ∧ X.mg x = some (.ref (C.fa f)) ∧ PySem.W.keepIn X.K (.ref (C.fa f)) = true ∧ Binds X.K fd ps [] ∧ ps.length = k
section
variable {X : Cx} {C : Ctx}
theorem call_use {f : FN} {ms : Es} {σ : L2.St} {H : Hp} {Q : VK} (h : tE C (.call f ms) σ H Q) : tCall (spC C f) [] E0 (tEs C ms) σ H Q := by
  obtain ⟨W, ρ, wf, sl, q⟩ := h
  refine ⟨W, ρ, wf, sl, (After.bind (rel := C.repL) q).mono fun vs H1 ⟨ps, W1, x1, r1, _, q1⟩ => ?_⟩
  rw [List.append_nil]
  exact ⟨W1, ps, x1.wf, r1, q1⟩
theorem simE_call {x : Str} {f : FN} {k : Nat} {e : Expr} {es : List Expr} {ms : Es} {p pos : Pos} (c : CallOk C X x f k) (hg : Gl X x) (ha : PA X (e :: es) (tEs C ms)) (hdb : (x == ("__debug__" : Str)) = false) (hs : ∀ y ∈ e :: es, notStar y = true) :
    PE X (.Call (.Name x p) (e :: es) [] pos) (tE C (.call f ms)) := by
  obtain ⟨n, fd, ps, F, hr, hm, hk, hb, _⟩ := c
  exact (pe_call F (hr.mono (Nat.le_succ n)) hg hm hk hb .nil pass0 ha hdb (star_cons (hs e List.mem_cons_self)) (star_none fun y hy => hs y (List.mem_cons_of_mem _ hy))).weak fun σ H Q h => call_use h
theorem simE_call0 {x : Str} {f : FN} {k : Nat} {p pos : Pos} (c : CallOk C X x f k) (hg : Gl X x) (hdb : (x == ("__debug__" : Str)) = false) : PE X (.Call (.Name x p) [] [] pos) (tE C (.call f .nil)) := by
  obtain ⟨n, fd, ps, F, hr, hm, hk, hb, _⟩ := c
  refine (pe_call0 F (hr.mono (Nat.le_succ n)) hg hm hk hb .nil pass0 hdb).weak fun σ H Q h => ?_
  obtain ⟨W, ρ, wf, sl, q⟩ := h
  exact ⟨W, [], wf, .nil, q⟩
end

/-! ### a def keeps its promise -/
section
variable {P : Program} {w : World} {K : PySem.W.Frag} {mg : Str → Option Value} {base : Heap} {fa : Fa}
theorem start_slots {C : Ctx} {W : Wd} {H : Hp} {vs : List V} {ps : List PV} (r : RepL C.K C.fa W vs ps) (N : List Str) : Slots C.K C.fa W (L2.start N vs) (ps.map (fun x => some (.val x)) ++ List.replicate (N.length - ps.length) none) H := by
  have hl := r.length
  unfold L2.start
  have key : ∀ {i : Nat} {c : Cell}, (ps.map (fun x => some (Cell.val x)) ++ List.replicate (N.length - ps.length) none)[i]? = some (some c) → ∃ p, ps[i]? = some p ∧ c = .val p := fun {i c} e => by
    by_cases hi : i < ps.length
    · rw [List.getElem?_append_left (by simpa using hi), List.getElem?_map] at e
      cases q : ps[i]? with
      | none => rw [q] at e; cases e
      | some p => rw [q] at e; cases e; exact ⟨p, rfl, rfl⟩
    · rw [List.getElem?_append_right (by simpa using hi), List.getElem?_replicate] at e
      split at e <;> cases e
  refine ⟨by simp [hl], fun i c e => ?_, fun i j qs rs hij e1 e2 => ?_⟩
  · obtain ⟨p, e1, rfl⟩ := key e
    obtain ⟨v, h1, h2⟩ := r.get e1
    refine ⟨v, ?_, h2⟩
    rw [List.getElem?_append_left (by rw [List.length_map]; exact (List.getElem?_eq_some_iff.mp h1).1), List.getElem?_map, h1]; rfl
  · obtain ⟨p, _, e3⟩ := key e1
    cases e3
/-- THE RULE: a def by its own form -/
theorem fn_sim {x qual : Str} {params : Arguments} {body : List Stmt} {scope : Scope} {f : FN} {fd : FuncData} {N ps : List Str} {d : FDef} {G : FN → Option FDef} {n k : Nat} (F : FunD K x qual params body scope [] [] (fa f) fd) (S : FnScope N ps scope)
    (hG : G f = some d) (hp : d.npar = ps.length) (hn : d.nslot = N.length)
    (hb : ∀ (cdv : Value) (A : Around) (outer : List PySem.Env) (s : Shared) (H : Hp) (E : XK), Room k (A.deeper (envOfC qual scope s.heap.objs.size (fa f) cdv)) →
      PSs (cxOf CX0 P w K mg base N qual scope (fa f) cdv A outer s H E).nox body (tSs ⟨K, fa, callN G n⟩ d.body)) :
    FnOk P w K mg base CX0 (k + 1) (fa f) fd ps (spC ⟨K, fa, callN G (n + 1)⟩ f) := by
  have run_eq : ∀ (qs : List PV) (S : Store), callN G (n + 1) f qs S = d.run (callN G n) qs S := fun qs S => by
    show (match G f with | some d => d.run (callN G n) qs S | none => .bad) = _
    rw [hG]
  refine F.ok S (fun vs H Q E h => ?_) (fun cdv A outer s H vs Q E hr h => ?_)
  · obtain ⟨W, qs, wf, r, q⟩ := h
    rw [show (⟨K, fa, callN G (n + 1)⟩ : Ctx).cf = callN G (n + 1) from rfl, run_eq] at q
    unfold FDef.run at q
    rw [r.length]
    split at q
    · rename_i e; rw [e, hp]
    · exact q.elim
  · refine ⟨_, (hb cdv A outer s H E hr).nox, ?_⟩
    obtain ⟨W, qs, wf, r, q⟩ := h
    rw [show (⟨K, fa, callN G (n + 1)⟩ : Ctx).cf = callN G (n + 1) from rfl, run_eq] at q
    unfold FDef.run at q
    split at q
    · rename_i e
      refine ⟨H, W, W, _, .refl wf, ⟨start_slots (C := ⟨K, fa, callN G n⟩) r N, fun i ps a h1 h2 => ?_⟩, ?_⟩
      · by_cases hi : i < qs.length
        · rw [List.getElem?_append_left (by simpa using hi), List.getElem?_map] at h1
          cases q2 : qs[i]? with
          | none => rw [q2] at h1; cases h1
          | some p => rw [q2] at h1; cases h1
        · rw [List.getElem?_append_right (by simpa using hi), List.getElem?_replicate] at h1
          split at h1 <;> cases h1
      · rw [show N.length - qs.length = d.nslot - d.npar by rw [e, hn]]
        cases hr2 : d.body.ev (callN G n) (qs.map (fun x => some (.val x)) ++ List.replicate (d.nslot - d.npar) none) W.S with
        | nx ρ' S' =>
          rw [hr2] at q
          exact fun σ' H' W' x u e s => q .non H' W' x e .non
        | rt p S' =>
          rw [hr2] at q
          exact fun v H' W' x u e r => q v H' W' x e r
        | ex _ _ _ => rw [hr2] at q; exact q.elim
        | bk _ _ => rw [hr2] at q; exact q.elim
        | ct _ _ => rw [hr2] at q; exact q.elim
        | bad => rw [hr2] at q; exact q.elim
    · exact q.elim
end
end A3

-- Sim8
set_option Elab.async false
set_option linter.all false
set_option maxRecDepth 100000
set_option maxHeartbeats 4000000
/-! Sim8: sorted({.. for .. for .. for ..}) of whole numbers. -/
namespace A3
open PySem PySem.Spec PyProof.Rows L2

/-! ### numbers, each once -/
theorem dist_snoc (us : List Int) (y : Int) : dist (us ++ [y]) = if y ∈ dist us then dist us else y :: dist us := by
  unfold dist
  rw [List.foldl_append]
  rfl
theorem mem_foldU (y : Int) : ∀ (is us : List Int), y ∈ is.foldl (fun us y => if y ∈ us then us else y :: us) us ↔ y ∈ us ∨ y ∈ is
  | [], us => by simp
  | i :: is, us => by
    rw [List.foldl_cons, mem_foldU y is]
    by_cases h : i ∈ us
    · rw [if_pos h]
      constructor
      · rintro (z | z)
        · exact .inl z
        · exact .inr (List.mem_cons_of_mem _ z)
      · rintro (z | z)
        · exact .inl z
        · rcases List.mem_cons.mp z with rfl | z
          · exact .inl h
          · exact .inr z
    · rw [if_neg h, List.mem_cons, List.mem_cons]
      constructor
      · rintro ((z | z) | z)
        · exact .inr (.inl z)
        · exact .inl z
        · exact .inr (.inr z)
      · rintro (z | z | z)
        · exact .inl (.inr z)
        · exact .inl (.inl z)
        · exact .inr z
theorem mem_dist {y : Int} {is : List Int} : y ∈ dist is ↔ y ∈ is := by
  unfold dist
  rw [mem_foldU]
  simp
theorem foldU_le : ∀ (is us : List Int), us.length ≤ (is.foldl (fun us y => if y ∈ us then us else y :: us) us).length
  | [], us => Nat.le_refl _
  | i :: is, us => by
    rw [List.foldl_cons]
    refine Nat.le_trans ?_ (foldU_le is _)
    split
    · exact Nat.le_refl _
    · exact Nat.le_succ _
theorem dist_le (us is : List Int) : (dist us).length ≤ (dist (us ++ is)).length := by
  unfold dist
  rw [List.foldl_append]
  exact foldU_le is _
theorem mem_insU {x y : Int} : ∀ {l : List Int}, y ∈ insU x l ↔ y = x ∨ y ∈ l
  | [] => by simp [insU]
  | z :: l => by
    unfold insU
    split
    · simp
    · split
      · rename_i h; subst h; simp
      · rw [List.mem_cons, mem_insU (l := l), List.mem_cons]
        constructor
        · rintro (h | h | h)
          · exact .inr (.inl h)
          · exact .inl h
          · exact .inr (.inr h)
        · rintro (h | h | h)
          · exact .inr (.inl h)
          · exact .inl h
          · exact .inr (.inr h)
theorem insU_sorted (x : Int) : ∀ (l : List Int), l.Pairwise (· < ·) → (insU x l).Pairwise (· < ·)
  | [], _ => by unfold insU; exact List.pairwise_singleton _ _
  | z :: l, h => by
    obtain ⟨h1, h2⟩ := List.pairwise_cons.mp h
    unfold insU
    split
    · rename_i hx
      refine List.pairwise_cons.mpr ⟨fun y hy => ?_, h⟩
      rcases List.mem_cons.mp hy with rfl | hy
      · exact hx
      · exact Int.lt_trans hx (h1 y hy)
    · split
      · exact h
      · rename_i a b
        refine List.pairwise_cons.mpr ⟨fun y hy => ?_, insU_sorted x l h2⟩
        rcases mem_insU.mp hy with rfl | hy
        · omega
        · exact h1 y hy
theorem sortU_sorted (is : List Int) : (sortU is).Pairwise (· < ·) := by
  unfold sortU
  induction is with
  | nil => exact List.Pairwise.nil
  | cons i is ih => exact insU_sorted i _ ih
theorem mem_sortU {y : Int} {is : List Int} : y ∈ sortU is ↔ y ∈ is := by
  unfold sortU
  induction is with
  | nil => simp
  | cons i is ih => rw [List.foldr_cons, mem_insU, ih, List.mem_cons]
theorem sorted_uniq : ∀ {a b : List Int}, a.Pairwise (· < ·) → b.Pairwise (· < ·) → (∀ k, k ∈ a ↔ k ∈ b) → a = b
  | [], [], _, _, _ => rfl
  | [], y :: b, _, _, h => absurd ((h y).mpr List.mem_cons_self) (by simp)
  | x :: a, [], _, _, h => absurd ((h x).mp List.mem_cons_self) (by simp)
  | x :: a, y :: b, ha, hb, h => by
    obtain ⟨a1, a2⟩ := List.pairwise_cons.mp ha
    obtain ⟨b1, b2⟩ := List.pairwise_cons.mp hb
    have e : x = y := by
      rcases List.mem_cons.mp ((h x).mp List.mem_cons_self) with e | e
      · exact e
      · rcases List.mem_cons.mp ((h y).mpr List.mem_cons_self) with e2 | e2
        · exact e2.symm
        · have := b1 x e
          have := a1 y e2
          omega
    subst e
    congr 1
    refine sorted_uniq a2 b2 fun k => ?_
    constructor
    · intro hk
      rcases List.mem_cons.mp ((h k).mp (List.mem_cons_of_mem _ hk)) with e | e
      · have := a1 k hk; omega
      · exact e
    · intro hk
      rcases List.mem_cons.mp ((h k).mpr (List.mem_cons_of_mem _ hk)) with e | e
      · have := b1 k hk; omega
      · exact e

/-- the set at D holds these -/
def AccS (w : World) (H : Hp) (D : Addr) (us : List Int) : Prop := ∃ S n, H D = some (SetO w D S n) ∧ (∀ k, S k = true ↔ k ∈ us) ∧ n = (dist us).length
theorem AccS.step {w : World} {D : Addr} {us : List Int} {S : Int → Bool} {n : Nat} {y : Int} {H : Hp} (h1 : ∀ k, S k = true ↔ k ∈ us) (h2 : n = (dist us).length) :
    AccS w (upd H D (SetO w D (fun j => S j || decide (j = y)) (if S y = true then n else n + 1))) D (us ++ [y]) := by
  refine ⟨_, _, upd_same, fun k => ?_, ?_⟩
  · rw [Bool.or_eq_true, h1, decide_eq_true_eq, List.mem_append, List.mem_singleton]
  · rw [dist_snoc]
    by_cases h : S y = true
    · rw [if_pos h, if_pos (mem_dist.mpr ((h1 y).mp h)), h2]
    · rw [if_neg h, if_neg (fun z => h ((h1 y).mpr (mem_dist.mp z))), h2]
      rfl

section
variable {C : Ctx}
theorem noOl_ok {ρ : A3.Env} (h : noOl ρ = true) {i : Nat} {ps : List PV} : ρ[i]? ≠ some (some (.ol ps)) := fun e => by
  have := List.all_eq_true.mp h _ (List.mem_of_getElem? e)
  cases this
theorem Slots.keep {W W' : Wd} {H H' : Hp} {σ : L2.St} {ρ : A3.Env} (s : Slots C.K C.fa W σ ρ H) (hn : noOl ρ = true) (u : Up W W') : Slots C.K C.fa W' σ ρ H' := by
  refine ⟨s.len, fun i c e => ?_, fun i j ps qs _ e _ => absurd e (noOl_ok hn)⟩
  obtain ⟨v, h1, h2⟩ := s.cell i c e
  refine ⟨v, h1, ?_⟩
  cases c with
  | val p => exact Rep.up u h2
  | ol ps => exact absurd e (noOl_ok hn)
  | od _ => exact h2.elim
mutual
theorem bind_noOl : ∀ {t : Tg} {p : PV} {ρ ρ' : A3.Env}, t.bind p ρ = some ρ' → noOl ρ = true → noOl ρ' = true
  | .nm i, p, ρ, ρ', h, hn => by
    unfold Tg.bind at h
    cases h
    unfold setS noOl
    rw [List.all_eq_true]
    intro c hc
    rcases List.mem_or_eq_of_mem_set hc with hc | rfl
    · exact List.all_eq_true.mp hn c hc
    · rfl
  | .tp ts, p, ρ, ρ', h, hn => by
    unfold Tg.bind at h
    cases p with
    | tup xs => exact binds_noOl h hn
    | _ => cases h
theorem binds_noOl : ∀ {ts : List Tg} {qs : List PV} {ρ ρ' : A3.Env}, Tg.binds ts qs ρ = some ρ' → noOl ρ = true → noOl ρ' = true
  | [], [], ρ, ρ', h, hn => by unfold Tg.binds at h; cases h; exact hn
  | [], _ :: _, _, _, h, _ => by unfold Tg.binds at h; cases h
  | _ :: _, [], _, _, h, _ => by unfold Tg.binds at h; cases h
  | t :: ts, q :: qs, ρ, ρ', h, hn => by
    unfold Tg.binds at h
    obtain ⟨ρ1, h1, h2⟩ := Option.bind_eq_some_iff.mp h
    exact binds_noOl h2 (bind_noOl h1 hn)
end
theorem wipe_noOl {ρ : A3.Env} (h : noOl ρ = true) : ∀ vs : List Nat, noOl (wipeR ρ vs) = true
  | [] => h
  | v :: vs => by
    have ih := wipe_noOl h vs
    unfold wipeR noOl
    rw [List.all_eq_true]
    intro c hc
    rcases List.mem_or_eq_of_mem_set hc with hc | rfl
    · exact List.all_eq_true.mp ih c hc
    · rfl
def NoneAt (σ : L2.St) (js : List Nat) : Prop := ∀ j ∈ js, ∀ v, σ[j]? ≠ some (some v)

/-- what stays and grows through the block: the state, what is known since its start, the set -/
structure LP (B : Cx) (C : Ctx) (Ho : Hp) (Wo : Wd) (D : Addr) (pins : List (Addr × Obj)) (σ : L2.St) (H : Hp) (W : Wd) (us : List Int) (s : Shared) : Prop where
  inv : Inv B pins σ H s
  ext : Ext Ho Wo H W
  own : W.F D = none
  acc : AccS B.w H D us
  nw : Ho D = none
/-- a body that adds what g tells -/
def BodyOk (B : Cx) (C : Ctx) (Ho : Hp) (Wo : Wd) (D : Addr) (fr : List Nat) (body : Sem Unit) (g : A3.Env → Store → A3.R (List PV)) : Prop :=
  ∀ (pins : List (Addr × Obj)) (s : Shared) (σ : L2.St) (ρ : A3.Env) (H : Hp) (W : Wd) (us ys : List Int) (S' : Store), LP B C Ho Wo D pins σ H W us s → Slots C.K C.fa W σ ρ H → noOl ρ = true → NoneAt σ fr → g ρ W.S = .ok (ys.map .int) S' → (dist (us ++ ys)).length < 64 →
    wpAny (model B.prog B.w) B.A body (fun _ s' => ∃ H' W', LP B C Ho Wo D pins σ H' W' (us ++ ys) s' ∧ Up W W' ∧ W'.S = S') (fun _ _ => False) s
theorem map_int_split : ∀ {as bs : List PV} {ys : List Int}, as ++ bs = ys.map PV.int → ∃ y1 y2, ys = y1 ++ y2 ∧ as = y1.map .int ∧ bs = y2.map .int
  | [], bs, ys, h => ⟨[], ys, rfl, rfl, h⟩
  | a :: as, bs, ys, h => by
    cases ys with
    | nil => cases h
    | cons y ys =>
      rw [List.map_cons, List.cons_append] at h
      obtain ⟨h1, h2⟩ := List.cons.inj h
      obtain ⟨y1, y2, e1, e2, e3⟩ := map_int_split h2
      exact ⟨y :: y1, y2, by rw [e1]; rfl, by rw [e2, h1]; rfl, e3⟩
/-- THE LOOP of one clause -/
theorem lvl {B : Cx} {Ho : Hp} {Wo : Wd} {D : Addr} {tg elt : Expr} {gs : List Comprehension} {scope : Scope} {pos : Pos} {t : Tg} {g : A3.Env → Store → A3.R (List PV)} {it : Addr} {fp : List Addr} {tn : Nat → Heap → Prop} {J : L2.It} {k : Nat} {body : Sem Unit} {pos1 : Pos} {fr : List Nat} {R : Result → Shared → Prop}
    {pins : List (Addr × Obj)} {σ : L2.St} {ρ : A3.Env} {H : Hp} {W : Wd} {us ys : List Int} {S' : Store} {xs : List PV} {s : Shared}
    (hc : B.calm = true) (hxe : B.xe = fun _ _ => False)
    (heq : compTurn (.SetComp elt gs scope pos) k (.ref it) (.ref D) B.env = (do
      standAt pos1
      match ← pyNext (.ref it) with
      | none => pure (.done .next)
      | some v =>
        letOwnedTupleGo tg (.ref it) v
        assign tg B.env v
        let mut ok := true
        for c in ([] : List Expr) do
          if ok then ok ← isTrue c B.env (eval c B.env)
        if ok then
          body
        again (.compLoop (.SetComp elt gs scope pos) k (.ref it) (.ref D) B.env)))
    (T : Turn B.prog B.w B.K tg J fp it tn) (hstat : ∀ {σ' : L2.St} {H' : Hp} {s' : Shared}, Inv B pins σ' H' s' → (∀ b ∈ fp, H' b = none) → ∀ b ∈ fp, FpOk B pins H' b)
    (pg : PG B tg (tG C t)) (jok : ItOk C W J xs) (hno : noOl ρ = true) (hna : NoneAt σ (t.slots ++ fr)) (hdj : ∀ i ∈ t.slots, i ∉ fr) (hb : BodyOk B C Ho Wo D fr body g)
    (hend : ∀ s' H' W', LP B C Ho Wo D pins σ H' W' (us ++ ys) s' → Up W W' → W'.S = S' → R (.ok .next) s')
    (lp : LP B C Ho Wo D pins σ H W us s) (sl : Slots C.K C.fa W σ ρ H) (st : tn 0 s.heap) (nf : ∀ b ∈ fp, H b = none) (hg : compL (fStep t g ρ) xs W.S = .ok (ys.map .int) S') (h64 : (dist (us ++ ys)).length < 64) :
    codeAny (model B.prog B.w) B.A (.compLoop (.SetComp elt gs scope pos) k (.ref it) (.ref D) B.env) R s := by
  refine codeAny_loop rfl (fun n s' => ∃ i H' W' pre rest, i ≤ xs.length ∧ n = xs.length - i ∧ LP B C Ho Wo D pins σ H' W' (us ++ pre) s' ∧ Up W W' ∧ tn i s'.heap ∧ (∀ b ∈ fp, H' b = none) ∧ ys = pre ++ rest ∧ compL (fStep t g ρ) (xs.drop i) W'.S = .ok (rest.map .int) S') ?_ xs.length
    ⟨0, H, W, [], ys, Nat.zero_le _, rfl, by rw [List.append_nil]; exact lp, .refl W, st, nf, rfl, hg⟩
  rintro n s1 ⟨i, H1, W1, pre, rest, hi, rfl, lp1, u1, st1, nf1, e1, c1⟩
  show wpAny _ B.A ((compTurn (.SetComp elt gs scope pos) k (.ref it) (.ref D) B.env).onRaise (fun x => do noteFrame x B.env; theTreesLotGoes x)) _ _ s1
  refine wpAny_noted ?_
  rw [heq]
  refine wpAny_bind (wpAny_standAt (wpAny_bind ?_))
  by_cases hlt : i < xs.length
  · obtain ⟨p, hp⟩ : ∃ p, xs[i]? = some p := ⟨_, List.getElem?_eq_getElem hlt⟩
    obtain ⟨go, yl⟩ := jok.go W1 H1 u1 lp1.ext.wf i p hp
    have hd : xs.drop i = p :: xs.drop (i + 1) := by
      rw [List.drop_eq_getElem_cons hlt]
      rw [List.getElem?_eq_getElem hlt] at hp
      rw [Option.some.inj hp]
    rw [hd] at c1
    obtain ⟨as, S1, ws, c3, c4, e3⟩ := compL_cons c1
    obtain ⟨y1, y2, rfl, rfl, rfl⟩ := map_int_split e3.symm
    refine thnF (T.item B rfl rfl rfl hc i pins s1 σ H1 (fun _ _ => False) lp1.inv (hstat lp1.inv nf1) st1 go) fun r s2 ⟨u, hr, h2⟩ => ?_
    subst hr
    refine wpAny_bind (thnF h2 fun _ s3 ⟨x, H3, I3, r3, yd, st3, nf3⟩ => ?_)
    obtain ⟨W3, x3, s3e, rp⟩ := yl x H3 yd
    have I3' := I3.pinned (hstat I3 nf3) (T.obj _ _ st3)
    unfold fStep at c3
    split at c3
    · cases c3
    · rename_i ρ1 hbd
      have X3 := lp1.ext.trans x3
      obtain ⟨S0, n0, hD0, m0, k0⟩ := lp1.acc
      have hD3 := x3.hs _ _ hD0
      have f3 := x3.own lp1.own hD0
      have u3 := u1.trans x3.up
      have pgr := pg.run _ s3 σ H3 x u (fun σ' H' => H' = H3 ∧ Slots C.K C.fa W3 σ' ρ1 H3 ∧ ButAt t.slots σ σ') I3' r3 ⟨W3, ρ, p, ρ1, X3.wf, sl.keep hno u3, rp, hbd, fun σ' s' b => ⟨rfl, s', b⟩⟩
      rw [hxe] at pgr
      refine wpAny_bind (thnF pgr fun _ s4 ⟨σ4, H4, I4, e4, sl4, b4⟩ => ?_)
      subst e4
      refine wpAny_bind (wpAny_tests_nil (wpAny_bind ?_))
      have na4 : NoneAt σ4 fr := fun j hj v => by
        rw [b4.2 j fun z => hdj j z hj]
        exact hna j (List.mem_append_right _ hj) v
      have hb1 : (dist ((us ++ pre) ++ y1)).length < 64 := by
        refine Nat.lt_of_le_of_lt (dist_le _ y2) ?_
        rw [e1] at h64
        simpa using h64
      have run := hb _ s4 σ4 ρ1 H4 W3 (us ++ pre) y1 S1 ⟨I4, X3, f3, ⟨S0, n0, hD3, m0, k0⟩, lp.nw⟩ sl4 (bind_noOl hbd hno) na4 (by rw [s3e]; exact c3) hb1
      refine thnF run fun _ s5 ⟨H5, W5, lp5, u5, e5⟩ => wpAny_pure ⟨rfl, xs.length - (i + 1), by omega, i + 1, H5, W5, pre ++ y1, y2, hlt, rfl, ?_, u3.trans u5, ?_, ?_, by rw [e1]; simp, by rw [e5]; exact c4⟩
      · rw [← List.append_assoc]
        refine ⟨(lp5.inv.unpinned).weak b4.1.symm fun j v e => ?_, lp5.ext, lp5.own, lp5.acc, lp.nw⟩
        have hj : j ∉ t.slots := fun z => hna j (List.mem_append_left _ z) v e
        rw [b4.2 j hj]; exact e
      · exact T.keep _ _ _ st3 fun b hb o e => (lp5.inv.pin (b, o) (List.mem_append_right _ (List.mem_append_right _ (mem_pinsAt hb e)))).1
      · intro b hb
        obtain ⟨o, e, d⟩ := T.obj _ _ st3 b hb
        exact (lp5.inv.pin (b, o) (List.mem_append_right _ (List.mem_append_right _ (mem_pinsAt hb e)))).2.1
  · have ei : i = xs.length := by omega
    subst ei
    rw [List.drop_length] at c1
    obtain ⟨e2, e3⟩ : rest = [] ∧ W1.S = S' := by
      have c1 : A3.R.ok ([] : List PV) W1.S = .ok (rest.map .int) S' := c1
      cases rest with
      | nil => cases c1; exact ⟨rfl, rfl⟩
      | cons y r => cases c1
    subst e2
    refine thnF (T.done B rfl rfl rfl hc _ pins s1 σ H1 (fun _ _ => False) lp1.inv (hstat lp1.inv nf1) st1 (jok.stop W1 H1 u1 lp1.ext.wf)) fun r s2 ⟨hr, I2⟩ => ?_
    subst hr
    refine wpAny_pure (hend s2 H1 W1 ⟨I2, lp1.ext, lp1.own, ?_, lp.nw⟩ u1 e3)
    rw [e1, List.append_nil]
    exact lp1.acc

/-! ### the bodies -/
theorem body_in {B : Cx} {Ho : Hp} {Wo : Wd} {D : Addr} {elt : Expr} {el : E} (hxe : B.xe = fun _ _ => False) (he : PE B elt (tE C el)) :
    BodyOk B C Ho Wo D [] (do let v ← eval elt B.env; standAt elt.pos; let _ ← call (.builtin "set.add") [.ref D, v]) (fun ρ S => (el.ev C.cf ρ S).bind fun y S => .ok [y] S) := by
  intro pins s σ ρ H W us ys S' lp sl hno _ hg h64
  obtain ⟨y, S1, h1, h2⟩ := R.bind_ok hg
  obtain ⟨j, rfl, rfl, rfl⟩ : ∃ j, ys = [j] ∧ y = .int j ∧ S1 = S' := by
    cases ys with
    | nil => cases h2
    | cons z zs =>
      cases zs with
      | nil => cases h2; exact ⟨z, rfl, rfl, rfl⟩
      | cons _ _ => cases h2
  have run := he.run pins s σ H (fun v H1 => ∃ W1, v = .int j ∧ Ext H W H1 W1 ∧ W1.S = S1) lp.inv ⟨W, ρ, lp.ext.wf, sl, by rw [h1]; exact fun v H' W' x e r => ⟨W', r.int_inv, x, e⟩⟩
  rw [hxe] at run
  refine wpAny_bind (thnF run fun v s1 ⟨x, H1, I1, r1, W1, ex, x1, e1⟩ => ?_)
  subst ex
  obtain ⟨tk, rfl⟩ := r1
  refine wpAny_bind (wpAny_standAt (wpAny_bind ?_))
  obtain ⟨S0, n0, hD0, m0, k0⟩ := lp.acc
  have hD1 := x1.hs _ _ hD0
  have f1 := x1.own lp.own hD0
  have room : n0 + 1 < scanBound := by
    have a := dist_le us [j]
    have : scanBound = 4096 := rfl
    omega
  have R1 : SetR B.w s1.heap D S0 n0 := (I1.hok D _ hD1).1
  refine setR_add R1 room fun h' sb new => wpAny_pure ?_
  have hex : ∃ u, h'.get? D = some u := by
    have ⟨o, _, _, _, ho, _⟩ := new
    exact ⟨o, ho⟩
  have I2 := I1.write (e := D) (t' := s1.toks + 1) (by rw [hD1]; trivial) (.inl rfl) (fun b u hb hu => (sb.2 b hb).trans hu) hex (setO_new new)
  exact ⟨_, W1, ⟨I2, (lp.ext.trans x1).write lp.nw f1, f1, AccS.step m0 k0, lp.nw⟩, x1.up, e1⟩
/-- the second, the third clause's start -/
theorem compStartS {prog : Program} {w : World} {A : Around} {R : Result → Shared → Prop} {s : Shared} {elt t0 i0 t1 i1 t2 i2 : Expr} {scope : Scope} {pos : Pos} {it acc : Value} {env : PySem.Env} {k : Nat} (hk : k = 1 ∨ k = 2)
    (h0 : codeAny (model prog w) A (.compLoop (.SetComp elt [⟨t0, i0, [], 0⟩, ⟨t1, i1, [], 0⟩, ⟨t2, i2, [], 0⟩] scope pos) k it acc env) R s)
    (h : wpAny (model prog w) A (pyIter it) (fun it' s' => codeAny (model prog w) A (.compLoop (.SetComp elt [⟨t0, i0, [], 0⟩, ⟨t1, i1, [], 0⟩, ⟨t2, i2, [], 0⟩] scope pos) k it' acc env) R s')
      (notedBy (model prog w) A env fun x s' => R (.error x) s') s) :
    codeAny (model prog w) A (.compStart (.SetComp elt [⟨t0, i0, [], 0⟩, ⟨t1, i1, [], 0⟩, ⟨t2, i2, [], 0⟩] scope pos) k it acc env) R s := by
  rcases hk with rfl | rfl
  · refine codeAny_of_tree ?_
    show wpAny _ _ ((compStart (.SetComp elt [⟨t0, i0, [], 0⟩, ⟨t1, i1, [], 0⟩, ⟨t2, i2, [], 0⟩] scope pos) 1 it acc env).onRaise (fun x => do noteFrame x env; standAt theWindowsPlace)) _ _ s
    refine wpAny_notedAt ?_
    unfold compStart
    show wpAny _ _ (ask >>= _) _ _ s
    refine wpAny_bind (wpAny_askSetting (wpAny_ite ?_))
    split
    · first
        | exact wpAny_bind (wpAny_pure (wpAny_pure (And.intro rfl h0)))
        | exact wpAny_pure (And.intro rfl h0)
    · first
        | exact wpAny_bind (wpAny_rule (wpAny_bind (wpAny_standAt (wpAny_bind (wpAny_mono h (fun it' s' h' => wpAny_pure (And.intro rfl h')) fun _ _ x => x)))))
        | (refine wpAny_bind (wpAny_rule ?_); show wpAny _ _ (standAt i1.pos >>= _) _ _ s; exact wpAny_bind (wpAny_standAt (wpAny_bind (wpAny_mono h (fun it' s' h' => wpAny_pure (And.intro rfl h')) fun _ _ x => x))))
  · refine codeAny_of_tree ?_
    show wpAny _ _ ((compStart (.SetComp elt [⟨t0, i0, [], 0⟩, ⟨t1, i1, [], 0⟩, ⟨t2, i2, [], 0⟩] scope pos) 2 it acc env).onRaise (fun x => do noteFrame x env; standAt theWindowsPlace)) _ _ s
    refine wpAny_notedAt ?_
    unfold compStart
    show wpAny _ _ (ask >>= _) _ _ s
    refine wpAny_bind (wpAny_askSetting (wpAny_ite ?_))
    split
    · first
        | exact wpAny_bind (wpAny_pure (wpAny_pure (And.intro rfl h0)))
        | exact wpAny_pure (And.intro rfl h0)
    · first
        | exact wpAny_bind (wpAny_rule (wpAny_bind (wpAny_standAt (wpAny_bind (wpAny_mono h (fun it' s' h' => wpAny_pure (And.intro rfl h')) fun _ _ x => x)))))
        | (refine wpAny_bind (wpAny_rule ?_); show wpAny _ _ (standAt i2.pos >>= _) _ _ s; exact wpAny_bind (wpAny_standAt (wpAny_bind (wpAny_mono h (fun it' s' h' => wpAny_pure (And.intro rfl h')) fun _ _ x => x))))
/-- the body of an outer clause: the next clause's loop -/
theorem body_out {B : Cx} {Ho : Hp} {Wo : Wd} {D : Addr} {elt t0 i0 t1 i1 t2 i2 tg iter : Expr} {scope : Scope} {pos pos1 : Pos} {t : Tg} {mi : A3.It} {fr : List Nat} {g : A3.Env → Store → A3.R (List PV)} {k : Nat} {body : Sem Unit} (hk : k = 1 ∨ k = 2)
    (hc : B.calm = true) (hxe : B.xe = fun _ _ => False)
    (heq : ∀ it : Addr, compTurn (.SetComp elt [⟨t0, i0, [], 0⟩, ⟨t1, i1, [], 0⟩, ⟨t2, i2, [], 0⟩] scope pos) k (.ref it) (.ref D) B.env = (do
      standAt pos1
      match ← pyNext (.ref it) with
      | none => pure (.done .next)
      | some v =>
        letOwnedTupleGo tg (.ref it) v
        assign tg B.env v
        let mut ok := true
        for c in ([] : List Expr) do
          if ok then ok ← isTrue c B.env (eval c B.env)
        if ok then
          body
        again (.compLoop (.SetComp elt [⟨t0, i0, [], 0⟩, ⟨t1, i1, [], 0⟩, ⟨t2, i2, [], 0⟩] scope pos) k (.ref it) (.ref D) B.env)))
    (hi : PI B tg iter (tI C mi)) (hs : ∀ x, foldedSetIterable iter B.env x = pure x) (pg : PG B tg (tG C t)) (hdj : ∀ i ∈ t.slots, i ∉ fr) (hb : BodyOk B C Ho Wo D fr body g) :
    BodyOk B C Ho Wo D (t.slots ++ fr) (do
      let x ← eval iter B.env
      standAt iter.pos
      let x ← foldedSetIterable iter B.env x
      let _ ← runOwn (.compStart (.SetComp elt [⟨t0, i0, [], 0⟩, ⟨t1, i1, [], 0⟩, ⟨t2, i2, [], 0⟩] scope pos) k (← holding [x] (pyIter x)) (.ref D) B.env) B.env)
      (fun ρ S => (mi.ev C.cf ρ S).bind fun xs S => compL (fStep t g ρ) xs S) := by
  intro pins s σ ρ H W us ys S' lp sl hno hna hg h64
  obtain ⟨xs, S1, h1, h2⟩ := R.bind_ok hg
  have run := hi.run pins s σ H (fun J H1 => ∃ W1, ItOk C W1 J xs ∧ Ext H W H1 W1 ∧ W1.S = S1) lp.inv ⟨W, ρ, lp.ext.wf, sl, by rw [h1]; exact fun J H' W' x e j => ⟨W', j, x, e⟩⟩
  rw [hxe] at run
  refine wpAny_bind (thnF run fun xv s1 hx => ?_)
  refine wpAny_bind (wpAny_standAt (wpAny_bind (wpAny_of_eq (hs xv) (wpAny_bind (wpAny_holding (thnF hx fun itv s2 h2' => ?_))))))
  obtain ⟨it, fp, tn, J, H2, e, I2, T, st2, f2, W1, jok, x1, e1⟩ := h2'
  subst e
  obtain ⟨S0, n0, hD0, m0, k0⟩ := lp.acc
  have hD1 := x1.hs _ _ hD0
  have f1 := x1.own lp.own hD0
  have loop := lvl (R := fun r s' => match r with
      | .ok _ => ∃ H' W', LP B C Ho Wo D pins σ H' W' (us ++ ys) s' ∧ Up W W' ∧ W'.S = S'
      | .error _ => False) hc hxe (heq it) T (fun _ hn b hb => ⟨hn b hb, (f2 b hb).2⟩) pg jok hno hna hdj hb (fun s' H' W' lp' u' e' => ⟨H', W', lp', x1.up.trans u', e'⟩) ⟨I2, lp.ext.trans x1, f1, ⟨S0, n0, hD1, m0, k0⟩, lp.nw⟩ (sl.keep hno x1.up) st2 (fun b hb => (f2 b hb).1) (by rw [e1]; exact h2) h64
  refine wpAny_bind (wpAny_runOwn ?_)
  rw [Around.mark_none]
  refine codeAny_mono (compStartS hk loop (T.self B.A 0 _ _ _ st2 loop)) fun r s' hr => ?_
  cases r with
  | ok f => exact wpAny_pure hr
  | error e => exact hr.elim

/-! ### the comprehension -/
theorem turnS_out (elt t0 i0 t1 i1 t2 i2 : Expr) (scope : Scope) (pos : Pos) (it acc : Value) (env : PySem.Env) :
    compTurn (.SetComp elt [⟨t0, i0, [], 0⟩, ⟨t1, i1, [], 0⟩, ⟨t2, i2, [], 0⟩] scope pos) 0 it acc env = (do
      standAt i0.pos
      match ← pyNext it with
      | none => pure (.done .next)
      | some v =>
        letOwnedTupleGo t0 it v
        assign t0 env v
        let mut ok := true
        for c in ([] : List Expr) do
          if ok then ok ← isTrue c env (eval c env)
        if ok then
          (do
            let x ← eval i1 env
            standAt i1.pos
            let x ← foldedSetIterable i1 env x
            let _ ← runOwn (.compStart (.SetComp elt [⟨t0, i0, [], 0⟩, ⟨t1, i1, [], 0⟩, ⟨t2, i2, [], 0⟩] scope pos) 1 (← holding [x] (pyIter x)) acc env) env)
        again (.compLoop (.SetComp elt [⟨t0, i0, [], 0⟩, ⟨t1, i1, [], 0⟩, ⟨t2, i2, [], 0⟩] scope pos) 0 it acc env)) := by
  have e : compTurn (.SetComp elt [⟨t0, i0, [], 0⟩, ⟨t1, i1, [], 0⟩, ⟨t2, i2, [], 0⟩] scope pos) 0 it acc env = (do
      standAt i0.pos
      match ← pyNext it with
      | none => pure (.done .next)
      | some v =>
        letOwnedTupleGo t0 it v
        assign t0 env v
        let mut ok := true
        for c in ([] : List Expr) do
          if ok then ok ← isTrue c env (eval c env)
        if ok then
          let x ← eval i1 env
          standAt i1.pos
          let x ← foldedSetIterable i1 env x
          let _ ← runOwn (.compStart (.SetComp elt [⟨t0, i0, [], 0⟩, ⟨t1, i1, [], 0⟩, ⟨t2, i2, [], 0⟩] scope pos) 1 (← holding [x] (pyIter x)) acc env) env
        again (.compLoop (.SetComp elt [⟨t0, i0, [], 0⟩, ⟨t1, i1, [], 0⟩, ⟨t2, i2, [], 0⟩] scope pos) 0 it acc env)) := by rfl
  rw [e]
  simp only [bind_assoc, pure_bind]
theorem turnS_mid (elt t0 i0 t1 i1 t2 i2 : Expr) (scope : Scope) (pos : Pos) (it acc : Value) (env : PySem.Env) :
    compTurn (.SetComp elt [⟨t0, i0, [], 0⟩, ⟨t1, i1, [], 0⟩, ⟨t2, i2, [], 0⟩] scope pos) 1 it acc env = (do
      standAt i1.pos
      match ← pyNext it with
      | none => pure (.done .next)
      | some v =>
        letOwnedTupleGo t1 it v
        assign t1 env v
        let mut ok := true
        for c in ([] : List Expr) do
          if ok then ok ← isTrue c env (eval c env)
        if ok then
          (do
            let x ← eval i2 env
            standAt i2.pos
            let x ← foldedSetIterable i2 env x
            let _ ← runOwn (.compStart (.SetComp elt [⟨t0, i0, [], 0⟩, ⟨t1, i1, [], 0⟩, ⟨t2, i2, [], 0⟩] scope pos) 2 (← holding [x] (pyIter x)) acc env) env)
        again (.compLoop (.SetComp elt [⟨t0, i0, [], 0⟩, ⟨t1, i1, [], 0⟩, ⟨t2, i2, [], 0⟩] scope pos) 1 it acc env)) := by
  have e : compTurn (.SetComp elt [⟨t0, i0, [], 0⟩, ⟨t1, i1, [], 0⟩, ⟨t2, i2, [], 0⟩] scope pos) 1 it acc env = (do
      standAt i1.pos
      match ← pyNext it with
      | none => pure (.done .next)
      | some v =>
        letOwnedTupleGo t1 it v
        assign t1 env v
        let mut ok := true
        for c in ([] : List Expr) do
          if ok then ok ← isTrue c env (eval c env)
        if ok then
          let x ← eval i2 env
          standAt i2.pos
          let x ← foldedSetIterable i2 env x
          let _ ← runOwn (.compStart (.SetComp elt [⟨t0, i0, [], 0⟩, ⟨t1, i1, [], 0⟩, ⟨t2, i2, [], 0⟩] scope pos) 2 (← holding [x] (pyIter x)) acc env) env
        again (.compLoop (.SetComp elt [⟨t0, i0, [], 0⟩, ⟨t1, i1, [], 0⟩, ⟨t2, i2, [], 0⟩] scope pos) 1 it acc env)) := by rfl
  rw [e]
  simp only [bind_assoc, pure_bind]
def g3 (cf : CallF) (el : E) : A3.Env → Store → A3.R (List PV) := fun ρ S => (el.ev cf ρ S).bind fun y S => .ok [y] S
def g2 (cf : CallF) (t3 : Tg) (i3 : A3.It) (el : E) : A3.Env → Store → A3.R (List PV) := fun ρ S => (i3.ev cf ρ S).bind fun xs S => compL (fStep t3 (g3 cf el) ρ) xs S
def g1 (cf : CallF) (t2 : Tg) (i2 : A3.It) (t3 : Tg) (i3 : A3.It) (el : E) : A3.Env → Store → A3.R (List PV) := fun ρ S => (i2.ev cf ρ S).bind fun xs S => compL (fStep t2 (g2 cf t3 i3 el) ρ) xs S
/-- a set of whole numbers is made -/
def tSet3 (C : Ctx) (w : World) (vs : List Nat) (t1 : Tg) (i1 : A3.It) (t2 : Tg) (i2 : A3.It) (t3 : Tg) (i3 : A3.It) (el : E) : TE := fun σ H Q => ∃ W ρ, Wf W H ∧ Slots C.K C.fa W σ ρ H ∧ noOl ρ = true ∧
  After (fun W' (J : L2.It) (xs : List PV) => ItOk C W' J xs) W H (i1.ev C.cf ρ W.S) fun J H1 => ∃ xs W1 ys S', ItOk C W1 J xs ∧ Ext H W H1 W1 ∧ compL (fStep t1 (g1 C.cf t2 i2 t3 i3 el) (wipeR ρ vs)) xs W1.S = .ok (ys.map .int) S' ∧ (dist ys).length < 64 ∧
    ∀ D H' W', H1 D = none → Ext H1 W1 H' W' → W'.S = S' → W'.F D = none → AccS w H' D ys → Q (.ref D) H'
variable {X : Cx}
theorem pe_set3 {elt tg1 iter1 tg2 iter2 tg3 iter3 : Expr} {scope : Scope} {own : List (PySem.Str × Nat)} {pos : Pos} {t1 t2 t3 : Tg} {i1 i2 i3 : A3.It} {el : E}
    (hc : X.calm = true) (hN : X.N.Nodup) (hi : PI X tg1 iter1 (tI C i1)) (ok : BlkOk X.N X.env.scope scope own) (hv : ∀ i ∈ t1.slots ++ (t2.slots ++ (t3.slots ++ [])), i ∈ own.map (·.2)) (d1 : ∀ i ∈ t1.slots, i ∉ t2.slots ++ (t3.slots ++ [])) (d2 : ∀ i ∈ t2.slots, i ∉ t3.slots ++ [])
    (hg1 : ∀ (s : Shared) (H : Hp) (D : Addr) (cl : List (PySem.Str × Addr)) (fp : List Addr), PG (X.blk s H scope (compEnvC scope cl D X.env) fp) tg1 (tG C t1)) (hg2 : ∀ (s : Shared) (H : Hp) (D : Addr) (cl : List (PySem.Str × Addr)) (fp : List Addr), PG (X.blk s H scope (compEnvC scope cl D X.env) fp) tg2 (tG C t2))
    (hg3 : ∀ (s : Shared) (H : Hp) (D : Addr) (cl : List (PySem.Str × Addr)) (fp : List Addr), PG (X.blk s H scope (compEnvC scope cl D X.env) fp) tg3 (tG C t3)) (hi2 : ∀ (s : Shared) (H : Hp) (D : Addr) (cl : List (PySem.Str × Addr)) (fp : List Addr), PI (X.blk s H scope (compEnvC scope cl D X.env) fp) tg2 iter2 (tI C i2))
    (hi3 : ∀ (s : Shared) (H : Hp) (D : Addr) (cl : List (PySem.Str × Addr)) (fp : List Addr), PI (X.blk s H scope (compEnvC scope cl D X.env) fp) tg3 iter3 (tI C i3)) (he : ∀ (s : Shared) (H : Hp) (D : Addr) (cl : List (PySem.Str × Addr)) (fp : List Addr), PE (X.blk s H scope (compEnvC scope cl D X.env) fp) elt (tE C el))
    (hs1 : ∀ x, foldedSetIterable iter1 X.env x = pure x) (hs2 : ∀ env x, foldedSetIterable iter2 env x = pure x) (hs3 : ∀ env x, foldedSetIterable iter3 env x = pure x) :
    PE X (.SetComp elt [⟨tg1, iter1, [], 0⟩, ⟨tg2, iter2, [], 0⟩, ⟨tg3, iter3, [], 0⟩] scope pos) (tSet3 C X.w (own.map (·.2)) t1 i1 t2 i2 t3 i3 el) := by
  refine ⟨fun pins s σ H Q I h => ?_⟩
  rw [PpSet.eval_SetComp]
  have hfree : ∀ y ∈ scope.names, y.2 = .free → ∃ c, X.env.cells.lookup y.1 = some c := fun y hy e => by
    rcases ok.free y hy e with k | k
    · exact I.ok.has _ (.inl k)
    · exact I.ok.has _ (.inr k)
  obtain ⟨W, ρ, wf, sl, hno, q0⟩ := h
  refine wpAny_comprehension_free (use := none) rfl hs1 (closure_ok hfree) ok.kind (fun y hy e => by rw [ok.uniq y hy, e])
    (thn (hi.run pins s σ H (fun J H1 => ∃ xs W1 ys S', ItOk C W1 J xs ∧ Ext H W H1 W1 ∧ compL (fStep t1 (g1 C.cf t2 i2 t3 i3 el) (wipeR ρ (own.map (·.2)))) xs W1.S = .ok (ys.map .int) S' ∧ (dist ys).length < 64 ∧
      ∀ D H' W', H1 D = none → Ext H1 W1 H' W' → W'.S = S' → W'.F D = none → AccS X.w H' D ys → Q (.ref D) H') I ⟨W, ρ, wf, sl, q0⟩) fun xv s1 hx => thn hx fun itv s2 h2 => ?_)
  obtain ⟨it, fp, tn, J, H2, e, I2, T, st2, f2, xs, W1, ys, S', jok, x1, hg, h64, q⟩ := h2
  subst e
  refine PpSet.newSet_ok (newEnv_comp ?_)
  generalize hD : s2.heap.objs.size = D
  have hDn : H2 D = none := I2.hok.fresh (Nat.le_of_eq hD)
  generalize hs3e : ({ s2 with heap := s2.heap.push { cls := .type "set", dict := none, data := .set #[] 0 (.fresh 0 0 (!X.w.params.followText "set-order")) } } : Shared) = s3
  have I3 : Inv X pins σ (upd H2 D (SetO X.w D (fun _ => false) 0)) s3 := by
    rw [← hs3e]
    refine I2.laid (t' := s2.toks) (fun b o e => Heap.get?_push_of_some _ e) (Nat.le_of_eq hD) ?_
    rw [← hD]
    exact setO_new (setR_fresh X.w)
  have h3 : s3.heap = s2.heap.push { cls := .type "set", dict := none, data := .set #[] 0 (.fresh 0 0 (!X.w.params.followText "set-order")) } := by rw [← hs3e]
  have sz : ∀ b ∈ fp, b < s2.heap.objs.size := fun b hb => by
    obtain ⟨o, e, _⟩ := T.obj _ _ st2 b hb
    exact Heap.lt_size e
  have f3 : ∀ b ∈ fp, FpOk X pins (upd H2 D (SetO X.w D (fun _ => false) 0)) b ∧ b < s3.heap.objs.size := fun b hb => by
    have hlt := sz b hb
    refine ⟨⟨?_, (f2 b hb).2⟩, by rw [h3, Heap.size_push]; exact Nat.lt_succ_of_lt hlt⟩
    rw [upd_ne (by rw [← hD]; exact Nat.ne_of_lt hlt)]
    exact (f2 b hb).1
  have st3 : tn 0 s3.heap := T.keep _ _ _ st2 fun b _ o e => by rw [h3]; exact Heap.get?_push_of_some _ e
  have I4 := block_start I3 ok hN f3
  have pg1 := hg1 s3 (upd H2 D (SetO X.w D (fun _ => false) 0)) s3.heap.objs.size (cellsFrom (s3.heap.objs.size + 1) scope.names (cloFrom X.env.cells scope.names [])) fp
  have pg2 := hg2 s3 (upd H2 D (SetO X.w D (fun _ => false) 0)) s3.heap.objs.size (cellsFrom (s3.heap.objs.size + 1) scope.names (cloFrom X.env.cells scope.names [])) fp
  have pg3 := hg3 s3 (upd H2 D (SetO X.w D (fun _ => false) 0)) s3.heap.objs.size (cellsFrom (s3.heap.objs.size + 1) scope.names (cloFrom X.env.cells scope.names [])) fp
  have pi2 := hi2 s3 (upd H2 D (SetO X.w D (fun _ => false) 0)) s3.heap.objs.size (cellsFrom (s3.heap.objs.size + 1) scope.names (cloFrom X.env.cells scope.names [])) fp
  have pi3 := hi3 s3 (upd H2 D (SetO X.w D (fun _ => false) 0)) s3.heap.objs.size (cellsFrom (s3.heap.objs.size + 1) scope.names (cloFrom X.env.cells scope.names [])) fp
  have pe := he s3 (upd H2 D (SetO X.w D (fun _ => false) 0)) s3.heap.objs.size (cellsFrom (s3.heap.objs.size + 1) scope.names (cloFrom X.env.cells scope.names [])) fp
  show codeAny _ _ (.compStart (.SetComp elt [⟨tg1, iter1, [], 0⟩, ⟨tg2, iter2, [], 0⟩, ⟨tg3, iter3, [], 0⟩] scope pos) 0 (.ref it) (.ref D) (compEnvC scope (cellsFrom (s3.heap.objs.size + 1) scope.names (cloFrom X.env.cells scope.names [])) s3.heap.objs.size X.env)) (compPost (model X.prog X.w) X.A X.xe none (EP X pins σ Q) (.ref D) s3.heap.objs.size) { s3 with heap := pushCells (s3.heap.push { cls := .type "dict", data := .dict #[] }) scope.names }
  have nfp : ∀ b ∈ fp, (upd H2 D (SetO X.w D (fun _ => false) 0)) b = none := fun b hb => (f3 b hb).1.1
  generalize hce : compEnvC scope (cellsFrom (s3.heap.objs.size + 1) scope.names (cloFrom X.env.cells scope.names [])) s3.heap.objs.size X.env = ce at I4 pg1 pg2 pg3 pi2 pi3 pe ⊢
  have cL : ce.locals = s3.heap.objs.size := by subst hce; rfl
  have hlay : Ext H2 W1 (upd H2 D (SetO X.w D (fun _ => false) 0)) W1 := .laidO x1.wf hDn
  have hacc : AccS X.w (upd H2 D (SetO X.w D (fun _ => false) 0)) D [] := ⟨_, _, upd_same, fun k => by simp, rfl⟩
  have f1D : W1.F D = none := Same.none x1.sub hDn
  generalize hH3 : upd H2 D (SetO X.w D (fun _ => false) 0) = H3 at I3 I4 pg1 pg2 pg3 pi2 pi3 pe nfp f3 hlay hacc
  generalize hs4 : ({ s3 with heap := pushCells (s3.heap.push { cls := .type "dict", data := .dict #[] }) scope.names } : Shared) = s4 at I4 ⊢
  have st4 : tn 0 s4.heap := T.keep _ _ _ st3 fun b _ o e => by rw [← hs4]; exact pushCells_keeps _ _ _ _ (Heap.get?_push_of_some _ e)
  have stat : ∀ {σ' : L2.St} {H' : Hp} {s' : Shared}, Inv (X.blk s3 H3 scope ce fp) [] σ' H' s' → (∀ b ∈ fp, H' b = none) → ∀ b ∈ fp, FpOk (X.blk s3 H3 scope ce fp) [] H' b := fun {σ' H' s'} I' hn b hb =>
    ⟨hn b hb, (I'.ok.exf b hb).1, I'.ok.exfs b hb, .inl hb, fun x c e => (I'.ok.exf b hb).2 x c e, fun p hp => absurd (show p ∈ ([] : List (Addr × Obj)) ++ [] from hp) (by simp)⟩
  have b3 : BodyOk (X.blk s3 H3 scope ce fp) C H2 W1 D _ _ (g3 C.cf el) := body_in (C := C) (Ho := H2) (Wo := W1) (D := D) (B := X.blk s3 H3 scope ce fp) rfl pe
  have b2 : BodyOk (X.blk s3 H3 scope ce fp) C H2 W1 D _ _ (g2 C.cf t3 i3 el) := body_out (C := C) (Ho := H2) (Wo := W1) (D := D) (B := X.blk s3 H3 scope ce fp) (elt := elt) (t0 := tg1) (i0 := iter1) (t1 := tg2) (i1 := iter2) (t2 := tg3) (i2 := iter3) (tg := tg3) (iter := iter3) (scope := scope) (pos := pos) (pos1 := iter3.pos) (k := 2) (.inr rfl) hc rfl (fun it => by rfl) pi3 (hs3 _) pg3 (fun i _ => by simp) b3
  have b1 : BodyOk (X.blk s3 H3 scope ce fp) C H2 W1 D _ _ (g1 C.cf t2 i2 t3 i3 el) := body_out (C := C) (Ho := H2) (Wo := W1) (D := D) (B := X.blk s3 H3 scope ce fp) (elt := elt) (t0 := tg1) (i0 := iter1) (t1 := tg2) (i1 := iter2) (t2 := tg3) (i2 := iter3) (tg := tg2) (iter := iter2) (scope := scope) (pos := pos) (pos1 := iter2.pos) (k := 1) (.inl rfl) hc rfl (fun it => turnS_mid ..) pi2 (hs2 _) pg2 d2 b2
  have na : NoneAt (L2.wipe σ (own.map (·.2))) (t1.slots ++ (t2.slots ++ (t3.slots ++ []))) := fun j hj v e => (wipe_some e).2 (hv j hj)
  have loop : codeAny (model X.prog X.w) X.A (.compLoop (.SetComp elt [⟨tg1, iter1, [], 0⟩, ⟨tg2, iter2, [], 0⟩, ⟨tg3, iter3, [], 0⟩] scope pos) 0 (.ref it) (.ref D) ce) (compPost (model X.prog X.w) X.A X.xe none (EP X pins σ Q) (.ref D) s3.heap.objs.size) s4 := by
    refine lvl (B := X.blk s3 H3 scope ce fp) (C := C) (Ho := H2) (Wo := W1) (pos1 := iter1.pos) (us := []) (ys := ys) (σ := L2.wipe σ (List.map (fun x : PySem.Str × Nat => x.snd) own)) (ρ := wipeR ρ (List.map (fun x : PySem.Str × Nat => x.snd) own)) (W := W1) (S' := S') hc rfl (turnS_out ..) T stat pg1 jok (wipe_noOl hno (List.map (fun x : PySem.Str × Nat => x.snd) own)) na d1 b1 (fun s6 H5 W5 lp5 u5 e5 => ?_) ⟨I4, hlay, f1D, hacc, hDn⟩ (Slots.keep ((sl.ext x1).wipe _) (wipe_noOl hno (List.map (fun x : PySem.Str × Nat => x.snd) own)) (.refl W1)) st4 nfp hg (by simpa using h64)
    have I6 := lp5.inv
    have I7 : Inv X pins σ H5 s6 := I3.call' (ch := fp) I6.os I6.base I6.hok I6.bare fun b hb => ⟨(f3 b hb).1.2.2.2.1, (f3 b hb).1.2.1, (f3 b hb).1.2.2.2.2.1, (f3 b hb).1.2.2.2.2.2⟩
    have nC : H5 s3.heap.objs.size = none := by
      have z : H5 ce.locals = none := I6.free
      rw [cL] at z
      exact z
    obtain ⟨m, hn, _⟩ := I6.loc
    have hn : s6.heap.Ns ce.locals m := hn
    rw [cL] at hn
    have f := I3.fpOk (Nat.le_refl _) nC
    refine ⟨m, hn, fun h'' sb => ?_⟩
    obtain ⟨f0, f1, f2, f3, f4, f5⟩ := f
    exact ⟨.ref D, H5, I7.turned (t' := s6.toks) (fun b o hb e => (sb.2 b hb).trans e) f0 f1 f3 f4 f5, rfl, q D H5 W5 hDn lp5.ext e5 lp5.own lp5.acc⟩
  exact PpSet.codeAny_compStart_set loop (T.self X.A 0 _ _ _ st4 loop)

theorem sset_ev {cf : CallF} {vs : List Nat} {t1 t2 t3 : Tg} {i1 i2 i3 : A3.It} {el : E} {ρ : A3.Env} {S : Store} :
    (E.sset vs t1 i1 t2 i2 t3 i3 el).ev cf ρ S = if noOl ρ then (i1.ev cf ρ S).bind fun xs S => (compL (fStep t1 (g1 cf t2 i2 t3 i3 el) (wipeR ρ vs)) xs S).bind fun ys S =>
      match allInts ys with
      | some is => if (dist is).length < 64 then .ok (.lst ((sortU is).map .int)) S else .bad
      | none => .bad
    else .bad := rfl
theorem repL_ofInts {W : Wd} : ∀ ns : List Int, RepL C.K C.fa W (ns.map V.int) (ns.map PV.int)
  | [] => .nil
  | n :: ns => .cons (.int n) (repL_ofInts ns)
theorem insU_len (x : Int) : ∀ l : List Int, (insU x l).length ≤ l.length + 1
  | [] => Nat.le_refl _
  | y :: l => by
    unfold insU
    split
    · exact Nat.le_refl _
    · split
      · exact Nat.le_succ _
      · exact Nat.succ_le_succ (insU_len x l)
theorem simN_sset {elt tg1 iter1 tg2 iter2 tg3 iter3 : Expr} {scope : Scope} {own : List (PySem.Str × Nat)} {pos p pos2 : Pos} {t1 t2 t3 : Tg} {i1 i2 i3 : A3.It} {el : E}
    (hg : Gl X "sorted") (hm : X.mg "sorted" = none)
    (hc : X.calm = true) (hN : X.N.Nodup) (hi : PI X tg1 iter1 (tI C i1)) (ok : BlkOk X.N X.env.scope scope own) (hv : ∀ i ∈ t1.slots ++ (t2.slots ++ (t3.slots ++ [])), i ∈ own.map (·.2)) (d1 : ∀ i ∈ t1.slots, i ∉ t2.slots ++ (t3.slots ++ [])) (d2 : ∀ i ∈ t2.slots, i ∉ t3.slots ++ [])
    (hg1 : ∀ (s : Shared) (H : Hp) (D : Addr) (cl : List (PySem.Str × Addr)) (fp : List Addr), PG (X.blk s H scope (compEnvC scope cl D X.env) fp) tg1 (tG C t1)) (hg2 : ∀ (s : Shared) (H : Hp) (D : Addr) (cl : List (PySem.Str × Addr)) (fp : List Addr), PG (X.blk s H scope (compEnvC scope cl D X.env) fp) tg2 (tG C t2))
    (hg3 : ∀ (s : Shared) (H : Hp) (D : Addr) (cl : List (PySem.Str × Addr)) (fp : List Addr), PG (X.blk s H scope (compEnvC scope cl D X.env) fp) tg3 (tG C t3)) (hi2 : ∀ (s : Shared) (H : Hp) (D : Addr) (cl : List (PySem.Str × Addr)) (fp : List Addr), PI (X.blk s H scope (compEnvC scope cl D X.env) fp) tg2 iter2 (tI C i2))
    (hi3 : ∀ (s : Shared) (H : Hp) (D : Addr) (cl : List (PySem.Str × Addr)) (fp : List Addr), PI (X.blk s H scope (compEnvC scope cl D X.env) fp) tg3 iter3 (tI C i3)) (he : ∀ (s : Shared) (H : Hp) (D : Addr) (cl : List (PySem.Str × Addr)) (fp : List Addr), PE (X.blk s H scope (compEnvC scope cl D X.env) fp) elt (tE C el))
    (hs1 : ∀ x, foldedSetIterable iter1 X.env x = pure x) (hs2 : ∀ env x, foldedSetIterable iter2 env x = pure x) (hs3 : ∀ env x, foldedSetIterable iter3 env x = pure x) :
    PE X (.Call (.Name "sorted" p) [.SetComp elt [⟨tg1, iter1, [], 0⟩, ⟨tg2, iter2, [], 0⟩, ⟨tg3, iter3, [], 0⟩] scope pos] [] pos2) (tN C (.sset (own.map (·.2)) t1 i1 t2 i2 t3 i3 el)) :=
  (pe_callB (cr_sortedSet hc) hg hm rfl (pa_cons (pe_set3 hc hN hi ok hv d1 d2 hg1 hg2 hg3 hi2 hi3 he hs1 hs2 hs3) pa_nil rfl) (by decide) (by decide) rfl rfl).weak fun σ H Q ⟨W, ρ, wf, sl, q⟩ => by
    rw [sset_ev] at q
    split at q
    · rename_i hno
      refine ⟨W, ρ, wf, sl, hno, (AfterN.bind (rel := fun W' (J : L2.It) (xs : List PV) => ItOk C W' J xs) q).mono fun J H1 ⟨xs, W1, x1, jok, e, q1⟩ => ?_⟩
      cases hr : compL (fStep t1 (g1 C.cf t2 i2 t3 i3 el) (wipeR ρ (own.map (·.2)))) xs W1.S with
      | exc _ _ => rw [hr] at q1; exact q1.elim
      | bad => rw [hr] at q1; exact q1.elim
      | ok ys S' =>
        rw [hr] at q1
        replace q1 : AfterN C W1 H1 (match allInts ys with
          | some is => if (dist is).length < 64 then .ok (.lst ((sortU is).map .int)) S' else .bad
          | none => .bad) Q := q1
        split at q1
        · rename_i is hi
          split at q1
          · rename_i h64
            cases allInts_map hi
            refine ⟨xs, W1, is, S', jok, x1, hr, h64, fun D H' W' hD x2 e2 f2 acc => ?_⟩
            obtain ⟨S, n, hS, hm, hn⟩ := acc
            refine ⟨D, S, n, rfl, hS, by rw [hn]; exact h64, fun ns pa hsrt hmem hlen hpa => ?_⟩
            have ens : ns = sortU is := sorted_uniq hsrt (sortU_sorted is) fun k => by rw [hmem, hm, mem_sortU]
            subst ens
            refine q1 pa ((sortU is).map V.int) _ W' (x2.trans (.laidO x2.wf hpa)) e2 (Same.none x2.wf.sub hpa) (Same.none x2.hs hpa) upd_same (repL_ofInts _) ?_
            rw [List.length_map, hlen, hn, sizeLine_eq]
            omega
          · exact q1.elim
        · exact q1.elim
    · exact q.elim
theorem sset_lst {cf : CallF} {vs : List Nat} {t1 t2 t3 : Tg} {i1 i2 i3 : A3.It} {el : E} {ρ : A3.Env} {S S' : Store} {p : PV} (h : (E.sset vs t1 i1 t2 i2 t3 i3 el).ev cf ρ S = .ok p S') : ∃ ps, p = .lst ps := by
  rw [sset_ev] at h
  split at h
  · obtain ⟨xs, S1, _, h⟩ := R.bind_ok h
    obtain ⟨ys, S2, _, h⟩ := R.bind_ok h
    split at h
    · split at h
      · cases h; exact ⟨_, rfl⟩
      · cases h
    · cases h
  · cases h
end
end A3

-- Sim9
set_option Elab.async false
set_option linter.all false
set_option maxRecDepth 100000
set_option maxHeartbeats 4000000
/-! Sim9: match statements; code that the proof never comes to. -/
namespace A3
open PySem PySem.Spec PyProof.Rows L2

section
variable {X : Cx} {C : Ctx}
theorem simS_nvr {st : Stmt} : PS X st (tS C .nvr) := ⟨fun pins s σ H D I ⟨He, We, W, ρ, x, sl, q⟩ => q.elim⟩
/-- what a pattern binds: names with values, slots with what they are -/
inductive BL (X : Cx) (C : Ctx) (W : Wd) : List (PySem.Str × Value) → List (Nat × PV) → Prop
  | nil : BL X C W [] []
  | cons {n : PySem.Str} {u : Value} {i : Nat} {p : PV} {x : V} {bs : List (PySem.Str × Value)} {cs : List (Nat × PV)} : X.N[i]? = some n → X.env.scope.names.lookup n = some .local → RelV x u → Rep C.K C.fa W x p → BL X C W bs cs → BL X C W ((n, u) :: bs) ((i, p) :: cs)
theorem BL.append {W : Wd} : ∀ {as bs : List (PySem.Str × Value)} {cs ds : List (Nat × PV)}, BL X C W as cs → BL X C W bs ds → BL X C W (as ++ bs) (cs ++ ds)
  | _, _, _, _, .nil, h => h
  | _, _, _, _, .cons h1 h2 h3 h4 t, h => .cons h1 h2 h3 h4 (BL.append t h)
def BRel (X : Cx) (C : Ctx) (W : Wd) : Option (List (PySem.Str × Value)) → Option (List (Nat × PV)) → Prop
  | none, none => True
  | some bs, some cs => BL X C W bs cs
  | _, _ => False
theorem BL.ext {H H' : Hp} {W W' : Wd} (x : Ext H W H' W') : ∀ {bs : List (PySem.Str × Value)} {cs : List (Nat × PV)}, BL X C W bs cs → BL X C W' bs cs
  | _, _, .nil => .nil
  | _, _, .cons h1 h2 h3 h4 t => .cons h1 h2 h3 (h4.ext x) (BL.ext x t)
/-- a pattern does what its own form tells -/
def PtRun (X : Cx) (C : Ctx) (p : Pattern) (m : PV → Option (Option (List (Nat × PV)))) : Prop := ∀ (pins : List (Addr × Obj)) (s : Shared) (σ : L2.St) (H : Hp) (x : V) (u : Value) (W : Wd) (v : PV) (r : Option (List (Nat × PV))), Inv X pins σ H s → RelV x u → Wf W H → Rep C.K C.fa W x v → m v = some r →
  wpAny (model X.prog X.w) X.A (matchPattern p X.env u) (fun r' s' => ∃ H' W', Inv X pins σ H' s' ∧ Ext H W H' W' ∧ BRel X C W' r' r) X.xe s
theorem noSlots {W : Wd} {H : Hp} (σ : L2.St) : Slots C.K C.fa W σ (List.replicate σ.length none) H := by
  have no : ∀ {i : Nat} {c : Cell}, (List.replicate σ.length (none : Option Cell))[i]? ≠ some (some c) := fun {i c} e => by
    rw [List.getElem?_replicate] at e
    split at e <;> cases e
  exact ⟨by simp, fun i c e => absurd e no, fun i j ps qs _ e => absurd e no⟩
theorem pt_value (hK : X.K = C.K) (hu : X.A.units + 64 < cLine) {c : Const} {k : Nat} {p : PV} {cp pos : Pos} (h : constPV c = some p) : PtRun X C (.MatchValue (.Constant c k cp) pos) (altM [p]) := by
  intro pins s σ H x u W v r I rx wf rv hm
  have hc := (sim_const (X := X) (C := C) (k := k) (pos := cp) h).run pins s σ H (fun y H1 => ∃ W1, Ext H W H1 W1 ∧ Rep C.K C.fa W1 y p) I ⟨W, _, wf, noSlots σ, fun y H' W' e1 e2 r1 => ⟨W', e1, r1⟩⟩
  refine wpAny_matchPattern_Value (thn hc fun y s1 ⟨yv, H1, I1, ry, W1, x1, rp⟩ => ?_)
  unfold altM at hm
  cases he : eqV' v p with
  | none => rw [he] at hm; cases hm
  | some b =>
    rw [he] at hm
    refine thn (co_eq (X := X) (C := C) hK hu pins s1 σ H1 x yv u y (fun z H2 => z = .bl b ∧ H2 = H1) I1 rx ry ⟨W1, v, p, b, x1.wf, .inl (rv.ext x1), .inl rp, he, rfl, rfl⟩) fun d s2 ⟨z, H2, I2, rz, e1, e2⟩ => ?_
    subst e1 e2
    cases rz
    refine wpAny_truthy_bool ?_
    cases b with
    | true => cases hm; exact ⟨H2, W1, I2, x1, .nil⟩
    | false =>
      have : r = none := by
        unfold altM at hm
        exact (Option.some.inj hm).symm
      subst this
      exact ⟨H2, W1, I2, x1, trivial⟩
theorem pt_cap {n : PySem.Str} {i : Nat} {pos : Pos} (hi : X.N[i]? = some n) (hl : X.env.scope.names.lookup n = some .local) : PtRun X C (.MatchAs none (some n) pos) (fun v => some (some [(i, v)])) := by
  intro pins s σ H x u W v r I rx wf rv hm
  cases hm
  exact wpAny_matchPattern_Capture ⟨H, W, I, .refl wf, .cons hi hl rx rv .nil⟩
theorem pt_wild {pos : Pos} : PtRun X C (.MatchAs none none pos) (fun _ => some (some [])) := by
  intro pins s σ H x u W v r I rx wf rv hm
  cases hm
  exact wpAny_matchPattern_Capture ⟨H, W, I, .refl wf, .nil⟩
/-- 'a' | 'b' -/
def altC : List Pattern → Option (List PV)
  | [] => some []
  | .MatchValue (.Constant c _ _) _ :: ps => match constPV c, altC ps with
    | some p, some r => some (p :: r)
    | _, _ => none
  | _ => none
theorem altM_split {c : PV} {cs : List PV} {v : PV} {r : Option (List (Nat × PV))} (h : altM (c :: cs) v = some r) : (altM [c] v = some (some []) ∧ r = some []) ∨ (altM [c] v = some none ∧ altM cs v = some r) := by
  cases he : eqV' v c with
  | none => simp only [altM, he] at h; cases h
  | some b =>
    cases b with
    | true => simp only [altM, he] at h ⊢; exact .inl ⟨trivial, (Option.some.inj h).symm⟩
    | false => simp only [altM, he] at h ⊢; exact .inr ⟨trivial, h⟩
theorem altM_nil : ∀ {cs : List PV} {v : PV} {bs : List (Nat × PV)}, altM cs v = some (some bs) → bs = []
  | [], _, _, h => by cases h
  | c :: cs, v, bs, h => by
    rcases altM_split h with ⟨_, e⟩ | ⟨_, h⟩
    · cases e; rfl
    · exact altM_nil h
theorem first_run (hK : X.K = C.K) (hu : X.A.units + 64 < cLine) : ∀ {ps : List Pattern} {cs : List PV}, altC ps = some cs → ∀ (pins : List (Addr × Obj)) (s : Shared) (σ : L2.St) (H : Hp) (x : V) (u : Value) (W : Wd) (v : PV) (r : Option (List (Nat × PV))), Inv X pins σ H s → RelV x u → Wf W H → Rep C.K C.fa W x v → altM cs v = some r →
    wpAny (model X.prog X.w) X.A (matchFirst ps X.env u) (fun r' s' => ∃ H' W', Inv X pins σ H' s' ∧ Ext H W H' W' ∧ BRel X C W' r' r) X.xe s
  | [], cs, h => by
    cases h
    intro pins s σ H x u W v r I rx wf rv hm
    cases hm
    exact wpAny_matchFirst_nil ⟨H, W, I, .refl wf, trivial⟩
  | p :: ps, cs, h => by
    unfold altC at h
    split at h
    · rename_i e; cases e
    · rename_i c k cp pos ps' e
      cases e
      split at h
      · rename_i q qs h1 h2
        cases h
        intro pins s σ H x u W v r I rx wf rv hm
        rcases altM_split hm with ⟨h3, rfl⟩ | ⟨h3, h4⟩
        · refine wpAny_matchFirst_cons (thn (pt_value (X := X) (C := C) hK hu h1 pins s σ H x u W v _ I rx wf rv h3) fun r' s1 ⟨H1, W1, I1, x1, b⟩ => ?_)
          cases r' with
          | none => exact b.elim
          | some bs => exact ⟨H1, W1, I1, x1, b⟩
        · refine wpAny_matchFirst_cons (thn (pt_value (X := X) (C := C) hK hu h1 pins s σ H x u W v _ I rx wf rv h3) fun r' s1 ⟨H1, W1, I1, x1, b⟩ => ?_)
          cases r' with
          | none => exact thn (first_run hK hu h2 pins s1 σ H1 x u W1 v r I1 rx x1.wf (rv.ext x1) h4) fun r2 s2 ⟨H2, W2, I2, x2, b2⟩ => ⟨H2, W2, I2, x1.trans x2, b2⟩
          | some bs => exact b.elim
      · cases h
    · cases h
theorem names_alt : ∀ {ps : List Pattern} {cs : List PV}, altC ps = some cs → namesOfAll (ps.take 1) = []
  | [], _, _ => rfl
  | p :: ps, cs, h => by
    unfold altC at h
    split at h
    · rename_i e; cases e
    · rename_i c k cp pos ps' e
      cases e
      rfl
    · cases h
theorem pt_or (hK : X.K = C.K) (hu : X.A.units + 64 < cLine) {ps : List Pattern} {cs : List PV} {pos : Pos} (h : altC ps = some cs) : PtRun X C (.MatchOr ps pos) (altM cs) := by
  intro pins s σ H x u W v r I rx wf rv hm
  refine wpAny_matchPattern_Or (thn (first_run hK hu h pins s σ H x u W v r I rx wf rv hm) fun r' s1 ⟨H1, W1, I1, x1, b⟩ => ?_)
  cases r' with
  | none => exact ⟨H1, W1, I1, x1, b⟩
  | some bs =>
    cases r with
    | none => exact b.elim
    | some cs' =>
      cases altM_nil hm
      rw [names_alt h]
      exact ⟨H1, W1, I1, x1, .nil⟩
/-- the items of a sequence pattern -/
inductive PtsOk (X : Cx) (C : Ctx) : List Pattern → List Pt → Prop
  | nil : PtsOk X C [] []
  | cons {p : Pattern} {ps : List Pattern} {m : Pt} {ms : List Pt} : PtRun X C p m.m → p.isStar = false → PtsOk X C ps ms → PtsOk X C (p :: ps) (m :: ms)
theorem PtsOk.len : ∀ {ps : List Pattern} {ms : List Pt}, PtsOk X C ps ms → ps.length = ms.length
  | _, _, .nil => rfl
  | _, _, .cons _ _ t => by simp [PtsOk.len t]
theorem each_run : ∀ {ps : List Pattern} {ms : List Pt}, PtsOk X C ps ms → ∀ (pins : List (Addr × Obj)) (s : Shared) (σ : L2.St) (H : Hp) (xs : List V) (us : List Value) (W : Wd) (vs : List PV) (r : Option (List (Nat × PV))), Inv X pins σ H s → Vals xs us → Wf W H → RepL C.K C.fa W xs vs → ptsM ms vs = some r →
    wpAny (model X.prog X.w) X.A (matchEach ps X.env us) (fun r' s' => ∃ H' W', Inv X pins σ H' s' ∧ Ext H W H' W' ∧ BRel X C W' r' r) X.xe s
  | _, _, .nil => by
    intro pins s σ H xs us W vs r I rx wf rv hm
    cases vs with
    | nil => cases hm; exact wpAny_matchEach_nil ⟨H, W, I, .refl wf, .nil⟩
    | cons _ _ => cases hm
  | _, _, .cons hp hst t => by
    intro pins s σ H xs us W vs r I rx wf rv hm
    cases vs with
    | nil => cases hm
    | cons v vs =>
      cases rv with
      | cons r1 rr =>
        cases rx with
        | cons rx1 rxr =>
          unfold ptsM at hm
          split at hm
          · rename_i bs hb
            refine wpAny_matchEach_cons (thn (hp pins s σ H _ _ W v _ I rx1 wf r1 hb) fun r' s1 ⟨H1, W1, I1, x1, b⟩ => ?_) hst
            cases r' with
            | none => exact b.elim
            | some bs' =>
              split at hm
              · rename_i cs hcs
                cases hm
                refine thn (each_run t pins s1 σ H1 _ _ W1 vs _ I1 rxr x1.wf (rr.ext x1) hcs) fun r2 s2 ⟨H2, W2, I2, x2, b2⟩ => ?_
                cases r2 with
                | none => exact b2.elim
                | some more => exact ⟨H2, W2, I2, x1.trans x2, BL.append (BL.ext x2 b) b2⟩
              · rename_i hn
                refine thn (each_run t pins s1 σ H1 _ _ W1 vs r I1 rxr x1.wf (rr.ext x1) hm) fun r2 s2 ⟨H2, W2, I2, x2, b2⟩ => ?_
                cases r with
                | some cs => exact absurd hm (hn cs)
                | none =>
                  cases r2 with
                  | none => exact ⟨H2, W2, I2, x1.trans x2, trivial⟩
                  | some _ => exact b2.elim
          · rename_i hn
            refine wpAny_matchEach_cons (thn (hp pins s σ H _ _ W v r I rx1 wf r1 hm) fun r' s1 ⟨H1, W1, I1, x1, b⟩ => ?_) hst
            cases r with
            | some bs => exact absurd hm (hn bs)
            | none =>
              cases r' with
              | none => exact ⟨H1, W1, I1, x1, trivial⟩
              | some _ => exact b.elim
theorem pt_seq (hK : X.K = C.K) (hc : X.calm = true) {ps : List Pattern} {ms : List Pt} {pos : Pos} (h : PtsOk X C ps ms) (hstar : ps.findIdx? (·.isStar) = none) (hwild : (ps.all fun p => p.isWildcard || (p.isStar && p.names.isEmpty)) = false) : PtRun X C (.MatchSequence ps pos) (Pat.seq ms).m := by
  intro pins s σ H x u W v r I rx wf rv hm
  have miss : ∀ {T : String} {s' : Shared}, s.TypeIs u T → flagOfType true (.type T) = pure false → r = none → wpAny (model X.prog X.w) X.A (matchPattern (.MatchSequence ps pos) X.env u) (fun r' s' => ∃ H' W', Inv X pins σ H' s' ∧ Ext H W H' W' ∧ BRel X C W' r' r) X.xe s := fun {T s'} hT hf hr => by
    subst hr
    refine wpAny_matchPattern_Sequence (wpAny_collectionFlag hT hf ?_) hstar hwild
    rw [if_neg (by decide)]
    exact ⟨H, W, I, .refl wf, trivial⟩
  cases v with
  | tup xs =>
    obtain ⟨a, vs, rfl, d, rr, z⟩ := rv.tup_inv
    cases rx
    obtain ⟨its, rvs, pl, hz⟩ := I.tuple (Same.sqT wf.sub (hK ▸ d))
    have hlen : its.length = xs.length := by rw [← rvs.length, rr.length]
    have hfit : (its.toArray.size : Int) < 2 ^ 63 := by rw [List.size_toArray, hlen]; rw [sizeLine_eq] at z; omega
    replace hm : (if xs.length = ms.length then ptsM ms xs else some none) = some r := hm
    by_cases e : xs.length = ms.length
    · rw [if_pos e] at hm
      have en : its.toArray.size = ps.length := by rw [List.size_toArray, hlen, e, h.len]
      refine matchSeq_tuple_hit pl hfit en ?_ hstar hwild
      rw [← en]
      refine unpackItems_tuple (I.ok.hd hc) pl fun h' hx => ?_
      have I1 : Inv X pins σ H { s with heap := h', toks := s.toks + 1 + 1 } := I.kept (t' := s.toks + 1 + 1) fun b o e => hx b o (Nat.ne_of_lt (Heap.lt_size e)) e
      exact each_run h pins _ σ H vs _ W xs r I1 (by simpa using rvs) wf rr hm
    · rw [if_neg e] at hm
      cases hm
      refine matchSeq_tuple_miss pl hfit (by rw [List.size_toArray, hlen, h.len]; exact e) ?_ hstar hwild
      exact ⟨H, W, I.kept (t' := s.toks + 1 + 1) (h' := s.heap) fun _ _ e => e, .refl wf, trivial⟩
  | non => cases rv; cases rx; cases hm; exact miss (s' := s) (typeIs_none s) flag_seq_None rfl
  | bl b => cases rv; cases rx; cases hm; exact miss (s' := s) (PySem.typeIs_bool s b) flag_seq_bool rfl
  | int i => cases rv; obtain ⟨t, rfl⟩ := rx; cases hm; exact miss (s' := s) (typeIs_int s i t) flag_seq_int rfl
  | str y => obtain ⟨rfl, _⟩ := rv.str_inv; obtain ⟨t, rfl⟩ := rx; cases hm; exact miss (s' := s) (typeIs_str s _ t) flag_seq_str rfl
  | _ => cases hm

/-- the items of a tuple, the rest from k on in a new list -/
theorem unpack_star (hc : X.calm = true) {pins : List (Addr × Obj)} {s : Shared} {σ : L2.St} {H : Hp} {l : Addr} {xs : List V} {its : List Value} {k : Nat} {E : Value → Shared → Prop} {Q : List Value → Shared → Prop} (I : Inv X pins σ H s) (hl : IsTup s.heap l its.toArray) (rv : Vals xs its) (hk : k ≤ its.length) (hz : its.length ≤ 16384)
    (h : ∀ (D : Addr) (s' : Shared), H D = none → Inv X pins σ (upd H D (.lst (xs.drop k))) s' → Q (its.take k ++ [.ref D]) s') : wpAny (model X.prog X.w) X.A (unpackItems (.ref l) (k + 1) (some k)) Q E s := by
  have hsz : its.toArray.size = its.length := List.size_toArray
  have hlt : l ≠ s.heap.objs.size := by obtain ⟨o, ho, _⟩ := hl; exact Nat.ne_of_lt (Heap.lt_size ho)
  unfold unpackItems
  refine wpAny_bind ?_
  unfold notIterableAtAll
  refine wpAny_bind (wpAny_specialOf hl.typeIs slot_tuple_iter.lookup ?_)
  refine wpAny_pure ?_
  simp only [Bool.false_eq_true, if_false]
  refine wpAny_bind (wpAny_holding (iter_tuple hl ?_))
  refine wpAny_bind (wpAny_holding (draw_tuple hlt k 0 _ _ ⟨_, Heap.get?_push_size _ rfl, rfl, rfl⟩ (hl.push _) (by omega) fun h₁ hit₁ hs₁ => ?_))
  have hl₁ : IsTup h₁ l its.toArray := (hl.push _).extBut hs₁.extBut hlt
  rw [Nat.zero_add] at hit₁
  have hit₁' := hit₁
  obtain ⟨oi, hoi, _⟩ := hit₁'
  have hl₁' := hl₁
  obtain ⟨ol, hol, _⟩ := hl₁'
  rw [List.drop_zero]
  have hfl : (its.take k).length = k := by rw [List.length_take]; omega
  rw [if_neg (show ¬ ((its.take k).length < k) by rw [hfl]; omega)]
  refine wpAny_bind (wpAny_holding (W.kun_collect (s := { s with heap := h₁ }) (T := "tuple_iterator") (.inr (.inr (.inr rfl))) (Walks.tuple (A := X.A.in1) (I.ok.hd hc) s.heap.objs.size l hlt its.toArray) (fun j u st => st.1.typeIs) (k := k) (by omega) ⟨hit₁, hl₁⟩ (Heap.lt_size hoi) (Heap.lt_size hol) (fun h₂ tk hk2 => ?_) (by rw [sizeLine_eq]; omega)))
  have hrl : (its.drop k).length = its.length - k := by rw [List.length_drop]
  show wpAny _ _ (if (its.drop k).length < k + 1 - 1 - k then _ else _) _ _ _
  rw [if_neg (by omega)]
  show wpAny _ _ (newList ((its.drop k).take ((its.drop k).length - (k + 1 - 1 - k))) >>= fun d => pure (its.take k ++ [d] ++ (its.drop k).drop ((its.drop k).length - (k + 1 - 1 - k)))) _ _ _
  have e0 : (its.drop k).length - (k + 1 - 1 - k) = (its.drop k).length := by omega
  rw [e0, List.take_length, List.drop_length]
  simp only [List.append_nil]
  have he : ∀ b o, s.heap.get? b = some o → h₂.get? b = some o := fun b o e => hk2 b o (Nat.ne_of_lt (Heap.lt_size e)) (hs₁.extBut b o (Nat.ne_of_lt (Heap.lt_size e)) (Heap.get?_push_of_some _ e))
  have I2 : Inv X pins σ H { s with heap := h₂, toks := tk } := I.kept (t' := tk) he
  refine wpAny_bind (wpAny_newList (s := { s with heap := h₂, toks := tk }) (wpAny_pure ?_) (by rw [hrl, sizeLine_eq]; omega))
  have nD : H h₂.objs.size = none := I2.hok.fresh (Nat.le_refl _)
  refine h h₂.objs.size _ nD (I2.laid (t' := tk) (fun b o e => Heap.get?_push_of_some _ e) (Nat.le_refl _) ?_)
  exact ⟨by rw [List.length_drop, rv.length, sizeLine_eq]; omega, _, 0, rv.drop k, Heap.get?_push_size _ rfl⟩
theorem each_star {n : PySem.Str} {i : Nat} {sp : Pos} (hi : X.N[i]? = some n) (hl : X.env.scope.names.lookup n = some .local) : ∀ {ps : List Pattern} {ms : List Pt}, PtsOk X C ps ms → ∀ (pins : List (Addr × Obj)) (s : Shared) (σ : L2.St) (H : Hp) (xs : List V) (us : List Value) (x : V) (u : Value) (W : Wd) (vs : List PV) (v : PV) (r : Option (List (Nat × PV))), Inv X pins σ H s → Vals xs us → RelV x u → Wf W H → RepL C.K C.fa W xs vs → Rep C.K C.fa W x v → ptsM ms vs = some r →
    wpAny (model X.prog X.w) X.A (matchEach (ps ++ [.MatchStar (some n) sp]) X.env (us ++ [u])) (fun r' s' => ∃ H' W', Inv X pins σ H' s' ∧ Ext H W H' W' ∧ BRel X C W' r' (r.map fun bs => bs ++ [(i, v)])) X.xe s
  | _, _, .nil => by
    intro pins s σ H xs us x u W vs v r I rx ru wf rv rp hm
    cases vs with
    | nil =>
      cases hm
      cases rv
      cases rx
      exact PySem.W.kun_each (wpAny_matchEach_nil ⟨H, W, I, .refl wf, .cons hi hl ru rp .nil⟩)
    | cons _ _ => cases hm
  | _, _, .cons hp hst t => by
    intro pins s σ H xs us x u W vs v r I rx ru wf rv rp hm
    cases vs with
    | nil => cases hm
    | cons w vs =>
      cases rv with
      | cons r1 rr =>
        cases rx with
        | cons rx1 rxr =>
          unfold ptsM at hm
          split at hm
          · rename_i bs hb
            refine wpAny_matchEach_cons (thn (hp pins s σ H _ _ W w _ I rx1 wf r1 hb) fun r' s1 ⟨H1, W1, I1, x1, b⟩ => ?_) hst
            cases r' with
            | none => exact b.elim
            | some bs' =>
              split at hm
              · rename_i cs hcs
                cases hm
                refine thn (each_star hi hl t pins s1 σ H1 _ _ x u W1 vs v _ I1 rxr ru x1.wf (rr.ext x1) (rp.ext x1) hcs) fun r2 s2 ⟨H2, W2, I2, x2, b2⟩ => ?_
                cases r2 with
                | none => exact b2.elim
                | some more => exact ⟨H2, W2, I2, x1.trans x2, by rw [Option.map_some, List.append_assoc]; exact BL.append (BL.ext x2 b) b2⟩
              · rename_i hn
                refine thn (each_star hi hl t pins s1 σ H1 _ _ x u W1 vs v r I1 rxr ru x1.wf (rr.ext x1) (rp.ext x1) hm) fun r2 s2 ⟨H2, W2, I2, x2, b2⟩ => ?_
                cases r with
                | some cs => exact absurd hm (hn cs)
                | none =>
                  cases r2 with
                  | none => exact ⟨H2, W2, I2, x1.trans x2, trivial⟩
                  | some _ => exact b2.elim
          · rename_i hn
            refine wpAny_matchEach_cons (thn (hp pins s σ H _ _ W w r I rx1 wf r1 hm) fun r' s1 ⟨H1, W1, I1, x1, b⟩ => ?_) hst
            cases r with
            | some bs => exact absurd hm (hn bs)
            | none =>
              cases r' with
              | none => exact ⟨H1, W1, I1, x1, trivial⟩
              | some _ => exact b.elim
/-- a sequence pattern with a star at its end -/
theorem pt_seqs (hK : X.K = C.K) (hc : X.calm = true) {ps : List Pattern} {ms : List Pt} {n : PySem.Str} {i : Nat} {sp pos : Pos} (h : PtsOk X C ps ms) (h0 : ms.length ≠ 0) (hi : X.N[i]? = some n) (hl : X.env.scope.names.lookup n = some .local) (hstar : (ps ++ [Pattern.MatchStar (some n) sp]).findIdx? (·.isStar) = some ps.length)
    (hwild : ((ps ++ [Pattern.MatchStar (some n) sp]).all fun p => p.isWildcard || (p.isStar && p.names.isEmpty)) = false) : PtRun X C (.MatchSequence (ps ++ [.MatchStar (some n) sp]) pos) (Pat.seqs ms i).m := by
  intro pins s σ H x u W v r I rx wf rv hm
  have miss : ∀ {T : String} {s' : Shared}, s.TypeIs u T → flagOfType true (.type T) = pure false → r = none → wpAny (model X.prog X.w) X.A (matchPattern (.MatchSequence (ps ++ [.MatchStar (some n) sp]) pos) X.env u) (fun r' s' => ∃ H' W', Inv X pins σ H' s' ∧ Ext H W H' W' ∧ BRel X C W' r' r) X.xe s := fun {T s'} hT hf hr => by
    subst hr
    rw [arm_matchPattern_MatchSequence]
    refine wpAny_bind (wpAny_standAt ?_)
    refine wpAny_bind (wpAny_collectionFlag hT hf ?_)
    simp only [Bool.not_false, if_true]
    exact wpAny_pure ⟨H, W, I, .refl wf, trivial⟩
  have hlen1 : (ps ++ [Pattern.MatchStar (some n) sp]).length = ms.length + 1 := by rw [List.length_append, h.len]; rfl
  cases v with
  | tup xs =>
    obtain ⟨a, vs, rfl, d, rr, z⟩ := rv.tup_inv
    cases rx
    obtain ⟨its, rvs, pl, hz⟩ := I.tuple (Same.sqT wf.sub (hK ▸ d))
    have hlen : its.length = xs.length := by rw [← rvs.length, rr.length]
    have hfit : (its.toArray.size : Int) < 2 ^ 63 := by rw [List.size_toArray, hlen]; rw [sizeLine_eq] at z; omega
    replace hm : (if ms.length ≤ xs.length && decide (xs.length ≤ 16384) then (match ptsM ms (xs.take ms.length) with
      | some (some bs) => some (some (bs ++ [(i, .lst (xs.drop ms.length))]))
      | r => r) else (if xs.length < ms.length then some none else none)) = some r := hm
    by_cases e : xs.length < ms.length
    · have e2 : (ms.length ≤ xs.length && decide (xs.length ≤ 16384)) = false := by
        rw [decide_eq_false (by omega), Bool.false_and]
      rw [e2, if_neg (by decide), if_pos e] at hm
      cases hm
      exact PySem.W.kun_fewT pl hfit hstar (by rw [hlen1]; omega) (by rw [hlen1, List.size_toArray, hlen]; omega) ⟨H, W, I.kept (t' := s.toks + 1 + 1) (h' := s.heap) fun _ _ e => e, .refl wf, trivial⟩
    · split at hm
      · rename_i hb
        rw [Bool.and_eq_true, decide_eq_true_eq, decide_eq_true_eq] at hb
        have hname : ((ps ++ [Pattern.MatchStar (some n) sp])[ps.length]?.elim [] (·.names)).isEmpty = false := by
          rw [List.getElem?_append_right (Nat.le_refl _), Nat.sub_self]; rfl
        refine PySem.W.kun_seqT pl hfit hstar hwild hname (by rw [hlen1]; omega) (by rw [hlen1, List.size_toArray, hlen]; omega) ?_
        have I1 : Inv X pins σ H { s with toks := s.toks + 1 + 1 } := I.kept (t' := s.toks + 1 + 1) (h' := s.heap) fun b o e => e
        rw [hlen1, h.len]
        refine unpack_star hc I1 pl (by simpa using rvs) (by omega) (by omega) fun D s' hD I2 => ?_
        have x1 : Ext H W (upd H D (.lst (vs.drop ms.length))) { W with F := upd W.F D (.lst (vs.drop ms.length)) } := .laid wf hD
        have rt := (rr.take ms.length).ext x1
        have rd := (rr.drop ms.length).ext x1
        have key := each_star (sp := sp) hi hl h pins s' σ _ _ _ (.ref D) (.ref D) _ _ (.lst (xs.drop ms.length)) (ptsM ms (xs.take ms.length) |>.getD none) I2 ((show Vals vs its by simpa using rvs).take ms.length) rfl x1.wf rt (.lst (.inl (.inl upd_same)) rd (by rw [List.length_drop]; omega))
        cases hp : ptsM ms (xs.take ms.length) with
        | none => rw [hp] at hm; cases hm
        | some q =>
          rw [hp] at hm key
          refine thn (key rfl) fun r' s2 ⟨H2, W2, I3, x2, b⟩ => ⟨H2, W2, I3, x1.trans x2, ?_⟩
          cases q with
          | none => cases hm; exact b
          | some bs => cases hm; exact b
      · first | (rw [if_neg e] at hm; cases hm) | cases hm
  | non => cases rv; cases rx; cases hm; exact miss (s' := s) (typeIs_none s) flag_seq_None rfl
  | bl b => cases rv; cases rx; cases hm; exact miss (s' := s) (PySem.typeIs_bool s b) flag_seq_bool rfl
  | int i => cases rv; obtain ⟨t, rfl⟩ := rx; cases hm; exact miss (s' := s) (typeIs_int s i t) flag_seq_int rfl
  | str y => obtain ⟨rfl, _⟩ := rv.str_inv; obtain ⟨t, rfl⟩ := rx; cases hm; exact miss (s' := s) (typeIs_str s _ t) flag_seq_str rfl
  | _ => cases hm

/-! ### the statement -/
theorem setS_of {ρ : A3.Env} {i j : Nat} {p : PV} {ps : List PV} (h : (setS ρ i (.val p))[j]? = some (some (.ol ps))) : i ≠ j ∧ ρ[j]? = some (some (.ol ps)) := by
  unfold setS at h
  by_cases e : i = j
  · subst e
    by_cases hl : i < ρ.length
    · rw [List.getElem?_set_self hl] at h; cases h
    · rw [List.getElem?_eq_none (by simpa using hl)] at h; cases h
  · rw [List.getElem?_set_ne e] at h
    exact ⟨e, h⟩
theorem SlotsE.bind1 {He H : Hp} {W : Wd} {σ : L2.St} {ρ : A3.Env} (s : SlotsE C He W σ ρ H) {i : Nat} {v : V} {p : PV} (r : Rep C.K C.fa W v p) : SlotsE C He W (σ.set i (some v)) (setS ρ i (.val p)) H :=
  ⟨s.sl.set r, fun j ps a e1 e2 => by
    obtain ⟨h1, h2⟩ := setS_of e1
    rw [List.getElem?_set_ne h1] at e2
    exact s.nw j ps a h2 e2⟩
theorem bind_run (hN : X.N.Nodup) {W : Wd} : ∀ {bs : List (PySem.Str × Value)} {cs : List (Nat × PV)}, BL X C W bs cs → ∀ (pins : List (Addr × Obj)) (s : Shared) (σ : L2.St) (H He : Hp) (ρ : A3.Env) (Q : Shared → Prop), Inv X pins σ H s → SlotsE C He W σ ρ H →
    (∀ σ' s', Inv X pins σ' H s' → SlotsE C He W σ' (bindAll cs ρ) H → Q s') →
    wpAny (model X.prog X.w) X.A (assignInOrder (bs.map fun (n, _) => bindName X.env n) (bs.map (·.2))) (fun _ s' => Q s') X.xe s
  | _, _, .nil, pins, s, σ, H, He, ρ, Q, I, sl, hq => wpAny_assignInOrder_none (hq σ s I sl)
  | _, _, .cons hi hl rx rp t, pins, s, σ, H, He, ρ, Q, I, sl, hq => by
    refine wpAny_assignInOrder_more (wpAny_bindName (store_ok I hN hi (.inl hl) rx (fun s1 I1 => ?_) (.inr hl)))
    exact bind_run hN t pins s1 _ H He _ Q I1 (sl.bind1 rp) hq
/-- the cases of a match statement -/
inductive CasesOk (X : Cx) (C : Ctx) : List MatchCase → Cases → Prop
  | nil : CasesOk X C [] .nil
  | cons {p : Pattern} {body : List Stmt} {rest : List MatchCase} {m : Pat} {b : Stms} {r : Cases} : PtRun X C p m.m → PSs X body (tSs C b) → CasesOk X C rest r → CasesOk X C (⟨p, none, body⟩ :: rest) (.cons m b r)
theorem cases_run (hN : X.N.Nodup) : ∀ {cs : List MatchCase} {ms : Cases}, CasesOk X C cs ms → ∀ (first : Bool) (pins : List (Addr × Obj)) (s : Shared) (σ : L2.St) (H He : Hp) (We W : Wd) (x : V) (u : Value) (v : PV) (ρ : A3.Env) (D : Ends), Inv X pins σ H s → RelV x u → Ext He We H W → Rep C.K C.fa W x v → SlotsE C He W σ ρ H → AfterS C He We W (ms.ev C.cf v ρ W.S) D →
    wpAny (model X.prog X.w) X.A (matchCases cs X.env u first) (SP X pins D) X.xe s
  | _, _, .nil, first, pins, s, σ, H, He, We, W, x, u, v, ρ, D, I, rx, e, rv, sl, q => wpAny_matchCases_nil ⟨σ, H, I, q σ H W e (.refl W) rfl sl⟩
  | _, _, .cons (m := m) (b := b) (r := r) hp hb t, first, pins, s, σ, H, He, We, W, x, u, v, ρ, D, I, rx, e, rv, sl, q => by
    replace q : AfterS C He We W (match m.m v with
      | some (some bs) => b.ev C.cf (bindAll bs ρ) W.S
      | some none => r.ev C.cf v ρ W.S
      | none => .bad) D := q
    cases hm : m.m v with
    | none => rw [hm] at q; exact q.elim
    | some o =>
      rw [hm] at q
      refine wpAny_matchCases_cons (thn (hp pins s σ H x u W v o I rx e.wf rv hm) fun r' s1 ⟨H1, W1, I1, x1, br⟩ => ?_)
      cases o with
      | none =>
        cases r' with
        | some _ => exact br.elim
        | none =>
          refine cases_run hN t false pins s1 σ H1 He We W1 x u v ρ D I1 rx (e.trans x1) (rv.ext x1) (sl.ext x1) ?_
          have es : W1.S = W.S := by rw [x1.st, e.st]
          rw [es]
          exact AfterS.up q x1.up
      | some bs =>
        cases r' with
        | none => exact br.elim
        | some bs' =>
          refine bind_run hN br pins s1 σ H1 He ρ _ I1 (sl.ext x1) fun σ' s2 I2 sl2 => ?_
          have es : W1.S = W.S := by rw [x1.st, e.st]
          refine hb.run pins s2 σ' H1 D I2 ⟨He, We, W1, _, e.trans x1, sl2, ?_⟩
          rw [es]
          exact AfterS.up q x1.up
theorem simS_match {subject : Expr} {cases : List MatchCase} {m : E} {cs : Cases} {pos : Pos} (hN : X.N.Nodup) (he : PE X subject (tE C m)) (hc : CasesOk X C cases cs) : PS X (.Match subject cases pos) (tS C (.mtch m cs)) := by
  refine ⟨fun pins s σ H D I ⟨He, We, W, ρ, x, sl, q⟩ => ?_⟩
  refine wpAny_Match (thn (he.run pins s σ H (fun v H1 => ∃ p W1, Ext H W H1 W1 ∧ Ext He We H1 W1 ∧ Rep C.K C.fa W1 v p ∧ AfterS C He We W1 (cs.ev C.cf p ρ W1.S) D) I ⟨W, ρ, x.wf, sl.sl, (AfterS.bind (rel := C.rep) x q).mono fun v H1 ⟨p, W1, x1, x2, r1, _, q1⟩ => ⟨p, W1, x1, x2, r1, q1⟩⟩) fun u s1 ⟨v, H1, I1, rv, p, W1, x1, x2, r1, q1⟩ => ?_)
  exact cases_run hN hc true pins s1 σ H1 He We W1 v u p ρ D I1 rv x2 r1 (sl.ext x1) q1
end
end A3

-- Sim10
set_option Elab.async false
set_option linter.all false
set_option maxRecDepth 100000
set_option maxHeartbeats 4000000
/-! Sim10: len(set(..)) of texts. -/
namespace A3
open PySem PySem.Spec PyProof.Rows L2

/-! ### each text once -/
section
variable {α : Type} [DecidableEq α]
def once1 (us : List α) (y : α) : List α := if y ∈ us then us else us ++ [y]
def onceL (xs : List α) : List α := xs.foldl once1 []
theorem onceL_snoc (xs : List α) (y : α) : onceL (xs ++ [y]) = once1 (onceL xs) y := by
  unfold onceL
  rw [List.foldl_append]; rfl
theorem mem_once (k : α) : ∀ (xs us : List α), k ∈ xs.foldl once1 us ↔ k ∈ us ∨ k ∈ xs
  | [], us => by simp
  | y :: xs, us => by
    rw [List.foldl_cons, mem_once k xs]
    have e : k ∈ once1 us y ↔ k ∈ us ∨ k = y := by
      unfold once1
      split
      · rename_i h
        exact ⟨.inl, fun z => z.elim id fun e => e ▸ h⟩
      · rw [List.mem_append, List.mem_singleton]
    rw [e, List.mem_cons, or_assoc]
theorem mem_onceL (xs : List α) (k : α) : k ∈ onceL xs ↔ k ∈ xs := by
  unfold onceL
  rw [mem_once]; simp
theorem once_len : ∀ (xs us : List α), (xs.foldl once1 us).length ≤ us.length + xs.length
  | [], us => by simp
  | y :: xs, us => by
    rw [List.foldl_cons]
    have h := once_len xs (once1 us y)
    have e : (once1 us y).length ≤ us.length + 1 := by
      unfold once1
      split
      · omega
      · rw [List.length_append]; exact Nat.le_refl _
    rw [List.length_cons]; omega
theorem onceL_len (xs : List α) : (onceL xs).length ≤ xs.length := by
  have := once_len xs []
  simpa [onceL] using this
end
/-- the members of the first i of xs, and their number -/
def inFirst (xs : List PySem.Str) (i : Nat) : PySem.Str → Bool := fun k => decide (k ∈ xs.take i)
def nFirst (xs : List PySem.Str) (i : Nat) : Nat := (onceL (xs.take i)).length
theorem first_succ {xs : List PySem.Str} {i : Nat} {x : PySem.Str} (h : xs[i]? = some x) : (∀ k, (inFirst xs i k || decide (k = x)) = inFirst xs (i + 1) k) ∧ (if inFirst xs i x = true then nFirst xs i else nFirst xs i + 1) = nFirst xs (i + 1) := by
  have e : xs.take (i + 1) = xs.take i ++ [x] := by rw [List.take_succ, h]; rfl
  refine ⟨fun k => ?_, ?_⟩
  · unfold inFirst
    rw [e, ← Bool.decide_or]
    congr 1
    rw [List.mem_append, List.mem_singleton]
  · unfold inFirst nFirst
    rw [e, onceL_snoc]
    unfold once1
    by_cases hm : x ∈ xs.take i
    · rw [if_pos (decide_eq_true hm), if_pos ((mem_onceL _ _).mpr hm)]
    · rw [if_neg (by rw [decide_eq_true_eq]; exact hm), if_neg fun z => hm ((mem_onceL _ _).mp z), List.length_append]; rfl

section
variable {prog : Program} {w : World} {A : Around} {R : PySem.Result → Shared → Prop} {I : Addr} {fp wr : List Addr} {G : Array GenState → Array GenState → Prop} {n : Nat} {P : Nat → Value → Prop} {St : Nat → Shared → Prop}
/-- the loop that fills a new set with texts -/
theorem fill_loop (W : WalksS prog w A.in1 I fp wr G n P St) (S : Addr) (hSf : S ∉ fp) (xs : List PySem.Str) (hsz : xs.length = n) (hn1 : n < 64) (hval : ∀ i v, P i v → ∃ t, v = .str (xs.getD i Str.empty) t) :
    ∀ (k i : Nat) (s : Shared), n - i = k → i ≤ n → St i s → s.heap.SetOf (PySem.strKind prog w) S (inFirst xs i) (nFirst xs i) →
      (∀ s', Moved (S :: wr) G s s' → s'.heap.SetOf (PySem.strKind prog w) S (inFirst xs n) (nFirst xs n) → R (.ok (.ret .none)) s') →
      codeAny (model prog w) A (.builtin "set.update.loop" ⟨[.ref S, .ref I], []⟩) R s := by
  have hSw : S ∉ wr := fun h => hSf (W.sub _ h)
  have hsub : ∀ b ∈ wr, b ∈ S :: wr := fun b hb => List.mem_cons_of_mem _ hb
  have stays : ∀ {s s' : Shared} {i : Nat}, s.heap.SetOf (PySem.strKind prog w) S (inFirst xs i) (nFirst xs i) → Moved wr G s s' → s'.heap.SetOf (PySem.strKind prog w) S (inFirst xs i) (nFirst xs i) := fun hS hm => by
    obtain ⟨o, es, ep, t, ho, rest⟩ := hS
    exact ⟨o, es, ep, t, hm.heap S _ hSw ho, rest⟩
  intro k
  induction k with
  | zero =>
    intro i s hk hi hst hS hR
    obtain rfl : i = n := by omega
    refine codeAny_builtin PyProof.Rows.F.entry_set_update_loop ?_
    rw [Around.under_plainId PyProof.Rows.F.plain_set_update_loop _]
    show wpAny _ A.in1 (pyNext (.ref I) >>= _) _ _ s
    refine wpAny_bind (W.done s _ _ hst fun s' hm => ?_)
    show wpAny _ A.in1 (ret Value.none) _ _ s'
    exact wpAny_pure (hR s' (hm.mono hsub) (stays hS hm))
  | succ k ih =>
    intro i s hk hi hst hS hR
    have hlt : i < n := by omega
    refine codeAny_builtin PyProof.Rows.F.entry_set_update_loop ?_
    rw [Around.under_plainId PyProof.Rows.F.plain_set_update_loop _]
    show wpAny _ A.in1 (pyNext (.ref I) >>= _) _ _ s
    refine wpAny_bind (W.item i s _ _ hlt hst fun v s' hP hst' hm => ?_)
    obtain ⟨t, rfl⟩ := hval i v hP
    have hx : xs[i]? = some (xs.getD i Str.empty) := by
      rw [List.getD_eq_getElem?_getD, List.getElem?_eq_getElem (by omega)]; rfl
    obtain ⟨f1, f2⟩ := first_succ hx
    have hS1 := stays hS hm
    have hz : nFirst xs i ≤ i := Nat.le_trans (onceL_len _) (List.length_take_le _ _)
    show wpAny _ A.in1 (holding [Value.str (xs.getD i Str.empty) t] (setAdd S (.str (xs.getD i Str.empty) t)) >>= _) _ _ s'
    refine wpAny_bind (wpAny_holding ?_)
    unfold setAdd
    refine wpAny_holding ?_
    refine wpAny_bind ((PySem.strKind prog w).pyHash (k := xs.getD i Str.empty) (strKind_is _ _ _ _) ?_)
    refine wpAny_setAddHashed_of (knd := PySem.strKind prog w) (s := { s' with toks := s'.toks + 1 }) (strKind_is _ _ _ _) rfl hS1 (by unfold scanBound; omega) fun h' hsb hS2 => ?_
    have hSi : h'.SetOf (PySem.strKind prog w) S (inFirst xs (i + 1)) (nFirst xs (i + 1)) := SetOf_congr hS2 f1 f2
    refine wpAny_pure ⟨plainId_quiet PyProof.Rows.F.plain_set_update_loop _, ih (i + 1) _ (by omega) hlt (W.frame _ s' _ _ hst' (Nat.le_succ _) fun b hb o e => ?_) hSi fun s'' hm'' hS'' => ?_⟩
    · rw [hsb.2 b (fun h : b = S => hSf (by rw [← h]; exact hb))]; exact e
    · refine hR s'' (Moved.trans W.gtrans ((hm.mono hsub).then_heap (Nat.le_succ _) fun b o hb e => ?_) hm'') hS''
      rw [hsb.2 b (fun h : b = S => hb (by rw [h]; exact List.mem_cons_self))]; exact e
end

section
variable {prog : Program} {w : World} {A : Around} {E : Value → Shared → Prop} {s : Shared}
theorem call_setList {l : Addr} {items : Array Value} {xs : List PySem.Str} {Q : Value → Shared → Prop} (hh : A.handled = none) (hl : s.heap.IsList l items) (hi : PyProof.Rows.StrsAre items.toList xs) (hn1 : xs.length < 64)
    (h : ∀ (h' : Heap) (tk : Nat), h'.SetOf (PySem.strKind prog w) s.heap.objs.size (inFirst xs items.size) (nFirst xs items.size) → (∀ b o, b < s.heap.objs.size → s.heap.get? b = some o → h'.get? b = some o) → Q (.ref s.heap.objs.size) { s with heap := h', toks := tk }) :
    wpAny (model prog w) A (call (.type "set") [.ref l]) Q E s := by
  obtain ⟨c, tl, hmro⟩ := PySem.F.called_set.mro
  have hmade := PySem.F.called_set.made
  have hsub := PySem.F.called_set.sub
  refine wpAny_call (codeAny_of_tree ?_)
  show wpAny _ _ (callAny (.type "set") _) _ _ _
  refine wpAny_pure ⟨Code.quiet_builtin _ (by decide +kernel), codeAny_builtin PySem.F.entry_type_call ?_⟩
  rw [Around.under_plain (weight_type_call_type "set" [.ref l] []) rfl]
  have h1 := PySem.F.called_set.notType
  have h2 := PySem.F.called_set.canCreate
  have hct := PySem.F.typeCall_set_1 (.ref l)
  repeat (any_goals (first | assumption | wp_step))
  refine codeAny_mono (code_set_new_1 (.ref l) (E := E) (Q₁ := fun obj s₁ => ∃ led : Bool, obj = .ref s.heap.objs.size ∧ s₁ = { s with heap := s.heap.push { cls := .type "set", dict := none, data := .set #[] 0 (.fresh 0 0 led) } }) fun led => ⟨led, rfl, rfl⟩) fun r s₁ hr => ?_
  cases r with
  | error e => exact hr
  | ok fl =>
    cases fl with
    | ret obj =>
      obtain ⟨led, rfl, rfl⟩ := hr
      have hS : (s.heap.push { cls := .type "set", dict := none, data := .set #[] 0 (.fresh 0 0 led) }).get? s.heap.objs.size = some { cls := .type "set", dict := none, data := .set #[] 0 (.fresh 0 0 led) } := Heap.get?_push_size _ rfl
      have hT : Shared.TypeIs { s with heap := s.heap.push { cls := .type "set", dict := none, data := .set #[] 0 (.fresh 0 0 led) } } (.ref s.heap.objs.size) "set" := ⟨_, hS, rfl⟩
      have hli := PySem.F.called_set.init.lookup
      have hbi := PySem.F.called_set.init.bind (.ref s.heap.objs.size)
      repeat (any_goals (first | assumption | wp_step))
      refine codeAny_mono (codeAny_call_builtin (R := wants (fun r s₂ => r = .none ∧ ∃ h' tk, s₂ = { s with heap := h', toks := tk } ∧ h'.SetOf (PySem.strKind prog w) s.heap.objs.size (inFirst xs items.size) (nFirst xs items.size) ∧
          (∀ b o, b < s.heap.objs.size → s.heap.get? b = some o → h'.get? b = some o)) E) PySem.F.called_set.init.plain PySem.F.entry_set_init (check_set_init_1 hT ?_)) fun r₂ s₂ hr₂ => ?_
      · obtain ⟨⟨ocls, odict, odata, oslots⟩, hol, hcl, nl, hdl⟩ := hl
        simp only at hcl hdl
        subst hcl; subst hdl
        have hol' : (s.heap.push { cls := .type "set", dict := none, data := .set #[] 0 (.fresh 0 0 led) }).get? l = some { cls := .type "list", dict := odict, data := .seq items nl, slots := oslots } := Heap.get?_push_of_some _ hol
        have hsls := PySem.F.sub_list_set
        have hslf := PySem.F.sub_list_frozenset
        have hne : (Value.type "list" == Value.type "dict") = false := by decide
        have hl1 : (s.heap.push { cls := .type "set", dict := none, data := .set #[] 0 (.fresh 0 0 led) }).IsList l items := ⟨_, hol', rfl, nl, rfl⟩
        unfold Builtin.«set.__init__» noKeywords Builtin.Frozenset.updateFrom
        generalize hPI : pyIter = PI
        wp_walk
        subst hPI
        refine wpAny_pyIter_list hl1 ?_
        refine wpAny_bind (wpAny_runValue ?_)
        have hlS : l < s.heap.objs.size := Heap.lt_size hol
        have hh3 : A.in1.in1.in1.handled = none := by simp [hh]
        have e1 : (s.heap.push { cls := .type "set", dict := none, data := .set #[] 0 (.fresh 0 0 led) }).objs.size = s.heap.objs.size + 1 := Heap.size_push ..
        have hneI : l ≠ (s.heap.push { cls := .type "set", dict := none, data := .set #[] 0 (.fresh 0 0 led) }).objs.size := by
          rw [e1]; exact Nat.ne_of_lt (Nat.lt_succ_of_lt hlS)
        have hSf : s.heap.objs.size ∉ [(s.heap.push { cls := .type "set", dict := none, data := .set #[] 0 (.fresh 0 0 led) }).objs.size, l] := by
          rw [e1]; simp only [List.mem_cons, List.mem_singleton, List.not_mem_nil, or_false, not_or]
          exact ⟨Nat.ne_of_lt (Nat.lt_succ_self _), Nat.ne_of_gt hlS⟩
        have hsz : xs.length = items.size := by rw [← StrsAre.len_eq hi, Array.length_toList]
        refine fill_loop ((Walks.list hh3 _ l hneI items).toS) s.heap.objs.size hSf xs hsz (by rw [← hsz]; exact hn1) (fun i v hv => SS.strs_at hi i v (by rw [Array.getElem?_toList]; exact hv)) (items.size - 0) 0 _ (by omega) (Nat.zero_le _)
          ⟨⟨_, Heap.get?_push_size _ rfl, rfl, rfl⟩, (hl1.push _)⟩ ?hS0 ?hR
        case hS0 =>
          have hget : ((s.heap.push { cls := .type "set", dict := none, data := .set #[] 0 (.fresh 0 0 led) }).push { cls := .type "list_iterator", data := .fields #[.ref l, .int 0 0] }).get? s.heap.objs.size = some { cls := .type "set", dict := none, data := .set #[] 0 (.fresh 0 0 led) } := Heap.get?_push_of_some _ hS
          exact PyProof.Rows.SetOf_congr ((PyProof.Rows.setObjOf_fresh (knd := PySem.strKind prog w) led).setOf hget (by unfold scanBound; omega)) (fun _ => rfl) rfl
        case hR =>
          rintro ⟨h', g', d', tk', os'⟩ hm hS'
          obtain rfl : g' = s.gens := hm.gens
          obtain rfl : d' = s.drawn := hm.drawn
          obtain rfl : os' = s.os := hm.os
          show wpAny _ _ _ _ _ _
          refine wpAny_pure ?_
          show wpAny _ _ (ret Value.none) _ _ _
          refine wpAny_pure ⟨rfl, h', tk', rfl, hS', fun b o hb e => ?_⟩
          have hb1 : b ≠ s.heap.objs.size := Nat.ne_of_lt hb
          have hb2 : b ≠ (s.heap.push { cls := .type "set", dict := none, data := .set #[] 0 (.fresh 0 0 led) }).objs.size := by
            rw [e1]; exact Nat.ne_of_lt (Nat.lt_succ_of_lt hb)
          exact hm.heap b o (by simp only [List.mem_cons, List.mem_singleton, List.not_mem_nil, or_false, not_or]; exact ⟨hb1, hb2⟩) (Heap.get?_push_of_some _ (Heap.get?_push_of_some _ e))
      · cases r₂ with
        | error e => exact hr₂
        | ok fl₂ =>
          cases fl₂ with
          | ret r =>
            obtain ⟨rfl, h', tk, rfl, hS', hk'⟩ := hr₂
            repeat (any_goals (first | assumption | wp_step))
            exact h _ _ hS' hk'
          | _ => exact hr₂.elim
    | _ => exact hr.elim
end

section
variable {prog : Program} {w : World} {A : Around} {E : Value → Shared → Prop} {s : Shared}
theorem call_setTuple {l : Addr} {items : Array Value} {xs : List PySem.Str} {Q : Value → Shared → Prop} (hh : A.handled = none) (hl : s.heap.IsTuple l items) (hi : PyProof.Rows.StrsAre items.toList xs) (hn1 : xs.length < 64)
    (h : ∀ (h' : Heap) (tk : Nat), h'.SetOf (PySem.strKind prog w) s.heap.objs.size (inFirst xs items.size) (nFirst xs items.size) → (∀ b o, b < s.heap.objs.size → s.heap.get? b = some o → h'.get? b = some o) → Q (.ref s.heap.objs.size) { s with heap := h', toks := tk }) :
    wpAny (model prog w) A (call (.type "set") [.ref l]) Q E s := by
  obtain ⟨c, tl, hmro⟩ := PySem.F.called_set.mro
  have hmade := PySem.F.called_set.made
  have hsub := PySem.F.called_set.sub
  refine wpAny_call (codeAny_of_tree ?_)
  show wpAny _ _ (callAny (.type "set") _) _ _ _
  refine wpAny_pure ⟨Code.quiet_builtin _ (by decide +kernel), codeAny_builtin PySem.F.entry_type_call ?_⟩
  rw [Around.under_plain (weight_type_call_type "set" [.ref l] []) rfl]
  have h1 := PySem.F.called_set.notType
  have h2 := PySem.F.called_set.canCreate
  have hct := PySem.F.typeCall_set_1 (.ref l)
  repeat (any_goals (first | assumption | wp_step))
  refine codeAny_mono (code_set_new_1 (.ref l) (E := E) (Q₁ := fun obj s₁ => ∃ led : Bool, obj = .ref s.heap.objs.size ∧ s₁ = { s with heap := s.heap.push { cls := .type "set", dict := none, data := .set #[] 0 (.fresh 0 0 led) } }) fun led => ⟨led, rfl, rfl⟩) fun r s₁ hr => ?_
  cases r with
  | error e => exact hr
  | ok fl =>
    cases fl with
    | ret obj =>
      obtain ⟨led, rfl, rfl⟩ := hr
      have hS : (s.heap.push { cls := .type "set", dict := none, data := .set #[] 0 (.fresh 0 0 led) }).get? s.heap.objs.size = some { cls := .type "set", dict := none, data := .set #[] 0 (.fresh 0 0 led) } := Heap.get?_push_size _ rfl
      have hT : Shared.TypeIs { s with heap := s.heap.push { cls := .type "set", dict := none, data := .set #[] 0 (.fresh 0 0 led) } } (.ref s.heap.objs.size) "set" := ⟨_, hS, rfl⟩
      have hli := PySem.F.called_set.init.lookup
      have hbi := PySem.F.called_set.init.bind (.ref s.heap.objs.size)
      repeat (any_goals (first | assumption | wp_step))
      refine codeAny_mono (codeAny_call_builtin (R := wants (fun r s₂ => r = .none ∧ ∃ h' tk, s₂ = { s with heap := h', toks := tk } ∧ h'.SetOf (PySem.strKind prog w) s.heap.objs.size (inFirst xs items.size) (nFirst xs items.size) ∧
          (∀ b o, b < s.heap.objs.size → s.heap.get? b = some o → h'.get? b = some o)) E) PySem.F.called_set.init.plain PySem.F.entry_set_init (check_set_init_1 hT ?_)) fun r₂ s₂ hr₂ => ?_
      · obtain ⟨⟨ocls, odict, odata, oslots⟩, hol, hcl, nl, hdl⟩ := hl
        simp only at hcl hdl
        subst hcl; subst hdl
        have hol' : (s.heap.push { cls := .type "set", dict := none, data := .set #[] 0 (.fresh 0 0 led) }).get? l = some { cls := .type "tuple", dict := odict, data := .seq items nl, slots := oslots } := Heap.get?_push_of_some _ hol
        have hsls := PySem.F.sub_tuple_set
        have hslf := PySem.F.sub_tuple_frozenset
        have hne : (Value.type "tuple" == Value.type "dict") = false := by decide
        have hl1 : (s.heap.push { cls := .type "set", dict := none, data := .set #[] 0 (.fresh 0 0 led) }).IsTuple l items := ⟨_, hol', rfl, nl, rfl⟩
        unfold Builtin.«set.__init__» noKeywords Builtin.Frozenset.updateFrom
        generalize hPI : pyIter = PI
        wp_walk
        subst hPI
        refine wpAny_pyIter_tuple hl1 ?_
        refine wpAny_bind (wpAny_runValue ?_)
        have hlS : l < s.heap.objs.size := Heap.lt_size hol
        have hh3 : A.in1.in1.in1.handled = none := by simp [hh]
        have e1 : (s.heap.push { cls := .type "set", dict := none, data := .set #[] 0 (.fresh 0 0 led) }).objs.size = s.heap.objs.size + 1 := Heap.size_push ..
        have hneI : l ≠ (s.heap.push { cls := .type "set", dict := none, data := .set #[] 0 (.fresh 0 0 led) }).objs.size := by
          rw [e1]; exact Nat.ne_of_lt (Nat.lt_succ_of_lt hlS)
        have hSf : s.heap.objs.size ∉ [(s.heap.push { cls := .type "set", dict := none, data := .set #[] 0 (.fresh 0 0 led) }).objs.size, l] := by
          rw [e1]; simp only [List.mem_cons, List.mem_singleton, List.not_mem_nil, or_false, not_or]
          exact ⟨Nat.ne_of_lt (Nat.lt_succ_self _), Nat.ne_of_gt hlS⟩
        have hsz : xs.length = items.size := by rw [← StrsAre.len_eq hi, Array.length_toList]
        refine fill_loop ((Walks.tuple hh3 _ l hneI items).toS) s.heap.objs.size hSf xs hsz (by rw [← hsz]; exact hn1) (fun i v hv => SS.strs_at hi i v (by rw [Array.getElem?_toList]; exact hv)) (items.size - 0) 0 _ (by omega) (Nat.zero_le _)
          ⟨⟨_, Heap.get?_push_size _ rfl, rfl, rfl⟩, (hl1.push _)⟩ ?hS0 ?hR
        case hS0 =>
          have hget : ((s.heap.push { cls := .type "set", dict := none, data := .set #[] 0 (.fresh 0 0 led) }).push { cls := .type "tuple_iterator", data := .fields #[.ref l, .int 0 0] }).get? s.heap.objs.size = some { cls := .type "set", dict := none, data := .set #[] 0 (.fresh 0 0 led) } := Heap.get?_push_of_some _ hS
          exact PyProof.Rows.SetOf_congr ((PyProof.Rows.setObjOf_fresh (knd := PySem.strKind prog w) led).setOf hget (by unfold scanBound; omega)) (fun _ => rfl) rfl
        case hR =>
          rintro ⟨h', g', d', tk', os'⟩ hm hS'
          obtain rfl : g' = s.gens := hm.gens
          obtain rfl : d' = s.drawn := hm.drawn
          obtain rfl : os' = s.os := hm.os
          show wpAny _ _ _ _ _ _
          refine wpAny_pure ?_
          show wpAny _ _ (ret Value.none) _ _ _
          refine wpAny_pure ⟨rfl, h', tk', rfl, hS', fun b o hb e => ?_⟩
          have hb1 : b ≠ s.heap.objs.size := Nat.ne_of_lt hb
          have hb2 : b ≠ (s.heap.push { cls := .type "set", dict := none, data := .set #[] 0 (.fresh 0 0 led) }).objs.size := by
            rw [e1]; exact Nat.ne_of_lt (Nat.lt_succ_of_lt hb)
          exact hm.heap b o (by simp only [List.mem_cons, List.mem_singleton, List.not_mem_nil, or_false, not_or]; exact ⟨hb1, hb2⟩) (Heap.get?_push_of_some _ (Heap.get?_push_of_some _ e))
      · cases r₂ with
        | error e => exact hr₂
        | ok fl₂ =>
          cases fl₂ with
          | ret r =>
            obtain ⟨rfl, h', tk, rfl, hS', hk'⟩ := hr₂
            repeat (any_goals (first | assumption | wp_step))
            exact h _ _ hS' hk'
          | _ => exact hr₂.elim
    | _ => exact hr.elim
end

section
variable {X : Cx} {C : Ctx}
theorem strsAre_of : ∀ {ys : List PySem.Str} {us : List Value}, Vals (ys.map V.str) us → StrsAre us ys
  | [], _, .nil => .nil
  | y :: ys, _, .cons r t => by
    obtain ⟨k, rfl⟩ := r
    exact .cons y k (strsAre_of t)
/-- len(set(xs)), xs a list or tuple of texts -/
def tLenSetN (K : PySem.W.Frag) (ta : TE) : TE := fun σ H Q => ta σ H fun x H1 => ∃ (l : Addr) (xs : List PySem.Str), x = .ref l ∧ (SqL K H1 l (xs.map V.str) ∨ SqT K H1 l (xs.map V.str)) ∧ xs.length < 64 ∧ Q (.int (onceL xs).length) H1
theorem pe_lenSetN {a : Expr} {ta : TE} {p p2 q pos : Pos} (hc : X.calm = true) (hg : Gl X "len") (hm : X.mg "len" = none) (hg2 : Gl X "set") (hm2 : X.mg "set" = none) (ha : PE X a ta) (na : starEach [a] X.env = (false, eval a X.env) :: starEach [] X.env) :
    PE X (.Call (.Name "len" p) [.Call (.Name "set" p2) [a] [] q] [] pos) (tLenSetN X.K ta) := by
  refine ⟨fun pins s σ H Q I h => ?_⟩
  refine Call_ (ld_blt I hg hm boot_len ?_)
  refine PyProof.Rows.callWith_builtin1 (PyProof.Rows.args_cons ?_ rfl) rfl rfl
  refine Call_ (ld_blt I hg2 hm2 boot_set ?_)
  refine PyProof.Rows.callWith_type1 (PyProof.Rows.args_cons (thn (ha.run pins s σ H _ I h) fun v s1 ⟨x, H1, I1, r1, q1⟩ => PyProof.Rows.args_nil ?_) na) na rfl
  obtain ⟨l, xs, rfl, hq, h1, q1⟩ := q1
  cases r1
  have fin : ∀ (its : List Value), Vals (xs.map V.str) its → ∀ (h' : Heap) (tk : Nat), h'.SetOf (PySem.strKind X.prog X.w) s1.heap.objs.size (inFirst xs its.toArray.size) (nFirst xs its.toArray.size) → (∀ b o, b < s1.heap.objs.size → s1.heap.get? b = some o → h'.get? b = some o) →
      wpAny (model X.prog X.w) X.A (spliced (backTo pos (starEach [] X.env))) (fun vs s₂ => wpAny (model X.prog X.w) X.A (call (.builtin "len") (Value.ref s1.heap.objs.size :: vs)) (EP X pins σ Q) X.xe s₂) X.xe { s1 with heap := h', toks := tk } := fun its r h' tk hS hk => by
    refine PyProof.Rows.args_nil ?_
    have hl : its.toArray.size = xs.length := by rw [List.size_toArray, ← r.length, List.length_map]
    have e : nFirst xs its.toArray.size = (onceL xs).length := by unfold nFirst; rw [hl, List.take_length]
    have hz := onceL_len xs
    rw [e] at hS
    obtain ⟨o, es, ep, t, ho, hex, hd, _, _, _, hf, hn⟩ := hS
    have I2 : Inv X pins σ H1 { s1 with heap := h', toks := tk } := I1.kept fun b o e => hk b o (Heap.lt_size e) e
    exact call_len_set ho hex hd hf (by rw [hn] <;> omega) ⟨.int (onceL xs).length, H1, I2.tok _, ⟨_, by rw [hn]⟩, q1⟩
  rcases hq with hq | hq
  · obtain ⟨its, r, pl, hz⟩ := I1.list hq
    exact call_setList (I1.ok.hd hc) pl.isList (by simpa using strsAre_of r) h1 fun h' tk hS hk => fin its r h' tk hS hk
  · obtain ⟨its, r, pl, hz⟩ := I1.tuple hq
    exact call_setTuple (I1.ok.hd hc) pl (by simpa using strsAre_of r) h1 fun h' tk hS hk => fin its r h' tk hS hk
theorem allStrs_rep {W : Wd} : ∀ {vs : List V} {ps : List PV} {ts : List Tx}, RepL C.K C.fa W vs ps → allStrs ps = some ts → vs = (ts.map toStr).map V.str ∧ ps.length = ts.length
  | _, _, ts, .nil, h => by cases h; exact ⟨rfl, rfl⟩
  | _, _, ts, .cons (p := p) (ps := ps) r t, h => by
    cases p with
    | str x =>
      replace h : (allStrs ps).map (x :: ·) = some ts := h
      obtain ⟨us, e, rfl⟩ := Option.map_eq_some_iff.mp h
      obtain ⟨e1, e2⟩ := allStrs_rep t e
      obtain ⟨rfl, _⟩ := r.str_inv
      exact ⟨by rw [e1]; rfl, by rw [List.length_cons, e2]; rfl⟩
    | _ => cases h
theorem once_map : ∀ (ts : List Tx), onceL (ts.map toStr) = (distT ts).map toStr := by
  have key : ∀ (ts us : List Tx), (ts.map toStr).foldl once1 (us.map toStr) = (ts.foldl (fun us y => if y ∈ us then us else us ++ [y]) us).map toStr := fun ts => by
    induction ts with
    | nil => intro us; rfl
    | cons t ts ih =>
      intro us
      rw [List.map_cons, List.foldl_cons, List.foldl_cons, ← ih]
      congr 1
      unfold once1
      have e : toStr t ∈ us.map toStr ↔ t ∈ us := by
        rw [List.mem_map]
        exact ⟨fun ⟨y, h1, h2⟩ => toStr_inj h2 ▸ h1, fun h => ⟨t, h, rfl⟩⟩
      by_cases h : t ∈ us
      · rw [if_pos h, if_pos (e.mpr h)]
      · rw [if_neg h, if_neg fun z => h (e.mp z), List.map_append]; rfl
  exact fun ts => key ts []
theorem simE_lenset {a : Expr} {ma : E} {p p2 q pos : Pos} (hK : X.K = C.K) (hc : X.calm = true) (hg : Gl X "len") (hm : X.mg "len" = none) (hg2 : Gl X "set") (hm2 : X.mg "set" = none) (ha : PE X a (tB C ma)) (hs : notStar a = true) : PE X (.Call (.Name "len" p) [.Call (.Name "set" p2) [a] [] q] [] pos) (tE C (.lenset ma)) :=
  (pe_lenSetN hc hg hm hg2 hm2 ha (star_cons hs)).weak fun σ H Q ⟨W, ρ, wf, sl, q⟩ => ⟨W, ρ, wf, sl, (After.bind (rel := RelB C σ ρ) q).mono fun x H1 ⟨p, W1, x1, r1, _, q1⟩ => by
    obtain ⟨r, e, q2⟩ := q1.of
    have v1 := r1.vb (sl.ext x1)
    replace e : lenSetV p = some r := e
    unfold lenSetV at e
    split at e
    · obtain ⟨ts, e1, e2⟩ := Option.bind_eq_some_iff.mp e
      split at e2
      · rename_i hz
        cases e2
        obtain ⟨l, vs, rfl, d, rv, _⟩ := v1.lst x1.wf
        obtain ⟨rfl, _⟩ := allStrs_rep rv e1
        refine ⟨l, ts.map toStr, rfl, .inl (hK ▸ d), by rw [List.length_map]; exact hz, ?_⟩
        rw [once_map, List.length_map]
        exact q2.fin x1.wf (.int _)
      · cases e2
    · obtain ⟨ts, e1, e2⟩ := Option.bind_eq_some_iff.mp e
      split at e2
      · rename_i hz
        cases e2
        obtain ⟨l, vs, rfl, d, rv, _⟩ := v1.tup
        obtain ⟨rfl, _⟩ := allStrs_rep rv e1
        refine ⟨l, ts.map toStr, rfl, .inr (Same.sqT x1.wf.sub (hK ▸ d)), by rw [List.length_map]; exact hz, ?_⟩
        rw [once_map, List.length_map]
        exact q2.fin x1.wf (.int _)
      · cases e2
    · cases e⟩
end
end A3

-- Sim11
set_option Elab.async false
set_option linter.all false
set_option maxRecDepth 100000
set_option maxHeartbeats 4000000
/-! Sim11: stars in displays, index, enumerate. -/
namespace A3
open PySem PySem.Spec PyProof.Rows L2

section
variable {X : Cx} {C : Ctx}
/-! ### stars -/
theorem simA_star {e : Expr} {es : List Expr} {p : Pos} {m : E} {ms : Es} (hK : X.K = C.K) (he : PE X e (tB C m)) (hr : PA X es (tEs C ms)) : PA X (.Starred e p :: es) (tEs C (.star m ms)) :=
  (StX.pa_star he hr).weak fun σ H Q ⟨W, ρ, wf, sl, q⟩ => ⟨W, ρ, wf, sl, (After.bind (rel := RelB C σ ρ) q).mono fun x H1 ⟨p, W1, x1, r1, _, q1⟩ => by
    have v1 := r1.vb (sl.ext x1)
    cases hp : starOf p with
    | none => rw [hp] at q1; exact q1.elim
    | some ys =>
      rw [hp] at q1
      replace q1 : After C.repL W1 H1 ((ms.ev C.cf ρ W1.S).bind fun zs S => if ys.length + zs.length ≤ 65536 then A3.R.ok (ys ++ zs) S else .bad) Q := q1
      obtain ⟨a, xs, rfl, d, rv⟩ : ∃ a xs, x = .ref a ∧ (SqT X.K H1 a xs ∨ SqL X.K H1 a xs) ∧ RepL C.K C.fa W1 xs ys := by
        unfold starOf at hp
        split at hp
        · cases hp
          obtain ⟨a, xs, rfl, d, r, _⟩ := v1.lst x1.wf
          exact ⟨a, xs, rfl, .inr (hK ▸ d), r⟩
        · cases hp
          obtain ⟨a, xs, rfl, d, r, _⟩ := v1.tup
          exact ⟨a, xs, rfl, .inl (Same.sqT x1.wf.sub (hK ▸ d)), r⟩
        · cases hp
      refine ⟨a, xs, rfl, d, W1, ρ, x1.wf, sl.ext x1, (After.bind (rel := C.repL) q1).mono fun zs H2 ⟨ps, W2, x2, r2, _, q2⟩ => ?_⟩
      split at q2
      · exact After.fin (rel := C.repL) q2 x2.wf ((rv.ext x2).append r2)
      · exact q2.elim⟩

/-! ### methods of built-in things, by what the receiver is -/
def baseOk : Expr → Bool
  | .Call (.Name _ _) [] [] _ => false
  | _ => true
theorem base_ok {o : Expr} {name : Str} {env : PySem.Env} (h : baseOk o = true) : attributeBase o name env (eval o env) = eval o env := by
  unfold attributeBase
  split
  · cases h
  · rfl
def tBMo (X : Cx) (name : Str) (to : TE) (t : TA) : TE := fun σ H Q => to σ H fun x H1 => ∃ (T id : String) (r : V → List V → Hp → VK → Prop), PlainAttrs T ∧ Slot T name id ∧ typeOf (.builtin id) = pure (.type "method_descriptor") ∧ MtR X id r ∧ tyV X.K T x H1 ∧ t σ H1 fun xs H2 => r x xs H2 Q
theorem pe_bmO {o e : Expr} {to : TE} {t : TA} {name : Str} {apos cpos : Pos} (ho : PE X o to) (ha : PA X [e] t) (hb : baseOk o = true) (hs : notStar e = true) (hline : (apos.endLine == cpos.line) = true) : PE X (.Call (.Attribute o name apos) [e] [] cpos) (tBMo X name to t) := by
  refine ⟨fun pins s σ H Q I h => ?_⟩
  have hs1 : starEach [e] X.env = (false, eval e X.env) :: starEach [] X.env := star_cons hs
  have hfew : ((backTo cpos (starEach [e] X.env)).all (fun x => !x.1) && (backToKw cpos (keywordEach [] X.env)).all (fun x => x.1.isSome)
      && decide ([e].length + ([] : List Keyword).length + (if ([] : List Keyword).isEmpty then 0 else 1) < 30)) = true := by rw [hs1]; rfl
  refine wpAny_Call_method_late (base_ok hb) hfew hline rfl (thn (ho.run pins s σ H _ I h) fun v s1 ⟨x, H1, I1, r1, T, id, r, pa, slot, hty, hm, ty, q1⟩ => ?_)
  obtain ⟨h1, h2⟩ := tyV_is I1 r1 ty
  refine ⟨T, id, pa, slot, hty, h1, h2, ?_⟩
  have hA := ha.run cpos pins s1 σ H1 _ I1 q1
  rw [hs1] at hA ⊢
  refine Calls.callWith_builtin rfl (Calls.evalArgs_plain ?_)
  exact thn hA fun us s2 ⟨vs, H2, I2, r2, q2⟩ => hm pins s2 σ H2 x vs v us Q I2 r1 r2 q2
theorem After.ok {α β : Type} {rel : Wd → β → α → Prop} {W : Wd} {H : Hp} {r : A3.R α} {Q : β → Hp → Prop} (h : After rel W H r Q) : ∃ p S, r = .ok p S := by
  cases r with
  | ok p S => exact ⟨p, S, rfl⟩
  | exc _ _ => exact h.elim
  | bad => exact h.elim
theorem firstAt_some {x : PV} : ∀ {ys : List PV} {k n : Nat}, firstAt x ys k = some n → ∃ (j : Nat) (z : PV), n = k + j ∧ ys[j]? = some z ∧ PV.eqv z x = true ∧ ∀ (m : Nat) (z' : PV), m < j → ys[m]? = some z' → PV.eqv z' x = false
  | [], _, _, h => by cases h
  | y :: ys, k, n, h => by
    unfold firstAt at h
    cases hy : PV.eqv y x with
    | true =>
      rw [hy] at h
      cases h
      exact ⟨0, y, rfl, rfl, hy, fun m z' hm => absurd hm (Nat.not_lt_zero _)⟩
    | false =>
      rw [hy] at h
      obtain ⟨j, z, e, h1, h2, h3⟩ := firstAt_some (show firstAt x ys (k + 1) = some n from h)
      refine ⟨j + 1, z, by omega, h1, h2, fun m z' hm hz => ?_⟩
      cases m with
      | zero => cases hz; exact hy
      | succ m => exact h3 m z' (by omega) hz
theorem simE_idxOf {a b : Expr} {ma mb : E} {apos pos : Pos} (hK : X.K = C.K) (hu : X.A.units + 65 < cLine) (ha : PE X a (tB C ma)) (hb : PE X b (tE C mb)) (hba : baseOk a = true) (hs : notStar b = true) (hline : (apos.endLine == pos.line) = true) :
    PE X (.Call (.Attribute a "index" apos) [b] [] pos) (tE C (.idxOf ma mb)) :=
  (pe_bmO ha (pa_cons hb pa_nil (star_cons hs)) hba hs hline).weak fun σ H Q ⟨W, ρ, wf, sl, q⟩ => ⟨W, ρ, wf, sl, (After.bind (rel := RelB C σ ρ) q).mono fun x H1 ⟨p, W1, x1, r1, _, q1⟩ => by
    have v1 := r1.vb (sl.ext x1)
    obtain ⟨y, S2, hy⟩ : ∃ y S, mb.ev C.cf ρ W1.S = .ok y S := (After.bind (rel := C.rep) q1).ok
    have hsome : ∃ r, idxOfV p y = some r := by
      rw [hy] at q1
      obtain ⟨r, e, _⟩ := After.of (show After C.rep W1 H1 (A3.R.of (idxOfV p y) S2) Q from q1)
      exact ⟨r, e⟩
    obtain ⟨r, hr⟩ := hsome
    have hr0 := hr
    unfold idxOfV at hr
    split at hr
    · rename_i ys _
      split at hr
      · rename_i hd
        rw [Bool.and_eq_true] at hd
        obtain ⟨n, hn, rfl⟩ := Option.map_eq_some_iff.mp hr
        obtain ⟨l, xs, rfl, d, rv, _⟩ := v1.lst x1.wf
        refine ⟨"list", "list.index", _, PySem.F.plainAttrs_list, PySem.F.slot_list_index, PySem.F.type_list_index, mt_indexD hu, .inl ⟨rfl, xs, hK ▸ d⟩, W1, ρ, x1.wf, sl.ext x1, (After.bind (rel := C.rep) q1).mono fun z H2 ⟨p2, W2, x2, r2, e2, q2⟩ => ?_⟩
        rw [hy] at e2
        cases e2
        obtain ⟨r', e3, q3⟩ := q2.of
        rw [hr0] at e3
        cases e3
        obtain ⟨j, zz, e4, h1, h2, h3⟩ := firstAt_some hn
        obtain ⟨a1, a2, a3⟩ := dp_of 32 r2 hd.1
        obtain ⟨b1, b2, b3⟩ := dpL_of 32 (rv.ext x2) hd.2
        have hall := List.all_eq_true.mp hd.2
        refine ⟨l, z, toPy y, toPyL ys, j, toPy zz, rfl, rfl, hK ▸ .lst (Same.sqL x2.hs d) (DpAll.mono x2.wf.sub b1), hK ▸ Dp.mono x2.wf.sub a1, shaped_of (by unfold PyData.canLay0; exact b2) (by unfold PyData.depth; omega), shaped_of a2 (Nat.le_trans a3 (by decide)), ?_, ?_, fun m z' hm hz => ?_, ?_⟩
        · rw [toPyL_map, List.getElem?_map, h1]; rfl
        · rw [eqv_py 32 32 zz y (hall zz (List.mem_of_getElem? h1)) hd.1]; exact h2
        · rw [toPyL_map, List.getElem?_map] at hz
          obtain ⟨w, hw, rfl⟩ := Option.map_eq_some_iff.mp hz
          rw [eqv_py 32 32 w y (hall w (List.mem_of_getElem? hw)) hd.1]; exact h3 m w hm hw
        · have en : n = j := by omega
          subst en
          exact q3.fin x2.wf (.int _)
      · cases hr
    · cases hr⟩
end
end A3

-- Sim12
set_option Elab.async false
set_option linter.all false
set_option maxRecDepth 100000
set_option maxHeartbeats 4000000
/-! Sim12: enumerate of a list, of a tuple. -/
namespace A3
open PySem PySem.Spec PyProof.Rows L2

theorem meets_enum1 {v : Value} {o : Obj} {H : Heap → Prop} (B : Begins v o H) :
    Meets (Builtin.«enumerate.__new__» ⟨[.type "enumerate", v], []⟩) (fun _ R s => H s.heap ∧
      R (.ok (.ret (.ref (s.heap.push o).objs.size))) { s with heap := (s.heap.push o).push { cls := .type "enumerate", data := .fields #[.none, .bool false, .ref s.heap.objs.size, rawInt 0, .none, .none] } }) :=
  .of_wp fun prog w A R s h => by
    obtain ⟨hp, g, d, tk, os⟩ := s
    obtain ⟨h1, h⟩ := h
    have hsub := sub_enumerate
    have q1 : ∀ {A' : Around} {E : Value → Shared → Prop} {Q : Value → Shared → Prop}, Q (.ref hp.objs.size) ⟨hp.push o, g, d, tk, os⟩ → wpAny (model prog w) A' (pyIter v) Q E ⟨hp, g, d, tk, os⟩ := fun q => B.iter prog w _ _ ⟨hp, g, d, tk, os⟩ _ h1 q
    wp_walk using q1
    refine wpAny_stack_any fun st => wpAny_pure ?_
    split
    · rename_i c _ _ _ _ _
      cases (c == Value.type "enumerate")
      · wp_walk using q1
        exact ⟨_, rfl, h⟩
      · wp_walk using q1
        exact ⟨_, rfl, h⟩
    · wp_walk using q1
      exact ⟨_, rfl, h⟩
theorem call_enum1 {prog : Program} {w : World} {A : Around} {E : Value → Shared → Prop} {s : Shared} {v : Value} {o : Obj} {H : Heap → Prop} {Q : Value → Shared → Prop} (B : Begins v o H) (h1 : H s.heap)
    (h : ∀ h', IsEnum h' (s.heap.objs.size + 1) s.heap.objs.size 0 .none → h'.get? s.heap.objs.size = some o → (∀ b o, s.heap.get? b = some o → h'.get? b = some o) → Q (.ref (s.heap.objs.size + 1)) { s with heap := h' }) :
    wpAny (model prog w) A (call (.type "enumerate") [v]) Q E s := by
  refine callType_new PySem.F.called_enumerate (by decide) (PySem.F.typeCall_enumerate_1 _) (PySem.F.newCall_enumerate_1 _) (fun obj => PySem.F.args_object_init_2 obj _) PySem.F.entry_enumerate_new (meets_enum1 B) ⟨h1, ?_⟩
  have hz : (s.heap.push o).objs.size = s.heap.objs.size + 1 := Heap.size_push ..
  show _ ∧ _
  rw [hz]
  have he : IsEnum ((s.heap.push o).push { cls := .type "enumerate", data := .fields #[.none, .bool false, .ref s.heap.objs.size, rawInt 0, .none, .none] }) (s.heap.objs.size + 1) s.heap.objs.size 0 .none := by
    have := Heap.get?_push_size (s.heap.push o) (o := { cls := .type "enumerate", data := .fields #[.none, .bool false, .ref s.heap.objs.size, rawInt 0, .none, .none] }) rfl
    rw [hz] at this
    exact this
  exact ⟨⟨_, he, rfl⟩, h _ he (Heap.get?_push_of_some _ (Heap.get?_push_size _ B.free)) fun b o x => Heap.get?_push_of_some _ (Heap.get?_push_of_some _ x)⟩

theorem iter_ne {h : Heap} {a it : Addr} {items : Array Value} {i : Nat} (pt : h.IsTuple a items) (hit : h.IsTupleIter it a i) : a ≠ it := fun z => by
  subst z
  obtain ⟨o1, g1, c1, _⟩ := pt
  obtain ⟨o2, g2, c2, _⟩ := hit
  rw [g1] at g2
  cases g2
  rw [c1] at c2
  exact absurd c2 (by decide)
/-- the tuple at a, each item in a new pair with its place -/
def IteT (K : PySem.W.Frag) (a : Addr) : L2.It :=
  ⟨fun i H => ∃ (xs : List V) (x : V), SqT K H a xs ∧ xs[i]? = some x, fun i H v H' => ∃ T x, v = .ref T ∧ H T = none ∧ H' = upd H T (.tup [.int (i : Nat), x]) ∧ ∀ xs, SqT K H a xs → xs[i]? = some x, fun i H => ∃ xs : List V, SqT K H a xs ∧ xs.length = i⟩
theorem turn_enumT {P : Program} {w : World} {K : PySem.W.Frag} {elts : List Expr} {kk : Nat} {tpos : Pos} (a e it : Addr) :
    Turn P w K (.Tuple elts kk tpos) (IteT K a) [e, it] e (fun i h => (∃ old, IsEnum h e it ((i : Nat) : Int) old) ∧ h.IsTupleIter it a i ∧ e ≠ it) where
  mem := by simp
  obj := fun i h st b hb => by
    obtain ⟨⟨old, he⟩, ⟨o, ho, hc, hd⟩, _⟩ := st
    have e' : b = e ∨ b = it := by simpa using hb
    rcases e' with z | z
    · rw [z]; exact ⟨_, he, fun v q => nomatch q⟩
    · rw [z]; exact ⟨o, ho, fun v q => by rw [hd] at q; cases q⟩
  keep := fun i h h' st k => let ⟨⟨old, he⟩, hi, hne⟩ := st; ⟨⟨old, k e (by simp) _ he⟩, hi.at fun o q => k it (by simp) o q, hne⟩
  item := by
    intro X hP hw hK hc i pins s σ H E I hf st hg
    subst hP hw hK
    obtain ⟨⟨old, he⟩, hit, hne⟩ := st
    obtain ⟨xs, x, hq, hx⟩ := hg
    obtain ⟨its, rv, p, hz⟩ := I.tuple hq
    obtain ⟨u, hu, ru⟩ := rv.get hx
    have pt : s.heap.IsTuple a its.toArray := p
    have hel : e < s.heap.objs.size := Heap.lt_size he
    have hil : it < s.heap.objs.size := by obtain ⟨_, q, _⟩ := hit; exact Heap.lt_size q
    have nai : a ≠ it := iter_ne pt hit
    have nea : e ≠ a := fun z => by
      subst z
      obtain ⟨o1, g1, c1, _⟩ := pt
      have g2 := he
      unfold IsEnum at g2
      rw [g1] at g2
      cases g2
      exact absurd (show Value.type "enumerate" = Value.type "tuple" from c1) (by decide)
    have hi : i < its.toArray.size := by
      have := (List.getElem?_eq_some_iff.mp hu).1
      simpa using this
    refine wpAny_pyNext_enum_itemD (Draws.tuple (show X.A.in1.handled = none from I.ok.hd hc) it a nai its.toArray) he ⟨hit, pt⟩ hi hne (by simp only [List.mem_cons, List.not_mem_nil, or_false, not_or]; exact ⟨hne, nea⟩) fun y h' tk hy ho hst hT hsz hk => ?_
    have ey : y = u := by
      have hy : its.toArray[i]? = some y := hy
      have hu : its.toArray[i]? = some u := by simpa using hu
      rw [hu] at hy
      exact (Option.some.inj hy).symm
    subst ey
    refine ⟨_, rfl, wpAny_letOwnedTupleGo_enum (s := { s with heap := h', toks := tk + 1 }) ho fun h'' he' sb => ?_⟩
    have hT2 : h''.get? s.heap.objs.size = some { cls := .type "tuple", data := .seq #[.int i tk, y] } := (sb.2 _ (Nat.ne_of_gt hel)).trans hT
    have new : ObjOk X.prog X.w (upd H s.heap.objs.size (.tup [.int (i : Nat), x])) h'' s.heap.objs.size (.tup [.int (i : Nat), x]) :=
      ⟨by show 2 ≤ sizeLine; decide, [.int i tk, y], .cons ⟨_, rfl⟩ (.cons ru .nil), ⟨_, hT2, rfl, _, rfl⟩⟩
    have I1 : Inv X pins σ (upd H s.heap.objs.size (.tup [.int (i : Nat), x])) { s with heap := h'', toks := tk + 1 } :=
      I.turnedNew (ch := [e, it]) (fun b ob hb q => (sb.2 b (fun z => hb (by simp [z]))).trans (hk b ob (fun z => hb (by simp [z])) (fun z => hb (by simp [z])) q)) hf (Nat.le_refl _) new
    refine ⟨.ref s.heap.objs.size, _, I1, rfl, ⟨_, x, rfl, I.hok.fresh (Nat.le_refl _), rfl, fun ys hy => by rw [I.tuple_inj hy hq]; exact hx⟩, ⟨⟨y, ?_⟩, hst.1.at fun o q => (sb.2 it (Ne.symm hne)).trans q, hne⟩, fun b hb => ?_⟩
    · have e1 : ((i + 1 : Nat) : Int) = (i : Int) + 1 := by omega
      rw [e1]; exact he'
    · have hb' : b < s.heap.objs.size := by
        have e' : b = e ∨ b = it := by simpa using hb
        rcases e' with z | z
        · rw [z]; exact hel
        · rw [z]; exact hil
      rw [upd_ne (Nat.ne_of_lt hb')]
      exact (hf b hb).1
  done := by
    intro X hP hw hK hc i pins s σ H E I hf st hg
    subst hP hw hK
    obtain ⟨⟨old, he⟩, hit, hne⟩ := st
    obtain ⟨xs, hq, hx⟩ := hg
    obtain ⟨its, rv, p, hz⟩ := I.tuple hq
    have pt : s.heap.IsTuple a its.toArray := p
    obtain ⟨f0, f1, f2, f3, f4, f5⟩ := hf it (by simp)
    have hl := rv.length
    have hn : i = its.toArray.size := by rw [List.size_toArray, ← hl, hx]
    subst hn
    exact wpAny_pyNext_enum_endD (Draws.tuple (show X.A.in1.handled = none from I.ok.hd hc) it a (iter_ne pt hit) its.toArray) he ⟨hit, pt⟩ fun h' eb => ⟨rfl, I.turned (t' := s.toks) (fun b o hb q => eb b o hb q) f0 f1 f3 f4 f5⟩
  self := fun A i s Q E st h => let ⟨⟨_, he⟩, _⟩ := st; wpAny_pyIter_enum he h

section
variable {X : Cx} {C : Ctx}
theorem pi_enumT {e : Expr} {ta : TE} {p pos tpos : Pos} {elts : List Expr} {kk : Nat} (hg : Gl X "enumerate") (hm : X.mg "enumerate" = none) (ha : PE X e ta) (hs : notStar e = true) :
    PI X (.Tuple elts kk tpos) (.Call (.Name "enumerate" p) [e] [] pos) (fun σ H R => ta σ H fun x H1 => ∃ a xs, x = .ref a ∧ ((SqL X.K H1 a xs ∧ R (Ite X.K a) H1) ∨ (SqT X.K H1 a xs ∧ R (IteT X.K a) H1))) := by
  refine ⟨fun pins s σ H R I h => ?_⟩
  have hs1 : starEach [e] X.env = [(false, eval e X.env)] := star_cons hs
  refine Call_ (ld_blt I hg hm boot_enumerate (PyProof.Rows.callWith_type1 (thn ((pa_cons ha pa_nil (star_cons hs)).run pos pins s σ H (fun vs H1 => match vs with
    | [x] => ∃ a xs, x = .ref a ∧ ((SqL X.K H1 a xs ∧ R (Ite X.K a) H1) ∨ (SqT X.K H1 a xs ∧ R (IteT X.K a) H1))
    | _ => False) I h) fun us s1 ⟨vs, H1, I1, r1, q1⟩ => ?_) hs1 rfl))
  cases r1 with
  | nil => exact q1.elim
  | cons r rr =>
    cases rr with
    | cons _ _ => exact q1.elim
    | nil =>
    obtain ⟨a, xs, rfl, q⟩ := q1
    cases r
    have fpo : ∀ b ∈ [s1.heap.objs.size + 1, s1.heap.objs.size], FpOk X pins H1 b := fun b hb => by
      have e' : b = s1.heap.objs.size + 1 ∨ b = s1.heap.objs.size := by simpa using hb
      have hle : s1.heap.objs.size ≤ b := by
        rcases e' with z | z
        · rw [z]; exact Nat.le_add_right _ _
        · rw [z]; exact Nat.le_refl _
      exact I1.fpOk hle (I1.hok.fresh hle)
    rcases q with ⟨hq, q⟩ | ⟨hq, q⟩
    · obtain ⟨its, rv, p', hz⟩ := I1.list hq
      refine call_enum1 (begins_list a its.toArray) p'.isList fun h' he hit hk => wpAny_pyIter_enum he ?_
      exact ⟨s1.heap.objs.size + 1, [s1.heap.objs.size + 1, s1.heap.objs.size], _, _, H1, rfl, I1.kept (t' := s1.toks) hk, turn_enum a (s1.heap.objs.size + 1) s1.heap.objs.size, ⟨⟨.none, he⟩, ⟨_, hit, rfl, rfl⟩, Nat.succ_ne_self _⟩, fpo, q⟩
    · obtain ⟨its, rv, p', hz⟩ := I1.tuple hq
      refine call_enum1 (begins_tuple a its.toArray) p' fun h' he hit hk => wpAny_pyIter_enum he ?_
      exact ⟨s1.heap.objs.size + 1, [s1.heap.objs.size + 1, s1.heap.objs.size], _, _, H1, rfl, I1.kept (t' := s1.toks) hk, turn_enumT a (s1.heap.objs.size + 1) s1.heap.objs.size, ⟨⟨.none, he⟩, ⟨_, hit, rfl, rfl⟩, Nat.succ_ne_self _⟩, fpo, q⟩
theorem numbered_len : ∀ (k : Nat) (ps : List PV), (numbered k ps).length = ps.length
  | _, [] => rfl
  | k, _ :: ps => by unfold numbered; rw [List.length_cons, List.length_cons, numbered_len]
theorem numbered_get : ∀ (k : Nat) (ps : List PV) (i : Nat) (z : PV), (numbered k ps)[i]? = some z → ∃ p, ps[i]? = some p ∧ z = .tup [.int ((k + i : Nat) : Int), p]
  | _, [], _, _, h => by cases h
  | k, p :: ps, 0, z, h => by cases h; exact ⟨p, rfl, rfl⟩
  | k, p :: ps, i + 1, z, h => by
    obtain ⟨q, h1, h2⟩ := numbered_get (k + 1) ps i z h
    exact ⟨q, h1, by rw [h2, show k + 1 + i = k + (i + 1) by omega]⟩
/-- a new pair of a place and a value -/
theorem pair_laid {W W' : Wd} {H' H3 : Hp} {i : Nat} {T : Addr} {v : V} {p : PV} (u : Up W W') (wf : Wf W' H') (r : Rep C.K C.fa W v p) (hT : H' T = none) (e : H3 = upd H' T (.tup [.int (i : Nat), v])) :
    ∃ W3, Ext H' W' H3 W3 ∧ W3.S = W'.S ∧ Rep C.K C.fa W3 (.ref T) (.tup [.int ((0 + i : Nat) : Int), p]) := by
  subst e
  rw [Nat.zero_add]
  exact ⟨_, .laid wf hT, rfl, .tup (.inl (.inl upd_same)) (.cons (.int _) (.one ((Rep.up u r).ext (.laid wf hT)))) (by rw [sizeLine_eq]; exact (by decide : (2 : Nat) ≤ 16777216))⟩
theorem ite_ok {W : Wd} {a : Addr} {vs : List V} {ps : List PV} (h : SqL C.K W.F a vs) (r : RepL C.K C.fa W vs ps) (z : ps.length ≤ sizeLine) : ItOk C W (Ite C.K a) (numbered 0 ps) := by
  refine ⟨by rw [numbered_len]; exact z, fun W' H' u wf i z hz => ?_, fun W' H' u wf => ?_⟩
  · obtain ⟨p, hp, rfl⟩ := numbered_get 0 ps i z hz
    obtain ⟨v, h1, h2⟩ := r.get hp
    have hL : SqL C.K H' a vs := Same.sqL wf.sub (Same.sqL u.fs h)
    refine ⟨⟨vs, v, hL, h1⟩, fun x H3 y => ?_⟩
    obtain ⟨T, w, rfl, hT, e, y⟩ := y
    have e2 := y vs hL
    rw [h1] at e2
    cases e2
    exact pair_laid u wf h2 hT e
  · exact ⟨vs, Same.sqL wf.sub (Same.sqL u.fs h), by rw [numbered_len, r.length]; exact Nat.le_refl _⟩
theorem iteT_ok {W : Wd} {a : Addr} {vs : List V} {ps : List PV} (h : SqT C.K W.F a vs) (r : RepL C.K C.fa W vs ps) (z : ps.length ≤ sizeLine) : ItOk C W (IteT C.K a) (numbered 0 ps) := by
  refine ⟨by rw [numbered_len]; exact z, fun W' H' u wf i z hz => ?_, fun W' H' u wf => ?_⟩
  · obtain ⟨p, hp, rfl⟩ := numbered_get 0 ps i z hz
    obtain ⟨v, h1, h2⟩ := r.get hp
    have hL : SqT C.K H' a vs := Same.sqT wf.sub (Same.sqT u.fs h)
    refine ⟨⟨vs, v, hL, h1⟩, fun x H3 y => ?_⟩
    obtain ⟨T, w, rfl, hT, e, y⟩ := y
    have e2 := y vs hL
    rw [h1] at e2
    cases e2
    exact pair_laid u wf h2 hT e
  · exact ⟨vs, Same.sqT wf.sub (Same.sqT u.fs h), by rw [numbered_len, r.length]⟩
theorem simI_enum {e : Expr} {m : E} {p pos tpos : Pos} {elts : List Expr} {kk : Nat} (hK : X.K = C.K) (hg : Gl X "enumerate") (hm : X.mg "enumerate" = none) (ha : PE X e (tE C m)) (hs : notStar e = true) :
    PI X (.Tuple elts kk tpos) (.Call (.Name "enumerate" p) [e] [] pos) (tI C (.enum m)) :=
  (pi_enumT hg hm ha hs).weak fun σ H R ⟨W, ρ, wf, sl, q⟩ => ⟨W, ρ, wf, sl, (After.bind (rel := C.rep) q).mono fun x H1 ⟨p, W1, x1, r1, _, q1⟩ => by
    cases p with
    | lst ps =>
      obtain ⟨a, vs, rfl, d, rv, z⟩ := r1.lst_inv
      exact ⟨a, vs, rfl, .inl ⟨Same.sqL x1.wf.sub (hK ▸ d), by rw [hK]; exact After.fin (rel := fun W' (J : L2.It) (xs : List PV) => ItOk C W' J xs) q1 x1.wf (ite_ok d rv z)⟩⟩
    | tup ps =>
      obtain ⟨a, vs, rfl, d, rv, z⟩ := r1.tup_inv
      exact ⟨a, vs, rfl, .inr ⟨Same.sqT x1.wf.sub (hK ▸ d), by rw [hK]; exact After.fin (rel := fun W' (J : L2.It) (xs : List PV) => ItOk C W' J xs) q1 x1.wf (iteT_ok d rv z)⟩⟩
    | _ => exact q1.elim⟩
end
end A3

-- Sim13
set_option Elab.async false
set_option linter.all false
set_option maxRecDepth 100000
set_option maxHeartbeats 4000000
/-! Sim13: a < b where only the first place that differs need be comparable. -/
namespace A3S
open PySem PySem.SeqAt PySem.MeetsSeq PySem.MeetsSeq2 PySem.MeetsSeq3 PySem.SeqRoads2
open PySem.AutoSeq1 (wpAny_loadPart')
/-- the first j at which e fails, asked for alone -/
abbrev FirstNo (e : Nat → Bool) (j : Nat) : Prop := (∀ i, i < j → e i = true) ∧ e j = false
theorem first_go {e : Nat → Bool} {i : Nat} (h : ∀ k, k < i → e k = true) (hi : e i = true) : ∀ k, k < i + 1 → e k = true := fun k hk => by
  by_cases q : k = i
  · exact q ▸ hi
  · exact h k (by omega)
theorem tup_lt1 (l b : Addr) (us ws : Array Value) (n m : Nat) (d1 d2 : Option Addr) (s1 s2 : Array (Option Value)) (e r : Nat → Bool) :
    Meets (Builtin.«tuple.__lt__» ⟨[.ref l, .ref b], []⟩) fun A R s =>
      s.heap.get? l = some { cls := .type "tuple", dict := d1, data := .seq us n, slots := s1 } ∧ s.heap.get? b = some { cls := .type "tuple", dict := d2, data := .seq ws m, slots := s2 } ∧
      (∀ j (h1 : j < us.size) (h2 : j < ws.size), EqAt A.in1 s us[j] ws[j] (e j)) ∧ (∀ j (h1 : j < us.size) (h2 : j < ws.size), FirstNo e j → RcLt A.in1 s us[j] ws[j] (r j)) ∧
      R (.ok (.ret (.bool (firstLt e r (decide (us.size < ws.size)) (List.range (min us.size ws.size)))))) s := by
  refine .of_wp fun prog w A R s h => ?_
  obtain ⟨hp, g, d, tk, os⟩ := s
  obtain ⟨hl, hb, he, hr, fin⟩ := h
  have f2 := AutoSeq1.sub_tuple_tuple
  have len : (us.toList.zip ws.toList).length = min us.size ws.size := by rw [List.length_zip, Array.length_toList, Array.length_toList]
  wp_walk using wpAny_loadPart' hl, wpAny_loadPart' hb, wpAny_forIn_list _ (fun rest b s' => b.1 = none ∧ s' = ⟨hp, g, d, tk, os⟩ ∧ ∃ i, (∀ k, k < i → e k = true) ∧ rest = (us.toList.zip ws.toList).drop i ∧
    R (.ok (.ret (.bool (firstLt e r (decide (us.size < ws.size)) ((List.range (min us.size ws.size)).drop i))))) ⟨hp, g, d, tk, os⟩) _
  case turn =>
    rintro ⟨y, x⟩ rest q s' ⟨hq, rfl, i, pre, hz, go⟩
    have lt : i < (us.toList.zip ws.toList).length := by
      by_cases z : i < (us.toList.zip ws.toList).length
      · exact z
      · rw [List.drop_of_length_le (by omega)] at hz; cases hz
    have lm : i < min us.size ws.size := by rw [← len]; exact lt
    have l1 : i < us.size := by omega
    have l2 : i < ws.size := by omega
    rw [List.drop_eq_getElem_cons lt] at hz
    obtain ⟨hyx, hrest⟩ := List.cons.inj hz
    obtain ⟨rfl, rfl⟩ : y = us[i] ∧ x = ws[i] := by
      rw [List.getElem_zip] at hyx
      exact ⟨by simpa using congrArg Prod.fst hyx, by simpa using congrArg Prod.snd hyx⟩
    rw [show (List.range (min us.size ws.size)).drop i = i :: (List.range (min us.size ws.size)).drop (i + 1) by rw [List.drop_eq_getElem_cons (by simpa using lm)]; simp] at go
    refine wpAny_bind (he i l1 l2 prog w _ _ ?_)
    by_cases hy : e i = true
    · rw [firstLt_yes hy] at go
      rw [hy]
      wp_walk
      exact ⟨rfl, rfl, i + 1, first_go pre hy, hrest, go⟩
    · have hy := Bool.eq_false_iff.mpr hy
      rw [firstLt_no hy] at go
      rw [hy]
      have hri := hr i l1 l2 ⟨pre, hy⟩ prog w
      wp_walk using hri
      exact ⟨_, rfl, go⟩
  case fin =>
    rintro ⟨q1, q2⟩ s' ⟨hq, rfl, i, _, hz, go⟩
    simp only at hq
    subst hq
    have ge : min us.size ws.size ≤ i := by
      by_cases z : i < (us.toList.zip ws.toList).length
      · rw [List.drop_eq_getElem_cons z] at hz; cases hz
      · omega
    rw [List.drop_of_length_le (by rw [List.length_range]; exact ge)] at go
    wp_walk
    exact ⟨_, rfl, by simpa [Builtin.Tuple.tupleCompareSizes, firstLt] using go⟩
  case h => exact ⟨rfl, rfl, 0, fun k hk => absurd hk (Nat.not_lt_zero k), rfl, by simpa using fin⟩
theorem lst_loop1 (l b : Addr) (us ws : Array Value) (n m : Nat) (d1 d2 : Option Addr) (s1 s2 : Array (Option Value)) (e r : Nat → Bool) (k : Nat) :
    ∀ i : Nat, min us.size ws.size - i = k → (∀ k, k < i → e k = true) → Meets (Builtin.«list.__eq__.loop» ⟨[.ref l, .ref b, rawInt i, rawInt 0], []⟩) fun A R s =>
      s.heap.get? l = some { cls := .type "list", dict := d1, data := .seq us n, slots := s1 } ∧ s.heap.get? b = some { cls := .type "list", dict := d2, data := .seq ws m, slots := s2 } ∧
      (∀ j (h1 : j < us.size) (h2 : j < ws.size), EqAt A.in1 s us[j] ws[j] (e j)) ∧ (∀ j (h1 : j < us.size) (h2 : j < ws.size), FirstNo e j → RcLt A.in1 s us[j] ws[j] (r j)) ∧
      R (.ok (.ret (.bool (firstLt e r (decide (us.size < ws.size)) ((List.range (min us.size ws.size)).drop i))))) s := by
  induction k with
  | zero =>
    intro i hk pre prog w A R s h
    obtain ⟨hp, g, d, tk, os⟩ := s
    obtain ⟨hl, hb, he, hr, fin⟩ := h
    rw [show (List.range (min us.size ws.size)).drop i = [] from List.drop_of_length_le (by rw [List.length_range]; omega)] at fin
    wp_walk using wpAny_loadPart' hl, wpAny_loadPart' hb
    by_cases z : i < us.size
    · rw [show us[((i : Nat) : Int).toNat]? = some us[i] by simp [z], show ws[((i : Nat) : Int).toNat]? = none by simp; omega]
      wp_walk using wpAny_loadPart' hl, wpAny_loadPart' hb
      exact fin
    · rw [show us[((i : Nat) : Int).toNat]? = none by simp; omega]
      wp_walk using wpAny_loadPart' hl, wpAny_loadPart' hb
      exact fin
  | succ k ih =>
    intro i hk pre prog w A R s h
    obtain ⟨hp, g, d, tk, os⟩ := s
    obtain ⟨hl, hb, he, hr, fin⟩ := h
    wp_walk using wpAny_loadPart' hl, wpAny_loadPart' hb
    have lm : i < min us.size ws.size := by omega
    have l1 : i < us.size := by omega
    have l2 : i < ws.size := by omega
    have e1 : us[((i : Nat) : Int).toNat]? = some us[i] := by simp [l1]
    have e2 : ws[((i : Nat) : Int).toNat]? = some ws[i] := by simp [l2]
    rw [show (List.range (min us.size ws.size)).drop i = i :: (List.range (min us.size ws.size)).drop (i + 1) by rw [List.drop_eq_getElem_cons (by simpa using lm)]; simp] at fin
    rw [e1, e2]
    refine wpAny_bind (he i l1 l2 prog w _ _ ?_)
    by_cases hy : e i = true
    · rw [firstLt_yes hy] at fin
      rw [hy]
      wp_walk
      rw [show ((i : Int) + 1) = ((i + 1 : Nat) : Int) by push_cast; rfl]
      refine ⟨plainId_quiet plain_eq_loop _, codeAny_builtin entry_eq_loop ?_⟩
      rw [Around.under_plainId plain_eq_loop _]
      exact ih (i + 1) (by omega) (first_go pre hy) prog w A R _ ⟨hl, hb, he, hr, fin⟩
    · have hy := Bool.eq_false_iff.mpr hy
      rw [firstLt_no hy] at fin
      rw [hy]
      wp_walk using wpAny_loadPart' hl, wpAny_loadPart' hb
      rw [e1, e2]
      have hri := hr i l1 l2 ⟨pre, hy⟩ prog w
      wp_walk using hri
      exact fin
theorem lst_lt1 (l b : Addr) (us ws : Array Value) (n m : Nat) (d1 d2 : Option Addr) (s1 s2 : Array (Option Value)) (e r : Nat → Bool) :
    Meets (Builtin.«list.__lt__» ⟨[.ref l, .ref b], []⟩) fun A R s =>
      s.heap.get? l = some { cls := .type "list", dict := d1, data := .seq us n, slots := s1 } ∧ s.heap.get? b = some { cls := .type "list", dict := d2, data := .seq ws m, slots := s2 } ∧
      (∀ j (h1 : j < us.size) (h2 : j < ws.size), EqAt A.in1 s us[j] ws[j] (e j)) ∧ (∀ j (h1 : j < us.size) (h2 : j < ws.size), FirstNo e j → RcLt A.in1 s us[j] ws[j] (r j)) ∧
      R (.ok (.ret (.bool (firstLt e r (decide (us.size < ws.size)) (List.range (min us.size ws.size)))))) s := by
  intro prog w A R s h
  obtain ⟨hp, g, d, tk, os⟩ := s
  obtain ⟨hl, hb, he, hr, fin⟩ := h
  have f3 := AutoSeq1.sub_list_list
  wp_walk using wpAny_loadPart' hl, wpAny_loadPart' hb
  refine ⟨plainId_quiet plain_eq_loop _, codeAny_builtin entry_eq_loop ?_⟩
  rw [Around.under_plainId plain_eq_loop _]
  exact lst_loop1 l b us ws n m d1 d2 s1 s2 e r _ 0 rfl (fun k hk => absurd hk (Nat.not_lt_zero k)) prog w A R _ ⟨hl, hb, he, hr, by simpa using fin⟩
section
variable {A : Around} {s : Shared} {l b : Addr} {us ws : Array Value} {e r : Nat → Bool}
theorem lt_tups (hl : s.heap.IsTuple l us) (hb : s.heap.IsTuple b ws) (hu : A.units < cLine) (he : ∀ j (h1 : j < us.size) (h2 : j < ws.size), EqAt A.in1 s us[j] ws[j] (e j))
    (hr : ∀ j (h1 : j < us.size) (h2 : j < ws.size), FirstNo e j → RcLt A.in1 s us[j] ws[j] (r j)) : RcLt A s (.ref l) (.ref b) (firstLt e r (decide (us.size < ws.size)) (List.range (min us.size ws.size))) := by
  intro prog w E Q q
  obtain ⟨⟨c1, d1, t1, s1⟩, o1, k1, n, x1⟩ := id hl
  obtain ⟨⟨c2, d2, t2, s2⟩, o2, k2, m, x2⟩ := id hb
  simp only at k1 x1 k2 x2
  subst k1 x1 k2 x2
  refine richCompare_meets_room (op := .Lt) ⟨_, o1, rfl⟩ ⟨_, o2, rfl⟩ F.slot_tuple_lt F.entry_tuple_lt (F.args_tuple_lt_2 _ _) (tup_lt1 l b us ws n m d1 d2 s1 s2 e r) ⟨o1, o2, he, hr, ?_⟩ hu
  exact show Value.bool _ ≠ Value.notImplemented ∧ Q (.bool _) s from ⟨(fun x => nomatch x), q⟩
theorem lt_lsts (hl : s.heap.IsList l us) (hb : s.heap.IsList b ws) (hu : A.units < cLine) (he : ∀ j (h1 : j < us.size) (h2 : j < ws.size), EqAt A.in1 s us[j] ws[j] (e j))
    (hr : ∀ j (h1 : j < us.size) (h2 : j < ws.size), FirstNo e j → RcLt A.in1 s us[j] ws[j] (r j)) : RcLt A s (.ref l) (.ref b) (firstLt e r (decide (us.size < ws.size)) (List.range (min us.size ws.size))) := by
  intro prog w E Q q
  obtain ⟨⟨c1, d1, t1, s1⟩, o1, k1, n, x1⟩ := id hl
  obtain ⟨⟨c2, d2, t2, s2⟩, o2, k2, m, x2⟩ := id hb
  simp only at k1 x1 k2 x2
  subst k1 x1 k2 x2
  refine richCompare_meets_room (op := .Lt) ⟨_, o1, rfl⟩ ⟨_, o2, rfl⟩ F.slot_list_lt F.entry_list_lt (F.args_list_lt_2 _ _) (lst_lt1 l b us ws n m d1 d2 s1 s2 e r) ⟨o1, o2, he, hr, ?_⟩ hu
  exact show Value.bool _ ≠ Value.notImplemented ∧ Q (.bool _) s from ⟨(fun x => nomatch x), q⟩
theorem call_lt_lsts {prog : Program} {w : World} {E : Value → Shared → Prop} {Q : Value → Shared → Prop} (hl : s.heap.IsList l us) (hb : s.heap.IsList b ws) (he : ∀ j (h1 : j < us.size) (h2 : j < ws.size), EqAt A.in1 s us[j] ws[j] (e j))
    (hr : ∀ j (h1 : j < us.size) (h2 : j < ws.size), FirstNo e j → RcLt A.in1 s us[j] ws[j] (r j)) (q : Q (.bool (firstLt e r (decide (us.size < ws.size)) (List.range (min us.size ws.size)))) s) :
    wpAny (model prog w) A (call (.builtin "list.__lt__") [.ref l, .ref b]) Q E s := by
  obtain ⟨⟨c1, d1, t1, s1⟩, o1, k1, n, x1⟩ := id hl
  obtain ⟨⟨c2, d2, t2, s2⟩, o2, k2, m, x2⟩ := id hb
  simp only at k1 x1 k2 x2
  subst k1 x1 k2 x2
  exact call_meets F.slot_list_lt ⟨_, o1, rfl⟩ F.entry_list_lt (F.args_list_lt_2 _ _) (lst_lt1 l b us ws n m d1 d2 s1 s2 e r) ⟨o1, o2, he, hr, q⟩
end
end A3S

-- Sim14
set_option Elab.async false
set_option linter.all false
set_option maxRecDepth 100000
set_option maxHeartbeats 4000000
/-! Sim14: sorting: the values' order is that of the rows of signs. -/
namespace A3
open PySem PySem.Spec PyProof.Rows L2 A3S

theorem item_tok (x y : A3.Tok) : PyProof.Rows.itemOrd.blt x y = tokLt x y := by
  cases x <;> cases y <;> rfl
theorem lex_toks : ∀ (a b : List A3.Tok), PyProof.Rows.lexLt PyProof.Rows.itemOrd a b = toksLt a b
  | [], [] => rfl
  | [], _ :: _ => rfl
  | _ :: _, [] => rfl
  | x :: r, y :: t => by
    rw [PyProof.Rows.lex_cons, item_tok, item_tok, lex_toks r t]; rfl
mutual
theorem toks_py : ∀ (d : Nat) (p : PV), p.dok d = true → PySem.W.keyToks (toPy p) = p.toks
  | _, .non, _ => rfl
  | _, .bl b, _ => rfl
  | _, .int i, _ => rfl
  | _, .str s, _ => by
    show [Sum.inr (toStr s).cps.toList] = [Sum.inr s]
    congr 2
  | d, .tup xs, h => by
    obtain ⟨e, rfl, ha⟩ := dok_tup h
    unfold toPy
    simp only [PySem.W.keyToks]
    exact toksL_py e xs ha
  | d, .lst xs, h => by
    obtain ⟨e, rfl, ha⟩ := dok_lst h
    unfold toPy
    simp only [PySem.W.keyToks]
    exact toksL_py e xs ha
  | 0, .dct _, h => by unfold PV.dok at h; cases h
  | _ + 1, .dct _, h => by unfold PV.dok at h; cases h
  | 0, .ins _ _, h => by unfold PV.dok at h; cases h
  | _ + 1, .ins _ _, h => by unfold PV.dok at h; cases h
  | 0, .obj _, h => by unfold PV.dok at h; cases h
  | _ + 1, .obj _, h => by unfold PV.dok at h; cases h
  | 0, .fn _ _, h => by unfold PV.dok at h; cases h
  | _ + 1, .fn _ _, h => by unfold PV.dok at h; cases h
theorem toksL_py : ∀ (d : Nat) (ps : List PV), ps.all (PV.dok d) = true → PySem.W.keyToksAll (toPyL ps) = PV.toksL ps
  | _, [], _ => by unfold toPyL; simp only [PySem.W.keyToksAll]; rfl
  | d, p :: ps, h => by
    rw [List.all_cons, Bool.and_eq_true] at h
    unfold toPyL
    rw [PySem.W.toks_all_cons, toks_py d p h.1, toksL_py d ps h.2]; rfl
end
/-- the first place that differs, over a row of places -/
theorem firstLt_congr {e e' r r' : Nat → Bool} {fin : Bool} : ∀ (l : List Nat), (∀ j ∈ l, e j = e' j ∧ r j = r' j) → SeqAt.firstLt e r fin l = SeqAt.firstLt e' r' fin l
  | [], _ => rfl
  | j :: l, h => by
    obtain ⟨h1, h2⟩ := h j List.mem_cons_self
    unfold SeqAt.firstLt
    rw [h1, h2, firstLt_congr l fun k hk => h k (List.mem_cons_of_mem _ hk)]
theorem first_toks : ∀ (ps qs : List PV), PV.cmpbL ps qs = true →
    SeqAt.firstLt (fun j => PV.eqv (ps.getD j .non) (qs.getD j .non)) (fun j => toksLt (ps.getD j .non).toks (qs.getD j .non).toks) (decide (ps.length < qs.length)) (List.range (min ps.length qs.length)) = toksLt (PV.toksL ps) (PV.toksL qs)
  | [], [], _ => rfl
  | [], q :: qs, _ => by
    show true = toksLt [.inl 0] (.inl 1 :: (q.toks ++ PV.toksL qs))
    rw [toksLt_ne (by decide)]; rfl
  | p :: ps, [], _ => by
    show false = toksLt (.inl 1 :: (p.toks ++ PV.toksL ps)) [.inl 0]
    rw [toksLt_ne (by decide)]; rfl
  | p :: ps, q :: qs, h => by
    have h : (PV.cmpb p q && (!PV.eqv p q || PV.cmpbL ps qs)) = true := h
    rw [Bool.and_eq_true] at h
    obtain ⟨h1, h2⟩ := h
    rw [show min (p :: ps).length (q :: qs).length = min ps.length qs.length + 1 by simp, List.range_succ_eq_map]
    cases he : PV.eqv p q with
    | true =>
      rw [he] at h2
      rw [SeqAt.firstLt_yes (show PV.eqv ((p :: ps).getD 0 .non) ((q :: qs).getD 0 .non) = true from he), PySem.W.firstLt_map, toksL_cons_eq h1 he, ← first_toks ps qs (by simpa using h2)]
      have e3 : decide ((p :: ps).length < (q :: qs).length) = decide (ps.length < qs.length) := by simp
      rw [e3]
      rfl
    | false =>
      rw [SeqAt.firstLt_no (show PV.eqv ((p :: ps).getD 0 .non) ((q :: qs).getD 0 .non) = false from he), toksL_cons_ne h1 he]; rfl
/-- up to the first place that differs all can be compared -/
theorem cmpb_first : ∀ (ps qs : List PV) (j : Nat), PV.cmpbL ps qs = true → j < ps.length → j < qs.length → (∀ i, i < j → PV.eqv (ps.getD i .non) (qs.getD i .non) = true) → PV.cmpb (ps.getD j .non) (qs.getD j .non) = true
  | [], _, _, _, h, _, _ => absurd h (Nat.not_lt_zero _)
  | _ :: _, [], _, _, _, h, _ => absurd h (Nat.not_lt_zero _)
  | p :: ps, q :: qs, 0, h, _, _, _ => (Bool.and_eq_true_iff.mp h).1
  | p :: ps, q :: qs, j + 1, h, h1, h2, pre => by
    have h : (PV.cmpb p q && (!PV.eqv p q || PV.cmpbL ps qs)) = true := h
    rw [Bool.and_eq_true] at h
    have h0 : PV.eqv p q = true := pre 0 (Nat.succ_pos j)
    obtain ⟨_, h2'⟩ := h
    rw [h0] at h2'
    exact cmpb_first ps qs j (by simpa using h2') (Nat.lt_of_succ_lt_succ h1) (Nat.lt_of_succ_lt_succ h2) fun i hi => pre (i + 1) (Nat.succ_lt_succ hi)
theorem readsL_get {h : Heap} : ∀ {vs : List Value} {ps : List PV} {as : List Addr} {j : Nat} (hj : j < vs.length), ReadsAll h vs (toPyL ps) as → ∃ bs, Reads h vs[j] (toPy (ps.getD j .non)) bs
  | [], _, _, _, hj, _ => absurd hj (Nat.not_lt_zero _)
  | v :: vs, [], _, _, _, r => by unfold toPyL at r; cases r
  | v :: vs, p :: ps, as, 0, _, r => by
    unfold toPyL at r
    cases r with
    | cons r1 r2 => exact ⟨_, r1⟩
  | v :: vs, p :: ps, as, j + 1, hj, r => by
    unfold toPyL at r
    cases r with
    | cons r1 r2 => exact readsL_get (Nat.lt_of_succ_lt_succ hj) r2
def RdP (h : Heap) (v : Value) (p : PV) : Prop := ∃ as, Reads h v (toPy p) as
theorem readsA_get {h : Heap} {us : Array Value} {ps : List PV} {as : List Addr} {j : Nat} (hj : j < us.size) (r : ReadsAll h us.toList (toPyL ps) as) : RdP h us[j] (ps.getD j .non) := by
  obtain ⟨bs, q⟩ := readsL_get (j := j) (by simpa using hj) r
  rw [Array.getElem_toList] at q
  exact ⟨bs, q⟩
theorem toPyL_len (ps : List PV) : (toPyL ps).length = ps.length := by rw [toPyL_map, List.length_map]
theorem all_getD {P : PV → Bool} {ps : List PV} {j : Nat} (h : ps.all P = true) (hj : j < ps.length) : P (ps.getD j .non) = true := by
  rw [List.getD_eq_getElem?_getD, List.getElem?_eq_getElem hj]
  exact List.all_eq_true.mp h _ (List.getElem_mem hj)
/-- the values of ps read at h -/
def RdL (h : Heap) (vs : List Value) (ps : List PV) : Prop := ∃ as, ReadsAll h vs (toPyL ps) as
theorem eq_at {A : Around} {s : Shared} {a b : Value} {p q : PV} {d : Nat} (ha : RdP s.heap a p) (hb : RdP s.heap b q) (cp : (toPy p).canLay0 = true) (cq : (toPy q).canLay0 = true) (dp : p.dok d = true) (dq : q.dok d = true) (hd : (toPy p).depth ≤ d) (hu : A.units + d < cLine) :
    SeqAt.EqAt A s a b (PV.eqv p q) := by
  obtain ⟨as, ra⟩ := ha
  obtain ⟨bs, rb⟩ := hb
  have := SeqAt.eqAt_reads (toPy p) (toPy q) A s a b as bs ra rb cp cq (by have := Nat.min_le_left (toPy p).depth (toPy q).depth; omega)
  rw [eqv_py d d p q dp dq] at this
  exact this
mutual
/-- texts are such as the model holds -/
def okTx : PV → Bool
  | .str s => txOk s
  | .tup xs => okTxL xs
  | .lst xs => okTxL xs
  | _ => true
def okTxL : List PV → Bool
  | [] => true
  | x :: xs => okTx x && okTxL xs
end
theorem okTxL_get : ∀ {ps : List PV} {j : Nat}, okTxL ps = true → j < ps.length → okTx (ps.getD j .non) = true
  | [], _, _, h => absurd h (Nat.not_lt_zero _)
  | p :: ps, 0, h, _ => (Bool.and_eq_true_iff.mp (show (okTx p && okTxL ps) = true from h)).1
  | p :: ps, j + 1, h, hj => okTxL_get (ps := ps) (j := j) (Bool.and_eq_true_iff.mp (show (okTx p && okTxL ps) = true from h)).2 (Nat.lt_of_succ_lt_succ hj)
mutual
theorem lay_py : ∀ (d : Nat) (p : PV), p.dok d = true → okTx p = true → (toPy p).canLay0 = true ∧ (toPy p).depth ≤ d
  | _, .non, _, _ => ⟨rfl, Nat.zero_le _⟩
  | _, .bl b, _, _ => ⟨rfl, Nat.zero_le _⟩
  | _, .int i, _, _ => ⟨rfl, Nat.zero_le _⟩
  | _, .str s, _, h => ⟨txOk_strOk h, Nat.zero_le _⟩
  | d, .tup xs, h, k => by
    obtain ⟨e, rfl, ha⟩ := dok_tup h
    obtain ⟨h1, h2⟩ := layL_py e xs ha k
    unfold toPy
    refine ⟨by unfold PyData.canLay0; exact h1, ?_⟩
    unfold PyData.depth; omega
  | d, .lst xs, h, k => by
    obtain ⟨e, rfl, ha⟩ := dok_lst h
    obtain ⟨h1, h2⟩ := layL_py e xs ha k
    unfold toPy
    refine ⟨by unfold PyData.canLay0; exact h1, ?_⟩
    unfold PyData.depth; omega
  | 0, .dct _, h, _ => by unfold PV.dok at h; cases h
  | _ + 1, .dct _, h, _ => by unfold PV.dok at h; cases h
  | 0, .ins _ _, h, _ => by unfold PV.dok at h; cases h
  | _ + 1, .ins _ _, h, _ => by unfold PV.dok at h; cases h
  | 0, .obj _, h, _ => by unfold PV.dok at h; cases h
  | _ + 1, .obj _, h, _ => by unfold PV.dok at h; cases h
  | 0, .fn _ _, h, _ => by unfold PV.dok at h; cases h
  | _ + 1, .fn _ _, h, _ => by unfold PV.dok at h; cases h
theorem layL_py : ∀ (d : Nat) (ps : List PV), ps.all (PV.dok d) = true → okTxL ps = true → PyData.canLayAll0 (toPyL ps) = true ∧ PyData.depthAll (toPyL ps) ≤ d
  | _, [], _, _ => ⟨rfl, Nat.zero_le _⟩
  | d, p :: ps, h, k => by
    rw [List.all_cons, Bool.and_eq_true] at h
    obtain ⟨k1, k2⟩ := Bool.and_eq_true_iff.mp (show (okTx p && okTxL ps) = true from k)
    obtain ⟨a1, a2⟩ := lay_py d p h.1 k1
    obtain ⟨b1, b2⟩ := layL_py d ps h.2 k2
    unfold toPyL
    refine ⟨by unfold PyData.canLayAll0; rw [a1, b1]; rfl, ?_⟩
    unfold PyData.depthAll; omega
end
theorem rc_bool {A : Around} {s : Shared} (a b : Bool) : SeqAt.RcLt A s (.bool a) (.bool b) (toksLt (PV.bl a).toks (PV.bl b).toks) := by
  have := PySem.W.rcLt_alike (.bool a) (.bool b) A s (.bool a) (.bool b) [] [] (.bool a) (.bool b) rfl (by simp)
  intro prog w E Q q
  refine PyProof.Rows.lt_bool ?_
  have e : decide (b2i a < b2i b) = toksLt (PV.bl a).toks (PV.bl b).toks := by cases a <;> cases b <;> decide
  rw [e]; exact q
theorem rc_int {A : Around} {s : Shared} (a b : Int) (t u : Nat) : SeqAt.RcLt A s (.int a t) (.int b u) (toksLt (PV.int a).toks (PV.int b).toks) := by
  intro prog w E Q q
  refine PySem.P.lt_int ?_
  have e : decide (a < b) = toksLt (PV.int a).toks (PV.int b).toks := by
    show _ = (decide (a < b) || (!decide (b < a) && false))
    simp
  rw [e]; exact q
theorem rc_str {A : Around} {s : Shared} (a b : Tx) (t u : Nat) : SeqAt.RcLt A s (.str (toStr a) t) (.str (toStr b) u) (toksLt (PV.str a).toks (PV.str b).toks) := by
  intro prog w E Q q
  refine PySem.P.lt_str ?_
  have e : decide ((toStr a).cps.toList < (toStr b).cps.toList) = toksLt (PV.str a).toks (PV.str b).toks := by
    show decide (a.toArray.toList < b.toArray.toList) = (decide (a < b) || (!decide (b < a) && false))
    simp
  rw [e]; exact q
/-- p < q -/
theorem rc_pv : ∀ (d : Nat) (p q : PV) (A : Around) (s : Shared) (a b : Value), p.dok d = true → q.dok d = true → okTx p = true → okTx q = true → PV.cmpb p q = true → RdP s.heap a p → RdP s.heap b q → A.units + d < cLine → SeqAt.RcLt A s a b (toksLt p.toks q.toks) := by
  intro d
  induction d with
  | zero =>
    intro p q A s a b hp hq op oq h ⟨as, ra⟩ ⟨bs, rb⟩ hu
    cases p <;> cases q <;> first | (cases h; done) | (unfold PV.dok at hp; cases hp; done) | skip
    · cases ra; cases rb; exact rc_bool _ _
    · cases ra; cases rb; exact rc_int _ _ _ _
    · cases ra; cases rb; exact rc_str _ _ _ _
  | succ d ih =>
    intro p q A s a b hp hq op oq h ⟨as, ra⟩ ⟨bs, rb⟩ hu
    cases p with
    | bl x =>
      cases q with
      | bl y => cases ra; cases rb; exact rc_bool _ _
      | _ => cases h
    | int x =>
      cases q with
      | int y => cases ra; cases rb; exact rc_int _ _ _ _
      | _ => cases h
    | str x =>
      cases q with
      | str y => cases ra; cases rb; exact rc_str _ _ _ _
      | _ => cases h
    | tup ps =>
      cases q with
      | tup qs =>
        unfold PV.dok at hp hq
        have ra : Reads s.heap a (.tuple (toPyL ps)) as := by unfold toPy at ra; exact ra
        have rb : Reads s.heap b (.tuple (toPyL qs)) bs := by unfold toPy at rb; exact rb
        cases ra with
        | @tuple l o us n _ _ h1 h2 h3 h4 =>
          cases rb with
          | @tuple l' o' ws m _ _ k1 k2 k3 k4 =>
            have n1 : us.size = ps.length := by have := SeqAt.ReadsAll.length _ _ _ h4; rw [toPyL_len] at this; simpa using this
            have n2 : ws.size = qs.length := by have := SeqAt.ReadsAll.length _ _ _ k4; rw [toPyL_len] at this; simpa using this
            have e := first_toks ps qs h
            rw [← n1, ← n2] at e
            show SeqAt.RcLt A s _ _ (toksLt (PV.toksL ps) (PV.toksL qs))
            rw [← e]
            have hu2 : A.in1.units + d < cLine := by show A.units + 1 + d < cLine; omega
            refine lt_tups ⟨_, h1, h2, _, h3⟩ ⟨_, k1, k2, _, k3⟩ (by omega) (fun j j1 j2 => ?_) fun j j1 j2 hj => ?_
            · have g1 := lay_py d (ps.getD j .non) (all_getD hp (by omega)) (okTxL_get op (by omega))
              have g2 := lay_py d (qs.getD j .non) (all_getD hq (by omega)) (okTxL_get oq (by omega))
              exact eq_at (d := d) (readsA_get j1 h4) (readsA_get j2 k4) g1.1 g2.1 (all_getD hp (by omega)) (all_getD hq (by omega)) g1.2 hu2
            · exact ih _ _ A.in1 s _ _ (all_getD hp (by omega)) (all_getD hq (by omega)) (okTxL_get op (by omega)) (okTxL_get oq (by omega)) (cmpb_first ps qs j h (by omega) (by omega) hj.1) (readsA_get j1 h4) (readsA_get j2 k4) hu2
      | _ => cases h
    | lst ps =>
      cases q with
      | lst qs =>
        unfold PV.dok at hp hq
        have ra : Reads s.heap a (.list (toPyL ps)) as := by unfold toPy at ra; exact ra
        have rb : Reads s.heap b (.list (toPyL qs)) bs := by unfold toPy at rb; exact rb
        cases ra with
        | @list l o us n _ _ h1 h2 h3 h4 =>
          cases rb with
          | @list l' o' ws m _ _ k1 k2 k3 k4 =>
            have n1 : us.size = ps.length := by have := SeqAt.ReadsAll.length _ _ _ h4; rw [toPyL_len] at this; simpa using this
            have n2 : ws.size = qs.length := by have := SeqAt.ReadsAll.length _ _ _ k4; rw [toPyL_len] at this; simpa using this
            have e := first_toks ps qs h
            rw [← n1, ← n2] at e
            show SeqAt.RcLt A s _ _ (toksLt (PV.toksL ps) (PV.toksL qs))
            rw [← e]
            have hu2 : A.in1.units + d < cLine := by show A.units + 1 + d < cLine; omega
            refine lt_lsts ⟨_, h1, h2, _, h3⟩ ⟨_, k1, k2, _, k3⟩ (by omega) (fun j j1 j2 => ?_) fun j j1 j2 hj => ?_
            · have g1 := lay_py d (ps.getD j .non) (all_getD hp (by omega)) (okTxL_get op (by omega))
              have g2 := lay_py d (qs.getD j .non) (all_getD hq (by omega)) (okTxL_get oq (by omega))
              exact eq_at (d := d) (readsA_get j1 h4) (readsA_get j2 k4) g1.1 g2.1 (all_getD hp (by omega)) (all_getD hq (by omega)) g1.2 hu2
            · exact ih _ _ A.in1 s _ _ (all_getD hp (by omega)) (all_getD hq (by omega)) (okTxL_get op (by omega)) (okTxL_get oq (by omega)) (cmpb_first ps qs j h (by omega) (by omega) hj.1) (readsA_get j1 h4) (readsA_get j2 k4) hu2
      | _ => cases h
    | _ => first | (cases h; done) | (cases q <;> cases h)
end A3

-- Sim15
set_option Elab.async false
set_option linter.all false
set_option maxRecDepth 100000
set_option maxHeartbeats 4000000
/-! Sim15: values that can be sorted. -/
namespace A3
open PySem PySem.Spec PyProof.Rows L2 A3S PySem.W

noncomputable def kap (h : Heap) (ks : List Value) : PyProof.Rows.KeyKind where
  toKeyOrd := listOrd itemOrd
  keyOf v := open Classical in if v ∈ ks then some (keyToks (SeqAt.readOf h v)) else none
  dflt := ([] : List (Int ⊕ List Nat))
open Classical in
theorem kap_mem {h : Heap} {ks : List Value} {v : Value} (hv : v ∈ ks) : (kap h ks).keyOf v = some (keyToks (SeqAt.readOf h v)) := by
  show (if v ∈ ks then (some (keyToks (SeqAt.readOf h v)) : Option (List (Int ⊕ List Nat))) else none) = _
  exact if_pos hv
theorem kap_inv {h : Heap} {ks : List Value} {v : Value} {a : List (Int ⊕ List Nat)} (e : (kap h ks).keyOf v = some a) : v ∈ ks ∧ a = keyToks (SeqAt.readOf h v) := by
  have e : (open Classical in if v ∈ ks then (some (keyToks (SeqAt.readOf h v)) : Option (List (Int ⊕ List Nat))) else none) = some a := e
  split at e
  · rename_i hv; exact ⟨hv, (Option.some.inj e).symm⟩
  · cases e
theorem rdL_mem {h : Heap} : ∀ {ks : List Value} {ps : List PV}, RdL h ks ps → ∀ v ∈ ks, ∃ p ∈ ps, RdP h v p
  | [], _, _, _, hv => by cases hv
  | k :: ks, [], ⟨as, r⟩, _, _ => by unfold toPyL at r; cases r
  | k :: ks, p :: ps, ⟨as, r⟩, v, hv => by
    unfold toPyL at r
    cases r with
    | cons r1 r2 =>
      rcases List.mem_cons.mp hv with rfl | hv
      · exact ⟨p, List.mem_cons_self, _, r1⟩
      · obtain ⟨q, hq, rq⟩ := rdL_mem (ps := ps) ⟨_, r2⟩ v hv
        exact ⟨q, List.mem_cons_of_mem _ hq, rq⟩
theorem rdL_len {h : Heap} {ks : List Value} {ps : List PV} : RdL h ks ps → ks.length = ps.length := fun ⟨as, r⟩ => by
  have := SeqAt.ReadsAll.length _ _ _ r
  rw [toPyL_len] at this; exact this
section
variable {prog : Program} {w : World} {A : Around} {E : Value → Shared → Prop} {s : Shared}
theorem toksL_app {x y : PV} {xs ys : List PV} (h : PV.cmpb x y = true) : toksLt (PV.toksL (x :: xs)) (PV.toksL (y :: ys)) = if PV.eqv x y then toksLt (PV.toksL xs) (PV.toksL ys) else toksLt x.toks y.toks := by
  cases e : PV.eqv x y with
  | true => rw [toksL_cons_eq h e]; rfl
  | false => rw [toksL_cons_ne h e]; rfl
def headInt : List PV → Bool
  | .int _ :: _ => true
  | _ => false
theorem kat_pv {fin : Bool} {Q : Bool → Shared → Prop} (d : Nat) (hu : A.units + d < cLine) : ∀ (ps qs : List PV) (i : Nat) (vs ws : List Value), RdL s.heap vs ps → RdL s.heap ws qs → ps.all (PV.dok d) = true → qs.all (PV.dok d) = true → okTxL ps = true → okTxL qs = true → PV.cmpbL ps qs = true →
    (i = 0 → headInt ps = true ∧ headInt qs = true) → fin = decide (ps.length < qs.length) → Q (toksLt (PV.toksL ps) (PV.toksL qs)) s → KatLex prog w A true fin Q (vs.zip ws) i s
  | [], [], i, vs, ws, ⟨_, ra⟩, ⟨_, rb⟩, _, _, _, _, _, _, hf, hq => by
    unfold toPyL at ra rb
    cases ra; cases rb
    subst hf
    exact kat_nil hq
  | [], q :: qs, i, vs, ws, ⟨_, ra⟩, ⟨_, rb⟩, _, _, _, _, _, _, hf, hq => by
    unfold toPyL at ra
    cases ra
    subst hf
    have e : toksLt (PV.toksL []) (PV.toksL (q :: qs)) = true := toksLt_ne (by decide) _ _
    rw [e] at hq
    exact kat_nil hq
  | p :: ps, [], i, vs, ws, ⟨_, ra⟩, ⟨_, rb⟩, _, _, _, _, _, _, hf, hq => by
    unfold toPyL at rb
    cases rb
    subst hf
    have e : toksLt (PV.toksL (p :: ps)) (PV.toksL []) = false := toksLt_ne (by decide) _ _
    rw [e] at hq
    rw [List.zip_nil_right]
    exact kat_nil hq
  | p :: ps, q :: qs, i, vs, ws, ⟨_, ra⟩, ⟨_, rb⟩, dp, dq, op, oq, h, h0, hf, hq => by
    unfold toPyL at ra rb
    cases ra with
    | @cons v vs' _ _ as1 as2 r1 r2 =>
      cases rb with
      | @cons u us' _ _ bs1 bs2 k1 k2 =>
        have h' : (PV.cmpb p q && (!PV.eqv p q || PV.cmpbL ps qs)) = true := h
        rw [Bool.and_eq_true] at h'
        rw [List.all_cons, Bool.and_eq_true] at dp dq
        have op' := Bool.and_eq_true_iff.mp (show (okTx p && okTxL ps) = true from op)
        have oq' := Bool.and_eq_true_iff.mp (show (okTx q && okTxL qs) = true from oq)
        have g1 := lay_py d p dp.1 op'.1
        have g2 := lay_py d q dq.1 oq'.1
        rw [List.zip_cons_cons]
        refine kat_cons (eq_at (d := d) ⟨_, r1⟩ ⟨_, k1⟩ g1.1 g2.1 dp.1 dq.1 g1.2 hu prog w _ _ ?_)
        rw [toksL_app h'.1] at hq
        cases he : PV.eqv p q with
        | true =>
          rw [he] at hq h'
          exact kat_yes (kat_pv d hu ps qs (i + 1) vs' us' ⟨_, r2⟩ ⟨_, k2⟩ dp.2 dq.2 op'.2 oq'.2 (by simpa using h'.2) (fun z => absurd z (Nat.succ_ne_zero i)) (by rw [hf]; simp) hq)
        | false =>
          rw [he] at hq
          refine kat_no ?_
          by_cases hi : i = 0
          · subst hi
            obtain ⟨z1, z2⟩ := h0 rfl
            cases p with
            | int x =>
              cases q with
              | int y =>
                cases r1; cases k1
                have e : decide (x < y) = toksLt (PV.int x).toks (PV.int y).toks := by
                  show _ = (decide (x < y) || (!decide (y < x) && false))
                  simp
                have hq : Q (toksLt (PV.int x).toks (PV.int y).toks) s := hq
                rw [← e] at hq
                exact oneLt_int hq
              | _ => cases z2
            | _ => cases z1
          · have e : (true && i == 0) = false := by simp [hi]
            rw [e]
            refine kat_one _ _ ?_
            exact rc_pv d p q A s v u dp.1 dq.1 op'.1 oq'.1 h'.1 ⟨_, r1⟩ ⟨_, k1⟩ hu prog w _ _ hq
theorem kat_tups {h : Heap} : ∀ {vs : List Value} {ps : List PV}, RdL h vs ps → (ps.all fun k => match k with
    | .tup (.int _ :: _) => true
    | _ => false) = true → ∃ fs, KatTups h vs fs ∧ fs.length = vs.length ∧ ∀ f ∈ fs, ∃ i t, f = .int i t
  | [], [], _, _ => ⟨[], KatTups.nil, rfl, fun _ hf => by cases hf⟩
  | [], _ :: _, ⟨_, r⟩, _ => by unfold toPyL at r; cases r
  | _ :: _, [], ⟨_, r⟩, _ => by unfold toPyL at r; cases r
  | v :: vs, p :: ps, ⟨_, r⟩, hk => by
    rw [List.all_cons, Bool.and_eq_true] at hk
    unfold toPyL at r
    cases r with
    | cons r1 r2 =>
      obtain ⟨fs, h1, h2, h3⟩ := kat_tups (vs := vs) (ps := ps) ⟨_, r2⟩ hk.2
      obtain ⟨hk1, _⟩ := hk
      split at hk1
      · rename_i i rest
        obtain ⟨as', r1⟩ : ∃ as', Reads h v (.tuple (.int i :: toPyL rest)) as' := ⟨_, r1⟩
        cases r1 with
        | @tuple a o xs n _ _ ho hc hd hr =>
          cases q : xs.toList with
          | nil => rw [q] at hr; cases hr
          | cons f fr =>
            rw [q] at hr
            cases hr with
            | cons g1 g2 =>
              cases g1
              rename_i t
              have hf : xs[0]? = some (.int i t) := by rw [← Array.getElem?_toList, q]; rfl
              refine ⟨.int i t :: fs, KatTups.cons ho hc hd hf h1, by rw [List.length_cons, List.length_cons, h2], fun g hg => ?_⟩
              rcases List.mem_cons.mp hg with rfl | hg
              · exact ⟨i, t, rfl⟩
              · exact h3 g hg
      · cases hk1
/-- keys that may be sorted by are sorted -/
theorem sorts_pv {ks : List Value} {ps : List PV} (r : RdL s.heap ks ps) (hk : keysOk ps = true) (hd : ps.all (PV.dok 32) = true) (ho : okTxL ps = true) (hc : (ps.all fun a => ps.all fun b => PV.cmpb a b) = true) (hu : A.units + 40 < cLine) : SortsAt prog w A s (kap s.heap ks) ks := by
  have okg : ∀ p ∈ ps, okTx p = true := fun p hp => by
    have : ∀ ps : List PV, okTxL ps = true → ∀ p ∈ ps, okTx p = true := fun ps => by
      induction ps with
      | nil => intro _ p hp; cases hp
      | cons q qs ih =>
        intro h p hp
        have h := Bool.and_eq_true_iff.mp (show (okTx q && okTxL qs) = true from h)
        rcases List.mem_cons.mp hp with rfl | hp
        · exact h.1
        · exact ih h.2 p hp
    exact this ps ho p hp
  have dg : ∀ p ∈ ps, p.dok 32 = true := fun p hp => List.all_eq_true.mp hd p hp
  have cg : ∀ p ∈ ps, ∀ q ∈ ps, PV.cmpb p q = true := fun p hp q hq => List.all_eq_true.mp (List.all_eq_true.mp hc p hp) q hq
  have rd : ∀ v ∈ ks, ∃ p ∈ ps, RdP s.heap v p ∧ keyToks (SeqAt.readOf s.heap v) = p.toks := fun v hv => by
    obtain ⟨p, hp, as, rp⟩ := rdL_mem r v hv
    refine ⟨p, hp, ⟨as, rp⟩, ?_⟩
    rw [SeqAt.readOf_eq (lay_py 32 p (dg p hp) (okg p hp)).1 rp, toks_py 32 p (dg p hp)]
  refine ⟨fun v hv => ⟨_, kap_mem hv⟩, ?_⟩
  unfold keysOk at hk
  rw [Bool.or_eq_true] at hk
  rcases hk with hk | hk
  · refine ⟨oneType', fun E x y a b Q ha hb hq0 => ?_, fun h2 E Q hq => ?_⟩
    · obtain ⟨mx, rfl⟩ := kap_inv ha
      obtain ⟨my, rfl⟩ := kap_inv hb
      obtain ⟨p, hp, ⟨as, rp⟩, ep⟩ := rd x mx
      obtain ⟨q, hq', ⟨bs, rq⟩, eq⟩ := rd y my
      have hq : Q (lexLt itemOrd (keyToks (SeqAt.readOf s.heap x)) (keyToks (SeqAt.readOf s.heap y))) s := hq0
      clear hq0
      rw [ep, eq, lex_toks] at hq
      have k1 := List.all_eq_true.mp hk p hp
      have k2 := List.all_eq_true.mp hk q hq'
      have dp := dg p hp
      have dq := dg q hq'
      have op := okg p hp
      have oq := okg q hq'
      have hcm := cg p hp q hq'
      cases p with
      | lst xs =>
        cases q with
        | lst ys =>
          unfold PV.dok at dp dq
          have rp : Reads s.heap x (.list (toPyL xs)) as := by unfold toPy at rp; exact rp
          have rq : Reads s.heap y (.list (toPyL ys)) bs := by unfold toPy at rq; exact rq
          cases rp with
          | @list l o us n _ _ g1 g2 g3 g4 =>
            cases rq with
            | @list l' o' ws m _ _ f1 f2 f3 f4 =>
              have n1 : us.size = xs.length := by have := SeqAt.ReadsAll.length _ _ _ g4; rw [toPyL_len] at this; simpa using this
              have n2 : ws.size = ys.length := by have := SeqAt.ReadsAll.length _ _ _ f4; rw [toPyL_len] at this; simpa using this
              have e := first_toks xs ys hcm
              rw [← n1, ← n2] at e
              have hq : Q (toksLt (PV.toksL xs) (PV.toksL ys)) s := hq
              rw [← e] at hq
              have hu2 : A.in1.units + 31 < cLine := by show A.units + 1 + 31 < cLine; omega
              rw [keyLt'_oneType, oneLt'_eq]
              simp only [if_true]
              refine wpAny_bind (wpAny_cRoomFor (by omega) ?_)
              refine wpAny_bind (wpAny_callSpecialIfBound?_slot (T := "list") ⟨_, g1, g2⟩ F.slot_list_lt (call_lt_lsts ⟨_, g1, g2, _, g3⟩ ⟨_, f1, f2, _, f3⟩ (e := fun j => PV.eqv (xs.getD j .non) (ys.getD j .non)) (r := fun j => toksLt (xs.getD j .non).toks (ys.getD j .non).toks) (fun j j1 j2 => ?_) (fun j j1 j2 hj => ?_) ?_))
              · have t1 := lay_py 31 (xs.getD j .non) (all_getD dp (by omega)) (okTxL_get op (by omega))
                have t2 := lay_py 31 (ys.getD j .non) (all_getD dq (by omega)) (okTxL_get oq (by omega))
                exact eq_at (d := 31) (readsA_get j1 g4) (readsA_get j2 f4) t1.1 t2.1 (all_getD dp (by omega)) (all_getD dq (by omega)) t1.2 hu2
              · exact rc_pv 31 _ _ A.in1 s _ _ (all_getD dp (by omega)) (all_getD dq (by omega)) (okTxL_get op (by omega)) (okTxL_get oq (by omega)) (cmpb_first xs ys j hcm (by omega) (by omega) hj.1) (readsA_get j1 g4) (readsA_get j2 f4) hu2
              · exact wpAny_truthy_bool hq
        | _ => cases k2
      | _ => cases k1
    · refine kas_kind (T := .type "list") h2 (fun v hv => ?_) (by decide) (by decide) hq
      obtain ⟨p, hp, as, rp⟩ := rdL_mem r v hv
      have k1 := List.all_eq_true.mp hk p hp
      cases p with
      | lst xs =>
        have rp : Reads s.heap v (.list (toPyL xs)) as := by unfold toPy at rp; exact rp
        exact looks_reads rp
      | _ => cases k1
  · refine ⟨tuples' true, fun E x y a b Q ha hb hq0 => ?_, fun h2 E Q hq => ?_⟩
    · obtain ⟨mx, rfl⟩ := kap_inv ha
      obtain ⟨my, rfl⟩ := kap_inv hb
      obtain ⟨p, hp, ⟨as, rp⟩, ep⟩ := rd x mx
      obtain ⟨q, hq', ⟨bs, rq⟩, eq⟩ := rd y my
      have hq : Q (lexLt itemOrd (keyToks (SeqAt.readOf s.heap x)) (keyToks (SeqAt.readOf s.heap y))) s := hq0
      clear hq0
      rw [ep, eq, lex_toks] at hq
      have k1 := List.all_eq_true.mp hk p hp
      have k2 := List.all_eq_true.mp hk q hq'
      have dp := dg p hp
      have dq := dg q hq'
      have op := okg p hp
      have oq := okg q hq'
      have hcm := cg p hp q hq'
      cases p with
      | tup xs =>
        cases q with
        | tup ys =>
          unfold PV.dok at dp dq
          have rp : Reads s.heap x (.tuple (toPyL xs)) as := by unfold toPy at rp; exact rp
          have rq : Reads s.heap y (.tuple (toPyL ys)) bs := by unfold toPy at rq; exact rq
          have z1 : headInt xs = true := by
            cases xs with
            | nil => cases k1
            | cons z zs => cases z <;> first | rfl | cases k1
          have z2 : headInt ys = true := by
            cases ys with
            | nil => cases k2
            | cons z zs => cases z <;> first | rfl | cases k2
          cases rp with
          | @tuple l o us n _ _ g1 g2 g3 g4 =>
            cases rq with
            | @tuple l' o' ws m _ _ f1 f2 f3 f4 =>
              have n1 : us.size = xs.length := by have := SeqAt.ReadsAll.length _ _ _ g4; rw [toPyL_len] at this; simpa using this
              have n2 : ws.size = ys.length := by have := SeqAt.ReadsAll.length _ _ _ f4; rw [toPyL_len] at this; simpa using this
              have hq : Q (toksLt (PV.toksL xs) (PV.toksL ys)) s := hq
              exact kat_lt g1 g3 f1 f3 (kat_pv 31 (by omega) xs ys 0 _ _ ⟨_, g4⟩ ⟨_, f4⟩ dp dq op oq hcm (fun _ => ⟨z1, z2⟩) (by rw [n1, n2]) hq)
        | _ => cases k2
      | _ => cases k1
    · obtain ⟨fs, t1, t2, t3⟩ := kat_tups r hk
      refine kat_kind (T := .type "int") t1 (by omega) (fun f hf => ?_) (by decide) hq
      obtain ⟨i, t, rfl⟩ := t3 f hf
      exact Looks.of_pure rfl
/-- the sorted values are those of the sorted items -/
theorem sortVals_pv {R : Value → PV → Prop} {h : Heap} {ks vs : List Value} {ps xs : List PV} (r : RdL h ks ps) (hd : ps.all (PV.dok 32) = true) (ho : okTxL ps = true) (hv : EachIs R vs xs) (hl : ks.length = vs.length) :
    EachIs R (sortVals (kap h ks) false ks vs) ((sortL keyLtP (ps.zip xs)).map (·.2)) := by
  have dg : ∀ p ∈ ps, p.dok 32 = true := fun p hp => List.all_eq_true.mp hd p hp
  have key : ∀ (ks' : List Value) (ps' : List PV) (vs' : List Value) (xs' : List PV), (∀ v ∈ ks', v ∈ ks) → ps'.all (PV.dok 32) = true → okTxL ps' = true → RdL h ks' ps' → EachIs R vs' xs' → ks'.length = vs'.length →
      EachIs (fun (a : Value × Value) (b : PV × PV) => R a.2 b.2 ∧ keyD (kap h ks) a.1 = b.1.toks) (ks'.zip vs') (ps'.zip xs') := by
    intro ks'
    induction ks' with
    | nil =>
      intro ps' vs' xs' _ _ _ rr _ _
      cases ps' with
      | nil => exact .nil
      | cons _ _ => obtain ⟨_, rr⟩ := rr; unfold toPyL at rr; cases rr
    | cons k ks' ih =>
      intro ps' vs' xs' hm hd' ho' rr ev hl'
      cases ps' with
      | nil => obtain ⟨_, rr⟩ := rr; unfold toPyL at rr; cases rr
      | cons p ps' =>
        cases ev with
        | nil => simp at hl'
        | cons e1 e2 =>
          obtain ⟨_, rr⟩ := rr
          unfold toPyL at rr
          cases rr with
          | cons r1 r2 =>
            rw [List.all_cons, Bool.and_eq_true] at hd'
            have ho'' := Bool.and_eq_true_iff.mp (show (okTx p && okTxL ps') = true from ho')
            rw [List.zip_cons_cons, List.zip_cons_cons]
            refine .cons ⟨e1, ?_⟩ (ih _ _ _ (fun v hv => hm v (List.mem_cons_of_mem _ hv)) hd'.2 ho''.2 ⟨_, r2⟩ e2 (by simpa using hl'))
            rw [keyD_some (kap_mem (hm k List.mem_cons_self)), SeqAt.readOf_eq (lay_py 32 p hd'.1 ho''.1).1 r1, toks_py 32 p hd'.1]
  have ez := key ks ps vs xs (fun v hv => hv) hd ho r hv hl
  unfold sortVals
  have hs := sort_each (r := sortLe (kap h ks).toKeyOrd false fun p : Value × Value => keyD (kap h ks) p.1) (s := leOf fun x y : PV × PV => toksLt x.1.toks y.1.toks) ez (fun p hp q hq => by
    show (!(kap h ks).blt (keyD (kap h ks) q.1.1) (keyD (kap h ks) p.1.1)) = !toksLt q.2.1.toks p.2.1.toks
    rw [(ez.zip p hp).2, (ez.zip q hq).2]
    congr 1
    exact lex_toks _ _)
  have em := sortL_merge (fun x : PV × PV => x.1.toks) (ps.zip xs)
  have em : sortL keyLtP (ps.zip xs) = (ps.zip xs).mergeSort (leOf fun x y : PV × PV => toksLt x.1.toks y.1.toks) := em
  rw [em]
  generalize (ks.zip vs).mergeSort _ = l1 at hs ⊢
  generalize (ps.zip xs).mergeSort _ = l2 at hs ⊢
  induction hs with
  | nil => exact .nil
  | cons a b ih => exact .cons a.1 ih
end
end A3

-- Sim16
set_option Elab.async false
set_option linter.all false
set_option maxRecDepth 100000
set_option maxHeartbeats 4000000
/-! Sim16: sorted(xs), sorted(xs, key=f). -/
namespace A3
open PySem PySem.Spec PyProof.Rows L2 A3S

section
variable {X : Cx} {C : Ctx}
/-- v is a value of p -/
def RV (C : Ctx) (W : Wd) (v : Value) (p : PV) : Prop := ∃ x : V, RelV x v ∧ Rep C.K C.fa W x p
theorem rv_of {W : Wd} : ∀ {xs : List V} {us : List Value} {ps : List PV}, Vals xs us → RepL C.K C.fa W xs ps → PySem.W.EachIs (RV C W) us ps
  | [], us, ps, h, r => by cases r; cases h; exact .nil
  | x :: xs, us, ps, h, r => by
    cases r with
    | cons r1 r2 =>
      cases h with
      | cons h1 h2 => exact .cons ⟨x, h1, r1⟩ (rv_of h2 r2)
theorem rv_back {W : Wd} {us : List Value} {ps : List PV} (h : PySem.W.EachIs (RV C W) us ps) : ∃ xs, Vals xs us ∧ RepL C.K C.fa W xs ps := by
  induction h with
  | nil => exact ⟨[], .nil, .nil⟩
  | cons a b ih =>
    obtain ⟨x, h1, h2⟩ := a
    obtain ⟨xs, g1, g2⟩ := ih
    exact ⟨x :: xs, .cons h1 g1, .cons h2 g2⟩
mutual
theorem okTx_of {K : PySem.W.Frag} {fa : Fa} {W : Wd} : ∀ {v : V} {p : PV}, Rep K fa W v p → okTx p = true
  | _, _, .non => rfl
  | _, _, .bl _ => rfl
  | _, _, .int _ => rfl
  | _, _, .str _ h => h
  | _, _, .tup _ r _ => okTxL_of r
  | _, _, .lst _ r _ => okTxL_of r
  | _, _, .fn _ => rfl
  | _, _, .obj _ => rfl
  | _, _, .dct _ _ => rfl
theorem okTxL_of {K : PySem.W.Frag} {fa : Fa} {W : Wd} : ∀ {vs : List V} {ps : List PV}, RepL K fa W vs ps → okTxL ps = true
  | _, _, .nil => rfl
  | _, _, .cons r t => by
    show (okTx _ && okTxL _) = true
    rw [okTx_of r, okTxL_of t]; rfl
end
theorem rdL_of {pins : List (Addr × Obj)} {σ : L2.St} {H : Hp} {s : Shared} {W : Wd} {d : Nat} {xs : List V} {us : List Value} {ps : List PV} (I : Inv X pins σ H s) (hK : X.K = C.K) (wf : Wf W H) (r : RepL C.K C.fa W xs ps) (h : Vals xs us) (hd : ps.all (PV.dok d) = true) : RdL s.heap us ps := by
  obtain ⟨h1, _, _⟩ := dpL_of d r hd
  exact Dp.readsAll I (toPyL ps) xs us (hK ▸ DpAll.mono wf.sub h1) h
theorem sortV_some {ks xs ys : List PV} (h : sortV ks xs = some ys) : keysOk ks = true ∧ ks.all (PV.dok 32) = true ∧ (ks.all fun a => ks.all fun b => PV.cmpb a b) = true ∧ ys = (sortL keyLtP (ks.zip xs)).map (·.2) := by
  unfold sortV at h
  split at h
  · rename_i c
    simp only [Bool.and_eq_true] at c
    cases h
    exact ⟨c.1, c.2.1, c.2.2, rfl⟩
  · cases h
theorem sort_len {ks xs : List PV} (h : ks.length = xs.length) : ((sortL keyLtP (ks.zip xs)).map (·.2)).length = xs.length := by
  rw [List.length_map, length_sortL, List.length_zip, h, Nat.min_self]
theorem b_sorted (hK : X.K = C.K) (hu : X.A.units + 60 < cLine) : CallR X (.builtin "sorted") (rB1 C .sorted) := by
  intro pins s σ H vs us Q I r h0
  obtain ⟨W, x, p, q, rfl, wf, h, e, k⟩ := h0
  replace e : sortedV p = some q := e
  unfold sortedV at e
  split at e
  · rename_i ps
    obtain ⟨ys, hy, rfl⟩ := Option.map_eq_some_iff.mp e
    obtain ⟨c1, c2, c3, ey⟩ := sortV_some hy
    obtain ⟨a, xs, rfl, d1, r1, z⟩ := h.lst wf
    obtain rfl := Vals.ref1 r
    obtain ⟨its, rv, hl, hz⟩ := I.list (hK ▸ d1)
    have rd := rdL_of I hK wf r1 rv c2
    have rd2 : RdL (PySem.W.sortingHeap (PySem.W.copyHeap s.heap its) (s.heap.objs.size + 1) its) its ps := by
      obtain ⟨as, q⟩ := rd
      exact ⟨as, PyProof.Rows.ReadsAll.keeps (fun b o e => PySem.W.sorting_copy_old e) q⟩
    have S := sorts_pv (prog := X.prog) (w := X.w) (A := X.A.in1.in1) (s := { s with heap := PySem.W.sortingHeap (PySem.W.copyHeap s.heap its) (s.heap.objs.size + 1) its }) rd2 c1 c2 (okTxL_of r1) c3 (by show X.A.units + 1 + 1 + 40 < cLine; omega)
    refine PySem.W.sorted_vals hl.isList S (by rw [← rv.length]; exact hz) ?_
    have ez := sortVals_pv rd2 c2 (okTxL_of r1) (rv_of rv r1) rfl
    rw [← ey] at ez
    obtain ⟨zs, g1, g2⟩ := rv_back ez
    have hlen : ys.length = ps.length := by rw [ey]; exact sort_len rfl
    obtain ⟨ep, he'⟩ := PyProof.Rows.sortedAll_at s.heap its (PySem.W.sortVals (kap (PySem.W.sortingHeap (PySem.W.copyHeap s.heap its) (s.heap.objs.size + 1) its) its) false its its).toArray
    refine ⟨.ref _, upd H (s.heap.objs.size + 1) (.lst zs), I.laid (t' := s.toks) (fun _ _ => PyProof.Rows.sortedAll_old) (Nat.le_succ _) ⟨by rw [g2.length, hlen]; exact z, _, ep, g1, he'⟩, rfl, ?_⟩
    have hn := I.hok.fresh (Nat.le_succ s.heap.objs.size)
    exact k.lay wf hn (.lst (.inl (.inl upd_same)) (g2.ext (.laid wf hn)) (by rw [hlen]; exact z))
  · cases e

/-! ### sorted(xs, key=f) -/
theorem bind_assoc {α β γ : Type} (r : A3.R α) (f : α → Store → A3.R β) (g : β → Store → A3.R γ) : (r.bind f).bind g = r.bind fun a S => (f a S).bind g := by cases r <;> rfl
/-- f's call from further in -/
theorem run_at {pins : List (Addr × Obj)} {σ : L2.St} {H : Hp} {s : Shared} {A' : Around} {f : Addr} {fd : FuncData} {ps : List Str} {sp : Sp} {k : Nat} {Q : VK} {v : V} {u : Value} (F : FnOk X.prog X.w X.K X.mg X.base CX0 k f fd ps sp) (hr : Room k A') (hb : Binds X.K fd ps [])
    (I : Inv X pins σ H s) (e0 : Env0 X.prog X.w X.K X.mg X.base A' X.stack s H) (r : RelV v u) (h : sp [v] H Q fun _ _ _ => False) : wpAny (model X.prog X.w) A' (call (.ref f) [u]) (CE X.stack X.prog X.w H s Q) (fun _ _ => False) s := by
  have r2 : Vals [v] [u] := .cons r .nil
  have hl : ([u] ++ ([] : List Value)).length = ps.length := by rw [← F.len _ _ _ _ h]; rfl
  refine wpAny_call (codeAny_mono (F.run A' X.stack s H ⟨[u], []⟩ [u] [v] Q (fun _ _ _ => False) hr e0 (by have := hb s [u] I.kIn hl; rwa [List.append_nil] at this) r2 h) fun r s' hq => ?_)
  cases r with
  | error e => exact hq.elim
  | ok fl =>
    cases fl with
    | ret u => exact hq
    | next => exact False.elim hq
    | brk => exact False.elim hq
    | cont => exact False.elim hq
def keyF (C : Ctx) (f : FN) : PV → Store → A3.R PV := fun y S => C.cf f [y] S
def srtG (ps : List PV) : List PV → Store → A3.R PV := fun ks S => (A3.R.of (sortV ks ps) S).bind fun ys S => .ok (.lst ys) S
def rSrtk (C : Ctx) (f : FN) : List V → List V → Hp → VK → Prop := fun vs zs H Q => ∃ W x p ps, vs = [x] ∧ zs = [.ref (C.fa f)] ∧ Wf W H ∧ VB C W H x p ∧ sortItems p = some ps ∧ After C.rep W H ((mapC (keyF C f) ps W.S).bind (srtG ps)) Q
/-- one object of ours taken away -/
theorem EachIs_len {α β : Type} {R : α → β → Prop} {as : List α} {bs : List β} (h : PySem.W.EachIs R as bs) : as.length = bs.length := h.length
theorem each_ext {W W' : Wd} {H H' : Hp} (x : Ext H W H' W') {us : List Value} {ps : List PV} (h : PySem.W.EachIs (RV C W) us ps) : PySem.W.EachIs (RV C W') us ps := h.mono fun _ _ ⟨y, h1, h2⟩ => ⟨y, h1, h2.ext x⟩
/-- the state within the sort: behind i keys -/
structure Mid (X : Cx) (C : Ctx) (pins : List (Addr × Obj)) (σ : L2.St) (H : Hp) (s : Shared) (W : Wd) (f : FN) (ps : List PV) (Q : VK) (a kS : Addr) (e1 : Nat) (i : Nat) (s' : Shared) : Prop where
  ex : ∃ (Hi : Hp) (Wi : Wd) (kA : Array Value) (e : Nat) (ks : List PV), Inv X pins σ Hi s' ∧ s'.os = s.os ∧ Un (frs X.stack) [] H Hi s.heap s'.heap ∧ Ext H W Hi Wi ∧ Hi kS = none ∧ Hi a = none ∧ s'.heap.get? kS = some (seqObj "list" kA e) ∧ s'.heap.get? a = some (seqObj "list" #[] e1) ∧
    ks.length = i ∧ PySem.W.EachIs (RV C Wi) kA.toList ks ∧ After C.rep Wi Hi ((mapC (keyF C f) (ps.drop i) Wi.S).bind fun ks2 S => srtG ps (ks ++ ks2) S) Q
theorem cr_sortk {x : Str} {f : FN} {k : Nat} (hK : X.K = C.K) (hu : X.A.units + 60 < cLine) (c : CallOk C X x f k) : CallRK X (.builtin "sorted") [Str.ofString "key"] (rSrtk C f) := by
  intro pins s σ H vs zs us ws Q I r rz h0
  obtain ⟨W, y, p, ps, rfl, rfl, wf, h, ei, q⟩ := h0
  obtain ⟨n, fd, pn, F, hroom, hm, hkp, hb, _⟩ := c
  cases rz with
  | cons rz1 rz2 =>
    cases rz2
    cases rz1
    unfold sortItems at ei
    split at ei
    · rename_i ps0
      cases ei
      obtain ⟨l, xs, rfl, d1, r1, z⟩ := h.lst wf
      obtain rfl := Vals.ref1 r
      obtain ⟨its, rv, hl, hz⟩ := I.list (hK ▸ d1)
      have hZ : its.length ≤ sizeLine := by rw [← rv.length]; exact hz
      have hroom2 : Room n X.A.in1.in1 := ⟨hroom.hd, by have := hroom.dp; show X.A.depth + 3 * n + 5 < recursionLimit; omega, by have := hroom.un; show X.A.units + 1 + 1 + 16 * n + 200 < cLine; omega⟩
      refine PySem.W.sorted_of_sort hl.isList hZ (PyProof.Rows.ksk_s1 _ _) (fun _ => PyProof.Rows.ksk_l1 _ _) fun E' => ?_
      show wpAny _ _ (Builtin.«list.sort» ⟨[.ref (s.heap.objs.size + 1)], [(Str.ofString "key", .ref (C.fa f))]⟩) _ _ _
      rw [PyProof.Rows.ksk_t1]
      have ho := PySem.W.copyHeap_at s.heap its
      generalize ha : s.heap.objs.size + 1 = a at ho ⊢
      have hold : ∀ b o, s.heap.get? b = some o → (PySem.W.copyHeap s.heap its).get? b = some o := fun b o e => PySem.W.copyHeap_old e
      generalize hg : PySem.W.copyHeap s.heap its = hc at ho hold ⊢
      have la : a < hc.objs.size := Heap.lt_size ho
      obtain ⟨e1, ho1⟩ : ∃ e1, (hc.update a (Obj.mapSeq fun _ => (#[] : Array Value))).get? a = some (seqObj "list" #[] e1) := ⟨_, get?_update_seq ho fun _ => #[]⟩
      unfold PyProof.Rows.ksk_tree
      refine wpAny_bind (listItems_at ho rfl ?_)
      refine wpAny_bind (listUpdate_at ho rfl ?_ (by rw [List.size_toArray]; exact hZ) (Nat.zero_le _))
      refine wpAny_bind (seqEpoch_at ho1 rfl ?_)
      refine wpAny_bind (wpAny_newTuple ?_ (by show its.length ≤ _; exact hZ))
      refine wpAny_bind (wpAny_newList ?_ (Nat.zero_le _))
      refine wpAny_holding ?_
      have hkS : ((hc.update a (Obj.mapSeq fun _ => (#[] : Array Value))).push (seqObj "tuple" its.toArray 0)).objs.size = hc.objs.size + 1 := by rw [size_push', Heap.size_update]
      show wpAny _ _ (PyProof.Rows.ksk_rest a (.ref (C.fa f)) false its.toArray e1 (.ref ((hc.update a (Obj.mapSeq fun _ => (#[] : Array Value))).push (seqObj "tuple" its.toArray 0)).objs.size)) _ _ _
      rw [hkS]
      have hnk0 : (((hc.update a (Obj.mapSeq fun _ => (#[] : Array Value))).push (seqObj "tuple" its.toArray 0)).push (seqObj "list" #[] 0)).get? (hc.objs.size + 1) = some (seqObj "list" #[] 0) := by
        rw [← hkS]; exact Heap.get?_push_size _ rfl
      have hna0 : (((hc.update a (Obj.mapSeq fun _ => (#[] : Array Value))).push (seqObj "tuple" its.toArray 0)).push (seqObj "list" #[] 0)).get? a = some (seqObj "list" #[] e1) := Heap.get?_push_of_some _ (Heap.get?_push_of_some _ ho1)
      have hne : ∀ b o, s.heap.get? b = some o → b ≠ a := fun b o e => by rw [← ha]; exact Nat.ne_of_lt (Nat.lt_succ_of_lt (Heap.lt_size e))
      have hk0 : ∀ b o, s.heap.get? b = some o → (((hc.update a (Obj.mapSeq fun _ => (#[] : Array Value))).push (seqObj "tuple" its.toArray 0)).push (seqObj "list" #[] 0)).get? b = some o := fun b o e =>
        Heap.get?_push_of_some _ (Heap.get?_push_of_some _ ((Heap.get?_update_ne _ _ _ _ (hne b o e)).trans (hold b o e)))
      have hszc : s.heap.objs.size ≤ hc.objs.size := by
        have := la; omega
      have hkSs : s.heap.objs.size ≤ hc.objs.size + 1 := by omega
      generalize hkk : hc.objs.size + 1 = kS at hnk0 hkSs ⊢
      have hneK : ∀ b o, s.heap.get? b = some o → b ≠ kS := fun b o e => Nat.ne_of_lt (Nat.lt_of_lt_of_le (Heap.lt_size e) hkSs)
      have hka : kS ≠ a := by omega
      generalize (((hc.update a (Obj.mapSeq fun _ => (#[] : Array Value))).push (seqObj "tuple" its.toArray 0)).push (seqObj "list" #[] 0)) = h0 at hnk0 hna0 hk0 ⊢
      have Ha : H a = none := I.hok.fresh (by omega)
      have HkS : H kS = none := I.hok.fresh hkSs
      have I0 : Inv X pins σ H { s with heap := h0 } := I.call' (ch := []) (s' := { s with heap := h0 }) rfl (Un.kept hk0) ((fun b o e => (I.hok b o e).stay (fun c v _ y => hk0 c v y) (fun _ y => y) fun _ _ y => y) : HOk X.prog X.w H h0) I.bare (fun b z => absurd z (by simp))
      have hlen : its.length = ps.length := by rw [← rv.length, r1.length]
      unfold PyProof.Rows.ksk_rest
      refine wpAny_bind (wpAny_rule ?_)
      first
        | rw [List.forIn_toArray]
        | (rw [← Array.forIn_toList]; simp only [List.toList_toArray])
        | rw [← Array.forIn_toList]
      refine wpAny_bind (PyProof.Rows.ksk_fold (fun i s' => Mid X C pins σ H s W f ps Q a kS e1 i s') its 0 { s with heap := h0 } ⟨H, W, #[], 0, [], I0, rfl, Un.kept hk0, .refl wf, HkS, Ha, hnk0, hna0, rfl, .nil, by simpa using q⟩ ?step ?done)
      case step =>
        rintro j u s' hx ⟨Hi, Wi, kA, e, ks, Ii, os, un, xi, nk, na, gk, ga, lk, ek, qi⟩
        rw [Nat.zero_add] at lk qi ⊢
        have hj : j < ps.length := by rw [← hlen]; exact (List.getElem?_eq_some_iff.mp hx).1
        obtain ⟨xv, hxv⟩ : ∃ xv, xs[j]? = some xv := ⟨_, List.getElem?_eq_getElem (by rw [r1.length]; exact hj)⟩
        obtain ⟨u2, hu2, ru⟩ := rv.get hxv
        rw [hx] at hu2
        cases hu2
        obtain ⟨pj, hpj, rj⟩ := r1.getV hxv
        have hd : ps.drop j = pj :: ps.drop (j + 1) := by
          rw [List.drop_eq_getElem_cons hj]
          rw [List.getElem?_eq_getElem hj] at hpj
          rw [Option.some.inj hpj]
        rw [hd] at qi
        have qi : After C.rep Wi Hi ((C.cf f [pj] Wi.S).bind fun y S' => ((mapC (keyF C f) (ps.drop (j + 1)) S').bind fun ys S'' => .ok (y :: ys) S'').bind fun ks2 S => srtG ps (ks ++ ks2) S) Q := by
          have e0 : ((C.cf f [pj] Wi.S).bind fun y S' => ((mapC (keyF C f) (ps.drop (j + 1)) S').bind fun ys S'' => .ok (y :: ys) S'').bind fun ks2 S => srtG ps (ks ++ ks2) S) = ((mapC (keyF C f) (pj :: ps.drop (j + 1)) Wi.S).bind fun ks2 S => srtG ps (ks ++ ks2) S) := (bind_assoc _ _ _).symm
          rw [e0]; exact qi
        have e0 : Env0 X.prog X.w X.K X.mg X.base X.A.in1.in1 X.stack s' Hi := Ii.env0.in1.in1
        have call := run_at (Q := fun v H1 => ∃ pk W1, Ext Hi Wi H1 W1 ∧ Rep C.K C.fa W1 v pk ∧ After C.rep W1 H1 ((mapC (keyF C f) (ps.drop (j + 1)) W1.S).bind fun ks2 S => srtG ps (ks ++ [pk] ++ ks2) S) Q) F hroom2 hb Ii e0 ru ⟨Wi, [pj], xi.wf, .one (rj.ext xi), (After.bind (rel := C.rep) qi).mono fun v H1 ⟨pk, W1, x1, rp, _, q1⟩ => ⟨pk, W1, x1, rp, by
          have e2 : ((mapC (keyF C f) (ps.drop (j + 1)) W1.S).bind fun ks2 S => srtG ps (ks ++ [pk] ++ ks2) S) = ((mapC (keyF C f) (ps.drop (j + 1)) W1.S).bind fun ys S'' => .ok (pk :: ys) S'').bind fun ks2 S => srtG ps (ks ++ ks2) S := by
            rw [bind_assoc]
            congr 1
            funext ks2 S
            show srtG ps (ks ++ [pk] ++ ks2) S = srtG ps (ks ++ (pk :: ks2)) S
            rw [List.append_assoc]; rfl
          rw [e2]; exact q1⟩⟩
        refine wpAny_bind (wpAny_attempt (wpAny_mono call (fun v s2 hq => ?_) fun _ _ z => z.elim))
        obtain ⟨vv, H1, os2, bare2, un2, hok2, rel, pk, W1, x1, rp, q1⟩ := hq
        have gk2 : s2.heap.get? kS = some (seqObj "list" kA e) := un2.keep kS _ gk nk (fun z => by
          obtain ⟨o, e3⟩ : ∃ o, s.heap.get? kS = some o := by
            obtain ⟨_, o, h3, _⟩ := I.stack.mem z
            exact ⟨o, h3⟩
          exact hneK kS o e3 rfl) (by simp)
        have ga2 : s2.heap.get? a = some (seqObj "list" #[] e1) := un2.keep a _ ga na (fun z => by
          obtain ⟨o, e3⟩ : ∃ o, s.heap.get? a = some o := by
            obtain ⟨_, o, h3, _⟩ := I.stack.mem z
            exact ⟨o, h3⟩
          exact hne a o e3 rfl) (by simp)
        have nk2 : H1 kS = none := un2.free kS _ gk nk (by simp)
        have na2 : H1 a = none := un2.free a _ ga na (by simp)
        have I2 : Inv X pins σ H1 s2 := Ii.call' (ch := []) os2 un2 hok2 bare2 (fun b z => absurd z (by simp))
        obtain ⟨g2, gg, dd, tt, oo⟩ := s2
        have s1 := Heap.SameBut.update g2 kS (Obj.mapSeq (·.push v))
        obtain ⟨c2, hc2⟩ : ∃ c2, (g2.update kS (Obj.mapSeq (·.push v))).get? kS = some (seqObj "list" (kA.push v) c2) := ⟨_, get?_update_seq gk2 (·.push v)⟩
        have hkz : kA.size ≤ its.length := by
          have := ek.length
          rw [Array.length_toList] at this
          omega
        refine wpAny_bind (listUpdate_at gk2 rfl ?_ (Nat.le_trans hkz hZ) (Nat.le_trans (Nat.le_of_eq (Array.size_push ..)) (Nat.succ_le_succ (Nat.le_trans hkz hZ))))
        have hu3 : ∀ b o, b ≠ kS → g2.get? b = some o → (g2.update kS (Obj.mapSeq (·.push v))).get? b = some o := fun b o hb e => (s1.2 b hb).trans e
        have hn1 : ∀ b u, H1 b = some u → b ≠ kS := fun b u e z => by rw [z, nk2] at e; cases e
        have un3 : Un (frs X.stack) [] H H1 s.heap (g2.update kS (Obj.mapSeq (·.push v))) := by
          have un12 := un.trans un2
          exact ⟨fun b o q n hf hx => hu3 b o (hneK b o q) (un12.keep b o q n hf hx), fun b o q n hf hx => by
              obtain ⟨sl, e4⟩ := un12.slot b o q n hf hx
              exact ⟨sl, hu3 b _ (hneK b o q) e4⟩, un12.free, fun b o q hx => by
              obtain ⟨o', e4⟩ := un12.there b o q hx
              exact ⟨o', hu3 b _ (hneK b o q) e4⟩, un12.tups, un12.frzs, un12.tbls⟩
        have hok3 : HOk X.prog X.w H1 (g2.update kS (Obj.mapSeq (·.push v))) := fun b o e => (hok2 b o e).stay (fun c w hc y => hu3 c w (by
          rcases hc with rfl | hc
          · exact hn1 _ _ e
          · exact hn1 _ _ hc) y) (fun _ y => y) fun _ _ y => y
        have os3 : oo = s.os := by
          have : oo = s'.os := os2
          rw [this]; exact os
        have I3 : Inv X pins σ H1 ⟨g2.update kS (Obj.mapSeq (·.push v)), gg, dd, tt, oo⟩ := I.call' (ch := []) (s' := ⟨g2.update kS (Obj.mapSeq (·.push v)), gg, dd, tt, oo⟩) os3 un3 hok3 bare2 (fun b z => absurd z (by simp))
        refine wpAny_pure ⟨rfl, H1, W1, kA.push v, c2, ks ++ [pk], I3, os3, un3, xi.trans x1, nk2, na2, hc2, hu3 a _ (Ne.symm hka) ga2, by rw [List.length_append, lk]; rfl, ?_, q1⟩
        rw [Array.toList_push]
        exact PySem.W.each_snoc ⟨vv, rel, rp⟩ (each_ext x1 ek)
      case done =>
        rintro s' ⟨Hi, Wi, kA, e, ks, Ii, os, un, xi, nk, na, gk, ga, lk, ek, qi⟩
        have hdrop : ps.drop (0 + its.length) = [] := List.drop_of_length_le (by omega)
        rw [hdrop] at qi
        have qi : After C.rep Wi Hi ((A3.R.of (sortV ks ps) Wi.S).bind fun ys S => .ok (.lst ys) S) Q := by
          have e0 : ((mapC (keyF C f) [] Wi.S).bind fun ks2 S => srtG ps (ks ++ ks2) S) = srtG ps (ks ++ []) Wi.S := rfl
          rw [e0, List.append_nil] at qi
          exact qi
        obtain ⟨ys, hy⟩ : ∃ ys, sortV ks ps = some ys := by
          cases e2 : sortV ks ps with
          | none => rw [e2] at qi; exact qi.elim
          | some ys => exact ⟨ys, rfl⟩
        rw [hy] at qi
        have qi : After C.rep Wi Hi (.ok (.lst ys) Wi.S) Q := qi
        obtain ⟨c1, c2, c3, ey⟩ := sortV_some hy
        obtain ⟨kvs, kv1, kv2⟩ := rv_back ek
        have rdk : RdL s'.heap kA.toList ks := rdL_of Ii hK xi.wf kv2 kv1 c2
        have hks : ks.length = its.length := by omega
        have hsz : kA.size = its.length := by
          have := ek.length
          rw [Array.length_toList] at this
          omega
        refine wpAny_bind (listItems_at gk rfl ?_)
        obtain ⟨G, g1, g2⟩ := restrict s'.heap fun b => decide (b ≠ kS)
        have gk1 : ∀ b, b ≠ kS → G.get? b = s'.heap.get? b := fun b hb => g1 b (decide_eq_true hb)
        have kp : PySem.W.KeepsBut a G s'.heap := fun b o hb e2 => by
          by_cases hbk : b = kS
          · rw [hbk, g2 kS (by simp)] at e2; cases e2
          · rw [← gk1 b hbk]; exact e2
        have S := sorts_pv (prog := X.prog) (w := X.w) (A := X.A.in1.in1) (s := s') rdk c1 c2 (okTxL_of kv2) c3 (by show X.A.units + 1 + 1 + 40 < cLine; omega)
        refine PySem.W.keyH_end (κ := kap s'.heap kA.toList) kp (g2 kS (by simp)) gk ga hka S hsz hZ fun h' tk cc kp2 hD => ⟨rfl, ?_⟩
        have ez := sortVals_pv rdk c2 (okTxL_of kv2) (rv_of rv (r1.ext xi)) (by rw [Array.length_toList]; exact hsz)
        rw [← ey] at ez
        obtain ⟨ws2, w1, w2⟩ := rv_back ez
        have hlen2 : ys.length = ps.length := by rw [ey]; exact sort_len (by omega)
        have hu3 : ∀ b o, b ≠ a → b ≠ kS → s'.heap.get? b = some o → h'.get? b = some o := fun b o h1 h2 e2 => kp2 b o h1 (by rw [gk1 b h2]; exact e2)
        have hna : ∀ b u, Hi b = some u → b ≠ a := fun b u e z => by rw [z, na] at e; cases e
        have hnk : ∀ b u, Hi b = some u → b ≠ kS := fun b u e z => by rw [z, nk] at e; cases e
        obtain ⟨g2', gg, dd, tt, oo⟩ := s'
        have un3 : Un (frs X.stack) [] H (upd Hi a (.lst ws2)) s.heap h' :=
          ⟨fun b o q n hf hx => hu3 b o (hne b o q) (hneK b o q) (un.keep b o q n hf hx), fun b o q n hf hx => by
              obtain ⟨sl, e4⟩ := un.slot b o q n hf hx
              exact ⟨sl, hu3 b _ (hne b o q) (hneK b o q) e4⟩, fun b o q n hx => by rw [upd_ne (hne b o q)]; exact un.free b o q n hx, fun b o q hx => by
              obtain ⟨o', e4⟩ := un.there b o q hx
              exact ⟨o', hu3 b _ (hne b o q) (hneK b o q) e4⟩, fun b xs e4 => by
              have e5 := un.tups b xs e4
              rw [upd_ne (hna b _ e5)]; exact e5, fun b o u e4 => by
              have e5 := un.frzs b o u e4
              rw [upd_ne (hna b _ e5)]; exact e5, fun b qs e4 => by
              obtain ⟨more, e5⟩ := un.tbls b qs e4
              exact ⟨more, by rw [upd_ne (hna b _ e5)]; exact e5⟩⟩
        have hok3 : HOk X.prog X.w (upd Hi a (.lst ws2)) h' := fun b o e4 => by
          by_cases hb : b = a
          · subst hb
            rw [upd_same] at e4
            cases e4
            exact ⟨by rw [w2.length, hlen2]; exact z, _, _, w1, hD⟩
          · rw [upd_ne hb] at e4
            exact (Ii.hok b o e4).stay (fun c w hc y => by
                rcases hc with rfl | hc
                · exact hu3 c w hb (hnk _ _ e4) y
                · exact hu3 c w (hna _ _ hc) (hnk _ _ hc) y) (fun c hc => by rw [upd_ne (hna _ _ hc)]; exact hc) (fun c xs hc => by rw [upd_ne (hna _ _ hc)]; exact hc)
        have os3 : oo = s.os := os
        refine ⟨.ref a, upd Hi a (.lst ws2), I.call' (ch := []) (s' := ⟨h', gg, dd, tk, oo⟩) os3 un3 hok3 Ii.bare (fun b z => absurd z (by simp)), rfl, ?_⟩
        exact qi.lay xi.wf na (.lst (.inl (.inl upd_same)) (w2.ext (.laid xi.wf na)) (by rw [hlen2]; exact z))
    · cases ei

theorem simE_srtk {a : Expr} {ma : E} {y : Str} {f : FN} {k : Nat} {p p2 kp pos : Pos} (hK : X.K = C.K) (hu : X.A.units + 60 < cLine) (c : CallOk C X y f k) (hg : Gl X "sorted") (hm : X.mg "sorted" = none) (ha : PE X a (tB C ma)) (hs : notStar a = true)
    (hf : PE X (.Name y p2) (tE C (.c (.fn f [])))) : PE X (.Call (.Name "sorted" p) [a] [⟨some "key", .Name y p2, kp⟩] pos) (tE C (.srtk f ma)) :=
  (pe_callBK (cr_sortk hK hu c) hg hm rfl (pa_cons ha pa_nil (star_cons hs)) (pk_cons hf pk_nil) (by decide) (by decide) (by rw [star_cons hs]; rfl) (by rw [star_cons hs]; rfl) rfl rfl rfl).weak fun σ H Q ⟨W, ρ, wf, sl, q⟩ => ⟨W, ρ, wf, sl, (After.bind (rel := RelB C σ ρ) q).mono fun x H1 ⟨p, W1, x1, r1, _, q1⟩ => ⟨W1, ρ, x1.wf, sl.ext x1, fun v H2 W2 x2 e2 r2 => by
    cases r2
    refine ⟨W2, x, p, ?_⟩
    cases hi : sortItems p with
    | none => rw [hi] at q1; exact q1.elim
    | some ps =>
      rw [hi] at q1
      have q1 : After C.rep W1 H1 ((mapC (keyF C f) ps W1.S).bind (srtG ps)) Q := q1
      refine ⟨ps, rfl, rfl, x2.wf, ?_, rfl, ?_⟩
      · exact (RelB.ext (C := C) x2 r1).vb ((sl.ext x1).ext x2)
      · rw [e2]; exact After.start q1 x2⟩⟩
end
end A3

-- Sim17
set_option Elab.async false
set_option linter.all false
set_option maxRecDepth 100000
set_option maxHeartbeats 4000000
/-! Sim17: extend, min of two, dict comprehensions. -/
namespace A3
open PySem PySem.Spec PyProof.Rows L2
open PySem.AutoSeq1 (wpAny_loadPart')

theorem list_ext (l : Addr) (items : Array Value) (n : Nat) (b : Addr) (items2 : Array Value) (n2 : Nat) (d2 : Option Addr) (s2 : Array (Option Value)) (hc0 : ¬(!items.isEmpty && Builtin.List.listTooLong (items.size + items2.size)) = true) (hc1 : items.size ≤ sizeLine) (hs2 : items.size + items2.size ≤ sizeLine + 1) :
    Meets (Builtin.«list.extend» ⟨[.ref l, .ref b], []⟩) (fun _ R s => s.heap.get? l = some { cls := .type "list", dict := none, data := .seq items n, slots := #[] } ∧ s.heap.get? b = some { cls := .type "list", dict := d2, data := .seq items2 n2, slots := s2 } ∧ R (.ok (.ret Value.none)) { s with heap := s.heap.update l (Obj.mapSeq fun x => x ++ items2), toks := s.toks }) :=
  .of_wp fun prog w A R s h => by
    obtain ⟨hp, g, d, tk, os⟩ := s; obtain ⟨hl, hb, h⟩ := h; have f1 := AutoSeq1.idx_int; have f2 := AutoSeq1.sub_tuple_tuple; have f3 := AutoSeq1.sub_list_list; have f4 := AutoSeq1.sub_tuple_list; have f5 := AutoSeq1.sub_list_tuple;
    have hz' : (items ++ items2).size ≤ sizeLine + 1 := by rw [Array.size_append]; exact hs2
    wp_walk using (wpAny_updateSeq hl rfl (hz := hc1) (_hz' := hz')), wpAny_loadPart' hl, wpAny_loadPart' hb; exact ⟨_, rfl, h⟩
section
variable {X : Cx} {C : Ctx}
def rExtA (K : PySem.W.Frag) : V → List V → Hp → VK → Prop := fun x vs H Q => ∃ l b xs zs, x = .ref l ∧ vs = [.ref b] ∧ H l = some (.lst xs) ∧ SqL K H b zs ∧ xs.length + zs.length ≤ sizeLine ∧ Q .non (upd H l (.lst (xs ++ zs)))
theorem mt_extA : MtM X "list.extend" (rExtA X.K) := by
  intro pins s σ H x vs v us Q I rx rv h
  obtain ⟨l, b, xs, zs, rfl, rfl, hH, hB, hz, q⟩ := h
  cases rx
  obtain ⟨u, rfl, ru⟩ := rv.one
  cases ru
  obtain ⟨z, its, n, r, hl, e⟩ := I.lstM hH
  obtain ⟨its2, r2, ⟨⟨cl, dd, da, sl⟩, n2, e2, hc, hd, hda⟩, hz2⟩ := I.list hB
  cases hc
  cases hda
  have l1 := r.length
  have l2 := r2.length
  have hsz : its.toArray.size + its2.toArray.size ≤ sizeLine := by rw [List.size_toArray, List.size_toArray]; omega
  have hlong : ¬ (!its.toArray.isEmpty && Builtin.List.listTooLong (its.toArray.size + its2.toArray.size)) = true := by
    rw [notLongL hsz, Bool.and_false]
    exact Bool.false_ne_true
  refine call_meets F.slot_list_extend ⟨_, e, rfl⟩ F.entry_list_extend (F.args_list_extend_2 _ _)
    (list_ext l its.toArray n b its2.toArray n2 dd sl hlong (by rw [List.size_toArray]; omega) (by omega)) ⟨e, e2, ?_⟩
  refine ⟨.non, _, I.lset (its' := its ++ its2) hH e (by simp) (r.append r2) ?_, rfl, q⟩
  rw [List.length_append]
  omega
/-- x.extend(..) -/
theorem simS_ext {x : Str} {i : Nat} {e : Expr} {m : E} {p apos cpos pos : Pos} (hK : X.K = C.K) (hN : X.N[i]? = some x) (hv : Vis X.env.scope x) (hd : (x == ("__debug__" : Str)) = false) (hcd : (x == ("__classdict__" : Str)) = false) (he : PE X e (tE C m)) (hs : notStar e = true) (hline : (apos.endLine == cpos.line) = true) :
    PS X (.Expr (.Call (.Attribute (.Name x p) "extend" apos) [e] [] cpos) pos) (tS C (.ext i m)) :=
  (ps_expr (pe_bm PySem.F.plainAttrs_list PySem.F.slot_list_extend PySem.F.type_list_extend mt_extA (pe_var hN hv hd hcd) (pa_cons he pa_nil (star_cons hs)) rfl (by rw [star_cons hs]; rfl) hline (star_cons hs) rfl) rfl).weak fun D σ H ⟨He, We, W, ρ, x, sl, q⟩ => by
    have hol : ∃ ps, ρ[i]? = some (some (.ol ps)) := by
      replace q : AfterS C He We W ((m.ev C.cf ρ W.S).st ρ _) D := q
      cases hr : m.ev C.cf ρ W.S with
      | ok p S =>
        rw [hr] at q
        cases he : ρ[i]? with
        | none => simp only [A3.R.st, he] at q; exact q.elim
        | some c =>
          cases c with
          | none => simp only [A3.R.st, he] at q; exact q.elim
          | some c =>
            cases c with
            | ol ps => exact ⟨ps, rfl⟩
            | val _ => simp only [A3.R.st, he] at q; exact q.elim
            | od _ => simp only [A3.R.st, he] at q; exact q.elim
      | exc _ _ => rw [hr] at q; exact q.elim
      | bad => rw [hr] at q; exact q.elim
    obtain ⟨ps, e⟩ := hol
    obtain ⟨a, xs, h1, f, h, r, z⟩ := sl.sl.ol e
    have nw := sl.nw i ps a e h1
    refine ⟨.ref a, h1, .inl ⟨rfl, xs, .inl (.inl h)⟩, W, ρ, x.wf, sl.sl, (AfterS.bind (rel := C.rep) x q).mono fun v H1 ⟨p, W1, x1, x2, r1, _, q1⟩ => ?_⟩
    cases p with
    | lst ys =>
      simp only [e] at q1
      replace q1 : AfterS C He We W1 (if ps.length + ys.length ≤ 65536 then .nx (setS ρ i (.ol (ps ++ ys))) W1.S else .bad) D := q1
      split at q1
      · rename_i hl
        have f1 := x1.own f h
        have hh := x1.hs _ _ h
        obtain ⟨b, zs, rfl, d1, r3, z3⟩ := r1.lst_inv
        have r2 := (r.ext x1).append r3
        have hz : ps.length + ys.length ≤ sizeLine := by rw [sizeLine_eq]; omega
        exact ⟨a, b, xs, zs, rfl, rfl, hh, Same.sqL x1.wf.sub (hK ▸ d1), by rw [r.length, r3.length]; exact hz, q1 σ _ W1 (x2.write nw f1) (.refl W1) rfl ((sl.ext x1).write e h1 f1 r2 (by rw [List.length_append]; exact hz))⟩
      · exact q1.elim
    | _ => simp only [e] at q1; exact q1.elim
/-- min(a, b) -/
theorem simE_min2 {a b : Expr} {ma mb : E} {p pos : Pos} (hc : X.calm = true) (hg : Gl X "min") (hm : X.mg "min" = none) (ha : PE X a (tE C ma)) (hb : PE X b (tE C mb)) (hsa : notStar a = true) (hsb : notStar b = true) : PE X (.Call (.Name "min" p) [a, b] [] pos) (tE C (.min2 ma mb)) := by
  have hst : ∀ y ∈ [a, b], notStar y = true := fun y hy => by
    rcases List.mem_cons.mp hy with rfl | hy
    · exact hsa
    · rw [List.mem_singleton.mp hy]; exact hsb
  refine (pe_callB (call_min2Nu hc) hg hm (by first | rfl | decide +kernel) (pa_cons ha (pa_cons hb pa_nil (star_cons hsb)) (star_cons hsa)) (by decide) (by decide) (star_cons hsa) (star_none fun y hy => by rw [List.mem_singleton.mp hy]; exact hsb)).weak fun σ H Q ⟨W, ρ, wf, sl, q⟩ => ?_
  refine ⟨W, ρ, wf, sl, (After.bind (rel := C.rep) q).mono fun x H1 ⟨p, W1, x1, r1, _, q1⟩ => ⟨W1, ρ, x1.wf, sl.ext x1, (After.bind (rel := C.rep) q1).mono fun y H2 ⟨p2, W2, x2, r2, _, q2⟩ => ?_⟩⟩
  obtain ⟨r, e, q3⟩ := q2.of
  cases p with
  | int i =>
    cases p2 with
    | int j =>
      cases e
      cases (r1.ext x2).int_inv
      cases r2.int_inv
      refine ⟨.int i, .int j, (if decide (j < i) = true then V.int j else V.int i), rfl, rfl, ?_⟩
      by_cases h : j < i
      · rw [if_pos (by simpa using h)]
        rw [if_pos h] at q3
        exact q3.fin x2.wf (.int _)
      · rw [if_neg (by simpa using h)]
        rw [if_neg h] at q3
        exact q3.fin x2.wf (.int _)
    | _ => cases e
  | _ => cases e
end
end A3

-- Sim18
set_option Elab.async false
set_option linter.all false
set_option maxRecDepth 100000
set_option maxHeartbeats 4000000
/-! Sim18: d[k] = v for dicts with nested keys; dict comprehensions. -/
namespace A3
open PySem PySem.Spec PyProof.Rows L2

/-! ### keys -/
theorem hk_tup {d : Nat} {xs : List PV} : PV.hk d (.tup xs) = true → ∃ e, d = e + 1 ∧ xs.all (PV.hk e) = true := by
  cases d with
  | zero => intro h; unfold PV.hk at h; cases h
  | succ e => intro h; unfold PV.hk at h; exact ⟨e, rfl, h⟩
mutual
theorem hk_dok : ∀ (d : Nat) (p : PV), p.hk d = true → p.dok d = true
  | d, .non, _ => by cases d <;> rfl
  | d, .int _, _ => by cases d <;> rfl
  | d, .str _, _ => by cases d <;> rfl
  | d, .tup xs, h => by
    obtain ⟨e, rfl, h⟩ := hk_tup h
    unfold PV.dok
    exact hk_dokL e xs h
  | 0, .bl _, h => by unfold PV.hk at h; cases h
  | _ + 1, .bl _, h => by unfold PV.hk at h; cases h
  | 0, .lst _, h => by unfold PV.hk at h; cases h
  | _ + 1, .lst _, h => by unfold PV.hk at h; cases h
  | 0, .dct _, h => by unfold PV.hk at h; cases h
  | _ + 1, .dct _, h => by unfold PV.hk at h; cases h
  | 0, .ins _ _, h => by unfold PV.hk at h; cases h
  | _ + 1, .ins _ _, h => by unfold PV.hk at h; cases h
  | 0, .obj _, h => by unfold PV.hk at h; cases h
  | _ + 1, .obj _, h => by unfold PV.hk at h; cases h
  | 0, .fn _ _, h => by unfold PV.hk at h; cases h
  | _ + 1, .fn _ _, h => by unfold PV.hk at h; cases h
theorem hk_dokL : ∀ (d : Nat) (ps : List PV), ps.all (PV.hk d) = true → ps.all (PV.dok d) = true
  | _, [], _ => rfl
  | d, p :: ps, h => by
    rw [List.all_cons, Bool.and_eq_true] at h ⊢
    exact ⟨hk_dok d p h.1, hk_dokL d ps h.2⟩
end
mutual
theorem key_eqv : ∀ (d e : Nat) (p q : PV), p.hk d = true → q.hk e = true → (PV.eqv p q = true ↔ keyOf p = keyOf q)
  | d, e, p, q, hp, hq => by
    cases p with
    | non => cases q <;> first | (unfold PV.eqv; unfold keyOf; simp; done) | (cases e <;> (unfold PV.hk at hq; cases hq))
    | int i => cases q <;> first | (unfold PV.eqv; unfold keyOf; simp; done) | (cases e <;> (unfold PV.hk at hq; cases hq))
    | str s => cases q with
      | str t =>
        unfold PV.eqv; unfold keyOf
        rw [beq_iff_eq]
        exact ⟨fun z => by rw [z], fun z => toStr_inj (NestedKey.text.inj z)⟩
      | _ => first | (unfold PV.eqv; unfold keyOf; simp; done) | (cases e <;> (unfold PV.hk at hq; cases hq))
    | tup xs =>
      obtain ⟨d', rfl, ha⟩ := hk_tup hp
      cases q with
      | tup ys =>
        obtain ⟨e', rfl, hb⟩ := hk_tup hq
        unfold PV.eqv; unfold keyOf
        rw [key_eqvL d' e' xs ys ha hb]
        exact ⟨fun z => by rw [z], fun z => NestedKey.tup.inj z⟩
      | _ => first | (unfold PV.eqv; unfold keyOf; simp; done) | (cases e <;> (unfold PV.hk at hq; cases hq))
    | _ => cases d <;> (unfold PV.hk at hp; cases hp)
theorem key_eqvL : ∀ (d e : Nat) (ps qs : List PV), ps.all (PV.hk d) = true → qs.all (PV.hk e) = true → (PV.eqvL ps qs = true ↔ keysOf ps = keysOf qs)
  | d, e, [], [], _, _ => by unfold PV.eqvL; simp
  | d, e, [], q :: qs, _, _ => by unfold PV.eqvL; unfold keysOf; simp
  | d, e, p :: ps, [], _, _ => by unfold PV.eqvL; unfold keysOf; simp
  | d, e, p :: ps, q :: qs, hp, hq => by
    rw [List.all_cons, Bool.and_eq_true] at hp hq
    unfold PV.eqvL
    rw [Bool.and_eq_true, key_eqv d e p q hp.1 hq.1, key_eqvL d e ps qs hp.2 hq.2, show keysOf (p :: ps) = keyOf p :: keysOf ps from rfl, show keysOf (q :: qs) = keyOf q :: keysOf qs from rfl, List.cons.injEq]
end
theorem keyb_hk {p : PV} (h : p.keyb = true) : p.hk 8 = true := by
  unfold PV.keyb at h
  split at h
  · exact h
  · cases h
theorem keyb_eqv {p q : PV} (hp : p.keyb = true) (hq : q.keyb = true) : PV.eqv p q = decide (keyOf p = keyOf q) := by
  have h := key_eqv 8 8 p q (keyb_hk hp) (keyb_hk hq)
  by_cases e : keyOf p = keyOf q
  · rw [decide_eq_true e]; exact h.mpr e
  · rw [decide_eq_false e]; exact Bool.eq_false_iff.mpr fun z => e (h.mp z)
mutual
theorem nested_of {h : Heap} : ∀ (d : Nat) (p : PV) (v : Value) (as : List Addr), p.hk d = true → Reads h v (toPy p) as → NestedIs h (keyOf p) v ∧ (keyOf p).depth ≤ d
  | d, p, v, as, hp, r => by
    cases p with
    | non => cases r; exact ⟨.none, Nat.zero_le _⟩
    | int i => cases r; exact ⟨.int _ _, Nat.zero_le _⟩
    | str s => cases r; exact ⟨.text _ _, Nat.zero_le _⟩
    | tup xs =>
      obtain ⟨e, rfl, hx⟩ := hk_tup hp
      unfold toPy at r
      cases r with
      | tuple h1 h2 h3 h4 =>
        obtain ⟨g1, g2⟩ := nestedL_of e xs _ _ hx h4
        exact ⟨.tup h1 h2 h3 g1, by unfold keyOf; unfold NestedKey.depth; omega⟩
    | _ => cases d <;> (unfold PV.hk at hp; cases hp)
theorem nestedL_of {h : Heap} : ∀ (d : Nat) (ps : List PV) (vs : List Value) (as : List Addr), ps.all (PV.hk d) = true → ReadsAll h vs (toPyL ps) as → NestedAll h (keysOf ps) vs ∧ NestedKey.depthAll (keysOf ps) ≤ d
  | d, [], vs, as, _, r => by
    unfold toPyL at r
    cases r
    exact ⟨.nil, Nat.zero_le _⟩
  | d, p :: ps, vs, as, hp, r => by
    rw [List.all_cons, Bool.and_eq_true] at hp
    unfold toPyL at r
    cases r with
    | cons r1 r2 =>
      obtain ⟨a1, a2⟩ := nested_of d p _ _ hp.1 r1
      obtain ⟨b1, b2⟩ := nestedL_of d ps _ _ hp.2 r2
      exact ⟨.cons a1 b1, by unfold keysOf; unfold NestedKey.depthAll; omega⟩
end

/-! ### entries put in -/
/-- the entry of a key replaced, or put behind all -/
def putE {α β : Type} (k : NestedKey) (y : α) (z : β) : List (NestedKey × α × β) → List (NestedKey × α × β)
  | [] => [(k, y, z)]
  | e :: r => if e.1 = k then (e.1, e.2.1, z) :: r else e :: putE k y z r
theorem putE_len {α β : Type} {k : NestedKey} {y : α} {z : β} : ∀ {es : List (NestedKey × α × β)}, (putE k y z es).length ≤ es.length + 1
  | [] => Nat.le_refl _
  | e :: r => by
    unfold putE
    split
    · simp
    · have := putE_len (k := k) (y := y) (z := z) (es := r)
      simp only [List.length_cons]; omega
theorem putE_keys {α β : Type} {k : NestedKey} {y : α} {z : β} : ∀ {es : List (NestedKey × α × β)} {x : NestedKey}, x ∈ (putE k y z es).map (·.1) → x ∈ es.map (·.1) ∨ x = k
  | [], x, h => by
    unfold putE at h
    simp at h
    exact .inr h
  | e :: r, x, h => by
    unfold putE at h
    split at h
    · exact .inl h
    · rcases List.mem_cons.mp h with h | h
      · exact .inl (by rw [h]; exact List.mem_cons_self)
      · rcases putE_keys h with h | h
        · exact .inl (List.mem_cons_of_mem _ h)
        · exact .inr h
theorem putE_nodup {α β : Type} {k : NestedKey} {y : α} {z : β} : ∀ {es : List (NestedKey × α × β)}, (es.map (·.1)).Nodup → ((putE k y z es).map (·.1)).Nodup
  | [], _ => by unfold putE; simp
  | e :: r, h => by
    rw [List.map_cons, List.nodup_cons] at h
    unfold putE
    split
    · rw [List.map_cons, List.nodup_cons]; exact h
    · rename_i hne
      rw [List.map_cons, List.nodup_cons]
      refine ⟨fun m => ?_, putE_nodup h.2⟩
      rcases putE_keys m with m | m
      · exact h.1 m
      · exact hne m
theorem putE_stored {k : NestedKey} {a : Addr} {v : Value} : ∀ {xs : List (NestedKey × Addr × Value)}, (xs.map (·.1)).Nodup → storedH xs k a v = putE k a v xs
  | [], _ => rfl
  | x :: xs, h => by
    rw [List.map_cons, List.nodup_cons] at h
    have ih := putE_stored (k := k) (a := a) (v := v) h.2
    by_cases e : x.1 = k
    · have e1 : atKey (x :: xs) k = some x.2 := by simp [atKey, List.find?_cons, e]
      rw [storedH_old e1, List.map_cons, putAt, if_pos e, map_putAt_of_not_mem xs k v (e ▸ h.1)]
      unfold putE
      rw [if_pos e]
    · have e1 : atKey (x :: xs) k = atKey xs k := by simp [atKey, List.find?_cons, e]
      unfold putE
      rw [if_neg e, ← ih]
      cases q : atKey xs k with
      | none => rw [storedH_new (e1.trans q), storedH_new q]; rfl
      | some p => rw [storedH_old (e1.trans q), storedH_old q, List.map_cons, putAt, if_neg e]
section
variable {X : Cx} {C : Ctx}
theorem RepD.put {W : Wd} {y z : V} {p q : PV} (rp : Rep C.K C.fa W y p) (kb : p.keyb = true) (rq : Rep C.K C.fa W z q) : ∀ {es : List DE} {kvs : List (PV × PV)}, RepD C.K C.fa W es kvs → RepD C.K C.fa W (putE (keyOf p) y z es) (dSet p q kvs)
  | _, _, .nil => .cons rp kb rq .nil
  | _, _, .cons (p := p1) r1 b1 r2 t => by
    unfold putE dSet
    rw [keyb_eqv b1 kb]
    by_cases e : keyOf p1 = keyOf p
    · rw [if_pos e, if_pos (decide_eq_true e)]
      exact .cons r1 b1 rq t
    · rw [if_neg e, if_neg (by rw [decide_eq_false e]; decide)]
      exact .cons r1 b1 r2 (RepD.put rp kb rq t)
theorem RepD.ext {H H' : Hp} {W W' : Wd} (x : Ext H W H' W') {es : List DE} {kvs : List (PV × PV)} (r : RepD C.K C.fa W es kvs) : RepD C.K C.fa W' es kvs := r.mono x.fs x.om
theorem RepD.up {W W' : Wd} (x : Up W W') {es : List DE} {kvs : List (PV × PV)} (r : RepD C.K C.fa W es kvs) : RepD C.K C.fa W' es kvs := r.mono x.fs x.om
/-- a key in the heap -/
theorem key_in {pins : List (Addr × Obj)} {σ : L2.St} {H : Hp} {s : Shared} {W : Wd} {y : V} {u : Value} {p : PV} (I : Inv X pins σ H s) (hK : X.K = C.K) (wf : Wf W H) (r : Rep C.K C.fa W y p) (hp : p.keyb = true) (ru : RelV y u) : ∃ a, u = .ref a ∧ (nestedKind X.prog X.w).is s.heap (keyOf p) a := by
  have hh := keyb_hk hp
  obtain ⟨h1, _, _⟩ := dp_of 8 r (hk_dok 8 p hh)
  obtain ⟨as, rd⟩ := Dp.reads I (toPy p) y u (hK ▸ Dp.mono wf.sub h1) ru
  have k := nested_of 8 p u as hh rd
  unfold PV.keyb at hp
  split at hp
  · obtain ⟨a, _, rfl, _⟩ := r.tup_inv
    cases ru
    exact ⟨a, rfl, k⟩
  · cases hp
theorem key_ref {W : Wd} {y : V} {p : PV} (r : Rep C.K C.fa W y p) (hp : p.keyb = true) : ∃ a, ∃ (_ : True), y = V.ref a := by
  unfold PV.keyb at hp
  split at hp
  · obtain ⟨a, _, rfl, _⟩ := r.tup_inv
    exact ⟨a, trivial, rfl⟩
  · cases hp
def EsR (p : DE) (q : NestedKey × Addr × Value) : Prop := p.1 = q.1 ∧ p.2.1 = V.ref q.2.1 ∧ RelV p.2.2 q.2.2
abbrev EsV (p : DE) (q : NestedKey × Value × Value) : Prop := p.1 = q.1 ∧ RelV p.2.1 q.2.1 ∧ RelV p.2.2 q.2.2
theorem dict_keys {pins : List (Addr × Obj)} {σ : L2.St} {H : Hp} {s : Shared} {W : Wd} (I : Inv X pins σ H s) (hK : X.K = C.K) (wf : Wf W H) : ∀ {es : List DE} {kvs : List (PV × PV)} {xs : List (NestedKey × Value × Value)}, RepD C.K C.fa W es kvs → Paired EsV es xs →
    ∃ ys : List (NestedKey × Addr × Value), Paired EsR es ys ∧ xs = ys.map (fun y => (y.1, Value.ref y.2.1, y.2.2)) ∧ (∀ y ∈ ys, (nestedKind X.prog X.w).is s.heap y.1 y.2.1) ∧ ys.map (·.1) = es.map (·.1)
  | _, _, _, .nil, r => by
    cases r
    exact ⟨[], .nil, rfl, (fun _ h => nomatch h), rfl⟩
  | _, _, _, .cons (p := p) r1 b1 r2 t, r => by
    cases r with
    | @cons _ q _ xs h t2 =>
      obtain ⟨k, u, v⟩ := q
      obtain ⟨e1, e2, e3⟩ := h
      obtain ⟨a, rfl, ka⟩ := key_in I hK wf r1 b1 e2
      obtain ⟨ys, g1, g2, g3, g4⟩ := dict_keys I hK wf t t2
      simp only at e1
      subst e1
      refine ⟨(keyOf p, a, v) :: ys, .cons ⟨rfl, ?_, e3⟩ g1, by rw [g2]; rfl, fun y hy => ?_, by simp [g4]⟩
      · obtain ⟨b, _, eb⟩ := key_ref r1 b1
        subst eb
        cases e2
        rfl
      · rcases List.mem_cons.mp hy with rfl | hy
        · exact ka
        · exact g3 y hy
/-- the dict at d, its keys as addresses -/
theorem dict_in {pins : List (Addr × Obj)} {σ : L2.St} {H : Hp} {s : Shared} {W : Wd} {d : Addr} {es : List DE} {kvs : List (PV × PV)} (I : Inv X pins σ H s) (hK : X.K = C.K) (hw : X.w = C.fa.w) (wf : Wf W H) (hD : H d = some (DcO C.fa.w d es)) (rd : RepD C.K C.fa W es kvs) :
    ∃ xs, s.heap.DictOfH (nestedKind X.prog X.w) d xs ∧ Paired EsR es xs := by
  obtain ⟨_, _, nd, xs, o, ds, ep, r, ho, hc, hd, hl⟩ := dc_of I hD
  obtain ⟨ys, g1, g2, g3, g4⟩ := dict_keys I hK wf rd r
  refine ⟨ys, ⟨o, ds, ep, ho, hc, hd, ?_, g3, by rw [g4]; exact nd⟩, g1⟩
  rw [hl, g2, List.map_map]
  refine List.map_congr_left fun y _ => ?_
  show (⟨y.1.hash C.fa.w, Value.ref y.2.1, y.2.2⟩ : DictEntry) = ⟨y.1.hash X.w, Value.ref y.2.1, y.2.2⟩
  rw [hw]
/-- back from the heap -/
theorem dict_out {h : Heap} {d : Addr} {es : List DE} {xs : List (NestedKey × Addr × Value)} (hw : X.w = C.fa.w) (hs : (d == sysModules) = false) (hz : es.length ≤ sizeLine) (x : h.DictOfH (nestedKind X.prog X.w) d xs) (r : Paired EsR es xs) : DcP C.fa.w d es h := by
  obtain ⟨o, ds, ep, ho, hc, hd, hl, _, nd⟩ := x
  have key : ∀ {es : List DE} {xs : List (NestedKey × Addr × Value)}, Paired EsR es xs → Paired EsV es (xs.map fun y => (y.1, Value.ref y.2.1, y.2.2)) ∧ es.map (·.1) = xs.map (·.1) := by
    intro es xs r
    induction r with
    | nil => exact ⟨.nil, rfl⟩
    | cons h t ih => exact ⟨.cons ⟨h.1, by rw [h.2.1]; rfl, h.2.2⟩ ih.1, by rw [List.map_cons, List.map_cons, ih.2, h.1]⟩
  obtain ⟨k1, k2⟩ := key r
  refine ⟨hs, hz, by rw [k2]; exact nd, _, o, ds, ep, k1, ho, hc, hd, ?_⟩
  rw [hl, List.map_map]
  refine List.map_congr_left fun y _ => ?_
  show (⟨y.1.hash X.w, Value.ref y.2.1, y.2.2⟩ : DictEntry) = ⟨y.1.hash C.fa.w, Value.ref y.2.1, y.2.2⟩
  rw [hw]
theorem esR_put {k : NestedKey} {a : Addr} {z : V} {v : Value} (rz : RelV z v) : ∀ {es : List DE} {xs : List (NestedKey × Addr × Value)}, Paired EsR es xs → Paired EsR (putE k (V.ref a) z es) (putE k a v xs)
  | _, _, .nil => .cons ⟨rfl, rfl, rz⟩ .nil
  | _, _, .cons (a := e) (b := x) h t => by
    unfold putE
    rw [h.1]
    by_cases q : x.1 = k
    · rw [if_pos q, if_pos q]; exact .cons ⟨rfl, h.2.1, rz⟩ t
    · rw [if_neg q, if_neg q]; exact .cons h (esR_put rz t)
/-- d[k] = v, as a comprehension stores it -/
theorem dict_set {pins : List (Addr × Obj)} {σ : L2.St} {H : Hp} {s : Shared} {W : Wd} {D : Addr} {es : List DE} {kvs : List (PV × PV)} {y z : V} {u v : Value} {p : PV} {E : Value → Shared → Prop} {Q : Unit → Shared → Prop} (hK : X.K = C.K) (hw : X.w = C.fa.w) (hu : X.A.units + 8 < cLine) (I : Inv X pins σ H s) (wf : Wf W H)
    (hD : H D = some (DcO C.fa.w D es)) (rd : RepD C.K C.fa W es kvs) (rp : Rep C.K C.fa W y p) (kb : p.keyb = true) (ru : RelV y u) (rz : RelV z v) (hz : es.length < sizeLine) (h : ∀ s', Inv X pins σ (upd H D (DcO C.fa.w D (putE (keyOf p) y z es))) s' → Q () s') :
    wpAny (model X.prog X.w) X.A (dictSet D u v) Q E s := by
  obtain ⟨xs, hx, rx⟩ := dict_in I hK hw wf hD rd
  obtain ⟨a, rfl, ka⟩ := key_in I hK wf rp kb ru
  obtain ⟨b, _, eb⟩ := key_ref rp kb
  subst eb
  cases ru
  have hs := (dc_of I hD).1
  refine wpAny_dictSet_heap (hsz := by rw [← rx.length]; omega) hu ka hx fun h' hx' sb => h _ ?_
  have nd : (xs.map (·.1)).Nodup := by obtain ⟨_, _, _, _, _, _, _, _, nd⟩ := hx; exact nd
  rw [putE_stored nd] at hx'
  have hlen : (putE (keyOf p) (V.ref a) z es).length ≤ sizeLine := by have := putE_len (k := keyOf p) (y := V.ref a) (z := z) (es := es); omega
  have out := dict_out (C := C) hw hs hlen hx' (esR_put rz rx)
  exact d_write I (by rw [hD]; exact True.intro) sb (let ⟨o, _, _, ho, _⟩ := hx'; ⟨o, ho⟩) out.ok
end
end A3

-- Sim19
set_option Elab.async false
set_option linter.all false
set_option maxRecDepth 100000
set_option maxHeartbeats 4000000
/-! Sim19: dict comprehensions whose keys are nested tuples. -/
namespace A3
open PySem PySem.Spec PyProof.Rows L2

section
variable {X : Cx} {C : Ctx}
theorem dc_empty {w : World} (h : Heap) (hb : sysModules < h.objs.size) : DcP w h.objs.size [] (h.push { cls := .type "dict", data := .dict #[] }) :=
  ⟨beq_eq_false_iff_ne.mpr (Ne.symm (Nat.ne_of_lt hb)), Nat.zero_le _, List.nodup_nil, [], _, #[], 0, .nil, Heap.get?_push_size _ rfl, ⟨rfl, rfl, rfl⟩, rfl, rfl⟩
/-- {k: v for ..}: D the new dict -/
def tDn (C : Ctx) (wi : TI) (g : TG) (tt : TT) (tk tv : TE) (vs : List Nat) : TE := fun σ H Q => wi σ H fun J H1 => ∀ D, H1 D = none → ∃ W : Nat → Nat → Hp → Prop, (∃ m, W 0 m (upd H1 D (DcO C.fa.w D []))) ∧ ∀ i m H, W i m H →
  (J.stop i H ∧ Q (.ref D) H) ∨ (J.go i H ∧ ∃ Nx : Hp → Prop, (∀ H', Nx H' → ∃ m', m' < m ∧ W (i + 1) m' H') ∧ ∀ x H', J.yld i H x H' → g x (wipe σ vs) H' fun σ2 H2 => wipe σ2 vs = wipe σ vs ∧ tt σ2 H2 fun b H3 =>
    if b = true then tk σ2 H3 fun y H4 => tv σ2 H4 fun z H5 => ∃ W5 es kvs p, Wf W5 H5 ∧ H5 D = some (DcO C.fa.w D es) ∧ RepD C.K C.fa W5 es kvs ∧ Rep C.K C.fa W5 y p ∧ p.keyb = true ∧ es.length < sizeLine ∧ Nx (upd H5 D (DcO C.fa.w D (putE (keyOf p) y z es))) else Nx H3)
theorem dn_core {pins : List (Addr × Obj)} {s : Shared} {σ : L2.St} {H : Hp} {Q : VK} {kx vx tg iter : Expr} {ifs : List Expr} {scope : Scope} {own : List (Str × Nat)} {pos pos' : Pos} {wi : TI} {g : TG} {tt : TT} {tk tv : TE} {use : Option (Value → Sem Unit)} {Qf : Value → Shared → Prop}
    (hK : X.K = C.K) (hw : X.w = C.fa.w) (hu : X.A.units + 8 < cLine)
    (hc : X.calm = true) (hN : X.N.Nodup) (I : Inv X pins σ H s) (hi : PI X tg iter wi) (ok : BlkOk X.N X.env.scope scope own)
    (hg : ∀ (s : Shared) (H : Hp) (C : Addr) (cl : List (Str × Addr)) (fp : List Addr), PG (X.blk s H scope (compEnvC scope cl C X.env) fp) tg g) (ht : ∀ (s : Shared) (H : Hp) (C : Addr) (cl : List (Str × Addr)) (fp : List Addr), PTs (X.blk s H scope (compEnvC scope cl C X.env) fp) ifs tt)
    (hk : ∀ (s : Shared) (H : Hp) (C : Addr) (cl : List (Str × Addr)) (fp : List Addr), PE (X.blk s H scope (compEnvC scope cl C X.env) fp) kx tk)
    (he : ∀ (s : Shared) (H : Hp) (C : Addr) (cl : List (Str × Addr)) (fp : List Addr), PE (X.blk s H scope (compEnvC scope cl C X.env) fp) vx tv) (hs : ∀ x, foldedSetIterable iter X.env x = pure x)
    (h : tDn C wi g tt tk tv (own.map (·.2)) σ H Q)
    (hRR : ∀ D C s' m H', Inv X pins σ H' s' → Q (.ref D) H' → s'.heap.Ns C m → FpOk X pins H' C → compPost (model X.prog X.w) X.A X.xe use Qf (.ref D) C (.ok .next) s') :
    wpAny (model X.prog X.w) X.A (comprehension (.DictComp kx vx [⟨tg, iter, ifs, 0⟩] scope pos) scope X.env pos' newDict false (eval iter X.env) use) Qf X.xe s := by
  have hfree : ∀ y ∈ scope.names, y.2 = .free → ∃ c, X.env.cells.lookup y.1 = some c := fun y hy e => by
    rcases ok.free y hy e with k | k
    · exact I.ok.has _ (.inl k)
    · exact I.ok.has _ (.inr k)
  refine wpAny_comprehension_free (use := use) rfl hs (closure_ok hfree) ok.kind (fun y hy e => by rw [ok.uniq y hy, e])
    (thn (hi.run pins s σ H _ I h) fun xv s1 hx => thn hx fun itv s2 h2 => ?_)
  obtain ⟨it, fp, tn, J, H2, e, I2, T, st2, f2, q⟩ := h2
  subst e
  refine wpAny_newObj_type (newEnv_comp ?_)
  generalize hD : s2.heap.objs.size = D
  have hDn : H2 D = none := I2.hok.fresh (Nat.le_of_eq hD)
  obtain ⟨W, ⟨m0, w0⟩, turn⟩ := q D hDn
  generalize hs3 : ({ s2 with heap := s2.heap.push { cls := .type "dict", data := .dict #[] } } : Shared) = s3
  have I3 : Inv X pins σ (upd H2 D (DcO C.fa.w D [])) s3 := by
    rw [← hs3]
    refine I2.laid (t' := s2.toks) (fun b o e => Heap.get?_push_of_some _ e) (Nat.le_of_eq hD) ?_
    rw [← hD]
    exact (dc_empty s2.heap I2.big).ok
  have h3 : s3.heap = s2.heap.push { cls := .type "dict", data := .dict #[] } := by rw [← hs3]
  have sz : ∀ b ∈ fp, b < s2.heap.objs.size := fun b hb => by
    obtain ⟨o, e, _⟩ := T.obj _ _ st2 b hb
    exact Heap.lt_size e
  have f3 : ∀ b ∈ fp, FpOk X pins (upd H2 D (DcO C.fa.w D [])) b ∧ b < s3.heap.objs.size := fun b hb => by
    have hlt := sz b hb
    refine ⟨⟨?_, (f2 b hb).2⟩, by rw [h3, Heap.size_push]; exact Nat.lt_succ_of_lt hlt⟩
    rw [upd_ne (by rw [← hD]; exact Nat.ne_of_lt hlt)]
    exact (f2 b hb).1
  have st3 : tn 0 s3.heap := T.keep _ _ _ st2 fun b _ o e => by rw [h3]; exact Heap.get?_push_of_some _ e
  have I4 := block_start I3 ok hN f3
  have pg := hg s3 (upd H2 D (DcO C.fa.w D [])) s3.heap.objs.size (cellsFrom (s3.heap.objs.size + 1) scope.names (cloFrom X.env.cells scope.names [])) fp
  have pt := ht s3 (upd H2 D (DcO C.fa.w D [])) s3.heap.objs.size (cellsFrom (s3.heap.objs.size + 1) scope.names (cloFrom X.env.cells scope.names [])) fp
  have pk := hk s3 (upd H2 D (DcO C.fa.w D [])) s3.heap.objs.size (cellsFrom (s3.heap.objs.size + 1) scope.names (cloFrom X.env.cells scope.names [])) fp
  have pe := he s3 (upd H2 D (DcO C.fa.w D [])) s3.heap.objs.size (cellsFrom (s3.heap.objs.size + 1) scope.names (cloFrom X.env.cells scope.names [])) fp
  show codeAny _ _ (.compStart (.DictComp kx vx [⟨tg, iter, ifs, 0⟩] scope pos) 0 (.ref it) (.ref D) (compEnvC scope (cellsFrom (s3.heap.objs.size + 1) scope.names (cloFrom X.env.cells scope.names [])) s3.heap.objs.size X.env)) (compPost (model X.prog X.w) X.A X.xe use Qf (.ref D) s3.heap.objs.size) { s3 with heap := pushCells (s3.heap.push { cls := .type "dict", data := .dict #[] }) scope.names }
  have nfp : ∀ b ∈ fp, (upd H2 D (DcO C.fa.w D [])) b = none := fun b hb => (f3 b hb).1.1
  generalize hce : compEnvC scope (cellsFrom (s3.heap.objs.size + 1) scope.names (cloFrom X.env.cells scope.names [])) s3.heap.objs.size X.env = ce at I4 pg pt pk pe ⊢
  have cL : ce.locals = s3.heap.objs.size := by subst hce; rfl
  generalize hH3 : upd H2 D (DcO C.fa.w D []) = H3 at I3 I4 pg pt pk pe w0 nfp f3
  generalize hs4 : ({ s3 with heap := pushCells (s3.heap.push { cls := .type "dict", data := .dict #[] }) scope.names } : Shared) = s4 at I4 ⊢
  have st4 : tn 0 s4.heap := T.keep _ _ _ st3 fun b _ o e => by rw [← hs4]; exact pushCells_keeps _ _ _ _ (Heap.get?_push_of_some _ e)
  have stat : ∀ {σ' : L2.St} {H' : Hp} {s' : Shared}, Inv (X.blk s3 H3 scope ce fp) [] σ' H' s' → (∀ b ∈ fp, H' b = none) → ∀ b ∈ fp, FpOk (X.blk s3 H3 scope ce fp) [] H' b := fun {σ' H' s'} I' hn b hb =>
    ⟨hn b hb, (I'.ok.exf b hb).1, I'.ok.exfs b hb, .inl hb, fun x c e => (I'.ok.exf b hb).2 x c e, fun p hp => absurd (show p ∈ ([] : List (Addr × Obj)) ++ [] from hp) (by simp)⟩
  have loop : codeAny (model X.prog X.w) X.A (.compLoop (.DictComp kx vx [⟨tg, iter, ifs, 0⟩] scope pos) 0 (.ref it) (.ref D) ce) (compPost (model X.prog X.w) X.A X.xe use Qf (.ref D) s3.heap.objs.size) s4 := by
    refine compLoop_anyD (fun n s' => ∃ i H', Inv (X.blk s3 H3 scope ce fp) [] (wipe σ (own.map (·.2))) H' s' ∧ tn i s'.heap ∧ (∀ b ∈ fp, H' b = none) ∧ W i n H') ?_ m0 ⟨0, H3, I4, st4, nfp, w0⟩
    rintro n s5 ⟨i, H5, I5, st5, n5, w5⟩
    rcases turn i n H5 w5 with ⟨stop, qq⟩ | ⟨go, Nx, hNx, step⟩
    · have td := T.done (X.blk s3 H3 scope ce fp) rfl rfl rfl hc i [] s5 _ H5 (fun _ _ => False) I5 (stat I5 n5) st5 stop
      refine thnF td fun r s6 ⟨hr, I6⟩ => ?_
      subst hr
      have I7 : Inv X pins σ H5 s6 := I3.call' (ch := fp) I6.os I6.base I6.hok I6.bare fun b hb => ⟨(f3 b hb).1.2.2.2.1, (f3 b hb).1.2.1, (f3 b hb).1.2.2.2.2.1, (f3 b hb).1.2.2.2.2.2⟩
      have nC : H5 s3.heap.objs.size = none := by
        have z : H5 ce.locals = none := I6.free
        rw [cL] at z
        exact z
      obtain ⟨m, hn, _⟩ := I6.loc
      have hn : s6.heap.Ns ce.locals m := hn
      rw [cL] at hn
      exact hRR D s3.heap.objs.size s6 m H5 I7 qq hn (I3.fpOk (Nat.le_refl _) nC)
    · have ti := T.item (X.blk s3 H3 scope ce fp) rfl rfl rfl hc i [] s5 _ H5 (fun _ _ => False) I5 (stat I5 n5) st5 go
      refine thnF ti fun r s6 ⟨u, hr, h6⟩ => ?_
      subst hr
      refine thnF h6 fun _ s7 ⟨x, H7, I7, r7, y7, st7, n7⟩ => ?_
      have I7' := I7.pinned (stat I7 n7) (T.obj _ _ st7)
      refine thnF (pg.run _ s7 _ H7 x u _ I7' r7 (step x H7 y7)) fun _ s8 ⟨σ8, H8, I8, hw8, q8⟩ => ?_
      refine thnF (pt.run _ s8 σ8 H8 _ I8 q8) fun b s9 ⟨H9, I9, q9⟩ => ?_
      have fin : ∀ {s' : Shared} {H' : Hp}, Inv (X.blk s3 H3 scope ce fp) ([] ++ pinsAt fp s7.heap) σ8 H' s' → Nx H' → ∃ m, m < n ∧ ∃ i H', Inv (X.blk s3 H3 scope ce fp) [] (wipe σ (own.map (·.2))) H' s' ∧ tn i s'.heap ∧ (∀ b ∈ fp, H' b = none) ∧ W i m H' := fun {s' H'} I' nx => by
        obtain ⟨m', hm, w'⟩ := hNx H' nx
        have pin' : ∀ b ∈ fp, ∀ o, s7.heap.get? b = some o → s'.heap.get? b = some o ∧ H' b = none := fun b hb o e =>
          let z := I'.pin (b, o) (List.mem_append_right _ (List.mem_append_right _ (mem_pinsAt hb e)))
          ⟨z.1, z.2.1⟩
        have hl : (wipe σ (own.map (·.2))).length = σ8.length := by rw [← hw8, wipe_length]
        refine ⟨m', hm, i + 1, H', (I'.unpinned (pins := [])).weak hl (fun j v e => ?_), T.keep _ _ _ st7 fun b hb o e => (pin' b hb o e).1, fun b hb => ?_, w'⟩
        · rw [← hw8] at e
          exact (wipe_some e).1
        · obtain ⟨o, e, _⟩ := T.obj _ _ st7 b hb
          exact (pin' b hb o e).2
      cases b with
      | false =>
        simp only [Bool.false_eq_true, if_false] at q9 ⊢
        exact fin I9 q9
      | true =>
        simp only [if_true] at q9 ⊢
        refine thnF (pk.run _ s9 σ8 H9 _ I9 q9) fun z s10 ⟨yk, H10, I10, r10, q10⟩ => ?_
        refine thnF (pe.run _ s10 σ8 H10 _ I10 q10) fun z2 s11 ⟨yv, H11, I11, r11, q11⟩ => ?_
        obtain ⟨W5, es, kvs, p, wf5, hD5, rd, rp, kb, hz, nx⟩ := q11
        exact dict_set (X := X.blk s3 H3 scope ce fp) (C := C) hK hw hu I11 wf5 hD5 rd rp kb r10 r11 hz fun s12 I12 => fin I12 nx
  exact codeAny_compStart_dict loop (T.self X.A 0 _ _ _ st4 loop)
theorem pe_dn {kx vx tg iter : Expr} {ifs : List Expr} {scope : Scope} {own : List (Str × Nat)} {pos : Pos} {wi : TI} {g : TG} {tt : TT} {tk tv : TE} (hK : X.K = C.K) (hw : X.w = C.fa.w) (hu : X.A.units + 8 < cLine) (hc : X.calm = true) (hN : X.N.Nodup) (hi : PI X tg iter wi) (ok : BlkOk X.N X.env.scope scope own)
    (hg : ∀ (s : Shared) (H : Hp) (C : Addr) (cl : List (Str × Addr)) (fp : List Addr), PG (X.blk s H scope (compEnvC scope cl C X.env) fp) tg g) (ht : ∀ (s : Shared) (H : Hp) (C : Addr) (cl : List (Str × Addr)) (fp : List Addr), PTs (X.blk s H scope (compEnvC scope cl C X.env) fp) ifs tt)
    (hk : ∀ (s : Shared) (H : Hp) (C : Addr) (cl : List (Str × Addr)) (fp : List Addr), PE (X.blk s H scope (compEnvC scope cl C X.env) fp) kx tk)
    (he : ∀ (s : Shared) (H : Hp) (C : Addr) (cl : List (Str × Addr)) (fp : List Addr), PE (X.blk s H scope (compEnvC scope cl C X.env) fp) vx tv) (hs : ∀ x, foldedSetIterable iter X.env x = pure x) :
    PE X (.DictComp kx vx [⟨tg, iter, ifs, 0⟩] scope pos) (tDn C wi g tt tk tv (own.map (·.2))) := by
  refine ⟨fun pins s σ H Q I h => ?_⟩
  rw [arm_eval_DictComp]
  refine dn_core hK hw hu hc hN I hi ok hg ht hk he hs h fun D C s' m H' I' q hn f => ⟨m, hn, fun h'' sb => ?_⟩
  obtain ⟨f0, f1, f2, f3, f4, f5⟩ := f
  exact ⟨.ref D, H', I'.turned (t' := s'.toks) (fun b o hb e => (sb.2 b hb).trans e) f0 f1 f3 f4 f5, rfl, q⟩

/-! ### against the own form -/
/-- what a turn of a dict comprehension adds -/
def dcF (cf : CallF) (vs : List Nat) (t : Tg) (cd : OE) (k el : E) (ρ : A3.Env) : PV → Store → A3.R (List PV) := fun x S => match t.bind x (wipeR ρ vs) with
  | none => .bad
  | some ρ' => (cd.tst cf ρ' S).bind fun b S => if b then (k.ev cf ρ' S).bind fun y S => (el.ev cf ρ' S).bind fun z S => .ok [.tup [y, z]] S else .ok [] S
theorem dMk_cons {k v : PV} {r : List PV} {kvs tot : List (PV × PV)} (h : dMk (.tup [k, v] :: r) kvs = some tot) : k.keyb = true ∧ kvs.length < 65536 ∧ dMk r (dSet k v kvs) = some tot := by
  unfold dMk at h
  split at h
  · rename_i hb
    rw [Bool.and_eq_true, decide_eq_true_eq] at hb
    exact ⟨hb.1, hb.2, h⟩
  · cases h
theorem dn_loop {σ : L2.St} {ρ : A3.Env} {H1 : Hp} {W1 : Wd} {J : L2.It} {xs : List PV} {vs : List Nat} {t : Tg} {cd : OE} {k el : E} {D : Addr} {Q : VK}
    (x1 : Wf W1 H1) (sl : Slots C.K C.fa W1 σ ρ H1) (j : ItOk C W1 J xs) (ht : ∀ i ∈ t.slots, i ∈ vs) (hD : H1 D = none)
    (q : After C.rep W1 H1 ((compL (dcF C.cf vs t cd k el ρ) xs W1.S).bind fun ys S => A3.R.of ((dMk ys []).map .dct) S) Q) :
    ∃ W : Nat → Nat → Hp → Prop, (∃ m, W 0 m (upd H1 D (DcO C.fa.w D []))) ∧ ∀ i m H, W i m H →
      (J.stop i H ∧ Q (.ref D) H) ∨ (J.go i H ∧ ∃ Nx : Hp → Prop, (∀ H', Nx H' → ∃ m', m' < m ∧ W (i + 1) m' H') ∧ ∀ x H', J.yld i H x H' → tG C t x (L2.wipe σ vs) H' fun σ2 H2 => L2.wipe σ2 vs = L2.wipe σ vs ∧ tOT C cd σ2 H2 fun b H3 =>
        if b = true then tE C k σ2 H3 fun y H4 => tE C el σ2 H4 fun z H5 => ∃ W5 es kvs p, Wf W5 H5 ∧ H5 D = some (DcO C.fa.w D es) ∧ RepD C.K C.fa W5 es kvs ∧ Rep C.K C.fa W5 y p ∧ p.keyb = true ∧ es.length < sizeLine ∧ Nx (upd H5 D (DcO C.fa.w D (putE (keyOf p) y z es))) else Nx H3) := by
  cases hr : compL (dcF C.cf vs t cd k el ρ) xs W1.S with
  | exc _ _ => rw [hr] at q; exact q.elim
  | bad => rw [hr] at q; exact q.elim
  | ok tot SE =>
    rw [hr] at q
    replace q : After C.rep W1 H1 (A3.R.of ((dMk tot []).map .dct) SE) Q := q
    obtain ⟨kt, hm, q⟩ := q.of
    obtain ⟨KV, hKV, rfl⟩ := Option.map_eq_some_iff.mp hm
    have fD : W1.F D = none := Same.none x1.sub hD
    refine ⟨fun i m H => i ≤ xs.length ∧ m = xs.length - i ∧ ∃ (W' : Wd) (kvs : List (PV × PV)) (zs : List PV) (es : List DE), Ext H1 W1 H W' ∧ W'.F D = none ∧ H D = some (DcO C.fa.w D es) ∧ RepD C.K C.fa W' es kvs ∧ dMk zs kvs = some KV ∧ compL (dcF C.cf vs t cd k el ρ) (xs.drop i) W'.S = .ok zs SE, ⟨xs.length, Nat.zero_le _, rfl, W1, [], tot, [], .laidO x1 hD, fD, upd_same, .nil, hKV, hr⟩, ?_⟩
    rintro i m H ⟨hi, rfl, W', kvs, zs, es, x2, f2, h2, r2, e2, c2⟩
    by_cases hlt : i < xs.length
    · right
      obtain ⟨p, hp⟩ : ∃ p, xs[i]? = some p := ⟨_, List.getElem?_eq_getElem hlt⟩
      obtain ⟨go, yl⟩ := j.go W' H x2.up x2.wf i p hp
      have hd : xs.drop i = p :: xs.drop (i + 1) := by
        rw [List.drop_eq_getElem_cons hlt]
        rw [List.getElem?_eq_getElem hlt] at hp
        rw [Option.some.inj hp]
      rw [hd] at c2
      obtain ⟨as, S1, ws, c3, c4, rfl⟩ := compL_cons c2
      refine ⟨go, _, fun H' h => h, fun x H' y => ?_⟩
      obtain ⟨W3, x3, s3, r3⟩ := yl x H' y
      have X3 := x2.trans x3
      have f3 := x3.own f2 h2
      have h3 := x3.hs _ _ h2
      unfold dcF at c3
      split at c3
      · cases c3
      · rename_i ρ' hb
        refine ⟨W3, wipeR ρ vs, p, ρ', X3.wf, (sl.ext X3).wipe vs, r3, hb, fun σ2 sl2 b2 => ⟨wipe_but b2 ht, ?_⟩⟩
        obtain ⟨b0, S2, c5, c6⟩ := R.bind_ok c3
        refine ⟨W3, ρ', X3.wf, sl2, ?_⟩
        rw [s3, c5]
        intro b H4 W4 x4 s4 hbk
        subst hbk
        have X4 := X3.trans x4
        have f4 := x4.own f3 h3
        have h4 := x4.hs _ _ h3
        cases b with
        | false =>
          cases c6
          rw [if_neg (by decide)]
          refine ⟨xs.length - (i + 1), by omega, hlt, rfl, W4, kvs, ws, es, X4, f4, h4, (r2.ext x3).ext x4, e2, by rw [s4]; exact c4⟩
        | true =>
          rw [if_pos rfl]
          obtain ⟨w, S3, c7, c8⟩ := R.bind_ok c6
          obtain ⟨w2, S4, c9, c10⟩ := R.bind_ok c8
          cases c10
          obtain ⟨g1, g2, g3⟩ := dMk_cons e2
          refine ⟨W4, ρ', X4.wf, sl2.ext x4, ?_⟩
          rw [s4, c7]
          intro y H5 W5 x5 s5 r5
          have X5 := X4.trans x5
          have f5 := x5.own f4 h4
          have h5 := x5.hs _ _ h4
          refine ⟨W5, ρ', X5.wf, (sl2.ext x4).ext x5, ?_⟩
          rw [s5, c9]
          intro z H6 W6 x6 s6 r6
          have X6 := X5.trans x6
          have f6 := x6.own f5 h5
          have h6 := x6.hs _ _ h5
          have rd := (((r2.ext x3).ext x4).ext x5).ext x6
          have hlen : es.length = kvs.length := rd.len
          refine ⟨W6, es, kvs, w, X6.wf, h6, rd, r5.ext x6, g1, by rw [sizeLine_eq]; omega, xs.length - (i + 1), by omega, hlt, rfl, W6, dSet w w2 kvs, ws, _, X6.write hD f6, f6, upd_same, rd.put (r5.ext x6) g1 r6, g3, by rw [s6]; exact c4⟩
    · left
      have ei : i = xs.length := by omega
      subst ei
      rw [List.drop_length] at c2
      cases c2
      refine ⟨j.stop W' H x2.up x2.wf, ?_⟩
      cases e2
      exact q (.ref D) H { W' with F := upd W'.F D (DcO C.fa.w D es) } (x2.freeze hD f2 h2) rfl (.dct upd_same (r2.up (.freeze f2)))
theorem simE_dcomp {kx vx tg iter : Expr} {ifs : List Expr} {scope : Scope} {own : List (Str × Nat)} {pos : Pos} {t : Tg} {it : A3.It} {cd : OE} {k el : E} (hK : X.K = C.K) (hw : X.w = C.fa.w) (hu : X.A.units + 8 < cLine) (hc : X.calm = true) (hN : X.N.Nodup) (hi : PI X tg iter (tI C it)) (ok : BlkOk X.N X.env.scope scope own) (hsl : ∀ i ∈ t.slots, i ∈ own.map (·.2))
    (hg : ∀ (s : Shared) (H : Hp) (D : Addr) (cl : List (Str × Addr)) (fp : List Addr), PG (X.blk s H scope (compEnvC scope cl D X.env) fp) tg (tG C t)) (ht : ∀ (s : Shared) (H : Hp) (D : Addr) (cl : List (Str × Addr)) (fp : List Addr), PTs (X.blk s H scope (compEnvC scope cl D X.env) fp) ifs (tOT C cd))
    (hk : ∀ (s : Shared) (H : Hp) (D : Addr) (cl : List (Str × Addr)) (fp : List Addr), PE (X.blk s H scope (compEnvC scope cl D X.env) fp) kx (tE C k))
    (he : ∀ (s : Shared) (H : Hp) (D : Addr) (cl : List (Str × Addr)) (fp : List Addr), PE (X.blk s H scope (compEnvC scope cl D X.env) fp) vx (tE C el)) (hs : ∀ x, foldedSetIterable iter X.env x = pure x) :
    PE X (.DictComp kx vx [⟨tg, iter, ifs, 0⟩] scope pos) (tE C (.dcomp (own.map (·.2)) t it cd k el)) :=
  (pe_dn hK hw hu hc hN hi ok hg ht hk he hs).weak fun σ H Q ⟨W, ρ, wf, sl, q⟩ => ⟨W, ρ, wf, sl, (After.bind (rel := fun W' (J : L2.It) (xs : List PV) => ItOk C W' J xs) q).mono fun J H1 ⟨xs, W1, x1, j, _, q1⟩ => fun D hD => dn_loop x1.wf (sl.ext x1) j hsl hD q1⟩
end
end A3

-- Chk
set_option Elab.async false
set_option linter.all false
set_option maxRecDepth 100000
set_option maxHeartbeats 4000000
/-! Chk: from the program's tree to the own tree, and the theorem about it. -/
namespace A3
open PySem PySem.Spec PyProof.Rows L2

/-- what the checker knows of a def's surroundings: the slots' names, the module's defs (name, def, parameters), built-in names that the module leaves, constants, the slots with own lists -/
structure Tb where
  N : List Str
  fns : List (Str × FN × Nat)
  free : List Str
  gls : List (Str × PV)
  own : List Nat
/-- the scope one stands in; the cells that may be stored -/
structure Scp where
  sc : Scope
  fn : Str → Bool
inductive Md where | val | bor | tst
structure XOk (T : Tb) (C : Ctx) (s : Scp) (X : Cx) : Prop where
  hK : X.K = C.K
  calm : X.calm = true
  N : X.N = T.N
  nd : X.N.Nodup
  sc : X.env.scope = s.sc
  kind : X.env.scope.kind = .function
  units : X.A.units + 66 < cLine
  xe : X.xe = fun _ _ => False
  fn : X.fn = s.fn
  calls : ∀ (x : Str) (f : FN) (k : Nat), T.fns.lookup x = some (f, k) → CallOk C X x f k
  free : ∀ x ∈ T.free, X.mg x = none
  gls : ∀ (x : Str) (p : PV), T.gls.lookup x = some p → GloOk C X x p
  w : X.w = C.fa.w
def Good (X : Cx) (C : Ctx) : Md → Expr → E → Prop
  | .val, e, m => PE X e (tE C m)
  | .bor, e, m => PE X e (tB C m)
  | .tst, e, m => PT X e (tT C m)
abbrev Rec := Md → Scp → Expr → Option E
def RecOk (T : Tb) (C : Ctx) (r : Rec) : Prop := ∀ (md : Md) (s : Scp) (X : Cx) (e : Expr) (m : E), XOk T C s X → r md s e = some m → Good X C md e m

def boOf : Operator → Option BO
  | .Add => some .add
  | .Sub => some .sub
  | .Mult => some .mul
  | .FloorDiv => some .fdiv
  | .Mod => some .mod
  | .Pow => some .pow
  | .BitAnd => some .and
  | _ => none
def coOf : CmpOp → CO
  | .Eq => .eq
  | .NotEq => .ne
  | .Lt => .lt
  | .LtE => .le
  | .Gt => .gt
  | .GtE => .ge
  | .Is => .is
  | .IsNot => .isnot
  | .In => .isin
  | .NotIn => .notin
def slotOf (T : Tb) (x : Str) : Option Nat := let i := T.N.findIdx (· == x); if T.N[i]? = some x then some i else none
theorem slotOf_ok {T : Tb} {x : Str} {i : Nat} (h : slotOf T x = some i) : T.N[i]? = some x := by
  unfold slotOf at h
  simp only at h
  split at h
  · cases h; assumption
  · cases h
def plainName (x : Str) : Bool := !(x == ("__debug__" : Str)) && !(x == ("__classdict__" : Str)) && !(x == ("__name__" : Str))
def nameE : Md → Nat → E
  | .val, i => .v i
  | _, i => .peek i
def chkName (T : Tb) (md : Md) (s : Scp) (x : Str) : Option E :=
  if plainName x then
    match s.sc.names.lookup x with
    | some .globalImplicit => (T.gls.lookup x).map .c
    | some .globalExplicit => none
    | some _ => (slotOf T x).map (nameE md)
    | none => none
  else none
def allPlain : List Expr → Bool
  | [] => true
  | e :: es => notStar e && allPlain es
theorem allPlain_ok : ∀ {es : List Expr}, allPlain es = true → ∀ e ∈ es, notStar e = true
  | [], _, _, h => by cases h
  | e :: es, h, y, hy => by
    unfold allPlain at h
    rw [Bool.and_eq_true] at h
    rcases List.mem_cons.mp hy with rfl | hy
    · exact h.1
    · exact allPlain_ok h.2 y hy
def chkL (r : Rec) (s : Scp) : List Expr → Option Es
  | [] => some .nil
  | .Starred e _ :: es => match r .bor s e, chkL r s es with
    | some m, some ms => some (.star m ms)
    | _, _ => none
  | e :: es => if notStar e then (match r .val s e, chkL r s es with
    | some m, some ms => some (.cons m ms)
    | _, _ => none) else none
def b1Of (x : Str) : Option B1 :=
  if x = "len" then some .len else if x = "int" then some .int else if x = "list" then some .list else if x = "tuple" then some .tuple else if x = "sum" then some .sum
  else if x = "any" then some .any else if x = "all" then some .all else if x = "ord" then some .ord else if x = "sorted" then some .sorted else none
def tyOf (x : Str) : Option Ty :=
  if x = "int" then some .int else if x = "bool" then some .bool else if x = "str" then some .str else if x = "tuple" then some .tuple else if x = "list" then some .list else none
/-- x is a built-in's name here -/
def freeB (T : Tb) (s : Scp) (x : Str) : Bool := decide (s.sc.names.lookup x = some .globalImplicit) && decide (x ∈ T.free)
def chkCall (T : Tb) (r : Rec) (s : Scp) (x : Str) (args : List Expr) : Option E :=
  if plainName x then
    match T.fns.lookup x with
    | some (f, _) => if decide (s.sc.names.lookup x = some .globalImplicit) && allPlain args then (chkL r s args).map (.call f) else none
    | none => if freeB T s x then (match args with
      | [a] => if notStar a then (match b1Of x with
        | some f => (r .bor s a).map (.b1 f)
        | none => none) else none
      | [a, .Name y _] => if decide (x = "isinstance") && notStar a && freeB T s y && plainName y then (match tyOf y with
        | some t => (r .bor s a).map fun m => .isi m t
        | none => none) else none
      | _ => none) else none
  else none
def notSet : Expr → Bool
  | .Set .. => false
  | _ => true
def isTup : Expr → Bool
  | .Tuple .. => true
  | _ => false
def chkIt (T : Tb) (r : Rec) (s : Scp) (tg e : Expr) : Option A3.It :=
  match e with
  | .Call (.Name x _) args [] _ => if decide (x = "range") then (if freeB T s x then (match args with
      | [a] => if notStar a then (r .val s a).map .rng else none
      | [a, b] => if notStar a && notStar b then (match r .val s a, r .val s b with
        | some ma, some mb => some (.rng2 ma mb)
        | _, _ => none) else none
      | _ => none) else none) else if decide (x = "enumerate") then (match args with
        | [a] => if freeB T s x && notStar a && isTup tg then (r .val s a).map .enum else none
        | _ => none) else (r .val s e).map .of
  | _ => (r .val s e).map .of
def mapL {α β : Type} (f : α → Option β) : List α → Option (List β)
  | [] => some []
  | x :: xs => match f x, mapL f xs with
    | some y, some ys => some (y :: ys)
    | _, _ => none
def chkTg (T : Tb) (s : Scp) : Nat → Expr → Option Tg
  | 0, _ => none
  | n + 1, e => match e with
    | .Name x _ => if decide (s.sc.names.lookup x = some .local) || (decide (s.sc.names.lookup x = some .cell) && s.fn x) then (slotOf T x).map .nm else none
    | .Tuple es _ _ => if allPlain es then (mapL (chkTg T s n) es).map .tp else none
    | _ => none
def subL (xs ys : List Nat) : Bool := xs.all fun x => decide (x ∈ ys)
def ownOf (T : Tb) (scope : Scope) : List (Str × Nat) := scope.names.filterMap fun (x, k) => if k == .local || k == .cell then (slotOf T x).map fun i => (x, i) else none
def inner (s : Scp) (scope : Scope) : Scp := ⟨relS scope s.sc, fun x => scope.names.lookup x == some .cell⟩
def chkComp (T : Tb) (r : Rec) (s : Scp) (elt tg iter : Expr) (ifs : List Expr) (scope : Scope) : Option E :=
  let own := ownOf T scope
  let s' := inner s scope
  if blkC T.N s.sc scope own && notSet iter then
    match chkIt T r s tg iter, chkTg T s' 10 tg, r .val s' elt with
    | some it, some t, some el => if subL t.slots (own.map (·.2)) then (match ifs with
      | [] => some (.comp (own.map (·.2)) t it .none el)
      | [c] => (r .tst s' c).map fun m => .comp (own.map (·.2)) t it (.some m) el
      | _ => none) else none
    | _, _, _ => none
  else none
def chkDComp (T : Tb) (r : Rec) (s : Scp) (kx vx tg iter : Expr) (ifs : List Expr) (scope : Scope) : Option E :=
  match chkComp T r s kx tg iter ifs scope, r .val (inner s scope) vx with
  | some (.comp vs t it cd k), some el => some (.dcomp vs t it cd k el)
  | _, _ => none
def disj (xs ys : List Nat) : Bool := xs.all fun x => !decide (x ∈ ys)
/-- sorted({elt for .. for .. for ..}) -/
def chkSet3 (T : Tb) (r : Rec) (s : Scp) (elt tg1 iter1 tg2 iter2 tg3 iter3 : Expr) (scope : Scope) : Option E :=
  let own := ownOf T scope
  let s' := inner s scope
  if blkC T.N s.sc scope own && (notSet iter1 && (notSet iter2 && (notSet iter3 && freeB T s "sorted"))) then
    match chkIt T r s tg1 iter1, chkIt T r s' tg2 iter2, chkIt T r s' tg3 iter3, chkTg T s' 10 tg1, chkTg T s' 10 tg2, chkTg T s' 10 tg3, r .val s' elt with
    | some i1, some i2, some i3, some t1, some t2, some t3, some el => if subL (t1.slots ++ (t2.slots ++ (t3.slots ++ []))) (own.map (·.2)) && (disj t1.slots (t2.slots ++ (t3.slots ++ [])) && disj t2.slots (t3.slots ++ [])) then
        some (.sset (own.map (·.2)) t1 i1 t2 i2 t3 i3 el) else none
    | _, _, _, _, _, _, _ => none
  else none
def chkOE (r : Rec) (s : Scp) : Option Expr → Option OE
  | none => some .none
  | some e => (r .val s e).map .some
def chkBool (r : Rec) (md : Md) (s : Scp) (op : BoolOp) : List Expr → Option E
  | [] => none
  | [a] => r md s a
  | a :: rest => match r md s a, chkBool r md s op rest with
    | some m, some ms => some (match op with
      | .And => .and m ms
      | .Or => .or m ms)
    | _, _ => none
def tstOf : Md → Md
  | .tst => .tst
  | _ => .val
/-- one step of the checker -/
def chkStep (T : Tb) (r : Rec) (md : Md) (s : Scp) (e : Expr) : Option E :=
  match e with
  | .Constant c _ _ => (constPV c).map .c
  | .Name x _ => chkName T md s x
  | .BinOp a op b _ => match boOf op, r .bor s a, r .bor s b with
    | some o, some ma, some mb => some (.bin o ma mb)
    | _, _, _ => none
  | .UnaryOp .Not a _ => (r (match md with
    | .tst => .tst
    | _ => .bor) s a).map .not
  | .UnaryOp .USub a _ => (r .val s a).map .neg
  | .Compare a [op] [b] _ => if behindInMarks op b then none else match r .bor s a, r .bor s b with
    | some ma, some mb => some (.cmp (coOf op) ma mb)
    | _, _ => none
  | .Compare a [op, op'] [b, c] _ => if behindInMarks op' c then none else match r .bor s a, r .bor s b, r .bor s c with
    | some ma, some mb, some mc => some (.chain (coOf op) (coOf op') ma mb mc)
    | _, _, _ => none
  | .BoolOp op es _ => chkBool r (tstOf md) s op es
  | .IfExp t a b _ => match md with
    | .tst => none
    | _ => match r .tst s t, r .val s a, r .val s b with
      | some mt, some ma, some mb => some (.ite mt ma mb)
      | _, _, _ => none
  | .Tuple es _ _ => if decide (es.length ≤ 1000) then (chkL r s es).map .tup else none
  | .List es _ => if decide (es.length ≤ 1000) then (chkL r s es).map .lst else none
  | .Subscript a i _ => match i with
    | .Slice lo hi none _ => match r .bor s a, chkOE r s lo, chkOE r s hi with
      | some ma, some ml, some mh => some (.slc ma ml mh)
      | _, _, _ => none
    | _ => if notSlice i then (match r .bor s a, r .val s i with
      | some ma, some mi => some (.idx ma mi)
      | _, _ => none) else none
  | .Call (.Attribute a y apos) [b] [] pos => if decide (y = "index") && (baseOk a && (notStar b && apos.endLine == pos.line)) then (match r .bor s a, r .val s b with
    | some ma, some mb => some (.idxOf ma mb)
    | _, _ => none) else none
  | .Call (.Name x _) args [] _ => match args with
    | [.Call (.Name y _) [a] [] _] => if decide (x = "len") && decide (y = "set") then (if freeB T s "len" && (freeB T s "set" && notStar a) then (r .bor s a).map .lenset else none) else chkCall T r s x args
    | [.SetComp elt [⟨tg1, iter1, [], 0⟩, ⟨tg2, iter2, [], 0⟩, ⟨tg3, iter3, [], 0⟩] scope _] => if decide (x = "sorted") then chkSet3 T r s elt tg1 iter1 tg2 iter2 tg3 iter3 scope else none
    | [a, b] => if decide (x = "min") then (if freeB T s "min" && (notStar a && notStar b) then (match r .val s a, r .val s b with
      | some ma, some mb => some (.min2 ma mb)
      | _, _ => none) else none) else chkCall T r s x args
    | _ => chkCall T r s x args
  | .Call (.Name x _) [a] [⟨some kw, .Name y yp, _⟩] _ => if decide (x = "sorted") && (decide (kw = "key") && (freeB T s "sorted" && notStar a)) then (match T.fns.lookup y, r .val s (.Name y yp) with
      | some (f, _), some (.c (.fn g [])) => if decide (f = g) then (r .bor s a).map (.srtk f) else none
      | _, _ => none) else none
  | .ListComp elt [⟨tg, iter, ifs, 0⟩] scope _ => chkComp T r s elt tg iter ifs scope
  | .DictComp kx vx [⟨tg, iter, ifs, 0⟩] scope _ => chkDComp T r s kx vx tg iter ifs scope
  | _ => none
def chk (T : Tb) : Nat → Rec
  | 0 => fun _ _ _ => none
  | n + 1 => fun md s e => chkStep T (chk T n) md s e

/-! ### the theorem -/
section
variable {T : Tb} {C : Ctx} {X : Cx} {s : Scp} {r : Rec}
theorem plainName_ok {x : Str} (h : plainName x = true) : (x == ("__debug__" : Str)) = false ∧ (x == ("__classdict__" : Str)) = false ∧ x ≠ ("__name__" : Str) := by
  unfold plainName at h
  simp only [Bool.and_eq_true, Bool.not_eq_true'] at h
  exact ⟨h.1.1, h.1.2, fun e => by rw [e] at h; simp at h⟩
/-- a value's rule serves all modes -/
theorem good_val {md : Md} {e : Expr} {m : E} (x : XOk T C s X) (h : PE X e (tE C m)) (he : ∀ whole, isTrue e X.env whole = (do let v ← whole; standAt e.pos; holding [v] (truthy v))) : Good X C md e m := by
  cases md with
  | val => exact h
  | bor => exact tB_of h
  | tst => exact simT_any x.hK (tB_of h) he
theorem name_ok {md : Md} {y : Str} {p : Pos} {m : E} (x : XOk T C s X) (h : chkName T md s y = some m) : Good X C md (.Name y p) m := by
  unfold chkName at h
  split at h
  · rename_i hp
    obtain ⟨h1, h2, h3⟩ := plainName_ok hp
    have slot : ∀ {k : NameKind}, s.sc.names.lookup y = some k → (k = .local ∨ k = .cell ∨ k = .free) → (slotOf T y).map (nameE md) = some m → Good X C md (.Name y p) m := fun {k} hk hk' h => by
      obtain ⟨i, hi, rfl⟩ := Option.map_eq_some_iff.mp h
      have hi := slotOf_ok hi
      rw [← x.N] at hi
      have hv : Vis X.env.scope y := by
        rw [x.sc]
        rcases hk' with rfl | rfl | rfl
        · exact .inl hk
        · exact .inr (.inl hk)
        · exact .inr (.inr hk)
      cases md with
      | val => exact sim_v hi hv h1 h2
      | bor => exact sim_peek hi hv h1 h2
      | tst => exact simT_any x.hK (sim_peek hi hv h1 h2) fun _ => rfl
    split at h
    · rename_i hg
      obtain ⟨q, hq, rfl⟩ := Option.map_eq_some_iff.mp h
      have hg : Gl X y := by show X.env.scope.names.lookup y = _; rw [x.sc]; exact hg
      exact good_val x (sim_glob hg (x.gls y q hq) h1) fun _ => rfl
    · cases h
    · rename_i k n1 n2 hk
      refine slot hk ?_ h
      cases k with
      | «local» => exact .inl rfl
      | cell => exact .inr (.inl rfl)
      | free => exact .inr (.inr rfl)
      | globalExplicit => exact absurd rfl (n2)
      | globalImplicit => exact absurd rfl (n1)
    · cases h
  · cases h
theorem chkL_ok (x : XOk T C s X) (hr : RecOk T C r) : ∀ {es : List Expr} {ms : Es}, chkL r s es = some ms → PA X es (tEs C ms) ∧ ms.count ≤ es.length + 65536
  | [], ms, h => by cases h; exact ⟨simA_nil, Nat.zero_le _⟩
  | e :: es, ms, h => by
    unfold chkL at h
    split at h
    · rename_i e0; cases e0
    · rename_i e0 p es' e1
      cases e1
      split at h
      · rename_i m ms' h1 h2
        cases h
        exact ⟨simA_star x.hK (hr .bor s X e0 m x h1) (chkL_ok x hr h2).1, Nat.le_add_left _ _⟩
      · cases h
    · rename_i e0 es' _ e1
      cases e1
      split at h
      · rename_i hs
        split at h
        · rename_i m ms' h1 h2
          cases h
          obtain ⟨i1, i2⟩ := chkL_ok x hr h2
          exact ⟨simA_cons (hr .val s X e m x h1) i1 hs, by show ms'.count + 1 ≤ es.length + 1 + 65536; omega⟩
        · cases h
      · cases h
theorem bo_ok (x : XOk T C s X) {op : Operator} {o : BO} (h : boOf op = some o) : OpR X (binaryOp op) (rBO C o) := by
  cases op <;> first
    | (cases h; first | exact bo_add x.hK | exact bo_sub | exact bo_mul | exact bo_fdiv | exact bo_mod | exact bo_pow | exact bo_and)
    | cases h
theorem co_ok (x : XOk T C s X) (op : CmpOp) : OpR X (compareOp op) (rCO C (coOf op)) := by
  have hu := x.units
  cases op
  · exact co_eq x.hK (by omega)
  · exact co_ne x.hK (by omega)
  · exact lt_ok x.hK (by omega)
  · exact le_ok
  · exact gt_ok
  · exact ge_ok x.hK (by omega)
  · exact is_ok
  · exact isnot_ok
  · exact in_ok x.hK hu
  · exact notin_ok x.hK hu
theorem freeB_ok (x : XOk T C s X) {y : Str} (h : freeB T s y = true) : Gl X y ∧ X.mg y = none := by
  unfold freeB at h
  rw [Bool.and_eq_true, decide_eq_true_eq, decide_eq_true_eq] at h
  exact ⟨by show X.env.scope.names.lookup y = _; rw [x.sc]; exact h.1, x.free y h.2⟩
theorem b1_ok (x : XOk T C s X) {y : Str} {f : B1} {a : Expr} {ma : E} {p pos : Pos} (hf : freeB T s y = true) (h : b1Of y = some f) (ha : PE X a (tB C ma)) (hs : notStar a = true) : PE X (.Call (.Name y p) [a] [] pos) (tE C (.b1 f ma)) := by
  obtain ⟨hg, hm⟩ := freeB_ok x hf
  unfold b1Of at h
  split at h
  · rename_i e; subst e; cases h; exact simE_b1B (b_len x.hK) hg hm rfl ha hs (by decide) (by decide)
  split at h
  · rename_i e; subst e; cases h; exact simE_b1T b_int hg hm rfl ha hs (by decide) (by decide)
  split at h
  · rename_i e; subst e; cases h; exact simE_b1T (b_list x.hK x.calm) hg hm rfl ha hs (by decide) (by decide)
  split at h
  · rename_i e; subst e; cases h; exact simE_b1T (b_tuple x.hK) hg hm rfl ha hs (by decide) (by decide)
  split at h
  · rename_i e; subst e; cases h; exact simE_b1B (b_sum x.hK x.calm) hg hm rfl ha hs (by decide) (by decide)
  split at h
  · rename_i e; subst e; cases h; exact simE_b1B (b_any x.hK x.calm) hg hm rfl ha hs (by decide) (by decide)
  split at h
  · rename_i e; subst e; cases h; exact simE_b1B (b_all x.hK x.calm) hg hm rfl ha hs (by decide) (by decide)
  split at h
  · rename_i e; subst e; cases h; exact simE_b1B b_ord hg hm rfl ha hs (by decide) (by decide)
  split at h
  · rename_i e; subst e; cases h; exact simE_b1B (b_sorted x.hK (by have := x.units; omega)) hg hm rfl ha hs (by decide) (by decide)
  · cases h
theorem isi_use (x : XOk T C s X) {y : Str} {t : Ty} {a : Expr} {ma : E} {p p2 pos : Pos} (hi : freeB T s "isinstance" = true) (hf : freeB T s y = true) (hp : plainName y = true) (h : tyOf y = some t) (ha : PE X a (tB C ma)) (hs : notStar a = true) : PE X (.Call (.Name "isinstance" p) [a, .Name y p2] [] pos) (tE C (.isi ma t)) := by
  obtain ⟨hg, hm⟩ := freeB_ok x hf
  obtain ⟨hg0, hm0⟩ := freeB_ok x hi
  obtain ⟨h1, h2, h3⟩ := plainName_ok hp
  have hv : bootBuiltins y = some (.type t.nm) := by
    unfold tyOf at h
    split at h
    · rename_i e; subst e; cases h; rfl
    split at h
    · rename_i e; subst e; cases h; rfl
    split at h
    · rename_i e; subst e; cases h; rfl
    split at h
    · rename_i e; subst e; cases h; rfl
    split at h
    · rename_i e; subst e; cases h; rfl
    · cases h
  exact simE_isi x.hK hg0 hm0 rfl ha hs hg hm hv h3 h1
theorem call_ok (x : XOk T C s X) (hr : RecOk T C r) {y : Str} {args : List Expr} {m : E} {p pos : Pos} (h : chkCall T r s y args = some m) : PE X (.Call (.Name y p) args [] pos) (tE C m) := by
  unfold chkCall at h
  split at h
  · rename_i hp
    obtain ⟨h1, h2, h3⟩ := plainName_ok hp
    split at h
    · rename_i f k hf
      split at h
      · rename_i hc
        rw [Bool.and_eq_true, decide_eq_true_eq] at hc
        have hg : Gl X y := by show X.env.scope.names.lookup y = _; rw [x.sc]; exact hc.1
        obtain ⟨ms, hms, rfl⟩ := Option.map_eq_some_iff.mp h
        have hs := allPlain_ok hc.2
        obtain ⟨i1, _⟩ := chkL_ok x hr hms
        cases args with
        | nil => cases hms; exact simE_call0 (x.calls y f k hf) hg h1
        | cons e es => exact simE_call (x.calls y f k hf) hg i1 h1 hs
      · cases h
    · split at h
      · rename_i hfr
        split at h
        · split at h
          · rename_i hs
            split at h
            · rename_i f hb
              obtain ⟨ma, hma, rfl⟩ := Option.map_eq_some_iff.mp h
              exact b1_ok x hfr hb (hr .bor s X _ ma x hma) hs
            · cases h
          · cases h
        · split at h
          · rename_i hc
            simp only [Bool.and_eq_true, decide_eq_true_eq] at hc
            split at h
            · rename_i t ht
              obtain ⟨ma, hma, rfl⟩ := Option.map_eq_some_iff.mp h
              obtain ⟨⟨⟨e, c2⟩, c3⟩, c4⟩ := hc
              subst e
              exact isi_use x hfr c3 c4 ht (hr .bor s X _ ma x hma) c2
            · cases h
          · cases h
        · cases h
      · cases h
  · cases h
theorem folded_ok {e : Expr} (h : notSet e = true) (env : PySem.Env) (v : Value) : foldedSetIterable e env v = pure v := by
  cases e <;> first | rfl | cases h
theorem it_ok (x : XOk T C s X) (hr : RecOk T C r) {tg e : Expr} {m : A3.It} (h : chkIt T r s tg e = some m) : PI X tg e (tI C m) := by
  have gen : ∀ {m}, (r .val s e).map A3.It.of = some m → PI X tg e (tI C m) := fun {m} h => by
    obtain ⟨ma, hma, rfl⟩ := Option.map_eq_some_iff.mp h
    exact simI_of x.hK (hr .val s X e ma x hma)
  unfold chkIt at h
  split at h
  · split at h
    · rename_i e
      simp only [decide_eq_true_eq] at e
      subst e
      split at h
      · rename_i hf
        obtain ⟨hg, hm⟩ := freeB_ok x hf
        split at h
        · split at h
          · rename_i hs
            obtain ⟨ma, hma, rfl⟩ := Option.map_eq_some_iff.mp h
            exact simI_rng hg hm (hr .val s X _ ma x hma) hs
          · cases h
        · split at h
          · rename_i hs
            rw [Bool.and_eq_true] at hs
            split at h
            · rename_i ma mb h1 h2
              cases h
              exact simI_rng2 hg hm (hr .val s X _ ma x h1) (hr .val s X _ mb x h2) hs.1 hs.2
            · cases h
          · cases h
        · cases h
      · cases h
    · split at h
      · rename_i e
        simp only [decide_eq_true_eq] at e
        subst e
        split at h
        · split at h
          · rename_i hf
            simp only [Bool.and_eq_true] at hf
            obtain ⟨hg, hm⟩ := freeB_ok x hf.1.1
            obtain ⟨ma, hma, rfl⟩ := Option.map_eq_some_iff.mp h
            cases tg with
            | Tuple elts kk tpos => exact simI_enum x.hK hg hm (hr .val s X _ ma x hma) hf.1.2
            | _ => cases hf.2
          · cases h
        · cases h
      · exact gen h
  · exact gen h
theorem mapL_len {α β : Type} {f : α → Option β} : ∀ {xs : List α} {ys : List β}, mapL f xs = some ys → xs.length = ys.length
  | [], ys, h => by cases h; rfl
  | x :: xs, ys, h => by
    unfold mapL at h
    split at h
    · rename_i y zs h1 h2; cases h; simp [mapL_len h2]
    · cases h
theorem tg_ok (x : XOk T C s X) : ∀ {n : Nat} {e : Expr} {t : Tg}, chkTg T s n e = some t → PG X e (tG C t) ∧ notStar e = true
  | 0, _, _, h => by cases h
  | n + 1, e, t, h => by
    unfold chkTg at h
    split at h
    · split at h
      · rename_i y p hc
        obtain ⟨i, hi, rfl⟩ := Option.map_eq_some_iff.mp h
        have hi := slotOf_ok hi
        rw [← x.N] at hi
        simp only [Bool.or_eq_true, Bool.and_eq_true, decide_eq_true_eq] at hc
        refine ⟨simG_nm x.nd hi ?_ ?_, rfl⟩
        · rw [L2.Loc, x.sc]; exact hc.imp id fun z => z.1
        · rw [x.sc, x.fn]; exact hc.symm.imp (fun z => z.2) id
      · cases h
    · split at h
      · rename_i es k p hs
        obtain ⟨ts, hts, rfl⟩ := Option.map_eq_some_iff.mp h
        have hs := allPlain_ok hs
        have key : ∀ (es : List Expr) (ts : List Tg), (∀ e ∈ es, notStar e = true) → mapL (chkTg T s n) es = some ts → PGs X es (tGs C ts) := fun es => by
          induction es with
          | nil => intro ts _ h; cases h; exact simGs_nil
          | cons e es ih =>
            intro ts hs h
            unfold mapL at h
            split at h
            · rename_i t us h1 h2
              cases h
              exact simGs_cons (tg_ok x h1).1 (ih us (fun y hy => hs y (List.mem_cons_of_mem _ hy)) h2) (hs e List.mem_cons_self)
            · cases h
        exact ⟨simG_tp x.hK x.calm (key es ts hs hts) hs (mapL_len hts), rfl⟩
      · cases h
    · cases h
theorem XOk.blk (x : XOk T C s X) {scope : Scope} {own : List (Str × Nat)} (ok : BlkOk X.N X.env.scope scope own) (sh : Shared) (H : Hp) (D : Addr) (cl : List (Str × Addr)) (fp : List Addr) : XOk T C (inner s scope) (X.blk sh H scope (compEnvC scope cl D X.env) fp) :=
  ⟨x.hK, x.calm, x.N, x.nd, by show relS scope X.env.scope = _; rw [x.sc]; rfl, ok.kind, x.units, rfl, rfl, x.calls, x.free, x.gls, x.w⟩
theorem comp_okN (x : XOk T C s X) (hr : RecOk T C r) {elt tg iter : Expr} {ifs : List Expr} {scope : Scope} {pos : Pos} {m : E} (h : chkComp T r s elt tg iter ifs scope = some m) :
    ∃ (t : Tg) (it : A3.It) (cd : OE) (el : E), m = .comp ((ownOf T scope).map (·.2)) t it cd el ∧ PI X tg iter (tI C it) ∧ BlkOk X.N X.env.scope scope (ownOf T scope) ∧ (∀ i ∈ t.slots, i ∈ (ownOf T scope).map (·.2)) ∧
      (∀ (s : Shared) (H : Hp) (D : Addr) (cl : List (Str × Addr)) (fp : List Addr), PG (X.blk s H scope (compEnvC scope cl D X.env) fp) tg (tG C t)) ∧ (∀ (s : Shared) (H : Hp) (D : Addr) (cl : List (Str × Addr)) (fp : List Addr), PTs (X.blk s H scope (compEnvC scope cl D X.env) fp) ifs (tOT C cd)) ∧
      (∀ (s : Shared) (H : Hp) (D : Addr) (cl : List (Str × Addr)) (fp : List Addr), PE (X.blk s H scope (compEnvC scope cl D X.env) fp) elt (tE C el)) ∧ (∀ v, foldedSetIterable iter X.env v = pure v) := by
  unfold chkComp at h
  simp only at h
  split at h
  · rename_i hc
    rw [Bool.and_eq_true] at hc
    split at h
    · rename_i it t el h1 h2 h3
      split at h
      · rename_i hsub
        have ok : BlkOk X.N X.env.scope scope (ownOf T scope) := by rw [x.N, x.sc]; exact blkOk_by hc.1
        have hsub : ∀ i ∈ t.slots, i ∈ (ownOf T scope).map (·.2) := fun i hi => of_decide_eq_true (List.all_eq_true.mp hsub i hi)
        have hi : PI X tg iter (tI C it) := it_ok x hr h1
        have hg := fun sh H D cl fp => (tg_ok (x.blk ok sh H D cl fp) h2).1
        have he := fun sh H D cl fp => hr .val (inner s scope) _ elt el (x.blk ok sh H D cl fp) h3
        split at h
        · cases h
          exact ⟨t, it, .none, el, rfl, hi, ok, hsub, hg, fun _ _ _ _ _ => simOT_none, he, folded_ok hc.2 _⟩
        · obtain ⟨mc, hmc, rfl⟩ := Option.map_eq_some_iff.mp h
          exact ⟨t, it, .some mc, el, rfl, hi, ok, hsub, hg, fun sh H D cl fp => simOT_some (hr .tst (inner s scope) _ _ mc (x.blk ok sh H D cl fp) hmc), he, folded_ok hc.2 _⟩
        · cases h
      · cases h
    · cases h
  · cases h
theorem comp_ok (x : XOk T C s X) (hr : RecOk T C r) {elt tg iter : Expr} {ifs : List Expr} {scope : Scope} {pos : Pos} {m : E} (h : chkComp T r s elt tg iter ifs scope = some m) : PE X (.ListComp elt [⟨tg, iter, ifs, 0⟩] scope pos) (tN C m) := by
  obtain ⟨t, it, cd, el, rfl, hi, ok, hsub, hg, ht, he, hs⟩ := comp_okN (pos := pos) x hr h
  exact simN_comp x.calm x.nd hi ok hsub hg ht he hs
theorem comp_lst {cf : CallF} {vs : List Nat} {t : Tg} {it : A3.It} {cd : OE} {el : E} {ρ : A3.Env} {S S' : Store} {p : PV} (h : (E.comp vs t it cd el).ev cf ρ S = .ok p S') : ∃ ps, p = .lst ps := by
  replace h : (it.ev cf ρ S).bind (fun xs S => (compL (compF cf vs t cd el ρ) xs S).bind fun ys S => .ok (.lst ys) S) = .ok p S' := h
  obtain ⟨xs, S1, _, h⟩ := R.bind_ok h
  obtain ⟨ys, S2, _, h⟩ := R.bind_ok h
  cases h
  exact ⟨ys, rfl⟩
theorem comp_okE (x : XOk T C s X) (hr : RecOk T C r) {elt tg iter : Expr} {ifs : List Expr} {scope : Scope} {pos : Pos} {m : E} (h : chkComp T r s elt tg iter ifs scope = some m) : PE X (.ListComp elt [⟨tg, iter, ifs, 0⟩] scope pos) (tE C m) := by
  obtain ⟨t, it, cd, el, rfl, hi, ok, hsub, hg, ht, he, hs⟩ := comp_okN (pos := pos) x hr h
  exact tE_of_tN (simN_comp x.calm x.nd hi ok hsub hg ht he hs) fun _ _ _ _ e => comp_lst e
theorem dcomp_okE (x : XOk T C s X) (hr : RecOk T C r) {kx vx tg iter : Expr} {ifs : List Expr} {scope : Scope} {pos : Pos} {m : E} (h : chkDComp T r s kx vx tg iter ifs scope = some m) : PE X (.DictComp kx vx [⟨tg, iter, ifs, 0⟩] scope pos) (tE C m) := by
  unfold chkDComp at h
  split at h
  · rename_i vs t it cd k el h1 h2
    cases h
    obtain ⟨t', it', cd', el', e, hi, ok, hsub, hg, ht, he, hs⟩ := comp_okN (pos := pos) x hr h1
    cases e
    exact simE_dcomp x.hK x.w (by have := x.units; omega) x.calm x.nd hi ok hsub hg ht he (fun sh H D cl fp => hr .val (inner s scope) _ vx el (x.blk ok sh H D cl fp) h2) hs
  · cases h
theorem disj_ok {xs ys : List Nat} (h : disj xs ys = true) : ∀ i ∈ xs, i ∉ ys := fun i hi hy => by
  have := List.all_eq_true.mp h i hi
  rw [Bool.not_eq_true', decide_eq_false_iff_not] at this
  exact this hy
theorem set3_ok (x : XOk T C s X) (hr : RecOk T C r) {elt tg1 iter1 tg2 iter2 tg3 iter3 : Expr} {scope : Scope} {p pos pos2 : Pos} {m : E} (h : chkSet3 T r s elt tg1 iter1 tg2 iter2 tg3 iter3 scope = some m) :
    PE X (.Call (.Name "sorted" p) [.SetComp elt [⟨tg1, iter1, [], 0⟩, ⟨tg2, iter2, [], 0⟩, ⟨tg3, iter3, [], 0⟩] scope pos] [] pos2) (tE C m) := by
  unfold chkSet3 at h
  simp only at h
  split at h
  · rename_i hc
    simp only [Bool.and_eq_true] at hc
    obtain ⟨c1, c2, c3, c4, c5⟩ := hc
    split at h
    · rename_i i1 i2 i3 t1 t2 t3 el h1 h2 h3 h4 h5 h6 h7
      split at h
      · rename_i hsub
        simp only [Bool.and_eq_true] at hsub
        obtain ⟨hsub, hd1, hd2⟩ := hsub
        cases h
        have ok : BlkOk X.N X.env.scope scope (ownOf T scope) := by rw [x.N, x.sc]; exact blkOk_by c1
        have hsub := fun i hi => of_decide_eq_true (List.all_eq_true.mp hsub i hi)
        obtain ⟨hg, hm⟩ := freeB_ok x c5
        exact tE_of_tN (simN_sset hg hm x.calm x.nd (it_ok x hr h1) ok hsub (disj_ok hd1) (disj_ok hd2) (fun sh H D cl fp => (tg_ok (x.blk ok sh H D cl fp) h4).1) (fun sh H D cl fp => (tg_ok (x.blk ok sh H D cl fp) h5).1) (fun sh H D cl fp => (tg_ok (x.blk ok sh H D cl fp) h6).1)
          (fun sh H D cl fp => it_ok (x.blk ok sh H D cl fp) hr h2) (fun sh H D cl fp => it_ok (x.blk ok sh H D cl fp) hr h3) (fun sh H D cl fp => hr .val (inner s scope) _ elt el (x.blk ok sh H D cl fp) h7) (folded_ok c2 _) (folded_ok c3) (folded_ok c4)) fun _ _ _ _ e => sset_lst e
      · cases h
    · cases h
  · cases h
theorem oe_ok (x : XOk T C s X) (hr : RecOk T C r) {e : Option Expr} {m : OE} (h : chkOE r s e = some m) : PO X e (tOE C m) := by
  cases e with
  | none => cases h; exact simO_none
  | some e =>
    obtain ⟨ma, hma, rfl⟩ := Option.map_eq_some_iff.mp h
    exact simO_some (hr .val s X e ma x hma)
theorem boolV_ok (x : XOk T C s X) (hr : RecOk T C r) {op : BoolOp} {pos : Pos} : ∀ {es : List Expr} {m : E}, chkBool r .val s op es = some m → PE X (.BoolOp op es pos) (tE C m)
  | [], _, h => by cases h
  | [a], m, h => pe_one (hr .val s X a m x h)
  | a :: b :: rest, m, h => by
    unfold chkBool at h
    split at h
    · rename_i ma mb h1 h2
      cases h
      have ih := boolV_ok x hr (pos := pos) h2
      cases op with
      | And => exact simE_and x.hK (hr .val s X a ma x h1) ih
      | Or => exact simE_or x.hK (hr .val s X a ma x h1) ih
    · cases h
theorem boolT_ok (x : XOk T C s X) (hr : RecOk T C r) {op : BoolOp} {pos : Pos} : ∀ {es : List Expr} {m : E}, chkBool r .tst s op es = some m → PW X (.BoolOp op es pos) (tT C m)
  | [], _, h => by cases h
  | [a], m, h => by
    cases op with
    | And => exact pw_and1 (hr .tst s X a m x h)
    | Or => exact pw_or1 (hr .tst s X a m x h)
  | a :: b :: rest, m, h => by
    unfold chkBool at h
    split at h
    · rename_i ma mb h1 h2
      cases h
      have ih := boolT_ok x hr (pos := pos) h2
      cases op with
      | And => exact simW_and (hr .tst s X a ma x h1) ih
      | Or => exact simW_or (hr .tst s X a ma x h1) ih
    · cases h
theorem step_ok (hr : RecOk T C r) : RecOk T C (chkStep T r) := by
  intro md s X e m x h
  unfold chkStep at h
  split at h
  · obtain ⟨p, hp, rfl⟩ := Option.map_eq_some_iff.mp h
    exact good_val x (sim_const hp) fun _ => rfl
  · exact name_ok x h
  · split at h
    · rename_i o ma mb h1 h2 h3
      cases h
      exact good_val x (sim_bin (hr .bor s X _ ma x h2) (hr .bor s X _ mb x h3) (bo_ok x h1)) fun _ => rfl
    · cases h
  · obtain ⟨ma, hma, rfl⟩ := Option.map_eq_some_iff.mp h
    cases md with
    | tst => exact simT_not (hr .tst s X _ ma x hma)
    | val => exact simE_not x.hK (hr .bor s X _ ma x hma)
    | bor => exact tB_of (simE_not x.hK (hr .bor s X _ ma x hma))
  · obtain ⟨ma, hma, rfl⟩ := Option.map_eq_some_iff.mp h
    exact good_val x (simE_neg (hr .val s X _ ma x hma)) fun _ => rfl
  · split at h
    · cases h
    · rename_i hb
      split at h
      · rename_i ma mb h1 h2
        cases h
        have hb := Bool.eq_false_iff.mpr hb
        cases md with
        | tst => exact simT_cmp (hr .bor s X _ ma x h1) (hr .bor s X _ mb x h2) (co_ok x _) hb
        | val => exact sim_cmp (hr .bor s X _ ma x h1) (hr .bor s X _ mb x h2) (co_ok x _) hb
        | bor => exact tB_of (sim_cmp (hr .bor s X _ ma x h1) (hr .bor s X _ mb x h2) (co_ok x _) hb)
      · cases h
  · split at h
    · cases h
    · rename_i hb
      split at h
      · rename_i ma mb mc h1 h2 h3
        cases h
        have hb := Bool.eq_false_iff.mpr hb
        cases md with
        | tst => exact simT_chain (hr .bor s X _ ma x h1) (hr .bor s X _ mb x h2) (hr .bor s X _ mc x h3) (co_ok x _) (co_ok x _) hb
        | val => exact sim_chain (hr .bor s X _ ma x h1) (hr .bor s X _ mb x h2) (hr .bor s X _ mc x h3) (co_ok x _) (co_ok x _) hb
        | bor => exact tB_of (sim_chain (hr .bor s X _ ma x h1) (hr .bor s X _ mb x h2) (hr .bor s X _ mc x h3) (co_ok x _) (co_ok x _) hb)
      · cases h
  · cases md with
    | tst => exact (boolT_ok x hr h).pt
    | val => exact boolV_ok x hr h
    | bor => exact tB_of (boolV_ok x hr h)
  · cases md with
    | tst => cases h
    | val =>
      simp only at h
      split at h
      · rename_i mt ma mb h1 h2 h3
        cases h
        exact simE_ite (hr .tst s X _ mt x h1) (hr .val s X _ ma x h2) (hr .val s X _ mb x h3)
      · cases h
    | bor =>
      simp only at h
      split at h
      · rename_i mt ma mb h1 h2 h3
        cases h
        exact tB_of (simE_ite (hr .tst s X _ mt x h1) (hr .val s X _ ma x h2) (hr .val s X _ mb x h3))
      · cases h
  · split at h
    · rename_i hc
      rw [decide_eq_true_eq] at hc
      obtain ⟨ms, hms, rfl⟩ := Option.map_eq_some_iff.mp h
      obtain ⟨i1, i2⟩ := chkL_ok x hr hms
      exact good_val x (simE_tup i1 (by omega)) fun _ => rfl
    · cases h
  · split at h
    · rename_i hc
      rw [decide_eq_true_eq] at hc
      obtain ⟨ms, hms, rfl⟩ := Option.map_eq_some_iff.mp h
      obtain ⟨i1, i2⟩ := chkL_ok x hr hms
      exact good_val x (simE_lst i1 (by omega)) fun _ => rfl
    · cases h
  · split at h
    · split at h
      · rename_i ma ml mh h1 h2 h3
        cases h
        exact good_val x (simE_slc x.hK (hr .bor s X _ ma x h1) (oe_ok x hr h2) (oe_ok x hr h3)) fun _ => rfl
      · cases h
    · split at h
      · rename_i hn
        split at h
        · rename_i ma mi h1 h2
          cases h
          exact good_val x (simE_idx x.hK (hr .bor s X _ ma x h1) (hr .val s X _ mi x h2) hn) fun _ => rfl
        · cases h
      · cases h
  · split at h
    · rename_i hc
      simp only [Bool.and_eq_true, decide_eq_true_eq, beq_iff_eq] at hc
      obtain ⟨rfl, c1, c2, c3⟩ := hc
      split at h
      · rename_i ma mb h1 h2
        cases h
        have hu := x.units
        exact good_val x (simE_idxOf x.hK (by omega) (hr .bor s X _ ma x h1) (hr .val s X _ mb x h2) c1 c2 (by rw [c3]; exact beq_self_eq_true _)) fun _ => rfl
      · cases h
    · cases h
  · split at h
    · split at h
      · rename_i e
        rw [Bool.and_eq_true, decide_eq_true_eq, decide_eq_true_eq] at e
        obtain ⟨rfl, rfl⟩ := e
        split at h
        · rename_i hf
          simp only [Bool.and_eq_true] at hf
          obtain ⟨hg, hm⟩ := freeB_ok x hf.1
          obtain ⟨hg2, hm2⟩ := freeB_ok x hf.2.1
          obtain ⟨ma, hma, rfl⟩ := Option.map_eq_some_iff.mp h
          exact good_val x (simE_lenset x.hK x.calm hg hm hg2 hm2 (hr .bor s X _ ma x hma) hf.2.2) fun _ => rfl
        · cases h
      · exact good_val x (call_ok x hr h) fun _ => rfl
    · split at h
      · rename_i e
        simp only [decide_eq_true_eq] at e
        subst e
        exact good_val x (set3_ok x hr h) fun _ => rfl
      · cases h
    · split at h
      · rename_i e
        simp only [decide_eq_true_eq] at e
        subst e
        split at h
        · rename_i hf
          simp only [Bool.and_eq_true] at hf
          obtain ⟨hg, hm⟩ := freeB_ok x hf.1
          split at h
          · rename_i ma mb h1 h2
            cases h
            exact good_val x (simE_min2 x.calm hg hm (hr .val s X _ ma x h1) (hr .val s X _ mb x h2) hf.2.1 hf.2.2) fun _ => rfl
          · cases h
        · cases h
      · exact good_val x (call_ok x hr h) fun _ => rfl
    · exact good_val x (call_ok x hr h) fun _ => rfl
  · split at h
    · rename_i hc
      simp only [Bool.and_eq_true, decide_eq_true_eq] at hc
      obtain ⟨rfl, rfl, c3, c4⟩ := hc
      obtain ⟨hg, hm⟩ := freeB_ok x c3
      split at h
      · rename_i f k g h1 h2
        split at h
        · rename_i e
          have e := of_decide_eq_true e
          subst e
          obtain ⟨ma, hma, rfl⟩ := Option.map_eq_some_iff.mp h
          exact good_val x (simE_srtk x.hK (by have := x.units; omega) (x.calls _ f k h1) hg hm (hr .bor s X _ ma x hma) c4 (hr .val s X _ _ x h2)) fun _ => rfl
        · cases h
      · cases h
    · cases h
  · exact good_val x (comp_okE x hr h) fun _ => rfl
  · exact good_val x (dcomp_okE x hr h) fun _ => rfl
  · cases h
theorem chk_ok : ∀ n : Nat, RecOk T C (chk T n)
  | 0 => fun _ _ _ _ _ _ h => by cases h
  | n + 1 => step_ok (chk_ok n)
end
end A3

-- ChkS
set_option Elab.async false
set_option linter.all false
set_option maxRecDepth 100000
set_option maxHeartbeats 4000000
/-! ChkS: the checker of statements and defs, and the theorem about it. -/
namespace A3
open PySem PySem.Spec PyProof.Rows L2

mutual
/-- the slots that are read as values that stay -/
def E.vsl : E → List Nat
  | .c _ => []
  | .v i => [i]
  | .peek _ => []
  | .bin _ a b => a.vsl ++ b.vsl
  | .neg a => a.vsl
  | .cmp _ a b => a.vsl ++ b.vsl
  | .chain _ _ a b c => a.vsl ++ b.vsl ++ c.vsl
  | .and a b => a.vsl ++ b.vsl
  | .or a b => a.vsl ++ b.vsl
  | .not a => a.vsl
  | .ite t a b => t.vsl ++ a.vsl ++ b.vsl
  | .tup es => es.vsl
  | .lst es => es.vsl
  | .idx a i => a.vsl ++ i.vsl
  | .slc a l h => a.vsl ++ l.vsl ++ h.vsl
  | .call _ es => es.vsl
  | .b1 _ a => a.vsl
  | .isi a _ => a.vsl
  | .idxOf a b => a.vsl ++ b.vsl
  | .lenset a => a.vsl
  | .srtk _ a => a.vsl
  | .min2 a b => a.vsl ++ b.vsl
  | .dcomp _ _ it cd k el => it.vsl ++ cd.vsl ++ k.vsl ++ el.vsl
  | .comp _ _ it cd el => it.vsl ++ cd.vsl ++ el.vsl
  | .sset _ _ i1 _ i2 _ i3 el => i1.vsl ++ i2.vsl ++ i3.vsl ++ el.vsl
def Es.vsl : Es → List Nat
  | .nil => []
  | .cons e es => e.vsl ++ es.vsl
  | .star e es => e.vsl ++ es.vsl
def OE.vsl : OE → List Nat
  | .none => []
  | .some e => e.vsl
def It.vsl : A3.It → List Nat
  | .of e => e.vsl
  | .rng a => a.vsl
  | .rng2 a b => a.vsl ++ b.vsl
  | .enum e => e.vsl
  | .rev e => e.vsl
end
def dedup : List Nat → List Nat
  | [] => []
  | x :: xs => if xs.contains x then dedup xs else x :: dedup xs
def frzOf (T : Tb) (is : List Nat) : List Nat := dedup (is.filter fun i => T.own.contains i)

/-- a list that is new -/
def chkN (T : Tb) (r : Rec) (s : Scp) (e : Expr) : Option E :=
  match e with
  | .List es _ => if decide (es.length ≤ 1000) then (chkL r s es).map .lst else none
  | .BinOp a .Add b _ => match r .bor s a, r .bor s b with
    | some ma, some mb => some (.bin .add ma mb)
    | _, _ => none
  | .Call (.Name x _) [a] [] _ => if decide (x = "list") && freeB T s x && notStar a then (r .bor s a).map (.b1 .list) else none
  | .ListComp elt [⟨tg, iter, ifs, 0⟩] scope _ => chkComp T r s elt tg iter ifs scope
  | _ => none
/-- is the comprehension's value stored within its block: Name = [..] -/
def swC (s : Scp) (y : Str) (py : Pos) : Expr → Option Bool
  | .ListComp _ _ scope pos => some (decide (s.sc.names.lookup y = some .local) && (py.line == pos.line) && !(scope.names.any fun (n, k) => n == y && (k == .local || k == .cell)))
  | .SetComp .. => none
  | .DictComp .. => none
  | _ => some false
def isTupE : Expr → Bool
  | .Tuple .. => true
  | _ => false
def isListE : Expr → Bool
  | .List .. => true
  | _ => false
def noComp : Expr → Bool
  | .ListComp .. => false
  | .SetComp .. => false
  | .DictComp .. => false
  | _ => true
/-- name = e -/
def chkSet (T : Tb) (n : Nat) (s : Scp) (y : Str) (p : Pos) (e : Expr) : Option (List Nat × Stm) :=
  match slotOf T y, swC s y p e with
  | some i, some false => if decide (s.sc.names.lookup y = some .local) || (decide (s.sc.names.lookup y = some .cell) && s.fn y) then
      (if T.own.contains i then (match chkN T (chk T n) s e with
        | some m => some (frzOf T m.vsl, .mkl i m)
        | none => (chk T n .val s e).map fun m => (frzOf T m.vsl, .asg (.nm i) m))
      else (chk T n .val s e).map fun m => (frzOf T m.vsl, .asg (.nm i) m)) else none
  | some i, some true => (match e with
    | .ListComp elt [⟨tg, iter, ifs, 0⟩] scope _ => (chkComp T (chk T n) s elt tg iter ifs scope).map fun m => (frzOf T m.vsl, if T.own.contains i then .mkl i m else .asg (.nm i) m)
    | _ => none)
  | _, _ => none
/-- a case's pattern -/
def chkPt (T : Tb) (s : Scp) : Pattern → Option Pt
  | .MatchValue (.Constant c _ _) _ => (constPV c).map .val
  | .MatchOr ps _ => (altC ps).map .alt
  | .MatchAs none (some n) _ => if decide (s.sc.names.lookup n = some .local) then (slotOf T n).map .cap else none
  | .MatchAs none none _ => some .wild
  | _ => none
def lastStar : List Pattern → Option (List Pattern × Str × Pos)
  | [] => none
  | [.MatchStar (some n) sp] => some ([], n, sp)
  | p :: ps => (lastStar ps).map fun a => (p :: a.1, a.2)
theorem lastStar_ok : ∀ {ps qs : List Pattern} {n : Str} {sp : Pos}, lastStar ps = some (qs, n, sp) → ps = qs ++ [.MatchStar (some n) sp]
  | [], _, _, _, h => by cases h
  | p :: ps, qs, n, sp, h => by
    unfold lastStar at h
    split at h
    · rename_i e; cases e
    · rename_i e; cases e; cases h; rfl
    · rename_i e
      cases e
      obtain ⟨a, ha, e⟩ := Option.map_eq_some_iff.mp h
      obtain ⟨a1, a2, a3⟩ := a
      cases e
      rw [lastStar_ok ha]; rfl
def chkPat (T : Tb) (s : Scp) (p : Pattern) : Option Pat :=
  match p with
  | .MatchSequence ps _ => if decide (ps.findIdx? (·.isStar) = none) && !(ps.all fun p => p.isWildcard || (p.isStar && p.names.isEmpty)) then (mapL (chkPt T s) ps).map .seq else (match lastStar ps with
      | some (qs, n, _) => if decide (ps.findIdx? (·.isStar) = some qs.length) && (!(ps.all fun p => p.isWildcard || (p.isStar && p.names.isEmpty)) && decide (s.sc.names.lookup n = some .local)) then (match mapL (chkPt T s) qs, slotOf T n with
        | some ms, some i => if decide (ms.length ≠ 0) then some (.seqs ms i) else none
        | _, _ => none) else none
      | none => none)
  | p => (chkPt T s p).map .one
mutual
def chkSt (T : Tb) (s : Scp) : Nat → Stmt → Option (List Nat × Stm)
  | 0, _ => none
  | n + 1, st => match st with
    | .Return none _ => some ([], .ret (.c .non))
    | .Return (some e) _ => (chk T n .val s e).map fun m => (frzOf T m.vsl, .ret m)
    | .Expr e _ => match e with
      | .Constant (.str _) _ _ => some ([], .pass)
      | .Call (.Attribute (.Name x _) m apos) [a] [] cpos => if decide (m = "append") && notStar a && (apos.endLine == cpos.line) && plainName x then
          (match s.sc.names.lookup x with
          | some .local => (match slotOf T x, chk T n .val s a with
            | some i, some ma => some (frzOf T ma.vsl, .app i ma)
            | _, _ => none)
          | _ => none) else if decide (m = "extend") && notStar a && (apos.endLine == cpos.line) && plainName x then
          (match s.sc.names.lookup x with
          | some .local => (match slotOf T x, chk T n .val s a with
            | some i, some ma => some (frzOf T ma.vsl, .ext i ma)
            | _, _ => none)
          | _ => none) else none
      | _ => if noComp e then (chk T n .val s e).map fun m => (frzOf T m.vsl, .expr m) else none
    | .Assign [tg] e _ => match tg with
      | .Name y p => chkSet T n s y p e
      | .Subscript (.Name x _) k _ => if plainName x && notSlice k && noComp e then
          (match s.sc.names.lookup x with
          | some .local => (match slotOf T x, chk T n .val s k, chk T n .val s e with
            | some i, some mk, some m => some (frzOf T (mk.vsl ++ m.vsl), .seti i mk m)
            | _, _, _ => none)
          | _ => none) else none
      | .Tuple es k p => if !isTupE e && noComp e then (match chkTg T s 10 (.Tuple es k p), chk T n .val s e with
          | some t, some m => some (frzOf T m.vsl, .asg t m)
          | _, _ => none) else none
      | _ => none
    | .If c a b _ => match chk T n .tst s c, chkSts T s n a, chkSts T s n b with
      | some m, some ma, some mb => some (frzOf T m.vsl, .ife m ma mb)
      | _, _, _ => none
    | .For tg iter body [] _ => if notSet iter then (match chkIt T (chk T n) s tg iter, chkTg T s 10 tg, chkSts T s n body with
      | some it, some t, some mb => some (frzOf T it.vsl, .for_ t it mb)
      | _, _, _ => none) else none
    | .While c body [] _ => match chk T n .tst s c, chkSts T s n body with
      | some m, some mb => some (frzOf T m.vsl, .while_ m mb)
      | _, _ => none
    | .Pass _ => some ([], .pass)
    | .Break _ => some ([], .brk)
    | .Continue _ => some ([], .cnt)
    | .Match e cs _ => match chk T n .val s e, chkCases T s n cs with
      | some m, some mc => some (frzOf T m.vsl, .mtch m mc)
      | _, _ => none
    | _ => none
def chkCases (T : Tb) (s : Scp) : Nat → List MatchCase → Option Cases
  | 0, _ => none
  | n + 1, cs => match cs with
    | [] => some .nil
    | ⟨p, none, body⟩ :: rest => match chkPat T s p, chkSts T s n body, chkCases T s n rest with
      | some m, some b, some r => some (.cons m b r)
      | _, _, _ => none
    | _ => none
def chkSts (T : Tb) (s : Scp) : Nat → List Stmt → Option Stms
  | 0, _ => none
  | n + 1, sts => match sts with
    | [] => some .nil
    | st :: rest => match chkSt T s n st, chkSts T s n rest with
      | some (is, m), some ms => some (match is with
        | [] => .cons m ms
        | _ => .cons (.frz is) (.cons m ms))
      | none, some ms => some (.cons .nvr ms)
      | _, _ => none
end

section
variable {T : Tb} {C : Ctx} {X : Cx} {s : Scp} {r : Rec}
theorem chkN_ok (x : XOk T C s X) (hr : RecOk T C r) {e : Expr} {m : E} (h : chkN T r s e = some m) : PE X e (tN C m) := by
  unfold chkN at h
  split at h
  · split at h
    · rename_i hc
      rw [decide_eq_true_eq] at hc
      obtain ⟨ms, hms, rfl⟩ := Option.map_eq_some_iff.mp h
      obtain ⟨i1, i2⟩ := chkL_ok x hr hms
      exact simN_lst i1 (by omega)
    · cases h
  · split at h
    · rename_i ma mb h1 h2
      cases h
      exact simN_add x.hK (hr .bor s X _ ma x h1) (hr .bor s X _ mb x h2)
    · cases h
  · split at h
    · rename_i hc
      simp only [Bool.and_eq_true, decide_eq_true_eq] at hc
      obtain ⟨⟨e, c2⟩, c3⟩ := hc
      subst e
      obtain ⟨hg, hm⟩ := freeB_ok x c2
      obtain ⟨ma, hma, rfl⟩ := Option.map_eq_some_iff.mp h
      exact simN_list x.hK x.calm hg hm (hr .bor s X _ ma x hma) c3
    · cases h
  · exact comp_ok x hr h
  · cases h
theorem swC_false {y : Str} {py : Pos} {e : Expr} {l : Nat} (x : XOk T C s X) (h : swC s y py e = some false) : swapsWith e (some (.Name y py)) l X.env = pure false := by
  unfold swC at h
  split at h
  · rename_i elt gs scope pos
    have hb : X.env.blockKind = .function := by unfold Env.blockKind; rw [x.kind]; rfl
    have hk : X.env.kindOf y = s.sc.names.lookup y := by show X.env.scope.names.lookup y = _; rw [x.sc]
    unfold swapsWith
    simp only [hb, hk, Expr.pos]
    have h := Option.some.inj h
    have e : (s.sc.names.lookup y == some NameKind.local) = decide (s.sc.names.lookup y = some .local) := by
      cases s.sc.names.lookup y with
      | none => rfl
      | some k => cases k <;> rfl
    show pure _ = pure _
    rw [e]
    congr 1
  · cases h
  · cases h
  · rename_i n1 n2 n3
    cases e <;> first | rfl | exact absurd rfl (n1 _ _ _ _) | exact absurd rfl (n2 _ _ _ _) | exact absurd rfl (n3 _ _ _ _ _)
theorem asg_useN {m : E} {i : Nat} {D : Ends} {σ : L2.St} {H : Hp} (hl : ∀ ρ S p S', m.ev C.cf ρ S = .ok p S' → ∃ ps, p = .lst ps) (h : tS C (.asg (.nm i) m) D σ H) : tAsg (tN C m) (gName i) D σ H := by
  obtain ⟨He, We, W, ρ, x, sl, q⟩ := h
  refine ⟨W, ρ, x.wf, sl.sl, ?_⟩
  replace q : AfterS C He We W ((m.ev C.cf ρ W.S).st ρ fun x S => .nx (setS ρ i (.val x)) S) D := q
  cases hr : m.ev C.cf ρ W.S with
  | ok p S =>
    rw [hr] at q
    obtain ⟨ps, rfl⟩ := hl _ _ _ _ hr
    intro a xs H' W' y e f n h r z
    have y2 := y.freeze n f h
    refine q _ H' { W' with F := upd W'.F a (.lst xs) } (x.trans y2) y2.up e ?_
    exact (sl.ext y2).bound (t := .nm i) (p := .lst ps) rfl (butAt_set σ i _) ((sl.sl.ext y2).set (.lst (.inl (.inl upd_same)) (r.up (.freeze f)) z))
  | exc _ _ => rw [hr] at q; exact q.elim
  | bad => rw [hr] at q; exact q.elim
theorem set_ok (x : XOk T C s X) {n : Nat} {y : Str} {p pos : Pos} {e : Expr} {is : List Nat} {m : Stm} (h : chkSet T n s y p e = some (is, m)) : PS X (.Assign [.Name y p] e pos) (tS C m) := by
  unfold chkSet at h
  split at h
  · rename_i i hi hsw
    have hi := slotOf_ok hi
    rw [← x.N] at hi
    split at h
    · rename_i hc
      simp only [Bool.or_eq_true, Bool.and_eq_true, decide_eq_true_eq] at hc
      have hx : L2.Loc X.env.scope y := by rw [L2.Loc, x.sc]; exact hc.imp id fun z => z.1
      have hf : X.fn y = true ∨ X.env.scope.names.lookup y = some .local := by rw [x.sc, x.fn]; exact hc.symm.imp (fun z => z.2) id
      have hs : swapsWithSole [.Name y p] e pos.line X.env = pure false := swC_false (l := pos.line) x hsw
      have asg : ∀ {m}, chk T n .val s e = some m → PS X (.Assign [.Name y p] e pos) (tS C (.asg (.nm i) m)) := fun {m} hm =>
        simS_asg (chk_ok n .val s X e m x hm) (simG_nm x.nd hi hx hf) hs rfl rfl
      split at h
      · split at h
        · rename_i m' hm
          cases h
          exact simS_mkl x.nd hi hx hf (chkN_ok x (chk_ok n) hm) hs rfl rfl
        · obtain ⟨m', hm, e⟩ := Option.map_eq_some_iff.mp h
          cases e
          exact asg hm
      · obtain ⟨m', hm, e⟩ := Option.map_eq_some_iff.mp h
        cases e
        exact asg hm
    · cases h
  · rename_i i hi hsw
    have hi := slotOf_ok hi
    rw [← x.N] at hi
    split at h
    · rename_i elt tg iter ifs scope pos'
      obtain ⟨m', hm, e⟩ := Option.map_eq_some_iff.mp h
      unfold swC at hsw
      simp only [Option.some.injEq, Bool.and_eq_true, decide_eq_true_eq, Bool.not_eq_true'] at hsw
      obtain ⟨⟨c1, c2⟩, c3⟩ := hsw
      have hyl : X.env.scope.names.lookup y = some .local := by rw [x.sc]; exact c1
      obtain ⟨t, it, cd, el, rfl, hit, ok, hsub, hg, ht, he, hs⟩ := comp_okN (pos := pos') x (chk_ok n) hm
      have base := ps_setLc (i := i) (y := y) (py := p) (spos := pos) x.calm x.nd hi hyl (sw_true x.kind hyl c2 c3) hit ok hg ht he hs
      have base2 : PS X (.Assign [.Name y p] (.ListComp elt [⟨tg, iter, ifs, 0⟩] scope pos') pos) (tAsg (tN C (.comp ((ownOf T scope).map (·.2)) t it cd el)) (gName i)) :=
        base.weak fun D σ H ⟨W, ρ, wf, sl, q⟩ => ⟨W, ρ, wf, sl, (AfterN.bind (rel := fun W' (J : L2.It) (xs : List PV) => ItOk C W' J xs) q).mono fun J H1 ⟨xs, W1, x1, j, _, q1⟩ => fun D hD => comp_loop x1.wf (sl.ext x1) j hsub hD q1⟩
      split at e
      · cases e
        exact base2.weak fun D σ H h => mkl_use h
      · cases e
        exact base2.weak fun D σ H h => asg_useN (fun _ _ _ _ e => comp_lst e) h
    · cases h
  · cases h
theorem noComp_ok {e : Expr} (h : noComp e = true) (t : Option Expr) (l : Nat) (env : PySem.Env) : swapsWith e t l env = pure false := by
  cases e <;> first | rfl | cases h
theorem noComp_ok' {e : Expr} (h : noComp e = true) (t : Expr) (l : Nat) (env : PySem.Env) : swapsWithSole [t] e l env = pure false := noComp_ok h _ _ _
theorem swapped_none {e : Expr} (h : isTupE e = false) {es : List Expr} {k : Nat} {p : Pos} {env : PySem.Env} : swappedStores [.Tuple es k p] e env = pure none := by
  cases e <;> first | rfl | cases h
theorem chkPt_ok (x : XOk T C s X) {p : Pattern} {m : Pt} (h : chkPt T s p = some m) : PtRun X C p m.m ∧ p.isStar = false := by
  have hu := x.units
  unfold chkPt at h
  split at h
  · obtain ⟨q, hq, rfl⟩ := Option.map_eq_some_iff.mp h
    exact ⟨pt_value x.hK (by omega) hq, rfl⟩
  · obtain ⟨q, hq, rfl⟩ := Option.map_eq_some_iff.mp h
    exact ⟨pt_or x.hK (by omega) hq, rfl⟩
  · split at h
    · rename_i hl
      obtain ⟨i, hi, rfl⟩ := Option.map_eq_some_iff.mp h
      have hi := slotOf_ok hi
      rw [← x.N] at hi
      exact ⟨pt_cap hi (by rw [x.sc]; exact of_decide_eq_true hl), rfl⟩
    · cases h
  · cases h
    exact ⟨pt_wild, rfl⟩
  · cases h
theorem pts_ok (x : XOk T C s X) : ∀ {ps : List Pattern} {ms : List Pt}, mapL (chkPt T s) ps = some ms → PtsOk X C ps ms
  | [], ms, h => by cases h; exact .nil
  | p :: ps, ms, h => by
    unfold mapL at h
    split at h
    · rename_i y ys h1 h2
      cases h
      obtain ⟨a, b⟩ := chkPt_ok x h1
      exact .cons a b (pts_ok x h2)
    · cases h
theorem chkPat_ok (x : XOk T C s X) {p : Pattern} {m : Pat} (h : chkPat T s p = some m) : PtRun X C p m.m := by
  unfold chkPat at h
  split at h
  · split at h
    · rename_i hc
      rw [Bool.and_eq_true, decide_eq_true_eq, Bool.not_eq_true'] at hc
      obtain ⟨ms, hms, rfl⟩ := Option.map_eq_some_iff.mp h
      exact pt_seq x.hK x.calm (pts_ok x hms) hc.1 hc.2
    · split at h
      · rename_i qs n sp hq
        have e := lastStar_ok hq
        subst e
        split at h
        · rename_i hc
          simp only [Bool.and_eq_true, decide_eq_true_eq, Bool.not_eq_true'] at hc
          obtain ⟨c1, c2, c3⟩ := hc
          split at h
          · rename_i ms i hms hi
            split at h
            · rename_i h0
              cases h
              have hi := slotOf_ok hi
              rw [← x.N] at hi
              exact pt_seqs x.hK x.calm (pts_ok x hms) (of_decide_eq_true h0) hi (by rw [x.sc]; exact c3) c1 c2
            · cases h
          · cases h
        · cases h
      · cases h
  · obtain ⟨q, hq, rfl⟩ := Option.map_eq_some_iff.mp h
    exact (chkPt_ok x hq).1
mutual
theorem chkSt_ok (x : XOk T C s X) : ∀ {n : Nat} {st : Stmt} {is : List Nat} {m : Stm}, chkSt T s n st = some (is, m) → PS X st (tS C m)
  | 0, _, _, _, h => by cases h
  | n + 1, st, is, m, h => by
    have hp : PassesOwn (model X.prog X.w) X.A X.env X.xe := by rw [x.xe]; exact PassesOwn.never
    unfold chkSt at h
    split at h
    · cases h; exact simS_retN
    · obtain ⟨m', hm, e⟩ := Option.map_eq_some_iff.mp h
      cases e
      exact simS_ret (chk_ok n .val s X _ m' x hm)
    · split at h
      · cases h; exact simS_doc
      · split at h
        · rename_i y yp name apos a cpos hc
          simp only [Bool.and_eq_true, decide_eq_true_eq] at hc
          obtain ⟨⟨⟨e, c2⟩, c3⟩, c4⟩ := hc
          subst e
          obtain ⟨p1, p2, p3⟩ := plainName_ok c4
          split at h
          · rename_i hl
            split at h
            · rename_i i ma h1 h2
              cases h
              have hi := slotOf_ok h1
              rw [← x.N] at hi
              exact simS_app x.hK hi (by rw [Vis, x.sc]; exact .inl hl) p1 p2 (chk_ok n .val s X _ ma x h2) c2 c3
            · cases h
          · cases h
        · split at h
          · rename_i hc
            simp only [Bool.and_eq_true, decide_eq_true_eq] at hc
            obtain ⟨⟨⟨e, c2⟩, c3⟩, c4⟩ := hc
            subst e
            obtain ⟨p1, p2, p3⟩ := plainName_ok c4
            split at h
            · rename_i hl
              split at h
              · rename_i i ma h1 h2
                cases h
                have hi := slotOf_ok h1
                rw [← x.N] at hi
                exact simS_ext x.hK hi (by rw [Vis, x.sc]; exact .inl hl) p1 p2 (chk_ok n .val s X _ ma x h2) c2 c3
              · cases h
            · cases h
          · cases h
      · split at h
        · rename_i hc
          obtain ⟨m', hm, e⟩ := Option.map_eq_some_iff.mp h
          cases e
          exact simS_expr (chk_ok n .val s X _ m' x hm) (noComp_ok hc _ _ _)
        · cases h
    · split at h
      · exact set_ok x h
      · split at h
        · rename_i y yp k tp hc
          simp only [Bool.and_eq_true] at hc
          obtain ⟨⟨c1, c2⟩, c3⟩ := hc
          obtain ⟨p1, p2, p3⟩ := plainName_ok c1
          split at h
          · rename_i hl
            split at h
            · rename_i i mk m' h1 h2 h3
              cases h
              have hi := slotOf_ok h1
              rw [← x.N] at hi
              exact simS_seti hi (by rw [Vis, x.sc]; exact .inl hl) p1 p2 (chk_ok n .val s X _ m' x h3) (chk_ok n .val s X _ mk x h2) (fun v => by cases k <;> first | rfl | cases c2) (noComp_ok' c3 _ _ _) rfl
            · cases h
          · cases h
        · cases h
      · split at h
        · rename_i hc
          rw [Bool.and_eq_true, Bool.not_eq_true'] at hc
          split at h
          · rename_i t m' h1 h2
            cases h
            exact simS_asg (chk_ok n .val s X _ m' x h2) (tg_ok x h1).1 (noComp_ok' hc.2 _ _ _) (swapped_none hc.1) rfl
          · cases h
        · cases h
      · cases h
    · split at h
      · rename_i m' ma mb h1 h2 h3
        cases h
        exact simS_ife (chk_ok n .tst s X _ m' x h1) (chkSts_ok x h2) (chkSts_ok x h3)
      · cases h
    · split at h
      · rename_i hc
        split at h
        · rename_i it t mb h1 h2 h3
          cases h
          exact simS_for hp x.calm (it_ok x (chk_ok n) h1) (tg_ok x h2).1 (chkSts_ok x h3) (folded_ok hc _)
        · cases h
      · cases h
    · split at h
      · rename_i m' mb h1 h2
        cases h
        exact simS_while hp (chk_ok n .tst s X _ m' x h1) (chkSts_ok x h2)
      · cases h
    · cases h; exact simS_pass
    · cases h; exact simS_brk
    · cases h; exact simS_cnt
    · split at h
      · rename_i m' mc h1 h2
        cases h
        exact simS_match x.nd (chk_ok n .val s X _ m' x h1) (chkCases_ok x h2)
      · cases h
    · cases h
theorem chkCases_ok (x : XOk T C s X) : ∀ {n : Nat} {cs : List MatchCase} {ms : Cases}, chkCases T s n cs = some ms → CasesOk X C cs ms
  | 0, _, _, h => by cases h
  | n + 1, cs, ms, h => by
    unfold chkCases at h
    split at h
    · cases h; exact .nil
    · split at h
      · rename_i m b r h1 h2 h3
        cases h
        exact .cons (chkPat_ok x h1) (chkSts_ok x h2) (chkCases_ok x h3)
      · cases h
    · cases h
theorem chkSts_ok (x : XOk T C s X) : ∀ {n : Nat} {sts : List Stmt} {ms : Stms}, chkSts T s n sts = some ms → PSs X sts (tSs C ms)
  | 0, _, _, h => by cases h
  | n + 1, sts, ms, h => by
    unfold chkSts at h
    split at h
    · cases h; exact simSs_nil
    · split at h
      · rename_i is m ms' h1 h2
        cases h
        have base := simSs_cons (chkSt_ok x h1) (chkSts_ok x h2)
        split
        · exact base
        · exact simSs_frz base
      · rename_i ms' h1 h2
        cases h
        exact simSs_cons simS_nvr (chkSts_ok x h2)
      · cases h
end
end
end A3

-- Glue
set_option Elab.async false
set_option linter.all false
set_option maxRecDepth 100000
set_option maxHeartbeats 4000000
/-! Glue: a law's table; all its defs keep their promises; the head's facts. -/
namespace A3
open PySem PySem.Spec PyProof.Rows L2

/-! ### binding -/
theorem zip_some : ∀ (ps : List Str) (us : List Value) (n : Str), us.length = ps.length → n ∈ ps → ((ps.zip us).lookup n).isNone = false
  | [], _, _, _, h => by cases h
  | p :: ps, [], _, h, _ => by cases h
  | p :: ps, u :: us, n, hl, h => by
    rw [List.zip_cons_cons, List.lookup_cons]
    cases hb : n == p with
    | true => rfl
    | false =>
      rcases List.mem_cons.mp h with e | h
      · subst e; simp at hb
      · exact zip_some ps us n (by simpa using hl) h
theorem fmap_congr {α β : Type} {f g : α → Option β} : ∀ (l : List α), (∀ x ∈ l, f x = g x) → l.filterMap f = l.filterMap g
  | [], _ => rfl
  | x :: l, h => by
    rw [List.filterMap_cons, List.filterMap_cons, h x List.mem_cons_self, fmap_congr l fun y hy => h y (List.mem_cons_of_mem _ hy)]
theorem zip_back : ∀ (ps : List Str) (us : List Value), ps.Nodup → us.length = ps.length → ps.filterMap (fun n => ((ps.zip us).lookup n).map fun x => (n, x)) = ps.zip us
  | [], us, _, _ => by simp
  | p :: ps, [], _, h => by cases h
  | p :: ps, u :: us, nd, hl => by
    rw [List.zip_cons_cons, List.filterMap_cons, List.lookup_cons, beq_self_eq_true]
    simp only [Option.map_some]
    congr 1
    have nd' := List.nodup_cons.mp nd
    refine Eq.trans (fmap_congr ps fun n hn => ?_) (zip_back ps us nd'.2 (by simpa using hl))
    rw [List.lookup_cons]
    have : (n == p) = false := by
      cases hb : n == p with
      | false => rfl
      | true => rw [beq_iff_eq.mp hb] at hn; exact absurd hn nd'.1
    rw [this]
theorem bind_simple {x qual : Str} {as : List Arg} {body : List Stmt} {scope : Scope} (kV doc pm : Value) (an : Option Addr) (cdv ct : Value) (us : List Value) (nd : (as.map (·.arg)).Nodup) (h : us.length = as.length) :
    bindArgs (PySem.W.fnOf x qual ⟨[], as, none, [], [], none, []⟩ body scope .none kV doc pm an cdv ct) ⟨us, []⟩ = pure ((as.map (·.arg)).zip us) := by
  have hm : (List.filter (fun n => ((List.zip (as.map (·.arg)) us).lookup n).isNone) (as.map (·.arg))) = [] := by
    rw [List.filter_eq_nil_iff]
    intro n hn
    rw [zip_some _ _ _ (by simpa using h) hn]
    decide
  have e1 : notAStandIn Value.none = pure () := rfl
  have ez := zip_back (as.map (·.arg)) us nd (by simpa using h)
  have ht : List.take as.length (List.map (fun x => x.arg) as) = List.map (fun x => x.arg) as := List.take_of_length_le (by simp)
  unfold bindArgs
  simp only [PySem.W.fnOf, List.map_nil, List.nil_append, List.forIn_nil, pure_bind, seqItems?, Option.getD_none, List.length_map, h, e1]
  rw [List.filterMap_map] at ez
  simp [hm, ht, ez]
def argNames : Arguments → Option (List Str)
  | ⟨[], as, none, [], [], none, []⟩ => some (as.map (·.arg))
  | _ => none
theorem argNames_bind {params : Arguments} {ps : List Str} (h : argNames params = some ps) (nd : ps.Nodup) {x qual : Str} {body : List Stmt} {scope : Scope} (kV doc pm : Value) (an : Option Addr) (cdv ct : Value) (us : List Value) (hl : us.length = ps.length) :
    bindArgs (PySem.W.fnOf x qual params body scope .none kV doc pm an cdv ct) ⟨us, []⟩ = pure (ps.zip us) := by
  unfold argNames at h
  split at h
  · cases h
    exact bind_simple kV doc pm an cdv ct us nd (by simpa using hl)
  · cases h

/-! ### constants of the module -/
mutual
def pvB (K : PySem.W.Frag) : PV → Value → Bool
  | .non, .none => true
  | .bl b, .bool c => b == c
  | .int i, .int j _ => decide (i = j)
  | .str s, .str y _ => txOk s && decide (y = toStr s)
  | .tup ps, .ref a => (match K.lookup a with
    | some ⟨.type c, _, .seq its _, _⟩ => decide (c = "tuple") && (decide (its.size ≤ sizeLine) && (decide (ps.length ≤ sizeLine) && pvLB K ps its.toList))
    | _ => false)
  | _, _ => false
def pvLB (K : PySem.W.Frag) : List PV → List Value → Bool
  | [], [] => true
  | p :: ps, u :: us => pvB K p u && pvLB K ps us
  | _, _ => false
end
mutual
theorem pvB_ok {K : PySem.W.Frag} {fa : Fa} : ∀ {p : PV} {u : Value}, pvB K p u = true → ∃ v, RelV v u ∧ ∀ W : Wd, Rep K fa W v p
  | .non, .none, _ => ⟨.non, rfl, fun _ => .non⟩
  | .bl b, .bool c, h => by
    have e : b = c := by simpa [pvB] using h
    subst e
    exact ⟨.bl b, rfl, fun _ => .bl b⟩
  | .int i, .int j t, h => by
    have e : i = j := by simpa [pvB] using h
    subst e
    exact ⟨.int i, ⟨t, rfl⟩, fun _ => .int i⟩
  | .str s, .str y t, h => by
    unfold pvB at h
    rw [Bool.and_eq_true, decide_eq_true_eq] at h
    obtain ⟨h1, rfl⟩ := h
    exact ⟨.str (toStr s), ⟨t, rfl⟩, fun _ => .str s h1⟩
  | .tup ps, .ref a, h => by
    unfold pvB at h
    cases q : K.lookup a with
    | none => rw [q] at h; cases h
    | some o =>
      obtain ⟨oc, od, dt, osl⟩ := o
      rw [q] at h
      cases oc with
      | type c =>
        cases dt with
        | seq its n =>
          simp only [Bool.and_eq_true, decide_eq_true_eq] at h
          obtain ⟨h1, h2, h3, h4⟩ := h
          obtain ⟨vs, r1, r2⟩ := pvLB_ok (fa := fa) h4
          exact ⟨.ref a, rfl, fun W => .tup (.inr ⟨_, its, n, q, congrArg Value.type h1, rfl, h2, r1⟩) (r2 W) h3⟩
        | _ => cases h
      | _ => cases dt <;> cases h
  | .non, .bool _, h | .non, .int _ _, h | .non, .str _ _, h | .non, .ref _, h => by cases h
theorem pvLB_ok {K : PySem.W.Frag} {fa : Fa} : ∀ {ps : List PV} {us : List Value}, pvLB K ps us = true → ∃ vs, Vals vs us ∧ ∀ W : Wd, RepL K fa W vs ps
  | [], [], _ => ⟨[], .nil, fun _ => .nil⟩
  | [], _ :: _, h => by cases h
  | _ :: _, [], h => by cases h
  | p :: ps, u :: us, h => by
    unfold pvLB at h
    rw [Bool.and_eq_true] at h
    obtain ⟨v, a1, a2⟩ := pvB_ok (fa := fa) h.1
    obtain ⟨vs, b1, b2⟩ := pvLB_ok (fa := fa) h.2
    exact ⟨v :: vs, .cons a1 b1, fun W => .cons (a2 W) (b2 W)⟩
end

/-! ### a law's table -/
structure Row where
  nm : Str
  f : FN
  ix : Nat
  k : Nat
  N : List Str
  own : List Nat
structure LawT where
  prog : Program
  rows : List Row
  free : List Str
  cons : List (Str × PV)
abbrev dArgs : Stmt → Arguments
  | .FunctionDef (args := a) .. => a
  | _ => ⟨[], [], none, [], [], none, []⟩
abbrev dBody : Stmt → List Stmt
  | .FunctionDef (body := b) .. => b
  | _ => []
abbrev dScope : Stmt → Scope
  | .FunctionDef (scope := s) .. => s
  | _ => ⟨.function, [], false, false, []⟩
def LawT.fns (L : LawT) : List (Str × FN × Nat) := L.rows.map fun r => (r.nm, r.f, r.k)
def LawT.gls (L : LawT) : List (Str × PV) := L.cons ++ L.rows.map fun r => (r.nm, .fn r.f [])
def LawT.tb (L : LawT) (r : Row) : Tb := ⟨r.N, L.fns, L.free, L.gls, r.own⟩
def LawT.nmOf (L : LawT) (f : FN) : Option Str := (L.rows.find? fun r => decide (r.f = f)).map (·.nm)
def LawT.fa (L : LawT) (K : PySem.W.Frag) (f : FN) : Addr := match L.nmOf f with
  | some x => He.ga K x
  | none => 0
abbrev LawT.fw (L : LawT) (K : PySem.W.Frag) (w : World) : Fa := ⟨L.fa K, w⟩
def LawT.st (L : LawT) (r : Row) : Stmt := L.prog.main.body.getD r.ix (.Pass ⟨0, 0, 0, 0⟩)
def scB (N P : List Str) (sc : Scope) : Bool :=
  decide (sc.kind = .function) && (!sc.isCoroutine && (!sc.isGenerator && (decide N.Nodup && (decide (N.take P.length = P) && (P.all (fun x => decide (sc.names.lookup x = some .local) || decide (sc.names.lookup x = some .cell)) && sc.names.all (fun y => !decide (y.2 = .free)))))))
theorem scB_ok {N P : List Str} {sc : Scope} (h : scB N P sc = true) : FnScope N P sc := by
  unfold scB at h
  simp only [Bool.and_eq_true, Bool.not_eq_true', decide_eq_true_eq, List.all_eq_true, Bool.or_eq_true, decide_eq_false_iff_not] at h
  obtain ⟨h1, h2, h3, h4, h5, h6, h7⟩ := h
  exact ⟨h1, h2, h3, h4, h5, h6, h7⟩
def chkRow (L : LawT) (r : Row) : Option FDef :=
  let st := L.st r
  if decide (argNames (dArgs st) = some (r.N.take r.k)) && (decide (r.k ≤ r.N.length) && scB r.N (r.N.take r.k) (dScope st)) then
    (chkSts (L.tb r) ⟨dScope st, fun _ => true⟩ 60 (dBody st)).map fun b => ⟨r.k, r.N.length, b⟩
  else none
/-! ### the head's facts -/
def LawT.dd (L : LawT) (r : Row) : He.DefD := ⟨(r.nm, none), r.nm, r.nm, dArgs (L.st r), dBody (L.st r), dScope (L.st r), [], []⟩
def LawT.dds (L : LawT) : List He.DefD := L.rows.map L.dd
def LawT.fs (L : LawT) : List He.Fa := (L.rows.map fun r => .glo r.nm) ++ L.free.map .free
def gloB (K : PySem.W.Frag) (x : Str) (p : PV) : Bool := match PySem.W.nsIn K mainGlobals x with
  | some (some u) => pvB K p u
  | _ => false
abbrev AlP : Type := He.AlD × Bool
def LawT.obs (L : LawT) (K : PySem.W.Frag) : AlP := (He.obsD L.fs L.dds K, L.cons.all fun c => gloB K c.1 c.2)
def LawT.val (L : LawT) : AlP := (He.valD L.dds, true)
def LawT.obsG (L : LawT) (n : Nat) (g : Addr → Option Obj) : AlP := L.obs (He.frG g (He.asD g n))
def LawT.hook (L : LawT) (n : Nat) : PySem.W.Hook where
  α := AlP
  obs := fun s => L.obsG n s.heap.get?
  val := fun _ => L.val
  says := fun _ h => ∃ K : PySem.W.Frag, K.In h ∧ L.obs K = L.val
  of := fun _ _ e => ⟨_, He.frG_in, e⟩
  keeps := fun _ _ _ ⟨K, hK, c⟩ k => ⟨K, PySem.W.Frag.In.keeps hK k, c⟩
theorem LawT.obsG_eq {L : LawT} {n : Nat} {g : Addr → Option Obj} {s : Shared} (h : ∀ a, g a = s.heap.get? a) : L.obsG n g = (L.hook n).obs s := by
  have e : g = s.heap.get? := funext h
  rw [e] <;> rfl
section
variable {L : LawT} {K : PySem.W.Frag}
theorem LawT.saysD (c : L.obs K = L.val) : He.SaysD L.fs L.dds K := congrArg (fun z : AlP => z.1) c
theorem LawT.fact (c : L.obs K = L.val) {f : He.Fa} (h : f ∈ L.fs) : f.ok K = true := by
  obtain ⟨i, hi⟩ := List.getElem?_of_mem h
  exact (LawT.saysD c).fact i hi
theorem LawT.con (c : L.obs K = L.val) {x : Str} {p : PV} (h : (x, p) ∈ L.cons) : gloB K x p = true := by
  have e : (L.cons.all fun c => gloB K c.1 c.2) = true := congrArg (fun z : AlP => z.2) c
  exact List.all_eq_true.mp e (x, p) h
theorem LawT.def_ (c : L.obs K = L.val) {r : Row} (h : r ∈ L.rows) : ∃ fd, FunD K r.nm r.nm (dArgs (L.st r)) (dBody (L.st r)) (dScope (L.st r)) [] [] (He.ga K r.nm) fd := by
  have hm : L.dd r ∈ L.dds := List.mem_map.mpr ⟨r, h, rfl⟩
  obtain ⟨i, hi⟩ := List.getElem?_of_mem hm
  exact (LawT.saysD c).def_ i hi
/-- the tables are sound: each def's form is the one told, each def has one row -/
structure LawT.Ok (L : LawT) (G : FN → Option FDef) : Prop where
  forms : L.rows.map (chkRow L) = L.rows.map fun r => G r.f
  some_ : (L.rows.all fun r => (G r.f).isSome) = true
  one : (L.rows.all fun r => decide (L.nmOf r.f = some r.nm)) = true
theorem LawT.Ok.form {G : FN → Option FDef} (o : L.Ok G) {r : Row} (h : r ∈ L.rows) : ∃ d, G r.f = some d ∧ chkRow L r = some d := by
  obtain ⟨d, hd⟩ := Option.isSome_iff_exists.mp (List.all_eq_true.mp o.some_ r h)
  obtain ⟨i, hi⟩ := List.getElem?_of_mem h
  have e := congrArg (·[i]?) o.forms
  simp only [List.getElem?_map, hi, Option.map_some] at e
  exact ⟨d, hd, (Option.some.inj e).trans hd⟩
theorem LawT.Ok.faOf {G : FN → Option FDef} (o : L.Ok G) {r : Row} (h : r ∈ L.rows) : L.fa K r.f = He.ga K r.nm := by
  unfold LawT.fa
  rw [of_decide_eq_true (List.all_eq_true.mp o.one r h)]
theorem mem_lk {α : Type} : ∀ {l : List (Str × α)} {x : Str} {y : α}, l.lookup x = some y → (x, y) ∈ l := fun h => PySem.mem_of_lookup h
variable {P : Program} {w : World} {mg : Str → Option Value} {base : Heap} {G : FN → Option FDef}
/-- ALL DEFS KEEP THEIR PROMISES -/
theorem LawT.all_ok (o : L.Ok G) (c : L.obs K = L.val) (KX : K.In base) (Gn : base.Ns mainGlobals mg) : ∀ (n : Nat) (r : Row), r ∈ L.rows →
    ∃ fd, FunD K r.nm r.nm (dArgs (L.st r)) (dBody (L.st r)) (dScope (L.st r)) [] [] (He.ga K r.nm) fd ∧ FnOk P w K mg base CX0 (2 * n) (L.fa K r.f) fd (r.N.take r.k) (spC ⟨K, L.fw K w, callN G n⟩ r.f)
  | 0, r, h => by
    obtain ⟨fd, F⟩ := LawT.def_ c h
    exact ⟨fd, F, ⟨fun vs H Q E ⟨W, ps, wf, rr, q⟩ => q.elim, fun A outer s H args us vs Q E hr he hb hv ⟨W, ps, wf, rr, q⟩ => q.elim⟩⟩
  | n + 1, r, h => by
    obtain ⟨fd, F⟩ := LawT.def_ c h
    obtain ⟨d, hG, hd⟩ := o.form h
    refine ⟨fd, F, ?_⟩
    have hfa := o.faOf (K := K) h
    unfold chkRow at hd
    simp only at hd
    split at hd
    · rename_i hc
      simp only [Bool.and_eq_true, decide_eq_true_eq] at hc
      obtain ⟨c1, c2, c3⟩ := hc
      obtain ⟨b, hb, rfl⟩ := Option.map_eq_some_iff.mp hd
      have S := scB_ok c3
      rw [← hfa] at F
      refine fn_sim (fa := L.fw K w) (k := 2 * n + 1) F S hG (by show r.k = _; rw [List.length_take]; omega) rfl fun cdv A outer s H E hr => ?_
      refine chkSts_ok (C := ⟨K, L.fw K w, callN G n⟩) (X := (cxOf CX0 P w K mg base r.N r.nm (dScope (L.st r)) (L.fa K r.f) cdv A outer s H E).nox) ⟨rfl, rfl, rfl, S.nd, rfl, S.kind, ?_, rfl, rfl, fun x f k hx => ?_, fun x hx => He.free_ok KX Gn (LawT.fact c (List.mem_append_right _ (List.mem_map.mpr ⟨x, hx, rfl⟩))), fun x p hx => ?_, rfl⟩ hb
      · have := hr.un
        show (A.deeper (envOfC r.nm (dScope (L.st r)) s.heap.objs.size ((L.fw K w).f r.f) cdv)).units + 66 < cLine
        omega
      · obtain ⟨r2, h2, e⟩ := List.mem_map.mp (mem_lk hx)
        cases e
        obtain ⟨fd2, F2, ok2⟩ := LawT.all_ok o c KX Gn n r2 h2
        obtain ⟨d2, hG2, hd2⟩ := o.form h2
        have hfa2 := o.faOf (K := K) h2
        unfold chkRow at hd2
        simp only at hd2
        split at hd2
        · rename_i hc2
          simp only [Bool.and_eq_true, decide_eq_true_eq] at hc2
          have S2 := scB_ok hc2.2.2
          refine ⟨2 * n, fd2, r2.N.take r2.k, ok2, hr, ?_, ?_, ?_, by rw [List.length_take]; omega⟩
          · show mg r2.nm = some (.ref (L.fa K r2.f))
            rw [hfa2]
            exact He.glo_ok KX Gn (LawT.fact c (List.mem_append_left _ (List.mem_map.mpr ⟨r2, h2, rfl⟩)))
          · show PySem.W.keepIn K (.ref (L.fa K r2.f)) = true
            rw [hfa2]; exact F2.kp
          · exact F2.bindsN fun kV doc pm an cdv ct us hl => argNames_bind hc2.1 (S2.nd.sublist (List.take_sublist _ _)) kV doc pm an cdv ct us hl
        · cases hd2
      · rcases List.mem_append.mp (mem_lk hx) with hm | hm
        · have z := LawT.con c hm
          unfold gloB at z
          split at z
          · rename_i u hu
            obtain ⟨v, h1, h2⟩ := pvB_ok (fa := L.fw K w) z
            exact ⟨u, v, PySem.W.mg_of KX Gn hu, h1, h2⟩
          · cases z
        · obtain ⟨r2, h2, e⟩ := List.mem_map.mp hm
          cases e
          refine ⟨.ref (L.fa K r2.f), .ref (L.fa K r2.f), ?_, rfl, fun W => .fn r2.f⟩
          show mg r2.nm = _
          rw [o.faOf h2]
          exact He.glo_ok KX Gn (LawT.fact c (List.mem_append_left _ (List.mem_map.mpr ⟨r2, h2, rfl⟩)))
    · cases hd
/-- the law's def, as the head asks it -/
theorem LawT.law_facts (o : L.Ok G) {r : Row} (h : r ∈ L.rows) (hk : r.k = 1) {x : Str} (hN : r.N.take 1 = [x]) {n most : Nat} (hl : ∀ ns : List Int, ns.length ≤ most → callN G n r.f [.lst (ns.map .int)] [] = .ok (.bl true) []) (hm : most ≤ sizeLine)
    {hp : Heap} {f : Addr} (Y : ∃ K : PySem.W.Frag, K.In hp ∧ L.obs K = L.val) (Gn : hp.Ns mainGlobals mg) (hmg : mg r.nm = some (.ref f)) :
    ∃ (K : PySem.W.Frag) (fd : FuncData) (sp : Sp), K.In hp ∧ (∀ (s : Shared) (u : Value), BindsTo s fd ⟨[u], []⟩ [(x, u)]) ∧
      (∀ (H : Hp) (a : Addr) (ns : List Int), ns.length ≤ most → Only H → SqL K H a (ns.map V.int) → sp [.ref a] H (fun v _ => v = .bl true) fun _ _ _ => False) ∧
      ∀ base : Heap, K.In base → base.Ns mainGlobals mg → FnOk P w K mg base CX0 (2 * n) f fd [x] sp := by
  obtain ⟨K, KX, c⟩ := Y
  have e0 : f = L.fa K r.f := by
    have z := He.glo_ok KX Gn (LawT.fact c (List.mem_append_left _ (List.mem_map.mpr ⟨r, h, rfl⟩)))
    rw [hmg] at z
    rw [o.faOf h]
    exact Value.ref.inj (Option.some.inj z)
  obtain ⟨fd, F⟩ := LawT.def_ c h
  obtain ⟨d, hG, hd⟩ := o.form h
  unfold chkRow at hd
  simp only at hd
  split at hd
  · rename_i hc
    simp only [Bool.and_eq_true, decide_eq_true_eq] at hc
    have S := scB_ok hc.2.2
    have b := FunD.bindsA (ps := [x]) F fun kV doc pm an cdv ct us hl => argNames_bind (by rw [hc.1, hk, hN]) (by simp) kV doc pm an cdv ct us hl
    refine ⟨K, fd, spC ⟨K, L.fw K w, callN G n⟩ r.f, KX, fun s u => b s [u] rfl, fun H a ns hz hO hS => ?_, fun base KB GB => ?_⟩
    · have hint : ∀ ns : List Int, RepL K (L.fw K w) ⟨H, [], []⟩ (ns.map V.int) (ns.map PV.int) := fun ns => by
        induction ns with
        | nil => exact .nil
        | cons i is ih => exact .cons (.int i) ih
      refine ⟨⟨H, [], []⟩, [.lst (ns.map .int)], ⟨fun _ _ e => e, rfl⟩, .one (.lst hS (hint ns) (by rw [List.length_map]; omega)), ?_⟩
      show After _ _ _ (callN G n r.f [.lst (ns.map .int)] []) _
      rw [hl ns hz]
      exact fun v H' W' _ _ rr => rr.bl_inv
    · obtain ⟨fd2, F2, ok2⟩ := LawT.all_ok (P := P) (w := w) o c KB GB n r h
      have efd : fd2 = fd := by
        obtain ⟨_, _, _, _, _, _, _, _, _, _, e1, l1, _⟩ := F.ex
        obtain ⟨_, _, _, _, _, _, _, _, _, _, e2, l2, _⟩ := F2.ex
        rw [l1] at l2
        cases l2
        rfl
      rw [e0, ← efd]
      have e3 : r.N.take r.k = [x] := by rw [hk, hN]
      rw [e3] at ok2
      exact ok2
  · cases hd
end
end A3

-- PureA
set_option linter.all false
set_option maxRecDepth 100000
/-! PureA: plain lemmas about the evaluator. -/
namespace A3
theorem callN_eq (G : FN → Option FDef) (n : Nat) (f : FN) (xs : List PV) (S : Store) {d : FDef} (h : G f = some d) : callN G (n + 1) f xs S = d.run (callN G n) xs S := by
  show (match G f with | some d => d.run (callN G n) xs S | none => .bad) = _
  rw [h]
@[simp] theorem R.bind_ok' {α β : Type} (a : α) (S : Store) (f : α → Store → R β) : (R.ok a S).bind f = f a S := rfl
@[simp] theorem R.of_some {α : Type} (a : α) (S : Store) : R.of (some a) S = .ok a S := rfl
@[simp] theorem R.st_ok (a : PV) (S : Store) (ρ : Env) (f : PV → Store → RS) : (R.ok a S).st ρ f = f a S := rfl
/-- a def's end -/
def RS.fin : RS → R PV
  | .rt p S => .ok p S
  | .nx _ S => .ok .non S
  | .ex x _ S => .exc x S
  | _ => .bad
theorem run_eq (d : FDef) (cf : CallF) (xs : List PV) (S : Store) (h : xs.length = d.npar) : d.run cf xs S = (d.body.ev cf (xs.map (fun x => some (.val x)) ++ List.replicate (d.nslot - d.npar) none) S).fin := by
  unfold FDef.run
  rw [if_pos h]
  unfold RS.fin
  rfl
/-! ### the evaluator's equations, one a form (but comprehensions) -/
section
variable {cf : CallF} {ρ : Env} {S : Store}
theorem ev_c (p : PV) : (E.c p).ev cf ρ S = .ok p S := rfl
theorem ev_v (i : Nat) : (E.v i).ev cf ρ S = match ρ[i]? with
    | some (some (.val p)) => .ok p S
    | _ => .bad := rfl
theorem ev_peek (i : Nat) : (E.peek i).ev cf ρ S = match ρ[i]? with
    | some (some c) => .ok c.pv S
    | _ => .bad := rfl
theorem ev_bin (o : BO) (a b : E) : (E.bin o a b).ev cf ρ S = (a.ev cf ρ S).bind fun x S => (b.ev cf ρ S).bind fun y S => R.of (o.ev x y) S := rfl
theorem ev_neg (a : E) : (E.neg a).ev cf ρ S = (a.ev cf ρ S).bind fun x S => match x with
    | .int i => .ok (.int (-i)) S
    | _ => .bad := rfl
theorem ev_cmp (o : CO) (a b : E) : (E.cmp o a b).ev cf ρ S = (a.ev cf ρ S).bind fun x S => (b.ev cf ρ S).bind fun y S => R.of ((o.ev x y).map .bl) S := rfl
theorem ev_chain (o o' : CO) (a b c : E) : (E.chain o o' a b c).ev cf ρ S = (a.ev cf ρ S).bind fun x S => (b.ev cf ρ S).bind fun y S => (R.of (o.ev x y) S).bind fun k S =>
      if k then (c.ev cf ρ S).bind fun z S => R.of ((o'.ev y z).map .bl) S else .ok (.bl false) S := rfl
theorem ev_and (a b : E) : (E.and a b).ev cf ρ S = (a.ev cf ρ S).bind fun x S => (R.of x.truth S).bind fun k S => if k then b.ev cf ρ S else .ok x S := rfl
theorem ev_or (a b : E) : (E.or a b).ev cf ρ S = (a.ev cf ρ S).bind fun x S => (R.of x.truth S).bind fun k S => if k then .ok x S else b.ev cf ρ S := rfl
theorem ev_not (a : E) : (E.not a).ev cf ρ S = (a.ev cf ρ S).bind fun x S => (R.of x.truth S).bind fun k S => .ok (.bl !k) S := rfl
theorem ev_ite (t a b : E) : (E.ite t a b).ev cf ρ S = (t.ev cf ρ S).bind fun x S => (R.of x.truth S).bind fun k S => if k then a.ev cf ρ S else b.ev cf ρ S := rfl
theorem ev_tup (es : Es) : (E.tup es).ev cf ρ S = (es.ev cf ρ S).bind fun xs S => .ok (.tup xs) S := rfl
theorem ev_lst (es : Es) : (E.lst es).ev cf ρ S = (es.ev cf ρ S).bind fun xs S => .ok (.lst xs) S := rfl
theorem ev_idx (a i : E) : (E.idx a i).ev cf ρ S = (a.ev cf ρ S).bind fun x S => (i.ev cf ρ S).bind fun y S => R.of (idxEv x y) S := rfl
theorem ev_slc (a : E) (lo hi : OE) : (E.slc a lo hi).ev cf ρ S = (a.ev cf ρ S).bind fun x S => (lo.ev cf ρ S).bind fun l S => (hi.ev cf ρ S).bind fun h S => R.of (slcEv x l h) S := rfl
theorem ev_call (f : FN) (es : Es) : (E.call f es).ev cf ρ S = (es.ev cf ρ S).bind fun xs S => cf f xs S := rfl
theorem ev_b1 (f : B1) (a : E) : (E.b1 f a).ev cf ρ S = (a.ev cf ρ S).bind fun x S => R.of (f.ev x) S := rfl
theorem ev_isi (a : E) (t : Ty) : (E.isi a t).ev cf ρ S = (a.ev cf ρ S).bind fun x S => R.of ((t.ev x).map .bl) S := rfl
theorem es_nil : Es.nil.ev cf ρ S = .ok [] S := rfl
theorem es_cons (e : E) (es : Es) : (Es.cons e es).ev cf ρ S = (e.ev cf ρ S).bind fun x S => (es.ev cf ρ S).bind fun xs S => .ok (x :: xs) S := rfl
theorem stms_nil : Stms.nil.ev cf ρ S = .nx ρ S := rfl
theorem stms_nx {s : Stm} {ss : Stms} {ρ1 : Env} {S1 : Store} (h : s.ev cf ρ S = .nx ρ1 S1) : (Stms.cons s ss).ev cf ρ S = ss.ev cf ρ1 S1 := by
  show (match s.ev cf ρ S with
    | .nx ρ S => ss.ev cf ρ S
    | r => r) = _
  rw [h]
theorem stms_rt {s : Stm} {ss : Stms} {p : PV} {S1 : Store} (h : s.ev cf ρ S = .rt p S1) : (Stms.cons s ss).ev cf ρ S = .rt p S1 := by
  show (match s.ev cf ρ S with
    | .nx ρ S => ss.ev cf ρ S
    | r => r) = _
  rw [h]
def Stms.take : Nat → Stms → Stms
  | n + 1, .cons s ss => .cons s (ss.take n)
  | _, _ => .nil
def Stms.drop : Nat → Stms → Stms
  | n + 1, .cons s ss => ss.drop n
  | _, ss => ss
theorem stms_part (n : Nat) : ∀ (ss : Stms) {ρ : Env} {S : Store} {ρ1 : Env} {S1 : Store}, (ss.take n).ev cf ρ S = .nx ρ1 S1 → ss.ev cf ρ S = (ss.drop n).ev cf ρ1 S1 := by
  induction n with
  | zero =>
    intro ss ρ S ρ1 S1 h
    have : RS.nx ρ S = .nx ρ1 S1 := by cases ss <;> exact h
    cases this
    cases ss <;> rfl
  | succ n ih =>
    intro ss ρ S ρ1 S1 h
    cases ss with
    | nil => cases h; rfl
    | cons s ss =>
      replace h : (match s.ev cf ρ S with
        | .nx ρ S => (ss.take n).ev cf ρ S
        | r => r) = .nx ρ1 S1 := h
      show (match s.ev cf ρ S with
        | .nx ρ S => ss.ev cf ρ S
        | r => r) = (ss.drop n).ev cf ρ1 S1
      cases hs : s.ev cf ρ S with
      | nx ρ2 S2 => rw [hs] at h; exact ih ss h
      | rt _ _ => rw [hs] at h; cases h
      | ex _ _ _ => rw [hs] at h; cases h
      | bk _ _ => rw [hs] at h; cases h
      | ct _ _ => rw [hs] at h; cases h
      | bad => rw [hs] at h; cases h
theorem stm_asg {t : Tg} {e : E} {p : PV} {S1 : Store} {ρ1 : Env} (h : e.ev cf ρ S = .ok p S1) (hb : t.bind p ρ = some ρ1) : (Stm.asg t e).ev cf ρ S = .nx ρ1 S1 := by
  show (e.ev cf ρ S).st ρ _ = _
  rw [h]
  show (match t.bind p ρ with | some ρ => RS.nx ρ S1 | none => .bad) = _
  rw [hb]
theorem stm_mkl {i : Nat} {e : E} {ps : List PV} {S1 : Store} (h : e.ev cf ρ S = .ok (.lst ps) S1) : (Stm.mkl i e).ev cf ρ S = .nx (setS ρ i (.ol ps)) S1 := by
  show (e.ev cf ρ S).st ρ _ = _
  rw [h]; rfl
theorem stm_app {i : Nat} {e : E} {p : PV} {ps : List PV} {S1 : Store} (h : e.ev cf ρ S = .ok p S1) (ho : ρ[i]? = some (some (.ol ps))) (hl : ps.length < 16777216) : (Stm.app i e).ev cf ρ S = .nx (setS ρ i (.ol (ps ++ [p]))) S1 := by
  show (e.ev cf ρ S).st ρ _ = _
  rw [h]
  show (match ρ[i]? with
      | some (some (.ol xs)) => if xs.length < lineN then RS.nx (setS ρ i (.ol (xs ++ [p]))) S1 else .bad
      | _ => .bad) = _
  rw [ho]
  exact if_pos hl
theorem stm_if {t : E} {a b : Stms} {p : PV} {k : Bool} {S1 : Store} (h : t.ev cf ρ S = .ok p S1) (hk : p.truth = some k) : (Stm.ife t a b).ev cf ρ S = if k then a.ev cf ρ S1 else b.ev cf ρ S1 := by
  show (t.ev cf ρ S).st ρ _ = _
  rw [h]
  show (match p.truth with
      | some true => a.ev cf ρ S1
      | some false => b.ev cf ρ S1
      | none => .bad) = _
  rw [hk]
  cases k <;> rfl
theorem stm_for {t : Tg} {it : It} {b : Stms} {xs : List PV} {S1 : Store} (h : it.ev cf ρ S = .ok xs S1) : (Stm.for_ t it b).ev cf ρ S = forL t (fun ρ S => b.ev cf ρ S) xs ρ S1 := by
  show (match it.ev cf ρ S with
    | .ok xs S => forL t (fun ρ S => b.ev cf ρ S) xs ρ S
    | .exc x S => .ex x ρ S
    | .bad => .bad) = _
  rw [h]
theorem stm_ret {e : E} {p : PV} {S1 : Store} (h : e.ev cf ρ S = .ok p S1) : (Stm.ret e).ev cf ρ S = .rt p S1 := by
  show (e.ev cf ρ S).st ρ _ = _
  rw [h]; rfl
end
/-! ### comprehensions -/
theorem compL_map {f : PV → Store → R (List PV)} {g : PV → List PV} {S : Store} : ∀ (xs : List PV), (∀ x ∈ xs, f x S = .ok (g x) S) → compL f xs S = .ok (xs.flatMap g) S
  | [], _ => rfl
  | x :: xs, h => by
    unfold compL
    rw [h x List.mem_cons_self]
    show (compL f xs S).bind _ = _
    rw [compL_map xs fun y hy => h y (List.mem_cons_of_mem _ hy)]
    rfl
theorem compL_of {α : Type} {f : PV → Store → R (List PV)} (p : α → PV) (g : α → List PV) {S : Store} : ∀ (xs : List α), (∀ x ∈ xs, f (p x) S = .ok (g x) S) → compL f (xs.map p) S = .ok (xs.flatMap g) S
  | [], _ => rfl
  | x :: xs, h => by
    rw [List.map_cons]
    unfold compL
    rw [h x List.mem_cons_self]
    show (compL f (xs.map p) S).bind _ = _
    rw [compL_of p g xs fun y hy => h y (List.mem_cons_of_mem _ hy)]
    rfl
/-- [h x for x in ..] -/
theorem compL_map1 {α : Type} {f : PV → Store → R (List PV)} (p h : α → PV) {S : Store} (xs : List α) (H : ∀ x ∈ xs, f (p x) S = .ok [h x] S) : compL f (xs.map p) S = .ok (xs.map h) S := by
  rw [compL_of p (fun x => [h x]) xs H]
  congr 1
  induction xs with
  | nil => rfl
  | cons x xs ih => simp [List.flatMap_cons, ih fun y hy => H y (List.mem_cons_of_mem _ hy)]
/-- [h x for x in .. if c x] -/
theorem compL_if {α : Type} {f : PV → Store → R (List PV)} (p h : α → PV) (c : α → Bool) {S : Store} (xs : List α) (H : ∀ x ∈ xs, f (p x) S = .ok (if c x then [h x] else []) S) : compL f (xs.map p) S = .ok ((xs.filter c).map h) S := by
  rw [compL_of p (fun x => if c x then [h x] else []) xs H]
  congr 1
  induction xs with
  | nil => rfl
  | cons x xs ih =>
    rw [List.flatMap_cons, ih fun y hy => H y (List.mem_cons_of_mem _ hy), List.filter_cons]
    cases c x <;> rfl
/-! ### loops -/
theorem forL_inv {tg : Tg} {f : Env → Store → RS} {S : Store} (P : Nat → Env → Prop) : ∀ (xs : List PV) (i : Nat) (ρ : Env), P i ρ →
    (∀ j x ρ, xs[j]? = some x → P (i + j) ρ → ∃ ρ1 ρ2, tg.bind x ρ = some ρ1 ∧ (f ρ1 S = .nx ρ2 S ∨ f ρ1 S = .ct ρ2 S) ∧ P (i + j + 1) ρ2) → ∃ ρ', forL tg f xs ρ S = .nx ρ' S ∧ P (i + xs.length) ρ'
  | [], i, ρ, h, _ => ⟨ρ, rfl, h⟩
  | x :: xs, i, ρ, h, step => by
    obtain ⟨ρ1, ρ2, h1, h2, h3⟩ := step 0 x ρ rfl h
    obtain ⟨ρ', h4, h5⟩ := forL_inv P xs (i + 1) ρ2 h3 fun j y ρ hy hp => by
      have := step (j + 1) y ρ (by simpa using hy) (by rw [show i + (j + 1) = i + 1 + j by omega]; exact hp)
      rw [show i + (j + 1) + 1 = i + 1 + j + 1 by omega] at this
      exact this
    refine ⟨ρ', ?_, by rw [List.length_cons, show i + (xs.length + 1) = i + 1 + xs.length by omega]; exact h5⟩
    unfold forL
    rw [h1]
    rcases h2 with h2 | h2 <;> (simp only [h2]; exact h4)
/-- a loop that folds a state -/
theorem forL_fold {α : Type} {tg : Tg} {f : Env → Store → RS} {S : Store} (E : α → Env → Prop) (g : α → PV → α) : ∀ (xs : List PV) (a : α) (ρ : Env), E a ρ →
    (∀ x ∈ xs, ∀ a ρ, E a ρ → ∃ ρ1 ρ2, tg.bind x ρ = some ρ1 ∧ (f ρ1 S = .nx ρ2 S ∨ f ρ1 S = .ct ρ2 S) ∧ E (g a x) ρ2) → ∃ ρ', forL tg f xs ρ S = .nx ρ' S ∧ E (xs.foldl g a) ρ'
  | [], a, ρ, h, _ => ⟨ρ, rfl, h⟩
  | x :: xs, a, ρ, h, step => by
    obtain ⟨ρ1, ρ2, h1, h2, h3⟩ := step x List.mem_cons_self a ρ h
    obtain ⟨ρ', h4, h5⟩ := forL_fold E g xs (g a x) ρ2 h3 fun y hy => step y (List.mem_cons_of_mem _ hy)
    refine ⟨ρ', ?_, h5⟩
    unfold forL
    rw [h1]
    rcases h2 with h2 | h2 <;> (simp only [h2]; exact h4)
/-! ### values -/
def prs (ps : List (Int × Int)) : List PV := ps.map fun p => .tup [.int p.1, .int p.2]
theorem allInts_of (is : List Int) : allInts (is.map .int) = some is := by
  induction is with
  | nil => rfl
  | cons i is ih => simp [allInts, ih]
theorem allBools_of (is : List Bool) : allBools (is.map .bl) = some is := by
  induction is with
  | nil => rfl
  | cons i is ih => simp [allBools, ih]
theorem ixOf_nat {n k : Nat} (h : k < n) : ixOf n (k : Int) = some k := by
  unfold ixOf
  rw [if_pos (by omega), if_pos (by omega)]
  simp
theorem ixOf_last {n : Nat} (h : 0 < n) : ixOf n (-1) = some (n - 1) := by
  unfold ixOf
  rw [if_neg (by omega), if_pos (by omega)]
  congr 1
  omega
theorem idx_lst {xs : List PV} {k : Nat} {x : PV} (h : xs[k]? = some x) : idxEv (.lst xs) (.int k) = some x := by
  have hk := (List.getElem?_eq_some_iff.mp h).1
  show (ixOf xs.length (k : Int)).bind _ = _
  rw [ixOf_nat hk]; exact h
theorem idx_tup {xs : List PV} {k : Nat} {x : PV} (h : xs[k]? = some x) : idxEv (.tup xs) (.int k) = some x := by
  have hk := (List.getElem?_eq_some_iff.mp h).1
  show (ixOf xs.length (k : Int)).bind _ = _
  rw [ixOf_nat hk]; exact h
theorem idx_last {xs : List PV} (h : xs ≠ []) : idxEv (.lst xs) (.int (-1)) = some (xs.getLast h) := by
  have hl : 0 < xs.length := List.length_pos_iff.mpr h
  show (ixOf xs.length (-1)).bind _ = _
  rw [ixOf_last hl]
  show xs[xs.length - 1]? = _
  rw [List.getLast_eq_getElem]
  exact List.getElem?_eq_getElem _
theorem add_int (a b : Int) : BO.ev .add (.int a) (.int b) = some (.int (a + b)) := rfl
theorem sub_int (a b : Int) : BO.ev .sub (.int a) (.int b) = some (.int (a - b)) := rfl
theorem mul_int {a b : Int} (h : smallI b = true) : BO.ev .mul (.int a) (.int b) = some (.int (a * b)) := by
  show (if smallI a || smallI b then some (PV.int (a * b)) else none) = _
  rw [h, Bool.or_true, if_pos rfl]
theorem mod_int {a b : Int} (h : decide (0 < b) = true) : BO.ev .mod (.int a) (.int b) = some (.int (a % b)) := by
  show (if 0 < b then some (PV.int (a % b)) else none) = _
  rw [if_pos (of_decide_eq_true h)]
theorem fdiv_int {a b : Int} (h : decide (0 < b ∧ b < 1073741824) = true) : BO.ev .fdiv (.int a) (.int b) = some (.int (a / b)) := by
  show (if 0 < b ∧ b < 1073741824 then some (PV.int (a / b)) else none) = _
  rw [if_pos (of_decide_eq_true h)]
theorem pow_int {a b : Int} (h : (decide (0 ≤ b ∧ b ≤ 1000) && smallI a) = true) : BO.ev .pow (.int a) (.int b) = some (.int (a ^ b.toNat)) := by
  rw [Bool.and_eq_true, decide_eq_true_eq] at h
  show (if 0 ≤ b ∧ b ≤ 1000 ∧ smallI a then some (PV.int (a ^ b.toNat)) else none) = _
  rw [if_pos ⟨h.1.1, h.1.2, h.2⟩]
theorem len_lst (xs : List PV) : B1.ev .len (.lst xs) = some (.int xs.length) := rfl
theorem len_tup (xs : List PV) : B1.ev .len (.tup xs) = some (.int xs.length) := rfl
theorem list_lst (xs : List PV) : B1.ev .list (.lst xs) = some (.lst xs) := rfl
theorem list_tup (xs : List PV) : B1.ev .list (.tup xs) = some (.lst xs) := rfl
theorem tuple_lst (xs : List PV) : B1.ev .tuple (.lst xs) = some (.tup xs) := rfl
theorem tuple_tup (xs : List PV) : B1.ev .tuple (.tup xs) = some (.tup xs) := rfl
theorem int_int (a : Int) : B1.ev .int (.int a) = some (.int a) := rfl
theorem addL {a b : List PV} (h : decide (a.length + b.length ≤ 16777216) = true := by rfl) : BO.ev .add (.lst a) (.lst b) = some (.lst (a ++ b)) := by
  show (if a.length + b.length ≤ lineN then some (PV.lst (a ++ b)) else none) = _
  exact if_pos (of_decide_eq_true h)
theorem idx2_0 (a b : PV) : idxEv (.tup [a, b]) (.int 0) = some a := rfl
theorem idx2_1 (a b : PV) : idxEv (.tup [a, b]) (.int 1) = some b := rfl
theorem upto0 (n : Nat) : upto 0 n = (List.range n).map fun (k : Nat) => PV.int k := by
  unfold upto
  congr 1
  funext k
  simp
end A3

-- DefsA
set_option maxRecDepth 100000
/-! the own forms of the defs (printed by Print.lean), and their table -/
namespace A3
def d_is_number : FDef := ⟨2, 2, (.cons (.ret (.and (.isi (.peek 0) .int) (.and (.not (.isi (.peek 0) .bool)) (.chain .le .le (.c (.int 0)) (.peek 0) (.peek 1))))) .nil)⟩
def d_is_day : FDef := ⟨1, 1, (.cons (.ret (.call .is_number (.cons (.v 0) (.cons (.bin .sub (.c (.int 10000)) (.c (.int 1))) .nil)))) .nil)⟩
def d_are_days : FDef := ⟨2, 2, (.cons (.ret (.and (.call .is_day (.cons (.v 0) .nil)) (.and (.call .is_number (.cons (.v 1) (.cons (.c (.int 10000)) .nil))) (.cmp .lt (.peek 0) (.peek 1))))) .nil)⟩
def d_is_pair : FDef := ⟨1, 1, (.cons (.ret (.and (.isi (.peek 0) .tuple) (.and (.cmp .eq (.b1 .len (.peek 0)) (.c (.int 2))) (.call .are_days (.cons (.idx (.peek 0) (.c (.int 0))) (.cons (.idx (.peek 0) (.c (.int 1))) .nil)))))) .nil)⟩
def d_are_spans : FDef := ⟨1, 3, (.cons (.ife (.or (.not (.isi (.peek 0) .tuple)) (.not (.b1 .all (.comp [2] (.nm 2) (.of (.v 0)) .none (.call .is_pair (.cons (.v 2) .nil)))))) (.cons (.ret (.c (.bl false))) .nil) .nil) (.cons (.ret (.b1 .all (.comp [1] (.nm 1) (.rng (.bin .sub (.b1 .len (.peek 0)) (.c (.int 1)))) .none (.cmp .lt (.idx (.idx (.peek 0) (.v 1)) (.c (.int 1))) (.idx (.idx (.peek 0) (.bin .add (.peek 1) (.c (.int 1)))) (.c (.int 0))))))) .nil))⟩
def d_holds : FDef := ⟨2, 4, (.cons (.ret (.b1 .any (.comp [2, 3] (.tp [(.nm 2), (.nm 3)]) (.of (.v 0)) .none (.chain .le .lt (.peek 2) (.peek 1) (.peek 3))))) .nil)⟩
def d_points_of : FDef := ⟨1, 4, (.cons (.ret (.sset [1, 2, 3] (.nm 1) (.of (.v 0)) (.nm 2) (.of (.v 1)) (.nm 3) (.of (.v 2)) (.v 3))) .nil)⟩
def b_joined_1 : Stms := (.cons (.ife (.and (.peek 1) (.cmp .eq (.idx (.idx (.peek 1) (.neg (.c (.int 1)))) (.c (.int 1))) (.peek 2))) (.cons (.seti 1 (.neg (.c (.int 1))) (.tup (.cons (.idx (.idx (.peek 1) (.neg (.c (.int 1)))) (.c (.int 0))) (.cons (.v 3) .nil)))) .nil) (.cons (.app 1 (.tup (.cons (.v 2) (.cons (.v 3) .nil)))) .nil)) .nil)
def d_joined : FDef := ⟨1, 4, (.cons (.mkl 1 (.lst .nil)) (.cons (.for_ (.tp [(.nm 2), (.nm 3)]) (.of (.v 0)) b_joined_1) (.cons (.ret (.b1 .tuple (.peek 1))) .nil)))⟩
def d_pieces : FDef := ⟨1, 2, (.cons (.ret (.comp [1] (.nm 1) (.rng (.bin .sub (.b1 .len (.peek 0)) (.c (.int 1)))) .none (.tup (.cons (.idx (.peek 0) (.v 1)) (.cons (.idx (.peek 0) (.bin .add (.peek 1) (.c (.int 1)))) .nil))))) .nil)⟩
def d_unite : FDef := ⟨2, 4, (.cons (.asg (.nm 2) (.call .pieces (.cons (.call .points_of (.cons (.lst (.cons (.v 0) (.cons (.v 1) .nil))) .nil)) .nil))) (.cons (.ret (.call .joined (.cons (.comp [3] (.nm 3) (.of (.v 2)) (.some (.or (.call .holds (.cons (.v 0) (.cons (.idx (.peek 3) (.c (.int 0))) .nil))) (.call .holds (.cons (.v 1) (.cons (.idx (.peek 3) (.c (.int 0))) .nil))))) (.v 3)) .nil))) .nil))⟩
def d_meet : FDef := ⟨2, 4, (.cons (.asg (.nm 2) (.call .pieces (.cons (.call .points_of (.cons (.lst (.cons (.v 0) (.cons (.v 1) .nil))) .nil)) .nil))) (.cons (.ret (.call .joined (.cons (.comp [3] (.nm 3) (.of (.v 2)) (.some (.and (.call .holds (.cons (.v 0) (.cons (.idx (.peek 3) (.c (.int 0))) .nil))) (.call .holds (.cons (.v 1) (.cons (.idx (.peek 3) (.c (.int 0))) .nil))))) (.v 3)) .nil))) .nil))⟩
def d_less : FDef := ⟨2, 4, (.cons (.asg (.nm 2) (.call .pieces (.cons (.call .points_of (.cons (.lst (.cons (.v 0) (.cons (.v 1) .nil))) .nil)) .nil))) (.cons (.ret (.call .joined (.cons (.comp [3] (.nm 3) (.of (.v 2)) (.some (.and (.call .holds (.cons (.v 0) (.cons (.idx (.peek 3) (.c (.int 0))) .nil))) (.not (.call .holds (.cons (.v 1) (.cons (.idx (.peek 3) (.c (.int 0))) .nil)))))) (.v 3)) .nil))) .nil))⟩
def b_law_draws_1 : Stms := (.cons (.ife (.cmp .gt (.peek 3) (.c (.int 0))) (.cons (.app 2 (.bin .mod (.b1 .int (.peek 3)) (.c (.int 1000)))) (.cons (.asg (.nm 3) (.bin .fdiv (.peek 3) (.c (.int 1000)))) .nil)) .nil) .nil)
def b_law_draws_2 : Stms := (.cons (.asg (.nm 4) (.bin .mod (.b1 .int (.bin .add (.bin .add (.bin .mul (.peek 4) (.c (.int 48271))) (.bin .mul (.peek 5) (.c (.int 69621)))) (.c (.int 7)))) (.c (.int 2147483647)))) (.cons (.ife (.cmp .lt (.b1 .len (.peek 2)) (.peek 1)) (.cons (.app 2 (.bin .mod (.b1 .int (.bin .mod (.b1 .int (.bin .add (.bin .mul (.peek 4) (.c (.int 69621))) (.c (.int 5)))) (.c (.int 2147483629)))) (.c (.int 1000)))) .nil) .nil) .nil))
def d_law_draws : FDef := ⟨2, 6, (.cons (.mkl 2 (.lst .nil)) (.cons (.asg (.nm 3) (.b1 .int (.peek 0))) (.cons (.ife (.cmp .ge (.peek 3) (.bin .pow (.c (.int 10)) (.c (.int 18)))) (.cons (.for_ (.nm 5) (.rng (.v 1)) b_law_draws_1) .nil) .nil) (.cons (.asg (.nm 4) (.bin .mod (.b1 .int (.bin .add (.bin .mul (.b1 .int (.peek 0)) (.c (.int 48271))) (.c (.int 11)))) (.c (.int 2147483647)))) (.cons (.for_ (.nm 5) (.rng (.v 1)) b_law_draws_2) (.cons (.frz [2]) (.cons (.ret (.v 2)) .nil)))))))⟩
def b_law_same_1 : Stms := (.cons (.ife (.not (.call .law_same (.cons (.idx (.peek 0) (.v 2)) (.cons (.idx (.peek 1) (.v 2)) .nil)))) (.cons (.ret (.c (.bl false))) .nil) .nil) .nil)
def d_law_same : FDef := ⟨2, 3, (.cons (.ife (.cmp .is (.peek 1) (.c .non)) (.cons (.ret (.cmp .is (.peek 0) (.c .non))) .nil) .nil) (.cons (.ife (.cmp .is (.peek 1) (.c (.bl true))) (.cons (.ret (.cmp .is (.peek 0) (.c (.bl true)))) .nil) .nil) (.cons (.ife (.cmp .is (.peek 1) (.c (.bl false))) (.cons (.ret (.cmp .is (.peek 0) (.c (.bl false)))) .nil) .nil) (.cons (.ife (.isi (.peek 1) .int) (.cons (.ret (.and (.isi (.peek 0) .int) (.and (.not (.isi (.peek 0) .bool)) (.cmp .eq (.peek 0) (.peek 1))))) .nil) .nil) (.cons (.ife (.isi (.peek 1) .str) (.cons (.ret (.and (.isi (.peek 0) .str) (.cmp .eq (.peek 0) (.peek 1)))) .nil) .nil) (.cons (.ife (.and (.isi (.peek 1) .tuple) (.not (.isi (.peek 0) .tuple))) (.cons (.ret (.c (.bl false))) .nil) .nil) (.cons (.ife (.and (.isi (.peek 1) .list) (.not (.isi (.peek 0) .list))) (.cons (.ret (.c (.bl false))) .nil) .nil) (.cons (.ife (.cmp .ne (.b1 .len (.peek 0)) (.b1 .len (.peek 1))) (.cons (.ret (.c (.bl false))) .nil) .nil) (.cons (.for_ (.nm 2) (.rng (.b1 .len (.peek 1))) b_law_same_1) (.cons (.ret (.c (.bl true))) .nil))))))))))⟩
def d_law_points : FDef := ⟨0, 0, (.cons (.ret (.lst (.cons (.c (.int 0)) (.cons (.c (.int 1)) (.cons (.c (.int 2)) (.cons (.c (.int 3)) (.cons (.c (.int 4)) (.cons (.c (.int 7)) (.cons (.c (.int 9998)) (.cons (.c (.int 9999)) (.cons (.c (.int 10000)) .nil))))))))))) .nil)⟩
def b_law_spans_1 : Stms := (.cons (.ife (.idx (.peek 0) (.v 3)) (.cons (.ife (.and (.cmp .gt (.peek 3) (.c (.int 0))) (.idx (.peek 0) (.bin .sub (.peek 3) (.c (.int 1))))) (.cons (.seti 2 (.neg (.c (.int 1))) (.tup (.cons (.idx (.idx (.peek 2) (.neg (.c (.int 1)))) (.c (.int 0))) (.cons (.idx (.peek 1) (.bin .add (.peek 3) (.c (.int 1)))) .nil)))) .nil) (.cons (.app 2 (.tup (.cons (.idx (.peek 1) (.v 3)) (.cons (.idx (.peek 1) (.bin .add (.peek 3) (.c (.int 1)))) .nil)))) .nil)) .nil) .nil) .nil)
def d_law_spans : FDef := ⟨1, 4, (.cons (.asg (.nm 1) (.call .law_points .nil)) (.cons (.mkl 2 (.lst .nil)) (.cons (.for_ (.nm 3) (.rng (.c (.int 8))) b_law_spans_1) (.cons (.ret (.b1 .tuple (.peek 2))) .nil))))⟩
def d_law_set : FDef := ⟨1, 3, (.cons (.asg (.nm 1) (.call .law_draws (.cons (.v 0) (.cons (.c (.int 9)) .nil)))) (.cons (.ret (.comp [2] (.nm 2) (.of (.slc (.peek 1) .none (.some (.c (.int 8))))) .none (.cmp .eq (.bin .mod (.b1 .int (.peek 2)) (.c (.int 2))) (.c (.int 1))))) .nil))⟩
def b_law_k41_1 : Stms := (.cons (.ife (.not (.call .law_same (.cons (.lst (.cons (.call .holds (.cons (.v 5) (.cons (.idx (.peek 1) (.v 9)) .nil))) (.cons (.call .holds (.cons (.v 5) (.cons (.bin .sub (.idx (.peek 1) (.bin .add (.peek 9) (.c (.int 1)))) (.c (.int 1))) .nil))) .nil))) (.cons (.lst (.cons (.idx (.peek 3) (.v 9)) (.cons (.idx (.peek 3) (.v 9)) .nil))) .nil)))) (.cons (.ret (.c (.bl false))) .nil) .nil) .nil)
def b_law_k41_2 : Stms := (.cons (.asg (.nm 3) (.call .law_set (.cons (.v 2) .nil))) (.cons (.asg (.nm 4) (.call .law_set (.cons (.bin .add (.b1 .int (.peek 2)) (.c (.int 1))) .nil))) (.cons (.asg (.nm 5) (.call .law_spans (.cons (.v 3) .nil))) (.cons (.asg (.nm 6) (.call .law_spans (.cons (.v 4) .nil))) (.cons (.asg (.nm 7) (.lst (.cons (.call .unite (.cons (.v 5) (.cons (.v 6) .nil))) (.cons (.call .meet (.cons (.v 5) (.cons (.v 6) .nil))) (.cons (.call .less (.cons (.v 5) (.cons (.v 6) .nil))) (.cons (.call .less (.cons (.c (.tup [(.tup [(.int 0), (.int 10000)])])) (.cons (.v 5) .nil))) (.cons (.call .unite (.cons (.v 5) (.cons (.c (.tup [])) .nil))) .nil))))))) (.cons (.mkl 8 (.lst (.cons (.call .law_spans (.cons (.comp [9] (.nm 9) (.rng (.c (.int 8))) .none (.or (.idx (.peek 3) (.v 9)) (.idx (.peek 4) (.v 9)))) .nil)) (.cons (.call .law_spans (.cons (.comp [9] (.nm 9) (.rng (.c (.int 8))) .none (.and (.idx (.peek 3) (.v 9)) (.idx (.peek 4) (.v 9)))) .nil)) .nil)))) (.cons (.app 8 (.call .law_spans (.cons (.comp [9] (.nm 9) (.rng (.c (.int 8))) .none (.and (.idx (.peek 3) (.v 9)) (.not (.idx (.peek 4) (.v 9))))) .nil))) (.cons (.mkl 8 (.bin .add (.peek 8) (.lst (.cons (.call .law_spans (.cons (.comp [9] (.nm 9) (.rng (.c (.int 8))) .none (.not (.idx (.peek 3) (.v 9)))) .nil)) (.cons (.v 5) .nil))))) (.cons (.frz [8]) (.cons (.ife (.or (.not (.call .law_same (.cons (.v 7) (.cons (.v 8) .nil)))) (.not (.call .law_same (.cons (.comp [10] (.nm 10) (.of (.v 7)) .none (.call .are_spans (.cons (.v 10) .nil))) (.cons (.lst (.cons (.c (.bl true)) (.cons (.c (.bl true)) (.cons (.c (.bl true)) (.cons (.c (.bl true)) (.cons (.c (.bl true)) .nil)))))) .nil))))) (.cons (.ret (.c (.bl false))) .nil) .nil) (.cons (.for_ (.nm 9) (.rng (.c (.int 8))) b_law_k41_1) .nil)))))))))))
def d_law_k41 : FDef := ⟨1, 11, (.cons (.asg (.nm 1) (.call .law_points .nil)) (.cons (.ife (.not (.call .law_same (.cons (.lst (.cons (.c (.int 10000)) (.cons (.c (.tup [])) (.cons (.c (.tup [(.tup [(.int 0), (.int 10000)])])) .nil)))) (.cons (.lst (.cons (.c (.int 10000)) (.cons (.tup .nil) (.cons (.tup (.cons (.tup (.cons (.c (.int 0)) (.cons (.c (.int 10000)) .nil))) .nil)) .nil)))) .nil)))) (.cons (.ret (.c (.bl false))) .nil) .nil) (.cons (.for_ (.nm 2) (.of (.bin .add (.lst (.cons (.c (.int 0)) (.cons (.c (.int 1)) (.cons (.c (.int 2)) .nil)))) (.b1 .list (.peek 0)))) b_law_k41_2) (.cons (.ret (.c (.bl true))) .nil))))⟩
def b_law_k42_1 : Stms := (.cons (.asg (.nm 9) (.bin .add (.peek 9) (.lst (.cons (.idx (.peek 10) (.c (.int 0))) (.cons (.idx (.peek 10) (.c (.int 1))) .nil))))) .nil)
def b_law_k42_2 : Stms := (.cons (.asg (.nm 5) (.call .law_set (.cons (.v 4) .nil))) (.cons (.asg (.nm 6) (.call .law_spans (.cons (.v 5) .nil))) (.cons (.asg (.nm 7) (.call .law_spans (.cons (.call .law_set (.cons (.bin .add (.b1 .int (.peek 4)) (.c (.int 1))) .nil)) .nil))) (.cons (.mkl 8 (.lst (.cons (.bin .add (.peek 6) (.tup (.cons (.tup (.cons (.c (.int 3)) (.cons (.c (.int 3)) .nil))) .nil))) (.cons (.bin .add (.peek 6) (.tup (.cons (.tup (.cons (.neg (.c (.int 1))) (.cons (.c (.int 5)) .nil))) .nil))) (.cons (.bin .add (.peek 6) (.tup (.cons (.tup (.cons (.c (.int 5)) (.cons (.c (.int 10001)) .nil))) .nil))) (.cons (.bin .add (.peek 6) (.tup (.cons (.lst (.cons (.c (.int 9999)) (.cons (.c (.int 10000)) .nil))) .nil))) (.cons (.bin .add (.peek 6) (.tup (.cons (.tup (.cons (.c (.int 4)) (.cons (.c (.int 2)) .nil))) .nil))) .nil))))))) (.cons (.mkl 8 (.bin .add (.peek 8) (.lst (.cons (.b1 .list (.peek 6)) (.cons (.bin .add (.peek 6) (.tup (.cons (.tup (.cons (.c (.bl true)) (.cons (.c (.int 7)) .nil))) .nil))) (.cons (.bin .add (.peek 6) (.tup (.cons (.tup (.cons (.c (.int 1)) (.cons (.c (.int 2)) (.cons (.c (.int 3)) .nil)))) .nil))) (.cons (.bin .add (.tup (.cons (.c (.int 5)) .nil)) (.peek 6)) (.cons (.bin .add (.peek 6) (.tup (.cons (.tup (.cons (.c (.int 0)) (.cons (.c (.int 1)) .nil))) (.cons (.tup (.cons (.c (.int 1)) (.cons (.c (.int 2)) .nil))) .nil)))) (.cons (.c .non) .nil))))))))) (.cons (.mkl 8 (.bin .add (.peek 8) (.lst (.cons (.tup (.cons (.tup (.cons (.c (.int 0)) (.cons (.c (.int 5)) .nil))) (.cons (.tup (.cons (.c (.int 3)) (.cons (.c (.int 7)) .nil))) .nil))) (.cons (.tup (.cons (.tup (.cons (.c (.int 5)) (.cons (.c (.int 9)) .nil))) (.cons (.tup (.cons (.c (.int 0)) (.cons (.c (.int 2)) .nil))) .nil))) (.cons (.tup (.cons (.tup (.cons (.c (.int 0)) (.cons (.c (.int 5)) .nil))) (.cons (.tup (.cons (.c (.int 5)) (.cons (.c (.int 7)) .nil))) .nil))) .nil)))))) (.cons (.ife (.and (.cmp .ne (.peek 6) (.tup .nil)) (.cmp .lt (.idx (.idx (.peek 6) (.neg (.c (.int 1)))) (.c (.int 1))) (.c (.int 10000)))) (.cons (.app 8 (.bin .add (.peek 6) (.tup (.cons (.tup (.cons (.idx (.idx (.peek 6) (.neg (.c (.int 1)))) (.c (.int 1))) (.cons (.bin .add (.idx (.idx (.peek 6) (.neg (.c (.int 1)))) (.c (.int 1))) (.c (.int 1))) .nil))) .nil)))) .nil) .nil) (.cons (.frz [8]) (.cons (.ife (.or (.not (.call .are_spans (.cons (.v 6) .nil))) (.cmp .isin (.c (.bl true)) (.comp [14] (.nm 14) (.of (.v 8)) .none (.call .are_spans (.cons (.v 14) .nil))))) (.cons (.ret (.c (.bl false))) .nil) .nil) (.cons (.asg (.nm 9) (.lst .nil)) (.cons (.for_ (.nm 10) (.of (.bin .add (.peek 6) (.peek 7))) b_law_k42_1) (.cons (.asg (.nm 2) (.comp [12] (.nm 12) (.of (.v 3)) (.some (.cmp .isin (.peek 12) (.peek 9))) (.v 12))) (.cons (.ife (.not (.call .law_same (.cons (.call .points_of (.cons (.lst (.cons (.v 6) (.cons (.v 7) .nil))) .nil)) (.cons (.v 2) .nil)))) (.cons (.ret (.c (.bl false))) .nil) .nil) (.cons (.ife (.not (.call .law_same (.cons (.call .pieces (.cons (.v 2) .nil)) (.cons (.comp [13] (.nm 13) (.rng (.bin .sub (.b1 .len (.peek 2)) (.c (.int 1)))) .none (.tup (.cons (.idx (.peek 2) (.v 13)) (.cons (.idx (.peek 2) (.bin .add (.peek 13) (.c (.int 1)))) .nil)))) .nil)))) (.cons (.ret (.c (.bl false))) .nil) .nil) (.cons (.asg (.nm 11) (.comp [13] (.nm 13) (.rng (.c (.int 8))) (.some (.idx (.peek 5) (.v 13))) (.tup (.cons (.idx (.peek 3) (.v 13)) (.cons (.idx (.peek 3) (.bin .add (.peek 13) (.c (.int 1)))) .nil))))) (.cons (.ife (.not (.call .law_same (.cons (.call .joined (.cons (.v 11) .nil)) (.cons (.v 6) .nil)))) (.cons (.ret (.c (.bl false))) .nil) .nil) .nil))))))))))))))))
def d_law_k42 : FDef := ⟨1, 15, (.cons (.asg (.nm 1) (.lst (.cons (.call .is_day (.cons (.c (.int 0)) .nil)) (.cons (.call .is_day (.cons (.c (.int 9999)) .nil)) (.cons (.call .is_day (.cons (.c (.int 10000)) .nil)) (.cons (.call .is_day (.cons (.neg (.c (.int 1))) .nil)) (.cons (.call .is_day (.cons (.c (.bl true)) .nil)) (.cons (.call .is_day (.cons (.c (.str (tx "1"))) .nil)) (.cons (.call .are_days (.cons (.c (.int 0)) (.cons (.c (.int 10000)) .nil))) (.cons (.call .are_days (.cons (.c (.int 5)) (.cons (.c (.int 5)) .nil))) .nil)))))))))) (.cons (.asg (.nm 1) (.bin .add (.peek 1) (.lst (.cons (.call .are_days (.cons (.c (.int 9999)) (.cons (.c (.int 10001)) .nil))) (.cons (.call .are_days (.cons (.c (.int 10000)) (.cons (.c (.int 10000)) .nil))) (.cons (.call .are_days (.cons (.c (.int 0)) (.cons (.c (.bl true)) .nil))) (.cons (.call .are_spans (.cons (.tup .nil) .nil)) (.cons (.call .are_spans (.cons (.lst .nil) .nil)) .nil)))))))) (.cons (.asg (.nm 2) (.lst (.cons (.c (.bl true)) (.cons (.c (.bl true)) (.cons (.c (.bl false)) (.cons (.c (.bl false)) (.cons (.c (.bl false)) (.cons (.c (.bl false)) (.cons (.c (.bl true)) (.cons (.c (.bl false)) (.cons (.c (.bl false)) (.cons (.c (.bl false)) (.cons (.c (.bl false)) (.cons (.c (.bl true)) (.cons (.c (.bl false)) .nil))))))))))))))) (.cons (.ife (.not (.call .law_same (.cons (.v 1) (.cons (.v 2) .nil)))) (.cons (.ret (.c (.bl false))) .nil) .nil) (.cons (.asg (.nm 3) (.call .law_points .nil)) (.cons (.for_ (.nm 4) (.of (.bin .add (.lst (.cons (.c (.int 1)) (.cons (.c (.int 2)) .nil))) (.b1 .list (.peek 0)))) b_law_k42_2) (.cons (.ret (.c (.bl true))) .nil)))))))⟩
def d_is_text : FDef := ⟨1, 2, (.cons (.ret (.and (.isi (.peek 0) .str) (.and (.cmp .le (.b1 .len (.peek 0)) (.c (.int 40))) (.b1 .all (.comp [1] (.nm 1) (.of (.v 0)) .none (.chain .le .le (.c (.str (tx " "))) (.peek 1) (.c (.str (tx "~"))))))))) .nil)⟩
def d_kind_of : FDef := ⟨1, 1, (.cons (.ife (.call .is_number (.cons (.v 0) (.cons (.c (.int 999999)) .nil))) (.cons (.ret (.c (.str (tx "number")))) .nil) .nil) (.cons (.ife (.call .is_text (.cons (.v 0) .nil)) (.cons (.ret (.c (.str (tx "text")))) .nil) .nil) (.cons (.ret (.c .non)) .nil)))⟩
def d_is_name : FDef := ⟨1, 2, (.cons (.ret (.and (.isi (.peek 0) .str) (.and (.chain .le .le (.c (.int 1)) (.b1 .len (.peek 0)) (.c (.int 8))) (.b1 .all (.comp [1] (.nm 1) (.of (.v 0)) .none (.cmp .isin (.peek 1) (.c (.str (tx "abcdefghijklmnopqrstuvwxyz"))))))))) .nil)⟩
def d_are_unlike : FDef := ⟨1, 1, (.cons (.ret (.cmp .eq (.lenset (.peek 0)) (.b1 .len (.peek 0)))) .nil)⟩
def b_columns_of_1 : Stms := (.cons (.ife (.cmp .eq (.peek 2) (.peek 1)) (.cons (.ret (.v 3)) .nil) .nil) .nil)
def d_columns_of : FDef := ⟨2, 4, (.cons (.for_ (.tp [(.nm 2), (.nm 3)]) (.of (.v 0)) b_columns_of_1) (.cons (.ret (.c .non)) .nil))⟩
def b_place_of_1 : Stms := (.cons (.ife (.cmp .eq (.idx (.peek 3) (.c (.int 0))) (.peek 1)) (.cons (.ret (.v 2)) .nil) .nil) .nil)
def d_place_of : FDef := ⟨2, 4, (.cons (.for_ (.tp [(.nm 2), (.nm 3)]) (.enum (.v 0)) b_place_of_1) (.cons (.ret (.c .non)) .nil))⟩
def b_is_word_1 : Stms := (.cons (.ife (.cmp .notin (.peek 1) (.c (.str (tx "abcdefghijklmnopqrstuvwxyz0123456789")))) (.cons (.ret (.c (.bl false))) .nil) .nil) .nil)
def d_is_word : FDef := ⟨1, 2, (.cons (.ife (.or (.not (.isi (.peek 0) .str)) (.cmp .eq (.peek 0) (.c (.str (tx ""))))) (.cons (.ret (.c (.bl false))) .nil) .nil) (.cons (.for_ (.nm 1) (.of (.v 0)) b_is_word_1) (.cons (.ret (.c (.bl true))) .nil)))⟩
def d_is_word_wish : FDef := ⟨1, 1, (.cons (.ife (.or (.cmp .ne (.b1 .len (.peek 0)) (.c (.int 2))) (.cmp .notin (.idx (.peek 0) (.c (.int 0))) (.tup (.cons (.c (.str (tx "word"))) (.cons (.c (.str (tx "begins"))) .nil))))) (.cons (.ret (.c (.bl false))) .nil) .nil) (.cons (.ret (.and (.call .is_word (.cons (.idx (.peek 0) (.c (.int 1))) .nil)) (.cmp .le (.b1 .len (.idx (.peek 0) (.c (.int 1)))) (.c (.int 40))))) .nil))⟩
def b_is_deep_wish_1 : Stms := (.cons (.ife (.not (.call .is_deep_wish (.cons (.v 2) (.cons (.bin .sub (.peek 1) (.c (.int 1))) .nil)))) (.cons (.ret (.c (.bl false))) .nil) .nil) .nil)
def d_is_deep_wish : FDef := ⟨2, 3, (.cons (.ife (.or (.not (.isi (.peek 0) .tuple)) (.or (.cmp .ne (.b1 .len (.peek 0)) (.c (.int 2))) (.cmp .eq (.peek 1) (.c (.int 0))))) (.cons (.ret (.c (.bl false))) .nil) .nil) (.cons (.ife (.cmp .eq (.idx (.peek 0) (.c (.int 0))) (.c (.str (tx "none")))) (.cons (.ret (.call .is_deep_wish (.cons (.idx (.peek 0) (.c (.int 1))) (.cons (.bin .sub (.peek 1) (.c (.int 1))) .nil)))) .nil) .nil) (.cons (.ife (.cmp .notin (.idx (.peek 0) (.c (.int 0))) (.tup (.cons (.c (.str (tx "all"))) (.cons (.c (.str (tx "any"))) .nil)))) (.cons (.ret (.call .is_word_wish (.cons (.v 0) .nil))) .nil) .nil) (.cons (.ife (.or (.not (.isi (.idx (.peek 0) (.c (.int 1))) .tuple)) (.not (.chain .le .le (.c (.int 2)) (.b1 .len (.idx (.peek 0) (.c (.int 1)))) (.c (.int 6))))) (.cons (.ret (.c (.bl false))) .nil) .nil) (.cons (.for_ (.nm 2) (.of (.idx (.peek 0) (.c (.int 1)))) b_is_deep_wish_1) (.cons (.ret (.c (.bl true))) .nil))))))⟩
def d_is_wish : FDef := ⟨1, 1, (.cons (.ret (.call .is_deep_wish (.cons (.v 0) (.cons (.c (.int 6)) .nil)))) .nil)⟩
def d_refuse_if : FDef := ⟨2, 2, (.cons (.ife (.peek 0) (.cons .nvr .nil) .nil) .nil)⟩
def d_needed : FDef := ⟨2, 3, (.cons (.asg (.nm 2) (.call .place_of (.cons (.v 0) (.cons (.v 1) .nil)))) (.cons (.expr (.call .refuse_if (.cons (.cmp .is (.peek 2) (.c .non)) (.cons (.c (.str (tx "column"))) .nil)))) (.cons (.ret (.v 2)) .nil)))⟩
def d_table_columns : FDef := ⟨2, 3, (.cons (.asg (.nm 2) (.call .columns_of (.cons (.v 0) (.cons (.v 1) .nil)))) (.cons (.expr (.call .refuse_if (.cons (.cmp .is (.peek 2) (.c .non)) (.cons (.c (.str (tx "table"))) .nil)))) (.cons (.ret (.v 2)) .nil)))⟩
def d_chosen : FDef := ⟨2, 5, (.cons (.expr (.call .refuse_if (.cons (.not (.isi (.peek 1) .tuple)) (.cons (.c (.str (tx "form"))) .nil)))) (.cons (.asg (.nm 2) (.comp [3] (.nm 3) (.of (.v 1)) .none (.call .needed (.cons (.v 0) (.cons (.v 3) .nil))))) (.cons (.expr (.call .refuse_if (.cons (.not (.call .are_unlike (.cons (.v 1) .nil))) (.cons (.c (.str (tx "column"))) .nil)))) (.cons (.ret (.b1 .tuple (.comp [4] (.nm 4) (.of (.v 2)) .none (.idx (.peek 0) (.v 4))))) .nil))))⟩
def d_renamed : FDef := ⟨3, 4, (.cons (.expr (.call .refuse_if (.cons (.not (.call .is_name (.cons (.v 2) .nil))) (.cons (.c (.str (tx "form"))) .nil)))) (.cons (.asg (.nm 3) (.call .needed (.cons (.v 0) (.cons (.v 1) .nil)))) (.cons (.expr (.call .refuse_if (.cons (.cmp .notin (.call .place_of (.cons (.v 0) (.cons (.v 2) .nil))) (.tup (.cons (.c .non) (.cons (.v 3) .nil)))) (.cons (.c (.str (tx "taken"))) .nil)))) (.cons (.ret (.tup (.star (.slc (.peek 0) .none (.some (.v 3))) (.cons (.tup (.cons (.v 2) (.cons (.idx (.idx (.peek 0) (.v 3)) (.c (.int 1))) .nil))) (.star (.slc (.peek 0) (.some (.bin .add (.peek 3) (.c (.int 1)))) .none) .nil))))) .nil))))⟩
def d_both_columns : FDef := ⟨2, 4, (.cons (.asg (.nm 2) (.comp [3] (.nm 3) (.of (.v 1)) (.some (.cmp .isnot (.call .place_of (.cons (.v 0) (.cons (.idx (.peek 3) (.c (.int 0))) .nil))) (.c .non))) (.v 3))) (.cons (.expr (.call .refuse_if (.cons (.b1 .any (.comp [3] (.nm 3) (.of (.v 2)) .none (.cmp .notin (.peek 3) (.peek 0)))) (.cons (.c (.str (tx "kinds"))) .nil)))) (.cons (.ret (.tup (.star (.peek 0) (.star (.comp [3] (.nm 3) (.of (.v 1)) (.some (.cmp .notin (.peek 3) (.peek 2))) (.v 3)) .nil)))) .nil)))⟩
def d_with_number : FDef := ⟨2, 2, (.cons (.expr (.call .refuse_if (.cons (.cmp .isnot (.call .place_of (.cons (.v 0) (.cons (.v 1) .nil))) (.c .non)) (.cons (.c (.str (tx "taken"))) .nil)))) (.cons (.ret (.tup (.star (.peek 0) (.cons (.tup (.cons (.v 1) (.cons (.c (.str (tx "number"))) .nil))) .nil)))) .nil))⟩
def d_picked_columns : FDef := ⟨4, 4, (.cons (.expr (.call .refuse_if (.cons (.cmp .notin (.peek 2) (.c (.tup [(.str (tx "=")), (.str (tx "<>")), (.str (tx "<")), (.str (tx ">"))]))) (.cons (.c (.str (tx "form"))) .nil)))) (.cons (.expr (.call .refuse_if (.cons (.cmp .ne (.call .kind_of (.cons (.v 3) .nil)) (.idx (.idx (.peek 0) (.call .needed (.cons (.v 0) (.cons (.v 1) .nil)))) (.c (.int 1)))) (.cons (.c (.str (tx "value"))) .nil)))) (.cons (.ret (.v 0)) .nil)))⟩
def d_same_columns : FDef := ⟨3, 3, (.cons (.expr (.call .refuse_if (.cons (.cmp .ne (.idx (.idx (.peek 0) (.call .needed (.cons (.v 0) (.cons (.v 1) .nil)))) (.c (.int 1))) (.idx (.idx (.peek 0) (.call .needed (.cons (.v 0) (.cons (.v 2) .nil)))) (.c (.int 1)))) (.cons (.c (.str (tx "kinds"))) .nil)))) (.cons (.ret (.v 0)) .nil))⟩
def d_summed_columns : FDef := ⟨3, 4, (.cons (.asg (.nm 3) (.call .chosen (.cons (.v 0) (.cons (.v 1) .nil)))) (.cons (.expr (.call .refuse_if (.cons (.cmp .ne (.idx (.idx (.peek 0) (.call .needed (.cons (.v 0) (.cons (.v 2) .nil)))) (.c (.int 1))) (.c (.str (tx "number")))) (.cons (.c (.str (tx "kinds"))) .nil)))) (.cons (.ret (.call .with_number (.cons (.v 3) (.cons (.c (.str (tx "sum"))) .nil)))) .nil)))⟩
def d_found_columns : FDef := ⟨4, 5, (.cons (.asg (.nm 4) (.call .table_columns (.cons (.v 0) (.cons (.v 1) .nil)))) (.cons (.expr (.call .refuse_if (.cons (.cmp .ne (.idx (.idx (.peek 4) (.call .needed (.cons (.v 4) (.cons (.v 2) .nil)))) (.c (.int 1))) (.c (.str (tx "text")))) (.cons (.c (.str (tx "kinds"))) .nil)))) (.cons (.expr (.call .refuse_if (.cons (.not (.call .is_wish (.cons (.v 3) .nil))) (.cons (.c (.str (tx "wish"))) .nil)))) (.cons (.ret (.v 4)) .nil))))⟩
def d_kept_columns : FDef := ⟨2, 2, (.cons (.expr (.call .refuse_if (.cons (.not (.isi (.peek 1) .tuple)) (.cons (.c (.str (tx "form"))) .nil)))) (.cons (.expr (.call .refuse_if (.cons (.not (.peek 1)) (.cons (.c (.str (tx "column"))) .nil)))) (.cons (.ret (.call .chosen (.cons (.v 0) (.cons (.v 1) .nil)))) .nil)))⟩
def d_columns : FDef := ⟨2, 2, (.cons (.ret (.call .deep_columns (.cons (.v 0) (.cons (.v 1) (.cons (.c (.int 12)) .nil))))) .nil)⟩
def d_deep_columns : FDef := ⟨3, 16, (.cons (.expr (.call .refuse_if (.cons (.not (.isi (.peek 0) .tuple)) (.cons (.c (.str (tx "form"))) .nil)))) (.cons (.expr (.call .refuse_if (.cons (.cmp .eq (.peek 2) (.c (.int 0))) (.cons (.c (.str (tx "deep"))) .nil)))) (.cons (.mtch (.v 0) (.cons (.seq [(.val (.str (tx "table"))), (.cap 3)]) (.cons (.ret (.call .table_columns (.cons (.v 1) (.cons (.v 3) .nil)))) .nil) (.cons (.seq [(.val (.str (tx "found"))), (.cap 4), (.cap 3), (.cap 5)]) (.cons (.ret (.call .found_columns (.cons (.v 1) (.cons (.v 4) (.cons (.v 3) (.cons (.v 5) .nil)))))) .nil) (.cons (.seq [(.val (.str (tx "pick"))), (.cap 6), (.cap 3), (.cap 7), (.cap 8)]) (.cons (.ret (.call .picked_columns (.cons (.call .deep_columns (.cons (.v 6) (.cons (.v 1) (.cons (.bin .sub (.peek 2) (.c (.int 1))) .nil)))) (.cons (.v 3) (.cons (.v 7) (.cons (.v 8) .nil)))))) .nil) (.cons (.seq [(.val (.str (tx "same"))), (.cap 6), (.cap 3), (.cap 9)]) (.cons (.ret (.call .same_columns (.cons (.call .deep_columns (.cons (.v 6) (.cons (.v 1) (.cons (.bin .sub (.peek 2) (.c (.int 1))) .nil)))) (.cons (.v 3) (.cons (.v 9) .nil))))) .nil) (.cons (.seq [(.val (.str (tx "keep"))), (.cap 6), (.cap 10)]) (.cons (.ret (.call .kept_columns (.cons (.call .deep_columns (.cons (.v 6) (.cons (.v 1) (.cons (.bin .sub (.peek 2) (.c (.int 1))) .nil)))) (.cons (.v 10) .nil)))) .nil) (.cons (.seq [(.val (.str (tx "name"))), (.cap 6), (.cap 11), (.cap 12)]) (.cons (.ret (.call .renamed (.cons (.call .deep_columns (.cons (.v 6) (.cons (.v 1) (.cons (.bin .sub (.peek 2) (.c (.int 1))) .nil)))) (.cons (.v 11) (.cons (.v 12) .nil))))) .nil) (.cons (.seq [(.val (.str (tx "count"))), (.cap 6), (.cap 10)]) (.cons (.ret (.call .with_number (.cons (.call .chosen (.cons (.call .deep_columns (.cons (.v 6) (.cons (.v 1) (.cons (.bin .sub (.peek 2) (.c (.int 1))) .nil)))) (.cons (.v 10) .nil))) (.cons (.c (.str (tx "count"))) .nil)))) .nil) (.cons (.seq [(.val (.str (tx "sum"))), (.cap 6), (.cap 10), (.cap 3)]) (.cons (.ret (.call .summed_columns (.cons (.call .deep_columns (.cons (.v 6) (.cons (.v 1) (.cons (.bin .sub (.peek 2) (.c (.int 1))) .nil)))) (.cons (.v 10) (.cons (.v 3) .nil))))) .nil) (.cons (.seq [(.val (.str (tx "join"))), (.cap 13), (.cap 14)]) (.cons (.ret (.call .both_columns (.cons (.call .deep_columns (.cons (.v 13) (.cons (.v 1) (.cons (.bin .sub (.peek 2) (.c (.int 1))) .nil)))) (.cons (.call .deep_columns (.cons (.v 14) (.cons (.v 1) (.cons (.bin .sub (.peek 2) (.c (.int 1))) .nil)))) .nil)))) .nil) (.cons (.seq [(.alt [(.str (tx "unite")), (.str (tx "less"))]), (.cap 13), (.cap 14)]) (.cons (.asg (.nm 15) (.call .deep_columns (.cons (.v 13) (.cons (.v 1) (.cons (.bin .sub (.peek 2) (.c (.int 1))) .nil))))) (.cons (.expr (.call .refuse_if (.cons (.cmp .ne (.peek 15) (.call .deep_columns (.cons (.v 14) (.cons (.v 1) (.cons (.bin .sub (.peek 2) (.c (.int 1))) .nil))))) (.cons (.c (.str (tx "columns"))) .nil)))) (.cons (.ret (.v 15)) .nil))) .nil))))))))))) (.cons .nvr .nil))))⟩
def d_law_cell : FDef := ⟨2, 2, (.cons (.ife (.cmp .lt (.peek 1) (.b1 .len (.peek 0))) (.cons (.ret (.b1 .int (.idx (.peek 0) (.v 1)))) .nil) .nil) (.cons (.ret (.c (.int 0))) .nil))⟩
def d_law_schema_1 : FDef := ⟨1, 2, (.cons (.ife (.cmp .eq (.bin .mod (.b1 .int (.peek 0)) (.c (.int 3))) (.c (.int 2))) (.cons (.asg (.nm 1) (.tup (.cons (.c (.str (tx "a"))) (.cons (.tup (.cons (.tup (.cons (.c (.str (tx "t"))) (.cons (.c (.str (tx "text"))) .nil))) (.cons (.tup (.cons (.c (.str (tx "n"))) (.cons (.c (.str (tx "number"))) .nil))) (.cons (.tup (.cons (.c (.str (tx "m"))) (.cons (.c (.str (tx "number"))) .nil))) .nil)))) .nil)))) (.cons (.ret (.tup (.cons (.v 1) (.cons (.tup (.cons (.c (.str (tx "b"))) (.cons (.tup (.cons (.tup (.cons (.c (.str (tx "n"))) (.cons (.c (.str (tx "number"))) .nil))) (.cons (.tup (.cons (.c (.str (tx "m"))) (.cons (.c (.str (tx "number"))) .nil))) .nil))) .nil))) .nil)))) .nil)) .nil) (.cons (.asg (.nm 1) (.tup (.cons (.c (.str (tx "a"))) (.cons (.tup (.cons (.tup (.cons (.c (.str (tx "n"))) (.cons (.c (.str (tx "number"))) .nil))) (.cons (.tup (.cons (.c (.str (tx "t"))) (.cons (.c (.str (tx "text"))) .nil))) .nil))) .nil)))) (.cons (.ret (.tup (.cons (.v 1) (.cons (.tup (.cons (.c (.str (tx "b"))) (.cons (.tup (.cons (.tup (.cons (.c (.str (tx "n"))) (.cons (.c (.str (tx "number"))) .nil))) (.cons (.tup (.cons (.c (.str (tx "m"))) (.cons (.c (.str (tx "number"))) .nil))) .nil))) .nil))) (.cons (.tup (.cons (.c (.str (tx "c"))) (.cons (.tup (.cons (.tup (.cons (.c (.str (tx "t"))) (.cons (.c (.str (tx "text"))) .nil))) .nil)) .nil))) .nil))))) .nil)))⟩
def d_law_value : FDef := ⟨2, 2, (.cons (.ife (.cmp .eq (.peek 0) (.c (.str (tx "number")))) (.cons (.ret (.idx (.lst (.cons (.c (.int 0)) (.cons (.c (.int 1)) (.cons (.c (.int 2)) (.cons (.c (.int 3)) (.cons (.c (.int 999999)) .nil)))))) (.bin .mod (.b1 .int (.peek 1)) (.c (.int 5))))) .nil) .nil) (.cons (.ret (.idx (.lst (.cons (.c (.str (tx "red fox"))) (.cons (.c (.str (tx "Fox; red-hen"))) (.cons (.c (.str (tx "hen"))) (.cons (.c (.str (tx ""))) (.cons (.c (.str (tx "a fox 7"))) (.cons (.c (.str (tx "RED"))) .nil))))))) (.bin .mod (.b1 .int (.peek 1)) (.c (.int 6))))) .nil))⟩
def b_law_table_1 : Stms := (.cons (.ife (.cmp .eq (.idx (.peek 2) (.c (.int 0))) (.peek 1)) (.cons (.ret (.idx (.peek 2) (.c (.int 1)))) .nil) .nil) .nil)
def d_law_table : FDef := ⟨2, 3, (.cons (.for_ (.nm 2) (.of (.v 0)) b_law_table_1) (.cons (.ret (.c .non)) .nil))⟩
def d_law_wish : FDef := ⟨1, 5, (.cons (.asg (.nm 1) (.lst (.cons (.tup (.cons (.c (.str (tx "word"))) (.cons (.c (.str (tx "fox"))) .nil))) (.cons (.tup (.cons (.c (.str (tx "word"))) (.cons (.c (.str (tx "red"))) .nil))) (.cons (.tup (.cons (.c (.str (tx "begins"))) (.cons (.c (.str (tx "h"))) .nil))) (.cons (.tup (.cons (.c (.str (tx "begins"))) (.cons (.c (.str (tx "re"))) .nil))) (.cons (.tup (.cons (.c (.str (tx "word"))) (.cons (.c (.str (tx "7"))) .nil))) (.cons (.tup (.cons (.c (.str (tx "word"))) (.cons (.c (.str (tx "cow"))) .nil))) .nil)))))))) (.cons (.asg (.nm 2) (.idx (.peek 1) (.bin .mod (.b1 .int (.peek 0)) (.c (.int 6))))) (.cons (.asg (.nm 3) (.idx (.peek 1) (.bin .mod (.bin .fdiv (.b1 .int (.peek 0)) (.c (.int 6))) (.c (.int 6))))) (.cons (.asg (.nm 4) (.bin .mod (.bin .fdiv (.b1 .int (.peek 0)) (.c (.int 36))) (.c (.int 5)))) (.cons (.ife (.cmp .lt (.peek 4) (.c (.int 2))) (.cons (.ret (.v 2)) .nil) .nil) (.cons (.ife (.cmp .eq (.peek 4) (.c (.int 2))) (.cons (.ret (.tup (.cons (.c (.str (tx "all"))) (.cons (.tup (.cons (.v 2) (.cons (.v 3) .nil))) .nil)))) .nil) .nil) (.cons (.ife (.cmp .eq (.peek 4) (.c (.int 3))) (.cons (.ret (.tup (.cons (.c (.str (tx "any"))) (.cons (.tup (.cons (.v 2) (.cons (.v 3) .nil))) .nil)))) .nil) .nil) (.cons (.ret (.tup (.cons (.c (.str (tx "none"))) (.cons (.v 2) .nil)))) .nil))))))))⟩
def d_law_names : FDef := ⟨1, 2, (.cons (.ret (.comp [1] (.nm 1) (.of (.v 0)) .none (.idx (.peek 1) (.c (.int 0))))) .nil)⟩
def d_law_columns : FDef := ⟨2, 8, (.cons (.asg (.nm 2) (.idx (.peek 1) (.c (.int 0)))) (.cons (.ife (.or (.cmp .eq (.peek 2) (.c (.str (tx "table")))) (.cmp .eq (.peek 2) (.c (.str (tx "found"))))) (.cons (.ret (.call .law_table (.cons (.v 0) (.cons (.idx (.peek 1) (.c (.int 1))) .nil)))) .nil) .nil) (.cons (.asg (.nm 3) (.call .law_columns (.cons (.v 0) (.cons (.idx (.peek 1) (.c (.int 1))) .nil)))) (.cons (.asg (.nm 4) (.call .law_names (.cons (.v 3) .nil))) (.cons (.ife (.cmp .eq (.peek 2) (.c (.str (tx "keep")))) (.cons (.ret (.b1 .tuple (.comp [6] (.nm 6) (.of (.idx (.peek 1) (.c (.int 2)))) .none (.idx (.peek 3) (.idxOf (.peek 4) (.v 6)))))) .nil) .nil) (.cons (.ife (.cmp .eq (.peek 2) (.c (.str (tx "name")))) (.cons (.asg (.nm 5) (.idxOf (.peek 4) (.idx (.peek 1) (.c (.int 2))))) (.cons (.ret (.bin .add (.bin .add (.slc (.peek 3) .none (.some (.v 5))) (.tup (.cons (.tup (.cons (.idx (.peek 1) (.c (.int 3))) (.cons (.idx (.idx (.peek 3) (.v 5)) (.c (.int 1))) .nil))) .nil))) (.slc (.peek 3) (.some (.bin .add (.peek 5) (.c (.int 1)))) .none))) .nil)) .nil) (.cons (.ife (.or (.cmp .eq (.peek 2) (.c (.str (tx "count")))) (.cmp .eq (.peek 2) (.c (.str (tx "sum"))))) (.cons (.ret (.bin .add (.b1 .tuple (.comp [6] (.nm 6) (.of (.idx (.peek 1) (.c (.int 2)))) .none (.idx (.peek 3) (.idxOf (.peek 4) (.v 6))))) (.tup (.cons (.tup (.cons (.v 2) (.cons (.c (.str (tx "number"))) .nil))) .nil)))) .nil) .nil) (.cons (.ife (.cmp .eq (.peek 2) (.c (.str (tx "join")))) (.cons (.ret (.bin .add (.peek 3) (.b1 .tuple (.comp [7] (.nm 7) (.of (.call .law_columns (.cons (.v 0) (.cons (.idx (.peek 1) (.c (.int 2))) .nil)))) (.some (.cmp .notin (.idx (.peek 7) (.c (.int 0))) (.peek 4))) (.v 7))))) .nil) .nil) (.cons (.ret (.v 3)) .nil)))))))))⟩
def d_law_text_table : FDef := ⟨2, 4, (.cons (.asg (.nm 2) (.comp [3] (.nm 3) (.of (.v 0)) (.some (.cmp .isin (.tup (.cons (.c (.str (tx "t"))) (.cons (.c (.str (tx "text"))) .nil))) (.idx (.peek 3) (.c (.int 1))))) (.idx (.peek 3) (.c (.int 0))))) (.cons (.ret (.idx (.peek 2) (.bin .mod (.b1 .int (.peek 1)) (.b1 .len (.peek 2))))) .nil))⟩
def d_law_base : FDef := ⟨2, 2, (.cons (.ife (.cmp .eq (.bin .mod (.b1 .int (.idx (.peek 1) (.c (.int 0)))) (.c (.int 4))) (.c (.int 3))) (.cons (.ret (.tup (.cons (.c (.str (tx "found"))) (.cons (.call .law_text_table (.cons (.v 0) (.cons (.idx (.peek 1) (.c (.int 1))) .nil))) (.cons (.c (.str (tx "t"))) (.cons (.call .law_wish (.cons (.idx (.peek 1) (.c (.int 2))) .nil)) .nil)))))) .nil) .nil) (.cons (.ret (.tup (.cons (.c (.str (tx "table"))) (.cons (.idx (.idx (.peek 0) (.bin .mod (.b1 .int (.idx (.peek 1) (.c (.int 1)))) (.b1 .len (.peek 0)))) (.c (.int 0))) .nil)))) .nil))⟩
def d_law_pick : FDef := ⟨3, 5, (.cons (.asg (.nm 3) (.idx (.peek 0) (.bin .mod (.b1 .int (.idx (.peek 2) (.c (.int 1)))) (.b1 .len (.peek 0))))) (.cons (.asg (.nm 4) (.idx (.lst (.cons (.c (.str (tx "="))) (.cons (.c (.str (tx "="))) (.cons (.c (.str (tx "<>"))) (.cons (.c (.str (tx "<"))) (.cons (.c (.str (tx ">"))) .nil)))))) (.bin .mod (.b1 .int (.idx (.peek 2) (.c (.int 2)))) (.c (.int 5))))) (.cons (.ret (.tup (.cons (.c (.str (tx "pick"))) (.cons (.v 1) (.cons (.idx (.peek 3) (.c (.int 0))) (.cons (.v 4) (.cons (.call .law_value (.cons (.idx (.peek 3) (.c (.int 1))) (.cons (.idx (.peek 2) (.c (.int 3))) .nil))) .nil))))))) .nil)))⟩
def d_law_stage : FDef := ⟨3, 13, (.cons (.asg (.nm 3) (.call .law_columns (.cons (.v 0) (.cons (.v 1) .nil)))) (.cons (.asg (.nm 4) (.call .law_names (.cons (.v 3) .nil))) (.cons (.asg (.nm 5) (.comp [11] (.nm 11) (.of (.v 3)) (.some (.cmp .eq (.idx (.peek 11) (.c (.int 1))) (.c (.str (tx "number"))))) (.idx (.peek 11) (.c (.int 0))))) (.cons (.asg (.nm 6) (.b1 .tuple (.slc (.comp [12] (.nm 12) (.of (.v 4)) (.some (.cmp .gt (.bin .mod (.b1 .int (.bin .add (.bin .add (.idx (.peek 2) (.c (.int 1))) (.bin .mul (.c (.int 7)) (.b1 .len (.peek 12)))) (.bin .mul (.c (.int 3)) (.idxOf (.peek 4) (.v 12))))) (.c (.int 3))) (.c (.int 0)))) (.v 12)) .none (.some (.c (.int 2)))))) (.cons (.asg (.nm 7) (.bin .mod (.b1 .int (.idx (.peek 2) (.c (.int 0)))) (.c (.int 10)))) (.cons (.ife (.and (.cmp .eq (.peek 7) (.c (.int 2))) (.cmp .gt (.b1 .len (.peek 5)) (.c (.int 1)))) (.cons (.ret (.tup (.cons (.c (.str (tx "same"))) (.cons (.v 1) (.cons (.idx (.peek 5) (.c (.int 0))) (.cons (.idx (.peek 5) (.neg (.c (.int 1)))) .nil)))))) .nil) .nil) (.cons (.ife (.and (.cmp .eq (.peek 7) (.c (.int 3))) (.peek 6)) (.cons (.ret (.tup (.cons (.c (.str (tx "keep"))) (.cons (.v 1) (.cons (.v 6) .nil))))) .nil) .nil) (.cons (.ife (.cmp .eq (.peek 7) (.c (.int 4))) (.cons (.asg (.nm 8) (.idx (.lst (.cons (.c (.str (tx "x"))) (.cons (.c (.str (tx "n"))) (.cons (.c (.str (tx "t"))) (.cons (.c (.str (tx "y"))) .nil))))) (.bin .mod (.b1 .int (.idx (.peek 2) (.c (.int 1)))) (.c (.int 4))))) (.cons (.ife (.cmp .notin (.peek 8) (.peek 4)) (.cons (.ret (.tup (.cons (.c (.str (tx "name"))) (.cons (.v 1) (.cons (.idx (.peek 4) (.bin .mod (.b1 .int (.idx (.peek 2) (.c (.int 2)))) (.b1 .len (.peek 4)))) (.cons (.v 8) .nil)))))) .nil) .nil) .nil)) .nil) (.cons (.ife (.cmp .eq (.peek 7) (.c (.int 5))) (.cons (.asg (.nm 9) (.tup (.cons (.c (.str (tx "table"))) (.cons (.idx (.idx (.peek 0) (.bin .mod (.b1 .int (.idx (.peek 2) (.c (.int 1)))) (.b1 .len (.peek 0)))) (.c (.int 0))) .nil)))) (.cons (.asg (.nm 10) (.comp [11] (.nm 11) (.of (.call .law_columns (.cons (.v 0) (.cons (.v 9) .nil)))) (.some (.and (.cmp .isin (.idx (.peek 11) (.c (.int 0))) (.peek 4)) (.cmp .notin (.peek 11) (.peek 3)))) (.v 11))) (.cons (.ife (.and (.not (.peek 10)) (.cmp .lt (.b1 .len (.peek 3)) (.c (.int 6)))) (.cons (.ret (.tup (.cons (.c (.str (tx "join"))) (.cons (.v 1) (.cons (.v 9) .nil))))) .nil) .nil) .nil))) .nil) (.cons (.ife (.or (.cmp .eq (.peek 7) (.c (.int 6))) (.cmp .eq (.peek 7) (.c (.int 7)))) (.cons (.ret (.tup (.cons (.idx (.lst (.cons (.c (.str (tx "unite"))) (.cons (.c (.str (tx "less"))) .nil))) (.bin .sub (.peek 7) (.c (.int 6)))) (.cons (.v 1) (.cons (.call .law_pick (.cons (.v 3) (.cons (.v 1) (.cons (.v 2) .nil)))) .nil))))) .nil) .nil) (.cons (.ife (.and (.cmp .eq (.peek 7) (.c (.int 8))) (.cmp .notin (.c (.str (tx "count"))) (.peek 4))) (.cons (.ret (.tup (.cons (.c (.str (tx "count"))) (.cons (.v 1) (.cons (.v 6) .nil))))) .nil) .nil) (.cons (.ife (.and (.cmp .eq (.peek 7) (.c (.int 9))) (.and (.peek 5) (.cmp .notin (.c (.str (tx "sum"))) (.peek 4)))) (.cons (.ret (.tup (.cons (.c (.str (tx "sum"))) (.cons (.v 1) (.cons (.v 6) (.cons (.idx (.peek 5) (.bin .mod (.b1 .int (.idx (.peek 2) (.c (.int 2)))) (.b1 .len (.peek 5)))) .nil)))))) .nil) .nil) (.cons (.ret (.call .law_pick (.cons (.v 3) (.cons (.v 1) (.cons (.v 2) .nil))))) .nil)))))))))))))⟩
def b_law_question_1_1 : Stms := (.cons (.asg (.nm 4) (.call .law_draws (.cons (.idx (.peek 1) (.v 3)) (.cons (.c (.int 5)) .nil)))) (.cons (.ife (.cmp .eq (.peek 3) (.c (.int 0))) (.cons (.asg (.nm 2) (.call .law_base (.cons (.v 0) (.cons (.v 4) .nil)))) .nil) (.cons (.asg (.nm 2) (.call .law_stage (.cons (.v 0) (.cons (.v 2) (.cons (.v 4) .nil))))) .nil)) .nil))
def d_law_question_1 : FDef := ⟨2, 5, (.cons (.asg (.nm 2) (.tup (.cons (.c (.str (tx "table"))) (.cons (.c (.str (tx "a"))) .nil)))) (.cons (.for_ (.nm 3) (.rng (.b1 .len (.peek 1))) b_law_question_1_1) (.cons (.ret (.v 2)) .nil)))⟩
def b_law_k47_1 : Stms := (.cons (.asg (.nm 5) (.call .law_question_1 (.cons (.v 1) (.cons (.slc (.peek 2) (.some (.v 3)) (.some (.bin .add (.peek 3) (.peek 4)))) .nil)))) (.cons (.ife (.not (.call .law_same (.cons (.call .columns (.cons (.v 5) (.cons (.v 1) .nil))) (.cons (.call .law_columns (.cons (.v 1) (.cons (.v 5) .nil))) .nil)))) (.cons (.ret (.c (.bl false))) .nil) .nil) .nil))
def b_law_k47_2 : Stms := (.cons (.for_ (.nm 4) (.of (.lst (.cons (.c (.int 1)) (.cons (.c (.int 2)) (.cons (.c (.int 3)) (.cons (.c (.int 5)) .nil)))))) b_law_k47_1) .nil)
def d_law_k47 : FDef := ⟨1, 6, (.cons (.asg (.nm 1) (.call .law_schema_1 (.cons (.call .law_cell (.cons (.v 0) (.cons (.c (.int 0)) .nil))) .nil))) (.cons (.asg (.nm 2) (.bin .add (.lst (.cons (.c (.int 0)) (.cons (.c (.int 1)) (.cons (.c (.int 2)) (.cons (.c (.int 3)) .nil))))) (.b1 .list (.peek 0)))) (.cons (.for_ (.nm 3) (.rng (.b1 .len (.peek 2))) b_law_k47_2) (.cons (.ret (.c (.bl true))) .nil))))⟩
def d_order_of : FDef := ⟨1, 2, (.cons (.ret (.comp [1] (.nm 1) (.of (.v 0)) .none (.tup (.cons (.isi (.peek 1) .str) (.cons (.v 1) .nil))))) .nil)⟩
def d_in_order : FDef := ⟨1, 1, (.cons (.ret (.srtk .order_of (.peek 0))) .nil)⟩
def b_law_sorted_1 : Stms := (.cons (.app 1 (.lst (.cons (.comp [4] (.nm 4) (.of (.v 2)) .none (.tup (.cons (.isi (.peek 4) .str) (.cons (.v 4) .nil)))) (.cons (.v 2) .nil)))) .nil)
def d_law_sorted : FDef := ⟨1, 5, (.cons (.mkl 1 (.lst .nil)) (.cons (.for_ (.nm 2) (.of (.v 0)) b_law_sorted_1) (.cons (.ret (.comp [3] (.nm 3) (.of (.b1 .sorted (.peek 1))) .none (.idx (.peek 3) (.c (.int 1))))) .nil)))⟩
def d_law_any : FDef := ⟨1, 2, (.cons (.asg (.nm 1) (.lst (.cons (.c (.int 0)) (.cons (.c (.int 1)) (.cons (.c (.int 999999)) (.cons (.c (.int 5)) (.cons (.c (.str (tx ""))) (.cons (.c (.str (tx "a"))) (.cons (.c (.str (tx "ab"))) (.cons (.c (.str (tx "B"))) (.cons (.c (.str (tx " "))) (.cons (.c (.str (tx "~"))) (.cons (.c (.str (tx "10"))) (.cons (.c (.str (tx "2"))) .nil)))))))))))))) (.cons (.ret (.idx (.peek 1) (.bin .mod (.b1 .int (.peek 0)) (.c (.int 12))))) .nil))⟩
def b_law_k40_1 : Stms := (.cons (.asg (.nm 7) (.call .law_draws (.cons (.v 2) (.cons (.c (.int 5)) .nil)))) (.cons (.app 1 (.b1 .tuple (.comp [10] (.nm 10) (.rng (.bin .mod (.b1 .int (.idx (.peek 7) (.c (.int 4)))) (.c (.int 4)))) .none (.call .law_any (.cons (.idx (.peek 7) (.v 10)) .nil))))) .nil))
def b_law_k40_2 : Stms := (.cons (.asg (.nm 8) (.bin .mod (.b1 .int (.peek 2)) (.c (.int 1200000)))) (.cons (.app 5 (.call .is_number (.cons (.v 8) (.cons (.c (.int 1000000)) .nil)))) (.cons (.app 6 (.cmp .le (.peek 8) (.c (.int 1000000)))) (.cons (.app 5 (.call .kind_of (.cons (.v 8) .nil))) (.cons (.app 6 (.idx (.lst (.cons (.c (.str (tx "number"))) (.cons (.c .non) .nil))) (.b1 .int (.cmp .gt (.peek 8) (.c (.int 999999)))))) .nil)))))
def d_law_k40 : FDef := ⟨1, 11, (.cons (.mkl 1 (.lst .nil)) (.cons (.for_ (.nm 2) (.of (.bin .add (.b1 .list (.peek 0)) (.lst (.cons (.c (.int 3)) (.cons (.c (.int 4)) (.cons (.c (.int 5)) .nil)))))) b_law_k40_1) (.cons (.asg (.nm 3) (.b1 .list (.peek 1))) (.cons (.frz [1]) (.cons (.ife (.or (.not (.call .law_same (.cons (.call .in_order (.cons (.v 3) .nil)) (.cons (.call .law_sorted (.cons (.v 1) .nil)) .nil)))) (.not (.call .law_same (.cons (.v 3) (.cons (.v 1) .nil))))) (.cons (.ret (.c (.bl false))) .nil) .nil) (.cons (.asg (.nm 4) (.c (.str (tx "abcdefghijabcdefghijabcdefghijabcdefghij")))) (.cons (.mkl 5 (.comp [9] (.nm 9) (.of (.lst (.cons (.c (.int 0)) (.cons (.c (.int 999999)) (.cons (.c (.str (tx ""))) (.cons (.c (.str (tx "a b~"))) (.cons (.v 4) (.cons (.c (.int 1000000)) (.cons (.neg (.c (.int 1))) (.cons (.c (.bl true)) (.cons (.c .non) (.cons (.tup (.cons (.c (.int 1)) .nil)) (.cons (.bin .add (.peek 4) (.c (.str (tx "a")))) (.cons (.bin .add (.c (.str (tx "a"))) (.c (.str [10]))) .nil)))))))))))))) .none (.call .kind_of (.cons (.v 9) .nil)))) (.cons (.mkl 6 (.lst (.cons (.c (.str (tx "number"))) (.cons (.c (.str (tx "number"))) (.cons (.c (.str (tx "text"))) (.cons (.c (.str (tx "text"))) (.cons (.c (.str (tx "text"))) (.cons (.c .non) (.cons (.c .non) (.cons (.c .non) (.cons (.c .non) (.cons (.c .non) (.cons (.c .non) (.cons (.c .non) .nil)))))))))))))) (.cons (.for_ (.nm 2) (.of (.v 0)) b_law_k40_2) (.cons (.mkl 5 (.bin .add (.peek 5) (.lst (.cons (.call .is_text (.cons (.c (.str (tx "~"))) .nil)) (.cons (.call .is_text (.cons (.c (.int 7)) .nil)) (.cons (.call .is_text (.cons (.c (.str [9])) .nil)) (.cons (.call .is_number (.cons (.c (.bl false)) (.cons (.c (.int 5)) .nil))) (.cons (.call .is_number (.cons (.c (.str (tx "1"))) (.cons (.c (.int 5)) .nil))) .nil)))))))) (.cons (.frz [5]) (.cons (.ret (.call .law_same (.cons (.v 5) (.cons (.bin .add (.peek 6) (.lst (.cons (.c (.bl true)) (.cons (.c (.bl false)) (.cons (.c (.bl false)) (.cons (.c (.bl false)) (.cons (.c (.bl false)) .nil))))))) .nil)))) .nil))))))))))))⟩
def d_value_octets : FDef := ⟨1, 2, (.cons (.ife (.isi (.peek 0) .str) (.cons (.ret (.bin .add (.bin .add (.tup (.cons (.c (.int 2)) .nil)) (.b1 .tuple (.comp [1] (.nm 1) (.of (.v 0)) .none (.b1 .ord (.peek 1))))) (.tup (.cons (.c (.int 0)) .nil)))) .nil) .nil) (.cons (.ret (.tup (.cons (.c (.int 1)) (.cons (.bin .fdiv (.peek 0) (.c (.int 65536))) (.cons (.bin .mod (.bin .fdiv (.peek 0) (.c (.int 256))) (.c (.int 256))) (.cons (.bin .mod (.peek 0) (.c (.int 256))) .nil)))))) .nil))⟩
def b_body_1 : Stms := (.cons (.asg (.nm 1) (.bin .add (.peek 1) (.call .value_octets (.cons (.v 2) .nil)))) .nil)
def d_body : FDef := ⟨1, 3, (.cons (.asg (.nm 1) (.tup .nil)) (.cons (.for_ (.nm 2) (.of (.v 0)) b_body_1) (.cons (.ret (.v 1)) .nil)))⟩
def d_range_of : FDef := ⟨1, 2, (.cons (.asg (.nm 1) (.call .body (.cons (.v 0) .nil))) (.cons (.ret (.tup (.cons (.v 1) (.cons (.bin .add (.peek 1) (.tup (.cons (.c (.int 3)) .nil))) .nil)))) .nil))⟩
def d_range_of_text : FDef := ⟨2, 4, (.cons (.asg (.nm 2) (.bin .add (.bin .add (.call .body (.cons (.v 0) .nil)) (.tup (.cons (.c (.int 2)) .nil))) (.b1 .tuple (.comp [3] (.nm 3) (.of (.v 1)) .none (.b1 .ord (.peek 3)))))) (.cons (.ret (.tup (.cons (.v 2) (.cons (.bin .add (.peek 2) (.tup (.cons (.c (.int 127)) .nil))) .nil)))) .nil))⟩
def b_wish_ranges_1 : Stms := (.cons (.asg (.nm 3) (.bin .add (.peek 3) (.call .wish_ranges (.cons (.v 4) (.cons (.v 1) (.cons (.v 2) .nil)))))) .nil)
def d_wish_ranges : FDef := ⟨3, 7, (.cons (.asg (.tp [(.nm 5), (.nm 6)]) (.v 0)) (.cons (.ife (.cmp .eq (.peek 5) (.c (.str (tx "word")))) (.cons (.ret (.lst (.cons (.call .range_of (.cons (.tup (.cons (.c (.str (tx "w"))) (.cons (.v 1) (.cons (.v 2) (.cons (.v 6) .nil))))) .nil)) .nil))) .nil) .nil) (.cons (.ife (.cmp .eq (.peek 5) (.c (.str (tx "begins")))) (.cons (.ret (.lst (.cons (.call .range_of_text (.cons (.tup (.cons (.c (.str (tx "w"))) (.cons (.v 1) (.cons (.v 2) .nil)))) (.cons (.v 6) .nil))) .nil))) .nil) .nil) (.cons (.ife (.cmp .eq (.peek 5) (.c (.str (tx "none")))) (.cons (.ret (.bin .add (.lst (.cons (.call .range_of (.cons (.tup (.cons (.c (.str (tx "t"))) (.cons (.v 1) .nil))) .nil)) .nil)) (.call .wish_ranges (.cons (.v 6) (.cons (.v 1) (.cons (.v 2) .nil)))))) .nil) .nil) (.cons (.asg (.nm 3) (.lst .nil)) (.cons (.for_ (.nm 4) (.of (.v 6)) b_wish_ranges_1) (.cons (.ret (.v 3)) .nil)))))))⟩
def d_unlike : FDef := ⟨1, 2, (.cons (.ret (.b1 .list (.dcomp [1] (.nm 1) (.of (.v 0)) .none (.v 1) (.c (.bl true))))) .nil)⟩
def d_chain_of : FDef := ⟨1, 5, (.cons (.mtch (.v 0) (.cons (.seq [(.val (.str (tx "table"))), (.cap 1)]) (.cons (.ret (.tup (.cons (.v 1) (.cons (.lst .nil) .nil)))) .nil) (.cons (.seqs [(.val (.str (tx "pick"))), (.cap 2)] 3) (.cons (.asg (.nm 4) (.call .chain_of (.cons (.v 2) .nil))) (.cons (.ret (.ite (.cmp .is (.peek 4) (.c .non)) (.c .non) (.tup (.cons (.idx (.peek 4) (.c (.int 0))) (.cons (.lst (.star (.idx (.peek 4) (.c (.int 1))) (.cons (.b1 .tuple (.peek 3)) .nil))) .nil))))) .nil)) .nil))) (.cons (.ret (.c .non)) .nil))⟩
def d_wanted_value : FDef := ⟨2, 5, (.cons (.ret (.slc (.comp [2, 3, 4] (.tp [(.nm 2), (.nm 3), (.nm 4)]) (.of (.v 0)) (.some (.and (.cmp .eq (.peek 2) (.peek 1)) (.cmp .eq (.peek 3) (.c (.str (tx "=")))))) (.v 4)) .none (.some (.c (.int 1))))) .nil)⟩
def b_beginning_of_1 : Stms := (.cons (.asg (.nm 7) (.call .wanted_value (.cons (.v 4) (.cons (.v 5) .nil)))) (.cons (.ife (.not (.peek 7)) (.cons .brk .nil) .nil) (.cons (.ext 2 (.v 7)) .nil)))
def d_beginning_of : FDef := ⟨2, 8, (.cons (.asg (.tp [(.nm 3), (.nm 4)]) (.v 0)) (.cons (.mkl 2 (.lst (.cons (.c (.str (tx "t"))) (.cons (.v 3) .nil)))) (.cons (.for_ (.tp [(.nm 5), (.nm 6)]) (.of (.call .columns_of (.cons (.v 1) (.cons (.v 3) .nil)))) b_beginning_of_1) (.cons (.ret (.b1 .tuple (.peek 2))) .nil))))⟩
def d_ranges_of : FDef := ⟨2, 8, (.cons (.asg (.nm 2) (.call .chain_of (.cons (.v 0) .nil))) (.cons (.ife (.cmp .isnot (.peek 2) (.c .non)) (.cons (.ret (.lst (.cons (.call .range_of (.cons (.call .beginning_of (.cons (.v 2) (.cons (.v 1) .nil))) .nil)) .nil))) .nil) .nil) (.cons (.mtch (.v 0) (.cons (.seq [(.val (.str (tx "found"))), (.cap 3), (.cap 4), (.cap 5)]) (.cons (.ret (.call .wish_ranges (.cons (.v 5) (.cons (.v 3) (.cons (.v 4) .nil))))) .nil) (.cons (.seq [(.alt [(.str (tx "join")), (.str (tx "unite")), (.str (tx "less"))]), (.cap 6), (.cap 7)]) (.cons (.ret (.bin .add (.call .ranges_of (.cons (.v 6) (.cons (.v 1) .nil))) (.call .ranges_of (.cons (.v 7) (.cons (.v 1) .nil))))) .nil) .nil))) (.cons (.ret (.call .ranges_of (.cons (.idx (.peek 0) (.c (.int 1))) (.cons (.v 1) .nil)))) .nil))))⟩
def d_needs : FDef := ⟨2, 2, (.cons (.expr (.call .columns (.cons (.v 0) (.cons (.v 1) .nil)))) (.cons (.ret (.call .unlike (.cons (.call .ranges_of (.cons (.v 0) (.cons (.v 1) .nil))) .nil))) .nil))⟩
def b_law_once_1 : Stms := (.cons (.ife (.cmp .notin (.peek 2) (.peek 1)) (.cons (.app 1 (.v 2)) .nil) .nil) .nil)
def d_law_once : FDef := ⟨1, 3, (.cons (.mkl 1 (.lst .nil)) (.cons (.for_ (.nm 2) (.of (.v 0)) b_law_once_1) (.cons (.frz [1]) (.cons (.ret (.v 1)) .nil))))⟩
def b_law_chain_1 : Stms := (.cons (.asg (.nm 8) (.idx (.idx (.peek 3) (.c (.int 1))) (.bin .mod (.b1 .int (.idx (.peek 2) (.bin .add (.c (.int 2)) (.bin .mul (.c (.int 3)) (.peek 6))))) (.b1 .len (.idx (.peek 3) (.c (.int 1))))))) (.cons (.ife (.and (.cmp .lt (.peek 6) (.c (.int 2))) (.cmp .eq (.bin .mod (.bin .fdiv (.b1 .int (.idx (.peek 2) (.c (.int 1)))) (.c (.int 5))) (.c (.int 2))) (.c (.int 0)))) (.cons (.asg (.nm 8) (.idx (.idx (.peek 3) (.c (.int 1))) (.min2 (.v 6) (.bin .sub (.b1 .len (.idx (.peek 3) (.c (.int 1)))) (.c (.int 1)))))) .nil) .nil) (.cons (.asg (.nm 9) (.idx (.lst (.cons (.c (.str (tx "="))) (.cons (.c (.str (tx "="))) (.cons (.c (.str (tx "="))) (.cons (.c (.str (tx "<"))) (.cons (.c (.str (tx ">"))) (.cons (.c (.str (tx "<>"))) .nil))))))) (.bin .mod (.b1 .int (.idx (.peek 2) (.bin .add (.c (.int 3)) (.bin .mul (.c (.int 3)) (.peek 6))))) (.c (.int 6))))) (.cons (.asg (.nm 10) (.call .law_value (.cons (.idx (.peek 8) (.c (.int 1))) (.cons (.idx (.peek 2) (.bin .add (.c (.int 4)) (.bin .mod (.bin .mul (.c (.int 3)) (.peek 6)) (.c (.int 9))))) .nil)))) (.cons (.asg (.nm 4) (.tup (.cons (.c (.str (tx "pick"))) (.cons (.v 4) (.cons (.idx (.peek 8) (.c (.int 0))) (.cons (.v 9) (.cons (.v 10) .nil))))))) (.cons (.app 5 (.tup (.cons (.idx (.peek 8) (.c (.int 0))) (.cons (.v 9) (.cons (.v 10) .nil))))) .nil))))))
def b_law_chain_2 : Stms := (.cons (.frz [5]) (.cons (.asg (.nm 11) (.comp [12] (.nm 12) (.of (.v 5)) (.some (.and (.cmp .eq (.idx (.peek 12) (.c (.int 0))) (.idx (.peek 8) (.c (.int 0)))) (.cmp .eq (.idx (.peek 12) (.c (.int 1))) (.c (.str (tx "=")))))) (.idx (.peek 12) (.c (.int 2))))) (.cons (.ife (.not (.peek 11)) (.cons .brk .nil) .nil) (.cons (.asg (.nm 7) (.bin .add (.peek 7) (.tup (.cons (.idx (.peek 11) (.c (.int 0))) .nil)))) .nil))))
def d_law_chain : FDef := ⟨2, 13, (.cons (.asg (.nm 2) (.call .law_draws (.cons (.v 1) (.cons (.c (.int 14)) .nil)))) (.cons (.asg (.nm 3) (.idx (.peek 0) (.bin .mod (.b1 .int (.idx (.peek 2) (.c (.int 0)))) (.b1 .len (.peek 0))))) (.cons (.asg (.nm 4) (.tup (.cons (.c (.str (tx "table"))) (.cons (.idx (.peek 3) (.c (.int 0))) .nil)))) (.cons (.mkl 5 (.lst .nil)) (.cons (.for_ (.nm 6) (.rng (.bin .mod (.b1 .int (.idx (.peek 2) (.c (.int 1)))) (.c (.int 5)))) b_law_chain_1) (.cons (.asg (.nm 7) (.tup (.cons (.c (.str (tx "t"))) (.cons (.idx (.peek 3) (.c (.int 0))) .nil)))) (.cons (.for_ (.nm 8) (.of (.idx (.peek 3) (.c (.int 1)))) b_law_chain_2) (.cons (.ret (.lst (.cons (.v 4) (.cons (.call .range_of (.cons (.v 7) .nil)) .nil)))) .nil))))))))⟩
def b_law_k54_1 : Stms := (.cons (.asg (.nm 3) (.call .law_chain (.cons (.v 1) (.cons (.v 2) .nil)))) (.cons (.asg (.nm 4) (.call .law_chain (.cons (.v 1) (.cons (.bin .add (.b1 .int (.peek 2)) (.c (.int 1))) .nil)))) (.cons (.ife (.not (.call .law_same (.cons (.lst (.cons (.call .needs (.cons (.idx (.peek 3) (.c (.int 0))) (.cons (.v 1) .nil))) (.cons (.call .needs (.cons (.idx (.peek 4) (.c (.int 0))) (.cons (.v 1) .nil))) .nil))) (.cons (.lst (.cons (.lst (.cons (.idx (.peek 3) (.c (.int 1))) .nil)) (.cons (.lst (.cons (.idx (.peek 4) (.c (.int 1))) .nil)) .nil))) .nil)))) (.cons (.ret (.c (.bl false))) .nil) .nil) (.cons (.asg (.nm 5) (.call .law_wish (.cons (.bin .fdiv (.b1 .int (.peek 2)) (.c (.int 7))) .nil))) (.cons (.asg (.nm 6) (.tup (.cons (.c (.str (tx "found"))) (.cons (.c (.str (tx "a"))) (.cons (.c (.str (tx "t"))) (.cons (.v 5) .nil)))))) (.cons (.asg (.nm 7) (.call .law_once (.cons (.call .wish_ranges (.cons (.v 5) (.cons (.c (.str (tx "a"))) (.cons (.c (.str (tx "t"))) .nil)))) .nil))) (.cons (.ife (.not (.call .law_same (.cons (.call .needs (.cons (.v 6) (.cons (.v 1) .nil))) (.cons (.v 7) .nil)))) (.cons (.ret (.c (.bl false))) .nil) .nil) (.cons (.asg (.nm 8) (.tup (.cons (.c (.str (tx "pick"))) (.cons (.tup (.cons (.c (.str (tx "count"))) (.cons (.idx (.peek 3) (.c (.int 0))) (.cons (.tup .nil) .nil)))) (.cons (.c (.str (tx "count"))) (.cons (.c (.str (tx "="))) (.cons (.c (.int 3)) .nil))))))) (.cons (.asg (.nm 9) (.tup (.cons (.c (.str (tx "join"))) (.cons (.tup (.cons (.c (.str (tx "keep"))) (.cons (.v 6) (.cons (.tup (.cons (.c (.str (tx "t"))) .nil)) .nil)))) (.cons (.tup (.cons (.c (.str (tx "pick"))) (.cons (.tup (.cons (.c (.str (tx "name"))) (.cons (.tup (.cons (.c (.str (tx "keep"))) (.cons (.tup (.cons (.c (.str (tx "table"))) (.cons (.c (.str (tx "a"))) .nil))) (.cons (.tup (.cons (.c (.str (tx "n"))) .nil)) .nil)))) (.cons (.c (.str (tx "n"))) (.cons (.c (.str (tx "x"))) .nil))))) (.cons (.c (.str (tx "x"))) (.cons (.c (.str (tx "="))) (.cons (.c (.int 2)) .nil)))))) .nil))))) (.cons (.asg (.nm 10) (.call .law_once (.cons (.bin .add (.peek 7) (.lst (.cons (.call .range_of (.cons (.tup (.cons (.c (.str (tx "t"))) (.cons (.c (.str (tx "a"))) .nil))) .nil)) .nil))) .nil))) (.cons (.ife (.not (.call .law_same (.cons (.lst (.cons (.call .needs (.cons (.v 8) (.cons (.v 1) .nil))) (.cons (.call .needs (.cons (.v 9) (.cons (.v 1) .nil))) .nil))) (.cons (.lst (.cons (.lst (.cons (.idx (.peek 3) (.c (.int 1))) .nil)) (.cons (.v 10) .nil))) .nil)))) (.cons (.ret (.c (.bl false))) .nil) .nil) (.cons (.asg (.nm 11) (.tup (.cons (.c (.str (tx "unite"))) (.cons (.tup (.cons (.c (.str (tx "count"))) (.cons (.idx (.peek 3) (.c (.int 0))) (.cons (.tup .nil) .nil)))) (.cons (.tup (.cons (.c (.str (tx "count"))) (.cons (.idx (.peek 3) (.c (.int 0))) (.cons (.tup .nil) .nil)))) .nil))))) (.cons (.asg (.nm 12) (.tup (.cons (.c (.str (tx "less"))) (.cons (.tup (.cons (.c (.str (tx "count"))) (.cons (.idx (.peek 3) (.c (.int 0))) (.cons (.tup .nil) .nil)))) (.cons (.tup (.cons (.c (.str (tx "count"))) (.cons (.idx (.peek 4) (.c (.int 0))) (.cons (.tup .nil) .nil)))) .nil))))) (.cons (.ife (.not (.call .law_same (.cons (.lst (.cons (.call .needs (.cons (.v 11) (.cons (.v 1) .nil))) (.cons (.call .needs (.cons (.v 12) (.cons (.v 1) .nil))) .nil))) (.cons (.lst (.cons (.lst (.cons (.idx (.peek 3) (.c (.int 1))) .nil)) (.cons (.call .law_once (.cons (.lst (.cons (.idx (.peek 3) (.c (.int 1))) (.cons (.idx (.peek 4) (.c (.int 1))) .nil))) .nil)) .nil))) .nil)))) (.cons (.ret (.c (.bl false))) .nil) .nil) .nil))))))))))))))
def d_law_k54 : FDef := ⟨1, 13, (.cons (.asg (.nm 1) (.call .law_schema_1 (.cons (.call .law_cell (.cons (.v 0) (.cons (.c (.int 0)) .nil))) .nil))) (.cons (.for_ (.nm 2) (.of (.bin .add (.lst (.cons (.c (.int 0)) (.cons (.c (.int 1)) (.cons (.c (.int 2)) (.cons (.c (.int 3)) (.cons (.c (.int 4)) .nil)))))) (.b1 .list (.peek 0)))) b_law_k54_1) (.cons (.ret (.c (.bl true))) .nil)))⟩
def G : FN → Option FDef
  | .is_number => some d_is_number
  | .is_day => some d_is_day
  | .are_days => some d_are_days
  | .is_pair => some d_is_pair
  | .are_spans => some d_are_spans
  | .holds => some d_holds
  | .points_of => some d_points_of
  | .joined => some d_joined
  | .pieces => some d_pieces
  | .unite => some d_unite
  | .meet => some d_meet
  | .less => some d_less
  | .law_draws => some d_law_draws
  | .law_same => some d_law_same
  | .law_points => some d_law_points
  | .law_spans => some d_law_spans
  | .law_set => some d_law_set
  | .law_k41 => some d_law_k41
  | .law_k42 => some d_law_k42
  | .is_text => some d_is_text
  | .kind_of => some d_kind_of
  | .is_name => some d_is_name
  | .are_unlike => some d_are_unlike
  | .columns_of => some d_columns_of
  | .place_of => some d_place_of
  | .is_word => some d_is_word
  | .is_word_wish => some d_is_word_wish
  | .is_deep_wish => some d_is_deep_wish
  | .is_wish => some d_is_wish
  | .refuse_if => some d_refuse_if
  | .needed => some d_needed
  | .table_columns => some d_table_columns
  | .chosen => some d_chosen
  | .renamed => some d_renamed
  | .both_columns => some d_both_columns
  | .with_number => some d_with_number
  | .picked_columns => some d_picked_columns
  | .same_columns => some d_same_columns
  | .summed_columns => some d_summed_columns
  | .found_columns => some d_found_columns
  | .kept_columns => some d_kept_columns
  | .columns => some d_columns
  | .deep_columns => some d_deep_columns
  | .law_cell => some d_law_cell
  | .law_schema_1 => some d_law_schema_1
  | .law_value => some d_law_value
  | .law_table => some d_law_table
  | .law_wish => some d_law_wish
  | .law_names => some d_law_names
  | .law_columns => some d_law_columns
  | .law_text_table => some d_law_text_table
  | .law_base => some d_law_base
  | .law_pick => some d_law_pick
  | .law_stage => some d_law_stage
  | .law_question_1 => some d_law_question_1
  | .law_k47 => some d_law_k47
  | .order_of => some d_order_of
  | .in_order => some d_in_order
  | .law_sorted => some d_law_sorted
  | .law_any => some d_law_any
  | .law_k40 => some d_law_k40
  | .value_octets => some d_value_octets
  | .body => some d_body
  | .range_of => some d_range_of
  | .range_of_text => some d_range_of_text
  | .wish_ranges => some d_wish_ranges
  | .unlike => some d_unlike
  | .chain_of => some d_chain_of
  | .wanted_value => some d_wanted_value
  | .beginning_of => some d_beginning_of
  | .ranges_of => some d_ranges_of
  | .needs => some d_needs
  | .law_once => some d_law_once
  | .law_chain => some d_law_chain
  | .law_k54 => some d_law_k54
  | _ => none
end A3

-- PureS
set_option linter.all false
set_option maxRecDepth 100000
/-! PureS: what the defs about days and spans compute. -/
namespace A3
variable {n : Nat} {S : Store}
theorem is_number_int (v m : Int) : callN G (n + 1) .is_number [.int v, .int m] S = .ok (.bl (decide (0 ≤ v) && decide (v ≤ m))) S := by
  rw [callN_eq G n _ _ _ (d := d_is_number) rfl, run_eq _ _ _ _ rfl]
  by_cases h : 0 ≤ v <;> simp [d_is_number, Stms.ev, Stm.ev, E.ev, R.bind, R.st, R.of, Ty.ev, PV.truth, CO.ev, leV, Cell.pv, RS.fin, h]
theorem is_day_int (v : Int) : callN G (n + 2) .is_day [.int v] S = .ok (.bl (decide (0 ≤ v) && decide (v ≤ 9999))) S := by
  rw [callN_eq G (n + 1) _ _ _ (d := d_is_day) rfl, run_eq _ _ _ _ rfl]
  simp [d_is_day, Stms.ev, Stm.ev, E.ev, Es.ev, BO.ev, subV, RS.fin, is_number_int]
theorem are_days_int (a b : Int) : callN G (n + 3) .are_days [.int a, .int b] S = .ok (.bl ((decide (0 ≤ a) && decide (a ≤ 9999)) && ((decide (0 ≤ b) && decide (b ≤ 10000)) && decide (a < b)))) S := by
  rw [callN_eq G (n + 2) _ _ _ (d := d_are_days) rfl, run_eq _ _ _ _ rfl]
  simp only [d_are_days, Stms.ev, Stm.ev, E.ev, Es.ev, is_day_int, is_number_int, List.map_cons, List.map_nil, List.cons_append, List.nil_append, List.getElem?_cons_zero, List.getElem?_cons_succ, R.bind_ok', PV.truth, R.of_some]
  by_cases h : (decide (0 ≤ a) && decide (a ≤ 9999)) = true
  · rw [h]
    by_cases h2 : (decide (0 ≤ b) && decide (b ≤ 10000)) = true
    · rw [h2]; simp [CO.ev, ltV, Cell.pv, RS.fin]
    · rw [Bool.not_eq_true] at h2
      rw [h2]; simp [RS.fin]
  · rw [Bool.not_eq_true] at h
    rw [h]; simp [RS.fin]

theorem is_pair_prs (a b : Int) : callN G (n + 4) .is_pair [.tup [.int a, .int b]] S = .ok (.bl ((decide (0 ≤ a) && decide (a ≤ 9999)) && ((decide (0 ≤ b) && decide (b ≤ 10000)) && decide (a < b)))) S := by
  rw [callN_eq G (n + 3) _ _ _ (d := d_is_pair) rfl, run_eq _ _ _ _ rfl]
  simp [d_is_pair, Stms.ev, Stm.ev, E.ev, Es.ev, Ty.ev, PV.truth, CO.ev, B1.ev, lenV, eqV', PV.dok, PV.eqv, idxEv, ixOf, Cell.pv, RS.fin, are_days_int]
/-- is the day in one of the spans -/
def holdsP (ps : List (Int × Int)) (d : Int) : Bool := ps.any fun p => decide (p.1 ≤ d) && decide (d < p.2)
theorem holds_prs (ps : List (Int × Int)) (d : Int) : callN G (n + 1) .holds [.tup (prs ps), .int d] S = .ok (.bl (holdsP ps d)) S := by
  rw [callN_eq G n _ _ _ (d := d_holds) rfl, run_eq _ _ _ _ rfl]
  simp only [d_holds, Stms.ev, Stm.ev, E.ev, It.ev, List.map_cons, List.map_nil, List.cons_append, List.nil_append, List.getElem?_cons_zero, R.bind_ok', iterOf, R.of_some, OE.tst]
  unfold prs
  rw [compL_map1 (fun p : Int × Int => PV.tup [.int p.1, .int p.2]) (fun p => .bl (decide (p.1 ≤ d) && decide (d < p.2))) ps fun p hp => ?_]
  · simp only [R.bind_ok', B1.ev, anyV]
    rw [show (ps.map fun p => PV.bl (decide (p.1 ≤ d) && decide (d < p.2))) = (ps.map fun p => (decide (p.1 ≤ d) && decide (d < p.2))).map .bl by simp, allBools_of]
    simp only [Option.map_some, R.of_some, R.st_ok, RS.fin, List.any_map]
    rfl
  · by_cases h : p.1 ≤ d <;> simp [Tg.bind, Tg.binds, setS, wipeR, CO.ev, leV, ltV, Cell.pv, h]
def validP (p : Int × Int) : Bool := (decide (0 ≤ p.1) && decide (p.1 ≤ 9999)) && ((decide (0 ≤ p.2) && decide (p.2 ≤ 10000)) && decide (p.1 < p.2))
def apartP : List (Int × Int) → Bool
  | p :: q :: r => decide (p.2 < q.1) && apartP (q :: r)
  | _ => true
theorem apart_range : ∀ (ps : List (Int × Int)), ((List.range (ps.length - 1)).map fun k => decide ((ps[k]?.map (·.2)).getD 0 < (ps[k + 1]?.map (·.1)).getD 0)).all id = apartP ps
  | [] => rfl
  | [p] => rfl
  | p :: q :: r => by
    have ih := apart_range (q :: r)
    rw [show (p :: q :: r).length - 1 = (q :: r).length - 1 + 1 by simp, List.range_succ_eq_map]
    simp only [List.map_cons, List.all_cons, List.map_map]
    rw [show apartP (p :: q :: r) = (decide (p.2 < q.1) && apartP (q :: r)) from rfl, ← ih]
    rfl
theorem are_spans_prs (ps : List (Int × Int)) (hl : ps.length ≤ 16777216) : callN G (n + 5) .are_spans [.tup (prs ps)] S = .ok (.bl (ps.all validP && apartP ps)) S := by
  rw [callN_eq G (n + 4) _ _ _ (d := d_are_spans) rfl, run_eq _ _ _ _ rfl]
  simp only [d_are_spans, Stms.ev, Stm.ev, E.ev, Es.ev, It.ev, List.map_cons, List.map_nil, List.cons_append, List.nil_append, List.getElem?_cons_zero, R.bind_ok', R.st_ok, iterOf, R.of_some, OE.tst, Ty.ev, Cell.pv, Option.map_some, PV.truth, Bool.not_true, Bool.false_eq_true, if_false]
  have e1 : ∀ f : PV → Store → R (List PV), (∀ p ∈ ps, f (.tup [.int p.1, .int p.2]) S = .ok [.bl (validP p)] S) → compL f (prs ps) S = .ok ((ps.map validP).map .bl) S := fun f h => by
    rw [List.map_map]
    exact compL_map1 (fun p : Int × Int => PV.tup [.int p.1, .int p.2]) (fun p => .bl (validP p)) ps h
  rw [e1 _ fun p hp => by simp [Tg.bind, setS, wipeR, is_pair_prs, validP]]
  simp only [R.bind_ok', B1.ev, allV, allBools_of, Option.map_some, R.of_some, PV.truth, R.st_ok, List.all_map]
  by_cases h : (ps.all (id ∘ validP)) = true
  · have h2 : ps.all validP = true := by simpa using h
    have e2 : ∀ f : PV → Store → R (List PV), (∀ k, k < ps.length - 1 → f (.int (k : Int)) S = .ok [.bl (decide ((ps[k]?.map (·.2)).getD 0 < (ps[k + 1]?.map (·.1)).getD 0))] S) → compL f (upto 0 (ps.length - 1)) S = .ok (((List.range (ps.length - 1)).map fun k => decide ((ps[k]?.map (·.2)).getD 0 < (ps[k + 1]?.map (·.1)).getD 0)).map .bl) S := fun f hf => by
      rw [upto0, List.map_map]
      exact compL_map1 (fun k : Nat => PV.int k) (fun k => .bl (decide ((ps[k]?.map (·.2)).getD 0 < (ps[k + 1]?.map (·.1)).getD 0))) _ fun k hk => hf k (List.mem_range.mp hk)
    rw [h]
    have hr : rngOk ((ps.length : Int) - 1) = true := by unfold rngOk; simp; omega
    have hn : ((ps.length : Int) - 1).toNat = ps.length - 1 := by omega
    have hlen : (prs ps).length = ps.length := by unfold prs; simp
    simp only [Bool.not_true, lenV, BO.ev, subV, R.of_some, R.bind_ok', hlen, hr, if_true, hn, List.getElem?_cons_zero, Cell.pv]
    rw [e2 _ fun k hk => ?_]
    · simp only [R.bind_ok', R.of_some, allBools_of, Option.map_some, R.st_ok, RS.fin, apart_range, h2, Bool.true_and]
    · have g0 : (prs ps)[k]? = some (.tup [.int ps[k].1, .int ps[k].2]) := by
        unfold prs; rw [List.getElem?_map, List.getElem?_eq_getElem (by omega)]; rfl
      have g1 : (prs ps)[k + 1]? = some (.tup [.int ps[k + 1].1, .int ps[k + 1].2]) := by
        unfold prs; rw [List.getElem?_map, List.getElem?_eq_getElem (by omega)]; rfl
      have i0 := idx_tup g0
      have i1 := idx_tup g1
      rw [show ((k + 1 : Nat) : Int) = (k : Int) + 1 by omega] at i1
      simp [Tg.bind, setS, wipeR, Cell.pv, i0, i1, addV, CO.ev, ltV, idx2_0, idx2_1]
      rw [List.getElem?_eq_getElem (by omega), List.getElem?_eq_getElem (by omega)]
      rfl
  · have h2 : ps.all validP = false := by simpa using h
    rw [Bool.not_eq_true] at h
    rw [h, h2]
    rfl

def flat (rows : List (List (Int × Int))) : List Int := rows.flatMap fun r => r.flatMap fun p => [p.1, p.2]
theorem flat_map {α : Type} (f : α → List Int) (xs : List α) : (xs.flatMap fun x => (f x).map PV.int) = (xs.flatMap f).map PV.int := by
  induction xs with
  | nil => rfl
  | cons x xs ih => rw [List.flatMap_cons, List.flatMap_cons, ih, List.map_append]
theorem points_of_prs (rows : List (List (Int × Int))) (h : (dist (flat rows)).length < 64) : callN G (n + 1) .points_of [.lst (rows.map fun r => .tup (prs r))] S = .ok (.lst ((sortU (flat rows)).map .int)) S := by
  rw [callN_eq G n _ _ _ (d := d_points_of) rfl, run_eq _ _ _ _ rfl]
  have e3 : ∀ (f : PV → Store → R (List PV)) (p : Int × Int), (∀ x, f x S = .ok [x] S) → compL f [.int p.1, .int p.2] S = .ok ([p.1, p.2].map .int) S := fun f p hf => by
    simp [compL, hf]
  have e2 : ∀ (f : PV → Store → R (List PV)) (r : List (Int × Int)), (∀ p ∈ r, f (.tup [.int p.1, .int p.2]) S = .ok ([p.1, p.2].map .int) S) → compL f (prs r) S = .ok ((r.flatMap fun p => [p.1, p.2]).map .int) S := fun f r hf => by
    rw [← flat_map]
    exact compL_of _ (fun p : Int × Int => [p.1, p.2].map PV.int) r hf
  have e1 : ∀ (f : PV → Store → R (List PV)), (∀ r ∈ rows, f (.tup (prs r)) S = .ok ((r.flatMap fun p => [p.1, p.2]).map .int) S) → compL f (rows.map fun r => .tup (prs r)) S = .ok ((flat rows).map .int) S := fun f hf => by
    unfold flat
    rw [← flat_map]
    exact compL_of _ (fun r : List (Int × Int) => (r.flatMap fun p => [p.1, p.2]).map PV.int) rows hf
  simp only [d_points_of, Stms.ev, Stm.ev, E.ev, It.ev, List.map_cons, List.map_nil, List.cons_append, List.nil_append, List.getElem?_cons_zero, R.bind_ok', iterOf, R.of_some]
  rw [if_pos (show noOl _ = true from rfl), e1 _ fun r hr => ?_]
  · simp only [R.bind_ok', allInts_of, h, if_true, R.st_ok, RS.fin]
  · simp only [fStep, Tg.bind, setS, wipeR]
    simp only [List.replicate, List.set_cons_zero, List.set_cons_succ, List.getElem?_cons_zero, List.getElem?_cons_succ, R.bind_ok', iterOf, R.of_some, Nat.reduceSub]
    rw [e2 _ r fun p hp => ?_]
    simp only [fStep, Tg.bind, setS, List.set_cons_zero, List.set_cons_succ, List.getElem?_cons_zero, List.getElem?_cons_succ, R.bind_ok', iterOf, R.of_some]
    exact e3 _ p fun x => by simp [fStep, Tg.bind, setS]
/-- neighbours -/
def piecesP (pts : List Int) : List (Int × Int) := pts.zip pts.tail
theorem pieces_range : ∀ (pts : List Int), (List.range (pts.length - 1)).map (fun k => ((pts[k]?).getD 0, (pts[k + 1]?).getD 0)) = piecesP pts
  | [] => rfl
  | [p] => rfl
  | p :: q :: r => by
    have ih := pieces_range (q :: r)
    rw [show (p :: q :: r).length - 1 = (q :: r).length - 1 + 1 by simp, List.range_succ_eq_map]
    simp only [List.map_cons, List.map_map]
    rw [show piecesP (p :: q :: r) = (p, q) :: piecesP (q :: r) from rfl, ← ih]
    rfl
theorem pieces_ints (pts : List Int) (hl : pts.length ≤ 16777216) : callN G (n + 1) .pieces [.lst (pts.map .int)] S = .ok (.lst (prs (piecesP pts))) S := by
  rw [callN_eq G n _ _ _ (d := d_pieces) rfl, run_eq _ _ _ _ rfl]
  have hr : rngOk ((pts.length : Int) - 1) = true := by unfold rngOk; simp; omega
  have hn : ((pts.length : Int) - 1).toNat = pts.length - 1 := by omega
  have e2 : ∀ f : PV → Store → R (List PV), (∀ k, k < pts.length - 1 → f (.int (k : Int)) S = .ok [.tup [.int ((pts[k]?).getD 0), .int ((pts[k + 1]?).getD 0)]] S) → compL f (upto 0 (pts.length - 1)) S = .ok (prs (piecesP pts)) S := fun f hf => by
    rw [upto0, ← pieces_range]
    unfold prs
    rw [List.map_map]
    exact compL_map1 (fun k : Nat => PV.int k) (fun k => .tup [.int ((pts[k]?).getD 0), .int ((pts[k + 1]?).getD 0)]) _ fun k hk => hf k (List.mem_range.mp hk)
  simp only [d_pieces, Stms.ev, Stm.ev, E.ev, It.ev, List.map_cons, List.map_nil, List.cons_append, List.nil_append, List.getElem?_cons_zero, R.bind_ok', R.of_some, Cell.pv, B1.ev, lenV, BO.ev, subV, List.length_map, hr, if_true, hn, OE.tst]
  rw [e2 _ fun k hk => ?_]
  · simp only [R.bind_ok', R.st_ok, RS.fin]
  · have g0 : (pts.map PV.int)[k]? = some (.int pts[k]) := by rw [List.getElem?_map, List.getElem?_eq_getElem (by omega)]; rfl
    have g1 : (pts.map PV.int)[k + 1]? = some (.int pts[k + 1]) := by rw [List.getElem?_map, List.getElem?_eq_getElem (by omega)]; rfl
    have i0 := idx_lst g0
    have i1 := idx_lst g1
    rw [show ((k + 1 : Nat) : Int) = (k : Int) + 1 by omega] at i1
    simp [Tg.bind, setS, wipeR, Cell.pv, i0, i1, addV, Es.ev, E.ev, BO.ev]
    rw [List.getElem?_eq_getElem (by omega), List.getElem?_eq_getElem (by omega)]
    exact ⟨rfl, rfl⟩
/-- neighbours joined -/
def joinStep (sp : List (Int × Int)) (p : Int × Int) : List (Int × Int) :=
  match sp.getLast? with
  | some l => if l.2 = p.1 then sp.dropLast ++ [(l.1, p.2)] else sp ++ [p]
  | none => sp ++ [p]
def joinP (ps : List (Int × Int)) : List (Int × Int) := ps.foldl joinStep []
theorem joinStep_len (sp : List (Int × Int)) (p : Int × Int) : (joinStep sp p).length ≤ sp.length + 1 := by
  unfold joinStep
  split
  · split <;> simp
  · simp
theorem set_last {α : Type} (xs : List α) (h : xs ≠ []) (y : α) : xs.set (xs.length - 1) y = xs.dropLast ++ [y] := by
  have hl : 0 < xs.length := List.length_pos_iff.mpr h
  refine List.ext_getElem? fun i => ?_
  by_cases hi : i = xs.length - 1
  · subst hi
    rw [List.getElem?_set_self (by omega), List.getElem?_append_right (by simp)]
    simp
  · rw [List.getElem?_set_ne (Ne.symm hi)]
    by_cases h2 : i < xs.length - 1
    · rw [List.getElem?_append_left (by simpa using h2), List.getElem?_dropLast, if_pos h2]
    · rw [List.getElem?_eq_none (by omega), List.getElem?_eq_none (by simp; omega)]
theorem prs_app (a : List (Int × Int)) (p : Int × Int) : prs (a ++ [p]) = prs a ++ [.tup [.int p.1, .int p.2]] := by unfold prs; simp
theorem joined_body {cf : CallF} (a : List (Int × Int)) (p : Int × Int) (v : PV) (ha : a.length < 16777216) :
    b_joined_1.ev cf [some (.val v), some (.ol (prs a)), some (.val (.int p.1)), some (.val (.int p.2))] S = .nx [some (.val v), some (.ol (prs (joinStep a p))), some (.val (.int p.1)), some (.val (.int p.2))] S := by
  have hlen : (prs a).length = a.length := by unfold prs; simp
  by_cases h : a = []
  · subst h
    simp [b_joined_1, Stms.ev, Stm.ev, E.ev, Es.ev, PV.truth, Cell.pv, prs, joinStep, setS, lineN]
  · have hp : prs a ≠ [] := by unfold prs; simpa using h
    have hg : (prs a).getLast hp = .tup [.int (a.getLast h).1, .int (a.getLast h).2] := by unfold prs at hp ⊢; rw [List.getLast_map]
    have hgl : a.getLast? = some (a.getLast h) := List.getLast?_eq_some_getLast h
    have il := idx_last hp
    have e0 : (prs a).isEmpty = false := by simpa using hp
    simp only [b_joined_1, Stms.ev, Stm.ev, E.ev, Es.ev, List.getElem?_cons_zero, List.getElem?_cons_succ, R.bind_ok', R.of_some, R.st_ok, Cell.pv, PV.truth, e0, Bool.not_false, if_true, Int.reduceNeg, il, hg, idx2_1, idx2_0, CO.ev, eqV', PV.dok, Bool.and_self, PV.eqv, Option.map_some]
    by_cases he : (a.getLast h).2 = p.1
    · have hl : 0 < (prs a).length := List.length_pos_iff.mpr hp
      simp only [he, beq_self_eq_true, ixOf_last hl, setS, List.set_cons_zero, List.set_cons_succ]
      rw [set_last _ hp]
      unfold joinStep
      rw [hgl]
      simp only [he, if_true, prs_app]
      unfold prs
      rw [List.map_dropLast]
    · have hb : ((a.getLast h).2 == p.1) = false := by simpa using he
      simp only [hb, hlen, lineN, ha, if_true, setS, List.set_cons_zero, List.set_cons_succ]
      unfold joinStep
      rw [hgl]
      simp only [he, if_false, prs_app]
theorem joined_prs (ps : List (Int × Int)) (hl : ps.length ≤ 16777215) : callN G (n + 1) .joined [.lst (prs ps)] S = .ok (.tup (prs (joinP ps))) S := by
  rw [callN_eq G n _ _ _ (d := d_joined) rfl, run_eq _ _ _ _ rfl]
  have fold : ∀ (qs : List (Int × Int)) (a : List (Int × Int)) (x y : Option Cell), a.length + qs.length ≤ 16777215 →
      ∃ x' y', forL (.tp [.nm 2, .nm 3]) (fun ρ S => b_joined_1.ev (callN G n) ρ S) (prs qs) [some (.val (.lst (prs ps))), some (.ol (prs a)), x, y] S = .nx [some (.val (.lst (prs ps))), some (.ol (prs (qs.foldl joinStep a))), x', y'] S := fun qs => by
    induction qs with
    | nil => intro a x y _; exact ⟨x, y, rfl⟩
    | cons q qs ih =>
      intro a x y hz
      have hz' : (joinStep a q).length + qs.length ≤ 16777215 := by
        have := joinStep_len a q
        rw [List.length_cons] at hz
        omega
      obtain ⟨x', y', h⟩ := ih (joinStep a q) (some (.val (.int q.1))) (some (.val (.int q.2))) hz'
      refine ⟨x', y', ?_⟩
      rw [show prs (q :: qs) = .tup [.int q.1, .int q.2] :: prs qs from rfl]
      unfold forL
      simp only [Tg.bind, Tg.binds, setS, List.set_cons_zero, List.set_cons_succ, Option.bind_some]
      rw [joined_body a q _ (by rw [List.length_cons] at hz; omega)]
      exact h
  obtain ⟨x', y', h⟩ := fold ps [] none none (by simpa using hl)
  simp only [d_joined, Stms.ev, Stm.ev, E.ev, It.ev, Es.ev, List.map_cons, List.map_nil, List.cons_append, List.nil_append, List.getElem?_cons_zero, R.bind_ok', R.of_some, R.st_ok, setS, iterOf, List.replicate, Nat.reduceSub, List.set_cons_zero, List.set_cons_succ]
  rw [show prs [] = [] from rfl] at h
  rw [h]
  simp [B1.ev, tupleV, Cell.pv, RS.fin, joinP]

/-- two sets, piece by piece -/
def setP (op : Bool → Bool → Bool) (a b : List (Int × Int)) : List (Int × Int) := joinP ((piecesP (sortU (flat [a, b]))).filter fun p => op (holdsP a p.1) (holdsP b p.1))
theorem insU_len' (x : Int) : ∀ l : List Int, (insU x l).length ≤ l.length + 1
  | [] => Nat.le_refl _
  | y :: l => by
    unfold insU
    split
    · exact Nat.le_refl _
    · split
      · exact Nat.le_succ _
      · exact Nat.succ_le_succ (insU_len' x l)
theorem sortU_len : ∀ is : List Int, (sortU is).length ≤ is.length
  | [] => Nat.le_refl _
  | i :: is => by
    have := sortU_len is
    have := insU_len' i (sortU is)
    unfold sortU at *
    rw [List.foldr_cons, List.length_cons]
    omega
theorem foldU_len : ∀ (is us : List Int), (is.foldl (fun us y => if y ∈ us then us else y :: us) us).length ≤ us.length + is.length
  | [], us => Nat.le_refl _
  | i :: is, us => by
    rw [List.foldl_cons]
    have := foldU_len is (if i ∈ us then us else i :: us)
    have h : (if i ∈ us then us else i :: us).length ≤ us.length + 1 := by split <;> simp
    rw [List.length_cons]
    omega
theorem dist_len (is : List Int) : (dist is).length ≤ is.length := by
  have := foldU_len is []
  unfold dist
  simpa using this
theorem flat_len1 : ∀ (r : List (Int × Int)), (r.flatMap fun p => [p.1, p.2]).length = 2 * r.length
  | [] => rfl
  | p :: r => by rw [List.flatMap_cons, List.length_append, flat_len1 r, List.length_cons]; simp; omega
theorem flat_len2 (a b : List (Int × Int)) : (flat [a, b]).length = 2 * (a.length + b.length) := by
  unfold flat
  rw [List.flatMap_cons, List.flatMap_cons, List.flatMap_nil, List.append_nil, List.length_append, flat_len1, flat_len1]; omega
theorem pieces_len (pts : List Int) : (piecesP pts).length ≤ pts.length := by unfold piecesP; rw [List.length_zip]; omega
theorem set_found {cf : CallF} {a b : List (Int × Int)} (hl : a.length + b.length ≤ 31) : callN G (n + 1) .points_of [.lst [.tup (prs a), .tup (prs b)]] S = .ok (.lst ((sortU (flat [a, b])).map .int)) S :=
  points_of_prs [a, b] (by have := dist_len (flat [a, b]); rw [flat_len2] at this; omega)
theorem pieces_ok {a b : List (Int × Int)} (hl : a.length + b.length ≤ 31) : callN G (n + 1) .pieces [.lst ((sortU (flat [a, b])).map .int)] S = .ok (.lst (prs (piecesP (sortU (flat [a, b]))))) S :=
  pieces_ints _ (by have := sortU_len (flat [a, b]); rw [flat_len2] at this; omega)
theorem joined_ok {op : Bool → Bool → Bool} {a b : List (Int × Int)} (hl : a.length + b.length ≤ 31) : callN G (n + 1) .joined [.lst (prs ((piecesP (sortU (flat [a, b]))).filter fun p => op (holdsP a p.1) (holdsP b p.1)))] S = .ok (.tup (prs (setP op a b))) S :=
  joined_prs _ (by
    have h1 := sortU_len (flat [a, b])
    have h2 := pieces_len (sortU (flat [a, b]))
    have h3 := List.length_filter_le (fun p => op (holdsP a p.1) (holdsP b p.1)) (piecesP (sortU (flat [a, b])))
    rw [flat_len2] at h1
    omega)
theorem filt {f : PV → Store → R (List PV)} {c : Int × Int → Bool} {ps : List (Int × Int)} (H : ∀ p ∈ ps, f (.tup [.int p.1, .int p.2]) S = .ok (if c p then [.tup [.int p.1, .int p.2]] else []) S) : compL f (prs ps) S = .ok (prs (ps.filter c)) S :=
  compL_if (fun p : Int × Int => PV.tup [.int p.1, .int p.2]) (fun p => .tup [.int p.1, .int p.2]) c ps H
theorem unite_prs (a b : List (Int × Int)) (hl : a.length + b.length ≤ 31) : callN G (n + 2) .unite [.tup (prs a), .tup (prs b)] S = .ok (.tup (prs (setP or a b))) S := by
  rw [callN_eq G (n + 1) _ _ _ (d := d_unite) rfl, run_eq _ _ _ _ rfl]
  simp only [d_unite, Stms.ev, Stm.ev, E.ev, It.ev, Es.ev, List.map_cons, List.map_nil, List.cons_append, List.nil_append, List.getElem?_cons_zero, List.getElem?_cons_succ, R.bind_ok', R.of_some, R.st_ok, set_found (cf := callN G n) hl, pieces_ok hl, Tg.bind, setS, List.replicate, Nat.reduceSub, List.set_cons_zero, List.set_cons_succ, iterOf]
  rw [filt (c := fun p => or (holdsP a p.1) (holdsP b p.1)) fun p hp => ?_]
  · simp only [R.bind_ok', joined_ok hl, R.st_ok, RS.fin]
  · simp only [wipeR, List.set_cons_zero, List.set_cons_succ, OE.tst, E.ev, Es.ev, List.getElem?_cons_zero, List.getElem?_cons_succ, R.bind_ok', R.of_some, Cell.pv, idx2_0, holds_prs, PV.truth]
    cases holdsP a p.1 <;> cases holdsP b p.1 <;> simp [PV.truth]
theorem meet_prs (a b : List (Int × Int)) (hl : a.length + b.length ≤ 31) : callN G (n + 2) .meet [.tup (prs a), .tup (prs b)] S = .ok (.tup (prs (setP and a b))) S := by
  rw [callN_eq G (n + 1) _ _ _ (d := d_meet) rfl, run_eq _ _ _ _ rfl]
  simp only [d_meet, Stms.ev, Stm.ev, E.ev, It.ev, Es.ev, List.map_cons, List.map_nil, List.cons_append, List.nil_append, List.getElem?_cons_zero, List.getElem?_cons_succ, R.bind_ok', R.of_some, R.st_ok, set_found (cf := callN G n) hl, pieces_ok hl, Tg.bind, setS, List.replicate, Nat.reduceSub, List.set_cons_zero, List.set_cons_succ, iterOf]
  rw [filt (c := fun p => and (holdsP a p.1) (holdsP b p.1)) fun p hp => ?_]
  · simp only [R.bind_ok', joined_ok hl, R.st_ok, RS.fin]
  · simp only [wipeR, List.set_cons_zero, List.set_cons_succ, OE.tst, E.ev, Es.ev, List.getElem?_cons_zero, List.getElem?_cons_succ, R.bind_ok', R.of_some, Cell.pv, idx2_0, holds_prs, PV.truth]
    cases holdsP a p.1 <;> cases holdsP b p.1 <;> simp [PV.truth]
def lessB (x y : Bool) : Bool := x && !y
theorem less_prs (a b : List (Int × Int)) (hl : a.length + b.length ≤ 31) : callN G (n + 2) .less [.tup (prs a), .tup (prs b)] S = .ok (.tup (prs (setP lessB a b))) S := by
  rw [callN_eq G (n + 1) _ _ _ (d := d_less) rfl, run_eq _ _ _ _ rfl]
  simp only [d_less, Stms.ev, Stm.ev, E.ev, It.ev, Es.ev, List.map_cons, List.map_nil, List.cons_append, List.nil_append, List.getElem?_cons_zero, List.getElem?_cons_succ, R.bind_ok', R.of_some, R.st_ok, set_found (cf := callN G n) hl, pieces_ok hl, Tg.bind, setS, List.replicate, Nat.reduceSub, List.set_cons_zero, List.set_cons_succ, iterOf]
  rw [filt (c := fun p => lessB (holdsP a p.1) (holdsP b p.1)) fun p hp => ?_]
  · simp only [R.bind_ok', joined_ok hl, R.st_ok, RS.fin]
  · simp only [wipeR, List.set_cons_zero, List.set_cons_succ, OE.tst, E.ev, Es.ev, List.getElem?_cons_zero, List.getElem?_cons_succ, R.bind_ok', R.of_some, Cell.pv, idx2_0, holds_prs, PV.truth]
    cases holdsP a p.1 <;> cases holdsP b p.1 <;> simp [PV.truth, lessB]
end A3

-- PureL
set_option linter.all false
set_option maxRecDepth 100000
/-! PureL: what the laws' own helpers compute. -/
namespace A3
variable {n : Nat} {S : Store}
/-- plain data, nested at most d deep -/
def plainD : Nat → PV → Bool
  | _, .non => true
  | _, .bl _ => true
  | _, .int _ => true
  | _, .str _ => true
  | d + 1, .tup xs => decide (xs.length ≤ 16777216) && xs.all (plainD d)
  | d + 1, .lst xs => decide (xs.length ≤ 16777216) && xs.all (plainD d)
  | _, _ => false
theorem rngOk_len {k : Nat} (h : k ≤ 16777216) : rngOk (k : Int) = true := by unfold rngOk; simp; omega
theorem same_loop {cf : CallF} {v : PV} (xs : List PV) (hx : ∀ (k : Nat) (x : PV), xs[k]? = some x → idxEv v (.int (k : Int)) = some x) (hs : ∀ x ∈ xs, cf .law_same [x, x] S = .ok (.bl true) S) :
    ∀ (ks : List Nat) (y : Option Cell), (∀ k ∈ ks, k < xs.length) → ∃ y', forL (.nm 2) (fun ρ S => b_law_same_1.ev cf ρ S) (ks.map fun (k : Nat) => PV.int k) [some (.val v), some (.val v), y] S = .nx [some (.val v), some (.val v), y'] S
  | [], y, _ => ⟨y, rfl⟩
  | k :: ks, y, hk => by
    obtain ⟨y', h⟩ := same_loop xs hx hs ks (some (.val (.int k))) fun j hj => hk j (List.mem_cons_of_mem _ hj)
    refine ⟨y', ?_⟩
    have hl := hk k List.mem_cons_self
    have e := hx k xs[k] (List.getElem?_eq_getElem hl)
    have e2 := hs xs[k] (List.getElem_mem hl)
    rw [List.map_cons]
    unfold forL
    simp only [Tg.bind, setS, List.set_cons_zero, List.set_cons_succ]
    have step : b_law_same_1.ev cf [some (.val v), some (.val v), some (.val (.int (k : Int)))] S = .nx [some (.val v), some (.val v), some (.val (.int (k : Int)))] S := by
      simp [b_law_same_1, Stms.ev, Stm.ev, E.ev, Es.ev, Cell.pv, e, e2, PV.truth]
    rw [step]
    exact h
theorem same_refl : ∀ (d : Nat) (v : PV), plainD d v = true → ∀ n, d ≤ n → callN G (n + 1) .law_same [v, v] S = .ok (.bl true) S := by
  intro d
  induction d with
  | zero =>
    intro v h n _
    rw [callN_eq G n _ _ _ (d := d_law_same) rfl, run_eq _ _ _ _ rfl]
    cases v with
    | non => simp [d_law_same, Stms.ev, Stm.ev, E.ev, Cell.pv, CO.ev, isV, PV.truth, RS.fin]
    | bl b => cases b <;> simp [d_law_same, Stms.ev, Stm.ev, E.ev, Cell.pv, CO.ev, isV, PV.truth, RS.fin]
    | int i => simp [d_law_same, Stms.ev, Stm.ev, E.ev, Cell.pv, CO.ev, isV, PV.truth, RS.fin, Ty.ev, eqV', PV.dok, PV.eqv]
    | str i => simp [d_law_same, Stms.ev, Stm.ev, E.ev, Cell.pv, CO.ev, isV, PV.truth, RS.fin, Ty.ev, eqV', PV.dok, PV.eqv]
    | _ => cases h
  | succ d ih =>
    intro v h n hn
    obtain ⟨n, rfl⟩ : ∃ m, n = m + 1 := ⟨n - 1, by omega⟩
    rw [callN_eq G (n + 1) _ _ _ (d := d_law_same) rfl, run_eq _ _ _ _ rfl]
    cases v with
    | non => simp [d_law_same, Stms.ev, Stm.ev, E.ev, Cell.pv, CO.ev, isV, PV.truth, RS.fin]
    | bl b => cases b <;> simp [d_law_same, Stms.ev, Stm.ev, E.ev, Cell.pv, CO.ev, isV, PV.truth, RS.fin]
    | int i => simp [d_law_same, Stms.ev, Stm.ev, E.ev, Cell.pv, CO.ev, isV, PV.truth, RS.fin, Ty.ev, eqV', PV.dok, PV.eqv]
    | str i => simp [d_law_same, Stms.ev, Stm.ev, E.ev, Cell.pv, CO.ev, isV, PV.truth, RS.fin, Ty.ev, eqV', PV.dok, PV.eqv]
    | tup xs =>
      unfold plainD at h
      rw [Bool.and_eq_true, decide_eq_true_eq, List.all_eq_true] at h
      obtain ⟨y', lp⟩ := same_loop (S := S) (cf := callN G (n + 1)) (v := .tup xs) xs (fun k x e => idx_tup e) (fun x hx => ih x (h.2 x hx) n (by omega)) (List.range xs.length) none fun k hk => List.mem_range.mp hk
      rw [← upto0] at lp
      simp [d_law_same, Stms.ev, Stm.ev, E.ev, It.ev, Cell.pv, CO.ev, isV, PV.truth, RS.fin, Ty.ev, eqV', PV.dok, PV.eqv, B1.ev, lenV, rngOk_len h.1, lp]
    | lst xs =>
      unfold plainD at h
      rw [Bool.and_eq_true, decide_eq_true_eq, List.all_eq_true] at h
      obtain ⟨y', lp⟩ := same_loop (S := S) (cf := callN G (n + 1)) (v := .lst xs) xs (fun k x e => idx_lst e) (fun x hx => ih x (h.2 x hx) n (by omega)) (List.range xs.length) none fun k hk => List.mem_range.mp hk
      rw [← upto0] at lp
      simp [d_law_same, Stms.ev, Stm.ev, E.ev, It.ev, Cell.pv, CO.ev, isV, PV.truth, RS.fin, Ty.ev, eqV', PV.dok, PV.eqv, B1.ev, lenV, rngOk_len h.1, lp]
    | _ => cases h
def grid : List Int := [0, 1, 2, 3, 4, 7, 9998, 9999, 10000]
theorem law_points_ok : callN G (n + 1) .law_points [] S = .ok (.lst (grid.map .int)) S := rfl
/-! ### draws -/
def drawsOk (m : Nat) (ds : List Int) : Prop := ds.length ≤ m ∧ ∀ d ∈ ds, 0 ≤ d ∧ d < 1000
theorem draws_loop1 {cf : CallF} (c : Int) (m : Nat) (hm : m ≤ 1000) : ∀ (ks : List Nat) (ds : List Int) (r : Int) (x y : Option Cell), ds.length + ks.length ≤ m → (∀ d ∈ ds, 0 ≤ d ∧ d < 1000) →
    ∃ (ds' : List Int) (r' : Int) (y' : Option Cell), forL (.nm 5) (fun ρ S => b_law_draws_1.ev cf ρ S) (ks.map fun (k : Nat) => PV.int k) [some (.val (.int c)), some (.val (.int m)), some (.ol (ds.map .int)), some (.val (.int r)), x, y] S =
      .nx [some (.val (.int c)), some (.val (.int m)), some (.ol (ds'.map .int)), some (.val (.int r')), x, y'] S ∧ ds'.length ≤ m ∧ ∀ d ∈ ds', 0 ≤ d ∧ d < 1000
  | [], ds, r, x, y, hl, hd => ⟨ds, r, y, rfl, by simpa using hl, hd⟩
  | k :: ks, ds, r, x, y, hl, hd => by
    rw [List.length_cons] at hl
    have e : ∃ (ds2 : List Int) (r2 : Int), b_law_draws_1.ev cf [some (.val (.int c)), some (.val (.int m)), some (.ol (ds.map .int)), some (.val (.int r)), x, some (.val (.int (k : Int)))] S = .nx [some (.val (.int c)), some (.val (.int m)), some (.ol (ds2.map .int)), some (.val (.int r2)), x, some (.val (.int (k : Int)))] S ∧ ds2.length + ks.length ≤ m ∧ ∀ d ∈ ds2, 0 ≤ d ∧ d < 1000 := by
      by_cases h : 0 < r
      · refine ⟨ds ++ [r % 1000], r / 1000, ?_, by simp; omega, fun d hd' => ?_⟩
        · have hl : ds.length < 16777216 := by omega
          simp [b_law_draws_1, Stms.ev, Stm.ev, E.ev, Cell.pv, CO.ev, gtV, PV.truth, h, mod_int (b := 1000) rfl, fdiv_int (b := 1000) rfl, int_int, setS, lineN, Tg.bind, hl]
        · rcases List.mem_append.mp hd' with z | z
          · exact hd d z
          · cases List.mem_singleton.mp z; exact ⟨Int.emod_nonneg _ (by decide), Int.emod_lt_of_pos _ (by decide)⟩
      · refine ⟨ds, r, ?_, by omega, hd⟩
        simp [b_law_draws_1, Stms.ev, Stm.ev, E.ev, Cell.pv, CO.ev, gtV, PV.truth, h]
    obtain ⟨ds2, r2, e1, e2, e3⟩ := e
    obtain ⟨ds', r', y', h1, h2⟩ := draws_loop1 c m hm ks ds2 r2 x (some (.val (.int k))) e2 e3
    refine ⟨ds', r', y', ?_, h2⟩
    rw [List.map_cons]
    unfold forL
    simp only [Tg.bind, setS, List.set_cons_zero, List.set_cons_succ]
    rw [e1]
    exact h1
def s_draws_1 : Stm := (.asg (.nm 4) (.bin .mod (.b1 .int (.bin .add (.bin .add (.bin .mul (.peek 4) (.c (.int 48271))) (.bin .mul (.peek 5) (.c (.int 69621)))) (.c (.int 7)))) (.c (.int 2147483647))))
def s_draws_2 : Stm := (.ife (.cmp .lt (.b1 .len (.peek 2)) (.peek 1)) (.cons (.app 2 (.bin .mod (.b1 .int (.bin .mod (.b1 .int (.bin .add (.bin .mul (.peek 4) (.c (.int 69621))) (.c (.int 5)))) (.c (.int 2147483629)))) (.c (.int 1000)))) .nil) .nil)
theorem b_draws_eq : b_law_draws_2 = .cons s_draws_1 (.cons s_draws_2 .nil) := rfl
theorem draws_q1 {cf : CallF} (c z : PV) (m : PV) (ds : List PV) (st k : Int) : s_draws_1.ev cf [some (.val c), some (.val m), some (.ol ds), some (.val z), some (.val (.int st)), some (.val (.int k))] S = .nx [some (.val c), some (.val m), some (.ol ds), some (.val z), some (.val (.int ((st * 48271 + k * 69621 + 7) % 2147483647))), some (.val (.int k))] S := by
  simp only [s_draws_1, Stm.ev, E.ev, Cell.pv, add_int, mul_int (b := 48271) rfl, mul_int (b := 69621) rfl, mod_int (b := 2147483647) rfl, int_int, List.getElem?_cons_zero, List.getElem?_cons_succ, R.bind_ok', R.of_some, R.st_ok, Tg.bind, setS, List.set_cons_zero, List.set_cons_succ]
theorem draws_q2 {cf : CallF} (c z : PV) (m : Nat) (ds : List PV) (w : Int) (k : PV) (hlt : CO.ev .lt (.int ds.length) (.int m) = some false) : s_draws_2.ev cf [some (.val c), some (.val (.int m)), some (.ol ds), some (.val z), some (.val (.int w)), some (.val k)] S = .nx [some (.val c), some (.val (.int m)), some (.ol ds), some (.val z), some (.val (.int w)), some (.val k)] S := by
  simp only [s_draws_2, Stm.ev, Stms.ev, E.ev, Cell.pv, List.getElem?_cons_zero, List.getElem?_cons_succ, R.bind_ok', R.of_some, R.st_ok, len_lst, hlt, Option.map_some, PV.truth]
theorem draws_q3 {cf : CallF} (c z : PV) (m : Nat) (ds : List PV) (w : Int) (k : PV) (hlt : CO.ev .lt (.int ds.length) (.int m) = some true) (hl : ds.length < 16777216) : s_draws_2.ev cf [some (.val c), some (.val (.int m)), some (.ol ds), some (.val z), some (.val (.int w)), some (.val k)] S = .nx [some (.val c), some (.val (.int m)), some (.ol (ds ++ [.int ((w * 69621 + 5) % 2147483629 % 1000)])), some (.val z), some (.val (.int w)), some (.val k)] S := by
  simp only [s_draws_2, add_int, mul_int (b := 69621) rfl, mod_int (b := 2147483629) rfl, mod_int (b := 1000) rfl, int_int, Stm.ev, Stms.ev, E.ev, Cell.pv, List.getElem?_cons_zero, List.getElem?_cons_succ, R.bind_ok', R.of_some, R.st_ok, len_lst, hlt, Option.map_some, PV.truth, lineN, hl, if_true, setS, List.set_cons_zero, List.set_cons_succ]
theorem stms_two {cf : CallF} {s1 s2 : Stm} {ρ ρ1 ρ2 : Env} (h1 : s1.ev cf ρ S = .nx ρ1 S) (h2 : s2.ev cf ρ1 S = .nx ρ2 S) : (Stms.cons s1 (.cons s2 .nil)).ev cf ρ S = .nx ρ2 S := by
  show (match s1.ev cf ρ S with
    | .nx ρ S => (Stms.cons s2 .nil).ev cf ρ S
    | r => r) = _
  rw [h1]
  show (match s2.ev cf ρ1 S with
    | .nx ρ S => Stms.nil.ev cf ρ S
    | r => r) = _
  rw [h2]
  rfl
theorem mod_in (x : Int) : 0 ≤ x % 1000 ∧ x % 1000 < 1000 := ⟨Int.emod_nonneg _ (by decide), Int.emod_lt_of_pos _ (by decide)⟩
theorem draws_step2 {cf : CallF} (c : Int) (m k : Nat) (hm : m ≤ 1000) (z : PV) (ds : List Int) (st : Int) (hl : ds.length ≤ m) (hd : ∀ d ∈ ds, 0 ≤ d ∧ d < 1000) :
    ∃ (ds2 : List Int) (st2 : Int), b_law_draws_2.ev cf [some (.val (.int c)), some (.val (.int m)), some (.ol (ds.map .int)), some (.val z), some (.val (.int st)), some (.val (.int (k : Int)))] S = .nx [some (.val (.int c)), some (.val (.int m)), some (.ol (ds2.map .int)), some (.val z), some (.val (.int st2)), some (.val (.int (k : Int)))] S ∧
      ds2.length = min m (ds.length + 1) ∧ ∀ d ∈ ds2, 0 ≤ d ∧ d < 1000 := by
  by_cases h : ds.length < m
  · have hlt : CO.ev .lt (.int ds.length) (.int m) = some true := by show some (decide ((ds.length : Int) < m)) = _; rw [decide_eq_true (by omega)]
    have e1 := draws_q1 (S := S) (cf := cf) (.int c) z (.int m) (ds.map .int) st k
    generalize (st * 48271 + (k : Int) * 69621 + 7) % 2147483647 = w at e1
    have e2 := draws_q3 (S := S) (cf := cf) (.int c) z m (ds.map .int) w (.int k) (by rw [List.length_map]; exact hlt) (by rw [List.length_map]; omega)
    have hv := mod_in ((w * 69621 + 5) % 2147483629)
    generalize (w * 69621 + 5) % 2147483629 % 1000 = v at e2 hv
    have e := stms_two e1 e2
    rw [← b_draws_eq] at e
    refine ⟨ds ++ [v], w, by rw [List.map_append]; exact e, by rw [List.length_append, List.length_singleton]; omega, fun d hd' => ?_⟩
    rcases List.mem_append.mp hd' with q | q
    · exact hd d q
    · rw [List.mem_singleton.mp q]; exact hv
  · have hlt : CO.ev .lt (.int ds.length) (.int m) = some false := by show some (decide ((ds.length : Int) < m)) = _; rw [decide_eq_false (by omega)]
    have e1 := draws_q1 (S := S) (cf := cf) (.int c) z (.int m) (ds.map .int) st k
    generalize (st * 48271 + (k : Int) * 69621 + 7) % 2147483647 = w at e1
    have e2 := draws_q2 (S := S) (cf := cf) (.int c) z m (ds.map .int) w (.int k) (by rw [List.length_map]; exact hlt)
    have e := stms_two e1 e2
    rw [← b_draws_eq] at e
    exact ⟨ds, w, e, by omega, hd⟩
theorem draws_loop2 {cf : CallF} (c : Int) (m : Nat) (hm : m ≤ 1000) (z : PV) : ∀ (ks : List Nat) (ds : List Int) (st : Int) (y : Option Cell), ds.length ≤ m → m ≤ ds.length + ks.length → (∀ d ∈ ds, 0 ≤ d ∧ d < 1000) →
    ∃ (ds' : List Int) (st' : Int) (y' : Option Cell), forL (.nm 5) (fun ρ S => b_law_draws_2.ev cf ρ S) (ks.map fun (k : Nat) => PV.int k) [some (.val (.int c)), some (.val (.int m)), some (.ol (ds.map .int)), some (.val z), some (.val (.int st)), y] S =
      .nx [some (.val (.int c)), some (.val (.int m)), some (.ol (ds'.map .int)), some (.val z), some (.val (.int st')), y'] S ∧ ds'.length = m ∧ ∀ d ∈ ds', 0 ≤ d ∧ d < 1000
  | [], ds, st, y, h1, h2, hd => ⟨ds, st, y, rfl, by simp at h2; omega, hd⟩
  | k :: ks, ds, st, y, hl, hk, hd => by
    rw [List.length_cons] at hk
    obtain ⟨ds2, st2, e1, e2, e4⟩ := draws_step2 (S := S) (cf := cf) c m k hm z ds st hl hd
    obtain ⟨ds', st', y', h1, h2⟩ := draws_loop2 c m hm z ks ds2 st2 (some (.val (.int k))) (by omega) (by omega) e4
    refine ⟨ds', st', y', ?_, h2⟩
    rw [List.map_cons]
    unfold forL
    simp only [Tg.bind, setS, List.set_cons_zero, List.set_cons_succ]
    rw [e1]
    exact h1
theorem law_draws_ok (c : Int) (m : Nat) (hm : m ≤ 1000) : ∃ ds : List Int, ds.length = m ∧ (∀ d ∈ ds, 0 ≤ d ∧ d < 1000) ∧ callN G (n + 1) .law_draws [.int c, .int m] S = .ok (.lst (ds.map .int)) S := by
  rw [callN_eq G n _ _ _ (d := d_law_draws) rfl, run_eq _ _ _ _ rfl]
  have hr : rngOk (m : Int) = true := rngOk_len (by omega)
  have st1 : ∃ (ds : List Int) (z : Int) (y : Option Cell), ds.length ≤ m ∧ (∀ d ∈ ds, 0 ≤ d ∧ d < 1000) ∧
      (Stm.ife (.cmp .ge (.peek 3) (.bin .pow (.c (.int 10)) (.c (.int 18)))) (.cons (.for_ (.nm 5) (.rng (.v 1)) b_law_draws_1) .nil) .nil).ev (callN G n) [some (.val (.int c)), some (.val (.int m)), some (.ol []), some (.val (.int c)), none, none] S =
        .nx [some (.val (.int c)), some (.val (.int m)), some (.ol (ds.map .int)), some (.val (.int z)), none, y] S := by
    by_cases h : (1000000000000000000 : Int) ≤ c
    · obtain ⟨ds, r, y, h1, h2, h3⟩ := draws_loop1 (S := S) (cf := callN G n) c m hm (List.range m) [] c none none (by simp) (by simp)
      rw [← upto0] at h1
      refine ⟨ds, r, y, h2, h3, ?_⟩
      rw [show ([] : List Int).map PV.int = [] from rfl] at h1
      simp [Stm.ev, Stms.ev, E.ev, It.ev, Cell.pv, pow_int (a := 10) (b := 18) rfl, CO.ev, geV, h, PV.truth, hr, h1]
    · refine ⟨[], c, none, by simp, by simp, ?_⟩
      simp [Stm.ev, Stms.ev, E.ev, It.ev, Cell.pv, pow_int (a := 10) (b := 18) rfl, CO.ev, geV, h, PV.truth]
  obtain ⟨ds, z, y, h1, h2, h3⟩ := st1
  obtain ⟨ds', st', y', g1, g2, g3⟩ := draws_loop2 (S := S) (cf := callN G n) c m hm (.int z) (List.range m) ds ((c * 48271 + 11) % 2147483647) y h1 (by simp) h2
  rw [← upto0] at g1
  refine ⟨ds', g2, g3, ?_⟩
  rw [show d_law_draws.body = .cons (.mkl 2 (.lst .nil)) (.cons (.asg (.nm 3) (.b1 .int (.peek 0))) (.cons (.ife (.cmp .ge (.peek 3) (.bin .pow (.c (.int 10)) (.c (.int 18)))) (.cons (.for_ (.nm 5) (.rng (.v 1)) b_law_draws_1) .nil) .nil) (.cons (.asg (.nm 4) (.bin .mod (.b1 .int (.bin .add (.bin .mul (.b1 .int (.peek 0)) (.c (.int 48271))) (.c (.int 11)))) (.c (.int 2147483647)))) (.cons (.for_ (.nm 5) (.rng (.v 1)) b_law_draws_2) (.cons (.frz [2]) (.cons (.ret (.v 2)) .nil)))))) from rfl]
  generalize hst : (Stm.ife (.cmp .ge (.peek 3) (.bin .pow (.c (.int 10)) (.c (.int 18)))) (.cons (.for_ (.nm 5) (.rng (.v 1)) b_law_draws_1) .nil) .nil) = st at h3 ⊢
  simp only [Stms.ev]
  rw [show (Stm.mkl 2 (.lst .nil)).ev (callN G n) ([PV.int c, PV.int m].map (fun x => some (Cell.val x)) ++ List.replicate (d_law_draws.nslot - d_law_draws.npar) none) S = .nx [some (.val (.int c)), some (.val (.int m)), some (.ol []), none, none, none] S from rfl]
  simp only []
  rw [show (Stm.asg (.nm 3) (.b1 .int (.peek 0))).ev (callN G n) [some (.val (.int c)), some (.val (.int m)), some (.ol []), none, none, none] S = .nx [some (.val (.int c)), some (.val (.int m)), some (.ol []), some (.val (.int c)), none, none] S from rfl]
  simp only []
  rw [h3]
  simp [Stm.ev, E.ev, It.ev, Cell.pv, add_int, mul_int (b := 48271) rfl, mod_int (b := 2147483647) rfl, int_int, setS, Tg.bind, hr, g1, frzs, frz1, RS.fin]
end A3

-- PureT
set_option linter.all false
set_option maxRecDepth 100000
/-! PureT: the evaluator's equations for simp. -/
namespace A3
section
variable {cf : CallF} {ρ : Env} {S : Store}
@[simp] theorem sv_c (p : PV) : (E.c p).ev cf ρ S = .ok p S := rfl
@[simp] theorem sv_v (i : Nat) : (E.v i).ev cf ρ S = match ρ[i]? with
    | some (some (.val p)) => .ok p S
    | _ => .bad := rfl
@[simp] theorem sv_peek (i : Nat) : (E.peek i).ev cf ρ S = match ρ[i]? with
    | some (some c) => .ok c.pv S
    | _ => .bad := rfl
@[simp] theorem sv_pv (p : PV) : (Cell.val p).pv = p := rfl
@[simp] theorem sv_pl (p : List PV) : (Cell.ol p).pv = .lst p := rfl
@[simp] theorem sv_bin (o : BO) (a b : E) : (E.bin o a b).ev cf ρ S = (a.ev cf ρ S).bind fun x S => (b.ev cf ρ S).bind fun y S => R.of (o.ev x y) S := rfl
@[simp] theorem sv_neg (a : E) : (E.neg a).ev cf ρ S = (a.ev cf ρ S).bind fun x S => match x with
    | .int i => .ok (.int (-i)) S
    | _ => .bad := rfl
@[simp] theorem sv_cmp (o : CO) (a b : E) : (E.cmp o a b).ev cf ρ S = (a.ev cf ρ S).bind fun x S => (b.ev cf ρ S).bind fun y S => R.of ((o.ev x y).map .bl) S := rfl
@[simp] theorem sv_chain (o o' : CO) (a b c : E) : (E.chain o o' a b c).ev cf ρ S = (a.ev cf ρ S).bind fun x S => (b.ev cf ρ S).bind fun y S => (R.of (o.ev x y) S).bind fun k S =>
      if k then (c.ev cf ρ S).bind fun z S => R.of ((o'.ev y z).map .bl) S else .ok (.bl false) S := rfl
@[simp] theorem sv_and (a b : E) : (E.and a b).ev cf ρ S = (a.ev cf ρ S).bind fun x S => (R.of x.truth S).bind fun k S => if k then b.ev cf ρ S else .ok x S := rfl
@[simp] theorem sv_or (a b : E) : (E.or a b).ev cf ρ S = (a.ev cf ρ S).bind fun x S => (R.of x.truth S).bind fun k S => if k then .ok x S else b.ev cf ρ S := rfl
@[simp] theorem sv_not (a : E) : (E.not a).ev cf ρ S = (a.ev cf ρ S).bind fun x S => (R.of x.truth S).bind fun k S => .ok (.bl !k) S := rfl
@[simp] theorem sv_ite (t a b : E) : (E.ite t a b).ev cf ρ S = (t.ev cf ρ S).bind fun x S => (R.of x.truth S).bind fun k S => if k then a.ev cf ρ S else b.ev cf ρ S := rfl
@[simp] theorem sv_tup (es : Es) : (E.tup es).ev cf ρ S = (es.ev cf ρ S).bind fun xs S => .ok (.tup xs) S := rfl
@[simp] theorem sv_lst (es : Es) : (E.lst es).ev cf ρ S = (es.ev cf ρ S).bind fun xs S => .ok (.lst xs) S := rfl
@[simp] theorem sv_idx (a i : E) : (E.idx a i).ev cf ρ S = (a.ev cf ρ S).bind fun x S => (i.ev cf ρ S).bind fun y S => R.of (idxEv x y) S := rfl
@[simp] theorem sv_slc (a : E) (lo hi : OE) : (E.slc a lo hi).ev cf ρ S = (a.ev cf ρ S).bind fun x S => (lo.ev cf ρ S).bind fun l S => (hi.ev cf ρ S).bind fun h S => R.of (slcEv x l h) S := rfl
@[simp] theorem sv_call (f : FN) (es : Es) : (E.call f es).ev cf ρ S = (es.ev cf ρ S).bind fun xs S => cf f xs S := rfl
@[simp] theorem sv_b1 (f : B1) (a : E) : (E.b1 f a).ev cf ρ S = (a.ev cf ρ S).bind fun x S => R.of (f.ev x) S := rfl
@[simp] theorem sv_isi (a : E) (t : Ty) : (E.isi a t).ev cf ρ S = (a.ev cf ρ S).bind fun x S => R.of ((t.ev x).map .bl) S := rfl
@[simp] theorem sv_idxOf (a b : E) : (E.idxOf a b).ev cf ρ S = (a.ev cf ρ S).bind fun x S => (b.ev cf ρ S).bind fun y S => R.of (idxOfV x y) S := rfl
@[simp] theorem sv_lenset (a : E) : (E.lenset a).ev cf ρ S = (a.ev cf ρ S).bind fun x S => R.of (lenSetV x) S := rfl
@[simp] theorem sv_enil : Es.nil.ev cf ρ S = .ok [] S := rfl
@[simp] theorem sv_econs (e : E) (es : Es) : (Es.cons e es).ev cf ρ S = (e.ev cf ρ S).bind fun x S => (es.ev cf ρ S).bind fun xs S => .ok (x :: xs) S := rfl
@[simp] theorem sv_estar (e : E) (es : Es) : (Es.star e es).ev cf ρ S = (e.ev cf ρ S).bind fun x S => (R.of (starOf x) S).bind fun ys S => (es.ev cf ρ S).bind fun zs S => if ys.length + zs.length ≤ 65536 then .ok (ys ++ zs) S else .bad := rfl
@[simp] theorem sv_onone : OE.none.ev cf ρ S = .ok none S := rfl
@[simp] theorem sv_osome (e : E) : (OE.some e).ev cf ρ S = (e.ev cf ρ S).bind fun x S => match x with
    | .int i => .ok (some i) S
    | _ => .bad := rfl
@[simp] theorem sv_tnone : OE.none.tst cf ρ S = .ok true S := rfl
@[simp] theorem sv_tsome (e : E) : (OE.some e).tst cf ρ S = (e.ev cf ρ S).bind fun x S => R.of x.truth S := rfl
@[simp] theorem sv_iof (e : E) : (It.of e).ev cf ρ S = (e.ev cf ρ S).bind fun x S => R.of (iterOf x) S := rfl
@[simp] theorem sv_irng (a : E) : (It.rng a).ev cf ρ S = (a.ev cf ρ S).bind fun x S => match x with
    | .int j => if rngOk j then .ok (upto 0 j.toNat) S else .bad
    | _ => .bad := rfl
@[simp] theorem sv_ienum (e : E) : (It.enum e).ev cf ρ S = (e.ev cf ρ S).bind fun x S => match x with
    | .lst xs => .ok (numbered 0 xs) S
    | .tup xs => .ok (numbered 0 xs) S
    | _ => .bad := rfl
@[simp] theorem sv_comp (vs : List Nat) (tg : Tg) (it : It) (cd : OE) (el : E) : (E.comp vs tg it cd el).ev cf ρ S = (it.ev cf ρ S).bind fun xs S => (compL (fun x S => match tg.bind x (wipeR ρ vs) with
      | none => .bad
      | some ρ' => (cd.tst cf ρ' S).bind fun k S => if k then (el.ev cf ρ' S).bind fun y S => .ok [y] S else .ok [] S) xs S).bind fun ys S => .ok (.lst ys) S := rfl
/-- a comprehension's turn -/
def compG (cf : CallF) (vs : List Nat) (tg : Tg) (cd : OE) (el : E) (ρ : Env) : PV → Store → R (List PV) := fun x S => match tg.bind x (wipeR ρ vs) with
      | none => .bad
      | some ρ' => (cd.tst cf ρ' S).bind fun k S => if k then (el.ev cf ρ' S).bind fun y S => .ok [y] S else .ok [] S
theorem sv_compG (vs : List Nat) (tg : Tg) (it : It) (cd : OE) (el : E) : (E.comp vs tg it cd el).ev cf ρ S = (it.ev cf ρ S).bind fun xs S => (compL (compG cf vs tg cd el ρ) xs S).bind fun ys S => .ok (.lst ys) S := rfl
@[simp] theorem sv_min2 (a b : E) : (E.min2 a b).ev cf ρ S = (a.ev cf ρ S).bind fun x S => (b.ev cf ρ S).bind fun y S => R.of (min2V x y) S := rfl
/-- a dict comprehension's turn -/
def dcG (cf : CallF) (vs : List Nat) (tg : Tg) (cd : OE) (k el : E) (ρ : Env) : PV → Store → R (List PV) := fun x S => match tg.bind x (wipeR ρ vs) with
      | none => .bad
      | some ρ' => (cd.tst cf ρ' S).bind fun b S => if b then (k.ev cf ρ' S).bind fun y S => (el.ev cf ρ' S).bind fun z S => .ok [.tup [y, z]] S else .ok [] S
@[simp] theorem sv_dcG (vs : List Nat) (tg : Tg) (it : It) (cd : OE) (k el : E) : (E.dcomp vs tg it cd k el).ev cf ρ S = (it.ev cf ρ S).bind fun xs S => (compL (dcG cf vs tg cd k el ρ) xs S).bind fun ys S => R.of ((dMk ys []).map .dct) S := rfl
@[simp] theorem sv_min (a b : Int) : min2V (.int a) (.int b) = some (.int (if b < a then b else a)) := rfl
@[simp] theorem sv_snil : Stms.nil.ev cf ρ S = .nx ρ S := rfl
@[simp] theorem sv_scons (s : Stm) (ss : Stms) : (Stms.cons s ss).ev cf ρ S = match s.ev cf ρ S with
    | .nx ρ S => ss.ev cf ρ S
    | r => r := rfl
@[simp] theorem sv_asg (t : Tg) (e : E) : (Stm.asg t e).ev cf ρ S = (e.ev cf ρ S).st ρ fun x S => match t.bind x ρ with
    | some ρ => .nx ρ S
    | none => .bad := rfl
@[simp] theorem sv_mkl (i : Nat) (e : E) : (Stm.mkl i e).ev cf ρ S = (e.ev cf ρ S).st ρ fun x S => match x with
    | .lst xs => .nx (setS ρ i (.ol xs)) S
    | _ => .bad := rfl
@[simp] theorem sv_frz (is : List Nat) : (Stm.frz is).ev cf ρ S = .nx (frzs ρ is) S := rfl
@[simp] theorem sv_ret (e : E) : (Stm.ret e).ev cf ρ S = (e.ev cf ρ S).st ρ fun x S => .rt x S := rfl
@[simp] theorem sv_expr (e : E) : (Stm.expr e).ev cf ρ S = (e.ev cf ρ S).st ρ fun _ S => .nx ρ S := rfl
@[simp] theorem sv_ife (t : E) (a b : Stms) : (Stm.ife t a b).ev cf ρ S = (t.ev cf ρ S).st ρ fun x S => match x.truth with
    | some true => a.ev cf ρ S
    | some false => b.ev cf ρ S
    | none => .bad := rfl
@[simp] theorem sv_for (t : Tg) (it : It) (b : Stms) : (Stm.for_ t it b).ev cf ρ S = match it.ev cf ρ S with
    | .ok xs S => forL t (fun ρ S => b.ev cf ρ S) xs ρ S
    | .exc x S => .ex x ρ S
    | .bad => .bad := rfl
@[simp] theorem sv_mtch (e : E) (cs : Cases) : (Stm.mtch e cs).ev cf ρ S = (e.ev cf ρ S).st ρ fun x S => cs.ev cf x ρ S := rfl
@[simp] theorem sv_cnil (x : PV) : Cases.nil.ev cf x ρ S = .nx ρ S := rfl
@[simp] theorem sv_ccons (p : Pat) (b : Stms) (r : Cases) (x : PV) : (Cases.cons p b r).ev cf x ρ S = match p.m x with
    | some (some bs) => b.ev cf (bindAll bs ρ) S
    | some none => r.ev cf x ρ S
    | none => .bad := rfl
@[simp] theorem sv_bnm (i : Nat) (p : PV) (ρ : Env) : (Tg.nm i).bind p ρ = some (ρ.set i (some (.val p))) := rfl
@[simp] theorem sv_btp (ts : List Tg) (xs : List PV) (ρ : Env) : (Tg.tp ts).bind (.tup xs) ρ = Tg.binds ts xs ρ := rfl
@[simp] theorem sv_bs0 (ρ : Env) : Tg.binds [] [] ρ = some ρ := rfl
@[simp] theorem sv_bs1 (t : Tg) (ts : List Tg) (p : PV) (ps : List PV) (ρ : Env) : Tg.binds (t :: ts) (p :: ps) ρ = (t.bind p ρ).bind fun ρ' => Tg.binds ts ps ρ' := rfl
@[simp] theorem sv_setS (ρ : Env) (i : Nat) (c : Cell) : setS ρ i c = ρ.set i (some c) := rfl
@[simp] theorem sv_w0 (ρ : Env) : wipeR ρ [] = ρ := rfl
@[simp] theorem sv_w1 (ρ : Env) (v : Nat) (vs : List Nat) : wipeR ρ (v :: vs) = (wipeR ρ vs).set v none := rfl
@[simp] theorem sv_frt (p : PV) (S : Store) : (RS.rt p S).fin = .ok p S := rfl
@[simp] theorem sv_fnx (ρ : Env) (S : Store) : (RS.nx ρ S).fin = .ok .non S := rfl
@[simp] theorem sv_tbl (b : Bool) : (PV.bl b).truth = some b := rfl
@[simp] theorem sv_tlst (b : List PV) : (PV.lst b).truth = some (!b.isEmpty) := rfl
@[simp] theorem sv_ttup (b : List PV) : (PV.tup b).truth = some (!b.isEmpty) := rfl
@[simp] theorem sv_itl (b : List PV) : iterOf (.lst b) = some b := rfl
@[simp] theorem sv_itt (b : List PV) : iterOf (.tup b) = some b := rfl
@[simp] theorem sv_its (b : Tx) : iterOf (.str b) = some (b.map fun c => .str [c]) := rfl
end
end A3

-- PureQ
set_option linter.all false
set_option maxRecDepth 100000
/-! PureQ: schemas, questions, their columns; what the defs about columns compute. -/
namespace A3
variable {n : Nat} {S : Store}
/-! ### helpers -/
theorem eq_str (a b : Tx) : CO.ev .eq (.str a) (.str b) = some (decide (a = b)) := by
  show (if (true && true) = true then some (a == b) else none) = _
  by_cases h : a = b
  · subst h; simp
  · simp [h]
theorem ne_str (a b : Tx) : CO.ev .ne (.str a) (.str b) = some (!decide (a = b)) := by
  show (CO.ev .eq (.str a) (.str b)).map (! ·) = _
  rw [eq_str]; rfl
theorem eq_int (a b : Int) : CO.ev .eq (.int a) (.int b) = some (decide (a = b)) := by
  show (if (true && true) = true then some (a == b) else none) = _
  by_cases h : a = b
  · subst h; simp
  · simp [h]
theorem ne_int (a b : Int) : CO.ev .ne (.int a) (.int b) = some (!decide (a = b)) := by
  show (CO.ev .eq (.int a) (.int b)).map (! ·) = _
  rw [eq_int]; rfl
/-- a loop that ends at the first hit -/
theorem forL_find {α : Type} {tg : Tg} {f : Env → Store → RS} (p : α → PV) (hit : α → Option PV) (I : Env → Prop) : ∀ (xs : List α) (ρ : Env), I ρ →
    (∀ x ∈ xs, ∀ ρ, I ρ → ∃ ρ1, tg.bind (p x) ρ = some ρ1 ∧ ((∃ r, hit x = some r ∧ f ρ1 S = .rt r S) ∨ (hit x = none ∧ ∃ ρ2, f ρ1 S = .nx ρ2 S ∧ I ρ2))) →
    (∃ r, xs.findSome? hit = some r ∧ forL tg f (xs.map p) ρ S = .rt r S) ∨ (xs.findSome? hit = none ∧ ∃ ρ2, forL tg f (xs.map p) ρ S = .nx ρ2 S ∧ I ρ2)
  | [], ρ, h, _ => .inr ⟨rfl, ρ, rfl, h⟩
  | x :: xs, ρ, h, step => by
    obtain ⟨ρ1, h1, h2⟩ := step x List.mem_cons_self ρ h
    rw [List.findSome?_cons, List.map_cons]
    unfold forL
    rw [h1]
    rcases h2 with ⟨r, h2, h3⟩ | ⟨h2, ρ2, h3, h4⟩
    · left
      refine ⟨r, by rw [h2], ?_⟩
      simp only [h3]
    · rw [h2]
      simp only [h3]
      exact forL_find p hit I xs ρ2 h4 fun y hy => step y (List.mem_cons_of_mem _ hy)

/-! ### columns, schemas -/
/-- a column: its name; is it a text's -/
structure Cl where
  nm : Tx
  tx : Bool
  deriving DecidableEq, Repr
def kdT (b : Bool) : Tx := if b then tx "text" else tx "number"
theorem kdT_inj {a b : Bool} : kdT a = kdT b ↔ a = b := by cases a <;> cases b <;> decide
def Cl.pv (c : Cl) : PV := .tup [.str c.nm, .str (kdT c.tx)]
def colsPV (cs : List Cl) : PV := .tup (cs.map Cl.pv)
abbrev Sch := List (Tx × List Cl)
def tabPV (t : Tx × List Cl) : PV := .tup [.str t.1, colsPV t.2]
def schPV (s : Sch) : PV := .tup (s.map tabPV)
def names (cs : List Cl) : List Tx := cs.map Cl.nm
def strsPV (ns : List Tx) : PV := .tup (ns.map .str)
def colOf (cs : List Cl) (x : Tx) : Option Cl := cs.find? fun c => decide (c.nm = x)
def placeAt : Nat → List Cl → Tx → Option Nat
  | _, [], _ => none
  | k, c :: cs, x => if c.nm = x then some k else placeAt (k + 1) cs x
def placeOf (cs : List Cl) (x : Tx) : Option Nat := placeAt 0 cs x
theorem placeAt_spec : ∀ (cs : List Cl) (k : Nat) (x : Tx), placeAt k cs x = ((cs.findIdx? fun c => decide (c.nm = x)).map (· + k))
  | [], _, _ => rfl
  | c :: cs, k, x => by
    unfold placeAt
    rw [List.findIdx?_cons]
    by_cases h : c.nm = x
    · rw [if_pos h, if_pos (decide_eq_true h)]; simp
    · rw [if_neg h, if_neg (by simpa using h), placeAt_spec cs (k + 1) x]
      cases cs.findIdx? fun c => decide (c.nm = x) with
      | none => rfl
      | some j => simp; omega
theorem placeOf_get {cs : List Cl} {x : Tx} {k : Nat} (h : placeOf cs x = some k) : ∃ c, cs[k]? = some c ∧ c.nm = x ∧ colOf cs x = some c := by
  unfold placeOf at h
  rw [placeAt_spec] at h
  obtain ⟨j, h1, h2⟩ := Option.map_eq_some_iff.mp h
  have hk : j = k := by omega
  subst hk
  have h3 := List.findIdx?_eq_some_iff_getElem.mp h1
  obtain ⟨hl, h4, h5⟩ := h3
  refine ⟨cs[j], List.getElem?_eq_getElem hl, of_decide_eq_true h4, ?_⟩
  unfold colOf
  rw [List.find?_eq_some_iff_getElem]
  exact ⟨h4, j, hl, rfl, fun i hi => by simpa using h5 i hi⟩
theorem placeOf_some {cs : List Cl} {x : Tx} {c : Cl} (h : colOf cs x = some c) : ∃ k, placeOf cs x = some k ∧ cs[k]? = some c := by
  cases hp : placeOf cs x with
  | some k =>
    obtain ⟨c', h1, _, h3⟩ := placeOf_get hp
    rw [h] at h3
    cases h3
    exact ⟨k, rfl, h1⟩
  | none =>
    unfold placeOf at hp
    rw [placeAt_spec] at hp
    have hp := Option.map_eq_none_iff.mp hp
    rw [List.findIdx?_eq_none_iff] at hp
    unfold colOf at h
    have h1 := List.find?_some h
    have h2 := List.mem_of_find?_eq_some h
    rw [hp c h2] at h1; cases h1
theorem placeOf_none {cs : List Cl} {x : Tx} : placeOf cs x = none ↔ x ∉ names cs := by
  unfold placeOf names
  rw [placeAt_spec, Option.map_eq_none_iff, List.findIdx?_eq_none_iff, List.mem_map]
  constructor
  · rintro h ⟨c, hc, e⟩
    have := h c hc
    simp [e] at this
  · intro h c hc
    simp only [decide_eq_false_iff_not]
    exact fun e => h ⟨c, hc, e⟩
theorem colOf_none {cs : List Cl} {x : Tx} : colOf cs x = none ↔ x ∉ names cs := by
  unfold colOf names
  rw [List.find?_eq_none, List.mem_map]
  constructor
  · rintro h ⟨c, hc, e⟩
    exact h c hc (decide_eq_true e)
  · intro h c hc e
    exact h ⟨c, hc, of_decide_eq_true e⟩
theorem colOf_mem {cs : List Cl} {x : Tx} (h : x ∈ names cs) : ∃ c, colOf cs x = some c ∧ c.nm = x ∧ c ∈ cs := by
  cases hc : colOf cs x with
  | none => exact absurd h (colOf_none.mp hc)
  | some c => exact ⟨c, rfl, of_decide_eq_true (by unfold colOf at hc; exact List.find?_some (p := fun c => decide (Cl.nm c = x)) hc), List.mem_of_find?_eq_some hc⟩
theorem colOf_of : ∀ {cs : List Cl} {c : Cl}, (names cs).Nodup → c ∈ cs → colOf cs c.nm = some c
  | [], _, _, h => by cases h
  | d :: cs, c, nd, h => by
    have nd' := List.nodup_cons.mp (show (d.nm :: names cs).Nodup from nd)
    unfold colOf
    rw [List.find?_cons]
    rcases List.mem_cons.mp h with rfl | h
    · simp
    · have hne : d.nm ≠ c.nm := fun e => nd'.1 (List.mem_map.mpr ⟨c, h, e.symm⟩)
      simp only [hne, decide_false]
      exact colOf_of nd'.2 h
def optI : Option Nat → PV
  | some k => .int k
  | none => .non
theorem numbered_map {α : Type} (p : α → PV) : ∀ (k : Nat) (xs : List α), numbered k (xs.map p) = (xs.zipIdx k).map fun y => .tup [.int y.2, p y.1]
  | _, [] => rfl
  | k, x :: xs => by
    rw [List.map_cons, List.zipIdx_cons, List.map_cons, ← numbered_map p (k + 1) xs]; rfl
theorem place_find : ∀ (cs : List Cl) (k : Nat) (x : Tx), ((cs.zipIdx k).findSome? fun y => if y.1.nm = x then some (PV.int y.2) else none) = (placeAt k cs x).map fun (j : Nat) => PV.int j
  | [], _, _ => rfl
  | c :: cs, k, x => by
    rw [List.zipIdx_cons, List.findSome?_cons]
    unfold placeAt
    by_cases h : c.nm = x
    · simp [h]
    · simp only [if_neg h]; exact place_find cs (k + 1) x
theorem place_of_ok (cs : List Cl) (x : Tx) : callN G (n + 1) .place_of [colsPV cs, .str x] S = .ok (optI (placeOf cs x)) S := by
  rw [callN_eq G n _ _ _ (d := d_place_of) rfl, run_eq _ _ _ _ rfl]
  have key := forL_find (S := S) (tg := .tp [.nm 2, .nm 3]) (f := fun ρ S => b_place_of_1.ev (callN G n) ρ S) (fun y : Cl × Nat => .tup [.int y.2, y.1.pv]) (fun y => if y.1.nm = x then some (PV.int y.2) else none)
    (fun ρ => ∃ a b, ρ = [some (.val (colsPV cs)), some (.val (.str x)), a, b]) (cs.zipIdx 0) [some (.val (colsPV cs)), some (.val (.str x)), none, none] ⟨_, _, rfl⟩ (by
      rintro ⟨c, k⟩ _ ρ ⟨a, b, rfl⟩
      refine ⟨_, rfl, ?_⟩
      by_cases h : c.nm = x
      · left
        refine ⟨.int k, by simp [h], ?_⟩
        simp [b_place_of_1, Stms.ev, Stm.ev, E.ev, Cell.pv, Cl.pv, idx2_0, eq_str, h, PV.truth, setS]
      · right
        refine ⟨by simp [h], _, ?_, some (.val (.int k)), some (.val c.pv), rfl⟩
        simp [b_place_of_1, Stms.ev, Stm.ev, E.ev, Cell.pv, Cl.pv, idx2_0, eq_str, h, PV.truth, setS])
  rw [place_find, ← numbered_map] at key
  have e0 : placeOf cs x = placeAt 0 cs x := rfl
  rw [e0]
  rcases key with ⟨r, h1, h2⟩ | ⟨h1, ρ2, h2, a, b, rfl⟩
  · obtain ⟨j, hj, rfl⟩ := Option.map_eq_some_iff.mp h1
    rw [hj]
    simp [d_place_of, Stms.ev, Stm.ev, It.ev, E.ev, colsPV] at h2 ⊢
    rw [h2]; rfl
  · rw [Option.map_eq_none_iff.mp h1]
    simp [d_place_of, Stms.ev, Stm.ev, It.ev, E.ev, colsPV] at h2 ⊢
    rw [h2]; rfl
theorem columns_of_ok (s : Sch) (x : Tx) : callN G (n + 1) .columns_of [schPV s, .str x] S = .ok (match s.lookup x with | some cs => colsPV cs | none => .non) S := by
  rw [callN_eq G n _ _ _ (d := d_columns_of) rfl, run_eq _ _ _ _ rfl]
  have key := forL_find (S := S) (tg := .tp [.nm 2, .nm 3]) (f := fun ρ S => b_columns_of_1.ev (callN G n) ρ S) tabPV (fun y => if x = y.1 then some (colsPV y.2) else none)
    (fun ρ => ∃ a b, ρ = [some (.val (schPV s)), some (.val (.str x)), a, b]) s [some (.val (schPV s)), some (.val (.str x)), none, none] ⟨_, _, rfl⟩ (by
      rintro ⟨c, k⟩ _ ρ ⟨a, b, rfl⟩
      refine ⟨_, rfl, ?_⟩
      by_cases h : x = c
      · left
        refine ⟨colsPV k, by simp [h], ?_⟩
        simp [b_columns_of_1, Stms.ev, Stm.ev, E.ev, Cell.pv, eq_str, h, PV.truth, setS]
      · right
        refine ⟨by simp [h], _, ?_, some (.val (.str c)), some (.val (colsPV k)), rfl⟩
        simp [b_columns_of_1, Stms.ev, Stm.ev, E.ev, Cell.pv, eq_str, Ne.symm h, PV.truth, setS])
  have e : ∀ s : Sch, (s.findSome? fun y => if x = y.1 then some (colsPV y.2) else none) = (s.lookup x).map colsPV := fun s => by
    induction s with
    | nil => rfl
    | cons y s ih =>
      obtain ⟨a, b⟩ := y
      rw [List.findSome?_cons, List.lookup_cons]
      by_cases h : x = a
      · simp [h]
      · have : (x == a) = false := by simpa using h
        rw [this]; simp only [if_neg h]; exact ih
  rw [e s] at key
  rcases key with ⟨r, h1, h2⟩ | ⟨h1, ρ2, h2, a, b, rfl⟩
  · obtain ⟨j, hj, rfl⟩ := Option.map_eq_some_iff.mp h1
    rw [hj]
    simp [d_columns_of, Stms.ev, Stm.ev, It.ev, E.ev, schPV, iterOf] at h2 ⊢
    rw [h2]; rfl
  · rw [Option.map_eq_none_iff.mp h1]
    simp [d_columns_of, Stms.ev, Stm.ev, It.ev, E.ev, schPV, iterOf] at h2 ⊢
    rw [h2]; rfl
theorem law_table_ok (s : Sch) (x : Tx) : callN G (n + 1) .law_table [schPV s, .str x] S = .ok (match s.lookup x with | some cs => colsPV cs | none => .non) S := by
  rw [callN_eq G n _ _ _ (d := d_law_table) rfl, run_eq _ _ _ _ rfl]
  have key := forL_find (S := S) (tg := .nm 2) (f := fun ρ S => b_law_table_1.ev (callN G n) ρ S) tabPV (fun y => if x = y.1 then some (colsPV y.2) else none)
    (fun ρ => ∃ a, ρ = [some (.val (schPV s)), some (.val (.str x)), a]) s [some (.val (schPV s)), some (.val (.str x)), none] ⟨_, rfl⟩ (by
      rintro ⟨c, k⟩ _ ρ ⟨a, rfl⟩
      refine ⟨_, rfl, ?_⟩
      by_cases h : x = c
      · left
        refine ⟨colsPV k, by simp [h], ?_⟩
        simp [b_law_table_1, Stms.ev, Stm.ev, E.ev, Cell.pv, eq_str, h, PV.truth, setS, tabPV, idx2_0, idx2_1]
      · right
        refine ⟨by simp [h], _, ?_, some (.val (tabPV (c, k))), rfl⟩
        simp [b_law_table_1, Stms.ev, Stm.ev, E.ev, Cell.pv, eq_str, Ne.symm h, PV.truth, setS, tabPV, idx2_0])
  have e : ∀ s : Sch, (s.findSome? fun y => if x = y.1 then some (colsPV y.2) else none) = (s.lookup x).map colsPV := fun s => by
    induction s with
    | nil => rfl
    | cons y s ih =>
      obtain ⟨a, b⟩ := y
      rw [List.findSome?_cons, List.lookup_cons]
      by_cases h : x = a
      · simp [h]
      · have : (x == a) = false := by simpa using h
        rw [this]; simp only [if_neg h]; exact ih
  rw [e s] at key
  rcases key with ⟨r, h1, h2⟩ | ⟨h1, ρ2, h2, a, rfl⟩
  · obtain ⟨j, hj, rfl⟩ := Option.map_eq_some_iff.mp h1
    rw [hj]
    simp [d_law_table, Stms.ev, Stm.ev, It.ev, E.ev, schPV, iterOf] at h2 ⊢
    rw [h2]; rfl
  · rw [Option.map_eq_none_iff.mp h1]
    simp [d_law_table, Stms.ev, Stm.ev, It.ev, E.ev, schPV, iterOf] at h2 ⊢
    rw [h2]; rfl
theorem refuse_no (r : PV) : callN G (n + 1) .refuse_if [.bl false, r] S = .ok .non S := rfl
theorem needed_ok {cs : List Cl} {x : Tx} {k : Nat} (h : placeOf cs x = some k) : callN G (n + 2) .needed [colsPV cs, .str x] S = .ok (.int k) S := by
  rw [callN_eq G (n + 1) _ _ _ (d := d_needed) rfl, run_eq _ _ _ _ rfl]
  simp [d_needed, Stms.ev, Stm.ev, E.ev, Es.ev, Cell.pv, place_of_ok, h, optI, Tg.bind, setS, CO.ev, isV, refuse_no, RS.fin]
theorem table_columns_ok {s : Sch} {x : Tx} {cs : List Cl} (h : s.lookup x = some cs) : callN G (n + 2) .table_columns [schPV s, .str x] S = .ok (colsPV cs) S := by
  rw [callN_eq G (n + 1) _ _ _ (d := d_table_columns) rfl, run_eq _ _ _ _ rfl]
  simp [d_table_columns, Stms.ev, Stm.ev, E.ev, Es.ev, Cell.pv, columns_of_ok, h, Tg.bind, setS, CO.ev, isV, colsPV, refuse_no, RS.fin]
/-- the kind of a column at its place -/
theorem cols_idx {cs : List Cl} {k : Nat} {c : Cl} (h : cs[k]? = some c) : idxEv (colsPV cs) (.int k) = some c.pv := idx_tup (by rw [List.getElem?_map, h]; rfl)

/-! ### names, kinds -/
theorem allStrs_of (ts : List Tx) : allStrs (ts.map .str) = some ts := by
  induction ts with
  | nil => rfl
  | cons t ts ih => simp [allStrs, ih]
theorem distT_go : ∀ (ts us : List Tx), (us ++ ts).Nodup → ts.foldl (fun us y => if y ∈ us then us else us ++ [y]) us = us ++ ts
  | [], us, _ => by simp
  | t :: ts, us, h => by
    rw [List.foldl_cons]
    have hn : t ∉ us := fun hm => by
      rw [List.nodup_append] at h
      exact h.2.2 t hm t List.mem_cons_self rfl
    rw [if_neg hn, distT_go ts (us ++ [t]) (by simpa using h)]
    simp
theorem distT_nodup {ts : List Tx} (h : ts.Nodup) : distT ts = ts := by
  unfold distT
  rw [distT_go ts [] (by simpa using h)]; rfl
theorem are_unlike_ok {ts : List Tx} (h : ts.Nodup) (hl : ts.length < 64) : callN G (n + 1) .are_unlike [strsPV ts] S = .ok (.bl true) S := by
  rw [callN_eq G n _ _ _ (d := d_are_unlike) rfl, run_eq _ _ _ _ rfl]
  have e : lenSetV (strsPV ts) = some (.int ts.length) := by
    show (allStrs (ts.map .str)).bind _ = _
    rw [allStrs_of]
    show (if ts.length < 64 then some (PV.int (distT ts).length) else none) = _
    rw [if_pos hl, distT_nodup h]
  simp [d_are_unlike, e, B1.ev, lenV, strsPV, eq_int] at e ⊢
theorem slc_to {xs : List PV} {k : Nat} : slcEv (.tup xs) none (some (k : Int)) = some (.tup (xs.take k)) := by
  show some (PV.tup ((xs.drop 0).take (sliceAt xs.length xs.length (some (k : Int)) - 0))) = _
  have : ¬ ((k : Int) < 0) := by omega
  simp [sliceAt, this]
theorem slc_from {xs : List PV} {k : Nat} : slcEv (.tup xs) (some (k : Int)) none = some (.tup (xs.drop k)) := by
  show some (PV.tup ((xs.drop (sliceAt xs.length 0 (some (k : Int)))).take (xs.length - sliceAt xs.length 0 (some (k : Int))))) = _
  have : ¬ ((k : Int) < 0) := by omega
  simp only [sliceAt, this, if_false]
  congr 2
  rw [List.take_of_length_le (by simp)]
  by_cases h : k ≤ xs.length
  · congr 1; simp; omega
  · rw [List.drop_eq_nil_of_le (by simp; omega), List.drop_eq_nil_of_le (by omega)]
theorem eqv_str (a b : Tx) : PV.eqv (.str a) (.str b) = decide (a = b) := by
  show (a == b) = _
  by_cases h : a = b
  · subst h; simp
  · simp [h]
theorem eqv_cl (a b : Cl) : PV.eqv a.pv b.pv = decide (a = b) := by
  show (PV.eqv (.str a.nm) (.str b.nm) && (PV.eqv (.str (kdT a.tx)) (.str (kdT b.tx)) && true)) = _
  rw [eqv_str, eqv_str, Bool.and_true, ← Bool.decide_and]
  congr 1
  rw [kdT_inj]
  cases a; cases b; simp
theorem dok_cls (cs : List Cl) (d : Nat) : (cs.map Cl.pv).all (PV.dok (d + 1)) = true := by
  rw [List.all_eq_true]
  intro x hx
  obtain ⟨c, _, rfl⟩ := List.mem_map.mp hx
  simp [Cl.pv, PV.dok]
theorem mem_cls (c : Cl) (cs : List Cl) : PV.mem c.pv (cs.map Cl.pv) = decide (c ∈ cs) := by
  unfold PV.mem
  rw [List.any_map, Bool.eq_iff_iff, List.any_eq_true, decide_eq_true_eq]
  constructor
  · rintro ⟨x, hx, e⟩
    rw [Function.comp, eqv_cl, decide_eq_true_eq] at e
    exact e ▸ hx
  · intro h
    exact ⟨c, h, by rw [Function.comp, eqv_cl]; simp⟩
theorem notin_cols (c : Cl) (cs : List Cl) : CO.ev .notin c.pv (.tup (cs.map Cl.pv)) = some (!decide (c ∈ cs)) := by
  show ((if (c.pv.dok 64 && (cs.map Cl.pv).all (PV.dok 64)) = true then some (PV.mem c.pv (cs.map Cl.pv)) else none).map (! ·)) = _
  rw [dok_cls, mem_cls]; rfl
theorem notin_colsL (c : Cl) (cs : List Cl) : CO.ev .notin c.pv (.lst (cs.map Cl.pv)) = some (!decide (c ∈ cs)) := by
  show ((if (c.pv.dok 64 && (cs.map Cl.pv).all (PV.dok 64)) = true then some (PV.mem c.pv (cs.map Cl.pv)) else none).map (! ·)) = _
  rw [dok_cls, mem_cls]; rfl
theorem in_colsT (c : Cl) (cs : List Cl) : CO.ev .isin c.pv (.tup (cs.map Cl.pv)) = some (decide (c ∈ cs)) := by
  show (if (c.pv.dok 64 && (cs.map Cl.pv).all (PV.dok 64)) = true then some (PV.mem c.pv (cs.map Cl.pv)) else none) = _
  rw [dok_cls, mem_cls]; rfl
theorem mem_strs (t : Tx) (ts : List Tx) : PV.mem (.str t) (ts.map .str) = decide (t ∈ ts) := by
  unfold PV.mem
  rw [List.any_map, Bool.eq_iff_iff, List.any_eq_true, decide_eq_true_eq]
  constructor
  · rintro ⟨x, hx, e⟩
    rw [Function.comp, eqv_str, decide_eq_true_eq] at e
    exact e ▸ hx
  · intro h
    exact ⟨t, h, by rw [Function.comp, eqv_str]; simp⟩
theorem dok_strs (ts : List Tx) (d : Nat) : (ts.map PV.str).all (PV.dok d) = true := by
  rw [List.all_eq_true]
  intro x hx
  obtain ⟨c, _, rfl⟩ := List.mem_map.mp hx
  cases d <;> rfl
theorem in_strsL (t : Tx) (ts : List Tx) : CO.ev .isin (.str t) (.lst (ts.map .str)) = some (decide (t ∈ ts)) := by
  show (if ((PV.str t).dok 64 && (ts.map PV.str).all (PV.dok 64)) = true then some (PV.mem (.str t) (ts.map .str)) else none) = _
  rw [dok_strs, mem_strs]; rfl
theorem in_strsT (t : Tx) (ts : List Tx) : CO.ev .isin (.str t) (.tup (ts.map .str)) = some (decide (t ∈ ts)) := by
  show (if ((PV.str t).dok 64 && (ts.map PV.str).all (PV.dok 64)) = true then some (PV.mem (.str t) (ts.map .str)) else none) = _
  rw [dok_strs, mem_strs]; rfl
theorem notin_strsL (t : Tx) (ts : List Tx) : CO.ev .notin (.str t) (.lst (ts.map .str)) = some (!decide (t ∈ ts)) := by
  show (CO.ev .isin (.str t) (.lst (ts.map .str))).map (! ·) = _
  rw [in_strsL]; rfl
theorem notin_strsT (t : Tx) (ts : List Tx) : CO.ev .notin (.str t) (.tup (ts.map .str)) = some (!decide (t ∈ ts)) := by
  show (CO.ev .isin (.str t) (.tup (ts.map .str))).map (! ·) = _
  rw [in_strsT]; rfl
theorem idxOf_strs {t : Tx} {ts : List Tx} {k : Nat} (h : (ts.findIdx? fun x => decide (x = t)) = some k) : idxOfV (.lst (ts.map .str)) (.str t) = some (.int k) := by
  show (if ((PV.str t).dok 32 && (ts.map PV.str).all (PV.dok 32)) = true then (firstAt (.str t) (ts.map .str) 0).map fun (n : Nat) => PV.int n else none) = _
  rw [dok_strs]
  have e : ∀ (ts : List Tx) (j : Nat), firstAt (.str t) (ts.map .str) j = (ts.findIdx? fun x => decide (x = t)).map (· + j) := fun ts => by
    induction ts with
    | nil => intro j; rfl
    | cons y ys ih =>
      intro j
      rw [List.map_cons, List.findIdx?_cons]
      unfold firstAt
      rw [eqv_str]
      by_cases hy : y = t
      · simp [hy]
      · simp only [hy, decide_false, Bool.false_eq_true, if_false, ih]
        cases ys.findIdx? fun x => decide (x = t) with
        | none => rfl
        | some i => simp; omega
  rw [e, h]; rfl
theorem names_find (cs : List Cl) (x : Tx) : ((names cs).findIdx? fun y => decide (y = x)) = placeOf cs x := by
  unfold placeOf names
  rw [placeAt_spec, List.findIdx?_map]
  simp
  rfl
theorem idxOf_names {cs : List Cl} {x : Tx} {k : Nat} (h : placeOf cs x = some k) : idxOfV (.lst ((names cs).map .str)) (.str x) = some (.int k) := idxOf_strs (by rw [names_find, h])
/-! ### chosen columns -/
def pickC (cs : List Cl) (ns : List Tx) : List Cl := ns.filterMap (colOf cs)
def plc (cs : List Cl) (x : Tx) : Nat := (placeOf cs x).getD 0
theorem plc_ok {cs : List Cl} {x : Tx} (h : x ∈ names cs) : placeOf cs x = some (plc cs x) ∧ ∃ c, colOf cs x = some c ∧ cs[plc cs x]? = some c ∧ c.nm = x := by
  obtain ⟨c, h1, h2, _⟩ := colOf_mem h
  obtain ⟨k, h3, h4⟩ := placeOf_some h1
  have e : plc cs x = k := by unfold plc; rw [h3]; rfl
  rw [e]
  exact ⟨h3, c, h1, h4, h2⟩
def cAt (cs : List Cl) (x : Tx) : Cl := (colOf cs x).getD ⟨[], false⟩
theorem cAt_ok {cs : List Cl} {x : Tx} (h : x ∈ names cs) : colOf cs x = some (cAt cs x) ∧ cs[plc cs x]? = some (cAt cs x) ∧ (cAt cs x).nm = x := by
  obtain ⟨_, c, h1, h2, h3⟩ := plc_ok h
  have e : cAt cs x = c := by unfold cAt; rw [h1]; rfl
  rw [e]; exact ⟨h1, h2, h3⟩
theorem pickC_map {cs : List Cl} {ns : List Tx} (h : ∀ x ∈ ns, x ∈ names cs) : pickC cs ns = ns.map (cAt cs) := by
  unfold pickC
  induction ns with
  | nil => rfl
  | cons y ns ih =>
    rw [List.filterMap_cons, (cAt_ok (h y List.mem_cons_self)).1]
    simp [ih fun x hx => h x (List.mem_cons_of_mem _ hx)]
theorem pickC_names {cs : List Cl} {ns : List Tx} (h : ∀ x ∈ ns, x ∈ names cs) : names (pickC cs ns) = ns := by
  rw [pickC_map h]
  unfold names
  rw [List.map_map]
  conv => rhs; rw [← List.map_id ns]
  exact List.map_congr_left fun x hx => (cAt_ok (h x hx)).2.2
theorem chosen_ok {cs : List Cl} {ns : List Tx} (h : ∀ x ∈ ns, x ∈ names cs) (nd : ns.Nodup) (hl : ns.length < 64) : callN G (n + 3) .chosen [colsPV cs, strsPV ns] S = .ok (colsPV (pickC cs ns)) S := by
  rw [callN_eq G (n + 2) _ _ _ (d := d_chosen) rfl, run_eq _ _ _ _ rfl]
  have e2 : ∀ f : PV → Store → R (List PV), (∀ x ∈ ns, f (.str x) S = .ok [.int (plc cs x)] S) → compL f (ns.map .str) S = .ok (ns.map fun x => PV.int (plc cs x)) S := fun f h => compL_map1 (fun x : Tx => PV.str x) _ ns h
  have e4 : ∀ f : PV → Store → R (List PV), (∀ x ∈ ns, f (.int (plc cs x)) S = .ok [(cAt cs x).pv] S) → compL f (ns.map fun x => PV.int (plc cs x)) S = .ok (ns.map fun x => (cAt cs x).pv) S := fun f h => compL_map1 (fun x : Tx => PV.int (plc cs x)) _ ns h
  have e3 : callN G (n + 2) .are_unlike [.tup (ns.map .str)] S = .ok (.bl true) S := are_unlike_ok (n := n + 1) nd hl
  simp only [strsPV]
  simp [d_chosen, Ty.ev, refuse_no, e3]
  rw [e2 _ fun x hx => by simp [needed_ok (plc_ok (h x hx)).1]]
  simp [e3, refuse_no]
  rw [e4 _ fun x hx => by simp [cols_idx (cAt_ok (h x hx)).2.1]]
  simp [B1.ev, tupleV, colsPV, pickC_map h]
end A3

-- PureR
set_option linter.all false
set_option maxRecDepth 100000
/-! PureR: questions; the defs that tell their columns. -/
namespace A3
variable {n : Nat} {S : Store}
/-- the columns with one renamed -/
def renC (cs : List Cl) (old new : Tx) : List Cl := cs.map fun c => if c.nm = old then ⟨new, c.tx⟩ else c
theorem renC_at : ∀ {cs : List Cl} {old new : Tx} {k : Nat} {c : Cl}, (names cs).Nodup → cs[k]? = some c → c.nm = old → renC cs old new = cs.take k ++ [⟨new, c.tx⟩] ++ cs.drop (k + 1)
  | [], _, _, _, _, _, h, _ => by simp at h
  | d :: cs, old, new, 0, c, nd, h, e => by
    have nd' := List.nodup_cons.mp (show (d.nm :: names cs).Nodup from nd)
    simp at h
    subst h
    subst e
    have : renC cs d.nm new = cs := by
      unfold renC
      conv => rhs; rw [← List.map_id cs]
      refine List.map_congr_left fun x hx => ?_
      rw [if_neg fun e => nd'.1 (List.mem_map.mpr ⟨x, hx, e⟩)]; rfl
    show (if d.nm = d.nm then _ else _) :: renC cs d.nm new = _
    rw [this]; simp
  | d :: cs, old, new, k + 1, c, nd, h, e => by
    have nd' := List.nodup_cons.mp (show (d.nm :: names cs).Nodup from nd)
    have h : cs[k]? = some c := by simpa using h
    have hne : d.nm ≠ old := fun q => nd'.1 (List.mem_map.mpr ⟨c, List.mem_of_getElem? h, by rw [e, q]⟩)
    show (if d.nm = old then _ else d) :: renC cs old new = _
    rw [if_neg hne, renC_at nd'.2 h e]; simp
theorem cl_kind (c : Cl) : idxEv c.pv (.int 1) = some (.str (kdT c.tx)) := rfl
theorem cl_name (c : Cl) : idxEv c.pv (.int 0) = some (.str c.nm) := rfl
/-- a name: one to eight small letters -/
def nameOk (t : Tx) : Bool := decide (1 ≤ t.length) && decide (t.length ≤ 8) && t.all fun c => decide (c ∈ tx "abcdefghijklmnopqrstuvwxyz")
theorem is_name_ok {t : Tx} (h : nameOk t = true) : callN G (n + 1) .is_name [.str t] S = .ok (.bl true) S := by
  rw [callN_eq G n _ _ _ (d := d_is_name) rfl, run_eq _ _ _ _ rfl]
  unfold nameOk at h
  simp only [Bool.and_eq_true, decide_eq_true_eq, List.all_eq_true] at h
  obtain ⟨⟨h1, h2⟩, h3⟩ := h
  have e : ∀ f : PV → Store → R (List PV), (∀ c ∈ t, f (.str [c]) S = .ok [.bl true] S) → compL f (t.map fun c => PV.str [c]) S = .ok (t.map fun _ => PV.bl true) S := fun f h => compL_map1 (fun c : Nat => PV.str [c]) _ t h
  have e2 : anyV (.lst (t.map fun _ => PV.bl true)) = anyV (.lst (t.map fun _ => PV.bl true)) := rfl
  have e3 : allV (.lst (t.map fun _ => PV.bl true)) = some (.bl true) := by
    show (allBools (t.map fun _ => PV.bl true)).map _ = _
    rw [show (t.map fun _ => PV.bl true) = (t.map fun _ => true).map .bl by simp, allBools_of]
    simp
  have c1 : (1 : Int) ≤ t.length := by omega
  have c2 : (t.length : Int) ≤ 8 := by omega
  simp [d_is_name, Ty.ev, CO.ev, leV, B1.ev, lenV, c1, c2]
  rw [e _ fun c hc => by simp [inV, h3 c hc]]
  simp [e3]
theorem renamed_ok {cs : List Cl} {old new : Tx} (nd : (names cs).Nodup) (h : old ∈ names cs) (hn : new ∉ names cs) (hk : nameOk new = true) (hl : cs.length < 60) : callN G (n + 3) .renamed [colsPV cs, .str old, .str new] S = .ok (colsPV (renC cs old new)) S := by
  rw [callN_eq G (n + 2) _ _ _ (d := d_renamed) rfl, run_eq _ _ _ _ rfl]
  obtain ⟨h1, h2, h3⟩ := cAt_ok h
  have hp := (plc_ok h).1
  have e1 : callN G (n + 2) .is_name [.str new] S = .ok (.bl true) S := is_name_ok (n := n + 1) hk
  have e2 : callN G (n + 2) .needed [colsPV cs, .str old] S = _ := needed_ok hp
  have e3 : callN G (n + 2) .place_of [colsPV cs, .str new] S = .ok (optI (placeOf cs new)) S := place_of_ok (n := n + 1) cs new
  rw [placeOf_none.mpr hn] at e3
  have e4 : idxEv (colsPV cs) (.int (plc cs old)) = some (cAt cs old).pv := cols_idx h2
  have e5 : slcEv (colsPV cs) none (some (plc cs old : Int)) = some (.tup ((cs.map Cl.pv).take (plc cs old))) := slc_to
  have e6 : slcEv (colsPV cs) (some ((plc cs old : Int) + 1)) none = some (.tup ((cs.map Cl.pv).drop (plc cs old + 1))) := slc_from (k := plc cs old + 1)
  have e7 : CO.ev .notin .non (.tup [.non, .int (plc cs old)]) = some false := rfl
  have hz := (List.getElem?_eq_some_iff.mp h2).1
  simp [d_renamed, e1, e2, e3, e4, e5, e6, e7, refuse_no, optI, cl_kind, BO.ev, addV, starOf]
  rw [if_pos (by omega)]
  simp
  rw [if_pos (by omega), renC_at nd h2 h3]
  simp [colsPV, Cl.pv, List.map_take, List.map_drop]
/-- the columns of a join -/
def joinC (a b : List Cl) : List Cl := a ++ b.filter fun c => !decide (c.nm ∈ names a)
theorem place_isnot (cs : List Cl) (x : Tx) : CO.ev .isnot (optI (placeOf cs x)) .non = some (decide (x ∈ names cs)) := by
  cases h : placeOf cs x with
  | none => rw [decide_eq_false (placeOf_none.mp h)]; rfl
  | some k =>
    have : x ∈ names cs := by
      by_cases hx : x ∈ names cs
      · exact hx
      · rw [placeOf_none.mpr hx] at h; cases h
    rw [decide_eq_true this]; rfl
theorem both_columns_ok {a b : List Cl} (h : ∀ c ∈ b, c.nm ∈ names a → c ∈ a) (hl : a.length < 60) (hb : b.length < 60) : callN G (n + 2) .both_columns [colsPV a, colsPV b] S = .ok (colsPV (joinC a b)) S := by
  rw [callN_eq G (n + 1) _ _ _ (d := d_both_columns) rfl, run_eq _ _ _ _ rfl]
  let m := b.filter fun c => decide (c.nm ∈ names a)
  have q1 : ∀ f : PV → Store → R (List PV), (∀ c ∈ b, f c.pv S = .ok (if decide (c.nm ∈ names a) then [c.pv] else []) S) → compL f (b.map Cl.pv) S = .ok (m.map Cl.pv) S := fun f h => compL_if Cl.pv Cl.pv (fun c => decide (c.nm ∈ names a)) b h
  have q2 : ∀ f : PV → Store → R (List PV), (∀ c ∈ m, f c.pv S = .ok [.bl false] S) → compL f (m.map Cl.pv) S = .ok (m.map fun _ => .bl false) S := fun f h => compL_map1 Cl.pv _ m h
  have q3 : ∀ f : PV → Store → R (List PV), (∀ c ∈ b, f c.pv S = .ok (if !decide (c.nm ∈ names a) then [c.pv] else []) S) → compL f (b.map Cl.pv) S = .ok ((b.filter fun c => !decide (c.nm ∈ names a)).map Cl.pv) S := fun f h => compL_if Cl.pv Cl.pv (fun c => !decide (c.nm ∈ names a)) b h
  have e1 : anyV (.lst (m.map fun _ => PV.bl false)) = some (.bl false) := by
    show (allBools (m.map fun _ => PV.bl false)).map _ = _
    rw [show (m.map fun _ => PV.bl false) = (m.map fun _ => false).map .bl by simp, allBools_of]
    simp
  have hm : ∀ c ∈ m, c ∈ a := fun c hc => by
    obtain ⟨h1, h2⟩ := List.mem_filter.mp hc
    exact h c h1 (of_decide_eq_true h2)
  have hz : (b.filter fun c => !decide (c.nm ∈ names a)).length ≤ b.length := List.length_filter_le _ _
  simp only [d_both_columns, colsPV]
  simp [starOf]
  rw [q1 _ fun c hc => by
    have e : callN G (n + 1) .place_of [.tup (a.map Cl.pv), .str c.nm] S = .ok (optI (placeOf a c.nm)) S := place_of_ok a c.nm
    simp [cl_name, e, place_isnot]
    by_cases hx : c.nm ∈ names a <;> simp [hx]]
  simp
  rw [q2 _ fun c hc => by simp [notin_cols, hm c hc]]
  simp [B1.ev, e1, refuse_no]
  rw [q3 _ fun c hc => by
    have e : CO.ev .notin c.pv (.lst (m.map Cl.pv)) = some (!decide (c.nm ∈ names a)) := by
      rw [notin_colsL]
      congr 2
      simp [m, List.mem_filter, hc]
    simp [e]
    by_cases hx : c.nm ∈ names a <;> simp [hx]]
  simp
  rw [if_pos (by omega)]
  simp
  rw [if_pos (by omega)]
  simp [joinC]
theorem with_number_ok {cs : List Cl} {x : Tx} (h : x ∉ names cs) (hl : cs.length < 60) : callN G (n + 2) .with_number [colsPV cs, .str x] S = .ok (colsPV (cs ++ [⟨x, false⟩])) S := by
  rw [callN_eq G (n + 1) _ _ _ (d := d_with_number) rfl, run_eq _ _ _ _ rfl]
  have e := place_of_ok (n := n) (S := S) cs x
  rw [placeOf_none.mpr h] at e
  have hz : cs.length ≤ 65535 := by omega
  simp only [colsPV] at e ⊢
  simp [d_with_number, e, optI, CO.ev, isV, refuse_no, starOf, hz, Cl.pv, kdT]
/-! ### values -/
inductive Vl where
  | num (i : Int) | txt (t : Tx)
  deriving DecidableEq, Repr
def Vl.pv : Vl → PV
  | .num i => .int i
  | .txt t => .str t
def Vl.isT : Vl → Bool
  | .num _ => false
  | .txt _ => true
def txtOk (t : Tx) : Bool := decide (t.length ≤ 40) && t.all fun c => decide (32 ≤ c) && decide (c ≤ 126)
def Vl.good : Vl → Bool
  | .num i => decide (0 ≤ i) && decide (i ≤ 999999)
  | .txt t => txtOk t
theorem le_sign (a b : Nat) : leV (.str [a]) (.str [b]) = some (decide (a ≤ b)) := by
  show some (decide ([a] ≤ [b])) = _
  congr 1
  rw [decide_eq_decide]
  simp [List.cons_le_cons_iff]
  omega
theorem is_text_ok {t : Tx} (h : txtOk t = true) : callN G (n + 1) .is_text [.str t] S = .ok (.bl true) S := by
  rw [callN_eq G n _ _ _ (d := d_is_text) rfl, run_eq _ _ _ _ rfl]
  unfold txtOk at h
  simp only [Bool.and_eq_true, decide_eq_true_eq, List.all_eq_true] at h
  obtain ⟨h1, h2⟩ := h
  have e : ∀ f : PV → Store → R (List PV), (∀ c ∈ t, f (.str [c]) S = .ok [.bl true] S) → compL f (t.map fun c => PV.str [c]) S = .ok (t.map fun _ => PV.bl true) S := fun f h => compL_map1 (fun c : Nat => PV.str [c]) _ t h
  have e3 : allV (.lst (t.map fun _ => PV.bl true)) = some (.bl true) := by
    show (allBools (t.map fun _ => PV.bl true)).map _ = _
    rw [show (t.map fun _ => PV.bl true) = (t.map fun _ => true).map .bl by simp, allBools_of]
    simp
  have c2 : (t.length : Int) ≤ 40 := by omega
  simp [d_is_text, Ty.ev, CO.ev, leV, B1.ev, lenV, c2]
  rw [e _ fun c hc => by
    have l1 := le_sign 32 c
    have l2 := le_sign c 126
    rw [show tx " " = [32] from rfl, show tx "~" = [126] from rfl]
    obtain ⟨g1, g2⟩ := h2 c hc
    simp only [leV] at l1 l2
    simp [l1, l2, g1, g2]]
  simp [e3]
theorem kind_of_ok {v : Vl} (h : v.good = true) : callN G (n + 2) .kind_of [v.pv] S = .ok (.str (kdT v.isT)) S := by
  rw [callN_eq G (n + 1) _ _ _ (d := d_kind_of) rfl, run_eq _ _ _ _ rfl]
  cases v with
  | num i =>
    have e := is_number_int (n := n) (S := S) i 999999
    rw [show (decide (0 ≤ i) && decide (i ≤ 999999)) = true from h] at e
    simp [d_kind_of, Vl.pv, e, Vl.isT, kdT]
  | txt t =>
    have e1 : callN G (n + 1) .is_number [.str t, .int 999999] S = .ok (.bl false) S := rfl
    have e2 := is_text_ok (n := n) (S := S) (t := t) h
    simp [d_kind_of, Vl.pv, e1, e2, Vl.isT, kdT]
inductive Cp where
  | eq | ne | lt | gt
  deriving DecidableEq, Repr
def Cp.t : Cp → Tx
  | .eq => tx "="
  | .ne => tx "<>"
  | .lt => tx "<"
  | .gt => tx ">"
theorem picked_columns_ok {cs : List Cl} {x : Tx} {c : Cl} {o : Cp} {v : Vl} (h : colOf cs x = some c) (hv : v.good = true) (hk : v.isT = c.tx) : callN G (n + 3) .picked_columns [colsPV cs, .str x, .str o.t, v.pv] S = .ok (colsPV cs) S := by
  rw [callN_eq G (n + 2) _ _ _ (d := d_picked_columns) rfl, run_eq _ _ _ _ rfl]
  obtain ⟨k, h1, h2⟩ := placeOf_some h
  have e1 : CO.ev .notin (.str o.t) (.tup [.str (tx "="), .str (tx "<>"), .str (tx "<"), .str (tx ">")]) = some false := by cases o <;> rfl
  have e2 : callN G (n + 2) .kind_of [v.pv] S = _ := kind_of_ok hv
  have e3 : callN G (n + 2) .needed [colsPV cs, .str x] S = _ := needed_ok h1
  simp [d_picked_columns, e1, e2, e3, refuse_no, cols_idx h2, cl_kind, ne_str, hk]
theorem same_columns_ok {cs : List Cl} {x y : Tx} {c d : Cl} (h : colOf cs x = some c) (h2 : colOf cs y = some d) (hk : c.tx = d.tx) : callN G (n + 3) .same_columns [colsPV cs, .str x, .str y] S = .ok (colsPV cs) S := by
  rw [callN_eq G (n + 2) _ _ _ (d := d_same_columns) rfl, run_eq _ _ _ _ rfl]
  obtain ⟨k, h3, h4⟩ := placeOf_some h
  obtain ⟨j, h5, h6⟩ := placeOf_some h2
  have e3 : callN G (n + 2) .needed [colsPV cs, .str x] S = _ := needed_ok h3
  have e4 : callN G (n + 2) .needed [colsPV cs, .str y] S = _ := needed_ok h5
  simp [d_same_columns, e3, e4, refuse_no, cols_idx h4, cols_idx h6, cl_kind, ne_str, hk]
theorem summed_columns_ok {cs : List Cl} {ns : List Tx} {x : Tx} {c : Cl} (h : ∀ x ∈ ns, x ∈ names cs) (nd : ns.Nodup) (hl : ns.length < 60) (hx : colOf cs x = some c) (hk : c.tx = false) (hs : tx "sum" ∉ ns) : callN G (n + 4) .summed_columns [colsPV cs, strsPV ns, .str x] S = .ok (colsPV (pickC cs ns ++ [⟨tx "sum", false⟩])) S := by
  rw [callN_eq G (n + 3) _ _ _ (d := d_summed_columns) rfl, run_eq _ _ _ _ rfl]
  obtain ⟨k, h3, h4⟩ := placeOf_some hx
  have e3 : callN G (n + 3) .needed [colsPV cs, .str x] S = _ := needed_ok (n := n + 1) h3
  have e1 : callN G (n + 3) .chosen [colsPV cs, strsPV ns] S = _ := chosen_ok h nd (by omega)
  have e2 : callN G (n + 3) .with_number [colsPV (pickC cs ns), .str (tx "sum")] S = _ := with_number_ok (n := n + 1) (by rw [pickC_names h]; exact hs) (by rw [pickC_map h, List.length_map]; exact hl)
  simp [d_summed_columns, e1, e2, e3, refuse_no, cols_idx h4, cl_kind, ne_str, hk, kdT]
theorem kept_columns_ok {cs : List Cl} {ns : List Tx} (h : ∀ x ∈ ns, x ∈ names cs) (nd : ns.Nodup) (hl : ns.length < 60) (h0 : ns ≠ []) : callN G (n + 4) .kept_columns [colsPV cs, strsPV ns] S = .ok (colsPV (pickC cs ns)) S := by
  rw [callN_eq G (n + 3) _ _ _ (d := d_kept_columns) rfl, run_eq _ _ _ _ rfl]
  have e1 : callN G (n + 3) .chosen [colsPV cs, strsPV ns] S = _ := chosen_ok h nd (by omega)
  have e2 : (strsPV ns).truth = some true := by
    show some (!(ns.map PV.str).isEmpty) = _
    cases ns with
    | nil => exact absurd rfl h0
    | cons _ _ => rfl
  have e3 : Ty.ev .tuple (strsPV ns) = some true := rfl
  simp [d_kept_columns, e1, e2, e3, refuse_no]
end A3

-- PureU
set_option linter.all false
set_option maxRecDepth 100000
/-! PureU: wishes, questions, what columns(..) tells of them. -/
namespace A3
variable {S : Store}
inductive Wi where
  | word (w : Tx) | begins (w : Tx) | all (a b : Wi) | any (a b : Wi) | none (a : Wi)
  deriving DecidableEq, Repr
def Wi.pv : Wi → PV
  | .word w => .tup [.str (tx "word"), .str w]
  | .begins w => .tup [.str (tx "begins"), .str w]
  | .all a b => .tup [.str (tx "all"), .tup [a.pv, b.pv]]
  | .any a b => .tup [.str (tx "any"), .tup [a.pv, b.pv]]
  | .none a => .tup [.str (tx "none"), a.pv]
def wordOk (w : Tx) : Bool := !w.isEmpty && decide (w.length ≤ 40) && w.all fun c => decide (c ∈ tx "abcdefghijklmnopqrstuvwxyz0123456789")
def Wi.ok : Wi → Bool
  | .word w => wordOk w
  | .begins w => wordOk w
  | .all a b => a.ok && b.ok
  | .any a b => a.ok && b.ok
  | .none a => a.ok
def Wi.depth : Wi → Nat
  | .word _ => 1
  | .begins _ => 1
  | .all a b => max a.depth b.depth + 1
  | .any a b => max a.depth b.depth + 1
  | .none a => a.depth + 1
theorem is_word_ok {w : Tx} (h : wordOk w = true) {m : Nat} (hm : 1 ≤ m) : callN G m .is_word [.str w] S = .ok (.bl true) S := by
  obtain ⟨n, rfl⟩ : ∃ n, m = n + 1 := ⟨m - 1, by omega⟩
  rw [callN_eq G n _ _ _ (d := d_is_word) rfl, run_eq _ _ _ _ rfl]
  unfold wordOk at h
  simp only [Bool.and_eq_true, decide_eq_true_eq, List.all_eq_true] at h
  obtain ⟨⟨h1, h2⟩, h3⟩ := h
  have hne : ¬ (w = tx "") := by
    rintro rfl
    simp [tx] at h1
  have key := forL_find (S := S) (tg := .nm 1) (f := fun ρ S => b_is_word_1.ev (callN G n) ρ S) (fun c : Nat => .str [c]) (fun _ => (none : Option PV)) (fun ρ => ∃ a, ρ = [some (.val (.str w)), a]) w [some (.val (.str w)), none] ⟨_, rfl⟩ (by
      rintro c hc ρ ⟨a, rfl⟩
      refine ⟨_, rfl, .inr ⟨rfl, _, ?_, some (.val (.str [c])), rfl⟩⟩
      have := h3 c hc
      simp [b_is_word_1, CO.ev, inV, this])
  rcases key with ⟨r, h4, _⟩ | ⟨_, ρ2, h4, a, rfl⟩
  · exfalso
    have : ∀ ws : Tx, (ws.findSome? fun _ => (none : Option PV)) = none := fun ws => by induction ws <;> simp_all
    rw [this] at h4; cases h4
  · simp [d_is_word, Ty.ev, eq_str, hne]
    rw [h4]; rfl
theorem word_wish_ok {w : Tx} (h : wordOk w = true) {m : Nat} (hm : 2 ≤ m) (k : Tx) (hk : CO.ev .notin (.str k) (.tup [.str (tx "word"), .str (tx "begins")]) = some false) : callN G m .is_word_wish [.tup [.str k, .str w]] S = .ok (.bl true) S := by
  obtain ⟨n, rfl⟩ : ∃ n, m = n + 1 := ⟨m - 1, by omega⟩
  rw [callN_eq G n _ _ _ (d := d_is_word_wish) rfl, run_eq _ _ _ _ rfl]
  have e := is_word_ok (S := S) h (m := n) (by omega)
  unfold wordOk at h
  simp only [Bool.and_eq_true, decide_eq_true_eq, List.all_eq_true] at h
  have c2 : (w.length : Int) ≤ 40 := by omega
  have e2 : CO.ev .ne (.int 2) (.int 2) = some false := rfl
  have c3 : CO.ev .le (.int w.length) (.int 40) = some true := by
    show some (decide _) = _
    rw [decide_eq_true c2]
  simp [d_is_word_wish, B1.ev, lenV, hk, idx2_0, idx2_1, e, e2, c3]
theorem is_deep_wish_ok : ∀ (w : Wi), w.ok = true → ∀ (d : Int), (w.depth : Int) ≤ d → ∀ m, w.depth + 2 ≤ m → callN G m .is_deep_wish [w.pv, .int d] S = .ok (.bl true) S := by
  intro w
  have zero : ∀ d : Int, 1 ≤ d → CO.ev .eq (.int d) (.int 0) = some false := fun d hd => by rw [eq_int, decide_eq_false (by omega)]
  have l2 : CO.ev .ne (.int 2) (.int 2) = some false := rfl
  have c2 : leV (.int 2) (.int 2) = some true := rfl
  have c6 : leV (.int 2) (.int 6) = some true := rfl
  induction w with
  | word w =>
    intro h d hd m hm
    unfold Wi.depth at hd hm
    obtain ⟨n, rfl⟩ : ∃ n, m = n + 1 := ⟨m - 1, by omega⟩
    rw [callN_eq G n _ _ _ (d := d_is_deep_wish) rfl, run_eq _ _ _ _ rfl]
    have e := word_wish_ok (S := S) h (m := n) (by omega) (tx "word") rfl
    have e1 : CO.ev .eq (.str (tx "word")) (.str (tx "none")) = some false := rfl
    have e2 : CO.ev .notin (.str (tx "word")) (.tup [.str (tx "all"), .str (tx "any")]) = some true := rfl
    simp [d_is_deep_wish, Wi.pv, Ty.ev, B1.ev, lenV, l2, zero d (by omega), idx2_0, e1, e2, e]
  | begins w =>
    intro h d hd m hm
    unfold Wi.depth at hd hm
    obtain ⟨n, rfl⟩ : ∃ n, m = n + 1 := ⟨m - 1, by omega⟩
    rw [callN_eq G n _ _ _ (d := d_is_deep_wish) rfl, run_eq _ _ _ _ rfl]
    have e := word_wish_ok (S := S) h (m := n) (by omega) (tx "begins") rfl
    have e1 : CO.ev .eq (.str (tx "begins")) (.str (tx "none")) = some false := rfl
    have e2 : CO.ev .notin (.str (tx "begins")) (.tup [.str (tx "all"), .str (tx "any")]) = some true := rfl
    simp [d_is_deep_wish, Wi.pv, Ty.ev, B1.ev, lenV, l2, zero d (by omega), idx2_0, e1, e2, e]
  | none a ih =>
    intro h d hd m hm
    unfold Wi.depth at hd hm
    obtain ⟨n, rfl⟩ : ∃ n, m = n + 1 := ⟨m - 1, by omega⟩
    rw [callN_eq G n _ _ _ (d := d_is_deep_wish) rfl, run_eq _ _ _ _ rfl]
    have e := ih h (d - 1) (by omega) n (by omega)
    have e1 : CO.ev .eq (.str (tx "none")) (.str (tx "none")) = some true := rfl
    simp [d_is_deep_wish, Wi.pv, Ty.ev, B1.ev, lenV, l2, zero d (by omega), idx2_0, idx2_1, e1, e, sub_int]
  | all a b iha ihb =>
    intro h d hd m hm
    unfold Wi.depth at hd hm
    unfold Wi.ok at h
    rw [Bool.and_eq_true] at h
    obtain ⟨n, rfl⟩ : ∃ n, m = n + 1 := ⟨m - 1, by omega⟩
    rw [callN_eq G n _ _ _ (d := d_is_deep_wish) rfl, run_eq _ _ _ _ rfl]
    have ea := iha h.1 (d - 1) (by omega) n (by omega)
    have eb := ihb h.2 (d - 1) (by omega) n (by omega)
    have e1 : CO.ev .eq (.str (tx "all")) (.str (tx "none")) = some false := rfl
    have e2 : CO.ev .notin (.str (tx "all")) (.tup [.str (tx "all"), .str (tx "any")]) = some false := rfl
    have c2' : CO.ev .le (.int 2) (.int 2) = some true := rfl
    have c6' : CO.ev .le (.int 2) (.int 6) = some true := rfl
    simp [d_is_deep_wish, Wi.pv, Ty.ev, B1.ev, lenV, l2, zero d (by omega), idx2_0, idx2_1, e1, e2, c2', c6', forL, b_is_deep_wish_1, ea, eb, sub_int]
  | any a b iha ihb =>
    intro h d hd m hm
    unfold Wi.depth at hd hm
    unfold Wi.ok at h
    rw [Bool.and_eq_true] at h
    obtain ⟨n, rfl⟩ : ∃ n, m = n + 1 := ⟨m - 1, by omega⟩
    rw [callN_eq G n _ _ _ (d := d_is_deep_wish) rfl, run_eq _ _ _ _ rfl]
    have ea := iha h.1 (d - 1) (by omega) n (by omega)
    have eb := ihb h.2 (d - 1) (by omega) n (by omega)
    have e1 : CO.ev .eq (.str (tx "any")) (.str (tx "none")) = some false := rfl
    have e2 : CO.ev .notin (.str (tx "any")) (.tup [.str (tx "all"), .str (tx "any")]) = some false := rfl
    have c2' : CO.ev .le (.int 2) (.int 2) = some true := rfl
    have c6' : CO.ev .le (.int 2) (.int 6) = some true := rfl
    simp [d_is_deep_wish, Wi.pv, Ty.ev, B1.ev, lenV, l2, zero d (by omega), idx2_0, idx2_1, e1, e2, c2', c6', forL, b_is_deep_wish_1, ea, eb, sub_int]
theorem is_wish_ok {w : Wi} (h : w.ok = true) (hd : w.depth ≤ 6) {m : Nat} (hm : w.depth + 3 ≤ m) : callN G m .is_wish [w.pv] S = .ok (.bl true) S := by
  obtain ⟨n, rfl⟩ : ∃ n, m = n + 1 := ⟨m - 1, by omega⟩
  rw [callN_eq G n _ _ _ (d := d_is_wish) rfl, run_eq _ _ _ _ rfl]
  simp [d_is_wish, is_deep_wish_ok w h 6 (by omega) n (by omega)]
theorem found_columns_ok {s : Sch} {t x : Tx} {cs : List Cl} {c : Cl} {w : Wi} (h : s.lookup t = some cs) (hx : colOf cs x = some c) (hk : c.tx = true) (hw : w.ok = true) (hd : w.depth ≤ 6) {m : Nat} (hm : 12 ≤ m) : callN G m .found_columns [schPV s, .str t, .str x, w.pv] S = .ok (colsPV cs) S := by
  obtain ⟨n, rfl⟩ : ∃ n, m = n + 12 := ⟨m - 12, by omega⟩
  rw [callN_eq G (n + 11) _ _ _ (d := d_found_columns) rfl, run_eq _ _ _ _ rfl]
  obtain ⟨k, h3, h4⟩ := placeOf_some hx
  have e1 : callN G (n + 11) .table_columns [schPV s, .str t] S = _ := table_columns_ok (n := n + 9) h
  have e2 : callN G (n + 11) .needed [colsPV cs, .str x] S = _ := needed_ok (n := n + 9) h3
  have e3 := is_wish_ok (S := S) hw hd (m := n + 11) (by omega)
  simp [d_found_columns, e1, e2, e3, refuse_no, cols_idx h4, cl_kind, ne_str, hk, kdT]

/-! ### questions -/
inductive Qu where
  | table (t : Tx) | found (t c : Tx) (w : Wi) | pick (q : Qu) (c : Tx) (o : Cp) (v : Vl) | same (q : Qu) (a b : Tx) | keep (q : Qu) (ns : List Tx) | name (q : Qu) (old new : Tx)
  | join (a b : Qu) | unite (a b : Qu) | less (a b : Qu) | count (q : Qu) (ns : List Tx) | sum (q : Qu) (ns : List Tx) (c : Tx)
  deriving DecidableEq, Repr
def Qu.pv : Qu → PV
  | .table t => .tup [.str (tx "table"), .str t]
  | .found t c w => .tup [.str (tx "found"), .str t, .str c, w.pv]
  | .pick q c o v => .tup [.str (tx "pick"), q.pv, .str c, .str o.t, v.pv]
  | .same q a b => .tup [.str (tx "same"), q.pv, .str a, .str b]
  | .keep q ns => .tup [.str (tx "keep"), q.pv, strsPV ns]
  | .name q old new => .tup [.str (tx "name"), q.pv, .str old, .str new]
  | .join a b => .tup [.str (tx "join"), a.pv, b.pv]
  | .unite a b => .tup [.str (tx "unite"), a.pv, b.pv]
  | .less a b => .tup [.str (tx "less"), a.pv, b.pv]
  | .count q ns => .tup [.str (tx "count"), q.pv, strsPV ns]
  | .sum q ns c => .tup [.str (tx "sum"), q.pv, strsPV ns, .str c]
def Qu.cols (s : Sch) : Qu → List Cl
  | .table t => (s.lookup t).getD []
  | .found t _ _ => (s.lookup t).getD []
  | .pick q _ _ _ => q.cols s
  | .same q _ _ => q.cols s
  | .keep q ns => pickC (q.cols s) ns
  | .name q old new => renC (q.cols s) old new
  | .join a b => joinC (a.cols s) (b.cols s)
  | .unite a _ => a.cols s
  | .less a _ => a.cols s
  | .count q ns => pickC (q.cols s) ns ++ [⟨tx "count", false⟩]
  | .sum q ns _ => pickC (q.cols s) ns ++ [⟨tx "sum", false⟩]
def Qu.depth : Qu → Nat
  | .table _ => 1
  | .found _ _ _ => 1
  | .pick q _ _ _ => q.depth + 1
  | .same q _ _ => q.depth + 1
  | .keep q _ => q.depth + 1
  | .name q _ _ => q.depth + 1
  | .join a b => max a.depth b.depth + 1
  | .unite a b => max a.depth b.depth + 1
  | .less a b => max a.depth b.depth + 1
  | .count q _ => q.depth + 1
  | .sum q _ _ => q.depth + 1
/-- the question has columns -/
def Qu.ok (s : Sch) : Qu → Prop
  | .table t => ∃ cs, s.lookup t = some cs
  | .found t x w => ∃ cs c, s.lookup t = some cs ∧ colOf cs x = some c ∧ c.tx = true ∧ w.ok = true ∧ w.depth ≤ 6
  | .pick q x _ v => q.ok s ∧ ∃ c, colOf (q.cols s) x = some c ∧ v.good = true ∧ v.isT = c.tx
  | .same q x y => q.ok s ∧ ∃ c d, colOf (q.cols s) x = some c ∧ colOf (q.cols s) y = some d ∧ c.tx = d.tx
  | .keep q ns => q.ok s ∧ (∀ x ∈ ns, x ∈ names (q.cols s)) ∧ ns.Nodup ∧ ns ≠ []
  | .name q old new => q.ok s ∧ old ∈ names (q.cols s) ∧ new ∉ names (q.cols s) ∧ nameOk new = true
  | .join a b => a.ok s ∧ b.ok s ∧ ∀ c ∈ b.cols s, c.nm ∈ names (a.cols s) → c ∈ a.cols s
  | .unite a b => a.ok s ∧ b.ok s ∧ b.cols s = a.cols s
  | .less a b => a.ok s ∧ b.ok s ∧ b.cols s = a.cols s
  | .count q ns => q.ok s ∧ (∀ x ∈ ns, x ∈ names (q.cols s)) ∧ ns.Nodup ∧ tx "count" ∉ ns
  | .sum q ns x => q.ok s ∧ (∀ x ∈ ns, x ∈ names (q.cols s)) ∧ ns.Nodup ∧ tx "sum" ∉ ns ∧ ∃ c, colOf (q.cols s) x = some c ∧ c.tx = false
/-- columns of one form: unlike names, few -/
def ClsOk (cs : List Cl) : Prop := (names cs).Nodup ∧ cs.length < 50
/-- all columns that stand in the question are so -/
def Qu.fin (s : Sch) : Qu → Prop
  | .pick q x o v => ClsOk ((Qu.pick q x o v).cols s) ∧ q.fin s
  | .same q x y => ClsOk ((Qu.same q x y).cols s) ∧ q.fin s
  | .keep q ns => ClsOk ((Qu.keep q ns).cols s) ∧ q.fin s
  | .name q x y => ClsOk ((Qu.name q x y).cols s) ∧ q.fin s
  | .join a b => ClsOk ((Qu.join a b).cols s) ∧ a.fin s ∧ b.fin s
  | .unite a b => ClsOk ((Qu.unite a b).cols s) ∧ a.fin s ∧ b.fin s
  | .less a b => ClsOk ((Qu.less a b).cols s) ∧ a.fin s ∧ b.fin s
  | .count q ns => ClsOk ((Qu.count q ns).cols s) ∧ q.fin s
  | .sum q ns x => ClsOk ((Qu.sum q ns x).cols s) ∧ q.fin s
  | q => ClsOk (q.cols s)
theorem Qu.fin_cls {s : Sch} {q : Qu} (h : q.fin s) : ClsOk (q.cols s) := by cases q <;> first | exact h | exact h.1
theorem sub_len {α : Type} [DecidableEq α] : ∀ {xs ys : List α}, xs.Nodup → (∀ x ∈ xs, x ∈ ys) → xs.length ≤ ys.length
  | [], _, _, _ => Nat.zero_le _
  | x :: xs, ys, nd, h => by
    have nd' := List.nodup_cons.mp nd
    have hx := h x List.mem_cons_self
    have := sub_len (ys := ys.erase x) nd'.2 fun y hy => by
      have hne : y ≠ x := fun e => nd'.1 (e ▸ hy)
      exact (List.mem_erase_of_ne hne).mpr (h y (List.mem_cons_of_mem _ hy))
    have e := List.length_erase_of_mem hx
    have p : 0 < ys.length := List.length_pos_of_mem hx
    rw [List.length_cons]; omega
theorem nodup_len {ns : List Tx} {cs : List Cl} (nd : ns.Nodup) (h : ∀ x ∈ ns, x ∈ names cs) : ns.length ≤ cs.length := by
  have := sub_len nd h
  simpa [names] using this
end A3

-- PureV
set_option linter.all false
set_option maxRecDepth 100000
set_option maxHeartbeats 4000000
/-! PureV: columns(question, schema), and the law's own columns. -/
namespace A3
variable {S : Store}
@[simp] theorem pat_seq (ps : List Pt) (xs : List PV) : (Pat.seq ps).m (.tup xs) = if xs.length = ps.length then ptsM ps xs else some none := rfl
@[simp] theorem pts_nil' : ptsM [] [] = some (some []) := rfl
@[simp] theorem pts_cap' (i : Nat) (ps : List Pt) (v : PV) (vs : List PV) : ptsM (.cap i :: ps) (v :: vs) = match ptsM ps vs with
      | some (some cs) => some (some ((i, v) :: cs))
      | r => r := rfl
@[simp] theorem pts_wild' (ps : List Pt) (v : PV) (vs : List PV) : ptsM (.wild :: ps) (v :: vs) = match ptsM ps vs with
      | some (some cs) => some (some cs)
      | r => r := rfl
@[simp] theorem pts_val' (t u : Tx) (ps : List Pt) (vs : List PV) : ptsM (.val (.str t) :: ps) (.str u :: vs) = if u = t then ptsM ps vs else some none := by
  have e : (Pt.val (.str t)).m (.str u) = some (if u = t then some [] else none) := by
    show (match eqV' (.str u) (.str t) with
      | some true => some (some [])
      | some false => altM [] (.str u)
      | none => none) = _
    rw [show eqV' (.str u) (.str t) = some (decide (u = t)) from eq_str u t]
    by_cases h : u = t <;> simp [h, altM]
  show (match (Pt.val (.str t)).m (.str u) with
    | some (some bs) => (match ptsM ps vs with
      | some (some cs) => some (some (bs ++ cs))
      | r => r)
    | r => r) = _
  rw [e]
  by_cases h : u = t
  · simp only [h, if_true]
    cases ptsM ps vs with
    | none => rfl
    | some r => cases r <;> rfl
  · simp [h]
@[simp] theorem pts_alt' (t t' u : Tx) (ps : List Pt) (vs : List PV) : ptsM (.alt [.str t, .str t'] :: ps) (.str u :: vs) = if u = t ∨ u = t' then ptsM ps vs else some none := by
  have e : (Pt.alt [.str t, .str t']).m (.str u) = some (if u = t ∨ u = t' then some [] else none) := by
    show (match eqV' (.str u) (.str t) with
      | some true => some (some [])
      | some false => (match eqV' (.str u) (.str t') with
        | some true => some (some [])
        | some false => altM [] (.str u)
        | none => none)
      | none => none) = _
    rw [show eqV' (.str u) (.str t) = some (decide (u = t)) from eq_str u t, show eqV' (.str u) (.str t') = some (decide (u = t')) from eq_str u t']
    by_cases h : u = t
    · simp [h]
    · by_cases h2 : u = t'
      · subst h2; simp [h]
      · simp [h, h2, altM]
  show (match (Pt.alt [.str t, .str t']).m (.str u) with
    | some (some bs) => (match ptsM ps vs with
      | some (some cs) => some (some (bs ++ cs))
      | r => r)
    | r => r) = _
  rw [e]
  by_cases h : u = t ∨ u = t'
  · simp only [h, if_true]
    cases ptsM ps vs with
    | none => rfl
    | some r => cases r <;> rfl
  · simp [h]
theorem eqv_cls : ∀ (a b : List Cl), PV.eqvL (a.map Cl.pv) (b.map Cl.pv) = decide (a = b)
  | [], [] => rfl
  | [], _ :: _ => rfl
  | _ :: _, [] => rfl
  | x :: a, y :: b => by
    show (PV.eqv x.pv y.pv && PV.eqvL (a.map Cl.pv) (b.map Cl.pv)) = _
    rw [eqv_cl, eqv_cls a b, ← Bool.decide_and]
    simp
theorem ne_cols (a b : List Cl) : CO.ev .ne (colsPV a) (colsPV b) = some (!decide (a = b)) := by
  show ((if ((colsPV a).dok 64 && (colsPV b).dok 64) = true then some (PV.eqvL (a.map Cl.pv) (b.map Cl.pv)) else none).map (! ·)) = _
  have e : ∀ c : List Cl, (colsPV c).dok 64 = true := fun c => dok_cls c 62
  rw [e, e, eqv_cls]; rfl
theorem deep_zero {d : Int} (h : 1 ≤ d) : CO.ev .eq (.int d) (.int 0) = some false := by rw [eq_int, decide_eq_false (by omega)]
theorem deep_columns_ok {s : Sch} : ∀ (q : Qu), q.ok s → q.fin s → ∀ (d : Int), (q.depth : Int) ≤ d → ∀ m, q.depth + 14 ≤ m → callN G m .deep_columns [q.pv, schPV s, .int d] S = .ok (colsPV (q.cols s)) S := by
  intro q
  induction q with
  | table t =>
    rintro ⟨cs, h⟩ hf d hd m hm
    unfold Qu.depth at hd hm
    obtain ⟨n, rfl⟩ : ∃ n, m = n + 15 := ⟨m - 15, by omega⟩
    rw [callN_eq G (n + 14) _ _ _ (d := d_deep_columns) rfl, run_eq _ _ _ _ rfl]
    have e : callN G (n + 14) .table_columns [schPV s, .str t] S = _ := table_columns_ok (n := n + 12) h
    simp (decide := true) [d_deep_columns, Qu.pv, Qu.cols, Ty.ev, refuse_no, deep_zero (show 1 ≤ d by omega), bindAll, e, h]
  | found t x w =>
    rintro ⟨cs, c, h, h2, h3, h4, h5⟩ hf d hd m hm
    unfold Qu.depth at hd hm
    obtain ⟨n, rfl⟩ : ∃ n, m = n + 15 := ⟨m - 15, by omega⟩
    rw [callN_eq G (n + 14) _ _ _ (d := d_deep_columns) rfl, run_eq _ _ _ _ rfl]
    have e : callN G (n + 14) .found_columns [schPV s, .str t, .str x, w.pv] S = _ := found_columns_ok h h2 h3 h4 h5 (by omega)
    simp (decide := true) [d_deep_columns, Qu.pv, Qu.cols, Ty.ev, refuse_no, deep_zero (show 1 ≤ d by omega), bindAll, e, h]
  | pick q x o v ih =>
    rintro ⟨hq, c, h, h2, h3⟩ hf d hd m hm
    unfold Qu.depth at hd hm
    obtain ⟨n, rfl⟩ : ∃ n, m = n + 15 := ⟨m - 15, by omega⟩
    rw [callN_eq G (n + 14) _ _ _ (d := d_deep_columns) rfl, run_eq _ _ _ _ rfl]
    have e1 := ih hq hf.2 (d - 1) (by omega) (n + 14) (by omega)
    have e : callN G (n + 14) .picked_columns [colsPV (q.cols s), .str x, .str o.t, v.pv] S = _ := picked_columns_ok (n := n + 11) h h2 h3
    simp (decide := true) [d_deep_columns, Qu.pv, Qu.cols, Ty.ev, refuse_no, deep_zero (show 1 ≤ d by omega), bindAll, e, e1, sub_int]
  | same q x y ih =>
    rintro ⟨hq, c, c2, h, h2, h3⟩ hf d hd m hm
    unfold Qu.depth at hd hm
    obtain ⟨n, rfl⟩ : ∃ n, m = n + 15 := ⟨m - 15, by omega⟩
    rw [callN_eq G (n + 14) _ _ _ (d := d_deep_columns) rfl, run_eq _ _ _ _ rfl]
    have e1 := ih hq hf.2 (d - 1) (by omega) (n + 14) (by omega)
    have e : callN G (n + 14) .same_columns [colsPV (q.cols s), .str x, .str y] S = _ := same_columns_ok (n := n + 11) h h2 h3
    simp (decide := true) [d_deep_columns, Qu.pv, Qu.cols, Ty.ev, refuse_no, deep_zero (show 1 ≤ d by omega), bindAll, e, e1, sub_int]
  | keep q ns ih =>
    rintro ⟨hq, h, h2, h3⟩ hf d hd m hm
    unfold Qu.depth at hd hm
    obtain ⟨n, rfl⟩ : ∃ n, m = n + 15 := ⟨m - 15, by omega⟩
    rw [callN_eq G (n + 14) _ _ _ (d := d_deep_columns) rfl, run_eq _ _ _ _ rfl]
    have e1 := ih hq hf.2 (d - 1) (by omega) (n + 14) (by omega)
    have hl : ns.length < 60 := by have := nodup_len h2 h; have := (Qu.fin_cls hf.2).2; omega
    have e : callN G (n + 14) .kept_columns [colsPV (q.cols s), strsPV ns] S = _ := kept_columns_ok (n := n + 10) h h2 hl h3
    simp (decide := true) [d_deep_columns, Qu.pv, Qu.cols, Ty.ev, refuse_no, deep_zero (show 1 ≤ d by omega), bindAll, e, e1, sub_int]
  | name q old new ih =>
    rintro ⟨hq, h, h2, h3⟩ hf d hd m hm
    unfold Qu.depth at hd hm
    obtain ⟨n, rfl⟩ : ∃ n, m = n + 15 := ⟨m - 15, by omega⟩
    rw [callN_eq G (n + 14) _ _ _ (d := d_deep_columns) rfl, run_eq _ _ _ _ rfl]
    have e1 := ih hq hf.2 (d - 1) (by omega) (n + 14) (by omega)
    have e : callN G (n + 14) .renamed [colsPV (q.cols s), .str old, .str new] S = _ := renamed_ok (n := n + 11) (Qu.fin_cls hf.2).1 h h2 h3 (by have := (Qu.fin_cls hf.2).2; omega)
    simp (decide := true) [d_deep_columns, Qu.pv, Qu.cols, Ty.ev, refuse_no, deep_zero (show 1 ≤ d by omega), bindAll, e, e1, sub_int]
  | join a b iha ihb =>
    rintro ⟨ha, hb, h⟩ hf d hd m hm
    unfold Qu.depth at hd hm
    obtain ⟨n, rfl⟩ : ∃ n, m = n + 15 := ⟨m - 15, by omega⟩
    rw [callN_eq G (n + 14) _ _ _ (d := d_deep_columns) rfl, run_eq _ _ _ _ rfl]
    have e1 := iha ha hf.2.1 (d - 1) (by omega) (n + 14) (by omega)
    have e2 := ihb hb hf.2.2 (d - 1) (by omega) (n + 14) (by omega)
    have e : callN G (n + 14) .both_columns [colsPV (a.cols s), colsPV (b.cols s)] S = _ := both_columns_ok (n := n + 12) h (by have := (Qu.fin_cls hf.2.1).2; omega) (by have := (Qu.fin_cls hf.2.2).2; omega)
    simp (decide := true) [d_deep_columns, Qu.pv, Qu.cols, Ty.ev, refuse_no, deep_zero (show 1 ≤ d by omega), bindAll, e, e1, e2, sub_int]
  | unite a b iha ihb =>
    rintro ⟨ha, hb, h⟩ hf d hd m hm
    unfold Qu.depth at hd hm
    obtain ⟨n, rfl⟩ : ∃ n, m = n + 15 := ⟨m - 15, by omega⟩
    rw [callN_eq G (n + 14) _ _ _ (d := d_deep_columns) rfl, run_eq _ _ _ _ rfl]
    have e1 := iha ha hf.2.1 (d - 1) (by omega) (n + 14) (by omega)
    have e2 := ihb hb hf.2.2 (d - 1) (by omega) (n + 14) (by omega)
    rw [h] at e2
    simp (decide := true) [d_deep_columns, Qu.pv, Qu.cols, Ty.ev, refuse_no, deep_zero (show 1 ≤ d by omega), bindAll, e1, e2, sub_int, ne_cols]
  | less a b iha ihb =>
    rintro ⟨ha, hb, h⟩ hf d hd m hm
    unfold Qu.depth at hd hm
    obtain ⟨n, rfl⟩ : ∃ n, m = n + 15 := ⟨m - 15, by omega⟩
    rw [callN_eq G (n + 14) _ _ _ (d := d_deep_columns) rfl, run_eq _ _ _ _ rfl]
    have e1 := iha ha hf.2.1 (d - 1) (by omega) (n + 14) (by omega)
    have e2 := ihb hb hf.2.2 (d - 1) (by omega) (n + 14) (by omega)
    rw [h] at e2
    simp (decide := true) [d_deep_columns, Qu.pv, Qu.cols, Ty.ev, refuse_no, deep_zero (show 1 ≤ d by omega), bindAll, e1, e2, sub_int, ne_cols]
  | count q ns ih =>
    rintro ⟨hq, h, h2, h3⟩ hf d hd m hm
    unfold Qu.depth at hd hm
    obtain ⟨n, rfl⟩ : ∃ n, m = n + 15 := ⟨m - 15, by omega⟩
    rw [callN_eq G (n + 14) _ _ _ (d := d_deep_columns) rfl, run_eq _ _ _ _ rfl]
    have e1 := ih hq hf.2 (d - 1) (by omega) (n + 14) (by omega)
    have hl : ns.length < 50 := by have := nodup_len h2 h; have := (Qu.fin_cls hf.2).2; omega
    have e : callN G (n + 14) .chosen [colsPV (q.cols s), strsPV ns] S = _ := chosen_ok (n := n + 11) h h2 (by omega)
    have e2 : callN G (n + 14) .with_number [colsPV (pickC (q.cols s) ns), .str (tx "count")] S = _ := with_number_ok (n := n + 12) (by rw [pickC_names h]; exact h3) (by rw [pickC_map h, List.length_map]; omega)
    simp (decide := true) [d_deep_columns, Qu.pv, Qu.cols, Ty.ev, refuse_no, deep_zero (show 1 ≤ d by omega), bindAll, e, e1, e2, sub_int]
  | sum q ns x ih =>
    rintro ⟨hq, h, h2, h3, c, h4, h5⟩ hf d hd m hm
    unfold Qu.depth at hd hm
    obtain ⟨n, rfl⟩ : ∃ n, m = n + 15 := ⟨m - 15, by omega⟩
    rw [callN_eq G (n + 14) _ _ _ (d := d_deep_columns) rfl, run_eq _ _ _ _ rfl]
    have e1 := ih hq hf.2 (d - 1) (by omega) (n + 14) (by omega)
    have hl : ns.length < 50 := by have := nodup_len h2 h; have := (Qu.fin_cls hf.2).2; omega
    have e : callN G (n + 14) .summed_columns [colsPV (q.cols s), strsPV ns, .str x] S = _ := summed_columns_ok (n := n + 10) h h2 (by omega) h4 h5 h3
    simp (decide := true) [d_deep_columns, Qu.pv, Qu.cols, Ty.ev, refuse_no, deep_zero (show 1 ≤ d by omega), bindAll, e, e1, sub_int]
theorem columns_ok {s : Sch} {q : Qu} (h : q.ok s) (hf : q.fin s) (hd : q.depth ≤ 12) {m : Nat} (hm : q.depth + 15 ≤ m) : callN G m .columns [q.pv, schPV s] S = .ok (colsPV (q.cols s)) S := by
  obtain ⟨n, rfl⟩ : ∃ n, m = n + 1 := ⟨m - 1, by omega⟩
  rw [callN_eq G n _ _ _ (d := d_columns) rfl, run_eq _ _ _ _ rfl]
  simp [d_columns, deep_columns_ok q h hf 12 (by omega) n (by omega)]
end A3

-- PureW
set_option linter.all false
set_option maxRecDepth 100000
set_option maxHeartbeats 4000000
/-! PureW: the law's own columns. -/
namespace A3
variable {S : Store}
theorem idx_t0 (a : PV) (r : List PV) : idxEv (.tup (a :: r)) (.int 0) = some a := idx_tup (k := 0) rfl
theorem idx_t1 (a b : PV) (r : List PV) : idxEv (.tup (a :: b :: r)) (.int 1) = some b := idx_tup (k := 1) rfl
theorem idx_t2 (a b c : PV) (r : List PV) : idxEv (.tup (a :: b :: c :: r)) (.int 2) = some c := idx_tup (k := 2) rfl
theorem idx_t3 (a b c d : PV) (r : List PV) : idxEv (.tup (a :: b :: c :: d :: r)) (.int 3) = some d := idx_tup (k := 3) rfl
theorem idx_t4 (a b c d e : PV) (r : List PV) : idxEv (.tup (a :: b :: c :: d :: e :: r)) (.int 4) = some e := idx_tup (k := 4) rfl
theorem idx_l0 (a : PV) (r : List PV) : idxEv (.lst (a :: r)) (.int 0) = some a := idx_lst (k := 0) rfl
theorem idx_l1 (a b : PV) (r : List PV) : idxEv (.lst (a :: b :: r)) (.int 1) = some b := idx_lst (k := 1) rfl
theorem idx_l2 (a b c : PV) (r : List PV) : idxEv (.lst (a :: b :: c :: r)) (.int 2) = some c := idx_lst (k := 2) rfl
theorem idx_l3 (a b c d : PV) (r : List PV) : idxEv (.lst (a :: b :: c :: d :: r)) (.int 3) = some d := idx_lst (k := 3) rfl
def strsL (ns : List Tx) : PV := .lst (ns.map .str)
theorem law_names_ok (cs : List Cl) {m : Nat} (hm : 1 ≤ m) : callN G m .law_names [colsPV cs] S = .ok (strsL (names cs)) S := by
  obtain ⟨n, rfl⟩ : ∃ n, m = n + 1 := ⟨m - 1, by omega⟩
  rw [callN_eq G n _ _ _ (d := d_law_names) rfl, run_eq _ _ _ _ rfl]
  have e2 : ∀ f : PV → Store → R (List PV), (∀ c ∈ cs, f c.pv S = .ok [.str c.nm] S) → compL f (cs.map Cl.pv) S = .ok (cs.map fun c => PV.str c.nm) S := fun f h => compL_map1 Cl.pv _ cs h
  simp [d_law_names, colsPV]
  rw [e2 _ fun c hc => by simp [cl_name]]
  simp [strsL, names]
theorem add_tup (a b : List PV) (h : a.length + b.length ≤ 16777216) : BO.ev .add (.tup a) (.tup b) = some (.tup (a ++ b)) := by
  show (if a.length + b.length ≤ lineN then some (PV.tup (a ++ b)) else none) = _
  exact if_pos h
theorem law_columns_ok {s : Sch} : ∀ (q : Qu), q.ok s → q.fin s → ∀ m, q.depth + 2 ≤ m → callN G m .law_columns [schPV s, q.pv] S = .ok (colsPV (q.cols s)) S := by
  intro q
  have pick : ∀ {cf : CallF} {ρ : Env} (cs : List Cl) (ns : List Tx), (∀ x ∈ ns, x ∈ names cs) → ∀ f : PV → Store → R (List PV), (∀ x ∈ ns, f (.str x) S = .ok [(cAt cs x).pv] S) → compL f (ns.map .str) S = .ok (ns.map fun x => (cAt cs x).pv) S := fun cs ns _ f h => compL_map1 (fun x : Tx => PV.str x) _ ns h
  induction q with
  | table t =>
    rintro ⟨cs, h⟩ hf m hm
    unfold Qu.depth at hm
    obtain ⟨n, rfl⟩ : ∃ n, m = n + 3 := ⟨m - 3, by omega⟩
    rw [callN_eq G (n + 2) _ _ _ (d := d_law_columns) rfl, run_eq _ _ _ _ rfl]
    have e : callN G (n + 2) .law_table [schPV s, .str t] S = _ := law_table_ok (n := n + 1) s t
    simp (decide := true) [d_law_columns, Qu.pv, Qu.cols, idx_t0, idx_t1, eq_str, e, h]
  | found t x w =>
    rintro ⟨cs, c, h, h2, h3, h4, h5⟩ hf m hm
    unfold Qu.depth at hm
    obtain ⟨n, rfl⟩ : ∃ n, m = n + 3 := ⟨m - 3, by omega⟩
    rw [callN_eq G (n + 2) _ _ _ (d := d_law_columns) rfl, run_eq _ _ _ _ rfl]
    have e : callN G (n + 2) .law_table [schPV s, .str t] S = _ := law_table_ok (n := n + 1) s t
    simp (decide := true) [d_law_columns, Qu.pv, Qu.cols, idx_t0, idx_t1, eq_str, e, h]
  | pick q x o v ih =>
    rintro ⟨hq, c, h, h2, h3⟩ hf m hm
    unfold Qu.depth at hm
    obtain ⟨n, rfl⟩ : ∃ n, m = n + 3 := ⟨m - 3, by omega⟩
    rw [callN_eq G (n + 2) _ _ _ (d := d_law_columns) rfl, run_eq _ _ _ _ rfl]
    have e1 := ih hq hf.2 (n + 2) (by omega)
    have e2 := law_names_ok (S := S) (q.cols s) (m := n + 2) (by omega)
    simp (decide := true) [d_law_columns, Qu.pv, Qu.cols, idx_t0, idx_t1, eq_str, e1, e2]
  | same q x y ih =>
    rintro ⟨hq, c, c2, h, h2, h3⟩ hf m hm
    unfold Qu.depth at hm
    obtain ⟨n, rfl⟩ : ∃ n, m = n + 3 := ⟨m - 3, by omega⟩
    rw [callN_eq G (n + 2) _ _ _ (d := d_law_columns) rfl, run_eq _ _ _ _ rfl]
    have e1 := ih hq hf.2 (n + 2) (by omega)
    have e2 := law_names_ok (S := S) (q.cols s) (m := n + 2) (by omega)
    simp (decide := true) [d_law_columns, Qu.pv, Qu.cols, idx_t0, idx_t1, eq_str, e1, e2]
  | keep q ns ih =>
    rintro ⟨hq, h, h2, h3⟩ hf m hm
    unfold Qu.depth at hm
    obtain ⟨n, rfl⟩ : ∃ n, m = n + 3 := ⟨m - 3, by omega⟩
    rw [callN_eq G (n + 2) _ _ _ (d := d_law_columns) rfl, run_eq _ _ _ _ rfl]
    have e1 := ih hq hf.2 (n + 2) (by omega)
    have e2 := law_names_ok (S := S) (q.cols s) (m := n + 2) (by omega)
    simp (decide := true) [d_law_columns, Qu.pv, Qu.cols, idx_t0, idx_t1, idx_t2, eq_str, e1, e2, strsPV]
    rw [pick (cf := callN G (n + 2)) (ρ := []) (q.cols s) ns h _ fun x hx => by simp [strsL, idxOf_names (plc_ok (h x hx)).1, cols_idx (cAt_ok (h x hx)).2.1]]
    simp [B1.ev, tupleV, colsPV, pickC_map h]
  | name q old new ih =>
    rintro ⟨hq, h, h2, h3⟩ hf m hm
    unfold Qu.depth at hm
    obtain ⟨n, rfl⟩ : ∃ n, m = n + 3 := ⟨m - 3, by omega⟩
    rw [callN_eq G (n + 2) _ _ _ (d := d_law_columns) rfl, run_eq _ _ _ _ rfl]
    have e1 := ih hq hf.2 (n + 2) (by omega)
    have e2 := law_names_ok (S := S) (q.cols s) (m := n + 2) (by omega)
    have cf := Qu.fin_cls hf.2
    have hc := (cAt_ok h).2.1
    have hz := (List.getElem?_eq_some_iff.mp hc).1
    have e4 : idxEv (colsPV (q.cols s)) (.int (plc (q.cols s) old)) = some (cAt (q.cols s) old).pv := cols_idx hc
    have e5 : slcEv (colsPV (q.cols s)) none (some (plc (q.cols s) old : Int)) = some (.tup (((q.cols s).map Cl.pv).take (plc (q.cols s) old))) := slc_to
    have e6 : slcEv (colsPV (q.cols s)) (some ((plc (q.cols s) old : Int) + 1)) none = some (.tup (((q.cols s).map Cl.pv).drop (plc (q.cols s) old + 1))) := slc_from (k := plc (q.cols s) old + 1)
    have hl := cf.2
    simp (decide := true) [d_law_columns, Qu.pv, Qu.cols, idx_t0, idx_t1, idx_t2, idx_t3, eq_str, e1, e2, strsL, idxOf_names (plc_ok h).1, add_int, e4, e5, e6, cl_kind]
    rw [add_tup _ _ (by simp; omega)]
    simp
    rw [add_tup _ _ (by simp; omega), renC_at cf.1 hc (cAt_ok h).2.2]
    simp [colsPV, Cl.pv, List.map_take, List.map_drop]
  | join a b iha ihb =>
    rintro ⟨ha, hb, h⟩ hf m hm
    unfold Qu.depth at hm
    obtain ⟨n, rfl⟩ : ∃ n, m = n + 3 := ⟨m - 3, by omega⟩
    rw [callN_eq G (n + 2) _ _ _ (d := d_law_columns) rfl, run_eq _ _ _ _ rfl]
    have e1 := iha ha hf.2.1 (n + 2) (by omega)
    have e3 := ihb hb hf.2.2 (n + 2) (by omega)
    have e2 := law_names_ok (S := S) (a.cols s) (m := n + 2) (by omega)
    have la := (Qu.fin_cls hf.2.1).2
    have lb := (Qu.fin_cls hf.2.2).2
    have q1 : ∀ f : PV → Store → R (List PV), (∀ c ∈ b.cols s, f c.pv S = .ok (if !decide (c.nm ∈ names (a.cols s)) then [c.pv] else []) S) → compL f ((b.cols s).map Cl.pv) S = .ok (((b.cols s).filter fun c => !decide (c.nm ∈ names (a.cols s))).map Cl.pv) S := fun f h => compL_if Cl.pv Cl.pv (fun c => !decide (c.nm ∈ names (a.cols s))) (b.cols s) h
    have hz : ((b.cols s).filter fun c => !decide (c.nm ∈ names (a.cols s))).length ≤ (b.cols s).length := List.length_filter_le _ _
    simp (decide := true) [d_law_columns, Qu.pv, Qu.cols, idx_t0, idx_t1, idx_t2, eq_str, e1, e2, e3]
    simp only [colsPV, sv_itt, R.of_some, R.bind_ok']
    rw [q1 _ fun c hc => by
      simp [cl_name, strsL, notin_strsL]
      by_cases hx : c.nm ∈ names (a.cols s) <;> simp [hx]]
    simp [B1.ev, tupleV]
    rw [add_tup _ _ (by simp; omega)]
    simp [joinC]
  | unite a b iha ihb =>
    rintro ⟨ha, hb, h⟩ hf m hm
    unfold Qu.depth at hm
    obtain ⟨n, rfl⟩ : ∃ n, m = n + 3 := ⟨m - 3, by omega⟩
    rw [callN_eq G (n + 2) _ _ _ (d := d_law_columns) rfl, run_eq _ _ _ _ rfl]
    have e1 := iha ha hf.2.1 (n + 2) (by omega)
    have e2 := law_names_ok (S := S) (a.cols s) (m := n + 2) (by omega)
    simp (decide := true) [d_law_columns, Qu.pv, Qu.cols, idx_t0, idx_t1, eq_str, e1, e2]
  | less a b iha ihb =>
    rintro ⟨ha, hb, h⟩ hf m hm
    unfold Qu.depth at hm
    obtain ⟨n, rfl⟩ : ∃ n, m = n + 3 := ⟨m - 3, by omega⟩
    rw [callN_eq G (n + 2) _ _ _ (d := d_law_columns) rfl, run_eq _ _ _ _ rfl]
    have e1 := iha ha hf.2.1 (n + 2) (by omega)
    have e2 := law_names_ok (S := S) (a.cols s) (m := n + 2) (by omega)
    simp (decide := true) [d_law_columns, Qu.pv, Qu.cols, idx_t0, idx_t1, eq_str, e1, e2]
  | count q ns ih =>
    rintro ⟨hq, h, h2, h3⟩ hf m hm
    unfold Qu.depth at hm
    obtain ⟨n, rfl⟩ : ∃ n, m = n + 3 := ⟨m - 3, by omega⟩
    rw [callN_eq G (n + 2) _ _ _ (d := d_law_columns) rfl, run_eq _ _ _ _ rfl]
    have e1 := ih hq hf.2 (n + 2) (by omega)
    have e2 := law_names_ok (S := S) (q.cols s) (m := n + 2) (by omega)
    have hl : ns.length < 50 := by have := nodup_len h2 h; have := (Qu.fin_cls hf.2).2; omega
    simp (decide := true) [d_law_columns, Qu.pv, Qu.cols, idx_t0, idx_t1, idx_t2, eq_str, e1, e2, strsPV]
    rw [pick (cf := callN G (n + 2)) (ρ := []) (q.cols s) ns h _ fun x hx => by simp [strsL, idxOf_names (plc_ok (h x hx)).1, cols_idx (cAt_ok (h x hx)).2.1]]
    simp [B1.ev, tupleV]
    rw [add_tup _ _ (by simp; omega)]
    simp [colsPV, pickC_map h, Cl.pv, kdT]
  | sum q ns x ih =>
    rintro ⟨hq, h, h2, h3, c, h4, h5⟩ hf m hm
    unfold Qu.depth at hm
    obtain ⟨n, rfl⟩ : ∃ n, m = n + 3 := ⟨m - 3, by omega⟩
    rw [callN_eq G (n + 2) _ _ _ (d := d_law_columns) rfl, run_eq _ _ _ _ rfl]
    have e1 := ih hq hf.2 (n + 2) (by omega)
    have e2 := law_names_ok (S := S) (q.cols s) (m := n + 2) (by omega)
    have hl : ns.length < 50 := by have := nodup_len h2 h; have := (Qu.fin_cls hf.2).2; omega
    simp (decide := true) [d_law_columns, Qu.pv, Qu.cols, idx_t0, idx_t1, idx_t2, eq_str, e1, e2, strsPV]
    rw [pick (cf := callN G (n + 2)) (ρ := []) (q.cols s) ns h _ fun x hx => by simp [strsL, idxOf_names (plc_ok (h x hx)).1, cols_idx (cAt_ok (h x hx)).2.1]]
    simp [B1.ev, tupleV]
    rw [add_tup _ _ (by simp; omega)]
    simp [colsPV, pickC_map h, Cl.pv, kdT]
end A3

-- PureX
set_option linter.all false
set_option maxRecDepth 100000
set_option maxHeartbeats 4000000
/-! PureX: the questions that the laws draw. -/
namespace A3
variable {S : Store}
def pool : List Tx := [tx "t", tx "n", tx "m", tx "x", tx "y", tx "count", tx "sum"]
/-- a schema as the laws draw them -/
structure SchOk (s : Sch) : Prop where
  ne : s ≠ []
  len : s.length ≤ 10
  cols : ∀ t cs, s.lookup t = some cs → cs ≠ [] ∧ (names cs).Nodup ∧ (∀ x ∈ names cs, x ∈ pool)
  mem : ∀ y ∈ s, s.lookup y.1 = some y.2
  txt : ∃ y ∈ s, (⟨tx "t", true⟩ : Cl) ∈ y.2
/-- a question of the laws -/
structure Inv (s : Sch) (q : Qu) : Prop where
  ok : q.ok s
  fin : q.fin s
  ne : q.cols s ≠ []
  pool : ∀ x ∈ names (q.cols s), x ∈ pool
theorem cls_of {cs : List Cl} (nd : (names cs).Nodup) (h : ∀ x ∈ names cs, x ∈ pool) : ClsOk cs := by
  refine ⟨nd, ?_⟩
  have := sub_len nd h
  have e : (names cs).length = cs.length := by simp [names]
  have : pool.length = 7 := rfl
  omega
theorem pool_name {x : Tx} (h : x ∈ pool) : nameOk x = true := by
  have : ∀ x ∈ pool, nameOk x = true := by decide
  exact this x h
theorem idx_mod {xs : List PV} (h : xs ≠ []) (d : Int) : ∃ x ∈ xs, idxEv (.lst xs) (.int (d % xs.length)) = some x := by
  have hl : 0 < xs.length := List.length_pos_iff.mpr h
  have h1 := Int.emod_nonneg d (b := xs.length) (by omega)
  have h2 := Int.emod_lt_of_pos d (b := xs.length) (by omega)
  obtain ⟨k, hk⟩ : ∃ k : Nat, d % xs.length = k := ⟨(d % xs.length).toNat, by omega⟩
  rw [hk] at h2 ⊢
  have hk2 : k < xs.length := by omega
  exact ⟨xs[k], List.getElem_mem hk2, idx_lst (List.getElem?_eq_getElem hk2)⟩
theorem idx_modT {xs : List PV} (h : xs ≠ []) (d : Int) : ∃ x ∈ xs, idxEv (.tup xs) (.int (d % xs.length)) = some x := idx_mod h d
theorem mod_len {xs : Nat} (h : 0 < xs) (d : Int) : BO.ev .mod (.int d) (.int xs) = some (.int (d % xs)) := mod_int (by simp; omega)
theorem law_value_ok (b : Bool) (d : Int) {m : Nat} (hm : 1 ≤ m) : ∃ v : Vl, v.good = true ∧ v.isT = b ∧ callN G m .law_value [.str (kdT b), .int d] S = .ok v.pv S := by
  obtain ⟨n, rfl⟩ : ∃ n, m = n + 1 := ⟨m - 1, by omega⟩
  rw [callN_eq G n _ _ _ (d := d_law_value) rfl, run_eq _ _ _ _ rfl]
  cases b with
  | false =>
    obtain ⟨x, hx, e⟩ := idx_mod (xs := [.int 0, .int 1, .int 2, .int 3, .int 999999]) (by simp) d
    have hv : ∃ v : Vl, v.good = true ∧ v.isT = false ∧ x = v.pv := by
      simp only [List.mem_cons, List.not_mem_nil, or_false] at hx
      rcases hx with rfl | rfl | rfl | rfl | rfl
      · exact ⟨.num 0, rfl, rfl, rfl⟩
      · exact ⟨.num 1, rfl, rfl, rfl⟩
      · exact ⟨.num 2, rfl, rfl, rfl⟩
      · exact ⟨.num 3, rfl, rfl, rfl⟩
      · exact ⟨.num 999999, rfl, rfl, rfl⟩
    obtain ⟨v, h1, h2, rfl⟩ := hv
    refine ⟨v, h1, h2, ?_⟩
    have e5 : ((5 : Nat) : Int) = 5 := rfl
    simp only [List.length_cons, List.length_nil, Nat.reduceAdd, e5] at e
    simp (decide := true) [d_law_value, eq_str, kdT, int_int, mod_int, e]
  | true =>
    obtain ⟨x, hx, e⟩ := idx_mod (xs := [.str (tx "red fox"), .str (tx "Fox; red-hen"), .str (tx "hen"), .str (tx ""), .str (tx "a fox 7"), .str (tx "RED")]) (by simp) d
    have hv : ∃ v : Vl, v.good = true ∧ v.isT = true ∧ x = v.pv := by
      simp only [List.mem_cons, List.not_mem_nil, or_false] at hx
      rcases hx with rfl | rfl | rfl | rfl | rfl | rfl
      · exact ⟨.txt (tx "red fox"), rfl, rfl, rfl⟩
      · exact ⟨.txt (tx "Fox; red-hen"), rfl, rfl, rfl⟩
      · exact ⟨.txt (tx "hen"), rfl, rfl, rfl⟩
      · exact ⟨.txt (tx ""), rfl, rfl, rfl⟩
      · exact ⟨.txt (tx "a fox 7"), rfl, rfl, rfl⟩
      · exact ⟨.txt (tx "RED"), rfl, rfl, rfl⟩
    obtain ⟨v, h1, h2, rfl⟩ := hv
    refine ⟨v, h1, h2, ?_⟩
    have e5 : ((6 : Nat) : Int) = 6 := rfl
    simp only [List.length_cons, List.length_nil, Nat.reduceAdd, e5] at e
    simp (decide := true) [d_law_value, eq_str, kdT, int_int, mod_int, e]
def wish1 (w : Wi) : Prop := w.ok = true ∧ w.depth ≤ 1
theorem law_wish_ok (d : Int) {m : Nat} (hm : 1 ≤ m) : ∃ w : Wi, w.ok = true ∧ w.depth ≤ 2 ∧ callN G m .law_wish [.int d] S = .ok w.pv S := by
  obtain ⟨n, rfl⟩ : ∃ n, m = n + 1 := ⟨m - 1, by omega⟩
  rw [callN_eq G n _ _ _ (d := d_law_wish) rfl, run_eq _ _ _ _ rfl]
  have key : ∀ d : Int, ∃ w : Wi, w.ok = true ∧ w.depth ≤ 1 ∧ idxEv (.lst [.tup [.str (tx "word"), .str (tx "fox")], .tup [.str (tx "word"), .str (tx "red")], .tup [.str (tx "begins"), .str (tx "h")], .tup [.str (tx "begins"), .str (tx "re")], .tup [.str (tx "word"), .str (tx "7")], .tup [.str (tx "word"), .str (tx "cow")]]) (.int (d % 6)) = some w.pv := fun d => by
    obtain ⟨x, hx, e⟩ := idx_mod (xs := [.tup [.str (tx "word"), .str (tx "fox")], .tup [.str (tx "word"), .str (tx "red")], .tup [.str (tx "begins"), .str (tx "h")], .tup [.str (tx "begins"), .str (tx "re")], .tup [.str (tx "word"), .str (tx "7")], .tup [.str (tx "word"), .str (tx "cow")]]) (by simp) d
    have hv : ∃ w : Wi, w.ok = true ∧ w.depth ≤ 1 ∧ x = w.pv := by
      simp only [List.mem_cons, List.not_mem_nil, or_false] at hx
      rcases hx with rfl | rfl | rfl | rfl | rfl | rfl
      · exact ⟨.word (tx "fox"), by decide, by decide, rfl⟩
      · exact ⟨.word (tx "red"), by decide, by decide, rfl⟩
      · exact ⟨.begins (tx "h"), by decide, by decide, rfl⟩
      · exact ⟨.begins (tx "re"), by decide, by decide, rfl⟩
      · exact ⟨.word (tx "7"), by decide, by decide, rfl⟩
      · exact ⟨.word (tx "cow"), by decide, by decide, rfl⟩
    obtain ⟨w, h1, h2, rfl⟩ := hv
    have e5 : ((6 : Nat) : Int) = 6 := rfl
    simp only [List.length_cons, List.length_nil, Nat.reduceAdd, e5] at e
    exact ⟨w, h1, h2, e⟩
  obtain ⟨w1, a1, a2, a3⟩ := key d
  obtain ⟨w2, b1, b2, b3⟩ := key (d / 6)
  have hlt : CO.ev .lt (.int (d / 36 % 5)) (.int 2) = some (decide (d / 36 % 5 < 2)) := rfl
  generalize hk : d / 36 % 5 = k at hlt
  have lt22 : CO.ev .lt (.int 2) (.int 2) = some false := rfl
  have lt32 : CO.ev .lt (.int 3) (.int 2) = some false := rfl
  by_cases h1 : k < 2
  · refine ⟨w1, a1, by omega, ?_⟩
    simp [d_law_wish, int_int, mod_int, fdiv_int, a3, b3, hk, hlt, h1]
  · by_cases h2 : k = 2
    · refine ⟨.all w1 w2, by simp [Wi.ok, a1, b1], by simp [Wi.depth]; omega, ?_⟩
      subst h2
      simp [d_law_wish, int_int, mod_int, fdiv_int, a3, b3, hk, lt22, eq_int, Wi.pv]
    · by_cases h3 : k = 3
      · refine ⟨.any w1 w2, by simp [Wi.ok, a1, b1], by simp [Wi.depth]; omega, ?_⟩
        subst h3
        simp [d_law_wish, int_int, mod_int, fdiv_int, a3, b3, hk, lt32, eq_int, Wi.pv]
      · refine ⟨.none w1, by simp [Wi.ok, a1], by simp [Wi.depth]; omega, ?_⟩
        simp [d_law_wish, int_int, mod_int, fdiv_int, a3, b3, hk, hlt, h1, eq_int, h2, h3, Wi.pv]
theorem law_text_table_ok {s : Sch} (so : SchOk s) (d : Int) {m : Nat} (hm : 1 ≤ m) : ∃ t cs, s.lookup t = some cs ∧ (⟨tx "t", true⟩ : Cl) ∈ cs ∧ callN G m .law_text_table [schPV s, .int d] S = .ok (.str t) S := by
  obtain ⟨n, rfl⟩ : ∃ n, m = n + 1 := ⟨m - 1, by omega⟩
  rw [callN_eq G n _ _ _ (d := d_law_text_table) rfl, run_eq _ _ _ _ rfl]
  let P : Tx × List Cl → Bool := fun y => decide ((⟨tx "t", true⟩ : Cl) ∈ y.2)
  have q1 : ∀ f : PV → Store → R (List PV), (∀ y ∈ s, f (tabPV y) S = .ok (if P y then [.str y.1] else []) S) → compL f (s.map tabPV) S = .ok ((s.filter P).map fun y => PV.str y.1) S := fun f h => compL_if tabPV (fun y => .str y.1) P s h
  obtain ⟨y, hy, hc⟩ := so.txt
  have hne : (s.filter P).map (fun y => PV.str y.1) ≠ [] := by
    have : y ∈ s.filter P := List.mem_filter.mpr ⟨hy, decide_eq_true hc⟩
    intro e
    rw [List.map_eq_nil_iff] at e
    rw [e] at this; cases this
  obtain ⟨x, hx, e⟩ := idx_mod hne d
  obtain ⟨z, hz, rfl⟩ := List.mem_map.mp hx
  obtain ⟨z1, z2⟩ := List.mem_filter.mp hz
  refine ⟨z.1, z.2, so.mem z z1, of_decide_eq_true z2, ?_⟩
  have e2 : ∀ cs : List Cl, CO.ev .isin (.tup [.str (tx "t"), .str (tx "text")]) (colsPV cs) = some (decide ((⟨tx "t", true⟩ : Cl) ∈ cs)) := fun cs => in_colsT ⟨tx "t", true⟩ cs
  simp [d_law_text_table, schPV]
  rw [q1 _ fun y hy => by
    simp [tabPV, idx2_0, idx2_1, e2, P]
    by_cases h : (⟨tx "t", true⟩ : Cl) ∈ y.2 <;> simp [h]]
  have hl : 0 < (s.filter P).length := by
    have := List.length_pos_iff.mpr hne
    simpa using this
  simp only [List.length_map] at e
  simp [int_int, B1.ev, lenV, mod_len hl, e, intV]
theorem law_base_ok {s : Sch} (so : SchOk s) (d0 d1 d2 : Int) (ds : List PV) {m : Nat} (hm : 2 ≤ m) : ∃ q, Inv s q ∧ q.depth = 1 ∧ callN G m .law_base [schPV s, .lst (.int d0 :: .int d1 :: .int d2 :: ds)] S = .ok q.pv S := by
  obtain ⟨n, rfl⟩ : ∃ n, m = n + 1 := ⟨m - 1, by omega⟩
  rw [callN_eq G n _ _ _ (d := d_law_base) rfl, run_eq _ _ _ _ rfl]
  by_cases h : d0 % 4 = 3
  · obtain ⟨t, cs, h1, h2, e1⟩ := law_text_table_ok (S := S) so d1 (m := n) (by omega)
    obtain ⟨w, h3, h4, e2⟩ := law_wish_ok (S := S) d2 (m := n) (by omega)
    obtain ⟨g1, g2, g3⟩ := so.cols t cs h1
    have ec : (Qu.found t (tx "t") w).cols s = cs := by unfold Qu.cols; rw [h1]; rfl
    refine ⟨.found t (tx "t") w, ⟨⟨cs, ⟨tx "t", true⟩, h1, colOf_of g2 h2, rfl, h3, by omega⟩, ?_, by rw [ec]; exact g1, by rw [ec]; exact g3⟩, rfl, ?_⟩
    · show ClsOk ((Qu.found t (tx "t") w).cols s)
      rw [ec]; exact cls_of g2 g3
    · simp [d_law_base, idx_l0, idx_l1, idx_l2, int_int, mod_int, eq_int, h, e1, e2, Qu.pv]
  · have hne : s.map tabPV ≠ [] := by
      intro e
      exact so.ne (List.map_eq_nil_iff.mp e)
    obtain ⟨x, hx, e⟩ := idx_modT hne d1
    obtain ⟨y, hy, rfl⟩ := List.mem_map.mp hx
    obtain ⟨g1, g2, g3⟩ := so.cols y.1 y.2 (so.mem y hy)
    have ec : (Qu.table y.1).cols s = y.2 := by unfold Qu.cols; rw [so.mem y hy]; rfl
    refine ⟨.table y.1, ⟨⟨y.2, so.mem y hy⟩, ?_, by rw [ec]; exact g1, by rw [ec]; exact g3⟩, rfl, ?_⟩
    · show ClsOk ((Qu.table y.1).cols s)
      rw [ec]; exact cls_of g2 g3
    · have hl : 0 < s.length := List.length_pos_iff.mpr so.ne
      simp only [List.length_map] at e
      simp [d_law_base, idx_l0, idx_l1, int_int, mod_int, eq_int, h, schPV, B1.ev, lenV, mod_len hl, intV, e, tabPV, idx2_0, Qu.pv]
theorem law_pick_ok {s : Sch} {q : Qu} (hi : Inv s q) (d0 d1 d2 d3 : Int) (ds : List PV) {m : Nat} (hm : 2 ≤ m) : ∃ x o v, Inv s (.pick q x o v) ∧ callN G m .law_pick [colsPV (q.cols s), q.pv, .lst (.int d0 :: .int d1 :: .int d2 :: .int d3 :: ds)] S = .ok (Qu.pick q x o v).pv S := by
  obtain ⟨n, rfl⟩ : ∃ n, m = n + 1 := ⟨m - 1, by omega⟩
  rw [callN_eq G n _ _ _ (d := d_law_pick) rfl, run_eq _ _ _ _ rfl]
  have hne : (q.cols s).map Cl.pv ≠ [] := by
    intro e
    exact hi.ne (List.map_eq_nil_iff.mp e)
  obtain ⟨x, hx, e⟩ := idx_modT hne d1
  obtain ⟨c, hc, rfl⟩ := List.mem_map.mp hx
  obtain ⟨o, ho⟩ : ∃ o : Cp, idxEv (.lst [.str (tx "="), .str (tx "="), .str (tx "<>"), .str (tx "<"), .str (tx ">")]) (.int (d2 % 5)) = some (.str o.t) := by
    obtain ⟨x, hx, e⟩ := idx_mod (xs := [.str (tx "="), .str (tx "="), .str (tx "<>"), .str (tx "<"), .str (tx ">")]) (by simp) d2
    have e5 : ((5 : Nat) : Int) = 5 := rfl
    simp only [List.length_cons, List.length_nil, Nat.reduceAdd, e5] at e
    rw [e]
    simp only [List.mem_cons, List.not_mem_nil, or_false] at hx
    rcases hx with rfl | rfl | rfl | rfl | rfl
    · exact ⟨.eq, rfl⟩
    · exact ⟨.eq, rfl⟩
    · exact ⟨.ne, rfl⟩
    · exact ⟨.lt, rfl⟩
    · exact ⟨.gt, rfl⟩
  obtain ⟨v, h1, h2, h3⟩ := law_value_ok (S := S) c.tx d3 (m := n) (by omega)
  have cf := Qu.fin_cls hi.fin
  refine ⟨c.nm, o, v, ⟨⟨hi.ok, c, colOf_of cf.1 hc, h1, h2⟩, ⟨cf, hi.fin⟩, hi.ne, hi.pool⟩, ?_⟩
  have hl : 0 < (q.cols s).length := List.length_pos_iff.mpr hi.ne
  simp only [List.length_map] at e
  simp [d_law_pick, idx_l1, idx_l2, idx_l3, int_int, mod_int, B1.ev, lenV, intV, colsPV, mod_len hl, e, ho, cl_kind, cl_name, h3, Qu.pv]
end A3

-- PureY
set_option linter.all false
set_option maxRecDepth 100000
set_option maxHeartbeats 4000000
/-! PureY: a stage more. -/
namespace A3
variable {S : Store}
/-! ### the questions' form goes on -/
theorem Inv.cls {s : Sch} {q : Qu} (h : Inv s q) : ClsOk (q.cols s) := Qu.fin_cls h.fin
theorem Inv.table {s : Sch} (so : SchOk s) {y : Tx × List Cl} (hy : y ∈ s) : Inv s (.table y.1) ∧ (Qu.table y.1).cols s = y.2 := by
  obtain ⟨g1, g2, g3⟩ := so.cols y.1 y.2 (so.mem y hy)
  have ec : (Qu.table y.1).cols s = y.2 := by unfold Qu.cols; rw [so.mem y hy]; rfl
  exact ⟨⟨⟨y.2, so.mem y hy⟩, by show ClsOk ((Qu.table y.1).cols s); rw [ec]; exact cls_of g2 g3, by rw [ec]; exact g1, by rw [ec]; exact g3⟩, ec⟩
theorem Inv.same {s : Sch} {q : Qu} (h : Inv s q) {c d : Cl} (hc : c ∈ q.cols s) (hd : d ∈ q.cols s) (e : c.tx = d.tx) : Inv s (.same q c.nm d.nm) :=
  ⟨⟨h.ok, c, d, colOf_of h.cls.1 hc, colOf_of h.cls.1 hd, e⟩, ⟨h.cls, h.fin⟩, h.ne, h.pool⟩
theorem Inv.keep {s : Sch} {q : Qu} (h : Inv s q) {ns : List Tx} (hs : ∀ x ∈ ns, x ∈ names (q.cols s)) (nd : ns.Nodup) (h0 : ns ≠ []) : Inv s (.keep q ns) := by
  have e : names ((Qu.keep q ns).cols s) = ns := pickC_names hs
  have hp : ∀ x ∈ names ((Qu.keep q ns).cols s), x ∈ A3.pool := fun x hx => h.pool x (hs x (by rw [e] at hx; exact hx))
  refine ⟨⟨h.ok, hs, nd, h0⟩, ⟨cls_of (by rw [e]; exact nd) hp, h.fin⟩, fun z => h0 ?_, hp⟩
  rw [← e, z]; rfl
theorem names_renC (cs : List Cl) (old new : Tx) : names (renC cs old new) = (names cs).map fun x => if x = old then new else x := by
  unfold names renC
  rw [List.map_map, List.map_map]
  refine List.map_congr_left fun c _ => ?_
  show (if c.nm = old then (⟨new, c.tx⟩ : Cl) else c).nm = if c.nm = old then new else c.nm
  split <;> rfl
theorem nodup_map_on {α β : Type} {f : α → β} : ∀ {xs : List α}, xs.Nodup → (∀ x ∈ xs, ∀ y ∈ xs, f x = f y → x = y) → (xs.map f).Nodup
  | [], _, _ => List.nodup_nil
  | x :: xs, nd, h => by
    have nd' := List.nodup_cons.mp nd
    rw [List.map_cons, List.nodup_cons]
    refine ⟨fun hm => ?_, nodup_map_on nd'.2 fun a ha b hb => h a (List.mem_cons_of_mem _ ha) b (List.mem_cons_of_mem _ hb)⟩
    obtain ⟨y, hy, e⟩ := List.mem_map.mp hm
    have := h y (List.mem_cons_of_mem _ hy) x List.mem_cons_self e
    exact nd'.1 (this ▸ hy)
theorem Inv.name {s : Sch} {q : Qu} (h : Inv s q) {old new : Tx} (ho : old ∈ names (q.cols s)) (hn : new ∉ names (q.cols s)) (hp : new ∈ A3.pool) : Inv s (.name q old new) := by
  have e : names ((Qu.name q old new).cols s) = _ := names_renC (q.cols s) old new
  have hp2 : ∀ x ∈ names ((Qu.name q old new).cols s), x ∈ A3.pool := fun x hx => by
    rw [e] at hx
    obtain ⟨y, hy, rfl⟩ := List.mem_map.mp hx
    split
    · exact hp
    · exact h.pool y hy
  refine ⟨⟨h.ok, ho, hn, pool_name hp⟩, ⟨cls_of ?_ hp2, h.fin⟩, fun z => h.ne ?_, hp2⟩
  · rw [e]
    refine nodup_map_on h.cls.1 fun x hx y hy exy => ?_
    by_cases h1 : x = old <;> by_cases h2 : y = old <;> simp [h1, h2] at exy ⊢
    · exact absurd (exy ▸ hy) hn
    · exact absurd (exy ▸ hx) hn
    · exact exy
  · have z : (q.cols s).map _ = [] := z
    exact List.map_eq_nil_iff.mp z
theorem names_app (a b : List Cl) : names (a ++ b) = names a ++ names b := by unfold names; rw [List.map_append]
theorem Inv.join {s : Sch} {a b : Qu} (ha : Inv s a) (hb : Inv s b) (h : ∀ c ∈ b.cols s, c.nm ∈ names (a.cols s) → c ∈ a.cols s) : Inv s (.join a b) := by
  have hp : ∀ x ∈ names ((Qu.join a b).cols s), x ∈ A3.pool := fun x hx => by
    have hx : x ∈ names (joinC (a.cols s) (b.cols s)) := hx
    unfold joinC at hx
    rw [names_app, List.mem_append] at hx
    rcases hx with hx | hx
    · exact ha.pool x hx
    · obtain ⟨c, hc, rfl⟩ := List.mem_map.mp hx
      exact hb.pool c.nm (List.mem_map.mpr ⟨c, (List.mem_filter.mp hc).1, rfl⟩)
  refine ⟨⟨ha.ok, hb.ok, h⟩, ⟨cls_of ?_ hp, ha.fin, hb.fin⟩, fun z => ha.ne ?_, hp⟩
  · show (names (joinC (a.cols s) (b.cols s))).Nodup
    unfold joinC
    rw [names_app, List.nodup_append]
    refine ⟨ha.cls.1, ?_, ?_⟩
    · exact hb.cls.1.sublist (List.Sublist.map _ List.filter_sublist)
    · rintro x hx y hy rfl
      obtain ⟨c, hc, rfl⟩ := List.mem_map.mp hy
      have := (List.mem_filter.mp hc).2
      simp at this
      exact this hx
  · exact (List.append_eq_nil_iff.mp (show a.cols s ++ _ = [] from z)).1
theorem Inv.unite {s : Sch} {a b : Qu} (ha : Inv s a) (hb : Inv s b) (h : b.cols s = a.cols s) : Inv s (.unite a b) := ⟨⟨ha.ok, hb.ok, h⟩, ⟨ha.cls, ha.fin, hb.fin⟩, ha.ne, ha.pool⟩
theorem Inv.less {s : Sch} {a b : Qu} (ha : Inv s a) (hb : Inv s b) (h : b.cols s = a.cols s) : Inv s (.less a b) := ⟨⟨ha.ok, hb.ok, h⟩, ⟨ha.cls, ha.fin, hb.fin⟩, ha.ne, ha.pool⟩
theorem Inv.num_cls {s : Sch} {q : Qu} (h : Inv s q) {ns : List Tx} (hs : ∀ x ∈ ns, x ∈ names (q.cols s)) (nd : ns.Nodup) {k : Tx} (hk : k ∉ ns) (hp : k ∈ A3.pool) : (∀ x ∈ names (pickC (q.cols s) ns ++ [⟨k, false⟩]), x ∈ A3.pool) ∧ ClsOk (pickC (q.cols s) ns ++ [⟨k, false⟩]) := by
  have e : names (pickC (q.cols s) ns ++ [⟨k, false⟩]) = ns ++ [k] := by rw [names_app, pickC_names hs]; rfl
  have hp2 : ∀ x ∈ names (pickC (q.cols s) ns ++ [⟨k, false⟩]), x ∈ A3.pool := fun x hx => by
    rw [e, List.mem_append] at hx
    rcases hx with hx | hx
    · exact h.pool x (hs x hx)
    · rw [List.mem_singleton.mp hx]; exact hp
  refine ⟨hp2, cls_of ?_ hp2⟩
  rw [e, List.nodup_append]
  refine ⟨nd, by simp, ?_⟩
  rintro x hx y hy rfl
  rw [List.mem_singleton.mp hy] at hx
  exact hk hx
theorem Inv.count {s : Sch} {q : Qu} (h : Inv s q) {ns : List Tx} (hs : ∀ x ∈ ns, x ∈ names (q.cols s)) (nd : ns.Nodup) (hk : tx "count" ∉ ns) : Inv s (.count q ns) := by
  obtain ⟨h1, h2⟩ := h.num_cls hs nd hk (by decide)
  exact ⟨⟨h.ok, hs, nd, hk⟩, ⟨h2, h.fin⟩, by show pickC (q.cols s) ns ++ _ ≠ []; simp, h1⟩
theorem Inv.sum {s : Sch} {q : Qu} (h : Inv s q) {ns : List Tx} (hs : ∀ x ∈ ns, x ∈ names (q.cols s)) (nd : ns.Nodup) (hk : tx "sum" ∉ ns) {c : Cl} (hc : c ∈ q.cols s) (ht : c.tx = false) : Inv s (.sum q ns c.nm) := by
  obtain ⟨h1, h2⟩ := h.num_cls hs nd hk (by decide)
  exact ⟨⟨h.ok, hs, nd, hk, c, colOf_of h.cls.1 hc, ht⟩, ⟨h2, h.fin⟩, by show pickC (q.cols s) ns ++ _ ≠ []; simp, h1⟩

/-! ### the stage's def -/
theorem kd_num (b : Bool) : CO.ev .eq (.str (kdT b)) (.str (tx "number")) = some (!b) := by
  rw [eq_str]
  congr 1
  cases b <;> decide
theorem slc_toL {xs : List PV} {k : Nat} : slcEv (.lst xs) none (some (k : Int)) = some (.lst (xs.take k)) := by
  show some (PV.lst ((xs.drop 0).take (sliceAt xs.length xs.length (some (k : Int)) - 0))) = _
  have : ¬ ((k : Int) < 0) := by omega
  simp [sliceAt, this]
theorem mul_intL {a b : Int} (h : smallI a = true) : BO.ev .mul (.int a) (.int b) = some (.int (a * b)) := by
  show (if smallI a || smallI b then some (PV.int (a * b)) else none) = _
  rw [h, Bool.true_or, if_pos rfl]
/-- one statement after another, each ends the def well or goes on -/
theorem chain1 {cf : CallF} {Q : PV → Prop} {I : Env → Prop} {s : Stm} {ss : Stms} (h1 : ∀ ρ, I ρ → (∃ p, s.ev cf ρ S = .rt p S ∧ Q p) ∨ ∃ ρ', s.ev cf ρ S = .nx ρ' S ∧ I ρ') (h2 : ∀ ρ, I ρ → ∃ p, ss.ev cf ρ S = .rt p S ∧ Q p) : ∀ ρ, I ρ → ∃ p, (Stms.cons s ss).ev cf ρ S = .rt p S ∧ Q p := by
  intro ρ hi
  rcases h1 ρ hi with ⟨p, e, q⟩ | ⟨ρ', e, i⟩
  · exact ⟨p, by rw [stms_rt e], q⟩
  · obtain ⟨p, e2, q⟩ := h2 ρ' i
    exact ⟨p, by rw [stms_nx e, e2], q⟩
def numsOf (cs : List Cl) : List Tx := (cs.filter fun c => !c.tx).map Cl.nm
theorem numsOf_mem {cs : List Cl} {x : Tx} (h : x ∈ numsOf cs) : ∃ c ∈ cs, c.nm = x ∧ c.tx = false := by
  obtain ⟨c, hc, rfl⟩ := List.mem_map.mp h
  obtain ⟨h1, h2⟩ := List.mem_filter.mp hc
  exact ⟨c, h1, rfl, by simpa using h2⟩
def someOf (cs : List Cl) (d1 : Int) : List Tx := ((names cs).filter fun x => decide (0 < (d1 + 7 * (x.length : Int)) % 3)).take 2
theorem someOf_sub (cs : List Cl) (d1 : Int) : (someOf cs d1).Sublist (names cs) := (List.take_sublist _ _).trans List.filter_sublist
def stEnv (s : Sch) (q : Qu) (ds : List PV) (cs : List Cl) (d1 k : Int) (a b c d e : Option Cell) : Env :=
  [some (.val (schPV s)), some (.val q.pv), some (.val (.lst ds)), some (.val (colsPV cs)), some (.val (strsL (names cs))), some (.val (strsL (numsOf cs))), some (.val (strsPV (someOf cs d1))), some (.val (.int k)), a, b, c, d, e]
theorem stage_head {s : Sch} {q : Qu} (hi : Inv s q) (d0 d1 : Int) (ds : List PV) {n : Nat} (hn : q.depth + 2 ≤ n) :
    (d_law_stage.body.take 5).ev (callN G n) ([schPV s, q.pv, .lst (.int d0 :: .int d1 :: ds)].map (fun x => some (Cell.val x)) ++ List.replicate (d_law_stage.nslot - d_law_stage.npar) none) S =
      .nx (stEnv s q (.int d0 :: .int d1 :: ds) (q.cols s) d1 (d0 % 10) none none none none none) S := by
  have e1 := law_columns_ok (S := S) q hi.ok hi.fin n hn
  have e2 := law_names_ok (S := S) (q.cols s) (m := n) (by omega)
  generalize hcs : q.cols s = cs at e1 e2
  have q1 : ∀ f : PV → Store → R (List PV), (∀ c ∈ cs, f c.pv S = .ok (if !c.tx then [.str c.nm] else []) S) → compL f (cs.map Cl.pv) S = .ok ((cs.filter fun c => !c.tx).map fun c => PV.str c.nm) S := fun f h => compL_if Cl.pv (fun c => .str c.nm) (fun c => !c.tx) cs h
  have q2 : ∀ f : PV → Store → R (List PV), (∀ x ∈ names cs, f (.str x) S = .ok (if decide (0 < (d1 + 7 * (x.length : Int)) % 3) then [.str x] else []) S) → compL f ((names cs).map .str) S = .ok (((names cs).filter fun x => decide (0 < (d1 + 7 * (x.length : Int)) % 3)).map .str) S := fun f h => compL_if .str .str _ (names cs) h
  simp [d_law_stage, Stms.take, e1]
  simp [e2]
  simp only [colsPV, sv_itt, R.of_some, R.bind_ok']
  rw [q1 _ fun c hc => by
    simp [cl_kind, cl_name, kd_num]
    cases c.tx <;> simp]
  simp only [strsL, R.bind_ok', R.st_ok]
  simp
  rw [q2 _ fun x hx => by
    have g : CO.ev .gt (.int ((d1 + 7 * (x.length : Int)) % 3)) (.int 0) = some (decide (0 < (d1 + 7 * (x.length : Int)) % 3)) := rfl
    simp [idx_l1, add_int, int_int, mod_int, B1.ev, lenV, intV, mul_intL (show smallI 7 = true from rfl), mul_intL (show smallI 3 = true from rfl), idxOf_names (plc_ok hx).1, g]
    by_cases hp : 0 < (d1 + 7 * (x.length : Int)) % 3 <;> simp [hp]]
  have e5 : ∀ xs : List PV, slcEv (.lst xs) none (some 2) = some (.lst (xs.take 2)) := fun xs => slc_toL (k := 2)
  simp [e5, B1.ev, tupleV, idx_l0, intV, mod_int, stEnv, colsPV, strsL, strsPV, someOf, numsOf, List.map_take]
end A3

-- PureZ
set_option linter.all false
set_option maxRecDepth 100000
set_option maxHeartbeats 4000000
/-! PureZ: the stage's end; the drawn question. -/
namespace A3
variable {S : Store}
theorem truth_strs (xs : List Tx) : (strsPV xs).truth = some (!xs.isEmpty) := by
  show some (!(xs.map PV.str).isEmpty) = _
  simp
theorem truth_strsL (xs : List Tx) : (strsL xs).truth = some (!xs.isEmpty) := by
  show some (!(xs.map PV.str).isEmpty) = _
  simp
theorem gt_len (n : Nat) (k : Int) : CO.ev .gt (.int n) (.int k) = some (decide (k < n)) := rfl
theorem lt_len (n : Nat) (k : Int) : CO.ev .lt (.int n) (.int k) = some (decide ((n : Int) < k)) := rfl
theorem strs_mod {xs : List Tx} (h : xs ≠ []) (d : Int) : ∃ x ∈ xs, idxEv (strsL xs) (.int (d % (xs.length : Int))) = some (.str x) := by
  have hne : xs.map PV.str ≠ [] := fun e => h (List.map_eq_nil_iff.mp e)
  obtain ⟨x, hx, e⟩ := idx_mod hne d
  obtain ⟨y, hy, rfl⟩ := List.mem_map.mp hx
  rw [List.length_map] at e
  exact ⟨y, hy, e⟩
theorem stage_tail {s : Sch} (so : SchOk s) {q : Qu} (hi : Inv s q) (d0 d1 d2 d3 k : Int) (ds : List PV) {n : Nat} (hn : 3 ≤ n) :
    ∀ ρ, (∃ a b c d e, ρ = stEnv s q (.int d0 :: .int d1 :: .int d2 :: .int d3 :: ds) (q.cols s) d1 k a b c d e) → ∃ p, (d_law_stage.body.drop 5).ev (callN G n) ρ S = .rt p S ∧ ∃ q', p = q'.pv ∧ Inv s q' ∧ q'.depth ≤ q.depth + 2 := by
  have hpick := law_pick_ok (S := S) hi d0 d1 d2 d3 ds (m := n) (by omega)
  have hsub := someOf_sub (q.cols s) d1
  have hnd : (someOf (q.cols s) d1).Nodup := hi.cls.1.sublist hsub
  have hmem : ∀ x ∈ someOf (q.cols s) d1, x ∈ names (q.cols s) := fun x hx => hsub.subset hx
  have hl1 : B1.ev .len (strsL (numsOf (q.cols s))) = some (.int ((numsOf (q.cols s)).length)) := by show some (PV.int ((numsOf (q.cols s)).map PV.str).length) = _; simp
  have hl2 : B1.ev .len (strsL (names (q.cols s))) = some (.int ((names (q.cols s)).length)) := by show some (PV.int ((names (q.cols s)).map PV.str).length) = _; simp
  have hl3 : B1.ev .len (colsPV (q.cols s)) = some (.int ((q.cols s).length)) := by show some (PV.int ((q.cols s).map Cl.pv).length) = _; simp
  have hl4 : B1.ev .len (schPV s) = some (.int s.length) := by show some (PV.int (s.map tabPV).length) = _; simp
  have hsl : 0 < s.length := List.length_pos_iff.mpr so.ne
  have hnn : names (q.cols s) ≠ [] := fun e => hi.ne (List.map_eq_nil_iff.mp e)
  have hnl : 0 < (names (q.cols s)).length := List.length_pos_iff.mpr hnn
  refine chain1 ?s5 (chain1 ?s6 (chain1 ?s7 (chain1 ?s8 (chain1 ?s9 (chain1 ?s10 (chain1 ?s11 ?s12))))))
  case s5 =>
    rintro ρ ⟨a, b, c, d, e, rfl⟩
    by_cases h : k = 2
    · by_cases h2 : (1 : Int) < (numsOf (q.cols s)).length
      · left
        have hl : 1 < (numsOf (q.cols s)).length := by omega
        have h0 : (numsOf (q.cols s)) ≠ [] := by intro z; rw [z] at hl; simp at hl
        have i0 : idxEv (strsL (numsOf (q.cols s))) (.int 0) = some (.str ((numsOf (q.cols s))[0]'(by omega))) := idx_lst (k := 0) (by rw [List.getElem?_map, List.getElem?_eq_getElem (by omega)]; rfl)
        have i1 : idxEv (strsL (numsOf (q.cols s))) (.int (-1)) = some (.str ((numsOf (q.cols s)).getLast h0)) := by
          have := idx_last (xs := (numsOf (q.cols s)).map PV.str) (by simpa using h0)
          rw [List.getLast_map] at this
          exact this
        obtain ⟨ca, a1, a2, a3⟩ := numsOf_mem (cs := q.cols s) (x := (numsOf (q.cols s))[0]'(by omega)) (List.getElem_mem _)
        obtain ⟨cb, b1, b2, b3⟩ := numsOf_mem (cs := q.cols s) (x := (numsOf (q.cols s)).getLast h0) (List.getLast_mem _)
        refine ⟨(Qu.same q ca.nm cb.nm).pv, ?_, _, rfl, hi.same a1 b1 (by rw [a3, b3]), Nat.le_succ (q.depth + 1)⟩
        simp [stEnv, eq_int, h, hl1, gt_len, h2, i0, i1, Qu.pv, a2, b2]
      · right
        refine ⟨_, ?_, a, b, c, d, e, rfl⟩
        simp [stEnv, eq_int, h, hl1, gt_len, h2]
    · right
      refine ⟨_, ?_, a, b, c, d, e, rfl⟩
      simp [stEnv, eq_int, h]
  case s6 =>
    rintro ρ ⟨a, b, c, d, e, rfl⟩
    by_cases h : k = 3
    · by_cases h2 : someOf (q.cols s) d1 = []
      · right
        refine ⟨_, ?_, a, b, c, d, e, rfl⟩
        simp [stEnv, eq_int, h, truth_strs, h2]
      · left
        refine ⟨(Qu.keep q (someOf (q.cols s) d1)).pv, ?_, _, rfl, hi.keep hmem hnd h2, Nat.le_succ (q.depth + 1)⟩
        have h3 : (someOf (q.cols s) d1).isEmpty = false := by simpa using h2
        simp [stEnv, eq_int, h, truth_strs, h3, Qu.pv]
    · right
      refine ⟨_, ?_, a, b, c, d, e, rfl⟩
      simp [stEnv, eq_int, h]
  case s7 =>
    rintro ρ ⟨a, b, c, d, e, rfl⟩
    by_cases h : k = 4
    · obtain ⟨new, hp, e1⟩ : ∃ x : Tx, x ∈ pool ∧ idxEv (.lst [.str (tx "x"), .str (tx "n"), .str (tx "t"), .str (tx "y")]) (.int (d1 % 4)) = some (.str x) := by
        obtain ⟨x, hx, e⟩ := idx_mod (xs := [.str (tx "x"), .str (tx "n"), .str (tx "t"), .str (tx "y")]) (by simp) d1
        have e5 : ((4 : Nat) : Int) = 4 := rfl
        simp only [List.length_cons, List.length_nil, Nat.reduceAdd, e5] at e
        rw [e]
        simp only [List.mem_cons, List.not_mem_nil, or_false] at hx
        rcases hx with rfl | rfl | rfl | rfl
        · exact ⟨tx "x", by decide, rfl⟩
        · exact ⟨tx "n", by decide, rfl⟩
        · exact ⟨tx "t", by decide, rfl⟩
        · exact ⟨tx "y", by decide, rfl⟩
      by_cases h2 : new ∈ names (q.cols s)
      · right
        refine ⟨_, ?_, some (.val (.str new)), b, c, d, e, rfl⟩
        have e3 : CO.ev .notin (.str new) (strsL (names (q.cols s))) = some (!decide (new ∈ names (q.cols s))) := notin_strsL _ _
        simp [stEnv, eq_int, h, idx_l1, int_int, mod_int, e1, e3, h2]
      · left
        obtain ⟨old, ho, e2⟩ := strs_mod hnn d2
        refine ⟨(Qu.name q old new).pv, ?_, _, rfl, hi.name ho h2 hp, Nat.le_succ (q.depth + 1)⟩
        have e3 : CO.ev .notin (.str new) (strsL (names (q.cols s))) = some (!decide (new ∈ names (q.cols s))) := notin_strsL _ _
        simp [stEnv, eq_int, h, idx_l1, idx_l2, int_int, mod_int, e1, e3, h2, hl2, mod_len hnl, e2, Qu.pv]
    · right
      refine ⟨_, ?_, a, b, c, d, e, rfl⟩
      simp [stEnv, eq_int, h]
  case s8 =>
    rintro ρ ⟨a, b, c, d, e, rfl⟩
    by_cases h : k = 5
    · have hne : s.map tabPV ≠ [] := fun z => so.ne (List.map_eq_nil_iff.mp z)
      obtain ⟨x, hx, e1⟩ := idx_modT hne d1
      obtain ⟨y, hy, rfl⟩ := List.mem_map.mp hx
      rw [List.length_map] at e1
      replace e1 : idxEv (schPV s) (.int (d1 % (s.length : Int))) = some (tabPV y) := e1
      obtain ⟨it, ec⟩ := Inv.table so hy
      have e2 := law_columns_ok (S := S) (.table y.1) it.ok it.fin n (by unfold Qu.depth; omega)
      rw [ec] at e2
      replace e2 : callN G n .law_columns [schPV s, .tup [.str (tx "table"), .str y.1]] S = _ := e2
      let P : Cl → Bool := fun c => decide (c.nm ∈ names (q.cols s)) && !decide (c ∈ q.cols s)
      have q1 : ∀ f : PV → Store → R (List PV), (∀ c ∈ y.2, f c.pv S = .ok (if P c then [c.pv] else []) S) → compL f (y.2.map Cl.pv) S = .ok ((y.2.filter P).map Cl.pv) S := fun f h => compL_if Cl.pv Cl.pv P y.2 h
      have step : (Stm.asg (.nm 10) (.comp [11] (.nm 11) (.of (.call .law_columns (.cons (.v 0) (.cons (.v 9) .nil)))) (.some (.and (.cmp .isin (.idx (.peek 11) (.c (.int 0))) (.peek 4)) (.cmp .notin (.peek 11) (.peek 3)))) (.v 11))).ev (callN G n)
          (stEnv s q (.int d0 :: .int d1 :: .int d2 :: .int d3 :: ds) (q.cols s) d1 k a (some (.val (.tup [.str (tx "table"), .str y.1]))) c d e) S = .nx (stEnv s q (.int d0 :: .int d1 :: .int d2 :: .int d3 :: ds) (q.cols s) d1 k a (some (.val (.tup [.str (tx "table"), .str y.1]))) (some (.val (.lst ((y.2.filter P).map Cl.pv)))) d e) S := by
        simp [stEnv, e2]
        have ecl : colsPV y.2 = .tup (y.2.map Cl.pv) := rfl
        simp only [ecl, sv_itt, R.of_some, R.bind_ok']
        rw [q1 _ fun c hc => by
          have e3 : CO.ev .isin (.str c.nm) (strsL (names (q.cols s))) = some (decide (c.nm ∈ names (q.cols s))) := in_strsL _ _
          have e4 : CO.ev .notin c.pv (colsPV (q.cols s)) = some (!decide (c ∈ q.cols s)) := notin_cols _ _
          simp [cl_name, e3, P]
          by_cases h1 : c.nm ∈ names (q.cols s)
          · by_cases h2 : c ∈ q.cols s <;> simp [h1, h2, e4]
          · simp [h1]]
        rfl
      by_cases h2 : (y.2.filter P) = [] ∧ ((q.cols s).length : Int) < 6
      · left
        refine ⟨(Qu.join q (.table y.1)).pv, ?_, _, rfl, hi.join it ?_, by simp [Qu.depth]; omega⟩
        · subst h
          have p1 : CO.ev .eq (.int 5) (.int 5) = some true := rfl
          have a1 : ∀ ρ' : Env, (Stm.asg (.nm 9) (.tup (.cons (.c (.str (tx "table"))) (.cons (.idx (.idx (.peek 0) (.bin .mod (.b1 .int (.idx (.peek 2) (.c (.int 1)))) (.b1 .len (.peek 0)))) (.c (.int 0))) .nil)))).ev (callN G n) (stEnv s q (.int d0 :: .int d1 :: .int d2 :: .int d3 :: ds) (q.cols s) d1 5 a b c d e) S = .nx (stEnv s q (.int d0 :: .int d1 :: .int d2 :: .int d3 :: ds) (q.cols s) d1 5 a (some (.val (.tup [.str (tx "table"), .str y.1]))) c d e) S := fun _ => by
            simp [stEnv, idx_l1, int_int, hl4, mod_len hsl, e1, tabPV, idx_t0]
          rw [stm_if (p := .bl true) (k := true) (S1 := S) (by simp [stEnv, p1]) rfl, if_pos rfl, stms_nx (a1 []), stms_nx step]
          simp [stEnv, h2.1, hl3, lt_len, h2.2, Qu.pv]
        · intro c hc h3
          rw [ec] at hc
          by_cases h4 : c ∈ q.cols s
          · exact h4
          · have : c ∈ y.2.filter P := List.mem_filter.mpr ⟨hc, by simp [P, h3, h4]⟩
            rw [h2.1] at this; cases this
      · right
        refine ⟨stEnv s q (.int d0 :: .int d1 :: .int d2 :: .int d3 :: ds) (q.cols s) d1 k a (some (.val (.tup [.str (tx "table"), .str y.1]))) (some (.val (.lst ((y.2.filter P).map Cl.pv)))) d e, ?_, _, _, _, _, _, rfl⟩
        subst h
        have p1 : CO.ev .eq (.int 5) (.int 5) = some true := rfl
        have a1 : ∀ ρ' : Env, (Stm.asg (.nm 9) (.tup (.cons (.c (.str (tx "table"))) (.cons (.idx (.idx (.peek 0) (.bin .mod (.b1 .int (.idx (.peek 2) (.c (.int 1)))) (.b1 .len (.peek 0)))) (.c (.int 0))) .nil)))).ev (callN G n) (stEnv s q (.int d0 :: .int d1 :: .int d2 :: .int d3 :: ds) (q.cols s) d1 5 a b c d e) S = .nx (stEnv s q (.int d0 :: .int d1 :: .int d2 :: .int d3 :: ds) (q.cols s) d1 5 a (some (.val (.tup [.str (tx "table"), .str y.1]))) c d e) S := fun _ => by
          simp [stEnv, idx_l1, int_int, hl4, mod_len hsl, e1, tabPV, idx_t0]
        rw [stm_if (p := .bl true) (k := true) (S1 := S) (by simp [stEnv, p1]) rfl, if_pos rfl, stms_nx (a1 []), stms_nx step]
        by_cases h3 : y.2.filter P = []
        · have h4 : ¬ ((q.cols s).length : Int) < 6 := fun z => h2 ⟨h3, z⟩
          simp [stEnv, h3, hl3, lt_len, h4]
        · simp only [stEnv]
          generalize y.2.filter P = zs at h3
          cases zs with
          | nil => exact absurd rfl h3
          | cons z zs => simp
    · right
      refine ⟨_, ?_, a, b, c, d, e, rfl⟩
      simp [stEnv, eq_int, h]
  case s9 =>
    rintro ρ ⟨a, b, c, d, e, rfl⟩
    obtain ⟨x, o, v, hv, e1⟩ := hpick
    by_cases h : k = 6
    · left
      refine ⟨(Qu.unite q (.pick q x o v)).pv, ?_, _, rfl, hi.unite hv rfl, by simp [Qu.depth]⟩
      have e2 : idxEv (.lst [.str (tx "unite"), .str (tx "less")]) (.int (6 - 6)) = some (.str (tx "unite")) := rfl
      subst h
      simp (decide := true) [stEnv, eq_int, sub_int, e1]
      simp [Qu.pv, idx_l0, e1]
    · by_cases h2 : k = 7
      · left
        refine ⟨(Qu.less q (.pick q x o v)).pv, ?_, _, rfl, hi.less hv rfl, by simp [Qu.depth]⟩
        subst h2
        simp (decide := true) [stEnv, eq_int, sub_int, e1]
        simp [Qu.pv, idx_l1, e1]
      · right
        refine ⟨_, ?_, a, b, c, d, e, rfl⟩
        simp [stEnv, eq_int, h, h2]
  case s10 =>
    rintro ρ ⟨a, b, c, d, e, rfl⟩
    have e3 : CO.ev .notin (.str (tx "count")) (strsL (names (q.cols s))) = some (!decide (tx "count" ∈ names (q.cols s))) := notin_strsL _ _
    by_cases h : k = 8
    · by_cases h2 : tx "count" ∈ names (q.cols s)
      · right
        refine ⟨_, ?_, a, b, c, d, e, rfl⟩
        simp [stEnv, eq_int, h, e3, h2]
      · left
        refine ⟨(Qu.count q (someOf (q.cols s) d1)).pv, ?_, _, rfl, hi.count hmem hnd (fun z => h2 (hmem _ z)), Nat.le_succ (q.depth + 1)⟩
        simp [stEnv, eq_int, h, e3, h2, Qu.pv]
    · right
      refine ⟨_, ?_, a, b, c, d, e, rfl⟩
      simp [stEnv, eq_int, h]
  case s11 =>
    rintro ρ ⟨a, b, c, d, e, rfl⟩
    have e3 : CO.ev .notin (.str (tx "sum")) (strsL (names (q.cols s))) = some (!decide (tx "sum" ∈ names (q.cols s))) := notin_strsL _ _
    by_cases h : k = 9
    · by_cases h4 : numsOf (q.cols s) = []
      · right
        refine ⟨_, ?_, a, b, c, d, e, rfl⟩
        simp [stEnv, eq_int, h, truth_strsL, h4]
      · by_cases h2 : tx "sum" ∈ names (q.cols s)
        · right
          refine ⟨_, ?_, a, b, c, d, e, rfl⟩
          simp [stEnv, eq_int, h, truth_strsL, h4, e3, h2]
        · left
          obtain ⟨z, hz, e2⟩ := strs_mod h4 d2
          obtain ⟨cz, z1, z2, z3⟩ := numsOf_mem hz
          have hzl : 0 < (numsOf (q.cols s)).length := List.length_pos_iff.mpr h4
          refine ⟨(Qu.sum q (someOf (q.cols s) d1) cz.nm).pv, ?_, _, rfl, hi.sum hmem hnd (fun z => h2 (hmem _ z)) z1 z3, Nat.le_succ (q.depth + 1)⟩
          simp [stEnv, eq_int, h, truth_strsL, h4, e3, h2, idx_l2, int_int, hl1, mod_len hzl, e2, Qu.pv, z2]
    · right
      refine ⟨_, ?_, a, b, c, d, e, rfl⟩
      simp [stEnv, eq_int, h]
  case s12 =>
    rintro ρ ⟨a, b, c, d, e, rfl⟩
    obtain ⟨x, o, v, hv, e1⟩ := hpick
    refine ⟨(Qu.pick q x o v).pv, ?_, _, rfl, hv, Nat.le_succ (q.depth + 1)⟩
    simp [stEnv, e1, Stms.drop]
theorem law_stage_ok {s : Sch} (so : SchOk s) {q : Qu} (hi : Inv s q) (d0 d1 d2 d3 : Int) (ds : List PV) {m : Nat} (hm : q.depth + 5 ≤ m) : ∃ q', Inv s q' ∧ q'.depth ≤ q.depth + 2 ∧ callN G m .law_stage [schPV s, q.pv, .lst (.int d0 :: .int d1 :: .int d2 :: .int d3 :: ds)] S = .ok q'.pv S := by
  obtain ⟨n, rfl⟩ : ∃ n, m = n + 1 := ⟨m - 1, by omega⟩
  rw [callN_eq G n _ _ _ (d := d_law_stage) rfl, run_eq _ _ _ _ rfl, stms_part 5 _ (stage_head hi d0 d1 (.int d2 :: .int d3 :: ds) (by omega))]
  obtain ⟨p, h1, q', rfl, h2, h3⟩ := stage_tail (S := S) so hi d0 d1 d2 d3 (d0 % 10) ds (n := n) (by omega) _ ⟨_, _, _, _, _, rfl⟩
  exact ⟨q', h2, h3, by rw [h1]; rfl⟩

theorem law_question_ok {s : Sch} (so : SchOk s) (cells : List Int) (h1 : cells ≠ []) (h2 : cells.length ≤ 5) {m : Nat} (hm : 16 ≤ m) : ∃ q, Inv s q ∧ q.depth ≤ 9 ∧ callN G m .law_question_1 [schPV s, .lst (cells.map .int)] S = .ok q.pv S := by
  obtain ⟨n, rfl⟩ : ∃ n, m = n + 1 := ⟨m - 1, by omega⟩
  rw [callN_eq G n _ _ _ (d := d_law_question_1) rfl, run_eq _ _ _ _ rfl]
  have hr : rngOk (cells.length : Int) = true := rngOk_len (by omega)
  obtain ⟨ρ', e, a, b, qv, rfl, hq⟩ := forL_inv (S := S) (tg := .nm 3) (f := fun ρ S => b_law_question_1_1.ev (callN G n) ρ S) (fun j ρ => ∃ a b qv, ρ = [some (.val (schPV s)), some (.val (.lst (cells.map .int))), some (.val qv), a, b] ∧ (j = 0 ∨ ∃ q, qv = q.pv ∧ Inv s q ∧ q.depth + 1 ≤ 2 * j)) ((List.range cells.length).map fun (k : Nat) => PV.int k) 0
    [some (.val (schPV s)), some (.val (.lst (cells.map .int))), some (.val (.tup [.str (tx "table"), .str (tx "a")])), none, none] ⟨_, _, _, rfl, .inl rfl⟩ (by
      rintro j x ρ hx ⟨a, b, qv, rfl, hq⟩
      rw [List.getElem?_map] at hx
      obtain ⟨j', hj', rfl⟩ := Option.map_eq_some_iff.mp hx
      have hjl : j < cells.length := by
        have := (List.getElem?_eq_some_iff.mp hj').1
        rwa [List.length_range] at this
      rw [List.getElem?_range hjl] at hj'
      cases hj'
      rw [Nat.zero_add] at hq ⊢
      obtain ⟨ds, d1, d2, e1⟩ := law_draws_ok (n := n - 1) (S := S) cells[j] 5 (by omega)
      rw [show n - 1 + 1 = n by omega] at e1
      obtain ⟨x0, x1, x2, x3, x4, rfl⟩ : ∃ x0 x1 x2 x3 x4, ds = [x0, x1, x2, x3, x4] := by
        match ds, d1 with
        | [x0, x1, x2, x3, x4], _ => exact ⟨x0, x1, x2, x3, x4, rfl⟩
      have ei : idxEv (.lst (cells.map .int)) (.int (j : Int)) = some (.int cells[j]) := idx_lst (by rw [List.getElem?_map, List.getElem?_eq_getElem hjl]; rfl)
      replace e1 : callN G n .law_draws [.int cells[j], .int 5] S = .ok (.lst [.int x0, .int x1, .int x2, .int x3, .int x4]) S := e1
      by_cases hj : j = 0
      · subst hj
        obtain ⟨q, g1, g2, g3⟩ := law_base_ok (S := S) so x0 x1 x2 [.int x3, .int x4] (m := n) (by omega)
        refine ⟨_, [some (.val (schPV s)), some (.val (.lst (cells.map .int))), some (.val q.pv), some (.val (.int 0)), some (.val (.lst [.int x0, .int x1, .int x2, .int x3, .int x4]))], rfl, .inl ?_, _, _, _, rfl, .inr ⟨q, rfl, g1, by omega⟩⟩
        replace ei : idxEv (.lst (cells.map .int)) (.int 0) = some (.int cells[0]) := ei
        simp [b_law_question_1_1, ei, e1, eq_int, g3]
      · rcases hq with hq | ⟨q, rfl, g1, g2⟩
        · exact absurd hq hj
        obtain ⟨q', g3, g4, g5⟩ := law_stage_ok (S := S) so g1 x0 x1 x2 x3 [.int x4] (m := n) (by omega)
        refine ⟨_, [some (.val (schPV s)), some (.val (.lst (cells.map .int))), some (.val q'.pv), some (.val (.int j)), some (.val (.lst [.int x0, .int x1, .int x2, .int x3, .int x4]))], rfl, .inl ?_, _, _, _, rfl, .inr ⟨q', rfl, g3, by omega⟩⟩
        have hj0 : ¬ ((j : Int) = 0) := by omega
        simp [b_law_question_1_1, ei, e1, eq_int, hj0, hj, g5])
  rw [List.length_map, List.length_range, Nat.zero_add] at hq
  have hl := List.length_pos_iff.mpr h1
  rcases hq with hq | ⟨q, rfl, g1, g2⟩
  · omega
  refine ⟨q, g1, by omega, ?_⟩
  rw [← upto0] at e
  simp [d_law_question_1, B1.ev, lenV, hr]
  rw [e]
  simp
/-! ### the two schemas -/
def sch1 : Sch := [(tx "a", [⟨tx "n", false⟩, ⟨tx "t", true⟩]), (tx "b", [⟨tx "n", false⟩, ⟨tx "m", false⟩]), (tx "c", [⟨tx "t", true⟩])]
def sch2 : Sch := [(tx "a", [⟨tx "t", true⟩, ⟨tx "n", false⟩, ⟨tx "m", false⟩]), (tx "b", [⟨tx "n", false⟩, ⟨tx "m", false⟩])]
theorem lookup_mem {α β : Type} [BEq α] [LawfulBEq α] : ∀ {l : List (α × β)} {x : α} {y : β}, l.lookup x = some y → (x, y) ∈ l
  | [], _, _, h => by cases h
  | (a, b) :: l, x, y, h => by
    rw [List.lookup_cons] at h
    cases hb : x == a with
    | true =>
      rw [hb] at h
      cases h
      rw [beq_iff_eq.mp hb]; exact List.mem_cons_self
    | false =>
      rw [hb] at h
      exact List.mem_cons_of_mem _ (lookup_mem h)
theorem schOk_of {s : Sch} (h : (decide (s ≠ []) && decide (s.length ≤ 10) && s.all (fun y => decide (y.2 ≠ []) && decide ((names y.2).Nodup) && (names y.2).all (fun x => decide (x ∈ pool)) && decide (s.lookup y.1 = some y.2)) && s.any fun y => decide ((⟨tx "t", true⟩ : Cl) ∈ y.2)) = true) : SchOk s := by
  simp only [Bool.and_eq_true, decide_eq_true_eq, List.all_eq_true, List.any_eq_true] at h
  obtain ⟨⟨⟨h1, h2⟩, h3⟩, h4⟩ := h
  exact ⟨h1, h2, fun t cs e => let g := h3 _ (lookup_mem e); ⟨g.1.1.1, g.1.1.2, g.1.2⟩, fun y hy => (h3 y hy).2, h4⟩
theorem sch1_ok : SchOk sch1 := schOk_of (by decide)
theorem sch2_ok : SchOk sch2 := schOk_of (by decide)
theorem law_schema_ok (d : Int) {m : Nat} (hm : 1 ≤ m) : ∃ s, (s = sch1 ∨ s = sch2) ∧ SchOk s ∧ callN G m .law_schema_1 [.int d] S = .ok (schPV s) S := by
  obtain ⟨n, rfl⟩ : ∃ n, m = n + 1 := ⟨m - 1, by omega⟩
  rw [callN_eq G n _ _ _ (d := d_law_schema_1) rfl, run_eq _ _ _ _ rfl]
  by_cases h : d % 3 = 2
  · refine ⟨sch2, .inr rfl, sch2_ok, ?_⟩
    simp [d_law_schema_1, int_int, mod_int, eq_int, h, schPV, sch2, tabPV, colsPV, Cl.pv, kdT]
  · refine ⟨sch1, .inl rfl, sch1_ok, ?_⟩
    simp [d_law_schema_1, int_int, mod_int, eq_int, h, schPV, sch1, tabPV, colsPV, Cl.pv, kdT]
theorem law_cell_ok (ns : List Int) (k : Nat) {m : Nat} (hm : 1 ≤ m) : ∃ d : Int, callN G m .law_cell [.lst (ns.map .int), .int k] S = .ok (.int d) S := by
  obtain ⟨n, rfl⟩ : ∃ n, m = n + 1 := ⟨m - 1, by omega⟩
  rw [callN_eq G n _ _ _ (d := d_law_cell) rfl, run_eq _ _ _ _ rfl]
  have e : CO.ev .lt (.int k) (.int (ns.length : Int)) = some (decide ((k : Int) < ns.length)) := rfl
  by_cases h : k < ns.length
  · have ei : idxEv (.lst (ns.map .int)) (.int (k : Int)) = some (.int ns[k]) := idx_lst (by rw [List.getElem?_map, List.getElem?_eq_getElem h]; rfl)
    refine ⟨ns[k], ?_⟩
    simp [d_law_cell, B1.ev, lenV, e, h, ei, intV]
  · refine ⟨0, ?_⟩
    simp [d_law_cell, B1.ev, lenV, e, h]
theorem slc_mid {xs : List PV} {k j : Nat} : slcEv (.lst xs) (some (k : Int)) (some ((k : Int) + (j : Int))) = some (.lst ((xs.drop k).take j)) := by
  show some (PV.lst ((xs.drop (sliceAt xs.length 0 (some (k : Int)))).take (sliceAt xs.length xs.length (some ((k : Int) + j)) - sliceAt xs.length 0 (some (k : Int))))) = _
  have h1 : ¬ ((k : Int) < 0) := by omega
  have h2 : ¬ ((k : Int) + j < 0) := by omega
  simp only [sliceAt, h1, h2, if_false]
  rw [show ((k : Int) + j).toNat = k + j by omega, show (k : Int).toNat = k by omega]
  congr 2
  by_cases h : k ≤ xs.length
  · rw [Nat.min_eq_left h]
    by_cases h3 : k + j ≤ xs.length
    · rw [Nat.min_eq_left h3, Nat.add_sub_cancel_left]
    · rw [Nat.min_eq_right (by omega), List.take_of_length_le (by simp), List.take_of_length_le (by simp; omega)]
  · rw [List.drop_eq_nil_of_le (show xs.length ≤ min k xs.length by omega), List.drop_eq_nil_of_le (show xs.length ≤ k by omega)]; simp
theorem plain_cols {cs : List Cl} (h : cs.length < 50) {d : Nat} : plainD (d + 3) (colsPV cs) = true := by
  unfold colsPV plainD
  rw [Bool.and_eq_true, decide_eq_true_eq, List.length_map, List.all_eq_true]
  refine ⟨by omega, fun x hx => ?_⟩
  obtain ⟨c, _, rfl⟩ := List.mem_map.mp hx
  simp [Cl.pv, plainD]
end A3

-- PureN
set_option linter.all false
set_option maxRecDepth 100000
set_option maxHeartbeats 4000000
/-! PureN: octets and ranges, what a question needs. -/
namespace A3
variable {S : Store}
/-! ### octets -/
def octV : Vl → List Int
  | .num n => [1, n / 65536, n / 256 % 256, n % 256]
  | .txt t => (2 :: t.map fun c : Nat => (c : Int)) ++ [0]
def octs (vs : List Vl) : List Int := vs.flatMap octV
abbrev Rg := List Int × List Int
def intsT (is : List Int) : PV := .tup (is.map .int)
def Rg.pv (r : Rg) : PV := .tup [intsT r.1, intsT r.2]
def rangeV (vs : List Vl) : Rg := (octs vs, octs vs ++ [3])
def startT (vs : List Vl) (t : Tx) : List Int := octs vs ++ [2] ++ t.map fun c : Nat => (c : Int)
def rangeT (vs : List Vl) (t : Tx) : Rg := (startT vs t, startT vs t ++ [127])
/-- no long text -/
def Vl.short : Vl → Bool
  | .num _ => true
  | .txt t => decide (t.length ≤ 40)
theorem good_short {v : Vl} (h : v.good = true) : v.short = true := by
  cases v with
  | num _ => rfl
  | txt t =>
    unfold Vl.good txtOk at h
    rw [Bool.and_eq_true] at h
    exact h.1
theorem octV_len {v : Vl} (h : v.short = true) : (octV v).length ≤ 42 := by
  cases v with
  | num n => unfold octV; simp
  | txt t =>
    have : t.length ≤ 40 := of_decide_eq_true h
    unfold octV; simp; omega
theorem octs_len : ∀ {vs : List Vl}, (∀ v ∈ vs, v.short = true) → (octs vs).length ≤ 42 * vs.length
  | [], _ => Nat.zero_le _
  | v :: vs, h => by
    have h1 := octV_len (h v List.mem_cons_self)
    have h2 := octs_len fun y hy => h y (List.mem_cons_of_mem _ hy)
    unfold octs at h2 ⊢
    rw [List.flatMap_cons, List.length_append, List.length_cons]
    omega
theorem add_intsT (a b : List Int) (h : a.length + b.length ≤ 16777216) : BO.ev .add (intsT a) (intsT b) = some (intsT (a ++ b)) := by
  unfold intsT
  rw [add_tup _ _ (by simpa using h), List.map_append]
theorem ords_ok {cf : CallF} {ρ : Env} (i : Nat) (hi : i < ρ.length) (t : Tx) (e : E) (he : e.ev cf ρ S = .ok (.str t) S) : (E.b1 .tuple (.comp [i] (.nm i) (.of e) .none (.b1 .ord (.peek i)))).ev cf ρ S = .ok (intsT (t.map fun c : Nat => (c : Int))) S := by
  rw [sv_b1, sv_compG, sv_iof, he]
  have k : compL (compG cf [i] (.nm i) .none (.b1 .ord (.peek i)) ρ) (t.map fun c => PV.str [c]) S = .ok (t.map fun c : Nat => PV.int (c : Int)) S := compL_map1 (fun c : Nat => PV.str [c]) _ t fun c hc => by
    have g : (ρ.set i (some (.val (.str [c]))))[i]? = some (some (.val (.str [c]))) := List.getElem?_set_self hi
    simp [compG, g, B1.ev, ordV]
  simp only [R.bind_ok', R.of_some, sv_its, k]
  simp [B1.ev, tupleV, intsT, Function.comp_def]
theorem value_octets_ok {v : Vl} (h : v.short = true) {m : Nat} (hm : 1 ≤ m) : callN G m .value_octets [v.pv] S = .ok (intsT (octV v)) S := by
  obtain ⟨n, rfl⟩ : ∃ n, m = n + 1 := ⟨m - 1, by omega⟩
  rw [callN_eq G n _ _ _ (d := d_value_octets) rfl, run_eq _ _ _ _ rfl]
  cases v with
  | num i =>
    simp [d_value_octets, Vl.pv, Ty.ev, fdiv_int, mod_int, intsT, octV]
  | txt t =>
    have hl : t.length ≤ 40 := of_decide_eq_true h
    have e := ords_ok (S := S) (cf := callN G n) (ρ := [some (.val (.str t)), none]) 1 (by simp) t (.v 0) rfl
    have a1 := add_intsT [2] (t.map fun c : Nat => (c : Int)) (by simp; omega)
    have a2 := add_intsT ([2] ++ t.map fun c : Nat => (c : Int)) [0] (by simp; omega)
    rw [show intsT [2] = .tup [.int 2] from rfl] at a1
    rw [show intsT [0] = .tup [.int 0] from rfl] at a2
    simp only [d_value_octets, Vl.pv, List.map_cons, List.map_nil, List.replicate, Nat.reduceSub, List.cons_append, List.nil_append, sv_scons, sv_ife, sv_isi, sv_peek, List.getElem?_cons_zero, sv_pv, R.bind_ok', Ty.ev, R.of_some, Option.map_some, A3.R.st, sv_tbl, sv_ret, sv_bin, e, sv_tup, sv_econs, sv_enil, sv_c, a1]
    simp only [List.cons_append, List.nil_append] at a2 ⊢
    simp [a2, octV]
theorem body_ok {vs : List Vl} (h : ∀ v ∈ vs, v.short = true) (hl : vs.length ≤ 100) {m : Nat} (hm : 2 ≤ m) : callN G m .body [.tup (vs.map Vl.pv)] S = .ok (intsT (octs vs)) S := by
  obtain ⟨n, rfl⟩ : ∃ n, m = n + 1 := ⟨m - 1, by omega⟩
  rw [callN_eq G n _ _ _ (d := d_body) rfl, run_eq _ _ _ _ rfl]
  have key : ∀ (vs us : List Vl) (a2 : Option Cell) (e0 : Option Cell), (∀ v ∈ us, v.short = true) → (∀ v ∈ vs, v.short = true) → us.length + vs.length ≤ 100 → ∃ b2, forL (.nm 2) (fun ρ S => b_body_1.ev (callN G n) ρ S) (vs.map Vl.pv) [e0, some (.val (intsT (octs us))), a2] S = .nx [e0, some (.val (intsT (octs (us ++ vs)))), b2] S := by
    intro vs
    induction vs with
    | nil => intro us a2 e0 _ _ _; exact ⟨a2, by rw [List.append_nil]; rfl⟩
    | cons v vs ih =>
      intro us a2 e0 hu hv hz
      rw [List.length_cons] at hz
      have o := value_octets_ok (S := S) (hv v List.mem_cons_self) (m := n) (by omega)
      have l1 := octs_len hu
      have l2 := octV_len (hv v List.mem_cons_self)
      have ad := add_intsT (octs us) (octV v) (by omega)
      obtain ⟨b2, k⟩ := ih (us ++ [v]) (some (.val v.pv)) e0 (fun y hy => by
        rcases List.mem_append.mp hy with hy | hy
        · exact hu y hy
        · rw [List.mem_singleton.mp hy]; exact hv v List.mem_cons_self) (fun y hy => hv y (List.mem_cons_of_mem _ hy)) (by simp; omega)
      refine ⟨b2, ?_⟩
      rw [List.map_cons]
      unfold forL
      have st : b_body_1.ev (callN G n) [e0, some (.val (intsT (octs us))), some (.val v.pv)] S = .nx [e0, some (.val (intsT (octs (us ++ [v])))), some (.val v.pv)] S := by
        have : octs (us ++ [v]) = octs us ++ octV v := by unfold octs; simp
        rw [this]
        simp [b_body_1, o, ad]
      simp only [sv_bnm, List.set_cons_zero, List.set_cons_succ, st]
      rw [k, List.append_assoc]; rfl
  obtain ⟨b2, k⟩ := key vs [] none (some (.val (.tup (vs.map Vl.pv)))) (fun _ h => nomatch h) h (by simpa using hl)
  rw [show intsT (octs []) = .tup [] from rfl] at k
  simp [d_body]
  rw [k]
  simp
theorem range_of_ok {vs : List Vl} (h : ∀ v ∈ vs, v.short = true) (hl : vs.length ≤ 100) {m : Nat} (hm : 3 ≤ m) : callN G m .range_of [.tup (vs.map Vl.pv)] S = .ok (rangeV vs).pv S := by
  obtain ⟨n, rfl⟩ : ∃ n, m = n + 1 := ⟨m - 1, by omega⟩
  rw [callN_eq G n _ _ _ (d := d_range_of) rfl, run_eq _ _ _ _ rfl]
  have b := body_ok (S := S) h hl (m := n) (by omega)
  have l := octs_len h
  have ad := add_intsT (octs vs) [3] (by simp; omega)
  rw [show intsT [3] = .tup [.int 3] from rfl] at ad
  simp [d_range_of, b, ad, Rg.pv, rangeV]
theorem range_of_text_ok {vs : List Vl} {t : Tx} (h : ∀ v ∈ vs, v.short = true) (hl : vs.length ≤ 100) (ht : t.length ≤ 40) {m : Nat} (hm : 3 ≤ m) : callN G m .range_of_text [.tup (vs.map Vl.pv), .str t] S = .ok (rangeT vs t).pv S := by
  obtain ⟨n, rfl⟩ : ∃ n, m = n + 1 := ⟨m - 1, by omega⟩
  rw [callN_eq G n _ _ _ (d := d_range_of_text) rfl, run_eq _ _ _ _ rfl]
  have b := body_ok (S := S) h hl (m := n) (by omega)
  have l := octs_len h
  have e := ords_ok (S := S) (cf := callN G n) (ρ := [some (.val (.tup (vs.map Vl.pv))), some (.val (.str t)), none, none]) 3 (by simp) t (.v 1) rfl
  have a1 := add_intsT (octs vs) [2] (by simp; omega)
  have a2 := add_intsT (octs vs ++ [2]) (t.map fun c : Nat => (c : Int)) (by simp; omega)
  have a3 := add_intsT (startT vs t) [127] (by unfold startT; simp; omega)
  rw [show intsT [2] = .tup [.int 2] from rfl] at a1
  rw [show intsT [127] = .tup [.int 127] from rfl] at a3
  have s1 : (E.bin .add (.bin .add (.call .body (.cons (.v 0) .nil)) (.tup (.cons (.c (.int 2)) .nil))) (.b1 .tuple (.comp [3] (.nm 3) (.of (.v 1)) .none (.b1 .ord (.peek 3))))).ev (callN G n) [some (.val (.tup (vs.map Vl.pv))), some (.val (.str t)), none, none] S = .ok (intsT (startT vs t)) S := by
    simp only [sv_bin, sv_call, sv_econs, sv_enil, sv_v, List.getElem?_cons_zero, R.bind_ok', b, sv_tup, sv_c, a1, R.of_some, e, a2]
    rfl
  show (d_range_of_text.body.ev (callN G n) [some (.val (.tup (vs.map Vl.pv))), some (.val (.str t)), none, none] S).fin = _
  unfold d_range_of_text
  rw [stms_nx (stm_asg s1 rfl)]
  simp [a3, Rg.pv, rangeT]
/-! ### chains -/
structure Pk where
  c : Tx
  o : Cp
  v : Vl
  deriving DecidableEq, Repr
def Pk.pv (p : Pk) : PV := .tup [.str p.c, .str p.o.t, p.v.pv]
abbrev Ch := Tx × List Pk
def Qu.chain : Qu → Option Ch
  | .table t => some (t, [])
  | .pick q c o v => (q.chain).map fun x => (x.1, x.2 ++ [⟨c, o, v⟩])
  | _ => none
def chP (c : Ch) : PV := .tup [.str c.1, .lst (c.2.map Pk.pv)]
def chPV : Option Ch → PV
  | none => .non
  | some c => chP c
@[simp] theorem pat_seqs (ps : List Pt) (i : Nat) (xs : List PV) : (Pat.seqs ps i).m (.tup xs) = if ps.length ≤ xs.length && decide (xs.length ≤ 16384) then (match ptsM ps (xs.take ps.length) with
      | some (some bs) => some (some (bs ++ [(i, .lst (xs.drop ps.length))]))
      | r => r) else (if xs.length < ps.length then some none else none) := rfl
theorem chain_len : ∀ {q : Qu} {c : Ch}, q.chain = some c → c.2.length < q.depth
  | .table t, c, h => by cases h; exact Nat.zero_lt_one
  | .pick q x o v, c, h => by
    unfold Qu.chain at h
    obtain ⟨d, hd, rfl⟩ := Option.map_eq_some_iff.mp h
    have := chain_len hd
    unfold Qu.depth
    simp; omega
  | .found _ _ _, _, h => by cases h
  | .same _ _ _, _, h => by cases h
  | .keep _ _, _, h => by cases h
  | .name _ _ _, _, h => by cases h
  | .join _ _, _, h => by cases h
  | .unite _ _, _, h => by cases h
  | .less _ _, _, h => by cases h
  | .count _ _, _, h => by cases h
  | .sum _ _ _, _, h => by cases h
theorem is_non (p : PV) : CO.ev .is p .non = some (match p with | .non => true | _ => false) := rfl
theorem isnot_non (p : PV) : CO.ev .isnot p .non = some (!(match p with | .non => true | _ => false)) := rfl
theorem chain_of_ok : ∀ (q : Qu), q.depth ≤ 1000 → ∀ m, q.depth ≤ m → callN G m .chain_of [q.pv] S = .ok (chPV q.chain) S := by
  intro q
  induction q with
  | table t =>
    intro hd m hm
    unfold Qu.depth at hm
    obtain ⟨n, rfl⟩ : ∃ n, m = n + 1 := ⟨m - 1, by omega⟩
    rw [callN_eq G n _ _ _ (d := d_chain_of) rfl, run_eq _ _ _ _ rfl]
    simp [d_chain_of, Qu.pv, bindAll, Qu.chain, chPV, chP]
  | pick q x o v ih =>
    intro hd m hm
    unfold Qu.depth at hm hd
    obtain ⟨n, rfl⟩ : ∃ n, m = n + 1 := ⟨m - 1, by omega⟩
    rw [callN_eq G n _ _ _ (d := d_chain_of) rfl, run_eq _ _ _ _ rfl]
    have e := ih (by omega) n (by omega)
    cases hc : q.chain with
    | none =>
      rw [hc] at e
      simp (decide := true) [d_chain_of, Qu.pv, bindAll, e, chPV, Qu.chain, hc, is_non]
    | some c =>
      rw [hc] at e
      have hl := chain_len hc
      have hz : c.2.length ≤ 65535 := by omega
      simp (decide := true) [d_chain_of, Qu.pv, bindAll, e, chPV, Qu.chain, hc, is_non, chP, idx2_0, idx2_1, starOf, hz, B1.ev, tupleV, Pk.pv]
  | _ =>
    intro hd m hm
    unfold Qu.depth at hm
    obtain ⟨n, rfl⟩ : ∃ n, m = n + 1 := ⟨m - 1, by omega⟩
    rw [callN_eq G n _ _ _ (d := d_chain_of) rfl, run_eq _ _ _ _ rfl]
    simp (decide := true) [d_chain_of, Qu.pv, Qu.chain, chPV]
/-- the values that the picks of a column by = want -/
def wants (ps : List Pk) (x : Tx) : List Vl := (ps.filter fun p => decide (p.c = x) && decide (p.o.t = tx "=")).map (·.v)
def begs (ps : List Pk) : List Cl → List Vl
  | [] => []
  | c :: cs => match wants ps c.nm with
    | [] => []
    | w :: _ => w :: begs ps cs
def pkPV (ps : List Pk) : PV := .lst (ps.map Pk.pv)
theorem wanted_value_ok (ps : List Pk) (x : Tx) {m : Nat} (hm : 1 ≤ m) : callN G m .wanted_value [pkPV ps, .str x] S = .ok (.lst (((wants ps x).map Vl.pv).take 1)) S := by
  obtain ⟨n, rfl⟩ : ∃ n, m = n + 1 := ⟨m - 1, by omega⟩
  rw [callN_eq G n _ _ _ (d := d_wanted_value) rfl, run_eq _ _ _ _ rfl]
  show (d_wanted_value.body.ev (callN G n) [some (.val (pkPV ps)), some (.val (.str x)), none, none, none] S).fin = _
  have k : compL (compG (callN G n) [2, 3, 4] (.tp [.nm 2, .nm 3, .nm 4]) (.some (.and (.cmp .eq (.peek 2) (.peek 1)) (.cmp .eq (.peek 3) (.c (.str (tx "=")))))) (.v 4) [some (.val (pkPV ps)), some (.val (.str x)), none, none, none]) (ps.map Pk.pv) S = .ok (((ps.filter fun p => decide (p.c = x) && decide (p.o.t = tx "=")).map fun p => p.v.pv)) S :=
    compL_if Pk.pv (fun p => p.v.pv) (fun p => decide (p.c = x) && decide (p.o.t = tx "=")) ps fun p hp => by
      by_cases h1 : p.c = x
      · by_cases h2 : p.o.t = tx "="
        · simp [compG, Pk.pv, eq_str, h1, h2]
        · simp [compG, Pk.pv, eq_str, h1, h2]
      · simp [compG, Pk.pv, eq_str, h1]
  have sl : ∀ xs : List PV, slcEv (.lst xs) none (some 1) = some (.lst (xs.take 1)) := fun xs => by
    have := slc_mid (xs := xs) (k := 0) (j := 1)
    cases xs <;> rfl
  have e : (E.slc (.comp [2, 3, 4] (.tp [.nm 2, .nm 3, .nm 4]) (.of (.v 0)) (.some (.and (.cmp .eq (.peek 2) (.peek 1)) (.cmp .eq (.peek 3) (.c (.str (tx "=")))))) (.v 4)) .none (.some (.c (.int 1)))).ev (callN G n) [some (.val (pkPV ps)), some (.val (.str x)), none, none, none] S = .ok (.lst (((wants ps x).map Vl.pv).take 1)) S := by
    rw [sv_slc, sv_compG]
    simp only [sv_iof, sv_v, List.getElem?_cons_zero, R.bind_ok', pkPV, sv_itl, R.of_some]
    have k' := k
    unfold pkPV at k'
    rw [k']
    simp [sl, wants, Function.comp_def]
  unfold d_wanted_value
  rw [stms_rt (stm_ret e)]
  rfl
theorem begs_short {ps : List Pk} (h : ∀ p ∈ ps, p.v.short = true) : ∀ {cs : List Cl}, ∀ v ∈ begs ps cs, v.short = true
  | [], v, hv => nomatch hv
  | c :: cs, v, hv => by
    unfold begs at hv
    split at hv
    · cases hv
    · rename_i w r hw
      rcases List.mem_cons.mp hv with rfl | hv
      · have : v ∈ wants ps c.nm := by rw [hw]; exact List.mem_cons_self
        obtain ⟨p, hp, rfl⟩ := List.mem_map.mp this
        exact h p (List.mem_filter.mp hp).1
      · exact begs_short h v hv
theorem begs_len {ps : List Pk} : ∀ {cs : List Cl}, (begs ps cs).length ≤ cs.length
  | [] => Nat.le_refl _
  | c :: cs => by
    unfold begs
    split
    · exact Nat.zero_le _
    · simp [begs_len]
def begV (s : Sch) (c : Ch) : List Vl := .txt (tx "t") :: .txt c.1 :: begs c.2 ((s.lookup c.1).getD [])
theorem beginning_ok {s : Sch} {c : Ch} {cs : List Cl} (h : s.lookup c.1 = some cs) (hc : cs.length ≤ 50) {m : Nat} (hm : 2 ≤ m) : callN G m .beginning_of [chP c, schPV s] S = .ok (.tup ((begV s c).map Vl.pv)) S := by
  obtain ⟨n, rfl⟩ : ∃ n, m = n + 2 := ⟨m - 2, by omega⟩
  rw [callN_eq G (n + 1) _ _ _ (d := d_beginning_of) rfl, run_eq _ _ _ _ rfl]
  have e0 := columns_of_ok (n := n) (S := S) s c.1
  rw [h] at e0
  have key : ∀ (cs : List Cl) (us : List PV) (a5 a6 a7 : Option Cell) (e0 e1 e3 : Option Cell), us.length + cs.length ≤ 100 → ∃ b5 b6 b7, forL (.tp [.nm 5, .nm 6]) (fun ρ S => b_beginning_of_1.ev (callN G (n + 1)) ρ S) (cs.map Cl.pv) [e0, e1, some (.ol us), e3, some (.val (pkPV c.2)), a5, a6, a7] S =
      .nx [e0, e1, some (.ol (us ++ (begs c.2 cs).map Vl.pv)), e3, some (.val (pkPV c.2)), b5, b6, b7] S := by
    intro cs
    induction cs with
    | nil => intro us a5 a6 a7 e0 e1 e3 _; exact ⟨a5, a6, a7, by unfold begs; rw [List.map_nil, List.map_nil, List.append_nil]; rfl⟩
    | cons d cs ih =>
      intro us a5 a6 a7 e0 e1 e3 hz
      rw [List.length_cons] at hz
      have w := wanted_value_ok (S := S) c.2 d.nm (m := n + 1) (by omega)
      cases hw : wants c.2 d.nm with
      | nil =>
        rw [hw] at w
        refine ⟨some (.val (.str d.nm)), some (.val (.str (kdT d.tx))), some (.val (.lst [])), ?_⟩
        have eb : begs c.2 (d :: cs) = [] := by unfold begs; rw [hw]
        rw [eb, List.map_nil, List.append_nil, List.map_cons]
        unfold forL
        have st : b_beginning_of_1.ev (callN G (n + 1)) [e0, e1, some (.ol us), e3, some (.val (pkPV c.2)), some (.val (.str d.nm)), some (.val (.str (kdT d.tx))), a7] S = .bk [e0, e1, some (.ol us), e3, some (.val (pkPV c.2)), some (.val (.str d.nm)), some (.val (.str (kdT d.tx))), some (.val (.lst []))] S := by
          simp at w
          simp [b_beginning_of_1, w]
          rfl
        simp [Cl.pv, st]
      | cons v r =>
        rw [hw] at w
        obtain ⟨b5, b6, b7, k⟩ := ih (us ++ [v.pv]) (some (.val (.str d.nm))) (some (.val (.str (kdT d.tx)))) (some (.val (.lst [v.pv]))) e0 e1 e3 (by simp; omega)
        refine ⟨b5, b6, b7, ?_⟩
        have eb : begs c.2 (d :: cs) = v :: begs c.2 cs := by
          show (match wants c.2 d.nm with | [] => [] | w :: _ => w :: begs c.2 cs) = _
          rw [hw]
        rw [eb, List.map_cons, List.map_cons]
        unfold forL
        have hlen : us.length + 1 ≤ 65536 := by omega
        have st : b_beginning_of_1.ev (callN G (n + 1)) [e0, e1, some (.ol us), e3, some (.val (pkPV c.2)), some (.val (.str d.nm)), some (.val (.str (kdT d.tx))), a7] S = .nx [e0, e1, some (.ol (us ++ [v.pv])), e3, some (.val (pkPV c.2)), some (.val (.str d.nm)), some (.val (.str (kdT d.tx))), some (.val (.lst [v.pv]))] S := by
          simp at w
          have x1 : (Stm.ext 2 (.v 7)).ev (callN G (n + 1)) [e0, e1, some (.ol us), e3, some (.val (pkPV c.2)), some (.val (.str d.nm)), some (.val (.str (kdT d.tx))), some (.val (.lst [v.pv]))] S = .nx [e0, e1, some (.ol (us ++ [v.pv])), e3, some (.val (pkPV c.2)), some (.val (.str d.nm)), some (.val (.str (kdT d.tx))), some (.val (.lst [v.pv]))] S := by
            show (if us.length + 1 ≤ 65536 then _ else _) = _
            rw [if_pos hlen]; rfl
          simp [b_beginning_of_1, w, x1]
        simp only [Cl.pv, sv_btp, sv_bs1, sv_bs0, sv_bnm, List.set_cons_zero, List.set_cons_succ, Option.bind_some, st]
        rw [k, List.append_assoc]; rfl
  obtain ⟨b5, b6, b7, k⟩ := key cs [.str (tx "t"), .str c.1] none none none (some (.val (chP c))) (some (.val (schPV s))) (some (.val (.str c.1))) (by simp; omega)
  have eb : begV s c = .txt (tx "t") :: .txt c.1 :: begs c.2 cs := by unfold begV; rw [h]; rfl
  show (d_beginning_of.body.ev (callN G (n + 1)) [some (.val (chP c)), some (.val (schPV s)), none, none, none, none, none, none] S).fin = _
  unfold d_beginning_of
  have k' := k
  unfold pkPV at k'
  rw [stms_nx (ρ1 := [some (.val (chP c)), some (.val (schPV s)), none, some (.val (.str c.1)), some (.val (pkPV c.2)), none, none, none]) (S1 := S) (by simp [chP, pkPV])]
  rw [stms_nx (stm_mkl (ps := [.str (tx "t"), .str c.1]) (S1 := S) (by simp))]
  rw [stms_nx (ρ1 := [some (.val (chP c)), some (.val (schPV s)), some (.ol ([.str (tx "t"), .str c.1] ++ (begs c.2 cs).map Vl.pv)), some (.val (.str c.1)), some (.val (pkPV c.2)), b5, b6, b7]) (S1 := S) (by
    rw [stm_for (xs := cs.map Cl.pv) (S1 := S) (by simp [e0, colsPV])]
    exact k)]
  rw [stms_rt (stm_ret (p := .tup ((begV s c).map Vl.pv)) (S1 := S) (by simp [B1.ev, tupleV, eb, Vl.pv]))]
  rfl
end A3

-- PureM
set_option linter.all false
set_option maxRecDepth 100000
set_option maxHeartbeats 4000000
/-! PureM: the ranges of wishes and questions; each once. -/
namespace A3
variable {S : Store}
def rgsPV (rs : List Rg) : PV := .lst (rs.map Rg.pv)
theorem add_rgs (a b : List Rg) (h : a.length + b.length ≤ 10000) : BO.ev .add (rgsPV a) (rgsPV b) = some (rgsPV (a ++ b)) := by
  unfold rgsPV
  rw [addL (decide_eq_true (by rw [List.length_map, List.length_map]; omega)), List.map_append]
def Wi.rgs (t c : Tx) : Wi → List Rg
  | .word w => [rangeV [.txt (tx "w"), .txt t, .txt c, .txt w]]
  | .begins w => [rangeT [.txt (tx "w"), .txt t, .txt c] w]
  | .none a => rangeV [.txt (tx "t"), .txt t] :: a.rgs t c
  | .all a b => a.rgs t c ++ b.rgs t c
  | .any a b => a.rgs t c ++ b.rgs t c
theorem word_len {w : Tx} (h : wordOk w = true) : w.length ≤ 40 := by
  unfold wordOk at h
  simp only [Bool.and_eq_true, decide_eq_true_eq] at h
  exact h.1.2
theorem short4 {a b c d : Tx} (ha : a.length ≤ 40) (hb : b.length ≤ 40) (hc : c.length ≤ 40) (hd : d.length ≤ 40) : ∀ v ∈ [Vl.txt a, .txt b, .txt c, .txt d], v.short = true := by
  intro v hv
  simp only [List.mem_cons, List.not_mem_nil, or_false] at hv
  rcases hv with rfl | rfl | rfl | rfl <;> exact decide_eq_true (by assumption)
theorem wish_ranges_ok {t c : Tx} (ht : t.length ≤ 40) (hc : c.length ≤ 40) : ∀ (w : Wi), w.ok = true → (w.rgs t c).length ≤ 10000 → ∀ m, w.depth + 4 ≤ m → callN G m .wish_ranges [w.pv, .str t, .str c] S = .ok (rgsPV (w.rgs t c)) S := by
  intro w
  induction w with
  | word w =>
    intro h _ m hm
    obtain ⟨n, rfl⟩ : ∃ n, m = n + 1 := ⟨m - 1, by omega⟩
    rw [callN_eq G n _ _ _ (d := d_wish_ranges) rfl, run_eq _ _ _ _ rfl]
    have e := range_of_ok (S := S) (short4 (a := tx "w") (by decide) ht hc (word_len h)) (by simp) (m := n) (by unfold Wi.depth at hm; omega)
    simp only [List.map_cons, List.map_nil, Vl.pv] at e
    simp (decide := true) [d_wish_ranges, Wi.pv, eq_str, e, rgsPV, Wi.rgs]
  | begins w =>
    intro h _ m hm
    obtain ⟨n, rfl⟩ : ∃ n, m = n + 1 := ⟨m - 1, by omega⟩
    rw [callN_eq G n _ _ _ (d := d_wish_ranges) rfl, run_eq _ _ _ _ rfl]
    have e := range_of_text_ok (S := S) (vs := [Vl.txt (tx "w"), .txt t, .txt c]) (fun v hv => short4 (a := tx "w") (d := tx "w") (by decide) ht hc (by decide) v (by
      simp only [List.mem_cons, List.not_mem_nil, or_false] at hv ⊢
      rcases hv with rfl | rfl | rfl <;> simp)) (by simp) (word_len h) (m := n) (by unfold Wi.depth at hm; omega)
    simp only [List.map_cons, List.map_nil, Vl.pv] at e
    simp (decide := true) [d_wish_ranges, Wi.pv, eq_str, e, rgsPV, Wi.rgs]
  | none a ih =>
    intro h hl m hm
    unfold Wi.depth at hm
    unfold Wi.rgs at hl
    rw [List.length_cons] at hl
    obtain ⟨n, rfl⟩ : ∃ n, m = n + 1 := ⟨m - 1, by omega⟩
    rw [callN_eq G n _ _ _ (d := d_wish_ranges) rfl, run_eq _ _ _ _ rfl]
    have e := range_of_ok (S := S) (vs := [Vl.txt (tx "t"), .txt t]) (fun v hv => short4 (a := tx "t") (c := tx "w") (d := tx "w") (by decide) ht (by decide) (by decide) v (by
      simp only [List.mem_cons, List.not_mem_nil, or_false] at hv ⊢
      rcases hv with rfl | rfl <;> simp)) (by simp) (m := n) (by omega)
    simp only [List.map_cons, List.map_nil, Vl.pv] at e
    have e2 := ih h (by omega) n (by omega)
    have ad := add_rgs [rangeV [.txt (tx "t"), .txt t]] (a.rgs t c) (by simp; omega)
    unfold rgsPV at ad e2
    simp only [List.map_cons, List.map_nil] at ad
    simp (decide := true) [d_wish_ranges, Wi.pv, eq_str, e, rgsPV, Wi.rgs, e2, ad]
  | all a b iha ihb =>
    intro h hl m hm
    unfold Wi.depth at hm
    unfold Wi.rgs at hl
    rw [List.length_append] at hl
    unfold Wi.ok at h
    rw [Bool.and_eq_true] at h
    obtain ⟨n, rfl⟩ : ∃ n, m = n + 1 := ⟨m - 1, by omega⟩
    rw [callN_eq G n _ _ _ (d := d_wish_ranges) rfl, run_eq _ _ _ _ rfl]
    have ea := iha h.1 (by omega) n (by omega)
    have eb := ihb h.2 (by omega) n (by omega)
    have a1 := add_rgs [] (a.rgs t c) (by simp; omega)
    have a2 := add_rgs (a.rgs t c) (b.rgs t c) hl
    rw [show rgsPV [] = .lst [] from rfl, List.nil_append] at a1
    simp (decide := true) [d_wish_ranges, Wi.pv, eq_str, forL, b_wish_ranges_1, ea, eb, a1, a2, Wi.rgs]
  | any a b iha ihb =>
    intro h hl m hm
    unfold Wi.depth at hm
    unfold Wi.rgs at hl
    rw [List.length_append] at hl
    unfold Wi.ok at h
    rw [Bool.and_eq_true] at h
    obtain ⟨n, rfl⟩ : ∃ n, m = n + 1 := ⟨m - 1, by omega⟩
    rw [callN_eq G n _ _ _ (d := d_wish_ranges) rfl, run_eq _ _ _ _ rfl]
    have ea := iha h.1 (by omega) n (by omega)
    have eb := ihb h.2 (by omega) n (by omega)
    have a1 := add_rgs [] (a.rgs t c) (by simp; omega)
    have a2 := add_rgs (a.rgs t c) (b.rgs t c) hl
    rw [show rgsPV [] = .lst [] from rfl, List.nil_append] at a1
    simp (decide := true) [d_wish_ranges, Wi.pv, eq_str, forL, b_wish_ranges_1, ea, eb, a1, a2, Wi.rgs]
@[simp] theorem pts_alt3 (a b c u : Tx) (ps : List Pt) (vs : List PV) : ptsM (.alt [.str a, .str b, .str c] :: ps) (.str u :: vs) = if u = a ∨ u = b ∨ u = c then ptsM ps vs else some none := by
  have e : (Pt.alt [.str a, .str b, .str c]).m (.str u) = some (if u = a ∨ u = b ∨ u = c then some [] else none) := by
    show altM [.str a, .str b, .str c] (.str u) = _
    have k : ∀ (t : Tx) (r : List PV), altM (.str t :: r) (.str u) = if u = t then some (some []) else altM r (.str u) := fun t r => by
      show (match eqV' (.str u) (.str t) with
        | some true => some (some [])
        | some false => altM r (.str u)
        | none => none) = _
      rw [show eqV' (.str u) (.str t) = some (decide (u = t)) from eq_str u t]
      by_cases h : u = t <;> simp [h]
    rw [k, k, k]
    by_cases h1 : u = a
    · simp [h1]
    · by_cases h2 : u = b
      · subst h2; simp [h1]
      · by_cases h3 : u = c
        · subst h3; simp [h1, h2]
        · simp [h1, h2, h3, altM]
  show (match (Pt.alt [.str a, .str b, .str c]).m (.str u) with
    | some (some bs) => (match ptsM ps vs with
      | some (some cs) => some (some (bs ++ cs))
      | r => r)
    | r => r) = _
  rw [e]
  by_cases h : u = a ∨ u = b ∨ u = c
  · simp only [h, if_true]
    cases ptsM ps vs with
    | none => rfl
    | some r => cases r <;> rfl
  · simp [h]
/-! ### questions -/
def Qu.rgs (s : Sch) : Qu → List Rg
  | .table t => [rangeV (begV s (t, []))]
  | .found t c w => w.rgs t c
  | .pick q x o v => match (Qu.pick q x o v).chain with
    | some c => [rangeV (begV s c)]
    | none => q.rgs s
  | .same q _ _ => q.rgs s
  | .keep q _ => q.rgs s
  | .name q _ _ => q.rgs s
  | .join a b => a.rgs s ++ b.rgs s
  | .unite a b => a.rgs s ++ b.rgs s
  | .less a b => a.rgs s ++ b.rgs s
  | .count q _ => q.rgs s
  | .sum q _ _ => q.rgs s
/-- what the ranges lean on -/
def Qu.sound (s : Sch) : Qu → Prop
  | .table t => ∃ cs, s.lookup t = some cs ∧ cs.length ≤ 50 ∧ t.length ≤ 40
  | .found t c w => t.length ≤ 40 ∧ c.length ≤ 40 ∧ w.ok = true ∧ w.depth ≤ 6
  | .pick q _ _ v => q.sound s ∧ v.short = true
  | .same q _ _ => q.sound s
  | .keep q _ => q.sound s
  | .name q _ _ => q.sound s
  | .join a b => a.sound s ∧ b.sound s
  | .unite a b => a.sound s ∧ b.sound s
  | .less a b => a.sound s ∧ b.sound s
  | .count q _ => q.sound s
  | .sum q _ _ => q.sound s
theorem chain_sound {s : Sch} : ∀ {q : Qu} {c : Ch}, q.chain = some c → q.sound s → (∃ cs, s.lookup c.1 = some cs ∧ cs.length ≤ 50 ∧ c.1.length ≤ 40) ∧ ∀ p ∈ c.2, p.v.short = true
  | .table t, c, h, hs => by cases h; exact ⟨hs, fun _ h => nomatch h⟩
  | .pick q x o v, c, h, hs => by
    unfold Qu.chain at h
    obtain ⟨d, hd, rfl⟩ := Option.map_eq_some_iff.mp h
    obtain ⟨a, b⟩ := chain_sound hd hs.1
    refine ⟨a, fun p hp => ?_⟩
    rcases List.mem_append.mp hp with hp | hp
    · exact b p hp
    · rw [List.mem_singleton.mp hp]; exact hs.2
  | .found _ _ _, _, h, _ => by cases h
  | .same _ _ _, _, h, _ => by cases h
  | .keep _ _, _, h, _ => by cases h
  | .name _ _ _, _, h, _ => by cases h
  | .join _ _, _, h, _ => by cases h
  | .unite _ _, _, h, _ => by cases h
  | .less _ _, _, h, _ => by cases h
  | .count _ _, _, h, _ => by cases h
  | .sum _ _ _, _, h, _ => by cases h
theorem begV_short {s : Sch} {c : Ch} (h1 : c.1.length ≤ 40) (h2 : ∀ p ∈ c.2, p.v.short = true) : ∀ v ∈ begV s c, v.short = true := by
  intro v hv
  unfold begV at hv
  rcases List.mem_cons.mp hv with rfl | hv
  · rfl
  · rcases List.mem_cons.mp hv with rfl | hv
    · exact decide_eq_true h1
    · exact begs_short h2 v hv
theorem chain_range {s : Sch} {c : Ch} {cs : List Cl} (h : s.lookup c.1 = some cs) (hc : cs.length ≤ 50) (h1 : c.1.length ≤ 40) (h2 : ∀ p ∈ c.2, p.v.short = true) {m : Nat} (hm : 3 ≤ m) :
    ∃ p, callN G m .beginning_of [chP c, schPV s] S = .ok p S ∧ callN G m .range_of [p] S = .ok (rangeV (begV s c)).pv S := by
  refine ⟨_, beginning_ok h hc (by omega), range_of_ok (begV_short h1 h2) ?_ hm⟩
  unfold begV
  have := begs_len (ps := c.2) (cs := (s.lookup c.1).getD [])
  rw [h] at this ⊢
  simp only [List.length_cons, Option.getD_some] at this ⊢
  omega
theorem ranges_of_ok {s : Sch} : ∀ (q : Qu), q.sound s → q.depth ≤ 1000 → (q.rgs s).length ≤ 10000 → ∀ m, q.depth + 12 ≤ m → callN G m .ranges_of [q.pv, schPV s] S = .ok (rgsPV (q.rgs s)) S := by
  intro q
  induction q with
  | table t =>
    intro hs hd hl m hm
    obtain ⟨n, rfl⟩ : ∃ n, m = n + 1 := ⟨m - 1, by omega⟩
    rw [callN_eq G n _ _ _ (d := d_ranges_of) rfl, run_eq _ _ _ _ rfl]
    have ch := chain_of_ok (S := S) (.table t) hd n (by omega)
    obtain ⟨cs, h1, h2, h3⟩ := hs
    obtain ⟨p, e1, e2⟩ := chain_range (S := S) (c := (t, [])) h1 h2 h3 (fun _ h => nomatch h) (m := n) (by omega)
    simp [d_ranges_of, ch, Qu.chain, chPV, isnot_non, chP] at e1 ⊢
    simp [isnot_non, e1, e2, rgsPV, Qu.rgs]
  | pick q x o v ih =>
    intro hs hd hl m hm
    obtain ⟨n, rfl⟩ : ∃ n, m = n + 1 := ⟨m - 1, by omega⟩
    rw [callN_eq G n _ _ _ (d := d_ranges_of) rfl, run_eq _ _ _ _ rfl]
    have ch := chain_of_ok (S := S) (.pick q x o v) hd n (by omega)
    cases hc : (Qu.pick q x o v).chain with
    | none =>
      rw [hc] at ch
      have er : (Qu.pick q x o v).rgs s = q.rgs s := by
        show (match (Qu.pick q x o v).chain with | some c => [rangeV (begV s c)] | none => q.rgs s) = _
        rw [hc]
      rw [er] at hl ⊢
      unfold Qu.depth at hm hd
      have e := ih hs.1 (by omega) hl n (by omega)
      unfold Qu.pv at ch
      simp (decide := true) [d_ranges_of, ch, chPV, isnot_non, Qu.pv, idx_t1, e]
    | some c =>
      rw [hc] at ch
      have er : (Qu.pick q x o v).rgs s = [rangeV (begV s c)] := by
        show (match (Qu.pick q x o v).chain with | some c => [rangeV (begV s c)] | none => q.rgs s) = _
        rw [hc]
      rw [er]
      obtain ⟨⟨cs, h1, h2, h3⟩, h4⟩ := chain_sound hc hs
      obtain ⟨p, e1, e2⟩ := chain_range (S := S) h1 h2 h3 h4 (m := n) (by omega)
      simp [d_ranges_of, ch, chPV, isnot_non, chP] at e1 ⊢
      simp [isnot_non, e1, e2, rgsPV]
  | found t c w =>
    intro hs hd hl m hm
    obtain ⟨n, rfl⟩ : ∃ n, m = n + 1 := ⟨m - 1, by omega⟩
    rw [callN_eq G n _ _ _ (d := d_ranges_of) rfl, run_eq _ _ _ _ rfl]
    have ch := chain_of_ok (S := S) (.found t c w) hd n (by omega)
    obtain ⟨h1, h2, h3, h4⟩ := hs
    have e := wish_ranges_ok (S := S) h1 h2 w h3 hl n (by unfold Qu.depth at hm; omega)
    unfold Qu.chain Qu.pv at ch
    simp (decide := true) [d_ranges_of, ch, chPV, isnot_non, Qu.pv, bindAll, e, Qu.rgs]
  | join a b iha ihb =>
    intro hs hd hl m hm
    obtain ⟨n, rfl⟩ : ∃ n, m = n + 1 := ⟨m - 1, by omega⟩
    rw [callN_eq G n _ _ _ (d := d_ranges_of) rfl, run_eq _ _ _ _ rfl]
    have ch := chain_of_ok (S := S) (.join a b) hd n (by omega)
    unfold Qu.rgs at hl
    rw [List.length_append] at hl
    unfold Qu.depth at hm hd
    have ea := iha hs.1 (by omega) (by omega) n (by omega)
    have eb := ihb hs.2 (by omega) (by omega) n (by omega)
    have ad := add_rgs (a.rgs s) (b.rgs s) hl
    unfold Qu.chain Qu.pv at ch
    simp (decide := true) [d_ranges_of, ch, chPV, isnot_non, Qu.pv, bindAll, ea, eb, ad, Qu.rgs]
  | unite a b iha ihb =>
    intro hs hd hl m hm
    obtain ⟨n, rfl⟩ : ∃ n, m = n + 1 := ⟨m - 1, by omega⟩
    rw [callN_eq G n _ _ _ (d := d_ranges_of) rfl, run_eq _ _ _ _ rfl]
    have ch := chain_of_ok (S := S) (.unite a b) hd n (by omega)
    unfold Qu.rgs at hl
    rw [List.length_append] at hl
    unfold Qu.depth at hm hd
    have ea := iha hs.1 (by omega) (by omega) n (by omega)
    have eb := ihb hs.2 (by omega) (by omega) n (by omega)
    have ad := add_rgs (a.rgs s) (b.rgs s) hl
    unfold Qu.chain Qu.pv at ch
    simp (decide := true) [d_ranges_of, ch, chPV, isnot_non, Qu.pv, bindAll, ea, eb, ad, Qu.rgs]
  | less a b iha ihb =>
    intro hs hd hl m hm
    obtain ⟨n, rfl⟩ : ∃ n, m = n + 1 := ⟨m - 1, by omega⟩
    rw [callN_eq G n _ _ _ (d := d_ranges_of) rfl, run_eq _ _ _ _ rfl]
    have ch := chain_of_ok (S := S) (.less a b) hd n (by omega)
    unfold Qu.rgs at hl
    rw [List.length_append] at hl
    unfold Qu.depth at hm hd
    have ea := iha hs.1 (by omega) (by omega) n (by omega)
    have eb := ihb hs.2 (by omega) (by omega) n (by omega)
    have ad := add_rgs (a.rgs s) (b.rgs s) hl
    unfold Qu.chain Qu.pv at ch
    simp (decide := true) [d_ranges_of, ch, chPV, isnot_non, Qu.pv, bindAll, ea, eb, ad, Qu.rgs]
  | same q a b ih =>
    intro hs hd hl m hm
    obtain ⟨n, rfl⟩ : ∃ n, m = n + 1 := ⟨m - 1, by omega⟩
    rw [callN_eq G n _ _ _ (d := d_ranges_of) rfl, run_eq _ _ _ _ rfl]
    have ch := chain_of_ok (S := S) _ hd n (by omega)
    unfold Qu.rgs at hl
    unfold Qu.depth at hm hd
    have e := ih hs (by omega) hl n (by omega)
    unfold Qu.chain Qu.pv at ch
    simp (decide := true) [d_ranges_of, ch, chPV, isnot_non, Qu.pv, bindAll, idx_t1, e, Qu.rgs]
  | keep q ns ih =>
    intro hs hd hl m hm
    obtain ⟨n, rfl⟩ : ∃ n, m = n + 1 := ⟨m - 1, by omega⟩
    rw [callN_eq G n _ _ _ (d := d_ranges_of) rfl, run_eq _ _ _ _ rfl]
    have ch := chain_of_ok (S := S) _ hd n (by omega)
    unfold Qu.rgs at hl
    unfold Qu.depth at hm hd
    have e := ih hs (by omega) hl n (by omega)
    unfold Qu.chain Qu.pv at ch
    simp (decide := true) [d_ranges_of, ch, chPV, isnot_non, Qu.pv, bindAll, idx_t1, e, Qu.rgs]
  | name q a b ih =>
    intro hs hd hl m hm
    obtain ⟨n, rfl⟩ : ∃ n, m = n + 1 := ⟨m - 1, by omega⟩
    rw [callN_eq G n _ _ _ (d := d_ranges_of) rfl, run_eq _ _ _ _ rfl]
    have ch := chain_of_ok (S := S) _ hd n (by omega)
    unfold Qu.rgs at hl
    unfold Qu.depth at hm hd
    have e := ih hs (by omega) hl n (by omega)
    unfold Qu.chain Qu.pv at ch
    simp (decide := true) [d_ranges_of, ch, chPV, isnot_non, Qu.pv, bindAll, idx_t1, e, Qu.rgs]
  | count q ns ih =>
    intro hs hd hl m hm
    obtain ⟨n, rfl⟩ : ∃ n, m = n + 1 := ⟨m - 1, by omega⟩
    rw [callN_eq G n _ _ _ (d := d_ranges_of) rfl, run_eq _ _ _ _ rfl]
    have ch := chain_of_ok (S := S) _ hd n (by omega)
    unfold Qu.rgs at hl
    unfold Qu.depth at hm hd
    have e := ih hs (by omega) hl n (by omega)
    unfold Qu.chain Qu.pv at ch
    simp (decide := true) [d_ranges_of, ch, chPV, isnot_non, Qu.pv, bindAll, idx_t1, e, Qu.rgs]
  | sum q ns a ih =>
    intro hs hd hl m hm
    obtain ⟨n, rfl⟩ : ∃ n, m = n + 1 := ⟨m - 1, by omega⟩
    rw [callN_eq G n _ _ _ (d := d_ranges_of) rfl, run_eq _ _ _ _ rfl]
    have ch := chain_of_ok (S := S) _ hd n (by omega)
    unfold Qu.rgs at hl
    unfold Qu.depth at hm hd
    have e := ih hs (by omega) hl n (by omega)
    unfold Qu.chain Qu.pv at ch
    simp (decide := true) [d_ranges_of, ch, chPV, isnot_non, Qu.pv, bindAll, idx_t1, e, Qu.rgs]
end A3

-- PureK
set_option linter.all false
set_option maxRecDepth 100000
set_option maxHeartbeats 4000000
/-! PureK: each once; what needs(..) tells. -/
namespace A3
variable {S : Store}
def addR {α : Type} [DecidableEq α] (us : List α) (y : α) : List α := if y ∈ us then us else us ++ [y]
def onceR {α : Type} [DecidableEq α] (rs : List α) : List α := rs.foldl addR []
theorem eqvL_ints : ∀ (a b : List Int), PV.eqvL (a.map .int) (b.map .int) = decide (a = b)
  | [], [] => rfl
  | [], _ :: _ => rfl
  | _ :: _, [] => rfl
  | x :: a, y :: b => by
    show ((x == y) && PV.eqvL (a.map .int) (b.map .int)) = _
    rw [eqvL_ints a b]
    by_cases h : x = y
    · subst h; simp
    · simp [h]
theorem eqv_rg (a b : Rg) : PV.eqv a.pv b.pv = decide (a = b) := by
  show (PV.eqvL (a.1.map .int) (b.1.map .int) && (PV.eqvL (a.2.map .int) (b.2.map .int) && true)) = _
  rw [eqvL_ints, eqvL_ints, Bool.and_true, ← Bool.decide_and]
  congr 1
  rw [Prod.ext_iff]
theorem all_ints {P : PV → Bool} (h : ∀ i, P (.int i) = true) (is : List Int) : (is.map PV.int).all P = true := by
  rw [List.all_map, List.all_eq_true]
  exact fun i _ => h i
theorem rg_hk (r : Rg) : r.pv.keyb = true := by
  have k : ∀ is : List Int, (intsT is).hk 7 = true := fun is => by
    unfold intsT PV.hk
    exact all_ints (fun i => rfl) is
  show (PV.tup [intsT r.1, intsT r.2]).hk 8 = true
  unfold PV.hk
  rw [List.all_cons, List.all_cons, k, k]; rfl
theorem rg_dok (r : Rg) (d : Nat) : r.pv.dok (d + 2) = true := by
  have k : ∀ is : List Int, (intsT is).dok (d + 1) = true := fun is => by
    unfold intsT PV.dok
    exact all_ints (fun i => by cases d <;> rfl) is
  show (PV.tup [intsT r.1, intsT r.2]).dok (d + 2) = true
  unfold PV.dok
  rw [List.all_cons, List.all_cons, k, k]; rfl
theorem mem_rgs (x : Rg) : ∀ ys : List Rg, PV.mem x.pv (ys.map Rg.pv) = decide (x ∈ ys)
  | [] => rfl
  | y :: ys => by
    have ih := mem_rgs x ys
    unfold PV.mem at ih ⊢
    rw [List.map_cons, List.any_cons, ih, eqv_rg]
    by_cases h : y = x
    · subst h; simp
    · simp [h, Ne.symm h]
theorem notin_rgs (x : Rg) (ys : List Rg) : CO.ev .notin x.pv (rgsPV ys) = some (!decide (x ∈ ys)) := by
  have h : (ys.map Rg.pv).all (PV.dok 64) = true := by
    rw [List.all_map, List.all_eq_true]
    exact fun r _ => rg_dok r 62
  show (if x.pv.dok 64 && (ys.map Rg.pv).all (PV.dok 64) then some (PV.mem x.pv (ys.map Rg.pv)) else none).map (! ·) = _
  rw [rg_dok x 62, h, mem_rgs]; rfl
theorem addR_len {α : Type} [DecidableEq α] (us : List α) (y : α) : (addR us y).length ≤ us.length + 1 := by
  unfold addR
  split
  · omega
  · simp
theorem law_once_ok (rs : List Rg) (hl : rs.length ≤ 10000) {m : Nat} (hm : 1 ≤ m) : callN G m .law_once [rgsPV rs] S = .ok (rgsPV (onceR rs)) S := by
  obtain ⟨n, rfl⟩ : ∃ n, m = n + 1 := ⟨m - 1, by omega⟩
  rw [callN_eq G n _ _ _ (d := d_law_once) rfl, run_eq _ _ _ _ rfl]
  have key : ∀ (rs us : List Rg) (e0 a2 : Option Cell), us.length + rs.length ≤ 10000 → ∃ b2, forL (.nm 2) (fun ρ S => b_law_once_1.ev (callN G n) ρ S) (rs.map Rg.pv) [e0, some (.ol (us.map Rg.pv)), a2] S = .nx [e0, some (.ol ((rs.foldl addR us).map Rg.pv)), b2] S := by
    intro rs
    induction rs with
    | nil => intro us e0 a2 _; exact ⟨a2, rfl⟩
    | cons r rs ih =>
      intro us e0 a2 hz
      rw [List.length_cons] at hz
      have := addR_len us r
      obtain ⟨b2, k⟩ := ih (addR us r) e0 (some (.val r.pv)) (by omega)
      refine ⟨b2, ?_⟩
      rw [List.map_cons, List.foldl_cons]
      unfold forL
      have nt := notin_rgs r us
      unfold rgsPV at nt
      have st : b_law_once_1.ev (callN G n) [e0, some (.ol (us.map Rg.pv)), some (.val r.pv)] S = .nx [e0, some (.ol ((addR us r).map Rg.pv)), some (.val r.pv)] S := by
        by_cases h : r ∈ us
        · have ea : addR us r = us := if_pos h
          rw [ea]
          simp [b_law_once_1, nt, h]
        · have ea : addR us r = us ++ [r] := if_neg h
          rw [ea]
          have ap := stm_app (cf := callN G n) (i := 1) (e := .v 2) (p := r.pv) (ps := us.map Rg.pv) (ρ := [e0, some (.ol (us.map Rg.pv)), some (.val r.pv)]) (S := S) (S1 := S) rfl rfl (by simp; omega)
          simp [b_law_once_1, nt, h, ap]
      simp only [sv_bnm, List.set_cons_zero, List.set_cons_succ, st]
      exact k
  obtain ⟨b2, k⟩ := key rs [] (some (.val (rgsPV rs))) none (by simpa using hl)
  show (d_law_once.body.ev (callN G n) [some (.val (rgsPV rs)), none, none] S).fin = _
  unfold d_law_once
  rw [stms_nx (stm_mkl (ps := []) (S1 := S) rfl)]
  rw [stms_nx (ρ1 := [some (.val (rgsPV rs)), some (.ol ((onceR rs).map Rg.pv)), b2]) (S1 := S) (by
    rw [stm_for (xs := rs.map Rg.pv) (S1 := S) (by simp [rgsPV])]
    exact k)]
  rfl
theorem unlike_ok (rs : List Rg) (hl : rs.length ≤ 10000) {m : Nat} (hm : 1 ≤ m) : callN G m .unlike [rgsPV rs] S = .ok (rgsPV (onceR rs)) S := by
  obtain ⟨n, rfl⟩ : ∃ n, m = n + 1 := ⟨m - 1, by omega⟩
  rw [callN_eq G n _ _ _ (d := d_unlike) rfl, run_eq _ _ _ _ rfl]
  have set : ∀ (us : List Rg) (r : Rg), dSet r.pv (.bl true) (us.map fun u => (u.pv, PV.bl true)) = (addR us r).map fun u => (u.pv, PV.bl true) := by
    intro us r
    induction us with
    | nil => rfl
    | cons u us ih =>
      rw [List.map_cons]
      unfold dSet
      rw [eqv_rg]
      by_cases h : u = r
      · subst h
        rw [if_pos (decide_eq_true rfl)]
        unfold addR
        rw [if_pos List.mem_cons_self]; rfl
      · rw [if_neg (by simpa using h), ih]
        unfold addR
        by_cases h2 : r ∈ us
        · rw [if_pos h2, if_pos (List.mem_cons_of_mem _ h2)]; rfl
        · rw [if_neg h2, if_neg (fun z => by
            rcases List.mem_cons.mp z with z | z
            · exact h z.symm
            · exact h2 z)]; rfl
  have mk : ∀ (rs us : List Rg), us.length + rs.length ≤ 10000 → dMk (rs.map fun r => PV.tup [r.pv, .bl true]) (us.map fun u => (u.pv, PV.bl true)) = some ((rs.foldl addR us).map fun u => (u.pv, PV.bl true)) := by
    intro rs
    induction rs with
    | nil => intro us _; rfl
    | cons r rs ih =>
      intro us hz
      rw [List.length_cons] at hz
      have := addR_len us r
      rw [List.map_cons, List.foldl_cons]
      unfold dMk
      have e1 : (r.pv.keyb && decide ((us.map fun u => (u.pv, PV.bl true)).length < 65536)) = true := by
        rw [rg_hk, decide_eq_true (by rw [List.length_map]; omega)]; rfl
      rw [if_pos e1, set, ih _ (by omega)]
  have k1 : ∀ ρ : Env, ρ.length = 2 → compL (dcG (callN G n) [1] (.nm 1) .none (.v 1) (.c (.bl true)) ρ) (rs.map Rg.pv) S = .ok (rs.map fun r => PV.tup [r.pv, .bl true]) S := fun ρ hρ => compL_map1 Rg.pv _ rs fun r _ => by
    have g : (ρ.set 1 (some (.val r.pv)))[1]? = some (some (.val r.pv)) := List.getElem?_set_self (by omega)
    simp [dcG, g]
  have k2 := mk rs [] (by simpa using hl)
  simp only [List.map_nil] at k2
  show (d_unlike.body.ev (callN G n) [some (.val (rgsPV rs)), none] S).fin = _
  unfold d_unlike
  rw [stms_rt (stm_ret (p := rgsPV (onceR rs)) (S1 := S) (by
    rw [sv_b1, sv_dcG]
    simp only [sv_iof, sv_v, List.getElem?_cons_zero, R.bind_ok', rgsPV, sv_itl, R.of_some]
    have k1' := k1 [some (.val (rgsPV rs)), none] rfl
    unfold rgsPV at k1'
    rw [k1']
    simp only [R.bind_ok', k2, Option.map_some, R.of_some]
    simp [B1.ev, listV, onceR, Function.comp_def]))]
  rfl
theorem needs_ok {s : Sch} {q : Qu} (h : q.ok s) (hf : q.fin s) (hs : q.sound s) (hd : q.depth ≤ 12) (hl : (q.rgs s).length ≤ 10000) {m : Nat} (hm : q.depth + 16 ≤ m) : callN G m .needs [q.pv, schPV s] S = .ok (rgsPV (onceR (q.rgs s))) S := by
  obtain ⟨n, rfl⟩ : ∃ n, m = n + 1 := ⟨m - 1, by omega⟩
  rw [callN_eq G n _ _ _ (d := d_needs) rfl, run_eq _ _ _ _ rfl]
  have e1 := columns_ok (S := S) h hf hd (m := n) (by omega)
  have e2 := ranges_of_ok (S := S) q hs (by omega) hl n (by omega)
  have e3 := unlike_ok (S := S) (q.rgs s) hl (m := n) (by omega)
  simp [d_needs, e1, e2, e3]
end A3

-- P54
set_option linter.all false
set_option maxRecDepth 100000
set_option maxHeartbeats 4000000
/-! P54: the law on what is needed by the letter. -/
namespace A3
variable {S : Store}
theorem draw_at {ds : List Int} {i : Nat} (h : i < ds.length) : ∃ x : Int, ∀ z : Int, z = (i : Int) → idxEv (.lst (ds.map .int)) (.int z) = some (.int x) :=
  ⟨ds[i], fun z hz => by rw [hz]; exact idx_lst (by rw [List.getElem?_map, List.getElem?_eq_getElem h]; rfl)⟩
theorem chain_step {n : Nat} (hn : 1 ≤ n) {cs : List Cl} (hne : cs ≠ []) {ds : List Int} (hd : ds.length = 14) {k : Nat} (hk : k < 4) (t : Tx) (q : Qu) (ps : List Pk) (hz : ps.length ≤ 100) (e0 e1 a7 a8 a9 a10 a11 a12 : Option Cell) :
    ∃ c o v, c ∈ cs ∧ v.good = true ∧ v.isT = c.tx ∧
      b_law_chain_1.ev (callN G n) [e0, e1, some (.val (.lst (ds.map .int))), some (.val (tabPV (t, cs))), some (.val q.pv), some (.ol (ps.map Pk.pv)), some (.val (.int k)), a7, a8, a9, a10, a11, a12] S =
      .nx [e0, e1, some (.val (.lst (ds.map .int))), some (.val (tabPV (t, cs))), some (.val (Qu.pick q c.nm o v).pv), some (.ol ((ps ++ [(⟨c.nm, o, v⟩ : Pk)]).map Pk.pv)), some (.val (.int k)), a7, some (.val c.pv), some (.val (.str o.t)), some (.val v.pv), a11, a12] S := by
  obtain ⟨x1, i1⟩ := draw_at (ds := ds) (i := 1) (by omega)
  obtain ⟨x2, i2⟩ := draw_at (ds := ds) (i := 2 + 3 * k) (by omega)
  obtain ⟨x3, i3⟩ := draw_at (ds := ds) (i := 3 + 3 * k) (by omega)
  obtain ⟨x4, i4⟩ := draw_at (ds := ds) (i := 4 + 3 * k % 9) (by omega)
  have m3 : BO.ev .mul (.int 3) (.int (k : Int)) = some (.int (3 * k)) := mul_intL rfl
  have hne2 : cs.map Cl.pv ≠ [] := fun e => hne (List.map_eq_nil_iff.mp e)
  have hl : 0 < cs.length := List.length_pos_iff.mpr hne
  obtain ⟨y0, hy0, f0⟩ := idx_modT hne2 x2
  obtain ⟨c0, hc0, rfl⟩ := List.mem_map.mp hy0
  rw [List.length_map] at f0
  have f0 : idxEv (colsPV cs) (.int (x2 % (cs.length : Int))) = some c0.pv := f0
  have ll : B1.ev .len (colsPV cs) = some (.int cs.length) := by show some (PV.int (cs.map Cl.pv).length) = _; simp
  have i1' := i1 1 rfl
  have i2' := i2 (2 + 3 * (k : Int)) (by omega)
  have i3' := i3 (3 + 3 * (k : Int)) (by omega)
  have i4' := i4 (4 + 3 * (k : Int) % 9) (by omega)
  -- the column
  have col : ∃ c, c ∈ cs ∧ ∀ a9 a10 : Option Cell, (Stm.ife (.and (.cmp .lt (.peek 6) (.c (.int 2))) (.cmp .eq (.bin .mod (.bin .fdiv (.b1 .int (.idx (.peek 2) (.c (.int 1)))) (.c (.int 5))) (.c (.int 2))) (.c (.int 0)))) (.cons (.asg (.nm 8) (.idx (.idx (.peek 3) (.c (.int 1))) (.min2 (.v 6) (.bin .sub (.b1 .len (.idx (.peek 3) (.c (.int 1)))) (.c (.int 1)))))) .nil) .nil).ev (callN G n)
      [e0, e1, some (.val (.lst (ds.map .int))), some (.val (tabPV (t, cs))), some (.val q.pv), some (.ol (ps.map Pk.pv)), some (.val (.int k)), a7, some (.val c0.pv), a9, a10, a11, a12] S =
      .nx [e0, e1, some (.val (.lst (ds.map .int))), some (.val (tabPV (t, cs))), some (.val q.pv), some (.ol (ps.map Pk.pv)), some (.val (.int k)), a7, some (.val c.pv), a9, a10, a11, a12] S := by
    have lt : CO.ev .lt (.int (k : Int)) (.int 2) = some (decide ((k : Int) < 2)) := rfl
    by_cases h1 : (k : Int) < 2
    · by_cases h2 : x1 / 5 % 2 = 0
      · obtain ⟨j, hj, hj2⟩ : ∃ j : Nat, (if (cs.length : Int) - 1 < (k : Int) then (cs.length : Int) - 1 else (k : Int)) = (j : Int) ∧ j < cs.length := by
          by_cases h3 : (cs.length : Int) - 1 < (k : Int)
          · exact ⟨cs.length - 1, by rw [if_pos h3]; omega, by omega⟩
          · exact ⟨k, by rw [if_neg h3], by omega⟩
        refine ⟨cs[j], List.getElem_mem hj2, fun a9 a10 => ?_⟩
        have ci := cols_idx (List.getElem?_eq_getElem hj2)
        simp [lt, h1, i1', int_int, fdiv_int, mod_int, eq_int, h2, tabPV, idx_t1, ll, sub_int, hj, ci]
      · refine ⟨c0, hc0, fun a9 a10 => ?_⟩
        simp [lt, h1, i1', int_int, fdiv_int, mod_int, eq_int, h2]
    · refine ⟨c0, hc0, fun a9 a10 => ?_⟩
      simp [lt, h1]
  obtain ⟨c, hc, ce⟩ := col
  obtain ⟨o, ho⟩ : ∃ o : Cp, idxEv (.lst [.str (tx "="), .str (tx "="), .str (tx "="), .str (tx "<"), .str (tx ">"), .str (tx "<>")]) (.int (x3 % 6)) = some (.str o.t) := by
    obtain ⟨x, hx, e⟩ := idx_mod (xs := [.str (tx "="), .str (tx "="), .str (tx "="), .str (tx "<"), .str (tx ">"), .str (tx "<>")]) (by simp) x3
    have e5 : ((6 : Nat) : Int) = 6 := rfl
    simp only [List.length_cons, List.length_nil, Nat.reduceAdd, e5] at e
    rw [e]
    simp only [List.mem_cons, List.not_mem_nil, or_false] at hx
    rcases hx with rfl | rfl | rfl | rfl | rfl | rfl
    · exact ⟨.eq, rfl⟩
    · exact ⟨.eq, rfl⟩
    · exact ⟨.eq, rfl⟩
    · exact ⟨.lt, rfl⟩
    · exact ⟨.gt, rfl⟩
    · exact ⟨.ne, rfl⟩
  obtain ⟨v, v1, v2, v3⟩ := law_value_ok (S := S) c.tx x4 (m := n) hn
  refine ⟨c, o, v, hc, v1, v2, ?_⟩
  unfold b_law_chain_1
  rw [stms_nx (stm_asg (p := c0.pv) (S1 := S) (by simp [tabPV, idx_t1, ll, m3, add_int, i2', int_int, mod_len hl, f0]) rfl)]
  refine (stms_nx (ce a9 a10)).trans ?_
  rw [stms_nx (stm_asg (p := .str o.t) (S1 := S) (by simp [m3, add_int, i3', int_int, mod_int, ho]) rfl)]
  rw [stms_nx (stm_asg (p := v.pv) (S1 := S) (by simp [cl_kind, m3, add_int, mod_int, i4', v3]) rfl)]
  rw [stms_nx (stm_asg (p := (Qu.pick q c.nm o v).pv) (S1 := S) (by simp [cl_name, Qu.pv]) rfl)]
  refine (stms_nx (stm_app (p := Pk.pv ⟨c.nm, o, v⟩) (ps := ps.map Pk.pv) (S1 := S) (by simp [cl_name, Pk.pv]) rfl (by simp; omega))).trans ?_
  simp
/-- a chain that is drawn -/
structure ChainOk (s : Sch) (t : Tx) (cs : List Cl) (q : Qu) (ps : List Pk) : Prop where
  inv : Inv s q
  sound : q.sound s
  chain : q.chain = some (t, ps)
  cols : q.cols s = cs
  depth : q.depth = ps.length + 1
theorem ChainOk.pick {s : Sch} {t : Tx} {cs : List Cl} {q : Qu} {ps : List Pk} (h : ChainOk s t cs q ps) {c : Cl} {o : Cp} {v : Vl} (hc : c ∈ cs) (hv : v.good = true) (hk : v.isT = c.tx) : ChainOk s t cs (.pick q c.nm o v) (ps ++ [⟨c.nm, o, v⟩]) := by
  have cf := Qu.fin_cls h.inv.fin
  refine ⟨⟨⟨h.inv.ok, c, ?_, hv, hk⟩, ⟨cf, h.inv.fin⟩, h.inv.ne, h.inv.pool⟩, ⟨h.sound, good_short hv⟩, ?_, h.cols, ?_⟩
  · rw [h.cols]
    have := cf.1
    rw [h.cols] at this
    exact colOf_of this hc
  · unfold Qu.chain; rw [h.chain]; rfl
  · unfold Qu.depth; rw [h.depth]; simp
theorem chain_loop {s : Sch} {t : Tx} {cs : List Cl} (hne : cs ≠ []) {n : Nat} (hn : 1 ≤ n) {ds : List Int} (hd : ds.length = 14) (e0 e1 a7 a11 a12 : Option Cell) : ∀ (ks : List Nat) (q : Qu) (ps : List Pk) (a6 a8 a9 a10 : Option Cell), (∀ k ∈ ks, k < 4) → ChainOk s t cs q ps → ps.length + ks.length ≤ 10 →
    ∃ q' ps' b6 b8 b9 b10, ChainOk s t cs q' ps' ∧ ps'.length = ps.length + ks.length ∧ forL (.nm 6) (fun ρ S => b_law_chain_1.ev (callN G n) ρ S) (ks.map fun (k : Nat) => PV.int k) [e0, e1, some (.val (.lst (ds.map .int))), some (.val (tabPV (t, cs))), some (.val q.pv), some (.ol (ps.map Pk.pv)), a6, a7, a8, a9, a10, a11, a12] S =
      .nx [e0, e1, some (.val (.lst (ds.map .int))), some (.val (tabPV (t, cs))), some (.val q'.pv), some (.ol (ps'.map Pk.pv)), b6, a7, b8, b9, b10, a11, a12] S
  | [], q, ps, a6, a8, a9, a10, _, h, _ => ⟨q, ps, a6, a8, a9, a10, h, rfl, rfl⟩
  | k :: ks, q, ps, a6, a8, a9, a10, hk, h, hz => by
    rw [List.length_cons] at hz
    obtain ⟨c, o, v, hc, hv, hkd, st⟩ := chain_step (S := S) hn hne hd (hk k List.mem_cons_self) t q ps (by omega) e0 e1 a7 a8 a9 a10 a11 a12
    obtain ⟨q', ps', b6, b8, b9, b10, h1, h2, h3⟩ := chain_loop hne hn hd e0 e1 a7 a11 a12 ks (.pick q c.nm o v) (ps ++ [⟨c.nm, o, v⟩]) (some (.val (.int k))) (some (.val c.pv)) (some (.val (.str o.t))) (some (.val v.pv)) (fun j hj => hk j (List.mem_cons_of_mem _ hj)) (h.pick hc hv hkd) (by simp; omega)
    refine ⟨q', ps', b6, b8, b9, b10, h1, by rw [h2]; simp; omega, ?_⟩
    rw [List.map_cons]
    unfold forL
    simp only [sv_bnm, List.set_cons_zero, List.set_cons_succ, st]
    exact h3
theorem values_loop {n : Nat} (ps : List Pk) (e0 e1 e2 e3 e4 e6 e9 e10 : Option Cell) : ∀ (cs : List Cl) (us : List Vl) (a5 : Option Cell) (a8 a11 a12 : Option Cell), (a5 = some (.ol (ps.map Pk.pv)) ∨ a5 = some (.val (pkPV ps))) → us.length + cs.length ≤ 100 →
    ∃ b5 b8 b11 b12, forL (.nm 8) (fun ρ S => b_law_chain_2.ev (callN G n) ρ S) (cs.map Cl.pv) [e0, e1, e2, e3, e4, a5, e6, some (.val (.tup (us.map Vl.pv))), a8, e9, e10, a11, a12] S =
      .nx [e0, e1, e2, e3, e4, b5, e6, some (.val (.tup ((us ++ begs ps cs).map Vl.pv))), b8, e9, e10, b11, b12] S
  | [], us, a5, a8, a11, a12, _, _ => ⟨a5, a8, a11, a12, by unfold begs; rw [List.append_nil]; rfl⟩
  | c :: cs, us, a5, a8, a11, a12, h5, hz => by
    rw [List.length_cons] at hz
    have cmp : ∀ ρ : Env, ρ = [e0, e1, e2, e3, e4, some (.val (pkPV ps)), e6, some (.val (.tup (us.map Vl.pv))), some (.val c.pv), e9, e10, a11, a12] → (E.comp [12] (.nm 12) (.of (.v 5)) (.some (.and (.cmp .eq (.idx (.peek 12) (.c (.int 0))) (.idx (.peek 8) (.c (.int 0)))) (.cmp .eq (.idx (.peek 12) (.c (.int 1))) (.c (.str (tx "=")))))) (.idx (.peek 12) (.c (.int 2)))).ev (callN G n) ρ S = .ok (.lst ((wants ps c.nm).map Vl.pv)) S := by
      rintro ρ rfl
      have k : compL (compG (callN G n) [12] (.nm 12) (.some (.and (.cmp .eq (.idx (.peek 12) (.c (.int 0))) (.idx (.peek 8) (.c (.int 0)))) (.cmp .eq (.idx (.peek 12) (.c (.int 1))) (.c (.str (tx "=")))))) (.idx (.peek 12) (.c (.int 2))) [e0, e1, e2, e3, e4, some (.val (pkPV ps)), e6, some (.val (.tup (us.map Vl.pv))), some (.val c.pv), e9, e10, a11, a12]) (ps.map Pk.pv) S = .ok (((ps.filter fun p => decide (p.c = c.nm) && decide (p.o.t = tx "=")).map fun p => p.v.pv)) S :=
        compL_if Pk.pv (fun p => p.v.pv) (fun p => decide (p.c = c.nm) && decide (p.o.t = tx "=")) ps fun p hp => by
          by_cases h1 : p.c = c.nm
          · by_cases h2 : p.o.t = tx "="
            · simp [compG, Pk.pv, cl_name, idx_t0, idx_t1, idx_t2, eq_str, h1, h2]
            · simp [compG, Pk.pv, cl_name, idx_t0, idx_t1, idx_t2, eq_str, h1, h2]
          · simp [compG, Pk.pv, cl_name, idx_t0, idx_t1, idx_t2, eq_str, h1]
      rw [sv_compG]
      simp only [sv_iof, sv_v, List.getElem?_cons_succ, List.getElem?_cons_zero, R.bind_ok', pkPV, sv_itl, R.of_some]
      have k' := k
      unfold pkPV at k'
      rw [k']
      simp [wants, Function.comp_def]
    have fz : (Stm.frz [5]).ev (callN G n) [e0, e1, e2, e3, e4, a5, e6, some (.val (.tup (us.map Vl.pv))), some (.val c.pv), e9, e10, a11, a12] S = .nx [e0, e1, e2, e3, e4, some (.val (pkPV ps)), e6, some (.val (.tup (us.map Vl.pv))), some (.val c.pv), e9, e10, a11, a12] S := by
      rcases h5 with rfl | rfl <;> rfl
    rw [List.map_cons]
    unfold forL
    cases hw : wants ps c.nm with
    | nil =>
      rw [hw] at cmp
      have eb : begs ps (c :: cs) = [] := by unfold begs; rw [hw]
      refine ⟨some (.val (pkPV ps)), some (.val c.pv), some (.val (.lst [])), a12, ?_⟩
      have st : b_law_chain_2.ev (callN G n) [e0, e1, e2, e3, e4, a5, e6, some (.val (.tup (us.map Vl.pv))), some (.val c.pv), e9, e10, a11, a12] S = .bk [e0, e1, e2, e3, e4, some (.val (pkPV ps)), e6, some (.val (.tup (us.map Vl.pv))), some (.val c.pv), e9, e10, some (.val (.lst [])), a12] S := by
        unfold b_law_chain_2
        rw [stms_nx fz, stms_nx (stm_asg (cmp _ rfl) rfl)]
        simp
        rfl
      simp only [sv_bnm, List.set_cons_zero, List.set_cons_succ, st, eb, List.append_nil]
    | cons v r =>
      rw [hw] at cmp
      have eb : begs ps (c :: cs) = v :: begs ps cs := by
        show (match wants ps c.nm with | [] => [] | w :: _ => w :: begs ps cs) = _
        rw [hw]
      obtain ⟨b5, b8, b11, b12, k⟩ := values_loop ps e0 e1 e2 e3 e4 e6 e9 e10 cs (us ++ [v]) (some (.val (pkPV ps))) (some (.val c.pv)) (some (.val (.lst ((v :: r).map Vl.pv)))) a12 (.inr rfl) (by simp; omega)
      refine ⟨b5, b8, b11, b12, ?_⟩
      have ad := add_tup (us.map Vl.pv) [v.pv] (by simp; omega)
      have st : b_law_chain_2.ev (callN G n) [e0, e1, e2, e3, e4, a5, e6, some (.val (.tup (us.map Vl.pv))), some (.val c.pv), e9, e10, a11, a12] S = .nx [e0, e1, e2, e3, e4, some (.val (pkPV ps)), e6, some (.val (.tup ((us ++ [v]).map Vl.pv))), some (.val c.pv), e9, e10, some (.val (.lst ((v :: r).map Vl.pv))), a12] S := by
        unfold b_law_chain_2
        rw [stms_nx fz, stms_nx (stm_asg (cmp _ rfl) rfl)]
        simp [idx_l0, ad]
      simp only [sv_bnm, List.set_cons_zero, List.set_cons_succ, st]
      rw [k, eb, List.append_assoc]; rfl
theorem law_chain_ok {s : Sch} (so : SchOk s) (hs : ∀ y ∈ s, y.1.length ≤ 40) (d : Int) {m : Nat} (hm : 5 ≤ m) : ∃ t cs q ps, s.lookup t = some cs ∧ ChainOk s t cs q ps ∧ ps.length ≤ 4 ∧ callN G m .law_chain [schPV s, .int d] S = .ok (.lst [q.pv, (rangeV (begV s (t, ps))).pv]) S := by
  obtain ⟨n, rfl⟩ : ∃ n, m = n + 2 := ⟨m - 2, by omega⟩
  rw [callN_eq G (n + 1) _ _ _ (d := d_law_chain) rfl, run_eq _ _ _ _ rfl]
  obtain ⟨ds, hd, _, e1⟩ := law_draws_ok (n := n) (S := S) d 14 (by omega)
  replace e1 : callN G (n + 1) .law_draws [.int d, .int 14] S = .ok (.lst (ds.map .int)) S := e1
  obtain ⟨x0, i0⟩ := draw_at (ds := ds) (i := 0) (by omega)
  obtain ⟨x1, i1⟩ := draw_at (ds := ds) (i := 1) (by omega)
  have hne : s.map tabPV ≠ [] := fun e => so.ne (List.map_eq_nil_iff.mp e)
  obtain ⟨x, hx, e⟩ := idx_modT hne x0
  obtain ⟨⟨t, cs⟩, hy, rfl⟩ := List.mem_map.mp hx
  have hlk := so.mem _ hy
  replace hlk : s.lookup t = some cs := hlk
  obtain ⟨g1, g2, g3⟩ := so.cols t cs hlk
  have hl : 0 < s.length := List.length_pos_iff.mpr so.ne
  have ec : (Qu.table t).cols s = cs := by unfold Qu.cols; rw [hlk]; rfl
  have cf := cls_of g2 g3
  have ht : t.length ≤ 40 := hs _ hy
  have base : ChainOk s t cs (.table t) [] := ⟨⟨⟨cs, hlk⟩, by show ClsOk ((Qu.table t).cols s); rw [ec]; exact cf, by rw [ec]; exact g1, by rw [ec]; exact g3⟩, ⟨cs, hlk, by have := cf.2; omega, ht⟩, rfl, ec, rfl⟩
  obtain ⟨j, hj, hj4⟩ : ∃ j : Nat, x1 % 5 = (j : Int) ∧ j ≤ 4 := ⟨(x1 % 5).toNat, by omega, by omega⟩
  have hr : rngOk (j : Int) = true := rngOk_len (by omega)
  obtain ⟨q, ps, b6, b8, b9, b10, h1, h2, h3⟩ := chain_loop (S := S) (s := s) (t := t) g1 (n := n + 1) (by omega) hd (some (.val (schPV s))) (some (.val (.int d))) none none none (List.range j) (.table t) [] none none none none (fun k hk => by have := List.mem_range.mp hk; omega) base (by simp; omega)
  rw [List.length_range] at h2
  obtain ⟨c5, c8, c11, c12, k⟩ := values_loop (S := S) (n := n + 1) ps (some (.val (schPV s))) (some (.val (.int d))) (some (.val (.lst (ds.map .int)))) (some (.val (tabPV (t, cs)))) (some (.val q.pv)) b6 b9 b10 cs [.txt (tx "t"), .txt t] (some (.ol (ps.map Pk.pv))) b8 none none (.inl rfl) (by simp; have := cf.2; omega)
  refine ⟨t, cs, q, ps, hlk, h1, by simp at h2; omega, ?_⟩
  have eb : begV s (t, ps) = [.txt (tx "t"), .txt t] ++ begs ps cs := by unfold begV; rw [hlk]; rfl
  have sh := chain_sound h1.chain h1.sound
  have ro := range_of_ok (S := S) (begV_short (s := s) (c := (t, ps)) ht sh.2) (by
    rw [eb, List.length_append]
    have := begs_len (ps := ps) (cs := cs)
    have := cf.2
    simp; omega) (m := n + 1) (by omega)
  rw [eb] at ro
  rw [List.length_map] at e
  show (d_law_chain.body.ev (callN G (n + 1)) [some (.val (schPV s)), some (.val (.int d)), none, none, none, none, none, none, none, none, none, none, none] S).fin = _
  unfold d_law_chain
  rw [stms_nx (stm_asg (p := .lst (ds.map .int)) (S1 := S) (by simp [e1]) rfl)]
  have i0' := i0 0 rfl
  have i1' := i1 1 rfl
  have ll : B1.ev .len (schPV s) = some (.int s.length) := by show some (PV.int (s.map tabPV).length) = _; simp
  have e' : idxEv (schPV s) (.int (x0 % (s.length : Int))) = some (tabPV (t, cs)) := e
  rw [stms_nx (stm_asg (p := tabPV (t, cs)) (S1 := S) (by simp [i0', int_int, ll, mod_len hl, e']) rfl)]
  rw [stms_nx (stm_asg (p := (Qu.table t).pv) (S1 := S) (by simp [tabPV, idx_t0, Qu.pv]) rfl)]
  rw [stms_nx (stm_mkl (ps := []) (S1 := S) rfl)]
  rw [stms_nx (ρ1 := [some (.val (schPV s)), some (.val (.int d)), some (.val (.lst (ds.map .int))), some (.val (tabPV (t, cs))), some (.val q.pv), some (.ol (ps.map Pk.pv)), b6, none, b8, b9, b10, none, none]) (S1 := S) (by
    rw [stm_for (xs := upto 0 j) (S1 := S) (by simp [i1', int_int, mod_int, hj, hr])]
    rw [upto0]
    exact h3)]
  rw [stms_nx (stm_asg (p := .tup ([Vl.txt (tx "t"), .txt t].map Vl.pv)) (S1 := S) (by simp [tabPV, idx_t0, Vl.pv]) rfl)]
  rw [stms_nx (ρ1 := [some (.val (schPV s)), some (.val (.int d)), some (.val (.lst (ds.map .int))), some (.val (tabPV (t, cs))), some (.val q.pv), c5, b6, some (.val (.tup (([Vl.txt (tx "t"), .txt t] ++ begs ps cs).map Vl.pv))), c8, b9, b10, c11, c12]) (S1 := S) (by
    rw [stm_for (xs := cs.map Cl.pv) (S1 := S) (by simp [tabPV, idx_t1, colsPV])]
    exact k)]
  rw [eb]
  rw [stms_rt (stm_ret (p := .lst [q.pv, (rangeV ([Vl.txt (tx "t"), .txt t] ++ begs ps cs)).pv]) (S1 := S) (by
    simp only [sv_lst, sv_econs, sv_enil, sv_v, sv_call, List.getElem?_cons_succ, List.getElem?_cons_zero, R.bind_ok', ro]))]
  rfl
/-! ### small ranges -/
def Rg.sm (r : Rg) : Prop := r.1.length ≤ 9000 ∧ r.2.length ≤ 9000
theorem rangeV_sm {vs : List Vl} (h : ∀ v ∈ vs, v.short = true) (hl : vs.length ≤ 100) : (rangeV vs).sm := by
  have := octs_len h
  unfold rangeV Rg.sm
  simp
  omega
theorem rangeT_sm {vs : List Vl} {t : Tx} (h : ∀ v ∈ vs, v.short = true) (hl : vs.length ≤ 100) (ht : t.length ≤ 40) : (rangeT vs t).sm := by
  have := octs_len h
  unfold rangeT Rg.sm startT
  simp
  omega
theorem wi_sm {t c : Tx} (ht : t.length ≤ 40) (hc : c.length ≤ 40) : ∀ {w : Wi}, w.ok = true → ∀ r ∈ w.rgs t c, r.sm
  | .word w, h, r, hr => by
    rw [List.mem_singleton.mp hr]
    exact rangeV_sm (short4 (a := tx "w") (by decide) ht hc (word_len h)) (by simp)
  | .begins w, h, r, hr => by
    rw [List.mem_singleton.mp hr]
    exact rangeT_sm (fun v hv => short4 (a := tx "w") (d := tx "w") (by decide) ht hc (by decide) v (by
      simp only [List.mem_cons, List.not_mem_nil, or_false] at hv ⊢
      rcases hv with rfl | rfl | rfl <;> simp)) (by simp) (word_len h)
  | .none a, h, r, hr => by
    rcases List.mem_cons.mp hr with rfl | hr
    · exact rangeV_sm (fun v hv => short4 (a := tx "t") (c := tx "w") (d := tx "w") (by decide) ht (by decide) (by decide) v (by
        simp only [List.mem_cons, List.not_mem_nil, or_false] at hv ⊢
        rcases hv with rfl | rfl <;> simp)) (by simp)
    · exact wi_sm ht hc (w := a) h r hr
  | .all a b, h, r, hr => by
    unfold Wi.ok at h
    rw [Bool.and_eq_true] at h
    rcases List.mem_append.mp hr with hr | hr
    · exact wi_sm ht hc h.1 r hr
    · exact wi_sm ht hc h.2 r hr
  | .any a b, h, r, hr => by
    unfold Wi.ok at h
    rw [Bool.and_eq_true] at h
    rcases List.mem_append.mp hr with hr | hr
    · exact wi_sm ht hc h.1 r hr
    · exact wi_sm ht hc h.2 r hr
theorem pow_le {a b : Nat} (h : a ≤ b) : 2 ^ a ≤ 2 ^ b := Nat.pow_le_pow_right (by decide) h
theorem wi_len (t c : Tx) : ∀ w : Wi, (w.rgs t c).length ≤ 2 ^ w.depth
  | .word w => by unfold Wi.rgs Wi.depth; simp
  | .begins w => by unfold Wi.rgs Wi.depth; simp
  | .none a => by
    have := wi_len t c a
    have h1 : 1 ≤ 2 ^ a.depth := Nat.one_le_two_pow
    unfold Wi.rgs Wi.depth
    rw [List.length_cons, Nat.pow_succ]; omega
  | .all a b => by
    have h1 := wi_len t c a
    have h2 := wi_len t c b
    have h3 := pow_le (Nat.le_max_left a.depth b.depth)
    have h4 := pow_le (Nat.le_max_right a.depth b.depth)
    unfold Wi.rgs Wi.depth
    rw [List.length_append, Nat.pow_succ]; omega
  | .any a b => by
    have h1 := wi_len t c a
    have h2 := wi_len t c b
    have h3 := pow_le (Nat.le_max_left a.depth b.depth)
    have h4 := pow_le (Nat.le_max_right a.depth b.depth)
    unfold Wi.rgs Wi.depth
    rw [List.length_append, Nat.pow_succ]; omega
theorem plain_ints {is : List Int} (h : is.length ≤ 9000) {d : Nat} : plainD (d + 1) (intsT is) = true := by
  unfold intsT plainD
  rw [Bool.and_eq_true, decide_eq_true_eq, List.length_map, List.all_eq_true]
  refine ⟨by omega, fun x hx => ?_⟩
  obtain ⟨i, _, rfl⟩ := List.mem_map.mp hx
  cases d <;> rfl
theorem plain_rg {r : Rg} (h : r.sm) {d : Nat} : plainD (d + 2) r.pv = true := by
  unfold Rg.pv plainD
  rw [Bool.and_eq_true, decide_eq_true_eq]
  refine ⟨by simp, ?_⟩
  rw [List.all_cons, List.all_cons, plain_ints h.1, plain_ints h.2]; rfl
theorem plain_rgs {rs : List Rg} (h : ∀ r ∈ rs, r.sm) (hl : rs.length ≤ 9000) {d : Nat} : plainD (d + 3) (rgsPV rs) = true := by
  unfold rgsPV plainD
  rw [Bool.and_eq_true, decide_eq_true_eq, List.length_map, List.all_eq_true]
  refine ⟨by omega, fun x hx => ?_⟩
  obtain ⟨r, hr, rfl⟩ := List.mem_map.mp hx
  exact plain_rg (h r hr)
theorem plain_two {a b : PV} {d : Nat} (ha : plainD d a = true) (hb : plainD d b = true) : plainD (d + 1) (.lst [a, b]) = true := by
  unfold plainD
  rw [Bool.and_eq_true, decide_eq_true_eq]
  refine ⟨by simp, ?_⟩
  rw [List.all_cons, List.all_cons, ha, hb]; rfl
/-! ### each once -/
section
variable {α : Type} [DecidableEq α]
theorem foldR_mem : ∀ (rs us : List α) {r : α}, r ∈ rs.foldl addR us → r ∈ us ∨ r ∈ rs
  | [], us, r, h => .inl h
  | x :: rs, us, r, h => by
    rw [List.foldl_cons] at h
    rcases foldR_mem rs (addR us x) h with h | h
    · unfold addR at h
      split at h
      · exact .inl h
      · rcases List.mem_append.mp h with h | h
        · exact .inl h
        · rw [List.mem_singleton.mp h]; exact .inr List.mem_cons_self
    · exact .inr (List.mem_cons_of_mem _ h)
theorem onceR_mem {rs : List α} {r : α} (h : r ∈ onceR rs) : r ∈ rs := by
  rcases foldR_mem rs [] h with h | h
  · cases h
  · exact h
theorem foldR_len : ∀ (rs us : List α), (rs.foldl addR us).length ≤ us.length + rs.length
  | [], us => Nat.le_refl _
  | x :: rs, us => by
    have := foldR_len rs (addR us x)
    have := addR_len us x
    rw [List.foldl_cons, List.length_cons]; omega
theorem onceR_len (rs : List α) : (onceR rs).length ≤ rs.length := by
  have := foldR_len rs []
  simpa [onceR] using this
theorem foldR_nodup : ∀ (rs us : List α), us.Nodup → (rs.foldl addR us).Nodup
  | [], us, h => h
  | x :: rs, us, h => by
    rw [List.foldl_cons]
    refine foldR_nodup rs _ ?_
    unfold addR
    split
    · exact h
    · rename_i hx
      rw [List.nodup_append]
      refine ⟨h, List.pairwise_singleton _ _, fun a ha b hb => ?_⟩
      rw [List.mem_singleton.mp hb]
      exact fun e => hx (e ▸ ha)
theorem foldR_new : ∀ (rs us : List α), (us ++ rs).Nodup → rs.foldl addR us = us ++ rs
  | [], us, _ => (List.append_nil us).symm
  | x :: rs, us, h => by
    have hx : x ∉ us := fun z => by
      rw [List.nodup_append] at h
      exact h.2.2 x z x List.mem_cons_self rfl
    rw [List.foldl_cons, show addR us x = us ++ [x] from if_neg hx, foldR_new rs (us ++ [x]) (by rw [List.append_assoc]; exact h), List.append_assoc]
    rfl
theorem onceR_once (rs ts : List α) : onceR (onceR rs ++ ts) = onceR (rs ++ ts) := by
  unfold onceR
  rw [List.foldl_append, List.foldl_append, foldR_new _ [] (by rw [List.nil_append]; exact foldR_nodup rs [] List.nodup_nil), List.nil_append]
end
/-! ### the law's questions -/
theorem chain_rgs {s : Sch} {q : Qu} {t : Tx} {ps : List Pk} (h : q.chain = some (t, ps)) : q.rgs s = [rangeV (begV s (t, ps))] := by
  cases q with
  | table t' => cases h; rfl
  | pick q x o v =>
    show (match (Qu.pick q x o v).chain with | some c => [rangeV (begV s c)] | none => q.rgs s) = _
    rw [h]
  | _ => cases h
theorem begs_nil : ∀ cs : List Cl, begs [] cs = []
  | [] => rfl
  | c :: cs => rfl
structure SchA (s : Sch) (cs : List Cl) : Prop where
  so : SchOk s
  lk : s.lookup (tx "a") = some cs
  t : colOf cs (tx "t") = some ⟨tx "t", true⟩
  tm : tx "t" ∈ names cs
  n : colOf cs (tx "n") = some ⟨tx "n", false⟩
  nm : tx "n" ∈ names cs
  nd : (names cs).Nodup
  sh : ∀ y ∈ s, y.1.length ≤ 40
  len : cs.length ≤ 40
theorem sch1_A : SchA sch1 [⟨tx "n", false⟩, ⟨tx "t", true⟩] := ⟨sch1_ok, by decide, by decide, by decide, by decide, by decide, by decide, by decide, by decide⟩
theorem sch2_A : SchA sch2 [⟨tx "t", true⟩, ⟨tx "n", false⟩, ⟨tx "m", false⟩] := ⟨sch2_ok, by decide, by decide, by decide, by decide, by decide, by decide, by decide, by decide⟩
def clT : Cl := ⟨tx "t", true⟩
def clN : Cl := ⟨tx "n", false⟩
def clX : Cl := ⟨tx "x", false⟩
def clC : Cl := ⟨tx "count", false⟩
def qSearch (w : Wi) : Qu := .found (tx "a") (tx "t") w
def qOver (q : Qu) : Qu := .pick (.count q []) (tx "count") .eq (.num 3)
def qKeepN : Qu := .keep (.table (tx "a")) [tx "n"]
def qName : Qu := .name qKeepN (tx "n") (tx "x")
def qBoth (w : Wi) : Qu := .join (.keep (qSearch w) [tx "t"]) (.pick qName (tx "x") .eq (.num 2))
theorem search_ok {s : Sch} {cs : List Cl} (h : SchA s cs) {w : Wi} (hw : w.ok = true) (hd : w.depth ≤ 2) : (qSearch w).ok s ∧ (qSearch w).fin s ∧ (qSearch w).sound s ∧ (qSearch w).cols s = cs := by
  have ec : (qSearch w).cols s = cs := by unfold qSearch Qu.cols; rw [h.lk]; rfl
  refine ⟨⟨cs, _, h.lk, h.t, rfl, hw, by omega⟩, ?_, ⟨by decide, by decide, hw, by omega⟩, ec⟩
  show ClsOk ((qSearch w).cols s)
  rw [ec]
  exact ⟨h.nd, by have := h.len; omega⟩
theorem count_ok {s : Sch} {q : Qu} (hi : q.ok s) (hf : q.fin s) : (Qu.count q []).ok s ∧ (Qu.count q []).fin s ∧ (Qu.count q []).cols s = [clC] := by
  have ec : (Qu.count q []).cols s = [clC] := by unfold Qu.cols; rfl
  refine ⟨⟨hi, (fun _ h => nomatch h), List.nodup_nil, List.not_mem_nil⟩, ⟨?_, hf⟩, ec⟩
  rw [ec]
  exact ⟨by decide, by decide⟩
theorem over_ok {s : Sch} {q : Qu} (hi : q.ok s) (hf : q.fin s) : (qOver q).ok s ∧ (qOver q).fin s := by
  obtain ⟨a, b, c⟩ := count_ok hi hf
  have ec : (qOver q).cols s = [clC] := c
  refine ⟨⟨a, clC, ?_, by decide, rfl⟩, ?_, b⟩
  · rw [c]; decide
  · show ClsOk ((qOver q).cols s)
    rw [ec]
    exact ⟨by decide, by decide⟩
theorem both_ok {s : Sch} {cs : List Cl} (h : SchA s cs) {w : Wi} (hw : w.ok = true) (hd : w.depth ≤ 2) : (qBoth w).ok s ∧ (qBoth w).fin s ∧ (qBoth w).sound s := by
  obtain ⟨a1, a2, a3, a4⟩ := search_ok h hw hd
  have cT : pickC cs [tx "t"] = [clT] := by
    simp [pickC, h.t, clT]
  have cN : pickC cs [tx "n"] = [clN] := by
    simp [pickC, h.n, clN]
  have tc : (Qu.table (tx "a")).cols s = cs := by unfold Qu.cols; rw [h.lk]; rfl
  have k1 : (Qu.keep (qSearch w) [tx "t"]).cols s = [clT] := by
    show pickC ((qSearch w).cols s) [tx "t"] = _
    rw [a4, cT]
  have k2 : qKeepN.cols s = [clN] := by
    show pickC ((Qu.table (tx "a")).cols s) [tx "n"] = _
    rw [tc, cN]
  have k3 : qName.cols s = [clX] := by
    show renC (qKeepN.cols s) (tx "n") (tx "x") = _
    rw [k2]; decide
  have k4 : (Qu.pick qName (tx "x") .eq (.num 2)).cols s = [clX] := k3
  have k5 : (qBoth w).cols s = [clT, clX] := by
    show joinC ((Qu.keep (qSearch w) [tx "t"]).cols s) ((Qu.pick qName (tx "x") .eq (.num 2)).cols s) = _
    rw [k1, k4]; decide
  have ct : ClsOk ((Qu.table (tx "a")).cols s) := by rw [tc]; exact ⟨h.nd, by have := h.len; omega⟩
  refine ⟨⟨⟨a1, fun x hx => ?_, by decide, by decide⟩, ⟨⟨⟨⟨cs, h.lk⟩, fun x hx => ?_, by decide, by decide⟩, ?_, ?_, by decide⟩, clX, ?_, by decide, rfl⟩, ?_⟩, ⟨?_, ⟨?_, a2⟩, ?_, ?_, ?_, ct⟩, ⟨a3, ⟨cs, h.lk, by have := h.len; omega, by decide⟩, rfl⟩⟩
  · rw [List.mem_singleton.mp hx, a4]; exact h.tm
  · rw [List.mem_singleton.mp hx, tc]; exact h.nm
  · rw [k2]; decide
  · rw [k2]; decide
  · rw [k3]; decide
  · rw [k1, k4]; decide
  · rw [show (Qu.join (.keep (qSearch w) [tx "t"]) (.pick qName (tx "x") .eq (.num 2))).cols s = [clT, clX] from k5]; exact ⟨by decide, by decide⟩
  · rw [k1]; exact ⟨by decide, by decide⟩
  · rw [k4]; exact ⟨by decide, by decide⟩
  · show ClsOk (qName.cols s)
    rw [k3]; exact ⟨by decide, by decide⟩
  · show ClsOk (qKeepN.cols s)
    rw [k2]; exact ⟨by decide, by decide⟩
theorem k54_cell {s : Sch} {cs : List Cl} (h : SchA s cs) {n : Nat} (hn : 30 ≤ n) (d : Int) (e0 a3 a4 a5 a6 a7 a8 a9 a10 a11 a12 : Option Cell) : ∃ b3 b4 b5 b6 b7 b8 b9 b10 b11 b12,
    b_law_k54_1.ev (callN G n) [e0, some (.val (schPV s)), some (.val (.int d)), a3, a4, a5, a6, a7, a8, a9, a10, a11, a12] S = .nx [e0, some (.val (schPV s)), some (.val (.int d)), b3, b4, b5, b6, b7, b8, b9, b10, b11, b12] S := by
  obtain ⟨t1, c1, q1, p1, l1, k1, z1, f1⟩ := law_chain_ok (S := S) h.so h.sh d (m := n) (by omega)
  obtain ⟨t2, c2, q2, p2, l2, k2, z2, f2⟩ := law_chain_ok (S := S) h.so h.sh (d + 1) (m := n) (by omega)
  obtain ⟨w, w1, w2, w3⟩ := law_wish_ok (S := S) (d / 7) (m := n) (by omega)
  have g1 := chain_rgs (s := s) k1.chain
  have g2 := chain_rgs (s := s) k2.chain
  have dp1 : q1.depth ≤ 5 := by have := k1.depth; omega
  have dp2 : q2.depth ≤ 5 := by have := k2.depth; omega
  generalize hr1 : rangeV (begV s (t1, p1)) = R1 at f1 g1
  generalize hr2 : rangeV (begV s (t2, p2)) = R2 at f2 g2
  have sm1 : R1.sm := by
    rw [← hr1]
    have sh := chain_sound k1.chain k1.sound
    obtain ⟨⟨cs', x1, x2, x3⟩, x4⟩ := sh
    refine rangeV_sm (begV_short x3 x4) ?_
    unfold begV
    replace x1 : s.lookup t1 = some cs' := x1
    have := begs_len (ps := p1) (cs := cs')
    simp only [x1, Option.getD_some, List.length_cons]; omega
  have sm2 : R2.sm := by
    rw [← hr2]
    have sh := chain_sound k2.chain k2.sound
    obtain ⟨⟨cs', x1, x2, x3⟩, x4⟩ := sh
    refine rangeV_sm (begV_short x3 x4) ?_
    unfold begV
    replace x1 : s.lookup t2 = some cs' := x1
    have := begs_len (ps := p2) (cs := cs')
    simp only [x1, Option.getD_some, List.length_cons]; omega
  have o1 : onceR [R1] = [R1] := rfl
  have o2 : onceR [R2] = [R2] := rfl
  have o11 : onceR [R1, R1] = [R1] := by show addR [R1] R1 = _; unfold addR; rw [if_pos List.mem_cons_self]
  -- the needs
  have n1 := needs_ok (S := S) k1.inv.ok k1.inv.fin k1.sound (by omega) (by rw [g1]; simp) (m := n) (by omega)
  have n2 := needs_ok (S := S) k2.inv.ok k2.inv.fin k2.sound (by omega) (by rw [g2]; simp) (m := n) (by omega)
  rw [g1, o1] at n1
  rw [g2, o2] at n2
  have wl := wi_len (tx "a") (tx "t") w
  have wl2 : 2 ^ w.depth ≤ 2 ^ 2 := pow_le w2
  obtain ⟨s1, s2, s3, s4⟩ := search_ok h w1 w2
  have n3 := needs_ok (S := S) s1 s2 s3 (by show 1 ≤ 12; decide) (by show (w.rgs (tx "a") (tx "t")).length ≤ 10000; omega) (m := n) (by show 1 + 16 ≤ n; omega)
  replace n3 : callN G n .needs [(qSearch w).pv, schPV s] S = .ok (rgsPV (onceR (w.rgs (tx "a") (tx "t")))) S := n3
  obtain ⟨v1, v2⟩ := over_ok k1.inv.ok k1.inv.fin
  have n4 := needs_ok (S := S) (q := qOver q1) v1 v2 ⟨k1.sound, rfl⟩ (by show q1.depth + 1 + 1 ≤ 12; omega) (by show (q1.rgs s).length ≤ 10000; rw [g1]; simp) (m := n) (by show q1.depth + 1 + 1 + 16 ≤ n; omega)
  replace n4 : callN G n .needs [(qOver q1).pv, schPV s] S = .ok (rgsPV (onceR (q1.rgs s))) S := n4
  rw [g1, o1] at n4
  obtain ⟨b1, b2, b3⟩ := both_ok h w1 w2
  have rb : (qBoth w).rgs s = w.rgs (tx "a") (tx "t") ++ [rangeV [.txt (tx "t"), .txt (tx "a")]] := by
    show w.rgs (tx "a") (tx "t") ++ [rangeV (begV s (tx "a", []))] = _
    have : begV s (tx "a", []) = [.txt (tx "t"), .txt (tx "a")] := by
      unfold begV
      rw [begs_nil]
    rw [this]
  have n5 := needs_ok (S := S) b1 b2 b3 (by show max 2 4 + 1 ≤ 12; decide) (by rw [rb]; simp; omega) (m := n) (by show max 2 4 + 1 + 16 ≤ n; omega)
  rw [rb] at n5
  obtain ⟨u1, u2, u3⟩ := count_ok k1.inv.ok k1.inv.fin
  obtain ⟨y1, y2, y3⟩ := count_ok k2.inv.ok k2.inv.fin
  have n6 := needs_ok (S := S) (s := s) (q := .unite (.count q1 []) (.count q1 [])) ⟨u1, u1, rfl⟩ ⟨by show ClsOk ((Qu.count q1 []).cols s); rw [u3]; exact ⟨by decide, by decide⟩, u2, u2⟩ ⟨k1.sound, k1.sound⟩ (by show max (q1.depth + 1) (q1.depth + 1) + 1 ≤ 12; omega) (by show (q1.rgs s ++ q1.rgs s).length ≤ 10000; rw [g1]; simp) (m := n) (by show max (q1.depth + 1) (q1.depth + 1) + 1 + 16 ≤ n; omega)
  rw [show (Qu.unite (.count q1 []) (.count q1 [])).rgs s = q1.rgs s ++ q1.rgs s from rfl, g1] at n6
  replace n6 : callN G n .needs [(Qu.unite (.count q1 []) (.count q1 [])).pv, schPV s] S = .ok (rgsPV [R1]) S := by rw [← o11]; exact n6
  have n7 := needs_ok (S := S) (s := s) (q := .less (.count q1 []) (.count q2 [])) ⟨u1, y1, by rw [u3, y3]⟩ ⟨by show ClsOk ((Qu.count q1 []).cols s); rw [u3]; exact ⟨by decide, by decide⟩, u2, y2⟩ ⟨k1.sound, k2.sound⟩ (by show max (q1.depth + 1) (q2.depth + 1) + 1 ≤ 12; omega) (by show (q1.rgs s ++ q2.rgs s).length ≤ 10000; rw [g1, g2]; simp) (m := n) (by show max (q1.depth + 1) (q2.depth + 1) + 1 + 16 ≤ n; omega)
  rw [show (Qu.less (.count q1 []) (.count q2 [])).rgs s = q1.rgs s ++ q2.rgs s from rfl, g1, g2, show [R1] ++ [R2] = [R1, R2] from rfl] at n7
  -- the law's own
  have wr := wish_ranges_ok (S := S) (t := tx "a") (c := tx "t") (by decide) (by decide) w w1 (by omega) n (by omega)
  have lo1 := law_once_ok (S := S) (w.rgs (tx "a") (tx "t")) (by omega) (m := n) (by omega)
  have ol := onceR_len (w.rgs (tx "a") (tx "t"))
  have ra := range_of_ok (S := S) (vs := [.txt (tx "t"), .txt (tx "a")]) (by decide) (by simp) (m := n) (by omega)
  have ad := add_rgs (onceR (w.rgs (tx "a") (tx "t"))) [rangeV [.txt (tx "t"), .txt (tx "a")]] (by simp; omega)
  have lo2 := law_once_ok (S := S) (onceR (w.rgs (tx "a") (tx "t")) ++ [rangeV [.txt (tx "t"), .txt (tx "a")]]) (by simp; omega) (m := n) (by omega)
  rw [onceR_once] at lo2
  have lo3 := law_once_ok (S := S) [R1, R2] (by simp) (m := n) (by omega)
  -- the comparisons
  have smw : ∀ r ∈ onceR (w.rgs (tx "a") (tx "t")), r.sm := fun r hr => wi_sm (by decide) (by decide) w1 r (onceR_mem hr)
  have sma : ∀ r ∈ onceR (w.rgs (tx "a") (tx "t") ++ [rangeV [.txt (tx "t"), .txt (tx "a")]]), r.sm := fun r hr => by
    rcases List.mem_append.mp (onceR_mem hr) with hr | hr
    · exact wi_sm (by decide) (by decide) w1 r hr
    · rw [List.mem_singleton.mp hr]; exact rangeV_sm (by decide) (by simp)
  have sm12 : ∀ r ∈ onceR [R1, R2], r.sm := fun r hr => by
    have := onceR_mem hr
    simp only [List.mem_cons, List.not_mem_nil, or_false] at this
    rcases this with rfl | rfl
    · exact sm1
    · exact sm2
  have one1 : plainD 3 (rgsPV [R1]) = true := plain_rgs (d := 0) (fun r hr => by rw [List.mem_singleton.mp hr]; exact sm1) (by simp)
  have one2 : plainD 3 (rgsPV [R2]) = true := plain_rgs (d := 0) (fun r hr => by rw [List.mem_singleton.mp hr]; exact sm2) (by simp)
  have len2 := onceR_len (w.rgs (tx "a") (tx "t") ++ [rangeV [.txt (tx "t"), .txt (tx "a")]])
  have len3 := onceR_len [R1, R2]
  simp only [List.length_append, List.length_cons, List.length_nil] at len2 len3
  have q1' := same_refl (S := S) 4 _ (plain_two one1 one2) (n - 1) (by omega)
  have q2' := same_refl (S := S) 3 _ (plain_rgs (d := 0) smw (by omega)) (n - 1) (by omega)
  have q3' := same_refl (S := S) 4 _ (plain_two one1 (plain_rgs (d := 0) sma (by omega))) (n - 1) (by omega)
  have q4' := same_refl (S := S) 4 _ (plain_two one1 (plain_rgs (d := 0) sm12 (by omega))) (n - 1) (by omega)
  rw [show n - 1 + 1 = n by omega] at q1' q2' q3' q4'
  have e1 : rgsPV [R1] = .lst [R1.pv] := rfl
  have e2 : rgsPV [R2] = .lst [R2.pv] := rfl
  replace ra : callN G n .range_of [.tup [.str (tx "t"), .str (tx "a")]] S = _ := ra
  have e3 : rgsPV [rangeV [.txt (tx "t"), .txt (tx "a")]] = .lst [(rangeV [.txt (tx "t"), .txt (tx "a")]).pv] := rfl
  have e4 : rgsPV [R1, R2] = .lst [R1.pv, R2.pv] := rfl
  generalize rangeV [.txt (tx "t"), .txt (tx "a")] = RA at *
  generalize hW : onceR (w.rgs (tx "a") (tx "t")) = WR at *
  generalize hD : onceR (w.rgs (tx "a") (tx "t") ++ [RA]) = DR at *
  generalize hT : onceR [R1, R2] = TR at *
  rw [e1] at n1 n4 n6 q1' q3' q4'
  rw [e2] at n2 q1'
  rw [e3] at ad
  rw [e4] at lo3
  refine ⟨some (.val (.lst [q1.pv, R1.pv])), some (.val (.lst [q2.pv, R2.pv])), some (.val w.pv), some (.val (qSearch w).pv), some (.val (rgsPV WR)), some (.val (qOver q1).pv), some (.val (qBoth w).pv), some (.val (rgsPV DR)), some (.val (Qu.unite (.count q1 []) (.count q1 [])).pv), some (.val (Qu.less (.count q1 []) (.count q2 [])).pv), ?_⟩
  unfold b_law_k54_1
  rw [stms_nx (stm_asg (p := .lst [q1.pv, R1.pv]) (S1 := S) (by simp [f1]) rfl)]
  rw [stms_nx (stm_asg (p := .lst [q2.pv, R2.pv]) (S1 := S) (by simp [int_int, add_int, f2]) rfl)]
  refine (stms_nx (ρ1 := [e0, some (.val (schPV s)), some (.val (.int d)), some (.val (.lst [q1.pv, R1.pv])), some (.val (.lst [q2.pv, R2.pv])), a5, a6, a7, a8, a9, a10, a11, a12]) (S1 := S) (by simp [idx_l0, idx_l1, n1, n2, q1'])).trans ?_
  rw [stms_nx (stm_asg (p := w.pv) (S1 := S) (by simp [int_int, fdiv_int, w3]) rfl)]
  rw [stms_nx (stm_asg (p := (qSearch w).pv) (S1 := S) (by simp [qSearch, Qu.pv]) rfl)]
  rw [stms_nx (stm_asg (p := rgsPV WR) (S1 := S) (by simp [wr, lo1]) rfl)]
  refine (stms_nx (ρ1 := [e0, some (.val (schPV s)), some (.val (.int d)), some (.val (.lst [q1.pv, R1.pv])), some (.val (.lst [q2.pv, R2.pv])), some (.val w.pv), some (.val (qSearch w).pv), some (.val (rgsPV WR)), a8, a9, a10, a11, a12]) (S1 := S) (by simp [n3, q2'])).trans ?_
  rw [stms_nx (stm_asg (p := (qOver q1).pv) (S1 := S) (by simp [qOver, Qu.pv, idx_l0, strsPV, Cp.t, Vl.pv]) rfl)]
  rw [stms_nx (stm_asg (p := (qBoth w).pv) (S1 := S) (by simp [qBoth, qName, qKeepN, Qu.pv, idx_l0, strsPV, Cp.t, Vl.pv]) rfl)]
  rw [stms_nx (stm_asg (p := rgsPV DR) (S1 := S) (by simp [ra, ad, lo2]) rfl)]
  refine (stms_nx (ρ1 := [e0, some (.val (schPV s)), some (.val (.int d)), some (.val (.lst [q1.pv, R1.pv])), some (.val (.lst [q2.pv, R2.pv])), some (.val w.pv), some (.val (qSearch w).pv), some (.val (rgsPV WR)), some (.val (qOver q1).pv), some (.val (qBoth w).pv), some (.val (rgsPV DR)), a11, a12]) (S1 := S) (by simp [idx_l1, n4, n5, q3'])).trans ?_
  rw [stms_nx (stm_asg (p := (Qu.unite (.count q1 []) (.count q1 [])).pv) (S1 := S) (by simp [Qu.pv, idx_l0, strsPV]) rfl)]
  rw [stms_nx (stm_asg (p := (Qu.less (.count q1 []) (.count q2 [])).pv) (S1 := S) (by simp [Qu.pv, idx_l0, strsPV]) rfl)]
  refine (stms_nx (ρ1 := [e0, some (.val (schPV s)), some (.val (.int d)), some (.val (.lst [q1.pv, R1.pv])), some (.val (.lst [q2.pv, R2.pv])), some (.val w.pv), some (.val (qSearch w).pv), some (.val (rgsPV WR)), some (.val (qOver q1).pv), some (.val (qBoth w).pv), some (.val (rgsPV DR)), some (.val (Qu.unite (.count q1 []) (.count q1 [])).pv), some (.val (Qu.less (.count q1 []) (.count q2 [])).pv)]) (S1 := S) (by simp [idx_l1, n6, n7, lo3, q4'])).trans ?_
  rfl
theorem k54_loop {s : Sch} {cs : List Cl} (h : SchA s cs) {n : Nat} (hn : 30 ≤ n) (e0 : Option Cell) : ∀ (ds : List Int) (a2 a3 a4 a5 a6 a7 a8 a9 a10 a11 a12 : Option Cell), ∃ b2 b3 b4 b5 b6 b7 b8 b9 b10 b11 b12,
    forL (.nm 2) (fun ρ S => b_law_k54_1.ev (callN G n) ρ S) (ds.map .int) [e0, some (.val (schPV s)), a2, a3, a4, a5, a6, a7, a8, a9, a10, a11, a12] S = .nx [e0, some (.val (schPV s)), b2, b3, b4, b5, b6, b7, b8, b9, b10, b11, b12] S
  | [], a2, a3, a4, a5, a6, a7, a8, a9, a10, a11, a12 => ⟨a2, a3, a4, a5, a6, a7, a8, a9, a10, a11, a12, rfl⟩
  | d :: ds, a2, a3, a4, a5, a6, a7, a8, a9, a10, a11, a12 => by
    obtain ⟨b3, b4, b5, b6, b7, b8, b9, b10, b11, b12, st⟩ := k54_cell (S := S) h hn d e0 a3 a4 a5 a6 a7 a8 a9 a10 a11 a12
    obtain ⟨c2, c3, c4, c5, c6, c7, c8, c9, c10, c11, c12, k⟩ := k54_loop h hn e0 ds (some (.val (.int d))) b3 b4 b5 b6 b7 b8 b9 b10 b11 b12
    refine ⟨c2, c3, c4, c5, c6, c7, c8, c9, c10, c11, c12, ?_⟩
    rw [List.map_cons]
    unfold forL
    simp only [sv_bnm, List.set_cons_zero, List.set_cons_succ, st]
    exact k
theorem k54_run {n : Nat} (hn : 30 ≤ n) (ns : List Int) (hl : ns.length ≤ 63) : callN G (n + 1) .law_k54 [.lst (ns.map .int)] [] = .ok (.bl true) [] := by
  rw [callN_eq G n _ _ _ (d := d_law_k54) rfl, run_eq _ _ _ _ rfl]
  obtain ⟨d, e1⟩ := law_cell_ok (S := []) ns 0 (m := n) (by omega)
  replace e1 : callN G n .law_cell [.lst (ns.map .int), .int 0] [] = _ := e1
  obtain ⟨s, hs, _, e2⟩ := law_schema_ok (S := []) d (m := n) (by omega)
  obtain ⟨cs, ha⟩ : ∃ cs, SchA s cs := by
    rcases hs with rfl | rfl
    · exact ⟨_, sch1_A⟩
    · exact ⟨_, sch2_A⟩
  have e3 : BO.ev .add (.lst [.int 0, .int 1, .int 2, .int 3, .int 4]) (.lst (ns.map .int)) = some (.lst (([0, 1, 2, 3, 4] ++ ns).map .int)) := by
    rw [addL (decide_eq_true (by rw [List.length_map]; show 5 + ns.length ≤ 16777216; omega)), List.map_append]
    rfl
  obtain ⟨b2, b3, b4, b5, b6, b7, b8, b9, b10, b11, b12, k⟩ := k54_loop (S := []) ha hn (some (.val (.lst (ns.map .int)))) ([0, 1, 2, 3, 4] ++ ns) none none none none none none none none none none none
  have l1 : B1.ev .list (.lst (ns.map .int)) = some (.lst (ns.map .int)) := rfl
  generalize [0, 1, 2, 3, 4] ++ ns = zs at e3 k
  show (d_law_k54.body.ev (callN G n) [some (.val (.lst (ns.map .int))), none, none, none, none, none, none, none, none, none, none, none, none] []).fin = _
  unfold d_law_k54
  rw [stms_nx (stm_asg (p := schPV s) (S1 := []) (by simp [e1, e2]) rfl)]
  rw [stms_nx (ρ1 := [some (.val (.lst (ns.map .int))), some (.val (schPV s)), b2, b3, b4, b5, b6, b7, b8, b9, b10, b11, b12]) (S1 := []) (by
    rw [stm_for (xs := zs.map .int) (S1 := []) (by simp [l1, e3])]
    exact k)]
  rfl
theorem k54_law (ns : List Int) (hl : ns.length ≤ 63) : callN G 31 .law_k54 [.lst (ns.map .int)] [] = .ok (.bl true) [] := k54_run (Nat.le_refl 30) ns hl
end A3

-- TK54
set_option maxRecDepth 100000
set_option maxHeartbeats 4000000
namespace A3.K54
open PySem
def rows : List Row := [
  ⟨"is_number", .is_number, 6, 2, ["value", "most"], []⟩,
  ⟨"is_text", .is_text, 7, 1, ["value", "one"], []⟩,
  ⟨"kind_of", .kind_of, 8, 1, ["value"], []⟩,
  ⟨"is_name", .is_name, 12, 1, ["value", "one"], []⟩,
  ⟨"are_unlike", .are_unlike, 13, 1, ["names"], []⟩,
  ⟨"columns_of", .columns_of, 14, 2, ["schema", "name", "table", "columns"], []⟩,
  ⟨"place_of", .place_of, 15, 2, ["columns", "name", "place", "column"], []⟩,
  ⟨"value_octets", .value_octets, 17, 1, ["value", "sign"], []⟩,
  ⟨"body", .body, 18, 1, ["values", "octets", "value"], []⟩,
  ⟨"range_of", .range_of, 19, 1, ["values", "start"], []⟩,
  ⟨"range_of_text", .range_of_text, 20, 2, ["values", "beginning", "start", "sign"], []⟩,
  ⟨"is_word", .is_word, 23, 1, ["value", "sign"], []⟩,
  ⟨"is_word_wish", .is_word_wish, 27, 1, ["value"], []⟩,
  ⟨"is_deep_wish", .is_deep_wish, 28, 2, ["value", "deep", "part"], []⟩,
  ⟨"is_wish", .is_wish, 29, 1, ["value"], []⟩,
  ⟨"wish_ranges", .wish_ranges, 30, 3, ["wish", "table", "column", "ranges", "part", "kind", "inner"], []⟩,
  ⟨"refuse_if", .refuse_if, 34, 2, ["wrong", "reason"], []⟩,
  ⟨"needed", .needed, 35, 2, ["columns", "name", "place"], []⟩,
  ⟨"table_columns", .table_columns, 36, 2, ["schema", "name", "columns"], []⟩,
  ⟨"chosen", .chosen, 37, 2, ["columns", "names", "places", "name", "place"], []⟩,
  ⟨"renamed", .renamed, 38, 3, ["columns", "old", "new", "place"], []⟩,
  ⟨"both_columns", .both_columns, 39, 2, ["first", "second", "common", "column"], []⟩,
  ⟨"with_number", .with_number, 40, 2, ["columns", "name"], []⟩,
  ⟨"picked_columns", .picked_columns, 41, 4, ["columns", "name", "comparison", "value"], []⟩,
  ⟨"same_columns", .same_columns, 42, 3, ["columns", "name", "other"], []⟩,
  ⟨"summed_columns", .summed_columns, 43, 3, ["columns", "names", "name", "kept"], []⟩,
  ⟨"found_columns", .found_columns, 44, 4, ["schema", "table", "name", "wish", "columns"], []⟩,
  ⟨"kept_columns", .kept_columns, 45, 2, ["columns", "names"], []⟩,
  ⟨"columns", .columns, 46, 2, ["question", "schema"], []⟩,
  ⟨"deep_columns", .deep_columns, 47, 3, ["question", "schema", "deep", "name", "table", "wish", "part", "comparison", "value", "other", "names", "old", "new", "first", "second", "found"], []⟩,
  ⟨"unlike", .unlike, 49, 1, ["rows", "row"], []⟩,
  ⟨"chain_of", .chain_of, 51, 1, ["question", "name", "part", "pick", "chain"], []⟩,
  ⟨"wanted_value", .wanted_value, 52, 2, ["picks", "name", "column", "comparison", "value"], []⟩,
  ⟨"beginning_of", .beginning_of, 53, 2, ["chain", "schema", "values", "table", "picks", "name", "_", "wanted"], [2]⟩,
  ⟨"ranges_of", .ranges_of, 54, 2, ["question", "schema", "chain", "table", "name", "wish", "first", "second"], []⟩,
  ⟨"needs", .needs, 55, 2, ["question", "schema"], []⟩,
  ⟨"_law_cell", .law_cell, 57, 2, ["_law_script", "_law_k"], []⟩,
  ⟨"_law_draws", .law_draws, 58, 2, ["_law_cell_here", "_law_many", "_law_rows", "_law_rest", "_law_state", "_law_k"], [2]⟩,
  ⟨"_law_same", .law_same, 59, 2, ["_law_told", "_law_due", "_law_k"], []⟩,
  ⟨"_law_schema", .law_schema_1, 60, 1, ["_law_n", "_law_first"], []⟩,
  ⟨"_law_value", .law_value, 61, 2, ["_law_kind", "_law_n"], []⟩,
  ⟨"_law_once", .law_once, 67, 1, ["_law_rows", "_law_found", "_law_row_here"], [1]⟩,
  ⟨"_law_wish", .law_wish, 70, 1, ["_law_n", "_law_words_here", "_law_first", "_law_other", "_law_kind"], []⟩,
  ⟨"_law_chain", .law_chain, 71, 2, ["_law_schema_here", "_law_cell_here", "_law_draws_here", "_law_table_here", "_law_question", "_law_picks", "_law_k", "_law_values", "_law_column", "_law_comparison", "_law_value_here", "_law_wanted", "_law_pick"], [5]⟩,
  ⟨"law", .law_k54, 72, 1, ["_law_script", "_law_schema_here", "_law_cell_here", "_law_first", "_law_second", "_law_wish_here", "_law_search", "_law_ranges", "_law_over", "_law_both", "_law_due", "_law_same_here", "_law_two"], []⟩]
def L : LawT := ⟨PySem.Challenge.pw_askedthen_k54_needs_by_the_letter, rows, ["list", "int", "tuple", "isinstance", "str", "ord", "len", "set", "enumerate", "any", "all", "bool", "range", "min"], [("MOST_DEEP_questions", .int 12), ("MOST_NAME", .int 8), ("LETTERS_schemas", .str [97, 98, 99, 100, 101, 102, 103, 104, 105, 106, 107, 108, 109, 110, 111, 112, 113, 114, 115, 116, 117, 118, 119, 120, 121, 122]), ("COMPARISONS", .tup [.str [61], .str [60, 62], .str [60], .str [62]]), ("MOST_NUMBER", .int 999999), ("MOST_TEXT", .int 40), ("MOST_DEEP_wishes", .int 6), ("MOST_PARTS", .int 6), ("LETTERS_words", .str [97, 98, 99, 100, 101, 102, 103, 104, 105, 106, 107, 108, 109, 110, 111, 112, 113, 114, 115, 116, 117, 118, 119, 120, 121, 122, 48, 49, 50, 51, 52, 53, 54, 55, 56, 57])]⟩
end A3.K54

-- Hd54
set_option Elab.async false
set_option linter.all false
set_option maxRecDepth 100000
set_option maxHeartbeats 0
namespace A3.K54
open PySem PySem.Spec PyProof.Rows L2
theorem ok : L.Ok G := ⟨by kernel_rfl, by kernel_rfl, by kernel_rfl⟩
abbrev Rw : PySem.W.OpenRow := PySem.W.OpenLaw.row PySem.Challenge.rw_askedthen_k54_needs_by_the_letter
abbrev hk : PySem.W.Hook := L.hook 4
def ob (s : PySem.W.SharedT) : AlP := L.obsG 4 (HandSHeadRun.getT s)
theorem ob_eq (s : PySem.W.SharedT) : ob s = hk.obs s.abs := LawT.obsG_eq (HandSHeadRun.getT_eq s)
def loose0 : List Str := ["__name__", "AskError", "BadQuestion", "MOST_NUMBER", "MOST_TEXT", "is_number", "is_text", "kind_of", "MOST_NAME", "LETTERS_schemas", "is_name", "are_unlike", "columns_of", "place_of", "value_octets", "body", "range_of", "range_of_text", "LETTERS_words", "is_word", "MOST_PARTS", "MOST_DEEP_wishes", "is_word_wish", "is_deep_wish", "is_wish", "wish_ranges", "COMPARISONS", "MOST_DEEP_questions", "refuse_if", "needed"]
def loose1 : List Str := ["table_columns", "chosen", "renamed", "both_columns", "with_number", "picked_columns", "same_columns", "summed_columns", "found_columns", "kept_columns", "columns", "deep_columns", "unlike", "chain_of", "wanted_value", "beginning_of", "ranges_of", "needs", "_law_cell", "_law_draws", "_law_same", "_law_schema", "_law_value", "_law_row", "_law_points", "_law_table", "_law_deed", "_law_sorted", "_law_once", "_law_words"]
def loose2 : List Str := ["_law_fulfils", "_law_wish", "_law_chain"]
def loose : List Str := loose0 ++ loose1 ++ loose2
theorem run (w : World) : HandSHeadRun.RunEq Rw (PySem.W.view Rw.prog [72]) hk ob 4000 loose w := by
  intro os
  kernel_rfl
end A3.K54

-- Fin54
set_option Elab.async false
set_option linter.all false
set_option maxRecDepth 100000
set_option maxHeartbeats 0
open PySem PySem.W PySem.Calls PyProof.Rows
theorem PySem.Challenge.cw_askedthen_k54_needs_by_the_letter_holds : PySem.Challenge.rw_askedthen_k54_needs_by_the_letter.Holds := by
  w_on; o_law
  refine HandSHeadRun.head_any (r := OpenLaw.row PySem.Challenge.rw_askedthen_k54_needs_by_the_letter) (q := view (OpenLaw.row PySem.Challenge.rw_askedthen_k54_needs_by_the_letter).prog [72]) (H := A3.K54.hk) (ob := A3.K54.ob) (M := 4000) (loose := A3.K54.loose) (d := HandSHeadRun.topDef (OpenLaw.row PySem.Challenge.rw_askedthen_k54_needs_by_the_letter).prog 72) (kwd := []) A3.K54.ob_eq
    (by kernel_rfl) (fun s => by kernel_rfl) A3.K54.run (by kernel_rfl) (by kernel_rfl) (by kernel_rfl) (by rfl) (by first | assumption | decide +kernel) (by decide +kernel) ⟨rfl, rfl, rfl, rfl, rfl, by decide +kernel⟩ ?hw ?hc
  case hw => w_witness2
  case hc =>
    refine L2.walk_ofE (l := PySem.Challenge.rw_askedthen_k54_needs_by_the_letter) (n := 63) (k := 62) (x := "_law_script") (CX := L2.CX0) rfl (by decide) (by kernel_rfl) ⟨rfl, by decide, by decide⟩ ?F (fun _ _ _ _ z => z)
    intro w mg fa h Y G hmg0
    have hmg : mg ("law" : PySem.Str) = some (.ref fa) := by
      have e : (HandSHeadRun.topDef (OpenLaw.row PySem.Challenge.rw_askedthen_k54_needs_by_the_letter).prog 72).name = ("law" : PySem.Str) := by kernel_rfl
      rw [← e]
      exact hmg0
    exact A3.LawT.law_facts (r := A3.K54.rows.getLast (by decide)) A3.K54.ok (List.getLast_mem _) rfl rfl A3.k54_law (by decide) Y G hmg
